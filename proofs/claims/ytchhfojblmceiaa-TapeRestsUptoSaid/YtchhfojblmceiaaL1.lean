/-
  Walks: what functions of the program answer, as functions.
-/
import Derived.Test.YtchhfojblmceiaaCl
import Derived.Test.YtchhfojblmceiaaU0
import Derived.Test.YtchhfojblmceiaaU1
import Derived.Test.YtchhfojblmceiaaUr
import Derived.Test.YtchhfojblmceiaaU2
namespace Go.Proofs.Ytchhfojblmceiaa
open Go Go.Vc Go.RowKit
set_option maxRecDepth 100000
set_option maxHeartbeats 4000000
noncomputable def g53_m1 (x0 : Int) (x1 : Int) (x2 : Sl T68) : Bool := (bif (decide (x0 < 0)) then true else (bif (decide (x1 < 0)) then true else (bif (decide (x1 > 1048576)) then true else (bif (!((x0 == 0) == (x1 == 0))) then true else (bif (decide ((x2.n : Int) > 200)) then true else (decide (x0 > (IntKind.i64.wrap (1048576 - (x2.n : Int))))))))))
noncomputable def g53_m2 (x2 : Sl T68) (v7_2 : Int) : Bool := (bif ((g51 (x2.at' (Int.toNat v7_2)).c0 (x2.at' (Int.toNat v7_2)).c1 (x2.at' (Int.toNat v7_2)).c2 (x2.at' (Int.toNat v7_2)).c3 (x2.at' (Int.toNat v7_2)).c4 (x2.at' (Int.toNat v7_2)).c5 (x2.at' (Int.toNat v7_2)).c6 (x2.at' (Int.toNat v7_2)).c7 (x2.at' (Int.toNat v7_2)).c8 (x2.at' (Int.toNat v7_2)).c9) != 0) then true else false)
noncomputable def g53_m3 (x2 : Sl T68) (v7_0 : Int) (v7_2 : Int) : Bool := (bif ((g51 (x2.at' (Int.toNat v7_2)).c0 (x2.at' (Int.toNat v7_2)).c1 (x2.at' (Int.toNat v7_2)).c2 (x2.at' (Int.toNat v7_2)).c3 (x2.at' (Int.toNat v7_2)).c4 (x2.at' (Int.toNat v7_2)).c5 (x2.at' (Int.toNat v7_2)).c6 (x2.at' (Int.toNat v7_2)).c7 (x2.at' (Int.toNat v7_2)).c8 (x2.at' (Int.toNat v7_2)).c9) != 0) then true else (decide ((x2.at' (Int.toNat v7_2)).c0 < v7_0)))
noncomputable def g53_m4 (x2 : Sl T68) (v7_0 : Int) (v7_2 : Int) : Bool := (bif ((g51 (x2.at' (Int.toNat v7_2)).c0 (x2.at' (Int.toNat v7_2)).c1 (x2.at' (Int.toNat v7_2)).c2 (x2.at' (Int.toNat v7_2)).c3 (x2.at' (Int.toNat v7_2)).c4 (x2.at' (Int.toNat v7_2)).c5 (x2.at' (Int.toNat v7_2)).c6 (x2.at' (Int.toNat v7_2)).c7 (x2.at' (Int.toNat v7_2)).c8 (x2.at' (Int.toNat v7_2)).c9) != 0) then true else (bif (decide ((x2.at' (Int.toNat v7_2)).c0 < v7_0)) then true else false))
noncomputable def g53_m5 (x2 : Sl T68) (v7_0 : Int) (v7_1 : Int) (v7_2 : Int) : Bool := (bif ((g51 (x2.at' (Int.toNat v7_2)).c0 (x2.at' (Int.toNat v7_2)).c1 (x2.at' (Int.toNat v7_2)).c2 (x2.at' (Int.toNat v7_2)).c3 (x2.at' (Int.toNat v7_2)).c4 (x2.at' (Int.toNat v7_2)).c5 (x2.at' (Int.toNat v7_2)).c6 (x2.at' (Int.toNat v7_2)).c7 (x2.at' (Int.toNat v7_2)).c8 (x2.at' (Int.toNat v7_2)).c9) != 0) then true else (bif (decide ((x2.at' (Int.toNat v7_2)).c0 < v7_0)) then true else (decide ((x2.at' (Int.toNat v7_2)).c1 < v7_1))))
noncomputable def g53_l7 (x2 : Sl T68) : Nat → Int → Int → Int → Bool × Int
  | 0, _, _, _ => default
  | k + 1, v7_0, v7_1, v7_2 => (bif (decide (v7_2 < (x2.n : Int))) then (bif (g53_m5 x2 v7_0 v7_1 v7_2) then (true, 13) else (g53_l7 x2 k (x2.at' (Int.toNat v7_2)).c0 (x2.at' (Int.toNat v7_2)).c1 (IntKind.i64.wrap (v7_2 + 1)))) else (false, default))
noncomputable def g53_r6 (x1 : Int) (x2 : Sl T68) : Bool × Int := g53_l7 x2 ((Int.toNat ((x2.n : Int) - 0)) + 1) x1 0 0
noncomputable def g53_p7 (x1 : Int) (x2 : Sl T68) : Bool := (bif (g53_r6 x1 x2).1 then false else true)
noncomputable def g53 (x0 : Int) (x1 : Int) (x2 : Sl T68) : Int := (bif (g53_m1 x0 x1 x2) then 13 else (bif (g53_p7 x1 x2) then 0 else (g53_r6 x1 x2).2))
noncomputable abbrev g53_e : Env := mkE [(51, s51)]
theorem g53_e_ok : g53_e.Ok := mkE_ok ⟨k51, trivial⟩
theorem pc53 (x0 : Int) (x1 : Int) (x2 : Sl T68) : PureCall Try.prog 53 [.agg [.int .i64 x0, .int .i64 x1, ofSl 10 e68 x2]] (.int .i64 (g53 x0 x1 x2)) := by
  refine PureCall.fine fun hf => ?_
  have hf_x2 : Fine (ofSl 10 e68 x2) := hf.1.2.2.1
  have hn_x2 : x2.n ≤ 549755813888 := hf_x2.len
  refine pure_of_WP (E := g53_e) g53_e_ok Try.func53 rfl _ _ ?_
  refine WP.step0 g53_e_ok ⟨U :: .ptr 0 0 :: .int .i64 0 :: us 70 [], [[.int .i64 x0, .int .i64 x1, ofSl 10 e68 x2]]⟩ (by kernel_rfl) ?_
  refine WP.seq ?_
  refine WP.stepM g53_e_ok (fun a : Bool => ⟨U :: .ptr 0 0 :: .int .i64 0 :: us 40 (.bool a :: us 29 []), [[.int .i64 x0, .int .i64 x1, ofSl 10 e68 x2]]⟩) (g53_m1 x0 x1 x2) (fun K => (((decide (x0 < 0)) = true → K true) ∧ ((decide (x0 < 0)) = false → (((decide (x1 < 0)) = true → K true) ∧ ((decide (x1 < 0)) = false → (((decide (x1 > 1048576)) = true → K true) ∧ ((decide (x1 > 1048576)) = false → (((!((x0 == 0) == (x1 == 0))) = true → K true) ∧ ((!((x0 == 0) == (x1 == 0))) = false → (((decide ((x2.n : Int) > 200)) = true → K true) ∧ ((decide ((x2.n : Int) > 200)) = false → K (decide (x0 > (IntKind.i64.wrap (1048576 - (x2.n : Int)))))))))))))))) (by kernel_rfl) ⟨fun h1 => (KM.mk (eqT h1 rfl)), fun h1 => ⟨fun h2 => (KM.mk (eqF h1 (eqT h2 rfl))), fun h2 => ⟨fun h3 => (KM.mk (eqF h1 (eqF h2 (eqT h3 rfl)))), fun h3 => ⟨fun h4 => (KM.mk (eqF h1 (eqF h2 (eqF h3 (eqT h4 rfl))))), fun h4 => ⟨fun h5 => (KM.mk (eqF h1 (eqF h2 (eqF h3 (eqF h4 (eqT h5 rfl)))))), fun h5 => (KM.mk (eqF h1 (eqF h2 (eqF h3 (eqF h4 (eqF h5 rfl))))))⟩⟩⟩⟩⟩ ?_
  refine WP.condR (g53_m1 x0 x1 x2) rfl (fun h6 => ?_) (fun h6 => ?_)
  · skip
    refine WP.step0 g53_e_ok ⟨U :: .ptr 0 0 :: .int .i64 13 :: us 70 [], [[.int .i64 x0, .int .i64 x1, ofSl 10 e68 x2]]⟩ (by kernel_rfl) ?_
    exact WP.retP (True ∧ ((.int .i64 13 : AV) = .int .i64 (g53 x0 x1 x2))) (by kernel_rfl) ⟨trivial, (congrArg (AV.int .i64) (eqT h6 rfl))⟩
  · skip
    refine WP.skip ?_
    refine WP.step0 g53_e_ok ⟨U :: .ptr 0 0 :: .int .i64 0 :: .int .i64 x1 :: .int .i64 0 :: us 68 [], [[.int .i64 x0, .int .i64 x1, ofSl 10 e68 x2]]⟩ (by kernel_rfl) ?_
    refine WP.joinP ⟨U :: U :: .int .i64 0 :: us 70 [], []⟩ (g53_p7 x1 x2) ?_ ?_
    · skip
      refine WP.step0 g53_e_ok ⟨U :: U :: .int .i64 0 :: .int .i64 x1 :: .int .i64 0 :: us 42 (ofSl 10 e68 x2 :: .int .i64 (x2.n : Int) :: .int .i64 0 :: us 23 []), []⟩ (by kernel_rfl) ?_
      refine WP.block ?_
      refine WP.loopK (σ := Int × Int × Int) (R := Bool × Int) (fun s => ⟨U :: U :: .int .i64 0 :: .int .i64 s.1 :: .int .i64 s.2.1 :: us 42 (ofSl 10 e68 x2 :: .int .i64 (x2.n : Int) :: .int .i64 s.2.2 :: us 23 []), []⟩) (fun s => (0 ≤ s.2.2 ∧ s.2.2 ≤ (x2.n : Int))) (fun s => (Int.toNat ((x2.n : Int) - s.2.2))) (fun k s => g53_l7 x2 k (s.1) (s.2.1) (s.2.2)) (x1, 0, 0) (by have := h6; simp [g53_m1] at this; first | omega | ((try dsimp only); omega) | ((try dsimp only); (try simp only [Sl.app_n]); (try simp only [Sl.lit_n]); (try simp only [Sl.part_n]); (try simp only [nilSl_n]); (try simp only [List.length_cons]); (try simp only [List.length_nil]); first | omega | (omega) | (simp only [wrap64 (by omega) (by omega)]; omega))) (leE (by kernel_rfl)) (fun k s hI7 hk7 hR7 => ?_)
      obtain ⟨v7_0, v7_1, v7_2⟩ := s
      have hI7 : (0 ≤ v7_2 ∧ v7_2 ≤ (x2.n : Int)) := hI7
      have hR7 : g53_l7 x2 (k + 1) v7_0 v7_1 v7_2 = (g53_r6 x1 x2) := hR7
      refine WP.step0 g53_e_ok ⟨U :: U :: .int .i64 0 :: .int .i64 v7_0 :: .int .i64 v7_1 :: us 42 (ofSl 10 e68 x2 :: .int .i64 (x2.n : Int) :: .int .i64 v7_2 :: .bool (decide (v7_2 < (x2.n : Int))) :: us 22 []), []⟩ (by kernel_rfl) ?_
      refine WP.seq ?_
      refine WP.condR (decide (v7_2 < (x2.n : Int))) rfl (fun h7 => ?_) (fun h7 => ?_)
      · skip
        refine WP.skip ?_
        refine WP.seq ?_
        refine WP.block ?_
        refine WP.stepE g53_e_ok ⟨U :: U :: .int .i64 0 :: .int .i64 v7_0 :: .int .i64 v7_1 :: U :: .ptr 0 0 :: us 40 (ofSl 10 e68 x2 :: .int .i64 (x2.n : Int) :: .int .i64 v7_2 :: .bool (decide (v7_2 < (x2.n : Int))) :: .ref [.int .i64 (x2.at' (Int.toNat v7_2)).c0, .int .i64 (x2.at' (Int.toNat v7_2)).c1, .bool (x2.at' (Int.toNat v7_2)).c2, .int .i64 (x2.at' (Int.toNat v7_2)).c3, .int .i64 (x2.at' (Int.toNat v7_2)).c4, .int .i64 (x2.at' (Int.toNat v7_2)).c5, .str (x2.at' (Int.toNat v7_2)).c6, .str (x2.at' (Int.toNat v7_2)).c7, .str (x2.at' (Int.toNat v7_2)).c8, .int .i64 (x2.at' (Int.toNat v7_2)).c9] :: .agg [.int .i64 (x2.at' (Int.toNat v7_2)).c0, .int .i64 (x2.at' (Int.toNat v7_2)).c1, .bool (x2.at' (Int.toNat v7_2)).c2, .int .i64 (x2.at' (Int.toNat v7_2)).c3, .int .i64 (x2.at' (Int.toNat v7_2)).c4, .int .i64 (x2.at' (Int.toNat v7_2)).c5, .str (x2.at' (Int.toNat v7_2)).c6, .str (x2.at' (Int.toNat v7_2)).c7, .str (x2.at' (Int.toNat v7_2)).c8, .int .i64 (x2.at' (Int.toNat v7_2)).c9] :: us 20 []), [[.int .i64 (x2.at' (Int.toNat v7_2)).c0, .int .i64 (x2.at' (Int.toNat v7_2)).c1, .bool (x2.at' (Int.toNat v7_2)).c2, .int .i64 (x2.at' (Int.toNat v7_2)).c3, .int .i64 (x2.at' (Int.toNat v7_2)).c4, .int .i64 (x2.at' (Int.toNat v7_2)).c5, .str (x2.at' (Int.toNat v7_2)).c6, .str (x2.at' (Int.toNat v7_2)).c7, .str (x2.at' (Int.toNat v7_2)).c8, .int .i64 (x2.at' (Int.toNat v7_2)).c9]]⟩ (fun q => ((0 ≤ v7_2 ∧ v7_2 < (x2.n : Int)) ∧ q)) (by kernel_rfl) ⟨(by have := h6; simp [g53_m1] at this; have := of_decide_eq_true h7; omega), rfl⟩ ?_
        refine WP.seq ?_
        refine WP.stepM g53_e_ok (fun a : Bool × Bool × Bool × Bool => ⟨U :: U :: .int .i64 0 :: .int .i64 v7_0 :: .int .i64 v7_1 :: U :: .ptr 0 0 :: us 40 (ofSl 10 e68 x2 :: .int .i64 (x2.n : Int) :: .int .i64 v7_2 :: .bool (decide (v7_2 < (x2.n : Int))) :: .ref [.int .i64 (x2.at' (Int.toNat v7_2)).c0, .int .i64 (x2.at' (Int.toNat v7_2)).c1, .bool (x2.at' (Int.toNat v7_2)).c2, .int .i64 (x2.at' (Int.toNat v7_2)).c3, .int .i64 (x2.at' (Int.toNat v7_2)).c4, .int .i64 (x2.at' (Int.toNat v7_2)).c5, .str (x2.at' (Int.toNat v7_2)).c6, .str (x2.at' (Int.toNat v7_2)).c7, .str (x2.at' (Int.toNat v7_2)).c8, .int .i64 (x2.at' (Int.toNat v7_2)).c9] :: .agg [.int .i64 (x2.at' (Int.toNat v7_2)).c0, .int .i64 (x2.at' (Int.toNat v7_2)).c1, .bool (x2.at' (Int.toNat v7_2)).c2, .int .i64 (x2.at' (Int.toNat v7_2)).c3, .int .i64 (x2.at' (Int.toNat v7_2)).c4, .int .i64 (x2.at' (Int.toNat v7_2)).c5, .str (x2.at' (Int.toNat v7_2)).c6, .str (x2.at' (Int.toNat v7_2)).c7, .str (x2.at' (Int.toNat v7_2)).c8, .int .i64 (x2.at' (Int.toNat v7_2)).c9] :: .agg [.int .i64 (x2.at' (Int.toNat v7_2)).c0, .int .i64 (x2.at' (Int.toNat v7_2)).c1, .bool (x2.at' (Int.toNat v7_2)).c2, .int .i64 (x2.at' (Int.toNat v7_2)).c3, .int .i64 (x2.at' (Int.toNat v7_2)).c4, .int .i64 (x2.at' (Int.toNat v7_2)).c5, .str (x2.at' (Int.toNat v7_2)).c6, .str (x2.at' (Int.toNat v7_2)).c7, .str (x2.at' (Int.toNat v7_2)).c8, .int .i64 (x2.at' (Int.toNat v7_2)).c9] :: .int .i64 (g51 (x2.at' (Int.toNat v7_2)).c0 (x2.at' (Int.toNat v7_2)).c1 (x2.at' (Int.toNat v7_2)).c2 (x2.at' (Int.toNat v7_2)).c3 (x2.at' (Int.toNat v7_2)).c4 (x2.at' (Int.toNat v7_2)).c5 (x2.at' (Int.toNat v7_2)).c6 (x2.at' (Int.toNat v7_2)).c7 (x2.at' (Int.toNat v7_2)).c8 (x2.at' (Int.toNat v7_2)).c9) :: .bool ((g51 (x2.at' (Int.toNat v7_2)).c0 (x2.at' (Int.toNat v7_2)).c1 (x2.at' (Int.toNat v7_2)).c2 (x2.at' (Int.toNat v7_2)).c3 (x2.at' (Int.toNat v7_2)).c4 (x2.at' (Int.toNat v7_2)).c5 (x2.at' (Int.toNat v7_2)).c6 (x2.at' (Int.toNat v7_2)).c7 (x2.at' (Int.toNat v7_2)).c8 (x2.at' (Int.toNat v7_2)).c9) != 0) :: .bool a.1 :: us 4 (.bool a.2.1 :: .bool a.2.2.1 :: us 4 (.bool a.2.2.2 :: us 5 []))), [[.int .i64 (x2.at' (Int.toNat v7_2)).c0, .int .i64 (x2.at' (Int.toNat v7_2)).c1, .bool (x2.at' (Int.toNat v7_2)).c2, .int .i64 (x2.at' (Int.toNat v7_2)).c3, .int .i64 (x2.at' (Int.toNat v7_2)).c4, .int .i64 (x2.at' (Int.toNat v7_2)).c5, .str (x2.at' (Int.toNat v7_2)).c6, .str (x2.at' (Int.toNat v7_2)).c7, .str (x2.at' (Int.toNat v7_2)).c8, .int .i64 (x2.at' (Int.toNat v7_2)).c9]]⟩) ((g53_m2 x2 v7_2), (g53_m3 x2 v7_0 v7_2), (g53_m4 x2 v7_0 v7_2), (g53_m5 x2 v7_0 v7_1 v7_2)) (fun K => ((((g51 (x2.at' (Int.toNat v7_2)).c0 (x2.at' (Int.toNat v7_2)).c1 (x2.at' (Int.toNat v7_2)).c2 (x2.at' (Int.toNat v7_2)).c3 (x2.at' (Int.toNat v7_2)).c4 (x2.at' (Int.toNat v7_2)).c5 (x2.at' (Int.toNat v7_2)).c6 (x2.at' (Int.toNat v7_2)).c7 (x2.at' (Int.toNat v7_2)).c8 (x2.at' (Int.toNat v7_2)).c9) != 0) = true → K (true, true, true, true)) ∧ (((g51 (x2.at' (Int.toNat v7_2)).c0 (x2.at' (Int.toNat v7_2)).c1 (x2.at' (Int.toNat v7_2)).c2 (x2.at' (Int.toNat v7_2)).c3 (x2.at' (Int.toNat v7_2)).c4 (x2.at' (Int.toNat v7_2)).c5 (x2.at' (Int.toNat v7_2)).c6 (x2.at' (Int.toNat v7_2)).c7 (x2.at' (Int.toNat v7_2)).c8 (x2.at' (Int.toNat v7_2)).c9) != 0) = false → (((decide ((x2.at' (Int.toNat v7_2)).c0 < v7_0)) = true → K (false, (decide ((x2.at' (Int.toNat v7_2)).c0 < v7_0)), true, true)) ∧ ((decide ((x2.at' (Int.toNat v7_2)).c0 < v7_0)) = false → K (false, (decide ((x2.at' (Int.toNat v7_2)).c0 < v7_0)), false, (decide ((x2.at' (Int.toNat v7_2)).c1 < v7_1)))))))) (by kernel_rfl) ⟨fun h8 => (KM.mk (pr (eqT h8 rfl) (pr (eqT h8 rfl) (pr (eqT h8 rfl) (eqT h8 rfl))))), fun h8 => ⟨fun h9 => (KM.mk (pr (eqF h8 rfl) (pr (eqF h8 rfl) (pr (eqF h8 (eqT h9 rfl)) (eqF h8 (eqT h9 rfl)))))), fun h9 => (KM.mk (pr (eqF h8 rfl) (pr (eqF h8 rfl) (pr (eqF h8 (eqF h9 rfl)) (eqF h8 (eqF h9 rfl))))))⟩⟩ ?_
        refine WP.condR (g53_m5 x2 v7_0 v7_1 v7_2) rfl (fun h10 => ?_) (fun h10 => ?_)
        · skip
          refine WP.step0 g53_e_ok ⟨U :: U :: .int .i64 13 :: .int .i64 v7_0 :: .int .i64 v7_1 :: U :: .ptr 0 0 :: us 40 (ofSl 10 e68 x2 :: .int .i64 (x2.n : Int) :: .int .i64 v7_2 :: .bool (decide (v7_2 < (x2.n : Int))) :: .ref [.int .i64 (x2.at' (Int.toNat v7_2)).c0, .int .i64 (x2.at' (Int.toNat v7_2)).c1, .bool (x2.at' (Int.toNat v7_2)).c2, .int .i64 (x2.at' (Int.toNat v7_2)).c3, .int .i64 (x2.at' (Int.toNat v7_2)).c4, .int .i64 (x2.at' (Int.toNat v7_2)).c5, .str (x2.at' (Int.toNat v7_2)).c6, .str (x2.at' (Int.toNat v7_2)).c7, .str (x2.at' (Int.toNat v7_2)).c8, .int .i64 (x2.at' (Int.toNat v7_2)).c9] :: .agg [.int .i64 (x2.at' (Int.toNat v7_2)).c0, .int .i64 (x2.at' (Int.toNat v7_2)).c1, .bool (x2.at' (Int.toNat v7_2)).c2, .int .i64 (x2.at' (Int.toNat v7_2)).c3, .int .i64 (x2.at' (Int.toNat v7_2)).c4, .int .i64 (x2.at' (Int.toNat v7_2)).c5, .str (x2.at' (Int.toNat v7_2)).c6, .str (x2.at' (Int.toNat v7_2)).c7, .str (x2.at' (Int.toNat v7_2)).c8, .int .i64 (x2.at' (Int.toNat v7_2)).c9] :: .agg [.int .i64 (x2.at' (Int.toNat v7_2)).c0, .int .i64 (x2.at' (Int.toNat v7_2)).c1, .bool (x2.at' (Int.toNat v7_2)).c2, .int .i64 (x2.at' (Int.toNat v7_2)).c3, .int .i64 (x2.at' (Int.toNat v7_2)).c4, .int .i64 (x2.at' (Int.toNat v7_2)).c5, .str (x2.at' (Int.toNat v7_2)).c6, .str (x2.at' (Int.toNat v7_2)).c7, .str (x2.at' (Int.toNat v7_2)).c8, .int .i64 (x2.at' (Int.toNat v7_2)).c9] :: .int .i64 (g51 (x2.at' (Int.toNat v7_2)).c0 (x2.at' (Int.toNat v7_2)).c1 (x2.at' (Int.toNat v7_2)).c2 (x2.at' (Int.toNat v7_2)).c3 (x2.at' (Int.toNat v7_2)).c4 (x2.at' (Int.toNat v7_2)).c5 (x2.at' (Int.toNat v7_2)).c6 (x2.at' (Int.toNat v7_2)).c7 (x2.at' (Int.toNat v7_2)).c8 (x2.at' (Int.toNat v7_2)).c9) :: .bool ((g51 (x2.at' (Int.toNat v7_2)).c0 (x2.at' (Int.toNat v7_2)).c1 (x2.at' (Int.toNat v7_2)).c2 (x2.at' (Int.toNat v7_2)).c3 (x2.at' (Int.toNat v7_2)).c4 (x2.at' (Int.toNat v7_2)).c5 (x2.at' (Int.toNat v7_2)).c6 (x2.at' (Int.toNat v7_2)).c7 (x2.at' (Int.toNat v7_2)).c8 (x2.at' (Int.toNat v7_2)).c9) != 0) :: .bool (g53_m2 x2 v7_2) :: us 4 (.bool (g53_m3 x2 v7_0 v7_2) :: .bool (g53_m4 x2 v7_0 v7_2) :: us 4 (.bool (g53_m5 x2 v7_0 v7_1 v7_2) :: us 5 []))), [[.int .i64 (x2.at' (Int.toNat v7_2)).c0, .int .i64 (x2.at' (Int.toNat v7_2)).c1, .bool (x2.at' (Int.toNat v7_2)).c2, .int .i64 (x2.at' (Int.toNat v7_2)).c3, .int .i64 (x2.at' (Int.toNat v7_2)).c4, .int .i64 (x2.at' (Int.toNat v7_2)).c5, .str (x2.at' (Int.toNat v7_2)).c6, .str (x2.at' (Int.toNat v7_2)).c7, .str (x2.at' (Int.toNat v7_2)).c8, .int .i64 (x2.at' (Int.toNat v7_2)).c9]]⟩ (by kernel_rfl) ?_
          have hv11 : ((true, 13) : Bool × Int) = (g53_r6 x1 x2) := ((eqT h7 (eqT h10 rfl))).trans hR7
          exact WP.retP (True ∧ ((.int .i64 13 : AV) = .int .i64 (g53 x0 x1 x2))) (by kernel_rfl) ⟨trivial, (congrArg (AV.int .i64) ((congrArg (fun r : Bool × Int => r.2) hv11).trans (eqF h6 (eqF ((eqT (congrArg (fun r : Bool × Int => r.1) hv11).symm rfl)).symm rfl))))⟩
        · skip
          refine WP.skip ?_
          refine WP.finD g53_e_ok ⟨U :: U :: .int .i64 0 :: .int .i64 (x2.at' (Int.toNat v7_2)).c0 :: .int .i64 (x2.at' (Int.toNat v7_2)).c1 :: U :: .ptr 0 0 :: us 40 (ofSl 10 e68 x2 :: .int .i64 (x2.n : Int) :: .int .i64 v7_2 :: .bool (decide (v7_2 < (x2.n : Int))) :: .ref [.int .i64 (x2.at' (Int.toNat v7_2)).c0, .int .i64 (x2.at' (Int.toNat v7_2)).c1, .bool (x2.at' (Int.toNat v7_2)).c2, .int .i64 (x2.at' (Int.toNat v7_2)).c3, .int .i64 (x2.at' (Int.toNat v7_2)).c4, .int .i64 (x2.at' (Int.toNat v7_2)).c5, .str (x2.at' (Int.toNat v7_2)).c6, .str (x2.at' (Int.toNat v7_2)).c7, .str (x2.at' (Int.toNat v7_2)).c8, .int .i64 (x2.at' (Int.toNat v7_2)).c9] :: .agg [.int .i64 (x2.at' (Int.toNat v7_2)).c0, .int .i64 (x2.at' (Int.toNat v7_2)).c1, .bool (x2.at' (Int.toNat v7_2)).c2, .int .i64 (x2.at' (Int.toNat v7_2)).c3, .int .i64 (x2.at' (Int.toNat v7_2)).c4, .int .i64 (x2.at' (Int.toNat v7_2)).c5, .str (x2.at' (Int.toNat v7_2)).c6, .str (x2.at' (Int.toNat v7_2)).c7, .str (x2.at' (Int.toNat v7_2)).c8, .int .i64 (x2.at' (Int.toNat v7_2)).c9] :: .agg [.int .i64 (x2.at' (Int.toNat v7_2)).c0, .int .i64 (x2.at' (Int.toNat v7_2)).c1, .bool (x2.at' (Int.toNat v7_2)).c2, .int .i64 (x2.at' (Int.toNat v7_2)).c3, .int .i64 (x2.at' (Int.toNat v7_2)).c4, .int .i64 (x2.at' (Int.toNat v7_2)).c5, .str (x2.at' (Int.toNat v7_2)).c6, .str (x2.at' (Int.toNat v7_2)).c7, .str (x2.at' (Int.toNat v7_2)).c8, .int .i64 (x2.at' (Int.toNat v7_2)).c9] :: .int .i64 (g51 (x2.at' (Int.toNat v7_2)).c0 (x2.at' (Int.toNat v7_2)).c1 (x2.at' (Int.toNat v7_2)).c2 (x2.at' (Int.toNat v7_2)).c3 (x2.at' (Int.toNat v7_2)).c4 (x2.at' (Int.toNat v7_2)).c5 (x2.at' (Int.toNat v7_2)).c6 (x2.at' (Int.toNat v7_2)).c7 (x2.at' (Int.toNat v7_2)).c8 (x2.at' (Int.toNat v7_2)).c9) :: .bool ((g51 (x2.at' (Int.toNat v7_2)).c0 (x2.at' (Int.toNat v7_2)).c1 (x2.at' (Int.toNat v7_2)).c2 (x2.at' (Int.toNat v7_2)).c3 (x2.at' (Int.toNat v7_2)).c4 (x2.at' (Int.toNat v7_2)).c5 (x2.at' (Int.toNat v7_2)).c6 (x2.at' (Int.toNat v7_2)).c7 (x2.at' (Int.toNat v7_2)).c8 (x2.at' (Int.toNat v7_2)).c9) != 0) :: .bool (g53_m2 x2 v7_2) :: us 4 (.bool (g53_m3 x2 v7_0 v7_2) :: .bool (g53_m4 x2 v7_0 v7_2) :: us 4 ([.bool (g53_m5 x2 v7_0 v7_1 v7_2), .ptr 0 0, .int .i64 (x2.at' (Int.toNat v7_2)).c0, .ptr 0 1, .int .i64 (x2.at' (Int.toNat v7_2)).c1, U]))), [[.int .i64 (x2.at' (Int.toNat v7_2)).c0, .int .i64 (x2.at' (Int.toNat v7_2)).c1, .bool (x2.at' (Int.toNat v7_2)).c2, .int .i64 (x2.at' (Int.toNat v7_2)).c3, .int .i64 (x2.at' (Int.toNat v7_2)).c4, .int .i64 (x2.at' (Int.toNat v7_2)).c5, .str (x2.at' (Int.toNat v7_2)).c6, .str (x2.at' (Int.toNat v7_2)).c7, .str (x2.at' (Int.toNat v7_2)).c8, .int .i64 (x2.at' (Int.toNat v7_2)).c9]]⟩ (by kernel_rfl) ?_
          refine WP.fin0 g53_e_ok ⟨U :: U :: .int .i64 0 :: .int .i64 (x2.at' (Int.toNat v7_2)).c0 :: .int .i64 (x2.at' (Int.toNat v7_2)).c1 :: U :: .ptr 0 0 :: us 40 (ofSl 10 e68 x2 :: .int .i64 (x2.n : Int) :: .int .i64 (IntKind.i64.wrap (v7_2 + 1)) :: .bool (decide (v7_2 < (x2.n : Int))) :: .ref [.int .i64 (x2.at' (Int.toNat v7_2)).c0, .int .i64 (x2.at' (Int.toNat v7_2)).c1, .bool (x2.at' (Int.toNat v7_2)).c2, .int .i64 (x2.at' (Int.toNat v7_2)).c3, .int .i64 (x2.at' (Int.toNat v7_2)).c4, .int .i64 (x2.at' (Int.toNat v7_2)).c5, .str (x2.at' (Int.toNat v7_2)).c6, .str (x2.at' (Int.toNat v7_2)).c7, .str (x2.at' (Int.toNat v7_2)).c8, .int .i64 (x2.at' (Int.toNat v7_2)).c9] :: .agg [.int .i64 (x2.at' (Int.toNat v7_2)).c0, .int .i64 (x2.at' (Int.toNat v7_2)).c1, .bool (x2.at' (Int.toNat v7_2)).c2, .int .i64 (x2.at' (Int.toNat v7_2)).c3, .int .i64 (x2.at' (Int.toNat v7_2)).c4, .int .i64 (x2.at' (Int.toNat v7_2)).c5, .str (x2.at' (Int.toNat v7_2)).c6, .str (x2.at' (Int.toNat v7_2)).c7, .str (x2.at' (Int.toNat v7_2)).c8, .int .i64 (x2.at' (Int.toNat v7_2)).c9] :: .agg [.int .i64 (x2.at' (Int.toNat v7_2)).c0, .int .i64 (x2.at' (Int.toNat v7_2)).c1, .bool (x2.at' (Int.toNat v7_2)).c2, .int .i64 (x2.at' (Int.toNat v7_2)).c3, .int .i64 (x2.at' (Int.toNat v7_2)).c4, .int .i64 (x2.at' (Int.toNat v7_2)).c5, .str (x2.at' (Int.toNat v7_2)).c6, .str (x2.at' (Int.toNat v7_2)).c7, .str (x2.at' (Int.toNat v7_2)).c8, .int .i64 (x2.at' (Int.toNat v7_2)).c9] :: .int .i64 (g51 (x2.at' (Int.toNat v7_2)).c0 (x2.at' (Int.toNat v7_2)).c1 (x2.at' (Int.toNat v7_2)).c2 (x2.at' (Int.toNat v7_2)).c3 (x2.at' (Int.toNat v7_2)).c4 (x2.at' (Int.toNat v7_2)).c5 (x2.at' (Int.toNat v7_2)).c6 (x2.at' (Int.toNat v7_2)).c7 (x2.at' (Int.toNat v7_2)).c8 (x2.at' (Int.toNat v7_2)).c9) :: .bool ((g51 (x2.at' (Int.toNat v7_2)).c0 (x2.at' (Int.toNat v7_2)).c1 (x2.at' (Int.toNat v7_2)).c2 (x2.at' (Int.toNat v7_2)).c3 (x2.at' (Int.toNat v7_2)).c4 (x2.at' (Int.toNat v7_2)).c5 (x2.at' (Int.toNat v7_2)).c6 (x2.at' (Int.toNat v7_2)).c7 (x2.at' (Int.toNat v7_2)).c8 (x2.at' (Int.toNat v7_2)).c9) != 0) :: .bool (g53_m2 x2 v7_2) :: us 4 (.bool (g53_m3 x2 v7_0 v7_2) :: .bool (g53_m4 x2 v7_0 v7_2) :: us 4 ([.bool (g53_m5 x2 v7_0 v7_1 v7_2), .ptr 0 0, .int .i64 (x2.at' (Int.toNat v7_2)).c0, .ptr 0 1, .int .i64 (x2.at' (Int.toNat v7_2)).c1, .int .i64 (IntKind.i64.wrap (v7_2 + 1))]))), [[.int .i64 (x2.at' (Int.toNat v7_2)).c0, .int .i64 (x2.at' (Int.toNat v7_2)).c1, .bool (x2.at' (Int.toNat v7_2)).c2, .int .i64 (x2.at' (Int.toNat v7_2)).c3, .int .i64 (x2.at' (Int.toNat v7_2)).c4, .int .i64 (x2.at' (Int.toNat v7_2)).c5, .str (x2.at' (Int.toNat v7_2)).c6, .str (x2.at' (Int.toNat v7_2)).c7, .str (x2.at' (Int.toNat v7_2)).c8, .int .i64 (x2.at' (Int.toNat v7_2)).c9]]⟩ (by kernel_rfl) ?_
          exact loopR_nextE ((x2.at' (Int.toNat v7_2)).c0, (x2.at' (Int.toNat v7_2)).c1, (IntKind.i64.wrap (v7_2 + 1))) (by have := h6; simp [g53_m1] at this; have := of_decide_eq_true h7; have := h10; simp [g53_m5] at this; first | omega | (have := wrap64 (x := (v7_2 + 1)) (by omega) (by omega); omega) | (simp only [wrap64 (x := (v7_2 + 1)) (by omega) (by omega)]; omega)) (by have := h6; simp [g53_m1] at this; have := of_decide_eq_true h7; have := h10; simp [g53_m5] at this; first | omega | (have := wrap64 (x := (v7_2 + 1)) (by omega) (by omega); omega) | (simp only [wrap64 (x := (v7_2 + 1)) (by omega) (by omega)]; omega)) ((eqT h7 (eqF h10 rfl)).trans hR7) (by kernel_rfl)
      · skip
        have hv12 : ((false, default) : Bool × Int) = (g53_r6 x1 x2) := ((eqF h7 rfl)).trans hR7
        exact WP.exitP ((g53_p7 x1 x2) = true ∧ ((((0 : Int) = 0) ∧ True) ∧ True ∧ true = true)) (by kernel_rfl) ⟨((eqF (congrArg (fun r : Bool × Int => r.1) hv12).symm rfl)).symm, ⟨⟨rfl, trivial⟩, trivial, rfl⟩⟩
    · skip
      intro h13
      refine WP.step0 g53_e_ok ⟨U :: U :: .int .i64 0 :: us 70 [], []⟩ (by kernel_rfl) ?_
      exact WP.retP (True ∧ ((.int .i64 0 : AV) = .int .i64 (g53 x0 x1 x2))) (by kernel_rfl) ⟨trivial, (congrArg (AV.int .i64) (eqF h6 (eqT h13 rfl)))⟩
noncomputable def s53 : Ans := fun xs => match xs with
  | [.agg [.int .i64 x0, .int .i64 x1, y2]] => bif isSl 10 y2 then some (some (okSl e68 d68 y2), .int .i64 (g53 x0 x1 (toSl d68 y2))) else none
  | _ => none
theorem k53 : SOk Try.prog 53 s53 := ⟨⟨_, _, Try.func53, rfl, by kernel_rfl⟩, fun args pre r h hp => by
  unfold s53 at h
  split at h
  · obtain ⟨b0, h⟩ := cond_some h
    cases h
    exact (pc53 _ _ _).weak (l1 (aG (l1 cI (l1 cI (l1 (slLe b0 hp.1) l0)))) l0)
  · cases h⟩
theorem chk53 (x0 x1 : Int) (x2 : Sl T68) (h : g53 x0 x1 x2 = 0) : (0 ≤ x0 ∧ x0 ≤ 1048576) ∧ (0 ≤ x1 ∧ x1 ≤ 1048576) ∧ x2.n ≤ 200 ∧ x0 + x2.n ≤ 1048576 := by
  unfold g53 at h
  cases hm : g53_m1 x0 x1 x2 with
  | true => rw [hm] at h; simp at h
  | false =>
    simp [g53_m1] at hm
    have := wrap64 (x := 1048576 - (x2.n : Int)) (by omega) (by omega)
    omega
noncomputable def g124_0 (x0 : Int) (x2 : Sl T68) : Int := (bif (decide ((x2.n : Int) > 0)) then (IntKind.i64.wrap (x0 + (x2.n : Int))) else x0)
noncomputable def g124_1 (x1 : Int) (x2 : Sl T68) : Int := (bif (decide ((x2.n : Int) > 0)) then (x2.at' (Int.toNat (IntKind.i64.wrap ((x2.n : Int) - 1)))).c0 else x1)
noncomputable abbrev g124_e : Env := mkE []
theorem g124_e_ok : g124_e.Ok := mkE_ok trivial
theorem pc124 (x0 : Int) (x1 : Int) (x2 : Sl T68) : PureCall Try.prog 124 [.agg [.int .i64 x0, .int .i64 x1, ofSl 10 e68 x2]] (.tup [.int .i64 (g124_0 x0 x2), .int .i64 (g124_1 x1 x2)]) := by
  refine PureCall.fine fun hf => ?_
  have hf_x2 : Fine (ofSl 10 e68 x2) := hf.1.2.2.1
  have hn_x2 : x2.n ≤ 549755813888 := hf_x2.len
  refine pure_of_WP (E := g124_e) g124_e_ok Try.func124 rfl _ _ ?_
  refine WP.step0 g124_e_ok ⟨U :: .ptr 0 0 :: .int .i64 0 :: .int .i64 0 :: us 21 [], [[.int .i64 x0, .int .i64 x1, ofSl 10 e68 x2]]⟩ (by kernel_rfl) ?_
  refine WP.seq ?_
  refine WP.step0 g124_e_ok ⟨U :: .ptr 0 0 :: .int .i64 0 :: .int .i64 0 :: .int .i64 (x2.n : Int) :: us 20 [], [[.int .i64 x0, .int .i64 x1, ofSl 10 e68 x2]]⟩ (by kernel_rfl) ?_
  refine WP.step0 g124_e_ok ⟨U :: .ptr 0 0 :: .int .i64 0 :: .int .i64 0 :: .int .i64 (x2.n : Int) :: us 4 (.bool (decide ((x2.n : Int) > 0)) :: us 15 []), [[.int .i64 x0, .int .i64 x1, ofSl 10 e68 x2]]⟩ (by kernel_rfl) ?_
  refine WP.condR (decide ((x2.n : Int) > 0)) rfl (fun h1 => ?_) (fun h1 => ?_)
  · skip
    refine WP.stepE g124_e_ok ⟨U :: .ptr 0 0 :: .int .i64 (IntKind.i64.wrap (x0 + (x2.n : Int))) :: .int .i64 (x2.at' (Int.toNat (IntKind.i64.wrap ((x2.n : Int) - 1)))).c0 :: us 21 [], [[.int .i64 x0, .int .i64 x1, ofSl 10 e68 x2]]⟩ (fun q => ((0 ≤ (IntKind.i64.wrap ((x2.n : Int) - 1)) ∧ (IntKind.i64.wrap ((x2.n : Int) - 1)) < (x2.n : Int)) ∧ (true = true ∧ q))) (by kernel_rfl) ⟨(by have := of_decide_eq_true h1; first | omega | (have := wrap64 (x := ((x2.n : Int) - 1)) (by omega) (by omega); omega)), ⟨rfl, rfl⟩⟩ ?_
    exact WP.retP (True ∧ (((.int .i64 (IntKind.i64.wrap (x0 + (x2.n : Int))) : AV) = .int .i64 (g124_0 x0 x2)) ∧ ((.int .i64 (x2.at' (Int.toNat (IntKind.i64.wrap ((x2.n : Int) - 1)))).c0 : AV) = .int .i64 (g124_1 x1 x2)) ∧ True)) (by kernel_rfl) ⟨trivial, ⟨(congrArg (AV.int .i64) (eqT h1 rfl)), (congrArg (AV.int .i64) (eqT h1 rfl)), trivial⟩⟩
  · skip
    refine WP.skip ?_
    refine WP.stepD g124_e_ok ⟨U :: U :: .int .i64 x0 :: .int .i64 x1 :: us 21 [], []⟩ (by kernel_rfl) ?_
    exact WP.retP (True ∧ (((.int .i64 x0 : AV) = .int .i64 (g124_0 x0 x2)) ∧ ((.int .i64 x1 : AV) = .int .i64 (g124_1 x1 x2)) ∧ True)) (by kernel_rfl) ⟨trivial, ⟨(congrArg (AV.int .i64) (eqF h1 rfl)), (congrArg (AV.int .i64) (eqF h1 rfl)), trivial⟩⟩
noncomputable def s124 : Ans := fun xs => match xs with
  | [.agg [.int .i64 x0, .int .i64 x1, y2]] => bif isSl 10 y2 then some (some (okSl e68 d68 y2), .tup [.int .i64 (g124_0 x0 (toSl d68 y2)), .int .i64 (g124_1 x1 (toSl d68 y2))]) else none
  | _ => none
theorem k124 : SOk Try.prog 124 s124 := ⟨⟨_, _, Try.func124, rfl, by kernel_rfl⟩, fun args pre r h hp => by
  unfold s124 at h
  split at h
  · obtain ⟨b0, h⟩ := cond_some h
    cases h
    exact (pc124 _ _ _).weak (l1 (aG (l1 cI (l1 cI (l1 (slLe b0 hp.1) l0)))) l0)
  · cases h⟩
noncomputable def g58_0 (x0 : Int) (x1 : Int) (x2 : Sl T68) : Int := (bif ((g53 x0 x1 x2) != 0) then 0 else (g124_0 x0 x2))
noncomputable def g58_1 (x0 : Int) (x1 : Int) (x2 : Sl T68) : Int := (bif ((g53 x0 x1 x2) != 0) then 0 else (g124_1 x1 x2))
noncomputable def g58_2 (x0 : Int) (x1 : Int) (x2 : Sl T68) : Int := (bif ((g53 x0 x1 x2) != 0) then (g53 x0 x1 x2) else 0)
noncomputable abbrev g58_e : Env := mkE [(53, s53), (124, s124)]
theorem g58_e_ok : g58_e.Ok := mkE_ok ⟨k53, k124, trivial⟩
theorem pc58 (x0 : Int) (x1 : Int) (x2 : Sl T68) : PureCall Try.prog 58 [.agg [.int .i64 x0, .int .i64 x1, ofSl 10 e68 x2]] (.tup [.int .i64 (g58_0 x0 x1 x2), .int .i64 (g58_1 x0 x1 x2), .int .i64 (g58_2 x0 x1 x2)]) := by
  refine PureCall.fine fun hf => ?_
  have hf_x2 : Fine (ofSl 10 e68 x2) := hf.1.2.2.1
  have hn_x2 : x2.n ≤ 549755813888 := hf_x2.len
  refine pure_of_WP (E := g58_e) g58_e_ok Try.func58 rfl _ _ ?_
  refine WP.step0 g58_e_ok ⟨U :: .ptr 0 0 :: .int .i64 0 :: .int .i64 0 :: .int .i64 0 :: us 13 [], [[.int .i64 x0, .int .i64 x1, ofSl 10 e68 x2]]⟩ (by kernel_rfl) ?_
  refine WP.seq ?_
  refine WP.stepE g58_e_ok ⟨U :: .ptr 0 0 :: .int .i64 0 :: .int .i64 0 :: .int .i64 0 :: .int .i64 (g53 x0 x1 x2) :: us 12 [], [[.int .i64 x0, .int .i64 x1, ofSl 10 e68 x2]]⟩ (fun q => (okSl e68 d68 (ofSl 10 e68 x2) ∧ q)) (by kernel_rfl) ⟨(okOf ed68 10 x2), rfl⟩ ?_
  refine WP.step0 g58_e_ok ⟨U :: .ptr 0 0 :: .int .i64 0 :: .int .i64 0 :: .int .i64 0 :: .int .i64 (g53 x0 x1 x2) :: U :: U :: U :: .bool ((g53 x0 x1 x2) != 0) :: us 8 [], [[.int .i64 x0, .int .i64 x1, ofSl 10 e68 x2]]⟩ (by kernel_rfl) ?_
  refine WP.condR ((g53 x0 x1 x2) != 0) rfl (fun h1 => ?_) (fun h1 => ?_)
  · skip
    refine WP.step0 g58_e_ok ⟨U :: .ptr 0 0 :: .int .i64 0 :: .int .i64 0 :: .int .i64 (g53 x0 x1 x2) :: us 13 [], [[.int .i64 x0, .int .i64 x1, ofSl 10 e68 x2]]⟩ (by kernel_rfl) ?_
    exact WP.retP (True ∧ (((.int .i64 0 : AV) = .int .i64 (g58_0 x0 x1 x2)) ∧ ((.int .i64 0 : AV) = .int .i64 (g58_1 x0 x1 x2)) ∧ ((.int .i64 (g53 x0 x1 x2) : AV) = .int .i64 (g58_2 x0 x1 x2)) ∧ True)) (by kernel_rfl) ⟨trivial, ⟨(congrArg (AV.int .i64) (eqT h1 rfl)), (congrArg (AV.int .i64) (eqT h1 rfl)), (congrArg (AV.int .i64) (eqT h1 rfl)), trivial⟩⟩
  · skip
    refine WP.skip ?_
    refine WP.stepE g58_e_ok ⟨U :: U :: .int .i64 (g124_0 x0 x2) :: .int .i64 (g124_1 x1 x2) :: .int .i64 0 :: us 13 [], []⟩ (fun q => (okSl e68 d68 (ofSl 10 e68 x2) ∧ q)) (by kernel_rfl) ⟨(okOf ed68 10 x2), rfl⟩ ?_
    refine WP.step0 g58_e_ok ⟨U :: U :: .int .i64 (g124_0 x0 x2) :: .int .i64 (g124_1 x1 x2) :: .int .i64 0 :: us 13 [], []⟩ (by kernel_rfl) ?_
    exact WP.retP (True ∧ (((.int .i64 (g124_0 x0 x2) : AV) = .int .i64 (g58_0 x0 x1 x2)) ∧ ((.int .i64 (g124_1 x1 x2) : AV) = .int .i64 (g58_1 x0 x1 x2)) ∧ ((.int .i64 0 : AV) = .int .i64 (g58_2 x0 x1 x2)) ∧ True)) (by kernel_rfl) ⟨trivial, ⟨(congrArg (AV.int .i64) (eqF h1 rfl)), (congrArg (AV.int .i64) (eqF h1 rfl)), (congrArg (AV.int .i64) (eqF h1 rfl)), trivial⟩⟩
noncomputable def s58 : Ans := fun xs => match xs with
  | [.agg [.int .i64 x0, .int .i64 x1, y2]] => bif isSl 10 y2 then some (some (okSl e68 d68 y2), .tup [.int .i64 (g58_0 x0 x1 (toSl d68 y2)), .int .i64 (g58_1 x0 x1 (toSl d68 y2)), .int .i64 (g58_2 x0 x1 (toSl d68 y2))]) else none
  | _ => none
theorem k58 : SOk Try.prog 58 s58 := ⟨⟨_, _, Try.func58, rfl, by kernel_rfl⟩, fun args pre r h hp => by
  unfold s58 at h
  split at h
  · obtain ⟨b0, h⟩ := cond_some h
    cases h
    exact (pc58 _ _ _).weak (l1 (aG (l1 cI (l1 cI (l1 (slLe b0 hp.1) l0)))) l0)
  · cases h⟩
noncomputable def g125 (x0 : Int) (x2 : Sl T68) : Int := (IntKind.i64.wrap (x0 + (x2.n : Int)))
noncomputable abbrev g125_e : Env := mkE []
theorem g125_e_ok : g125_e.Ok := mkE_ok trivial
theorem pc125 (x0 : Int) (x1 : Int) (x2 : Sl T68) : PureCall Try.prog 125 [.agg [.int .i64 x0, .int .i64 x1, ofSl 10 e68 x2]] (.int .i64 (g125 x0 x2)) := by
  refine PureCall.fine fun hf => ?_
  have hf_x2 : Fine (ofSl 10 e68 x2) := hf.1.2.2.1
  have hn_x2 : x2.n ≤ 549755813888 := hf_x2.len
  refine pure_of_WP (E := g125_e) g125_e_ok Try.func125 rfl _ _ ?_
  refine WP.step0 g125_e_ok ⟨U :: .ptr 0 0 :: .int .i64 0 :: us 6 [], [[.int .i64 x0, .int .i64 x1, ofSl 10 e68 x2]]⟩ (by kernel_rfl) ?_
  refine WP.step0 g125_e_ok ⟨U :: U :: .int .i64 (IntKind.i64.wrap (x0 + (x2.n : Int))) :: us 6 [], []⟩ (by kernel_rfl) ?_
  exact WP.retP (True ∧ ((.int .i64 (IntKind.i64.wrap (x0 + (x2.n : Int))) : AV) = .int .i64 (g125 x0 x2))) (by kernel_rfl) ⟨trivial, rfl⟩
noncomputable def s125 : Ans := fun xs => match xs with
  | [.agg [.int .i64 x0, .int .i64 _, y2]] => bif isSl 10 y2 then some (some (okSl e68 d68 y2), .int .i64 (g125 x0 (toSl d68 y2))) else none
  | _ => none
theorem k125 : SOk Try.prog 125 s125 := ⟨⟨_, _, Try.func125, rfl, by kernel_rfl⟩, fun args pre r h hp => by
  unfold s125 at h
  split at h
  · obtain ⟨b0, h⟩ := cond_some h
    cases h
    exact (pc125 _ _ _).weak (l1 (aG (l1 cI (l1 cI (l1 (slLe b0 hp.1) l0)))) l0)
  · cases h⟩
theorem e125i (x0 : Int) (x2 : Sl T68) : (0 ≤ x0 ∧ x0 ≤ 1048576) ∧ x2.n ≤ 549755813888 → g125 x0 x2 = x0 + (x2.n : Int) := fun h => by
  unfold g125; exact wrap64 (by omega) (by omega)
theorem e125 (x0 : Int) (x2 : Sl T68) (h1 : 0 ≤ x0) (h2 : x0 ≤ 1048576) (h3 : x2.n ≤ 549755813888) : g125 x0 x2 = x0 + (x2.n : Int) := by
  unfold g125; exact wrap64 (by omega) (by omega)
noncomputable def g126 (x0 : Int) (x1 : Int) (x2 : Sl T68) (x3 : Int) : Int := (bif (decide (x3 < x0)) then (-1) else (bif (decide (x3 > (g125 x0 x2))) then (-2) else (bif (x3 == x0) then x1 else (x2.at' (Int.toNat (IntKind.i64.wrap ((IntKind.i64.wrap (x3 - x0)) - 1)))).c0)))
noncomputable abbrev g126_e : Env := mkE [(125, s125)]
theorem g126_e_ok : g126_e.Ok := mkE_ok ⟨k125, trivial⟩
theorem pc126 (x0 : Int) (x1 : Int) (x2 : Sl T68) (x3 : Int) (hq0 : 0 ≤ x0) (hq1 : x0 ≤ 1048576) : PureCall Try.prog 126 [.agg [.int .i64 x0, .int .i64 x1, ofSl 10 e68 x2], .int .i64 x3] (.int .i64 (g126 x0 x1 x2 x3)) := by
  refine PureCall.fine fun hf => ?_
  have hf_x2 : Fine (ofSl 10 e68 x2) := hf.1.2.2.1
  have hn_x2 : x2.n ≤ 549755813888 := hf_x2.len
  refine pure_of_WP (E := g126_e) g126_e_ok Try.func126 rfl _ _ ?_
  refine WP.step0 g126_e_ok ⟨U :: .int .i64 x3 :: .ptr 0 0 :: U :: .int .i64 0 :: us 24 [], [[.int .i64 x0, .int .i64 x1, ofSl 10 e68 x2]]⟩ (by kernel_rfl) ?_
  refine WP.seq ?_
  refine WP.step0 g126_e_ok ⟨U :: .int .i64 x3 :: .ptr 0 0 :: U :: .int .i64 0 :: U :: U :: U :: .bool (decide (x3 < x0)) :: us 20 [], [[.int .i64 x0, .int .i64 x1, ofSl 10 e68 x2]]⟩ (by kernel_rfl) ?_
  refine WP.condR (decide (x3 < x0)) rfl (fun h1 => ?_) (fun h1 => ?_)
  · skip
    refine WP.step0 g126_e_ok ⟨U :: .int .i64 x3 :: .ptr 0 0 :: U :: .int .i64 (-1) :: us 24 [], [[.int .i64 x0, .int .i64 x1, ofSl 10 e68 x2]]⟩ (by kernel_rfl) ?_
    exact WP.retP (True ∧ ((.int .i64 (-1) : AV) = .int .i64 (g126 x0 x1 x2 x3))) (by kernel_rfl) ⟨trivial, (congrArg (AV.int .i64) (eqT h1 rfl))⟩
  · skip
    refine WP.skip ?_
    refine WP.seq ?_
    refine WP.stepE g126_e_ok ⟨U :: .int .i64 x3 :: .ptr 0 0 :: U :: .int .i64 0 :: us 7 (.bool (decide (x3 > (g125 x0 x2))) :: us 16 []), [[.int .i64 x0, .int .i64 x1, ofSl 10 e68 x2]]⟩ (fun q => (okSl e68 d68 (ofSl 10 e68 x2) ∧ q)) (by kernel_rfl) ⟨(okOf ed68 10 x2), rfl⟩ ?_
    refine WP.condR (decide (x3 > (g125 x0 x2))) rfl (fun h2 => ?_) (fun h2 => ?_)
    · skip
      refine WP.step0 g126_e_ok ⟨U :: .int .i64 x3 :: .ptr 0 0 :: U :: .int .i64 (-2) :: us 24 [], [[.int .i64 x0, .int .i64 x1, ofSl 10 e68 x2]]⟩ (by kernel_rfl) ?_
      exact WP.retP (True ∧ ((.int .i64 (-2) : AV) = .int .i64 (g126 x0 x1 x2 x3))) (by kernel_rfl) ⟨trivial, (congrArg (AV.int .i64) (eqF h1 (eqT h2 rfl)))⟩
    · skip
      refine WP.skip ?_
      refine WP.seq ?_
      refine WP.step0 g126_e_ok ⟨U :: .int .i64 x3 :: .ptr 0 0 :: U :: .int .i64 0 :: us 11 (.bool (x3 == x0) :: us 12 []), [[.int .i64 x0, .int .i64 x1, ofSl 10 e68 x2]]⟩ (by kernel_rfl) ?_
      refine WP.condR (x3 == x0) rfl (fun h3 => ?_) (fun h3 => ?_)
      · skip
        refine WP.step0 g126_e_ok ⟨U :: .int .i64 x3 :: .ptr 0 0 :: U :: .int .i64 x1 :: us 24 [], [[.int .i64 x0, .int .i64 x1, ofSl 10 e68 x2]]⟩ (by kernel_rfl) ?_
        exact WP.retP (True ∧ ((.int .i64 x1 : AV) = .int .i64 (g126 x0 x1 x2 x3))) (by kernel_rfl) ⟨trivial, (congrArg (AV.int .i64) (eqF h1 (eqF h2 (eqT h3 rfl))))⟩
      · skip
        refine WP.skip ?_
        refine WP.stepE g126_e_ok ⟨us 4 (.int .i64 (x2.at' (Int.toNat (IntKind.i64.wrap ((IntKind.i64.wrap (x3 - x0)) - 1)))).c0 :: us 24 []), []⟩ (fun q => ((0 ≤ (IntKind.i64.wrap ((IntKind.i64.wrap (x3 - x0)) - 1)) ∧ (IntKind.i64.wrap ((IntKind.i64.wrap (x3 - x0)) - 1)) < (x2.n : Int)) ∧ q)) (by kernel_rfl) ⟨(by have := of_decide_eq_false h1; have := of_decide_eq_false h2; have := ne_of_beq_false h3; have := e125 x0 x2 (by omega) (by omega) (by omega); first | omega | (have := wrap64 (x := (x3 - x0)) (by omega) (by omega); have := wrap64 (x := ((IntKind.i64.wrap (x3 - x0)) - 1)) (by omega) (by omega); omega)), rfl⟩ ?_
        exact WP.retP (True ∧ ((.int .i64 (x2.at' (Int.toNat (IntKind.i64.wrap ((IntKind.i64.wrap (x3 - x0)) - 1)))).c0 : AV) = .int .i64 (g126 x0 x1 x2 x3))) (by kernel_rfl) ⟨trivial, (congrArg (AV.int .i64) (eqF h1 (eqF h2 (eqF h3 rfl))))⟩
noncomputable def s126 : Ans := fun xs => match xs with
  | [.agg [.int .i64 x0, .int .i64 x1, y2], .int .i64 x3] => bif isSl 10 y2 then some (some (okSl e68 d68 y2 ∧ 0 ≤ x0 ∧ x0 ≤ 1048576), .int .i64 (g126 x0 x1 (toSl d68 y2) x3)) else none
  | _ => none
theorem k126 : SOk Try.prog 126 s126 := ⟨⟨_, _, Try.func126, rfl, by kernel_rfl⟩, fun args pre r h hp => by
  unfold s126 at h
  split at h
  · obtain ⟨b0, h⟩ := cond_some h
    cases h
    exact (pc126 _ _ _ _ hp.1.2.1 hp.1.2.2).weak (l1 (aG (l1 cI (l1 cI (l1 (slLe b0 hp.1.1) l0)))) (l1 aI l0))
  · cases h⟩
theorem chk126 (x0 x1 : Int) (x2 : Sl T68) (x3 : Int) : (g126 x0 x1 x2 x3 ≠ -1 ∧ g126 x0 x1 x2 x3 ≠ -2) ∧ (0 ≤ x0 ∧ x0 ≤ 1048576) ∧ x2.n ≤ 549755813888 → (x0 ≤ x3 ∧ x3 ≤ x0 + (x2.n : Int)) ∧ g125 x0 x2 = x0 + (x2.n : Int) := fun ⟨⟨h1, h2⟩, h3, h4⟩ => by
  have e := e125 x0 x2 h3.1 h3.2 h4
  simp only [g126, e] at h1 h2
  refine ⟨?_, e⟩
  by_cases a : x3 < x0
  · simp [a] at h1
  · by_cases b : x3 > x0 + (x2.n : Int)
    · simp [a, b] at h2
    · omega
noncomputable def g59_0 (x0 : Int) (x1 : Int) (x2 : Sl T68) : Int := (bif ((g55 x0 x1 x2) != 0) then 0 else (g125 x0 x2))
noncomputable def g59_1 (x0 : Int) (x1 : Int) (x2 : Sl T68) : Int := (bif ((g55 x0 x1 x2) != 0) then 0 else (g126 x0 x1 x2 (g125 x0 x2)))
noncomputable def g59_2 (x0 : Int) (x1 : Int) (x2 : Sl T68) : Int := (bif ((g55 x0 x1 x2) != 0) then (g55 x0 x1 x2) else 0)
noncomputable abbrev g59_e : Env := mkE [(55, s55), (125, s125), (126, s126)]
theorem g59_e_ok : g59_e.Ok := mkE_ok ⟨k55, k125, k126, trivial⟩
theorem pc59 (x0 : Int) (x1 : Int) (x2 : Sl T68) : PureCall Try.prog 59 [.agg [.int .i64 x0, .int .i64 x1, ofSl 10 e68 x2]] (.tup [.int .i64 (g59_0 x0 x1 x2), .int .i64 (g59_1 x0 x1 x2), .int .i64 (g59_2 x0 x1 x2)]) := by
  refine PureCall.fine fun hf => ?_
  have hf_x2 : Fine (ofSl 10 e68 x2) := hf.1.2.2.1
  have hn_x2 : x2.n ≤ 549755813888 := hf_x2.len
  refine pure_of_WP (E := g59_e) g59_e_ok Try.func59 rfl _ _ ?_
  refine WP.step0 g59_e_ok ⟨U :: .ptr 0 0 :: .int .i64 0 :: .int .i64 0 :: .int .i64 0 :: us 12 [], [[.int .i64 x0, .int .i64 x1, ofSl 10 e68 x2]]⟩ (by kernel_rfl) ?_
  refine WP.stepE g59_e_ok ⟨U :: .ptr 0 0 :: .int .i64 0 :: .int .i64 0 :: .int .i64 0 :: .int .i64 (g55 x0 x1 x2) :: us 11 [], [[.int .i64 x0, .int .i64 x1, ofSl 10 e68 x2]]⟩ (fun q => (okSl e68 d68 (ofSl 10 e68 x2) ∧ q)) (by kernel_rfl) ⟨(okOf ed68 10 x2), rfl⟩ ?_
  refine WP.seq ?_
  refine WP.step0 g59_e_ok ⟨U :: .ptr 0 0 :: .int .i64 0 :: .int .i64 0 :: .int .i64 0 :: .int .i64 (g55 x0 x1 x2) :: U :: U :: U :: .bool ((g55 x0 x1 x2) != 0) :: us 7 [], [[.int .i64 x0, .int .i64 x1, ofSl 10 e68 x2]]⟩ (by kernel_rfl) ?_
  refine WP.condR ((g55 x0 x1 x2) != 0) rfl (fun h1 => ?_) (fun h1 => ?_)
  · skip
    refine WP.step0 g59_e_ok ⟨U :: .ptr 0 0 :: .int .i64 0 :: .int .i64 0 :: .int .i64 (g55 x0 x1 x2) :: us 12 [], [[.int .i64 x0, .int .i64 x1, ofSl 10 e68 x2]]⟩ (by kernel_rfl) ?_
    exact WP.retP (True ∧ (((.int .i64 0 : AV) = .int .i64 (g59_0 x0 x1 x2)) ∧ ((.int .i64 0 : AV) = .int .i64 (g59_1 x0 x1 x2)) ∧ ((.int .i64 (g55 x0 x1 x2) : AV) = .int .i64 (g59_2 x0 x1 x2)) ∧ True)) (by kernel_rfl) ⟨trivial, ⟨(congrArg (AV.int .i64) (eqT h1 rfl)), (congrArg (AV.int .i64) (eqT h1 rfl)), (congrArg (AV.int .i64) (eqT h1 rfl)), trivial⟩⟩
  · skip
    refine WP.skip ?_
    refine WP.stepE g59_e_ok ⟨U :: U :: .int .i64 (g125 x0 x2) :: .int .i64 (g126 x0 x1 x2 (g125 x0 x2)) :: .int .i64 0 :: us 12 [], []⟩ (fun q => (okSl e68 d68 (ofSl 10 e68 x2) ∧ (okSl e68 d68 (ofSl 10 e68 x2) ∧ ((okSl e68 d68 (ofSl 10 e68 x2) ∧ (0 ≤ x0) ∧ (x0 ≤ 1048576)) ∧ (true = true ∧ q))))) (by kernel_rfl) ⟨(okOf ed68 10 x2), ⟨(okOf ed68 10 x2), ⟨⟨(okOf ed68 10 x2), (by have := chk55 _ _ _ (bne_eq_false_iff_eq.1 h1); omega), (by have := chk55 _ _ _ (bne_eq_false_iff_eq.1 h1); omega)⟩, ⟨rfl, rfl⟩⟩⟩⟩ ?_
    exact WP.retP (True ∧ (((.int .i64 (g125 x0 x2) : AV) = .int .i64 (g59_0 x0 x1 x2)) ∧ ((.int .i64 (g126 x0 x1 x2 (g125 x0 x2)) : AV) = .int .i64 (g59_1 x0 x1 x2)) ∧ ((.int .i64 0 : AV) = .int .i64 (g59_2 x0 x1 x2)) ∧ True)) (by kernel_rfl) ⟨trivial, ⟨(congrArg (AV.int .i64) (eqF h1 rfl)), (congrArg (AV.int .i64) (eqF h1 rfl)), (congrArg (AV.int .i64) (eqF h1 rfl)), trivial⟩⟩
noncomputable def s59 : Ans := fun xs => match xs with
  | [.agg [.int .i64 x0, .int .i64 x1, y2]] => bif isSl 10 y2 then some (some (okSl e68 d68 y2), .tup [.int .i64 (g59_0 x0 x1 (toSl d68 y2)), .int .i64 (g59_1 x0 x1 (toSl d68 y2)), .int .i64 (g59_2 x0 x1 (toSl d68 y2))]) else none
  | _ => none
theorem k59 : SOk Try.prog 59 s59 := ⟨⟨_, _, Try.func59, rfl, by kernel_rfl⟩, fun args pre r h hp => by
  unfold s59 at h
  split at h
  · obtain ⟨b0, h⟩ := cond_some h
    cases h
    exact (pc59 _ _ _).weak (l1 (aG (l1 cI (l1 cI (l1 (slLe b0 hp.1) l0)))) l0)
  · cases h⟩
noncomputable def g60_m1 (x0 : Int) (x1 : Int) (x2 : Sl T68) (x3 : Int) (x4 : Int) : Bool := (bif (decide (x4 > (g124_1 x1 x2))) then true else (bif (x4 == (g124_1 x1 x2)) then (decide (x3 ≥ (g124_0 x0 x2))) else false))
noncomputable def g60_0 (x0 : Int) (x1 : Int) (x2 : Sl T68) (x3 : Int) (x4 : Int) : Bool := (bif ((g53 x0 x1 x2) != 0) then false else (g60_m1 x0 x1 x2 x3 x4))
noncomputable def g60_1 (x0 : Int) (x1 : Int) (x2 : Sl T68) : Int := (bif ((g53 x0 x1 x2) != 0) then (g53 x0 x1 x2) else 0)
noncomputable abbrev g60_e : Env := mkE [(53, s53), (124, s124)]
theorem g60_e_ok : g60_e.Ok := mkE_ok ⟨k53, k124, trivial⟩
theorem pc60 (x0 : Int) (x1 : Int) (x2 : Sl T68) (x3 : Int) (x4 : Int) : PureCall Try.prog 60 [.agg [.int .i64 x0, .int .i64 x1, ofSl 10 e68 x2], .int .i64 x3, .int .i64 x4] (.tup [.bool (g60_0 x0 x1 x2 x3 x4), .int .i64 (g60_1 x0 x1 x2)]) := by
  refine PureCall.fine fun hf => ?_
  have hf_x2 : Fine (ofSl 10 e68 x2) := hf.1.2.2.1
  have hn_x2 : x2.n ≤ 549755813888 := hf_x2.len
  refine pure_of_WP (E := g60_e) g60_e_ok Try.func60 rfl _ _ ?_
  refine WP.step0 g60_e_ok ⟨U :: .int .i64 x3 :: .int .i64 x4 :: .ptr 0 0 :: U :: U :: .bool false :: .int .i64 0 :: us 26 [], [[.int .i64 x0, .int .i64 x1, ofSl 10 e68 x2]]⟩ (by kernel_rfl) ?_
  refine WP.seq ?_
  refine WP.stepE g60_e_ok ⟨U :: .int .i64 x3 :: .int .i64 x4 :: .ptr 0 0 :: U :: U :: .bool false :: .int .i64 0 :: .int .i64 (g53 x0 x1 x2) :: us 25 [], [[.int .i64 x0, .int .i64 x1, ofSl 10 e68 x2]]⟩ (fun q => (okSl e68 d68 (ofSl 10 e68 x2) ∧ q)) (by kernel_rfl) ⟨(okOf ed68 10 x2), rfl⟩ ?_
  refine WP.step0 g60_e_ok ⟨U :: .int .i64 x3 :: .int .i64 x4 :: .ptr 0 0 :: U :: U :: .bool false :: .int .i64 0 :: .int .i64 (g53 x0 x1 x2) :: us 5 (.bool ((g53 x0 x1 x2) != 0) :: us 19 []), [[.int .i64 x0, .int .i64 x1, ofSl 10 e68 x2]]⟩ (by kernel_rfl) ?_
  refine WP.condR ((g53 x0 x1 x2) != 0) rfl (fun h1 => ?_) (fun h1 => ?_)
  · skip
    refine WP.step0 g60_e_ok ⟨U :: .int .i64 x3 :: .int .i64 x4 :: .ptr 0 0 :: U :: U :: .bool false :: .int .i64 (g53 x0 x1 x2) :: us 26 [], [[.int .i64 x0, .int .i64 x1, ofSl 10 e68 x2]]⟩ (by kernel_rfl) ?_
    exact WP.retP (True ∧ (((.bool false : AV) = .bool (g60_0 x0 x1 x2 x3 x4)) ∧ ((.int .i64 (g53 x0 x1 x2) : AV) = .int .i64 (g60_1 x0 x1 x2)) ∧ True)) (by kernel_rfl) ⟨trivial, ⟨(congrArg AV.bool (eqT h1 rfl)), (congrArg (AV.int .i64) (eqT h1 rfl)), trivial⟩⟩
  · skip
    refine WP.skip ?_
    refine WP.stepE g60_e_ok ⟨U :: .int .i64 x3 :: .int .i64 x4 :: U :: U :: U :: .bool false :: .int .i64 0 :: U :: .int .i64 (g124_0 x0 x2) :: .int .i64 (g124_1 x1 x2) :: us 23 [], []⟩ (fun q => (okSl e68 d68 (ofSl 10 e68 x2) ∧ q)) (by kernel_rfl) ⟨(okOf ed68 10 x2), rfl⟩ ?_
    refine WP.stepM g60_e_ok (fun a : Bool => ⟨us 6 (.bool a :: .int .i64 0 :: us 26 []), []⟩) (g60_m1 x0 x1 x2 x3 x4) (fun K => (((decide (x4 > (g124_1 x1 x2))) = true → K true) ∧ ((decide (x4 > (g124_1 x1 x2))) = false → (((x4 == (g124_1 x1 x2)) = true → K (decide (x3 ≥ (g124_0 x0 x2)))) ∧ ((x4 == (g124_1 x1 x2)) = false → K false))))) (by kernel_rfl) ⟨fun h2 => (KM.mk (eqT h2 rfl)), fun h2 => ⟨fun h3 => (KM.mk (eqF h2 (eqT h3 rfl))), fun h3 => (KM.mk (eqF h2 (eqF h3 rfl)))⟩⟩ ?_
    exact WP.retP (True ∧ (((.bool (g60_m1 x0 x1 x2 x3 x4) : AV) = .bool (g60_0 x0 x1 x2 x3 x4)) ∧ ((.int .i64 0 : AV) = .int .i64 (g60_1 x0 x1 x2)) ∧ True)) (by kernel_rfl) ⟨trivial, ⟨(congrArg AV.bool (eqF h1 rfl)), (congrArg (AV.int .i64) (eqF h1 rfl)), trivial⟩⟩
noncomputable def s60 : Ans := fun xs => match xs with
  | [.agg [.int .i64 x0, .int .i64 x1, y2], .int .i64 x3, .int .i64 x4] => bif isSl 10 y2 then some (some (okSl e68 d68 y2), .tup [.bool (g60_0 x0 x1 (toSl d68 y2) x3 x4), .int .i64 (g60_1 x0 x1 (toSl d68 y2))]) else none
  | _ => none
theorem k60 : SOk Try.prog 60 s60 := ⟨⟨_, _, Try.func60, rfl, by kernel_rfl⟩, fun args pre r h hp => by
  unfold s60 at h
  split at h
  · obtain ⟨b0, h⟩ := cond_some h
    cases h
    exact (pc60 _ _ _ _ _).weak (l1 (aG (l1 cI (l1 cI (l1 (slLe b0 hp.1) l0)))) (l1 aI (l1 aI l0)))
  · cases h⟩
noncomputable def g61_0 (x0 : Int) (x1 : Int) (x2 : Sl T68) (x3 : Int) (x4 : Int) : Bool := (bif ((g55 x0 x1 x2) != 0) then false else (bif (x4 != (g126 x0 x1 x2 (g125 x0 x2))) then (decide (x4 > (g126 x0 x1 x2 (g125 x0 x2)))) else (decide (x3 ≥ (g125 x0 x2)))))
noncomputable def g61_1 (x0 : Int) (x1 : Int) (x2 : Sl T68) : Int := (bif ((g55 x0 x1 x2) != 0) then (g55 x0 x1 x2) else 0)
noncomputable abbrev g61_e : Env := mkE [(55, s55), (125, s125), (126, s126)]
theorem g61_e_ok : g61_e.Ok := mkE_ok ⟨k55, k125, k126, trivial⟩
theorem pc61 (x0 : Int) (x1 : Int) (x2 : Sl T68) (x3 : Int) (x4 : Int) : PureCall Try.prog 61 [.agg [.int .i64 x0, .int .i64 x1, ofSl 10 e68 x2], .int .i64 x3, .int .i64 x4] (.tup [.bool (g61_0 x0 x1 x2 x3 x4), .int .i64 (g61_1 x0 x1 x2)]) := by
  refine PureCall.fine fun hf => ?_
  have hf_x2 : Fine (ofSl 10 e68 x2) := hf.1.2.2.1
  have hn_x2 : x2.n ≤ 549755813888 := hf_x2.len
  refine pure_of_WP (E := g61_e) g61_e_ok Try.func61 rfl _ _ ?_
  refine WP.step0 g61_e_ok ⟨U :: .int .i64 x3 :: .int .i64 x4 :: .ptr 0 0 :: U :: U :: .bool false :: .int .i64 0 :: us 21 [], [[.int .i64 x0, .int .i64 x1, ofSl 10 e68 x2]]⟩ (by kernel_rfl) ?_
  refine WP.stepE g61_e_ok ⟨U :: .int .i64 x3 :: .int .i64 x4 :: .ptr 0 0 :: U :: U :: .bool false :: .int .i64 0 :: .int .i64 (g55 x0 x1 x2) :: us 20 [], [[.int .i64 x0, .int .i64 x1, ofSl 10 e68 x2]]⟩ (fun q => (okSl e68 d68 (ofSl 10 e68 x2) ∧ q)) (by kernel_rfl) ⟨(okOf ed68 10 x2), rfl⟩ ?_
  refine WP.seq ?_
  refine WP.step0 g61_e_ok ⟨U :: .int .i64 x3 :: .int .i64 x4 :: .ptr 0 0 :: U :: U :: .bool false :: .int .i64 0 :: .int .i64 (g55 x0 x1 x2) :: us 4 (.bool ((g55 x0 x1 x2) != 0) :: us 15 []), [[.int .i64 x0, .int .i64 x1, ofSl 10 e68 x2]]⟩ (by kernel_rfl) ?_
  refine WP.condR ((g55 x0 x1 x2) != 0) rfl (fun h1 => ?_) (fun h1 => ?_)
  · skip
    refine WP.step0 g61_e_ok ⟨U :: .int .i64 x3 :: .int .i64 x4 :: .ptr 0 0 :: U :: U :: .bool false :: .int .i64 (g55 x0 x1 x2) :: us 21 [], [[.int .i64 x0, .int .i64 x1, ofSl 10 e68 x2]]⟩ (by kernel_rfl) ?_
    exact WP.retP (True ∧ (((.bool false : AV) = .bool (g61_0 x0 x1 x2 x3 x4)) ∧ ((.int .i64 (g55 x0 x1 x2) : AV) = .int .i64 (g61_1 x0 x1 x2)) ∧ True)) (by kernel_rfl) ⟨trivial, ⟨(congrArg AV.bool (eqT h1 rfl)), (congrArg (AV.int .i64) (eqT h1 rfl)), trivial⟩⟩
  · skip
    refine WP.skip ?_
    refine WP.stepE g61_e_ok ⟨U :: .int .i64 x3 :: .int .i64 x4 :: .ptr 0 0 :: U :: U :: .bool false :: .int .i64 0 :: U :: .int .i64 (g126 x0 x1 x2 (g125 x0 x2)) :: us 19 [], [[.int .i64 x0, .int .i64 x1, ofSl 10 e68 x2]]⟩ (fun q => (okSl e68 d68 (ofSl 10 e68 x2) ∧ ((okSl e68 d68 (ofSl 10 e68 x2) ∧ (0 ≤ x0) ∧ (x0 ≤ 1048576)) ∧ (true = true ∧ q)))) (by kernel_rfl) ⟨(okOf ed68 10 x2), ⟨⟨(okOf ed68 10 x2), (by have := chk55 _ _ _ (bne_eq_false_iff_eq.1 h1); omega), (by have := chk55 _ _ _ (bne_eq_false_iff_eq.1 h1); omega)⟩, ⟨rfl, rfl⟩⟩⟩ ?_
    refine WP.seq ?_
    refine WP.step0 g61_e_ok ⟨U :: .int .i64 x3 :: .int .i64 x4 :: .ptr 0 0 :: U :: U :: .bool false :: .int .i64 0 :: U :: .int .i64 (g126 x0 x1 x2 (g125 x0 x2)) :: us 11 (.bool (x4 != (g126 x0 x1 x2 (g125 x0 x2))) :: us 7 []), [[.int .i64 x0, .int .i64 x1, ofSl 10 e68 x2]]⟩ (by kernel_rfl) ?_
    refine WP.condR (x4 != (g126 x0 x1 x2 (g125 x0 x2))) rfl (fun h2 => ?_) (fun h2 => ?_)
    · skip
      refine WP.step0 g61_e_ok ⟨U :: .int .i64 x3 :: U :: .ptr 0 0 :: U :: U :: .bool (decide (x4 > (g126 x0 x1 x2 (g125 x0 x2)))) :: .int .i64 0 :: us 21 [], [[.int .i64 x0, .int .i64 x1, ofSl 10 e68 x2]]⟩ (by kernel_rfl) ?_
      exact WP.retP (True ∧ (((.bool (decide (x4 > (g126 x0 x1 x2 (g125 x0 x2)))) : AV) = .bool (g61_0 x0 x1 x2 x3 x4)) ∧ ((.int .i64 0 : AV) = .int .i64 (g61_1 x0 x1 x2)) ∧ True)) (by kernel_rfl) ⟨trivial, ⟨(congrArg AV.bool (eqF h1 (eqT h2 rfl))), (congrArg (AV.int .i64) (eqF h1 rfl)), trivial⟩⟩
    · skip
      refine WP.skip ?_
      refine WP.stepE g61_e_ok ⟨us 6 (.bool (decide (x3 ≥ (g125 x0 x2))) :: .int .i64 0 :: us 21 []), []⟩ (fun q => (okSl e68 d68 (ofSl 10 e68 x2) ∧ q)) (by kernel_rfl) ⟨(okOf ed68 10 x2), rfl⟩ ?_
      exact WP.retP (True ∧ (((.bool (decide (x3 ≥ (g125 x0 x2))) : AV) = .bool (g61_0 x0 x1 x2 x3 x4)) ∧ ((.int .i64 0 : AV) = .int .i64 (g61_1 x0 x1 x2)) ∧ True)) (by kernel_rfl) ⟨trivial, ⟨(congrArg AV.bool (eqF h1 (eqF h2 rfl))), (congrArg (AV.int .i64) (eqF h1 rfl)), trivial⟩⟩
noncomputable def s61 : Ans := fun xs => match xs with
  | [.agg [.int .i64 x0, .int .i64 x1, y2], .int .i64 x3, .int .i64 x4] => bif isSl 10 y2 then some (some (okSl e68 d68 y2), .tup [.bool (g61_0 x0 x1 (toSl d68 y2) x3 x4), .int .i64 (g61_1 x0 x1 (toSl d68 y2))]) else none
  | _ => none
theorem k61 : SOk Try.prog 61 s61 := ⟨⟨_, _, Try.func61, rfl, by kernel_rfl⟩, fun args pre r h hp => by
  unfold s61 at h
  split at h
  · obtain ⟨b0, h⟩ := cond_some h
    cases h
    exact (pc61 _ _ _ _ _).weak (l1 (aG (l1 cI (l1 cI (l1 (slLe b0 hp.1) l0)))) (l1 aI (l1 aI l0)))
  · cases h⟩
noncomputable def g127_0 (x0 : Int) (x1 : Int) (x2 : Sl T68) (x3 : Int) : Int := (bif (decide (x3 < x0)) then 0 else (bif (x3 == x0) then x1 else (bif (decide ((IntKind.i64.wrap (x3 - x0)) > (x2.n : Int))) then 0 else (x2.at' (Int.toNat (IntKind.i64.wrap ((IntKind.i64.wrap (x3 - x0)) - 1)))).c0)))
noncomputable def g127_1 (x0 : Int) (x2 : Sl T68) (x3 : Int) : Int := (bif (decide (x3 < x0)) then 11 else (bif (x3 == x0) then 0 else (bif (decide ((IntKind.i64.wrap (x3 - x0)) > (x2.n : Int))) then 5 else 0)))
noncomputable abbrev g127_e : Env := mkE []
theorem g127_e_ok : g127_e.Ok := mkE_ok trivial
theorem pc127 (x0 : Int) (x1 : Int) (x2 : Sl T68) (x3 : Int) (hq0 : 0 ≤ x0) (hq1 : x0 ≤ 1048576) (hq2 : x3 ≤ 9223372036854775807) : PureCall Try.prog 127 [.agg [.int .i64 x0, .int .i64 x1, ofSl 10 e68 x2], .int .i64 x3] (.tup [.int .i64 (g127_0 x0 x1 x2 x3), .int .i64 (g127_1 x0 x2 x3)]) := by
  refine PureCall.fine fun hf => ?_
  have hf_x2 : Fine (ofSl 10 e68 x2) := hf.1.2.2.1
  have hn_x2 : x2.n ≤ 549755813888 := hf_x2.len
  refine pure_of_WP (E := g127_e) g127_e_ok Try.func127 rfl _ _ ?_
  refine WP.step0 g127_e_ok ⟨U :: .int .i64 x3 :: .ptr 0 0 :: U :: .int .i64 0 :: .int .i64 0 :: us 31 [], [[.int .i64 x0, .int .i64 x1, ofSl 10 e68 x2]]⟩ (by kernel_rfl) ?_
  refine WP.seq ?_
  refine WP.block ?_
  refine WP.step0 g127_e_ok ⟨U :: .int .i64 x3 :: .ptr 0 0 :: U :: .int .i64 0 :: .int .i64 0 :: .bool (decide (x3 < x0)) :: us 30 [], [[.int .i64 x0, .int .i64 x1, ofSl 10 e68 x2]]⟩ (by kernel_rfl) ?_
  refine WP.condR (decide (x3 < x0)) rfl (fun h1 => ?_) (fun h1 => ?_)
  · skip
    refine WP.step0 g127_e_ok ⟨U :: .int .i64 x3 :: .ptr 0 0 :: U :: .int .i64 0 :: .int .i64 11 :: us 31 [], [[.int .i64 x0, .int .i64 x1, ofSl 10 e68 x2]]⟩ (by kernel_rfl) ?_
    exact WP.retP (True ∧ (((.int .i64 0 : AV) = .int .i64 (g127_0 x0 x1 x2 x3)) ∧ ((.int .i64 11 : AV) = .int .i64 (g127_1 x0 x2 x3)) ∧ True)) (by kernel_rfl) ⟨trivial, ⟨(congrArg (AV.int .i64) (eqT h1 rfl)), (congrArg (AV.int .i64) (eqT h1 rfl)), trivial⟩⟩
  · skip
    refine WP.step0 g127_e_ok ⟨U :: .int .i64 x3 :: .ptr 0 0 :: U :: .int .i64 0 :: .int .i64 0 :: us 5 (.bool (x3 == x0) :: us 25 []), [[.int .i64 x0, .int .i64 x1, ofSl 10 e68 x2]]⟩ (by kernel_rfl) ?_
    refine WP.condR (x3 == x0) rfl (fun h2 => ?_) (fun h2 => ?_)
    · skip
      refine WP.step0 g127_e_ok ⟨U :: .int .i64 x3 :: .ptr 0 0 :: U :: .int .i64 x1 :: .int .i64 0 :: us 31 [], [[.int .i64 x0, .int .i64 x1, ofSl 10 e68 x2]]⟩ (by kernel_rfl) ?_
      exact WP.retP (True ∧ (((.int .i64 x1 : AV) = .int .i64 (g127_0 x0 x1 x2 x3)) ∧ ((.int .i64 0 : AV) = .int .i64 (g127_1 x0 x2 x3)) ∧ True)) (by kernel_rfl) ⟨trivial, ⟨(congrArg (AV.int .i64) (eqF h1 (eqT h2 rfl))), (congrArg (AV.int .i64) (eqF h1 (eqT h2 rfl))), trivial⟩⟩
    · skip
      refine WP.step0 g127_e_ok ⟨U :: .int .i64 x3 :: .ptr 0 0 :: U :: .int .i64 0 :: .int .i64 0 :: us 12 (.bool (decide ((IntKind.i64.wrap (x3 - x0)) > (x2.n : Int))) :: us 18 []), [[.int .i64 x0, .int .i64 x1, ofSl 10 e68 x2]]⟩ (by kernel_rfl) ?_
      refine WP.condR (decide ((IntKind.i64.wrap (x3 - x0)) > (x2.n : Int))) rfl (fun h3 => ?_) (fun h3 => ?_)
      · skip
        refine WP.step0 g127_e_ok ⟨U :: .int .i64 x3 :: .ptr 0 0 :: U :: .int .i64 0 :: .int .i64 5 :: us 31 [], [[.int .i64 x0, .int .i64 x1, ofSl 10 e68 x2]]⟩ (by kernel_rfl) ?_
        exact WP.retP (True ∧ (((.int .i64 0 : AV) = .int .i64 (g127_0 x0 x1 x2 x3)) ∧ ((.int .i64 5 : AV) = .int .i64 (g127_1 x0 x2 x3)) ∧ True)) (by kernel_rfl) ⟨trivial, ⟨(congrArg (AV.int .i64) (eqF h1 (eqF h2 (eqT h3 rfl)))), (congrArg (AV.int .i64) (eqF h1 (eqF h2 (eqT h3 rfl)))), trivial⟩⟩
      · skip
        refine WP.skip ?_
        refine WP.stepE g127_e_ok ⟨us 4 (.int .i64 (x2.at' (Int.toNat (IntKind.i64.wrap ((IntKind.i64.wrap (x3 - x0)) - 1)))).c0 :: .int .i64 0 :: us 31 []), []⟩ (fun q => ((0 ≤ (IntKind.i64.wrap ((IntKind.i64.wrap (x3 - x0)) - 1)) ∧ (IntKind.i64.wrap ((IntKind.i64.wrap (x3 - x0)) - 1)) < (x2.n : Int)) ∧ q)) (by kernel_rfl) ⟨(by have := of_decide_eq_false h1; have := ne_of_beq_false h2; have := of_decide_eq_false h3; first | omega | (have := wrap64 (x := (x3 - x0)) (by omega) (by omega); have := wrap64 (x := ((IntKind.i64.wrap (x3 - x0)) - 1)) (by omega) (by omega); omega)), rfl⟩ ?_
        exact WP.retP (True ∧ (((.int .i64 (x2.at' (Int.toNat (IntKind.i64.wrap ((IntKind.i64.wrap (x3 - x0)) - 1)))).c0 : AV) = .int .i64 (g127_0 x0 x1 x2 x3)) ∧ ((.int .i64 0 : AV) = .int .i64 (g127_1 x0 x2 x3)) ∧ True)) (by kernel_rfl) ⟨trivial, ⟨(congrArg (AV.int .i64) (eqF h1 (eqF h2 (eqF h3 rfl)))), (congrArg (AV.int .i64) (eqF h1 (eqF h2 (eqF h3 rfl)))), trivial⟩⟩
noncomputable def s127 : Ans := fun xs => match xs with
  | [.agg [.int .i64 x0, .int .i64 x1, y2], .int .i64 x3] => bif isSl 10 y2 then some (some (okSl e68 d68 y2 ∧ 0 ≤ x0 ∧ x0 ≤ 1048576 ∧ x3 ≤ 9223372036854775807), .tup [.int .i64 (g127_0 x0 x1 (toSl d68 y2) x3), .int .i64 (g127_1 x0 (toSl d68 y2) x3)]) else none
  | _ => none
theorem k127 : SOk Try.prog 127 s127 := ⟨⟨_, _, Try.func127, rfl, by kernel_rfl⟩, fun args pre r h hp => by
  unfold s127 at h
  split at h
  · obtain ⟨b0, h⟩ := cond_some h
    cases h
    exact (pc127 _ _ _ _ hp.1.2.1 hp.1.2.2.1 hp.1.2.2.2).weak (l1 (aG (l1 cI (l1 cI (l1 (slLe b0 hp.1.1) l0)))) (l1 aI l0))
  · cases h⟩
theorem chk127 (x0 : Int) (x2 : Sl T68) (x3 : Int) : g127_1 x0 x2 x3 = 0 ∧ (0 ≤ x0 ∧ x0 ≤ 1048576) ∧ x2.n ≤ 549755813888 ∧ x3 ≤ 9223372036854775807 → x0 ≤ x3 ∧ x3 ≤ x0 + (x2.n : Int) := fun ⟨h1, h3, h4, h5⟩ => by
  simp only [g127_1] at h1
  by_cases a : x3 < x0
  · simp [a] at h1
  · rw [wrap64 (x := x3 - x0) (by omega) (by omega)] at h1
    by_cases b : x3 = x0
    · omega
    · by_cases c : x3 - x0 > (x2.n : Int)
      · rw [beq_eq_false_iff_ne.2 b] at h1
        simp [a, c] at h1
      · omega
noncomputable def g62_m1 (x3 : Int) : Bool := (bif (decide (x3 < 0)) then true else (decide (x3 > 1048576)))
noncomputable def g62_0 (x0 : Int) (x1 : Int) (x2 : Sl T68) (x3 : Int) : Int := (bif ((g53 x0 x1 x2) != 0) then 0 else (bif (g62_m1 x3) then 0 else (g127_0 x0 x1 x2 x3)))
noncomputable def g62_1 (x0 : Int) (x1 : Int) (x2 : Sl T68) (x3 : Int) : Int := (bif ((g53 x0 x1 x2) != 0) then (g53 x0 x1 x2) else (bif (g62_m1 x3) then 2 else (g127_1 x0 x2 x3)))
noncomputable abbrev g62_e : Env := mkE [(53, s53), (127, s127)]
theorem g62_e_ok : g62_e.Ok := mkE_ok ⟨k53, k127, trivial⟩
theorem pc62 (x0 : Int) (x1 : Int) (x2 : Sl T68) (x3 : Int) : PureCall Try.prog 62 [.agg [.int .i64 x0, .int .i64 x1, ofSl 10 e68 x2], .int .i64 x3] (.tup [.int .i64 (g62_0 x0 x1 x2 x3), .int .i64 (g62_1 x0 x1 x2 x3)]) := by
  refine PureCall.fine fun hf => ?_
  have hf_x2 : Fine (ofSl 10 e68 x2) := hf.1.2.2.1
  have hn_x2 : x2.n ≤ 549755813888 := hf_x2.len
  refine pure_of_WP (E := g62_e) g62_e_ok Try.func62 rfl _ _ ?_
  refine WP.step0 g62_e_ok ⟨U :: .int .i64 x3 :: .ptr 0 0 :: U :: .int .i64 0 :: .int .i64 0 :: us 17 [], [[.int .i64 x0, .int .i64 x1, ofSl 10 e68 x2]]⟩ (by kernel_rfl) ?_
  refine WP.seq ?_
  refine WP.stepE g62_e_ok ⟨U :: .int .i64 x3 :: .ptr 0 0 :: U :: .int .i64 0 :: .int .i64 0 :: .int .i64 (g53 x0 x1 x2) :: us 16 [], [[.int .i64 x0, .int .i64 x1, ofSl 10 e68 x2]]⟩ (fun q => (okSl e68 d68 (ofSl 10 e68 x2) ∧ q)) (by kernel_rfl) ⟨(okOf ed68 10 x2), rfl⟩ ?_
  refine WP.step0 g62_e_ok ⟨U :: .int .i64 x3 :: .ptr 0 0 :: U :: .int .i64 0 :: .int .i64 0 :: .int .i64 (g53 x0 x1 x2) :: U :: U :: U :: .bool ((g53 x0 x1 x2) != 0) :: us 12 [], [[.int .i64 x0, .int .i64 x1, ofSl 10 e68 x2]]⟩ (by kernel_rfl) ?_
  refine WP.condR ((g53 x0 x1 x2) != 0) rfl (fun h1 => ?_) (fun h1 => ?_)
  · skip
    refine WP.step0 g62_e_ok ⟨U :: .int .i64 x3 :: .ptr 0 0 :: U :: .int .i64 0 :: .int .i64 (g53 x0 x1 x2) :: us 17 [], [[.int .i64 x0, .int .i64 x1, ofSl 10 e68 x2]]⟩ (by kernel_rfl) ?_
    exact WP.retP (True ∧ (((.int .i64 0 : AV) = .int .i64 (g62_0 x0 x1 x2 x3)) ∧ ((.int .i64 (g53 x0 x1 x2) : AV) = .int .i64 (g62_1 x0 x1 x2 x3)) ∧ True)) (by kernel_rfl) ⟨trivial, ⟨(congrArg (AV.int .i64) (eqT h1 rfl)), (congrArg (AV.int .i64) (eqT h1 rfl)), trivial⟩⟩
  · skip
    refine WP.skip ?_
    refine WP.seq ?_
    refine WP.stepM g62_e_ok (fun a : Bool => ⟨U :: .int .i64 x3 :: .ptr 0 0 :: U :: .int .i64 0 :: .int .i64 0 :: us 11 (.bool a :: us 5 []), [[.int .i64 x0, .int .i64 x1, ofSl 10 e68 x2]]⟩) (g62_m1 x3) (fun K => (((decide (x3 < 0)) = true → K true) ∧ ((decide (x3 < 0)) = false → K (decide (x3 > 1048576))))) (by kernel_rfl) ⟨fun h2 => (KM.mk (eqT h2 rfl)), fun h2 => (KM.mk (eqF h2 rfl))⟩ ?_
    refine WP.condR (g62_m1 x3) rfl (fun h3 => ?_) (fun h3 => ?_)
    · skip
      refine WP.step0 g62_e_ok ⟨U :: .int .i64 x3 :: .ptr 0 0 :: U :: .int .i64 0 :: .int .i64 2 :: us 17 [], [[.int .i64 x0, .int .i64 x1, ofSl 10 e68 x2]]⟩ (by kernel_rfl) ?_
      exact WP.retP (True ∧ (((.int .i64 0 : AV) = .int .i64 (g62_0 x0 x1 x2 x3)) ∧ ((.int .i64 2 : AV) = .int .i64 (g62_1 x0 x1 x2 x3)) ∧ True)) (by kernel_rfl) ⟨trivial, ⟨(congrArg (AV.int .i64) (eqF h1 (eqT h3 rfl))), (congrArg (AV.int .i64) (eqF h1 (eqT h3 rfl))), trivial⟩⟩
    · skip
      refine WP.skip ?_
      refine WP.stepE g62_e_ok ⟨us 4 (.int .i64 (g127_0 x0 x1 x2 x3) :: .int .i64 (g127_1 x0 x2 x3) :: us 17 []), []⟩ (fun q => ((okSl e68 d68 (ofSl 10 e68 x2) ∧ (0 ≤ x0) ∧ (x0 ≤ 1048576) ∧ (x3 ≤ 9223372036854775807)) ∧ q)) (by kernel_rfl) ⟨⟨(okOf ed68 10 x2), (by have := chk53 _ _ _ (bne_eq_false_iff_eq.1 h1); have := h3; simp [g62_m1] at this; omega), (by have := chk53 _ _ _ (bne_eq_false_iff_eq.1 h1); have := h3; simp [g62_m1] at this; omega), (by have := chk53 _ _ _ (bne_eq_false_iff_eq.1 h1); have := h3; simp [g62_m1] at this; omega)⟩, rfl⟩ ?_
      exact WP.retP (True ∧ (((.int .i64 (g127_0 x0 x1 x2 x3) : AV) = .int .i64 (g62_0 x0 x1 x2 x3)) ∧ ((.int .i64 (g127_1 x0 x2 x3) : AV) = .int .i64 (g62_1 x0 x1 x2 x3)) ∧ True)) (by kernel_rfl) ⟨trivial, ⟨(congrArg (AV.int .i64) (eqF h1 (eqF h3 rfl))), (congrArg (AV.int .i64) (eqF h1 (eqF h3 rfl))), trivial⟩⟩
noncomputable def s62 : Ans := fun xs => match xs with
  | [.agg [.int .i64 x0, .int .i64 x1, y2], .int .i64 x3] => bif isSl 10 y2 then some (some (okSl e68 d68 y2), .tup [.int .i64 (g62_0 x0 x1 (toSl d68 y2) x3), .int .i64 (g62_1 x0 x1 (toSl d68 y2) x3)]) else none
  | _ => none
theorem k62 : SOk Try.prog 62 s62 := ⟨⟨_, _, Try.func62, rfl, by kernel_rfl⟩, fun args pre r h hp => by
  unfold s62 at h
  split at h
  · obtain ⟨b0, h⟩ := cond_some h
    cases h
    exact (pc62 _ _ _ _).weak (l1 (aG (l1 cI (l1 cI (l1 (slLe b0 hp.1) l0)))) (l1 aI l0))
  · cases h⟩
noncomputable def g63_m1 (x0 : Int) (x1 : Int) (x2 : Sl T68) (x3 : Int) : Bool := (bif ((g55 x0 x1 x2) == 0) then (!(g112 x3 0 1048576)) else false)
noncomputable def g63_m2 (x0 : Int) (x1 : Int) (x2 : Sl T68) (x3 : Int) : Int := (bif (g63_m1 x0 x1 x2 x3) then 2 else (g55 x0 x1 x2))
noncomputable def g63_0 (x0 : Int) (x1 : Int) (x2 : Sl T68) (x3 : Int) : Int := (bif ((g63_m2 x0 x1 x2 x3) != 0) then 0 else (bif ((g126 x0 x1 x2 x3) == (-1)) then 0 else (bif ((g126 x0 x1 x2 x3) == (-2)) then 0 else (g126 x0 x1 x2 x3))))
noncomputable def g63_1 (x0 : Int) (x1 : Int) (x2 : Sl T68) (x3 : Int) : Int := (bif ((g63_m2 x0 x1 x2 x3) != 0) then (g63_m2 x0 x1 x2 x3) else (bif ((g126 x0 x1 x2 x3) == (-1)) then 11 else (bif ((g126 x0 x1 x2 x3) == (-2)) then 5 else 0)))
theorem f63 (x0 x1 : Int) (x2 : Sl T68) (x3 : Int) (h : g63_m2 x0 x1 x2 x3 = 0) : (0 ≤ x0 ∧ x0 ≤ 1048576) ∧ x2.n ≤ 200 ∧ 0 ≤ x3 ∧ x3 ≤ 1048576 := by
  unfold g63_m2 at h
  cases hm : g63_m1 x0 x1 x2 x3 with
  | true => rw [hm] at h; simp at h
  | false =>
    rw [hm] at h
    have h55 : g55 x0 x1 x2 = 0 := h
    have := chk55 x0 x1 x2 h55
    unfold g63_m1 at hm
    simp [h55, g112, g112_m1] at hm
    omega
noncomputable abbrev g63_e : Env := mkE [(55, s55), (112, s112), (126, s126)]
theorem g63_e_ok : g63_e.Ok := mkE_ok ⟨k55, k112, k126, trivial⟩
theorem pc63 (x0 : Int) (x1 : Int) (x2 : Sl T68) (x3 : Int) : PureCall Try.prog 63 [.agg [.int .i64 x0, .int .i64 x1, ofSl 10 e68 x2], .int .i64 x3] (.tup [.int .i64 (g63_0 x0 x1 x2 x3), .int .i64 (g63_1 x0 x1 x2 x3)]) := by
  refine PureCall.fine fun hf => ?_
  have hf_x2 : Fine (ofSl 10 e68 x2) := hf.1.2.2.1
  have hn_x2 : x2.n ≤ 549755813888 := hf_x2.len
  refine pure_of_WP (E := g63_e) g63_e_ok Try.func63 rfl _ _ ?_
  refine WP.step0 g63_e_ok ⟨U :: .int .i64 x3 :: .ptr 0 0 :: U :: .int .i64 0 :: .int .i64 0 :: us 22 [], [[.int .i64 x0, .int .i64 x1, ofSl 10 e68 x2]]⟩ (by kernel_rfl) ?_
  refine WP.stepE g63_e_ok ⟨U :: .int .i64 x3 :: .ptr 0 0 :: U :: .int .i64 0 :: .int .i64 0 :: .int .i64 (g55 x0 x1 x2) :: us 21 [], [[.int .i64 x0, .int .i64 x1, ofSl 10 e68 x2]]⟩ (fun q => (okSl e68 d68 (ofSl 10 e68 x2) ∧ q)) (by kernel_rfl) ⟨(okOf ed68 10 x2), rfl⟩ ?_
  refine WP.join ⟨U :: .int .i64 x3 :: .ptr 0 0 :: U :: .int .i64 0 :: .int .i64 0 :: .int .i64 (g63_m2 x0 x1 x2 x3) :: us 21 [], [[.int .i64 x0, .int .i64 x1, ofSl 10 e68 x2]]⟩ ?_ ?_
  · skip
    refine WP.stepM g63_e_ok (fun a : Bool => ⟨U :: .int .i64 x3 :: .ptr 0 0 :: U :: .int .i64 0 :: .int .i64 0 :: .int .i64 (g55 x0 x1 x2) :: us 9 (.bool a :: us 11 []), [[.int .i64 x0, .int .i64 x1, ofSl 10 e68 x2]]⟩) (g63_m1 x0 x1 x2 x3) (fun K => ((((g55 x0 x1 x2) == 0) = true → K (!(g112 x3 0 1048576))) ∧ (((g55 x0 x1 x2) == 0) = false → K false))) (by kernel_rfl) ⟨fun h1 => (KM.mk (eqT h1 rfl)), fun h1 => (KM.mk (eqF h1 rfl))⟩ ?_
    refine WP.condR (g63_m1 x0 x1 x2 x3) rfl (fun h2 => ?_) (fun h2 => ?_)
    · skip
      refine WP.fin0 g63_e_ok ⟨U :: .int .i64 x3 :: .ptr 0 0 :: U :: .int .i64 0 :: .int .i64 0 :: .int .i64 2 :: us 21 [], [[.int .i64 x0, .int .i64 x1, ofSl 10 e68 x2]]⟩ (by kernel_rfl) ?_
      exact Eq.mpr (β := ((((x3 : Int) = x3) ∧ ((.ptr 0 0 : AV) = .ptr 0 0) ∧ ((0 : Int) = 0) ∧ ((0 : Int) = 0) ∧ ((2 : Int) = (g63_m2 x0 x1 x2 x3)) ∧ True) ∧ ((((x0 : Int) = x0) ∧ ((x1 : Int) = x1) ∧ (x2.n = x2.n ∧ ∀ i, i < x2.n → e68 (x2.at' i) = e68 (x2.at' i)) ∧ True) ∧ True) ∧ true = true)) (by kernel_rfl) ⟨⟨rfl, rfl, rfl, rfl, (eqT h2 rfl), trivial⟩, ⟨⟨rfl, rfl, ⟨rfl, fun _ _ => rfl⟩, trivial⟩, trivial⟩, rfl⟩
    · skip
      exact WP.skipP ((((x3 : Int) = x3) ∧ ((.ptr 0 0 : AV) = .ptr 0 0) ∧ ((0 : Int) = 0) ∧ ((0 : Int) = 0) ∧ (((g55 x0 x1 x2) : Int) = (g63_m2 x0 x1 x2 x3)) ∧ True) ∧ ((((x0 : Int) = x0) ∧ ((x1 : Int) = x1) ∧ (x2.n = x2.n ∧ ∀ i, i < x2.n → e68 (x2.at' i) = e68 (x2.at' i)) ∧ True) ∧ True) ∧ true = true) (by kernel_rfl) ⟨⟨rfl, rfl, rfl, rfl, (eqF h2 rfl), trivial⟩, ⟨⟨rfl, rfl, ⟨rfl, fun _ _ => rfl⟩, trivial⟩, trivial⟩, rfl⟩
  · skip
    refine WP.seq ?_
    refine WP.step0 g63_e_ok ⟨U :: .int .i64 x3 :: .ptr 0 0 :: U :: .int .i64 0 :: .int .i64 0 :: .int .i64 (g63_m2 x0 x1 x2 x3) :: us 11 (.bool ((g63_m2 x0 x1 x2 x3) != 0) :: us 9 []), [[.int .i64 x0, .int .i64 x1, ofSl 10 e68 x2]]⟩ (by kernel_rfl) ?_
    refine WP.condR ((g63_m2 x0 x1 x2 x3) != 0) rfl (fun h3 => ?_) (fun h3 => ?_)
    · skip
      refine WP.step0 g63_e_ok ⟨U :: .int .i64 x3 :: .ptr 0 0 :: U :: .int .i64 0 :: .int .i64 (g63_m2 x0 x1 x2 x3) :: us 22 [], [[.int .i64 x0, .int .i64 x1, ofSl 10 e68 x2]]⟩ (by kernel_rfl) ?_
      exact WP.retP (True ∧ (((.int .i64 0 : AV) = .int .i64 (g63_0 x0 x1 x2 x3)) ∧ ((.int .i64 (g63_m2 x0 x1 x2 x3) : AV) = .int .i64 (g63_1 x0 x1 x2 x3)) ∧ True)) (by kernel_rfl) ⟨trivial, ⟨(congrArg (AV.int .i64) (eqT h3 rfl)), (congrArg (AV.int .i64) (eqT h3 rfl)), trivial⟩⟩
    · skip
      refine WP.skip ?_
      refine WP.stepE g63_e_ok ⟨us 4 (.int .i64 0 :: .int .i64 0 :: U :: .int .i64 (g126 x0 x1 x2 x3) :: us 20 []), []⟩ (fun q => ((okSl e68 d68 (ofSl 10 e68 x2) ∧ (0 ≤ x0) ∧ (x0 ≤ 1048576)) ∧ q)) (by kernel_rfl) ⟨⟨(okOf ed68 10 x2), (by have := f63 _ _ _ _ (bne_eq_false_iff_eq.1 h3); omega), (by have := f63 _ _ _ _ (bne_eq_false_iff_eq.1 h3); omega)⟩, rfl⟩ ?_
      refine WP.seq ?_
      refine WP.step0 g63_e_ok ⟨us 4 (.int .i64 0 :: .int .i64 0 :: U :: .int .i64 (g126 x0 x1 x2 x3) :: us 16 ([.bool ((g126 x0 x1 x2 x3) == (-1)), U, U, U])), []⟩ (by kernel_rfl) ?_
      refine WP.condR ((g126 x0 x1 x2 x3) == (-1)) rfl (fun h4 => ?_) (fun h4 => ?_)
      · skip
        refine WP.step0 g63_e_ok ⟨us 4 (.int .i64 0 :: .int .i64 11 :: U :: .int .i64 (g126 x0 x1 x2 x3) :: us 20 []), []⟩ (by kernel_rfl) ?_
        exact WP.retP (True ∧ (((.int .i64 0 : AV) = .int .i64 (g63_0 x0 x1 x2 x3)) ∧ ((.int .i64 11 : AV) = .int .i64 (g63_1 x0 x1 x2 x3)) ∧ True)) (by kernel_rfl) ⟨trivial, ⟨(congrArg (AV.int .i64) (eqF h3 (eqT h4 rfl))), (congrArg (AV.int .i64) (eqF h3 (eqT h4 rfl))), trivial⟩⟩
      · skip
        refine WP.skip ?_
        refine WP.seq ?_
        refine WP.step0 g63_e_ok ⟨us 4 (.int .i64 0 :: .int .i64 0 :: U :: .int .i64 (g126 x0 x1 x2 x3) :: us 18 ([.bool ((g126 x0 x1 x2 x3) == (-2)), U])), []⟩ (by kernel_rfl) ?_
        refine WP.condR ((g126 x0 x1 x2 x3) == (-2)) rfl (fun h5 => ?_) (fun h5 => ?_)
        · skip
          refine WP.step0 g63_e_ok ⟨us 4 (.int .i64 0 :: .int .i64 5 :: U :: .int .i64 (g126 x0 x1 x2 x3) :: us 20 []), []⟩ (by kernel_rfl) ?_
          exact WP.retP (True ∧ (((.int .i64 0 : AV) = .int .i64 (g63_0 x0 x1 x2 x3)) ∧ ((.int .i64 5 : AV) = .int .i64 (g63_1 x0 x1 x2 x3)) ∧ True)) (by kernel_rfl) ⟨trivial, ⟨(congrArg (AV.int .i64) (eqF h3 (eqF h4 (eqT h5 rfl)))), (congrArg (AV.int .i64) (eqF h3 (eqF h4 (eqT h5 rfl)))), trivial⟩⟩
        · skip
          refine WP.skip ?_
          refine WP.step0 g63_e_ok ⟨us 4 (.int .i64 (g126 x0 x1 x2 x3) :: .int .i64 0 :: us 22 []), []⟩ (by kernel_rfl) ?_
          exact WP.retP (True ∧ (((.int .i64 (g126 x0 x1 x2 x3) : AV) = .int .i64 (g63_0 x0 x1 x2 x3)) ∧ ((.int .i64 0 : AV) = .int .i64 (g63_1 x0 x1 x2 x3)) ∧ True)) (by kernel_rfl) ⟨trivial, ⟨(congrArg (AV.int .i64) (eqF h3 (eqF h4 (eqF h5 rfl)))), (congrArg (AV.int .i64) (eqF h3 (eqF h4 (eqF h5 rfl)))), trivial⟩⟩
noncomputable def s63 : Ans := fun xs => match xs with
  | [.agg [.int .i64 x0, .int .i64 x1, y2], .int .i64 x3] => bif isSl 10 y2 then some (some (okSl e68 d68 y2), .tup [.int .i64 (g63_0 x0 x1 (toSl d68 y2) x3), .int .i64 (g63_1 x0 x1 (toSl d68 y2) x3)]) else none
  | _ => none
theorem k63 : SOk Try.prog 63 s63 := ⟨⟨_, _, Try.func63, rfl, by kernel_rfl⟩, fun args pre r h hp => by
  unfold s63 at h
  split at h
  · obtain ⟨b0, h⟩ := cond_some h
    cases h
    exact (pc63 _ _ _ _).weak (l1 (aG (l1 cI (l1 cI (l1 (slLe b0 hp.1) l0)))) (l1 aI l0))
  · cases h⟩
theorem f63_1 (x0 x1 : Int) (x2 : Sl T68) (x3 : Int) : g63_1 x0 x1 x2 x3 = 0 → ((0 ≤ x0 ∧ x0 ≤ 1048576) ∧ x2.n ≤ 200 ∧ x0 + (x2.n : Int) ≤ 1048576) ∧ x0 ≤ x3 ∧ x3 ≤ x0 + (x2.n : Int) := fun h => by
  simp only [g63_1] at h
  cases hm : (g63_m2 x0 x1 x2 x3 != 0) with
  | true =>
    rw [hm] at h
    simp only [cond_true] at h
    rw [h] at hm; simp at hm
  | false =>
    have hz := bne_eq_false_iff_eq.1 hm
    have c := f63 x0 x1 x2 x3 hz
    have h55 : g55 x0 x1 x2 = 0 := by
      unfold g63_m2 at hz
      cases hb : g63_m1 x0 x1 x2 x3 with
      | true => rw [hb] at hz; simp at hz
      | false => rw [hb] at hz; exact hz
    have k := chk55 x0 x1 x2 h55
    rw [hm] at h
    simp only [cond_false] at h
    cases ha : (g126 x0 x1 x2 x3 == -1) with
    | true => rw [ha] at h; simp at h
    | false =>
      cases hb : (g126 x0 x1 x2 x3 == -2) with
      | true => rw [ha, hb] at h; simp at h
      | false =>
        have q := chk126 x0 x1 x2 x3 ⟨⟨ne_of_beq_false ha, ne_of_beq_false hb⟩, by omega, by omega⟩
        omega
end Go.Proofs.Ytchhfojblmceiaa
