/-
  Walks: what functions of the program answer, as functions.
-/
import Derived.Test.YtchhfojblmceiaaCl
import Derived.Test.YtchhfojblmceiaaU0
namespace Go.Proofs.Ytchhfojblmceiaa
open Go Go.Vc Go.RowKit
set_option maxRecDepth 100000
set_option maxHeartbeats 4000000
noncomputable def g48_m1 (x0 : Int) : Bool := (bif (x0 == 1) then true else (bif (x0 == 4) then true else (bif (x0 == 7) then true else (bif (x0 == 8) then true else (g112 x0 11 16)))))
noncomputable def g48_m2 (x0 : Int) : Bool := (bif (x0 == 3) then true else (bif (x0 == 14) then true else (x0 == 20)))
noncomputable def g48_m3 (x0 : Int) (x1 : ByteArray) (x2 : ByteArray) (x3 : ByteArray) (x4 : Int) : Bool := (bif (!(g48_m1 x0)) then (bif (!((x3 : ByteArray).toList == (⟨#[]⟩ : ByteArray).toList)) then true else (bif (!(g112 x0 4 6)) then (bif (!((x2 : ByteArray).toList == (⟨#[]⟩ : ByteArray).toList)) then true else (bif (!(g48_m2 x0)) then (bif (x4 != 0) then true else (bif (!(x0 != 22)) then (!((x1 : ByteArray).toList == (⟨#[]⟩ : ByteArray).toList)) else false)) else (bif (!(x0 != 22)) then (!((x1 : ByteArray).toList == (⟨#[]⟩ : ByteArray).toList)) else false))) else (bif (!(g48_m2 x0)) then (bif (x4 != 0) then true else (bif (!(x0 != 22)) then (!((x1 : ByteArray).toList == (⟨#[]⟩ : ByteArray).toList)) else false)) else (bif (!(x0 != 22)) then (!((x1 : ByteArray).toList == (⟨#[]⟩ : ByteArray).toList)) else false)))) else (bif (!(g112 x0 4 6)) then (bif (!((x2 : ByteArray).toList == (⟨#[]⟩ : ByteArray).toList)) then true else (bif (!(g48_m2 x0)) then (bif (x4 != 0) then true else (bif (!(x0 != 22)) then (!((x1 : ByteArray).toList == (⟨#[]⟩ : ByteArray).toList)) else false)) else (bif (!(x0 != 22)) then (!((x1 : ByteArray).toList == (⟨#[]⟩ : ByteArray).toList)) else false))) else (bif (!(g48_m2 x0)) then (bif (x4 != 0) then true else (bif (!(x0 != 22)) then (!((x1 : ByteArray).toList == (⟨#[]⟩ : ByteArray).toList)) else false)) else (bif (!(x0 != 22)) then (!((x1 : ByteArray).toList == (⟨#[]⟩ : ByteArray).toList)) else false))))
noncomputable def g48_m4 (x0 : Int) (x1 : ByteArray) (x2 : ByteArray) (x3 : ByteArray) : Bool := (bif (x0 != 22) then (bif (!(g118 x1)) then true else (bif (g112 x0 4 6) then (bif (!(g118 x2)) then true else (!(g113 x3))) else (!(g113 x3)))) else (bif (g112 x0 4 6) then (bif (!(g118 x2)) then true else (!(g113 x3))) else (!(g113 x3))))
noncomputable def g48 (x0 : Int) (x1 : ByteArray) (x2 : ByteArray) (x3 : ByteArray) (x4 : Int) : Int := (bif (!(g112 x0 1 22)) then 3 else (bif (g48_m3 x0 x1 x2 x3 x4) then 8 else (bif (g48_m4 x0 x1 x2 x3) then 1 else (bif (!(g114 x4)) then 2 else 0))))
noncomputable abbrev g48_e : Env := mkE [(112, s112), (113, s113), (114, s114), (118, s118)]
theorem g48_e_ok : g48_e.Ok := mkE_ok ⟨k112, k113, k114, k118, trivial⟩
theorem pc48 (x0 : Int) (x1 : ByteArray) (x2 : ByteArray) (x3 : ByteArray) (x4 : Int) : PureCall Try.prog 48 [.agg [.int .i64 x0, .str x1, .str x2, .str x3, .int .i64 x4]] (.int .i64 (g48 x0 x1 x2 x3 x4)) := by
  refine pure_of_WP (E := g48_e) g48_e_ok Try.func48 rfl _ _ ?_
  refine WP.step0 g48_e_ok ⟨U :: .ptr 0 0 :: .int .i64 0 :: us 110 [], [[.int .i64 x0, .str x1, .str x2, .str x3, .int .i64 x4]]⟩ (by kernel_rfl) ?_
  refine WP.seq ?_
  refine WP.step0 g48_e_ok ⟨U :: .ptr 0 0 :: .int .i64 0 :: us 7 (.bool (!(g112 x0 1 22)) :: us 102 []), [[.int .i64 x0, .str x1, .str x2, .str x3, .int .i64 x4]]⟩ (by kernel_rfl) ?_
  refine WP.condR (!(g112 x0 1 22)) rfl (fun h1 => ?_) (fun h1 => ?_)
  · skip
    refine WP.step0 g48_e_ok ⟨U :: .ptr 0 0 :: .int .i64 3 :: us 110 [], [[.int .i64 x0, .str x1, .str x2, .str x3, .int .i64 x4]]⟩ (by kernel_rfl) ?_
    exact WP.retP (True ∧ ((.int .i64 3 : AV) = .int .i64 (g48 x0 x1 x2 x3 x4))) (by kernel_rfl) ⟨trivial, (congrArg (AV.int .i64) (eqT h1 rfl))⟩
  · skip
    refine WP.skip ?_
    refine WP.stepM g48_e_ok (fun a : Bool => ⟨U :: .ptr 0 0 :: .int .i64 0 :: .bool a :: us 109 [], [[.int .i64 x0, .str x1, .str x2, .str x3, .int .i64 x4]]⟩) (g48_m1 x0) (fun K => (((x0 == 1) = true → K true) ∧ ((x0 == 1) = false → (((x0 == 4) = true → K true) ∧ ((x0 == 4) = false → (((x0 == 7) = true → K true) ∧ ((x0 == 7) = false → (((x0 == 8) = true → K true) ∧ ((x0 == 8) = false → K (g112 x0 11 16)))))))))) (by kernel_rfl) ⟨fun h2 => (KM.mk (eqT h2 rfl)), fun h2 => ⟨fun h3 => (KM.mk (eqF h2 (eqT h3 rfl))), fun h3 => ⟨fun h4 => (KM.mk (eqF h2 (eqF h3 (eqT h4 rfl)))), fun h4 => ⟨fun h5 => (KM.mk (eqF h2 (eqF h3 (eqF h4 (eqT h5 rfl))))), fun h5 => (KM.mk (eqF h2 (eqF h3 (eqF h4 (eqF h5 rfl)))))⟩⟩⟩⟩ ?_
    refine WP.step0 g48_e_ok ⟨U :: .ptr 0 0 :: .int .i64 0 :: .bool (g48_m1 x0) :: .bool (g112 x0 4 6) :: us 108 [], [[.int .i64 x0, .str x1, .str x2, .str x3, .int .i64 x4]]⟩ (by kernel_rfl) ?_
    refine WP.stepM g48_e_ok (fun a : Bool => ⟨U :: .ptr 0 0 :: .int .i64 0 :: .bool (g48_m1 x0) :: .bool (g112 x0 4 6) :: .bool a :: us 107 [], [[.int .i64 x0, .str x1, .str x2, .str x3, .int .i64 x4]]⟩) (g48_m2 x0) (fun K => (((x0 == 3) = true → K true) ∧ ((x0 == 3) = false → (((x0 == 14) = true → K true) ∧ ((x0 == 14) = false → K (x0 == 20)))))) (by kernel_rfl) ⟨fun h6 => (KM.mk (eqT h6 rfl)), fun h6 => ⟨fun h7 => (KM.mk (eqF h6 (eqT h7 rfl))), fun h7 => (KM.mk (eqF h6 (eqF h7 rfl)))⟩⟩ ?_
    refine WP.step0 g48_e_ok ⟨U :: .ptr 0 0 :: .int .i64 0 :: .bool (g48_m1 x0) :: .bool (g112 x0 4 6) :: .bool (g48_m2 x0) :: .bool (x0 != 22) :: us 106 [], [[.int .i64 x0, .str x1, .str x2, .str x3, .int .i64 x4]]⟩ (by kernel_rfl) ?_
    refine WP.seq ?_
    refine WP.stepM g48_e_ok (fun a : Bool => ⟨U :: .ptr 0 0 :: .int .i64 0 :: U :: .bool (g112 x0 4 6) :: U :: .bool (x0 != 22) :: us 79 (.bool a :: us 26 []), [[.int .i64 x0, .str x1, .str x2, .str x3, .int .i64 x4]]⟩) (g48_m3 x0 x1 x2 x3 x4) (fun K => (((!(g48_m1 x0)) = true → (((!((x3 : ByteArray).toList == (⟨#[]⟩ : ByteArray).toList)) = true → K true) ∧ ((!((x3 : ByteArray).toList == (⟨#[]⟩ : ByteArray).toList)) = false → (((!(g112 x0 4 6)) = true → (((!((x2 : ByteArray).toList == (⟨#[]⟩ : ByteArray).toList)) = true → K true) ∧ ((!((x2 : ByteArray).toList == (⟨#[]⟩ : ByteArray).toList)) = false → (((!(g48_m2 x0)) = true → (((x4 != 0) = true → K true) ∧ ((x4 != 0) = false → (((!(x0 != 22)) = true → K (!((x1 : ByteArray).toList == (⟨#[]⟩ : ByteArray).toList))) ∧ ((!(x0 != 22)) = false → K false))))) ∧ ((!(g48_m2 x0)) = false → (((!(x0 != 22)) = true → K (!((x1 : ByteArray).toList == (⟨#[]⟩ : ByteArray).toList))) ∧ ((!(x0 != 22)) = false → K false))))))) ∧ ((!(g112 x0 4 6)) = false → (((!(g48_m2 x0)) = true → (((x4 != 0) = true → K true) ∧ ((x4 != 0) = false → (((!(x0 != 22)) = true → K (!((x1 : ByteArray).toList == (⟨#[]⟩ : ByteArray).toList))) ∧ ((!(x0 != 22)) = false → K false))))) ∧ ((!(g48_m2 x0)) = false → (((!(x0 != 22)) = true → K (!((x1 : ByteArray).toList == (⟨#[]⟩ : ByteArray).toList))) ∧ ((!(x0 != 22)) = false → K false))))))))) ∧ ((!(g48_m1 x0)) = false → (((!(g112 x0 4 6)) = true → (((!((x2 : ByteArray).toList == (⟨#[]⟩ : ByteArray).toList)) = true → K true) ∧ ((!((x2 : ByteArray).toList == (⟨#[]⟩ : ByteArray).toList)) = false → (((!(g48_m2 x0)) = true → (((x4 != 0) = true → K true) ∧ ((x4 != 0) = false → (((!(x0 != 22)) = true → K (!((x1 : ByteArray).toList == (⟨#[]⟩ : ByteArray).toList))) ∧ ((!(x0 != 22)) = false → K false))))) ∧ ((!(g48_m2 x0)) = false → (((!(x0 != 22)) = true → K (!((x1 : ByteArray).toList == (⟨#[]⟩ : ByteArray).toList))) ∧ ((!(x0 != 22)) = false → K false))))))) ∧ ((!(g112 x0 4 6)) = false → (((!(g48_m2 x0)) = true → (((x4 != 0) = true → K true) ∧ ((x4 != 0) = false → (((!(x0 != 22)) = true → K (!((x1 : ByteArray).toList == (⟨#[]⟩ : ByteArray).toList))) ∧ ((!(x0 != 22)) = false → K false))))) ∧ ((!(g48_m2 x0)) = false → (((!(x0 != 22)) = true → K (!((x1 : ByteArray).toList == (⟨#[]⟩ : ByteArray).toList))) ∧ ((!(x0 != 22)) = false → K false))))))))) (by kernel_rfl) ⟨fun h8 => ⟨fun h9 => (KM.mk (eqT h8 (eqT h9 rfl))), fun h9 => ⟨fun h10 => ⟨fun h11 => (KM.mk (eqT h8 (eqF h9 (eqT h10 (eqT h11 rfl))))), fun h11 => ⟨fun h12 => ⟨fun h13 => (KM.mk (eqT h8 (eqF h9 (eqT h10 (eqF h11 (eqT h12 (eqT h13 rfl))))))), fun h13 => ⟨fun h14 => (KM.mk (eqT h8 (eqF h9 (eqT h10 (eqF h11 (eqT h12 (eqF h13 (eqT h14 rfl)))))))), fun h14 => (KM.mk (eqT h8 (eqF h9 (eqT h10 (eqF h11 (eqT h12 (eqF h13 (eqF h14 rfl))))))))⟩⟩, fun h12 => ⟨fun h15 => (KM.mk (eqT h8 (eqF h9 (eqT h10 (eqF h11 (eqF h12 (eqT h15 rfl))))))), fun h15 => (KM.mk (eqT h8 (eqF h9 (eqT h10 (eqF h11 (eqF h12 (eqF h15 rfl)))))))⟩⟩⟩, fun h10 => ⟨fun h16 => ⟨fun h17 => (KM.mk (eqT h8 (eqF h9 (eqF h10 (eqT h16 (eqT h17 rfl)))))), fun h17 => ⟨fun h18 => (KM.mk (eqT h8 (eqF h9 (eqF h10 (eqT h16 (eqF h17 (eqT h18 rfl))))))), fun h18 => (KM.mk (eqT h8 (eqF h9 (eqF h10 (eqT h16 (eqF h17 (eqF h18 rfl)))))))⟩⟩, fun h16 => ⟨fun h19 => (KM.mk (eqT h8 (eqF h9 (eqF h10 (eqF h16 (eqT h19 rfl)))))), fun h19 => (KM.mk (eqT h8 (eqF h9 (eqF h10 (eqF h16 (eqF h19 rfl))))))⟩⟩⟩⟩, fun h8 => ⟨fun h20 => ⟨fun h21 => (KM.mk (eqF h8 (eqT h20 (eqT h21 rfl)))), fun h21 => ⟨fun h22 => ⟨fun h23 => (KM.mk (eqF h8 (eqT h20 (eqF h21 (eqT h22 (eqT h23 rfl)))))), fun h23 => ⟨fun h24 => (KM.mk (eqF h8 (eqT h20 (eqF h21 (eqT h22 (eqF h23 (eqT h24 rfl))))))), fun h24 => (KM.mk (eqF h8 (eqT h20 (eqF h21 (eqT h22 (eqF h23 (eqF h24 rfl)))))))⟩⟩, fun h22 => ⟨fun h25 => (KM.mk (eqF h8 (eqT h20 (eqF h21 (eqF h22 (eqT h25 rfl)))))), fun h25 => (KM.mk (eqF h8 (eqT h20 (eqF h21 (eqF h22 (eqF h25 rfl))))))⟩⟩⟩, fun h20 => ⟨fun h26 => ⟨fun h27 => (KM.mk (eqF h8 (eqF h20 (eqT h26 (eqT h27 rfl))))), fun h27 => ⟨fun h28 => (KM.mk (eqF h8 (eqF h20 (eqT h26 (eqF h27 (eqT h28 rfl)))))), fun h28 => (KM.mk (eqF h8 (eqF h20 (eqT h26 (eqF h27 (eqF h28 rfl))))))⟩⟩, fun h26 => ⟨fun h29 => (KM.mk (eqF h8 (eqF h20 (eqF h26 (eqT h29 rfl))))), fun h29 => (KM.mk (eqF h8 (eqF h20 (eqF h26 (eqF h29 rfl)))))⟩⟩⟩⟩ ?_
    refine WP.condR (g48_m3 x0 x1 x2 x3 x4) rfl (fun h30 => ?_) (fun h30 => ?_)
    · skip
      refine WP.step0 g48_e_ok ⟨U :: .ptr 0 0 :: .int .i64 8 :: U :: .bool (g112 x0 4 6) :: U :: .bool (x0 != 22) :: us 106 [], [[.int .i64 x0, .str x1, .str x2, .str x3, .int .i64 x4]]⟩ (by kernel_rfl) ?_
      exact WP.retP (True ∧ ((.int .i64 8 : AV) = .int .i64 (g48 x0 x1 x2 x3 x4))) (by kernel_rfl) ⟨trivial, (congrArg (AV.int .i64) (eqF h1 (eqT h30 rfl)))⟩
    · skip
      refine WP.skip ?_
      refine WP.seq ?_
      refine WP.stepM g48_e_ok (fun a : Bool => ⟨U :: .ptr 0 0 :: .int .i64 0 :: us 105 (.bool a :: us 4 []), [[.int .i64 x0, .str x1, .str x2, .str x3, .int .i64 x4]]⟩) (g48_m4 x0 x1 x2 x3) (fun K => (((x0 != 22) = true → (((!(g118 x1)) = true → K true) ∧ ((!(g118 x1)) = false → (((g112 x0 4 6) = true → (((!(g118 x2)) = true → K true) ∧ ((!(g118 x2)) = false → K (!(g113 x3))))) ∧ ((g112 x0 4 6) = false → K (!(g113 x3))))))) ∧ ((x0 != 22) = false → (((g112 x0 4 6) = true → (((!(g118 x2)) = true → K true) ∧ ((!(g118 x2)) = false → K (!(g113 x3))))) ∧ ((g112 x0 4 6) = false → K (!(g113 x3))))))) (by kernel_rfl) ⟨fun h31 => ⟨fun h32 => (KM.mk (eqT h31 (eqT h32 rfl))), fun h32 => ⟨fun h33 => ⟨fun h34 => (KM.mk (eqT h31 (eqF h32 (eqT h33 (eqT h34 rfl))))), fun h34 => (KM.mk (eqT h31 (eqF h32 (eqT h33 (eqF h34 rfl)))))⟩, fun h33 => (KM.mk (eqT h31 (eqF h32 (eqF h33 rfl))))⟩⟩, fun h31 => ⟨fun h35 => ⟨fun h36 => (KM.mk (eqF h31 (eqT h35 (eqT h36 rfl)))), fun h36 => (KM.mk (eqF h31 (eqT h35 (eqF h36 rfl))))⟩, fun h35 => (KM.mk (eqF h31 (eqF h35 rfl)))⟩⟩ ?_
      refine WP.condR (g48_m4 x0 x1 x2 x3) rfl (fun h37 => ?_) (fun h37 => ?_)
      · skip
        refine WP.step0 g48_e_ok ⟨U :: .ptr 0 0 :: .int .i64 1 :: us 110 [], [[.int .i64 x0, .str x1, .str x2, .str x3, .int .i64 x4]]⟩ (by kernel_rfl) ?_
        exact WP.retP (True ∧ ((.int .i64 1 : AV) = .int .i64 (g48 x0 x1 x2 x3 x4))) (by kernel_rfl) ⟨trivial, (congrArg (AV.int .i64) (eqF h1 (eqF h30 (eqT h37 rfl))))⟩
      · skip
        refine WP.skip ?_
        refine WP.seq ?_
        refine WP.step0 g48_e_ok ⟨U :: U :: .int .i64 0 :: us 109 ([.bool (!(g114 x4))]), []⟩ (by kernel_rfl) ?_
        refine WP.condR (!(g114 x4)) rfl (fun h38 => ?_) (fun h38 => ?_)
        · skip
          refine WP.step0 g48_e_ok ⟨U :: U :: .int .i64 2 :: us 110 [], []⟩ (by kernel_rfl) ?_
          exact WP.retP (True ∧ ((.int .i64 2 : AV) = .int .i64 (g48 x0 x1 x2 x3 x4))) (by kernel_rfl) ⟨trivial, (congrArg (AV.int .i64) (eqF h1 (eqF h30 (eqF h37 (eqT h38 rfl)))))⟩
        · skip
          refine WP.skip ?_
          refine WP.step0 g48_e_ok ⟨U :: U :: .int .i64 0 :: us 110 [], []⟩ (by kernel_rfl) ?_
          exact WP.retP (True ∧ ((.int .i64 0 : AV) = .int .i64 (g48 x0 x1 x2 x3 x4))) (by kernel_rfl) ⟨trivial, (congrArg (AV.int .i64) (eqF h1 (eqF h30 (eqF h37 (eqF h38 rfl)))))⟩
noncomputable def s48 : Ans := fun xs => match xs with
  | [.agg [.int .i64 x0, .str x1, .str x2, .str x3, .int .i64 x4]] => some (none, .int .i64 (g48 x0 x1 x2 x3 x4))
  | _ => none
theorem k48 : SOk Try.prog 48 s48 := ⟨⟨_, _, Try.func48, rfl, by kernel_rfl⟩, fun args pre r h _ => by
  unfold s48 at h; split at h <;> cases h; exact pc48 _ _ _ _ _⟩
noncomputable def g47_m1 (x0 : Int) : Bool := (bif (decide (x0 < 1)) then true else (decide (x0 > 22)))
noncomputable def g47_m2 (x0 : Int) : Bool := (bif (x0 == 1) then (x0 == 1) else (bif (x0 == 7) then (x0 == 7) else (bif (x0 == 8) then (x0 == 8) else (bif (x0 == 11) then (x0 == 11) else (bif (x0 == 12) then (x0 == 12) else (bif (x0 == 13) then (x0 == 13) else (bif (x0 == 15) then (x0 == 15) else (x0 == 16))))))))
noncomputable def g47_m3 (x0 : Int) : Bool := (bif (x0 == 3) then (x0 == 3) else (x0 == 20))
noncomputable def g47_m4 (x0 : Int) : Bool := (bif (x0 == 5) then (x0 == 5) else (x0 == 6))
noncomputable def g47_m5 (x0 : Int) (x1 : ByteArray) : ByteArray := (bif (g47_m2 x0) then x1 else (bif (g47_m3 x0) then x1 else (bif (x0 == 4) then x1 else (bif (g47_m4 x0) then x1 else (bif (x0 == 14) then x1 else (bif (x0 == 22) then ⟨#[]⟩ else x1))))))
noncomputable def g47_m6 (x0 : Int) (x2 : ByteArray) : ByteArray := (bif (g47_m2 x0) then ⟨#[]⟩ else (bif (g47_m3 x0) then ⟨#[]⟩ else (bif (x0 == 4) then x2 else (bif (g47_m4 x0) then x2 else ⟨#[]⟩))))
noncomputable def g47_m7 (x0 : Int) (x3 : ByteArray) : ByteArray := (bif (g47_m2 x0) then x3 else (bif (g47_m3 x0) then ⟨#[]⟩ else (bif (x0 == 4) then x3 else (bif (g47_m4 x0) then ⟨#[]⟩ else (bif (x0 == 14) then x3 else ⟨#[]⟩)))))
noncomputable def g47_m8 (x0 : Int) (x4 : Int) : Int := (bif (g47_m2 x0) then 0 else (bif (g47_m3 x0) then x4 else (bif (x0 == 4) then 0 else (bif (g47_m4 x0) then 0 else (bif (x0 == 14) then x4 else 0)))))
noncomputable def g47_m9 (x0 : Int) (x1 : ByteArray) (x2 : ByteArray) (x3 : ByteArray) : Bool := (bif (x0 != 22) then (bif (!(g115 x1)) then true else (bif (decide (x0 ≥ 4)) then (bif (decide (x0 ≤ 6)) then (bif (!(g115 x2)) then true else (!(g116 x3))) else (!(g116 x3))) else (!(g116 x3)))) else (bif (decide (x0 ≥ 4)) then (bif (decide (x0 ≤ 6)) then (bif (!(g115 x2)) then true else (!(g116 x3))) else (!(g116 x3))) else (!(g116 x3))))
noncomputable def g47 (x0 : Int) (x1 : ByteArray) (x2 : ByteArray) (x3 : ByteArray) (x4 : Int) : Int := (bif (g47_m1 x0) then 3 else (bif (!((x0 == x0) && (((x1 : ByteArray).toList == ((g47_m5 x0 x1) : ByteArray).toList) && (((x2 : ByteArray).toList == ((g47_m6 x0 x2) : ByteArray).toList) && (((x3 : ByteArray).toList == ((g47_m7 x0 x3) : ByteArray).toList) && ((x4 == (g47_m8 x0 x4)) && true)))))) then 8 else (bif (g47_m9 x0 x1 x2 x3) then 1 else (bif (!(g117 x4)) then 2 else 0))))
noncomputable abbrev g47_e : Env := mkE [(115, s115), (116, s116), (117, s117)]
theorem g47_e_ok : g47_e.Ok := mkE_ok ⟨k115, k116, k117, trivial⟩
theorem pc47 (x0 : Int) (x1 : ByteArray) (x2 : ByteArray) (x3 : ByteArray) (x4 : Int) : PureCall Try.prog 47 [.agg [.int .i64 x0, .str x1, .str x2, .str x3, .int .i64 x4]] (.int .i64 (g47 x0 x1 x2 x3 x4)) := by
  refine pure_of_WP (E := g47_e) g47_e_ok Try.func47 rfl _ _ ?_
  refine WP.step0 g47_e_ok ⟨U :: .ptr 0 0 :: .int .i64 0 :: us 97 [], [[.int .i64 x0, .str x1, .str x2, .str x3, .int .i64 x4]]⟩ (by kernel_rfl) ?_
  refine WP.seq ?_
  refine WP.stepM g47_e_ok (fun a : Bool => ⟨U :: .ptr 0 0 :: .int .i64 0 :: us 8 (.bool a :: us 88 []), [[.int .i64 x0, .str x1, .str x2, .str x3, .int .i64 x4]]⟩) (g47_m1 x0) (fun K => (((decide (x0 < 1)) = true → K true) ∧ ((decide (x0 < 1)) = false → K (decide (x0 > 22))))) (by kernel_rfl) ⟨fun h1 => (KM.mk (eqT h1 rfl)), fun h1 => (KM.mk (eqF h1 rfl))⟩ ?_
  refine WP.condR (g47_m1 x0) rfl (fun h2 => ?_) (fun h2 => ?_)
  · skip
    refine WP.step0 g47_e_ok ⟨U :: .ptr 0 0 :: .int .i64 3 :: us 97 [], [[.int .i64 x0, .str x1, .str x2, .str x3, .int .i64 x4]]⟩ (by kernel_rfl) ?_
    exact WP.retP (True ∧ ((.int .i64 3 : AV) = .int .i64 (g47 x0 x1 x2 x3 x4))) (by kernel_rfl) ⟨trivial, (congrArg (AV.int .i64) (eqT h2 rfl))⟩
  · skip
    refine WP.skip ?_
    refine WP.step0 g47_e_ok ⟨U :: .ptr 0 0 :: .int .i64 0 :: .ptr 1 0 :: us 96 [], [[.int .i64 x0, .str x1, .str x2, .str x3, .int .i64 x4], [.int .i64 x0, .str x1, .str ⟨#[]⟩, .str ⟨#[]⟩, .int .i64 0]]⟩ (by kernel_rfl) ?_
    refine WP.join ⟨U :: .ptr 0 0 :: .int .i64 0 :: .ptr 1 0 :: us 96 [], [[.int .i64 x0, .str x1, .str x2, .str x3, .int .i64 x4], [.int .i64 x0, .str (g47_m5 x0 x1), .str (g47_m6 x0 x2), .str (g47_m7 x0 x3), .int .i64 (g47_m8 x0 x4)]]⟩ ?_ ?_
    · skip
      refine WP.step0 g47_e_ok ⟨U :: .ptr 0 0 :: .int .i64 0 :: .ptr 1 0 :: us 14 (.int .i64 x0 :: us 81 []), [[.int .i64 x0, .str x1, .str x2, .str x3, .int .i64 x4], [.int .i64 x0, .str x1, .str ⟨#[]⟩, .str ⟨#[]⟩, .int .i64 0]]⟩ (by kernel_rfl) ?_
      refine WP.block ?_
      refine WP.join ⟨U :: .ptr 0 0 :: .int .i64 0 :: .ptr 1 0 :: us 14 (.int .i64 x0 :: .bool (g47_m2 x0) :: us 80 []), [[.int .i64 x0, .str x1, .str x2, .str x3, .int .i64 x4], [.int .i64 x0, .str x1, .str ⟨#[]⟩, .str ⟨#[]⟩, .int .i64 0]]⟩ ?_ ?_
      · skip
        refine WP.step0 g47_e_ok ⟨U :: .ptr 0 0 :: .int .i64 0 :: .ptr 1 0 :: us 14 (.int .i64 x0 :: .bool (x0 == 1) :: us 80 []), [[.int .i64 x0, .str x1, .str x2, .str x3, .int .i64 x4], [.int .i64 x0, .str x1, .str ⟨#[]⟩, .str ⟨#[]⟩, .int .i64 0]]⟩ (by kernel_rfl) ?_
        refine WP.condR (x0 == 1) rfl (fun h3 => ?_) (fun h3 => ?_)
        · skip
          exact WP.skipP ((((.ptr 0 0 : AV) = .ptr 0 0) ∧ ((0 : Int) = 0) ∧ ((.ptr 1 0 : AV) = .ptr 1 0) ∧ ((x0 : Int) = x0) ∧ ((x0 == 1) = (g47_m2 x0)) ∧ True) ∧ ((((x0 : Int) = x0) ∧ ((x1 : ByteArray) = x1) ∧ ((x2 : ByteArray) = x2) ∧ ((x3 : ByteArray) = x3) ∧ ((x4 : Int) = x4) ∧ True) ∧ (((x0 : Int) = x0) ∧ ((x1 : ByteArray) = x1) ∧ ((⟨#[]⟩ : ByteArray) = ⟨#[]⟩) ∧ ((⟨#[]⟩ : ByteArray) = ⟨#[]⟩) ∧ ((0 : Int) = 0) ∧ True) ∧ True) ∧ true = true) (by kernel_rfl) ⟨⟨rfl, rfl, rfl, rfl, (eqT h3 rfl), trivial⟩, ⟨⟨rfl, rfl, rfl, rfl, rfl, trivial⟩, ⟨rfl, rfl, rfl, rfl, rfl, trivial⟩, trivial⟩, rfl⟩
        · skip
          refine WP.step0 g47_e_ok ⟨U :: .ptr 0 0 :: .int .i64 0 :: .ptr 1 0 :: us 14 (.int .i64 x0 :: .bool (x0 == 7) :: us 80 []), [[.int .i64 x0, .str x1, .str x2, .str x3, .int .i64 x4], [.int .i64 x0, .str x1, .str ⟨#[]⟩, .str ⟨#[]⟩, .int .i64 0]]⟩ (by kernel_rfl) ?_
          refine WP.condR (x0 == 7) rfl (fun h4 => ?_) (fun h4 => ?_)
          · skip
            exact WP.skipP ((((.ptr 0 0 : AV) = .ptr 0 0) ∧ ((0 : Int) = 0) ∧ ((.ptr 1 0 : AV) = .ptr 1 0) ∧ ((x0 : Int) = x0) ∧ ((x0 == 7) = (g47_m2 x0)) ∧ True) ∧ ((((x0 : Int) = x0) ∧ ((x1 : ByteArray) = x1) ∧ ((x2 : ByteArray) = x2) ∧ ((x3 : ByteArray) = x3) ∧ ((x4 : Int) = x4) ∧ True) ∧ (((x0 : Int) = x0) ∧ ((x1 : ByteArray) = x1) ∧ ((⟨#[]⟩ : ByteArray) = ⟨#[]⟩) ∧ ((⟨#[]⟩ : ByteArray) = ⟨#[]⟩) ∧ ((0 : Int) = 0) ∧ True) ∧ True) ∧ true = true) (by kernel_rfl) ⟨⟨rfl, rfl, rfl, rfl, (eqF h3 (eqT h4 rfl)), trivial⟩, ⟨⟨rfl, rfl, rfl, rfl, rfl, trivial⟩, ⟨rfl, rfl, rfl, rfl, rfl, trivial⟩, trivial⟩, rfl⟩
          · skip
            refine WP.step0 g47_e_ok ⟨U :: .ptr 0 0 :: .int .i64 0 :: .ptr 1 0 :: us 14 (.int .i64 x0 :: .bool (x0 == 8) :: us 80 []), [[.int .i64 x0, .str x1, .str x2, .str x3, .int .i64 x4], [.int .i64 x0, .str x1, .str ⟨#[]⟩, .str ⟨#[]⟩, .int .i64 0]]⟩ (by kernel_rfl) ?_
            refine WP.condR (x0 == 8) rfl (fun h5 => ?_) (fun h5 => ?_)
            · skip
              exact WP.skipP ((((.ptr 0 0 : AV) = .ptr 0 0) ∧ ((0 : Int) = 0) ∧ ((.ptr 1 0 : AV) = .ptr 1 0) ∧ ((x0 : Int) = x0) ∧ ((x0 == 8) = (g47_m2 x0)) ∧ True) ∧ ((((x0 : Int) = x0) ∧ ((x1 : ByteArray) = x1) ∧ ((x2 : ByteArray) = x2) ∧ ((x3 : ByteArray) = x3) ∧ ((x4 : Int) = x4) ∧ True) ∧ (((x0 : Int) = x0) ∧ ((x1 : ByteArray) = x1) ∧ ((⟨#[]⟩ : ByteArray) = ⟨#[]⟩) ∧ ((⟨#[]⟩ : ByteArray) = ⟨#[]⟩) ∧ ((0 : Int) = 0) ∧ True) ∧ True) ∧ true = true) (by kernel_rfl) ⟨⟨rfl, rfl, rfl, rfl, (eqF h3 (eqF h4 (eqT h5 rfl))), trivial⟩, ⟨⟨rfl, rfl, rfl, rfl, rfl, trivial⟩, ⟨rfl, rfl, rfl, rfl, rfl, trivial⟩, trivial⟩, rfl⟩
            · skip
              refine WP.step0 g47_e_ok ⟨U :: .ptr 0 0 :: .int .i64 0 :: .ptr 1 0 :: us 14 (.int .i64 x0 :: .bool (x0 == 11) :: us 80 []), [[.int .i64 x0, .str x1, .str x2, .str x3, .int .i64 x4], [.int .i64 x0, .str x1, .str ⟨#[]⟩, .str ⟨#[]⟩, .int .i64 0]]⟩ (by kernel_rfl) ?_
              refine WP.condR (x0 == 11) rfl (fun h6 => ?_) (fun h6 => ?_)
              · skip
                exact WP.skipP ((((.ptr 0 0 : AV) = .ptr 0 0) ∧ ((0 : Int) = 0) ∧ ((.ptr 1 0 : AV) = .ptr 1 0) ∧ ((x0 : Int) = x0) ∧ ((x0 == 11) = (g47_m2 x0)) ∧ True) ∧ ((((x0 : Int) = x0) ∧ ((x1 : ByteArray) = x1) ∧ ((x2 : ByteArray) = x2) ∧ ((x3 : ByteArray) = x3) ∧ ((x4 : Int) = x4) ∧ True) ∧ (((x0 : Int) = x0) ∧ ((x1 : ByteArray) = x1) ∧ ((⟨#[]⟩ : ByteArray) = ⟨#[]⟩) ∧ ((⟨#[]⟩ : ByteArray) = ⟨#[]⟩) ∧ ((0 : Int) = 0) ∧ True) ∧ True) ∧ true = true) (by kernel_rfl) ⟨⟨rfl, rfl, rfl, rfl, (eqF h3 (eqF h4 (eqF h5 (eqT h6 rfl)))), trivial⟩, ⟨⟨rfl, rfl, rfl, rfl, rfl, trivial⟩, ⟨rfl, rfl, rfl, rfl, rfl, trivial⟩, trivial⟩, rfl⟩
              · skip
                refine WP.step0 g47_e_ok ⟨U :: .ptr 0 0 :: .int .i64 0 :: .ptr 1 0 :: us 14 (.int .i64 x0 :: .bool (x0 == 12) :: us 80 []), [[.int .i64 x0, .str x1, .str x2, .str x3, .int .i64 x4], [.int .i64 x0, .str x1, .str ⟨#[]⟩, .str ⟨#[]⟩, .int .i64 0]]⟩ (by kernel_rfl) ?_
                refine WP.condR (x0 == 12) rfl (fun h7 => ?_) (fun h7 => ?_)
                · skip
                  exact WP.skipP ((((.ptr 0 0 : AV) = .ptr 0 0) ∧ ((0 : Int) = 0) ∧ ((.ptr 1 0 : AV) = .ptr 1 0) ∧ ((x0 : Int) = x0) ∧ ((x0 == 12) = (g47_m2 x0)) ∧ True) ∧ ((((x0 : Int) = x0) ∧ ((x1 : ByteArray) = x1) ∧ ((x2 : ByteArray) = x2) ∧ ((x3 : ByteArray) = x3) ∧ ((x4 : Int) = x4) ∧ True) ∧ (((x0 : Int) = x0) ∧ ((x1 : ByteArray) = x1) ∧ ((⟨#[]⟩ : ByteArray) = ⟨#[]⟩) ∧ ((⟨#[]⟩ : ByteArray) = ⟨#[]⟩) ∧ ((0 : Int) = 0) ∧ True) ∧ True) ∧ true = true) (by kernel_rfl) ⟨⟨rfl, rfl, rfl, rfl, (eqF h3 (eqF h4 (eqF h5 (eqF h6 (eqT h7 rfl))))), trivial⟩, ⟨⟨rfl, rfl, rfl, rfl, rfl, trivial⟩, ⟨rfl, rfl, rfl, rfl, rfl, trivial⟩, trivial⟩, rfl⟩
                · skip
                  refine WP.step0 g47_e_ok ⟨U :: .ptr 0 0 :: .int .i64 0 :: .ptr 1 0 :: us 14 (.int .i64 x0 :: .bool (x0 == 13) :: us 80 []), [[.int .i64 x0, .str x1, .str x2, .str x3, .int .i64 x4], [.int .i64 x0, .str x1, .str ⟨#[]⟩, .str ⟨#[]⟩, .int .i64 0]]⟩ (by kernel_rfl) ?_
                  refine WP.condR (x0 == 13) rfl (fun h8 => ?_) (fun h8 => ?_)
                  · skip
                    exact WP.skipP ((((.ptr 0 0 : AV) = .ptr 0 0) ∧ ((0 : Int) = 0) ∧ ((.ptr 1 0 : AV) = .ptr 1 0) ∧ ((x0 : Int) = x0) ∧ ((x0 == 13) = (g47_m2 x0)) ∧ True) ∧ ((((x0 : Int) = x0) ∧ ((x1 : ByteArray) = x1) ∧ ((x2 : ByteArray) = x2) ∧ ((x3 : ByteArray) = x3) ∧ ((x4 : Int) = x4) ∧ True) ∧ (((x0 : Int) = x0) ∧ ((x1 : ByteArray) = x1) ∧ ((⟨#[]⟩ : ByteArray) = ⟨#[]⟩) ∧ ((⟨#[]⟩ : ByteArray) = ⟨#[]⟩) ∧ ((0 : Int) = 0) ∧ True) ∧ True) ∧ true = true) (by kernel_rfl) ⟨⟨rfl, rfl, rfl, rfl, (eqF h3 (eqF h4 (eqF h5 (eqF h6 (eqF h7 (eqT h8 rfl)))))), trivial⟩, ⟨⟨rfl, rfl, rfl, rfl, rfl, trivial⟩, ⟨rfl, rfl, rfl, rfl, rfl, trivial⟩, trivial⟩, rfl⟩
                  · skip
                    refine WP.step0 g47_e_ok ⟨U :: .ptr 0 0 :: .int .i64 0 :: .ptr 1 0 :: us 14 (.int .i64 x0 :: .bool (x0 == 15) :: us 80 []), [[.int .i64 x0, .str x1, .str x2, .str x3, .int .i64 x4], [.int .i64 x0, .str x1, .str ⟨#[]⟩, .str ⟨#[]⟩, .int .i64 0]]⟩ (by kernel_rfl) ?_
                    refine WP.condR (x0 == 15) rfl (fun h9 => ?_) (fun h9 => ?_)
                    · skip
                      exact WP.skipP ((((.ptr 0 0 : AV) = .ptr 0 0) ∧ ((0 : Int) = 0) ∧ ((.ptr 1 0 : AV) = .ptr 1 0) ∧ ((x0 : Int) = x0) ∧ ((x0 == 15) = (g47_m2 x0)) ∧ True) ∧ ((((x0 : Int) = x0) ∧ ((x1 : ByteArray) = x1) ∧ ((x2 : ByteArray) = x2) ∧ ((x3 : ByteArray) = x3) ∧ ((x4 : Int) = x4) ∧ True) ∧ (((x0 : Int) = x0) ∧ ((x1 : ByteArray) = x1) ∧ ((⟨#[]⟩ : ByteArray) = ⟨#[]⟩) ∧ ((⟨#[]⟩ : ByteArray) = ⟨#[]⟩) ∧ ((0 : Int) = 0) ∧ True) ∧ True) ∧ true = true) (by kernel_rfl) ⟨⟨rfl, rfl, rfl, rfl, (eqF h3 (eqF h4 (eqF h5 (eqF h6 (eqF h7 (eqF h8 (eqT h9 rfl))))))), trivial⟩, ⟨⟨rfl, rfl, rfl, rfl, rfl, trivial⟩, ⟨rfl, rfl, rfl, rfl, rfl, trivial⟩, trivial⟩, rfl⟩
                    · skip
                      refine WP.fin0 g47_e_ok ⟨U :: .ptr 0 0 :: .int .i64 0 :: .ptr 1 0 :: us 14 (.int .i64 x0 :: .bool (x0 == 16) :: us 80 []), [[.int .i64 x0, .str x1, .str x2, .str x3, .int .i64 x4], [.int .i64 x0, .str x1, .str ⟨#[]⟩, .str ⟨#[]⟩, .int .i64 0]]⟩ (by kernel_rfl) ?_
                      exact Eq.mpr (β := ((((.ptr 0 0 : AV) = .ptr 0 0) ∧ ((0 : Int) = 0) ∧ ((.ptr 1 0 : AV) = .ptr 1 0) ∧ ((x0 : Int) = x0) ∧ ((x0 == 16) = (g47_m2 x0)) ∧ True) ∧ ((((x0 : Int) = x0) ∧ ((x1 : ByteArray) = x1) ∧ ((x2 : ByteArray) = x2) ∧ ((x3 : ByteArray) = x3) ∧ ((x4 : Int) = x4) ∧ True) ∧ (((x0 : Int) = x0) ∧ ((x1 : ByteArray) = x1) ∧ ((⟨#[]⟩ : ByteArray) = ⟨#[]⟩) ∧ ((⟨#[]⟩ : ByteArray) = ⟨#[]⟩) ∧ ((0 : Int) = 0) ∧ True) ∧ True) ∧ true = true)) (by kernel_rfl) ⟨⟨rfl, rfl, rfl, rfl, (eqF h3 (eqF h4 (eqF h5 (eqF h6 (eqF h7 (eqF h8 (eqF h9 rfl))))))), trivial⟩, ⟨⟨rfl, rfl, rfl, rfl, rfl, trivial⟩, ⟨rfl, rfl, rfl, rfl, rfl, trivial⟩, trivial⟩, rfl⟩
      · skip
        refine WP.condR (g47_m2 x0) rfl (fun h10 => ?_) (fun h10 => ?_)
        · skip
          refine WP.fin0 g47_e_ok ⟨U :: .ptr 0 0 :: .int .i64 0 :: .ptr 1 0 :: us 96 [], [[.int .i64 x0, .str x1, .str x2, .str x3, .int .i64 x4], [.int .i64 x0, .str x1, .str ⟨#[]⟩, .str x3, .int .i64 0]]⟩ (by kernel_rfl) ?_
          exact Eq.mpr (β := ((((.ptr 0 0 : AV) = .ptr 0 0) ∧ ((0 : Int) = 0) ∧ ((.ptr 1 0 : AV) = .ptr 1 0) ∧ True) ∧ ((((x0 : Int) = x0) ∧ ((x1 : ByteArray) = x1) ∧ ((x2 : ByteArray) = x2) ∧ ((x3 : ByteArray) = x3) ∧ ((x4 : Int) = x4) ∧ True) ∧ (((x0 : Int) = x0) ∧ ((x1 : ByteArray) = (g47_m5 x0 x1)) ∧ ((⟨#[]⟩ : ByteArray) = (g47_m6 x0 x2)) ∧ ((x3 : ByteArray) = (g47_m7 x0 x3)) ∧ ((0 : Int) = (g47_m8 x0 x4)) ∧ True) ∧ True) ∧ true = true)) (by kernel_rfl) ⟨⟨rfl, rfl, rfl, trivial⟩, ⟨⟨rfl, rfl, rfl, rfl, rfl, trivial⟩, ⟨rfl, (eqT h10 rfl), (eqT h10 rfl), (eqT h10 rfl), (eqT h10 rfl), trivial⟩, trivial⟩, rfl⟩
        · skip
          refine WP.join ⟨U :: .ptr 0 0 :: .int .i64 0 :: .ptr 1 0 :: us 14 (.int .i64 x0 :: us 12 (.bool (g47_m3 x0) :: us 68 [])), [[.int .i64 x0, .str x1, .str x2, .str x3, .int .i64 x4], [.int .i64 x0, .str x1, .str ⟨#[]⟩, .str ⟨#[]⟩, .int .i64 0]]⟩ ?_ ?_
          · skip
            refine WP.step0 g47_e_ok ⟨U :: .ptr 0 0 :: .int .i64 0 :: .ptr 1 0 :: us 14 (.int .i64 x0 :: us 12 (.bool (x0 == 3) :: us 68 [])), [[.int .i64 x0, .str x1, .str x2, .str x3, .int .i64 x4], [.int .i64 x0, .str x1, .str ⟨#[]⟩, .str ⟨#[]⟩, .int .i64 0]]⟩ (by kernel_rfl) ?_
            refine WP.condR (x0 == 3) rfl (fun h11 => ?_) (fun h11 => ?_)
            · skip
              exact WP.skipP ((((.ptr 0 0 : AV) = .ptr 0 0) ∧ ((0 : Int) = 0) ∧ ((.ptr 1 0 : AV) = .ptr 1 0) ∧ ((x0 : Int) = x0) ∧ ((x0 == 3) = (g47_m3 x0)) ∧ True) ∧ ((((x0 : Int) = x0) ∧ ((x1 : ByteArray) = x1) ∧ ((x2 : ByteArray) = x2) ∧ ((x3 : ByteArray) = x3) ∧ ((x4 : Int) = x4) ∧ True) ∧ (((x0 : Int) = x0) ∧ ((x1 : ByteArray) = x1) ∧ ((⟨#[]⟩ : ByteArray) = ⟨#[]⟩) ∧ ((⟨#[]⟩ : ByteArray) = ⟨#[]⟩) ∧ ((0 : Int) = 0) ∧ True) ∧ True) ∧ true = true) (by kernel_rfl) ⟨⟨rfl, rfl, rfl, rfl, (eqT h11 rfl), trivial⟩, ⟨⟨rfl, rfl, rfl, rfl, rfl, trivial⟩, ⟨rfl, rfl, rfl, rfl, rfl, trivial⟩, trivial⟩, rfl⟩
            · skip
              refine WP.fin0 g47_e_ok ⟨U :: .ptr 0 0 :: .int .i64 0 :: .ptr 1 0 :: us 14 (.int .i64 x0 :: us 12 (.bool (x0 == 20) :: us 68 [])), [[.int .i64 x0, .str x1, .str x2, .str x3, .int .i64 x4], [.int .i64 x0, .str x1, .str ⟨#[]⟩, .str ⟨#[]⟩, .int .i64 0]]⟩ (by kernel_rfl) ?_
              exact Eq.mpr (β := ((((.ptr 0 0 : AV) = .ptr 0 0) ∧ ((0 : Int) = 0) ∧ ((.ptr 1 0 : AV) = .ptr 1 0) ∧ ((x0 : Int) = x0) ∧ ((x0 == 20) = (g47_m3 x0)) ∧ True) ∧ ((((x0 : Int) = x0) ∧ ((x1 : ByteArray) = x1) ∧ ((x2 : ByteArray) = x2) ∧ ((x3 : ByteArray) = x3) ∧ ((x4 : Int) = x4) ∧ True) ∧ (((x0 : Int) = x0) ∧ ((x1 : ByteArray) = x1) ∧ ((⟨#[]⟩ : ByteArray) = ⟨#[]⟩) ∧ ((⟨#[]⟩ : ByteArray) = ⟨#[]⟩) ∧ ((0 : Int) = 0) ∧ True) ∧ True) ∧ true = true)) (by kernel_rfl) ⟨⟨rfl, rfl, rfl, rfl, (eqF h11 rfl), trivial⟩, ⟨⟨rfl, rfl, rfl, rfl, rfl, trivial⟩, ⟨rfl, rfl, rfl, rfl, rfl, trivial⟩, trivial⟩, rfl⟩
          · skip
            refine WP.condR (g47_m3 x0) rfl (fun h12 => ?_) (fun h12 => ?_)
            · skip
              refine WP.fin0 g47_e_ok ⟨U :: .ptr 0 0 :: .int .i64 0 :: .ptr 1 0 :: us 96 [], [[.int .i64 x0, .str x1, .str x2, .str x3, .int .i64 x4], [.int .i64 x0, .str x1, .str ⟨#[]⟩, .str ⟨#[]⟩, .int .i64 x4]]⟩ (by kernel_rfl) ?_
              exact Eq.mpr (β := ((((.ptr 0 0 : AV) = .ptr 0 0) ∧ ((0 : Int) = 0) ∧ ((.ptr 1 0 : AV) = .ptr 1 0) ∧ True) ∧ ((((x0 : Int) = x0) ∧ ((x1 : ByteArray) = x1) ∧ ((x2 : ByteArray) = x2) ∧ ((x3 : ByteArray) = x3) ∧ ((x4 : Int) = x4) ∧ True) ∧ (((x0 : Int) = x0) ∧ ((x1 : ByteArray) = (g47_m5 x0 x1)) ∧ ((⟨#[]⟩ : ByteArray) = (g47_m6 x0 x2)) ∧ ((⟨#[]⟩ : ByteArray) = (g47_m7 x0 x3)) ∧ ((x4 : Int) = (g47_m8 x0 x4)) ∧ True) ∧ True) ∧ true = true)) (by kernel_rfl) ⟨⟨rfl, rfl, rfl, trivial⟩, ⟨⟨rfl, rfl, rfl, rfl, rfl, trivial⟩, ⟨rfl, (eqF h10 (eqT h12 rfl)), (eqF h10 (eqT h12 rfl)), (eqF h10 (eqT h12 rfl)), (eqF h10 (eqT h12 rfl)), trivial⟩, trivial⟩, rfl⟩
            · skip
              refine WP.step0 g47_e_ok ⟨U :: .ptr 0 0 :: .int .i64 0 :: .ptr 1 0 :: us 14 (.int .i64 x0 :: us 18 (.bool (x0 == 4) :: us 62 [])), [[.int .i64 x0, .str x1, .str x2, .str x3, .int .i64 x4], [.int .i64 x0, .str x1, .str ⟨#[]⟩, .str ⟨#[]⟩, .int .i64 0]]⟩ (by kernel_rfl) ?_
              refine WP.condR (x0 == 4) rfl (fun h13 => ?_) (fun h13 => ?_)
              · skip
                refine WP.finD g47_e_ok ⟨U :: .ptr 0 0 :: .int .i64 0 :: .ptr 1 0 :: us 96 [], [[.int .i64 x0, .str x1, .str x2, .str x3, .int .i64 x4], [.int .i64 x0, .str x1, .str x2, .str x3, .int .i64 0]]⟩ (by kernel_rfl) ?_
                exact Eq.mpr (β := ((((.ptr 0 0 : AV) = .ptr 0 0) ∧ ((0 : Int) = 0) ∧ ((.ptr 1 0 : AV) = .ptr 1 0) ∧ True) ∧ ((((x0 : Int) = x0) ∧ ((x1 : ByteArray) = x1) ∧ ((x2 : ByteArray) = x2) ∧ ((x3 : ByteArray) = x3) ∧ ((x4 : Int) = x4) ∧ True) ∧ (((x0 : Int) = x0) ∧ ((x1 : ByteArray) = (g47_m5 x0 x1)) ∧ ((x2 : ByteArray) = (g47_m6 x0 x2)) ∧ ((x3 : ByteArray) = (g47_m7 x0 x3)) ∧ ((0 : Int) = (g47_m8 x0 x4)) ∧ True) ∧ True) ∧ true = true)) (by kernel_rfl) ⟨⟨rfl, rfl, rfl, trivial⟩, ⟨⟨rfl, rfl, rfl, rfl, rfl, trivial⟩, ⟨rfl, (eqF h10 (eqF h12 (eqT h13 rfl))), (eqF h10 (eqF h12 (eqT h13 rfl))), (eqF h10 (eqF h12 (eqT h13 rfl))), (eqF h10 (eqF h12 (eqT h13 rfl))), trivial⟩, trivial⟩, rfl⟩
              · skip
                refine WP.join ⟨U :: .ptr 0 0 :: .int .i64 0 :: .ptr 1 0 :: us 14 (.int .i64 x0 :: us 26 (.bool (g47_m4 x0) :: us 54 [])), [[.int .i64 x0, .str x1, .str x2, .str x3, .int .i64 x4], [.int .i64 x0, .str x1, .str ⟨#[]⟩, .str ⟨#[]⟩, .int .i64 0]]⟩ ?_ ?_
                · skip
                  refine WP.step0 g47_e_ok ⟨U :: .ptr 0 0 :: .int .i64 0 :: .ptr 1 0 :: us 14 (.int .i64 x0 :: us 26 (.bool (x0 == 5) :: us 54 [])), [[.int .i64 x0, .str x1, .str x2, .str x3, .int .i64 x4], [.int .i64 x0, .str x1, .str ⟨#[]⟩, .str ⟨#[]⟩, .int .i64 0]]⟩ (by kernel_rfl) ?_
                  refine WP.condR (x0 == 5) rfl (fun h14 => ?_) (fun h14 => ?_)
                  · skip
                    exact WP.skipP ((((.ptr 0 0 : AV) = .ptr 0 0) ∧ ((0 : Int) = 0) ∧ ((.ptr 1 0 : AV) = .ptr 1 0) ∧ ((x0 : Int) = x0) ∧ ((x0 == 5) = (g47_m4 x0)) ∧ True) ∧ ((((x0 : Int) = x0) ∧ ((x1 : ByteArray) = x1) ∧ ((x2 : ByteArray) = x2) ∧ ((x3 : ByteArray) = x3) ∧ ((x4 : Int) = x4) ∧ True) ∧ (((x0 : Int) = x0) ∧ ((x1 : ByteArray) = x1) ∧ ((⟨#[]⟩ : ByteArray) = ⟨#[]⟩) ∧ ((⟨#[]⟩ : ByteArray) = ⟨#[]⟩) ∧ ((0 : Int) = 0) ∧ True) ∧ True) ∧ true = true) (by kernel_rfl) ⟨⟨rfl, rfl, rfl, rfl, (eqT h14 rfl), trivial⟩, ⟨⟨rfl, rfl, rfl, rfl, rfl, trivial⟩, ⟨rfl, rfl, rfl, rfl, rfl, trivial⟩, trivial⟩, rfl⟩
                  · skip
                    refine WP.fin0 g47_e_ok ⟨U :: .ptr 0 0 :: .int .i64 0 :: .ptr 1 0 :: us 14 (.int .i64 x0 :: us 26 (.bool (x0 == 6) :: us 54 [])), [[.int .i64 x0, .str x1, .str x2, .str x3, .int .i64 x4], [.int .i64 x0, .str x1, .str ⟨#[]⟩, .str ⟨#[]⟩, .int .i64 0]]⟩ (by kernel_rfl) ?_
                    exact Eq.mpr (β := ((((.ptr 0 0 : AV) = .ptr 0 0) ∧ ((0 : Int) = 0) ∧ ((.ptr 1 0 : AV) = .ptr 1 0) ∧ ((x0 : Int) = x0) ∧ ((x0 == 6) = (g47_m4 x0)) ∧ True) ∧ ((((x0 : Int) = x0) ∧ ((x1 : ByteArray) = x1) ∧ ((x2 : ByteArray) = x2) ∧ ((x3 : ByteArray) = x3) ∧ ((x4 : Int) = x4) ∧ True) ∧ (((x0 : Int) = x0) ∧ ((x1 : ByteArray) = x1) ∧ ((⟨#[]⟩ : ByteArray) = ⟨#[]⟩) ∧ ((⟨#[]⟩ : ByteArray) = ⟨#[]⟩) ∧ ((0 : Int) = 0) ∧ True) ∧ True) ∧ true = true)) (by kernel_rfl) ⟨⟨rfl, rfl, rfl, rfl, (eqF h14 rfl), trivial⟩, ⟨⟨rfl, rfl, rfl, rfl, rfl, trivial⟩, ⟨rfl, rfl, rfl, rfl, rfl, trivial⟩, trivial⟩, rfl⟩
                · skip
                  refine WP.condR (g47_m4 x0) rfl (fun h15 => ?_) (fun h15 => ?_)
                  · skip
                    refine WP.fin0 g47_e_ok ⟨U :: .ptr 0 0 :: .int .i64 0 :: .ptr 1 0 :: us 96 [], [[.int .i64 x0, .str x1, .str x2, .str x3, .int .i64 x4], [.int .i64 x0, .str x1, .str x2, .str ⟨#[]⟩, .int .i64 0]]⟩ (by kernel_rfl) ?_
                    exact Eq.mpr (β := ((((.ptr 0 0 : AV) = .ptr 0 0) ∧ ((0 : Int) = 0) ∧ ((.ptr 1 0 : AV) = .ptr 1 0) ∧ True) ∧ ((((x0 : Int) = x0) ∧ ((x1 : ByteArray) = x1) ∧ ((x2 : ByteArray) = x2) ∧ ((x3 : ByteArray) = x3) ∧ ((x4 : Int) = x4) ∧ True) ∧ (((x0 : Int) = x0) ∧ ((x1 : ByteArray) = (g47_m5 x0 x1)) ∧ ((x2 : ByteArray) = (g47_m6 x0 x2)) ∧ ((⟨#[]⟩ : ByteArray) = (g47_m7 x0 x3)) ∧ ((0 : Int) = (g47_m8 x0 x4)) ∧ True) ∧ True) ∧ true = true)) (by kernel_rfl) ⟨⟨rfl, rfl, rfl, trivial⟩, ⟨⟨rfl, rfl, rfl, rfl, rfl, trivial⟩, ⟨rfl, (eqF h10 (eqF h12 (eqF h13 (eqT h15 rfl)))), (eqF h10 (eqF h12 (eqF h13 (eqT h15 rfl)))), (eqF h10 (eqF h12 (eqF h13 (eqT h15 rfl)))), (eqF h10 (eqF h12 (eqF h13 (eqT h15 rfl)))), trivial⟩, trivial⟩, rfl⟩
                  · skip
                    refine WP.step0 g47_e_ok ⟨U :: .ptr 0 0 :: .int .i64 0 :: .ptr 1 0 :: us 14 (.int .i64 x0 :: us 32 (.bool (x0 == 14) :: us 48 [])), [[.int .i64 x0, .str x1, .str x2, .str x3, .int .i64 x4], [.int .i64 x0, .str x1, .str ⟨#[]⟩, .str ⟨#[]⟩, .int .i64 0]]⟩ (by kernel_rfl) ?_
                    refine WP.condR (x0 == 14) rfl (fun h16 => ?_) (fun h16 => ?_)
                    · skip
                      refine WP.finD g47_e_ok ⟨U :: .ptr 0 0 :: .int .i64 0 :: .ptr 1 0 :: us 96 [], [[.int .i64 x0, .str x1, .str x2, .str x3, .int .i64 x4], [.int .i64 x0, .str x1, .str ⟨#[]⟩, .str x3, .int .i64 x4]]⟩ (by kernel_rfl) ?_
                      exact Eq.mpr (β := ((((.ptr 0 0 : AV) = .ptr 0 0) ∧ ((0 : Int) = 0) ∧ ((.ptr 1 0 : AV) = .ptr 1 0) ∧ True) ∧ ((((x0 : Int) = x0) ∧ ((x1 : ByteArray) = x1) ∧ ((x2 : ByteArray) = x2) ∧ ((x3 : ByteArray) = x3) ∧ ((x4 : Int) = x4) ∧ True) ∧ (((x0 : Int) = x0) ∧ ((x1 : ByteArray) = (g47_m5 x0 x1)) ∧ ((⟨#[]⟩ : ByteArray) = (g47_m6 x0 x2)) ∧ ((x3 : ByteArray) = (g47_m7 x0 x3)) ∧ ((x4 : Int) = (g47_m8 x0 x4)) ∧ True) ∧ True) ∧ true = true)) (by kernel_rfl) ⟨⟨rfl, rfl, rfl, trivial⟩, ⟨⟨rfl, rfl, rfl, rfl, rfl, trivial⟩, ⟨rfl, (eqF h10 (eqF h12 (eqF h13 (eqF h15 (eqT h16 rfl))))), (eqF h10 (eqF h12 (eqF h13 (eqF h15 rfl)))), (eqF h10 (eqF h12 (eqF h13 (eqF h15 (eqT h16 rfl))))), (eqF h10 (eqF h12 (eqF h13 (eqF h15 (eqT h16 rfl))))), trivial⟩, trivial⟩, rfl⟩
                    · skip
                      refine WP.step0 g47_e_ok ⟨U :: .ptr 0 0 :: .int .i64 0 :: .ptr 1 0 :: us 55 (.bool (x0 == 22) :: us 40 []), [[.int .i64 x0, .str x1, .str x2, .str x3, .int .i64 x4], [.int .i64 x0, .str x1, .str ⟨#[]⟩, .str ⟨#[]⟩, .int .i64 0]]⟩ (by kernel_rfl) ?_
                      refine WP.condR (x0 == 22) rfl (fun h17 => ?_) (fun h17 => ?_)
                      · skip
                        refine WP.fin0 g47_e_ok ⟨U :: .ptr 0 0 :: .int .i64 0 :: .ptr 1 0 :: us 96 [], [[.int .i64 x0, .str x1, .str x2, .str x3, .int .i64 x4], [.int .i64 x0, .str ⟨#[]⟩, .str ⟨#[]⟩, .str ⟨#[]⟩, .int .i64 0]]⟩ (by kernel_rfl) ?_
                        exact Eq.mpr (β := ((((.ptr 0 0 : AV) = .ptr 0 0) ∧ ((0 : Int) = 0) ∧ ((.ptr 1 0 : AV) = .ptr 1 0) ∧ True) ∧ ((((x0 : Int) = x0) ∧ ((x1 : ByteArray) = x1) ∧ ((x2 : ByteArray) = x2) ∧ ((x3 : ByteArray) = x3) ∧ ((x4 : Int) = x4) ∧ True) ∧ (((x0 : Int) = x0) ∧ ((⟨#[]⟩ : ByteArray) = (g47_m5 x0 x1)) ∧ ((⟨#[]⟩ : ByteArray) = (g47_m6 x0 x2)) ∧ ((⟨#[]⟩ : ByteArray) = (g47_m7 x0 x3)) ∧ ((0 : Int) = (g47_m8 x0 x4)) ∧ True) ∧ True) ∧ true = true)) (by kernel_rfl) ⟨⟨rfl, rfl, rfl, trivial⟩, ⟨⟨rfl, rfl, rfl, rfl, rfl, trivial⟩, ⟨rfl, (eqF h10 (eqF h12 (eqF h13 (eqF h15 (eqF h16 (eqT h17 rfl)))))), (eqF h10 (eqF h12 (eqF h13 (eqF h15 rfl)))), (eqF h10 (eqF h12 (eqF h13 (eqF h15 (eqF h16 rfl))))), (eqF h10 (eqF h12 (eqF h13 (eqF h15 (eqF h16 rfl))))), trivial⟩, trivial⟩, rfl⟩
                      · skip
                        exact WP.skipP ((((.ptr 0 0 : AV) = .ptr 0 0) ∧ ((0 : Int) = 0) ∧ ((.ptr 1 0 : AV) = .ptr 1 0) ∧ True) ∧ ((((x0 : Int) = x0) ∧ ((x1 : ByteArray) = x1) ∧ ((x2 : ByteArray) = x2) ∧ ((x3 : ByteArray) = x3) ∧ ((x4 : Int) = x4) ∧ True) ∧ (((x0 : Int) = x0) ∧ ((x1 : ByteArray) = (g47_m5 x0 x1)) ∧ ((⟨#[]⟩ : ByteArray) = (g47_m6 x0 x2)) ∧ ((⟨#[]⟩ : ByteArray) = (g47_m7 x0 x3)) ∧ ((0 : Int) = (g47_m8 x0 x4)) ∧ True) ∧ True) ∧ true = true) (by kernel_rfl) ⟨⟨rfl, rfl, rfl, trivial⟩, ⟨⟨rfl, rfl, rfl, rfl, rfl, trivial⟩, ⟨rfl, (eqF h10 (eqF h12 (eqF h13 (eqF h15 (eqF h16 (eqF h17 rfl)))))), (eqF h10 (eqF h12 (eqF h13 (eqF h15 rfl)))), (eqF h10 (eqF h12 (eqF h13 (eqF h15 (eqF h16 rfl))))), (eqF h10 (eqF h12 (eqF h13 (eqF h15 (eqF h16 rfl))))), trivial⟩, trivial⟩, rfl⟩
    · skip
      refine WP.seq ?_
      refine WP.step0 g47_e_ok ⟨U :: .ptr 0 0 :: .int .i64 0 :: us 61 (.bool (!((x0 == x0) && (((x1 : ByteArray).toList == ((g47_m5 x0 x1) : ByteArray).toList) && (((x2 : ByteArray).toList == ((g47_m6 x0 x2) : ByteArray).toList) && (((x3 : ByteArray).toList == ((g47_m7 x0 x3) : ByteArray).toList) && ((x4 == (g47_m8 x0 x4)) && true)))))) :: us 35 []), [[.int .i64 x0, .str x1, .str x2, .str x3, .int .i64 x4]]⟩ (by kernel_rfl) ?_
      refine WP.condR (!((x0 == x0) && (((x1 : ByteArray).toList == ((g47_m5 x0 x1) : ByteArray).toList) && (((x2 : ByteArray).toList == ((g47_m6 x0 x2) : ByteArray).toList) && (((x3 : ByteArray).toList == ((g47_m7 x0 x3) : ByteArray).toList) && ((x4 == (g47_m8 x0 x4)) && true)))))) rfl (fun h18 => ?_) (fun h18 => ?_)
      · skip
        refine WP.step0 g47_e_ok ⟨U :: .ptr 0 0 :: .int .i64 8 :: us 97 [], [[.int .i64 x0, .str x1, .str x2, .str x3, .int .i64 x4]]⟩ (by kernel_rfl) ?_
        exact WP.retP (True ∧ ((.int .i64 8 : AV) = .int .i64 (g47 x0 x1 x2 x3 x4))) (by kernel_rfl) ⟨trivial, (congrArg (AV.int .i64) (eqF h2 (eqT h18 rfl)))⟩
      · skip
        refine WP.skip ?_
        refine WP.seq ?_
        refine WP.stepM g47_e_ok (fun a : Bool => ⟨U :: .ptr 0 0 :: .int .i64 0 :: us 92 (.bool a :: us 4 []), [[.int .i64 x0, .str x1, .str x2, .str x3, .int .i64 x4]]⟩) (g47_m9 x0 x1 x2 x3) (fun K => (((x0 != 22) = true → (((!(g115 x1)) = true → K true) ∧ ((!(g115 x1)) = false → (((decide (x0 ≥ 4)) = true → (((decide (x0 ≤ 6)) = true → (((!(g115 x2)) = true → K true) ∧ ((!(g115 x2)) = false → K (!(g116 x3))))) ∧ ((decide (x0 ≤ 6)) = false → K (!(g116 x3))))) ∧ ((decide (x0 ≥ 4)) = false → K (!(g116 x3))))))) ∧ ((x0 != 22) = false → (((decide (x0 ≥ 4)) = true → (((decide (x0 ≤ 6)) = true → (((!(g115 x2)) = true → K true) ∧ ((!(g115 x2)) = false → K (!(g116 x3))))) ∧ ((decide (x0 ≤ 6)) = false → K (!(g116 x3))))) ∧ ((decide (x0 ≥ 4)) = false → K (!(g116 x3))))))) (by kernel_rfl) ⟨fun h19 => ⟨fun h20 => (KM.mk (eqT h19 (eqT h20 rfl))), fun h20 => ⟨fun h21 => ⟨fun h22 => ⟨fun h23 => (KM.mk (eqT h19 (eqF h20 (eqT h21 (eqT h22 (eqT h23 rfl)))))), fun h23 => (KM.mk (eqT h19 (eqF h20 (eqT h21 (eqT h22 (eqF h23 rfl))))))⟩, fun h22 => (KM.mk (eqT h19 (eqF h20 (eqT h21 (eqF h22 rfl)))))⟩, fun h21 => (KM.mk (eqT h19 (eqF h20 (eqF h21 rfl))))⟩⟩, fun h19 => ⟨fun h24 => ⟨fun h25 => ⟨fun h26 => (KM.mk (eqF h19 (eqT h24 (eqT h25 (eqT h26 rfl))))), fun h26 => (KM.mk (eqF h19 (eqT h24 (eqT h25 (eqF h26 rfl)))))⟩, fun h25 => (KM.mk (eqF h19 (eqT h24 (eqF h25 rfl))))⟩, fun h24 => (KM.mk (eqF h19 (eqF h24 rfl)))⟩⟩ ?_
        refine WP.condR (g47_m9 x0 x1 x2 x3) rfl (fun h27 => ?_) (fun h27 => ?_)
        · skip
          refine WP.step0 g47_e_ok ⟨U :: .ptr 0 0 :: .int .i64 1 :: us 97 [], [[.int .i64 x0, .str x1, .str x2, .str x3, .int .i64 x4]]⟩ (by kernel_rfl) ?_
          exact WP.retP (True ∧ ((.int .i64 1 : AV) = .int .i64 (g47 x0 x1 x2 x3 x4))) (by kernel_rfl) ⟨trivial, (congrArg (AV.int .i64) (eqF h2 (eqF h18 (eqT h27 rfl))))⟩
        · skip
          refine WP.skip ?_
          refine WP.seq ?_
          refine WP.step0 g47_e_ok ⟨U :: U :: .int .i64 0 :: us 96 ([.bool (!(g117 x4))]), []⟩ (by kernel_rfl) ?_
          refine WP.condR (!(g117 x4)) rfl (fun h28 => ?_) (fun h28 => ?_)
          · skip
            refine WP.step0 g47_e_ok ⟨U :: U :: .int .i64 2 :: us 97 [], []⟩ (by kernel_rfl) ?_
            exact WP.retP (True ∧ ((.int .i64 2 : AV) = .int .i64 (g47 x0 x1 x2 x3 x4))) (by kernel_rfl) ⟨trivial, (congrArg (AV.int .i64) (eqF h2 (eqF h18 (eqF h27 (eqT h28 rfl)))))⟩
          · skip
            refine WP.skip ?_
            refine WP.step0 g47_e_ok ⟨U :: U :: .int .i64 0 :: us 97 [], []⟩ (by kernel_rfl) ?_
            exact WP.retP (True ∧ ((.int .i64 0 : AV) = .int .i64 (g47 x0 x1 x2 x3 x4))) (by kernel_rfl) ⟨trivial, (congrArg (AV.int .i64) (eqF h2 (eqF h18 (eqF h27 (eqF h28 rfl)))))⟩
noncomputable def s47 : Ans := fun xs => match xs with
  | [.agg [.int .i64 x0, .str x1, .str x2, .str x3, .int .i64 x4]] => some (none, .int .i64 (g47 x0 x1 x2 x3 x4))
  | _ => none
theorem k47 : SOk Try.prog 47 s47 := ⟨⟨_, _, Try.func47, rfl, by kernel_rfl⟩, fun args pre r h _ => by
  unfold s47 at h; split at h <;> cases h; exact pc47 _ _ _ _ _⟩
noncomputable def g49_m1 (x0 : Int) (x1 : Int) : Bool := (bif (!(g119 x0)) then true else (!(g119 x1)))
noncomputable def g49 (x0 : Int) (x1 : Int) (x2 : Int) (x3 : ByteArray) (x4 : ByteArray) (x5 : ByteArray) (x6 : Int) : Int := (bif (x0 == 0) then (bif (!((x0 == 0) && ((x1 == 0) && ((x2 == 0) && (((x3 : ByteArray).toList == (⟨#[]⟩ : ByteArray).toList) && (((x4 : ByteArray).toList == (⟨#[]⟩ : ByteArray).toList) && (((x5 : ByteArray).toList == (⟨#[]⟩ : ByteArray).toList) && ((x6 == 0) && true)))))))) then 8 else 0) else (bif (g49_m1 x0 x1) then 2 else (g47 x2 x3 x4 x5 x6)))
noncomputable abbrev g49_e : Env := mkE [(47, s47), (119, s119)]
theorem g49_e_ok : g49_e.Ok := mkE_ok ⟨k47, k119, trivial⟩
theorem pc49 (x0 : Int) (x1 : Int) (x2 : Int) (x3 : ByteArray) (x4 : ByteArray) (x5 : ByteArray) (x6 : Int) : PureCall Try.prog 49 [.agg [.int .i64 x0, .int .i64 x1, .int .i64 x2, .str x3, .str x4, .str x5, .int .i64 x6]] (.int .i64 (g49 x0 x1 x2 x3 x4 x5 x6)) := by
  refine pure_of_WP (E := g49_e) g49_e_ok Try.func49 rfl _ _ ?_
  refine WP.step0 g49_e_ok ⟨U :: .ptr 0 0 :: .int .i64 0 :: us 19 [], [[.int .i64 x0, .int .i64 x1, .int .i64 x2, .str x3, .str x4, .str x5, .int .i64 x6]]⟩ (by kernel_rfl) ?_
  refine WP.seq ?_
  refine WP.step0 g49_e_ok ⟨U :: .ptr 0 0 :: .int .i64 0 :: U :: U :: .bool (x0 == 0) :: us 16 [], [[.int .i64 x0, .int .i64 x1, .int .i64 x2, .str x3, .str x4, .str x5, .int .i64 x6]]⟩ (by kernel_rfl) ?_
  refine WP.condR (x0 == 0) rfl (fun h1 => ?_) (fun h1 => ?_)
  · skip
    refine WP.seq ?_
    refine WP.step0 g49_e_ok ⟨U :: .ptr 0 0 :: .int .i64 0 :: us 5 (.bool (!((x0 == 0) && ((x1 == 0) && ((x2 == 0) && (((x3 : ByteArray).toList == (⟨#[]⟩ : ByteArray).toList) && (((x4 : ByteArray).toList == (⟨#[]⟩ : ByteArray).toList) && (((x5 : ByteArray).toList == (⟨#[]⟩ : ByteArray).toList) && ((x6 == 0) && true)))))))) :: us 13 []), [[.int .i64 x0, .int .i64 x1, .int .i64 x2, .str x3, .str x4, .str x5, .int .i64 x6]]⟩ (by kernel_rfl) ?_
    refine WP.condR (!((x0 == 0) && ((x1 == 0) && ((x2 == 0) && (((x3 : ByteArray).toList == (⟨#[]⟩ : ByteArray).toList) && (((x4 : ByteArray).toList == (⟨#[]⟩ : ByteArray).toList) && (((x5 : ByteArray).toList == (⟨#[]⟩ : ByteArray).toList) && ((x6 == 0) && true)))))))) rfl (fun h2 => ?_) (fun h2 => ?_)
    · skip
      refine WP.step0 g49_e_ok ⟨U :: .ptr 0 0 :: .int .i64 8 :: us 19 [], [[.int .i64 x0, .int .i64 x1, .int .i64 x2, .str x3, .str x4, .str x5, .int .i64 x6]]⟩ (by kernel_rfl) ?_
      exact WP.retP (True ∧ ((.int .i64 8 : AV) = .int .i64 (g49 x0 x1 x2 x3 x4 x5 x6))) (by kernel_rfl) ⟨trivial, (congrArg (AV.int .i64) (eqT h1 (eqT h2 rfl)))⟩
    · skip
      refine WP.skip ?_
      refine WP.step0 g49_e_ok ⟨U :: .ptr 0 0 :: .int .i64 0 :: us 19 [], [[.int .i64 x0, .int .i64 x1, .int .i64 x2, .str x3, .str x4, .str x5, .int .i64 x6]]⟩ (by kernel_rfl) ?_
      exact WP.retP (True ∧ ((.int .i64 0 : AV) = .int .i64 (g49 x0 x1 x2 x3 x4 x5 x6))) (by kernel_rfl) ⟨trivial, (congrArg (AV.int .i64) (eqT h1 (eqF h2 rfl)))⟩
  · skip
    refine WP.skip ?_
    refine WP.seq ?_
    refine WP.stepM g49_e_ok (fun a : Bool => ⟨U :: .ptr 0 0 :: .int .i64 0 :: us 15 ([.bool a, U, U, U]), [[.int .i64 x0, .int .i64 x1, .int .i64 x2, .str x3, .str x4, .str x5, .int .i64 x6]]⟩) (g49_m1 x0 x1) (fun K => (((!(g119 x0)) = true → K true) ∧ ((!(g119 x0)) = false → K (!(g119 x1))))) (by kernel_rfl) ⟨fun h3 => (KM.mk (eqT h3 rfl)), fun h3 => (KM.mk (eqF h3 rfl))⟩ ?_
    refine WP.condR (g49_m1 x0 x1) rfl (fun h4 => ?_) (fun h4 => ?_)
    · skip
      refine WP.step0 g49_e_ok ⟨U :: .ptr 0 0 :: .int .i64 2 :: us 19 [], [[.int .i64 x0, .int .i64 x1, .int .i64 x2, .str x3, .str x4, .str x5, .int .i64 x6]]⟩ (by kernel_rfl) ?_
      exact WP.retP (True ∧ ((.int .i64 2 : AV) = .int .i64 (g49 x0 x1 x2 x3 x4 x5 x6))) (by kernel_rfl) ⟨trivial, (congrArg (AV.int .i64) (eqF h1 (eqT h4 rfl)))⟩
    · skip
      refine WP.skip ?_
      refine WP.step0 g49_e_ok ⟨U :: U :: .int .i64 (g47 x2 x3 x4 x5 x6) :: us 19 [], []⟩ (by kernel_rfl) ?_
      exact WP.retP (True ∧ ((.int .i64 (g47 x2 x3 x4 x5 x6) : AV) = .int .i64 (g49 x0 x1 x2 x3 x4 x5 x6))) (by kernel_rfl) ⟨trivial, (congrArg (AV.int .i64) (eqF h1 (eqF h4 rfl)))⟩
noncomputable def s49 : Ans := fun xs => match xs with
  | [.agg [.int .i64 x0, .int .i64 x1, .int .i64 x2, .str x3, .str x4, .str x5, .int .i64 x6]] => some (none, .int .i64 (g49 x0 x1 x2 x3 x4 x5 x6))
  | _ => none
theorem k49 : SOk Try.prog 49 s49 := ⟨⟨_, _, Try.func49, rfl, by kernel_rfl⟩, fun args pre r h _ => by
  unfold s49 at h; split at h <;> cases h; exact pc49 _ _ _ _ _ _ _⟩
noncomputable def g50_m1 (x1 : Int) (x2 : Int) (x3 : ByteArray) (x4 : ByteArray) (x5 : ByteArray) (x6 : Int) : Bool := (bif (x1 != 0) then true else (!((x2 == 0) && (((x3 : ByteArray).toList == (⟨#[]⟩ : ByteArray).toList) && (((x4 : ByteArray).toList == (⟨#[]⟩ : ByteArray).toList) && (((x5 : ByteArray).toList == (⟨#[]⟩ : ByteArray).toList) && ((x6 == 0) && true)))))))
noncomputable def g50_m2 (x0 : Int) (x1 : Int) : Bool := (bif (!(g120 x0)) then true else (!(g120 x1)))
noncomputable def g50 (x0 : Int) (x1 : Int) (x2 : Int) (x3 : ByteArray) (x4 : ByteArray) (x5 : ByteArray) (x6 : Int) : Int := (bif (x0 == 0) then (bif (g50_m1 x1 x2 x3 x4 x5 x6) then 8 else 0) else (bif (g50_m2 x0 x1) then 2 else (g48 x2 x3 x4 x5 x6)))
noncomputable abbrev g50_e : Env := mkE [(48, s48), (120, s120)]
theorem g50_e_ok : g50_e.Ok := mkE_ok ⟨k48, k120, trivial⟩
theorem pc50 (x0 : Int) (x1 : Int) (x2 : Int) (x3 : ByteArray) (x4 : ByteArray) (x5 : ByteArray) (x6 : Int) : PureCall Try.prog 50 [.agg [.int .i64 x0, .int .i64 x1, .int .i64 x2, .str x3, .str x4, .str x5, .int .i64 x6]] (.int .i64 (g50 x0 x1 x2 x3 x4 x5 x6)) := by
  refine pure_of_WP (E := g50_e) g50_e_ok Try.func50 rfl _ _ ?_
  refine WP.step0 g50_e_ok ⟨U :: .ptr 0 0 :: .int .i64 0 :: us 25 [], [[.int .i64 x0, .int .i64 x1, .int .i64 x2, .str x3, .str x4, .str x5, .int .i64 x6]]⟩ (by kernel_rfl) ?_
  refine WP.seq ?_
  refine WP.step0 g50_e_ok ⟨U :: .ptr 0 0 :: .int .i64 0 :: U :: U :: .bool (x0 == 0) :: us 22 [], [[.int .i64 x0, .int .i64 x1, .int .i64 x2, .str x3, .str x4, .str x5, .int .i64 x6]]⟩ (by kernel_rfl) ?_
  refine WP.condR (x0 == 0) rfl (fun h1 => ?_) (fun h1 => ?_)
  · skip
    refine WP.seq ?_
    refine WP.stepM g50_e_ok (fun a : Bool => ⟨U :: .ptr 0 0 :: .int .i64 0 :: us 11 (.bool a :: us 13 []), [[.int .i64 x0, .int .i64 x1, .int .i64 x2, .str x3, .str x4, .str x5, .int .i64 x6]]⟩) (g50_m1 x1 x2 x3 x4 x5 x6) (fun K => (((x1 != 0) = true → K true) ∧ ((x1 != 0) = false → K (!((x2 == 0) && (((x3 : ByteArray).toList == (⟨#[]⟩ : ByteArray).toList) && (((x4 : ByteArray).toList == (⟨#[]⟩ : ByteArray).toList) && (((x5 : ByteArray).toList == (⟨#[]⟩ : ByteArray).toList) && ((x6 == 0) && true))))))))) (by kernel_rfl) ⟨fun h2 => (KM.mk (eqT h2 rfl)), fun h2 => (KM.mk (eqF h2 rfl))⟩ ?_
    refine WP.condR (g50_m1 x1 x2 x3 x4 x5 x6) rfl (fun h3 => ?_) (fun h3 => ?_)
    · skip
      refine WP.step0 g50_e_ok ⟨U :: .ptr 0 0 :: .int .i64 8 :: us 25 [], [[.int .i64 x0, .int .i64 x1, .int .i64 x2, .str x3, .str x4, .str x5, .int .i64 x6]]⟩ (by kernel_rfl) ?_
      exact WP.retP (True ∧ ((.int .i64 8 : AV) = .int .i64 (g50 x0 x1 x2 x3 x4 x5 x6))) (by kernel_rfl) ⟨trivial, (congrArg (AV.int .i64) (eqT h1 (eqT h3 rfl)))⟩
    · skip
      refine WP.skip ?_
      refine WP.step0 g50_e_ok ⟨U :: .ptr 0 0 :: .int .i64 0 :: us 25 [], [[.int .i64 x0, .int .i64 x1, .int .i64 x2, .str x3, .str x4, .str x5, .int .i64 x6]]⟩ (by kernel_rfl) ?_
      exact WP.retP (True ∧ ((.int .i64 0 : AV) = .int .i64 (g50 x0 x1 x2 x3 x4 x5 x6))) (by kernel_rfl) ⟨trivial, (congrArg (AV.int .i64) (eqT h1 (eqF h3 rfl)))⟩
  · skip
    refine WP.skip ?_
    refine WP.seq ?_
    refine WP.stepM g50_e_ok (fun a : Bool => ⟨U :: .ptr 0 0 :: .int .i64 0 :: us 21 ([.bool a, U, U, U]), [[.int .i64 x0, .int .i64 x1, .int .i64 x2, .str x3, .str x4, .str x5, .int .i64 x6]]⟩) (g50_m2 x0 x1) (fun K => (((!(g120 x0)) = true → K true) ∧ ((!(g120 x0)) = false → K (!(g120 x1))))) (by kernel_rfl) ⟨fun h4 => (KM.mk (eqT h4 rfl)), fun h4 => (KM.mk (eqF h4 rfl))⟩ ?_
    refine WP.condR (g50_m2 x0 x1) rfl (fun h5 => ?_) (fun h5 => ?_)
    · skip
      refine WP.step0 g50_e_ok ⟨U :: .ptr 0 0 :: .int .i64 2 :: us 25 [], [[.int .i64 x0, .int .i64 x1, .int .i64 x2, .str x3, .str x4, .str x5, .int .i64 x6]]⟩ (by kernel_rfl) ?_
      exact WP.retP (True ∧ ((.int .i64 2 : AV) = .int .i64 (g50 x0 x1 x2 x3 x4 x5 x6))) (by kernel_rfl) ⟨trivial, (congrArg (AV.int .i64) (eqF h1 (eqT h5 rfl)))⟩
    · skip
      refine WP.skip ?_
      refine WP.step0 g50_e_ok ⟨U :: U :: .int .i64 (g48 x2 x3 x4 x5 x6) :: us 25 [], []⟩ (by kernel_rfl) ?_
      exact WP.retP (True ∧ ((.int .i64 (g48 x2 x3 x4 x5 x6) : AV) = .int .i64 (g50 x0 x1 x2 x3 x4 x5 x6))) (by kernel_rfl) ⟨trivial, (congrArg (AV.int .i64) (eqF h1 (eqF h5 rfl)))⟩
noncomputable def s50 : Ans := fun xs => match xs with
  | [.agg [.int .i64 x0, .int .i64 x1, .int .i64 x2, .str x3, .str x4, .str x5, .int .i64 x6]] => some (none, .int .i64 (g50 x0 x1 x2 x3 x4 x5 x6))
  | _ => none
theorem k50 : SOk Try.prog 50 s50 := ⟨⟨_, _, Try.func50, rfl, by kernel_rfl⟩, fun args pre r h _ => by
  unfold s50 at h; split at h <;> cases h; exact pc50 _ _ _ _ _ _ _⟩
noncomputable def g51_m1 (x0 : Int) (x1 : Int) : Bool := (bif (decide (x0 < 1)) then true else (bif (decide (x0 > 1048576)) then true else (bif (decide (x1 < 0)) then true else (decide (x1 > 1073741824)))))
noncomputable def g51 (x0 : Int) (x1 : Int) (x2 : Bool) (x3 : Int) (x4 : Int) (x5 : Int) (x6 : ByteArray) (x7 : ByteArray) (x8 : ByteArray) (x9 : Int) : Int := (bif (g51_m1 x0 x1) then 2 else (bif x2 then (bif (!((x3 == 0) && ((x4 == 0) && ((x5 == 0) && (((x6 : ByteArray).toList == (⟨#[]⟩ : ByteArray).toList) && (((x7 : ByteArray).toList == (⟨#[]⟩ : ByteArray).toList) && (((x8 : ByteArray).toList == (⟨#[]⟩ : ByteArray).toList) && ((x9 == 0) && true)))))))) then 8 else 0) else (g49 x3 x4 x5 x6 x7 x8 x9)))
noncomputable abbrev g51_e : Env := mkE [(49, s49)]
theorem g51_e_ok : g51_e.Ok := mkE_ok ⟨k49, trivial⟩
theorem pc51 (x0 : Int) (x1 : Int) (x2 : Bool) (x3 : Int) (x4 : Int) (x5 : Int) (x6 : ByteArray) (x7 : ByteArray) (x8 : ByteArray) (x9 : Int) : PureCall Try.prog 51 [.agg [.int .i64 x0, .int .i64 x1, .bool x2, .int .i64 x3, .int .i64 x4, .int .i64 x5, .str x6, .str x7, .str x8, .int .i64 x9]] (.int .i64 (g51 x0 x1 x2 x3 x4 x5 x6 x7 x8 x9)) := by
  refine pure_of_WP (E := g51_e) g51_e_ok Try.func51 rfl _ _ ?_
  refine WP.step0 g51_e_ok ⟨U :: .ptr 0 0 :: .int .i64 0 :: us 27 [], [[.int .i64 x0, .int .i64 x1, .bool x2, .int .i64 x3, .int .i64 x4, .int .i64 x5, .str x6, .str x7, .str x8, .int .i64 x9]]⟩ (by kernel_rfl) ?_
  refine WP.seq ?_
  refine WP.stepM g51_e_ok (fun a : Bool => ⟨U :: .ptr 0 0 :: .int .i64 0 :: us 17 (.bool a :: us 9 []), [[.int .i64 x0, .int .i64 x1, .bool x2, .int .i64 x3, .int .i64 x4, .int .i64 x5, .str x6, .str x7, .str x8, .int .i64 x9]]⟩) (g51_m1 x0 x1) (fun K => (((decide (x0 < 1)) = true → K true) ∧ ((decide (x0 < 1)) = false → (((decide (x0 > 1048576)) = true → K true) ∧ ((decide (x0 > 1048576)) = false → (((decide (x1 < 0)) = true → K true) ∧ ((decide (x1 < 0)) = false → K (decide (x1 > 1073741824))))))))) (by kernel_rfl) ⟨fun h1 => (KM.mk (eqT h1 rfl)), fun h1 => ⟨fun h2 => (KM.mk (eqF h1 (eqT h2 rfl))), fun h2 => ⟨fun h3 => (KM.mk (eqF h1 (eqF h2 (eqT h3 rfl)))), fun h3 => (KM.mk (eqF h1 (eqF h2 (eqF h3 rfl))))⟩⟩⟩ ?_
  refine WP.condR (g51_m1 x0 x1) rfl (fun h4 => ?_) (fun h4 => ?_)
  · skip
    refine WP.step0 g51_e_ok ⟨U :: .ptr 0 0 :: .int .i64 2 :: us 27 [], [[.int .i64 x0, .int .i64 x1, .bool x2, .int .i64 x3, .int .i64 x4, .int .i64 x5, .str x6, .str x7, .str x8, .int .i64 x9]]⟩ (by kernel_rfl) ?_
    exact WP.retP (True ∧ ((.int .i64 2 : AV) = .int .i64 (g51 x0 x1 x2 x3 x4 x5 x6 x7 x8 x9))) (by kernel_rfl) ⟨trivial, (congrArg (AV.int .i64) (eqT h4 rfl))⟩
  · skip
    refine WP.skip ?_
    refine WP.seq ?_
    refine WP.step0 g51_e_ok ⟨U :: .ptr 0 0 :: .int .i64 0 :: us 19 (.bool x2 :: us 7 []), [[.int .i64 x0, .int .i64 x1, .bool x2, .int .i64 x3, .int .i64 x4, .int .i64 x5, .str x6, .str x7, .str x8, .int .i64 x9]]⟩ (by kernel_rfl) ?_
    refine WP.condR x2 rfl (fun h5 => ?_) (fun h5 => ?_)
    · skip
      refine WP.seq ?_
      refine WP.step0 g51_e_ok ⟨U :: .ptr 0 0 :: .int .i64 0 :: us 23 ([.bool (!((x3 == 0) && ((x4 == 0) && ((x5 == 0) && (((x6 : ByteArray).toList == (⟨#[]⟩ : ByteArray).toList) && (((x7 : ByteArray).toList == (⟨#[]⟩ : ByteArray).toList) && (((x8 : ByteArray).toList == (⟨#[]⟩ : ByteArray).toList) && ((x9 == 0) && true)))))))), U, U, U]), [[.int .i64 x0, .int .i64 x1, .bool x2, .int .i64 x3, .int .i64 x4, .int .i64 x5, .str x6, .str x7, .str x8, .int .i64 x9]]⟩ (by kernel_rfl) ?_
      refine WP.condR (!((x3 == 0) && ((x4 == 0) && ((x5 == 0) && (((x6 : ByteArray).toList == (⟨#[]⟩ : ByteArray).toList) && (((x7 : ByteArray).toList == (⟨#[]⟩ : ByteArray).toList) && (((x8 : ByteArray).toList == (⟨#[]⟩ : ByteArray).toList) && ((x9 == 0) && true)))))))) rfl (fun h6 => ?_) (fun h6 => ?_)
      · skip
        refine WP.step0 g51_e_ok ⟨U :: .ptr 0 0 :: .int .i64 8 :: us 27 [], [[.int .i64 x0, .int .i64 x1, .bool x2, .int .i64 x3, .int .i64 x4, .int .i64 x5, .str x6, .str x7, .str x8, .int .i64 x9]]⟩ (by kernel_rfl) ?_
        exact WP.retP (True ∧ ((.int .i64 8 : AV) = .int .i64 (g51 x0 x1 x2 x3 x4 x5 x6 x7 x8 x9))) (by kernel_rfl) ⟨trivial, (congrArg (AV.int .i64) (eqF h4 (eqT h5 (eqT h6 rfl))))⟩
      · skip
        refine WP.skip ?_
        refine WP.step0 g51_e_ok ⟨U :: .ptr 0 0 :: .int .i64 0 :: us 27 [], [[.int .i64 x0, .int .i64 x1, .bool x2, .int .i64 x3, .int .i64 x4, .int .i64 x5, .str x6, .str x7, .str x8, .int .i64 x9]]⟩ (by kernel_rfl) ?_
        exact WP.retP (True ∧ ((.int .i64 0 : AV) = .int .i64 (g51 x0 x1 x2 x3 x4 x5 x6 x7 x8 x9))) (by kernel_rfl) ⟨trivial, (congrArg (AV.int .i64) (eqF h4 (eqT h5 (eqF h6 rfl))))⟩
    · skip
      refine WP.skip ?_
      refine WP.step0 g51_e_ok ⟨U :: U :: .int .i64 (g49 x3 x4 x5 x6 x7 x8 x9) :: us 27 [], []⟩ (by kernel_rfl) ?_
      exact WP.retP (True ∧ ((.int .i64 (g49 x3 x4 x5 x6 x7 x8 x9) : AV) = .int .i64 (g51 x0 x1 x2 x3 x4 x5 x6 x7 x8 x9))) (by kernel_rfl) ⟨trivial, (congrArg (AV.int .i64) (eqF h4 (eqF h5 rfl)))⟩
noncomputable def s51 : Ans := fun xs => match xs with
  | [.agg [.int .i64 x0, .int .i64 x1, .bool x2, .int .i64 x3, .int .i64 x4, .int .i64 x5, .str x6, .str x7, .str x8, .int .i64 x9]] => some (none, .int .i64 (g51 x0 x1 x2 x3 x4 x5 x6 x7 x8 x9))
  | _ => none
theorem k51 : SOk Try.prog 51 s51 := ⟨⟨_, _, Try.func51, rfl, by kernel_rfl⟩, fun args pre r h _ => by
  unfold s51 at h; split at h <;> cases h; exact pc51 _ _ _ _ _ _ _ _ _ _⟩
noncomputable def g52_m1 (x0 : Int) (x1 : Int) : Bool := (bif (!(g120 x0)) then true else (!(g112 x1 0 1073741824)))
noncomputable def g52 (x0 : Int) (x1 : Int) (x2 : Bool) (x3 : Int) (x4 : Int) (x5 : Int) (x6 : ByteArray) (x7 : ByteArray) (x8 : ByteArray) (x9 : Int) : Int := (bif (g52_m1 x0 x1) then 2 else (bif (!x2) then (g50 x3 x4 x5 x6 x7 x8 x9) else (bif (!((x3 == 0) && ((x4 == 0) && ((x5 == 0) && (((x6 : ByteArray).toList == (⟨#[]⟩ : ByteArray).toList) && (((x7 : ByteArray).toList == (⟨#[]⟩ : ByteArray).toList) && (((x8 : ByteArray).toList == (⟨#[]⟩ : ByteArray).toList) && ((x9 == 0) && true)))))))) then 8 else 0)))
noncomputable abbrev g52_e : Env := mkE [(50, s50), (112, s112), (120, s120)]
theorem g52_e_ok : g52_e.Ok := mkE_ok ⟨k50, k112, k120, trivial⟩
theorem pc52 (x0 : Int) (x1 : Int) (x2 : Bool) (x3 : Int) (x4 : Int) (x5 : Int) (x6 : ByteArray) (x7 : ByteArray) (x8 : ByteArray) (x9 : Int) : PureCall Try.prog 52 [.agg [.int .i64 x0, .int .i64 x1, .bool x2, .int .i64 x3, .int .i64 x4, .int .i64 x5, .str x6, .str x7, .str x8, .int .i64 x9]] (.int .i64 (g52 x0 x1 x2 x3 x4 x5 x6 x7 x8 x9)) := by
  refine pure_of_WP (E := g52_e) g52_e_ok Try.func52 rfl _ _ ?_
  refine WP.step0 g52_e_ok ⟨U :: .ptr 0 0 :: .int .i64 0 :: us 20 [], [[.int .i64 x0, .int .i64 x1, .bool x2, .int .i64 x3, .int .i64 x4, .int .i64 x5, .str x6, .str x7, .str x8, .int .i64 x9]]⟩ (by kernel_rfl) ?_
  refine WP.seq ?_
  refine WP.stepM g52_e_ok (fun a : Bool => ⟨U :: .ptr 0 0 :: .int .i64 0 :: us 9 (.bool a :: us 10 []), [[.int .i64 x0, .int .i64 x1, .bool x2, .int .i64 x3, .int .i64 x4, .int .i64 x5, .str x6, .str x7, .str x8, .int .i64 x9]]⟩) (g52_m1 x0 x1) (fun K => (((!(g120 x0)) = true → K true) ∧ ((!(g120 x0)) = false → K (!(g112 x1 0 1073741824))))) (by kernel_rfl) ⟨fun h1 => (KM.mk (eqT h1 rfl)), fun h1 => (KM.mk (eqF h1 rfl))⟩ ?_
  refine WP.condR (g52_m1 x0 x1) rfl (fun h2 => ?_) (fun h2 => ?_)
  · skip
    refine WP.step0 g52_e_ok ⟨U :: .ptr 0 0 :: .int .i64 2 :: us 20 [], [[.int .i64 x0, .int .i64 x1, .bool x2, .int .i64 x3, .int .i64 x4, .int .i64 x5, .str x6, .str x7, .str x8, .int .i64 x9]]⟩ (by kernel_rfl) ?_
    exact WP.retP (True ∧ ((.int .i64 2 : AV) = .int .i64 (g52 x0 x1 x2 x3 x4 x5 x6 x7 x8 x9))) (by kernel_rfl) ⟨trivial, (congrArg (AV.int .i64) (eqT h2 rfl))⟩
  · skip
    refine WP.skip ?_
    refine WP.seq ?_
    refine WP.step0 g52_e_ok ⟨U :: .ptr 0 0 :: .int .i64 0 :: us 12 (.bool (!x2) :: us 7 []), [[.int .i64 x0, .int .i64 x1, .bool x2, .int .i64 x3, .int .i64 x4, .int .i64 x5, .str x6, .str x7, .str x8, .int .i64 x9]]⟩ (by kernel_rfl) ?_
    refine WP.condR (!x2) rfl (fun h3 => ?_) (fun h3 => ?_)
    · skip
      refine WP.step0 g52_e_ok ⟨U :: .ptr 0 0 :: .int .i64 (g50 x3 x4 x5 x6 x7 x8 x9) :: us 20 [], [[.int .i64 x0, .int .i64 x1, .bool x2, .int .i64 x3, .int .i64 x4, .int .i64 x5, .str x6, .str x7, .str x8, .int .i64 x9]]⟩ (by kernel_rfl) ?_
      exact WP.retP (True ∧ ((.int .i64 (g50 x3 x4 x5 x6 x7 x8 x9) : AV) = .int .i64 (g52 x0 x1 x2 x3 x4 x5 x6 x7 x8 x9))) (by kernel_rfl) ⟨trivial, (congrArg (AV.int .i64) (eqF h2 (eqT h3 rfl)))⟩
    · skip
      refine WP.skip ?_
      refine WP.seq ?_
      refine WP.step0 g52_e_ok ⟨U :: U :: .int .i64 0 :: us 19 ([.bool (!((x3 == 0) && ((x4 == 0) && ((x5 == 0) && (((x6 : ByteArray).toList == (⟨#[]⟩ : ByteArray).toList) && (((x7 : ByteArray).toList == (⟨#[]⟩ : ByteArray).toList) && (((x8 : ByteArray).toList == (⟨#[]⟩ : ByteArray).toList) && ((x9 == 0) && true))))))))]), []⟩ (by kernel_rfl) ?_
      refine WP.condR (!((x3 == 0) && ((x4 == 0) && ((x5 == 0) && (((x6 : ByteArray).toList == (⟨#[]⟩ : ByteArray).toList) && (((x7 : ByteArray).toList == (⟨#[]⟩ : ByteArray).toList) && (((x8 : ByteArray).toList == (⟨#[]⟩ : ByteArray).toList) && ((x9 == 0) && true)))))))) rfl (fun h4 => ?_) (fun h4 => ?_)
      · skip
        refine WP.step0 g52_e_ok ⟨U :: U :: .int .i64 8 :: us 20 [], []⟩ (by kernel_rfl) ?_
        exact WP.retP (True ∧ ((.int .i64 8 : AV) = .int .i64 (g52 x0 x1 x2 x3 x4 x5 x6 x7 x8 x9))) (by kernel_rfl) ⟨trivial, (congrArg (AV.int .i64) (eqF h2 (eqF h3 (eqT h4 rfl))))⟩
      · skip
        refine WP.skip ?_
        refine WP.step0 g52_e_ok ⟨U :: U :: .int .i64 0 :: us 20 [], []⟩ (by kernel_rfl) ?_
        exact WP.retP (True ∧ ((.int .i64 0 : AV) = .int .i64 (g52 x0 x1 x2 x3 x4 x5 x6 x7 x8 x9))) (by kernel_rfl) ⟨trivial, (congrArg (AV.int .i64) (eqF h2 (eqF h3 (eqF h4 rfl))))⟩
noncomputable def s52 : Ans := fun xs => match xs with
  | [.agg [.int .i64 x0, .int .i64 x1, .bool x2, .int .i64 x3, .int .i64 x4, .int .i64 x5, .str x6, .str x7, .str x8, .int .i64 x9]] => some (none, .int .i64 (g52 x0 x1 x2 x3 x4 x5 x6 x7 x8 x9))
  | _ => none
theorem k52 : SOk Try.prog 52 s52 := ⟨⟨_, _, Try.func52, rfl, by kernel_rfl⟩, fun args pre r h _ => by
  unfold s52 at h; split at h <;> cases h; exact pc52 _ _ _ _ _ _ _ _ _ _⟩
end Go.Proofs.Ytchhfojblmceiaa
