/-
  Walks: what functions of the program answer, as functions.
-/
import Derived.Test.YtchhfojblmceiaaGreatCl
import Derived.Test.YtchhfojblmceiaaGreatEc
import Derived.Test.YtchhfojblmceiaaGreatYA
import Derived.Test.YtchhfojblmceiaaGreatZA
import Derived.Test.YtchhfojblmceiaaGreatZB
import Derived.Test.YtchhfojblmceiaaGreatHA
namespace Go.Proofs.YtchhfojblmceiaaGreat
open Go Go.Vc Go.RowKit
set_option maxRecDepth 100000
set_option maxHeartbeats 4000000
noncomputable def g38_0 (x0 : Sl Int) : Sl Int := (g82 x0)
noncomputable def g38_1 (x1 : Int) : Int := x1
noncomputable def F38 : Fq := ⟨[.g [.sl E5, kI]], fun x0 x1 => ⟨⟨none, .agg [ofSl 1 e5 (g38_0 x0), .int .i64 (g38_1 x1)]⟩⟩⟩
theorem pc38 : FnOk Tryz.prog 6 F38.sh _ (F38.sh.flatMap Sh.bs) F38.f [] :=
  fun x0 _ _ (x1 : Int) => pure_of_exec (X := (mkX [(20, F82.ans)])) (R := ⟨.pure, [.cell 2 24], [(.c 0 0, .sl E5), (.c 0 1, kI)], ⟨[.agg (us 2 [])], []⟩⟩) (h := .z) (ms := []) (p := True) (mkX_ok ⟨k82, trivial⟩) Tryz.func6 rfl rfl (by kernel_rfl) (trivial)
theorem k38 : XOk Tryz.prog 6 F38.ans := Fq.ok ⟨_, _, Tryz.func6, rfl, by kernel_rfl⟩ pc38
noncomputable def g107_m1 (x0 : Sl Int) (x1 : Int) : Bool := (bif (decide (x1 < 0)) then true else (bif (decide (x1 > (x0.n : Int))) then true else (decide ((x0.n : Int) > 400000))))
noncomputable def g107_0_0 (x0 : Sl Int) (x1 : Int) : Sl Int := (bif (g107_m1 x0 x1) then (nilSl : Sl Int) else x0)
noncomputable def g107_0_1 (x0 : Sl Int) (x1 : Int) : Int := (bif (g107_m1 x0 x1) then 0 else x1)
noncomputable def g107_1 (x0 : Sl Int) (x1 : Int) : Bool := (bif (g107_m1 x0 x1) then false else true)
noncomputable def F107 : Fq := ⟨[.g [.sl E5, kI]], fun x0 x1 => ⟨⟨none, .tup [.agg [ofSl 1 e5 (g107_0_0 x0 x1), .int .i64 (g107_0_1 x0 x1)], .bool (g107_1 x0 x1)]⟩⟩⟩
theorem pc107 : FnOk Tryz.prog 21 F107.sh _ (F107.sh.flatMap Sh.bs) F107.f [] :=
  fun x0 _ _ (x1 : Int) => pure_of_exec (X := (mkX [(59, F160.ans)])) (R := ⟨.pure, [.cell 2 24, .tmp 3], [(.c 0 0, .sl E5), (.c 0 1, kI), (.t 1, kB)], ⟨[.agg (us 2 []), U], []⟩⟩) (h := (.s .z (.s (.j ⟨1048590, [], [(.t 20, kB)], [], .f⟩ .z .z) .z))) (ms := []) (p := True) (mkX_ok ⟨k160, trivial⟩) Tryz.func21 rfl rfl (by kernel_rfl) (trivial)
theorem k107 : XOk Tryz.prog 21 F107.ans := Fq.ok ⟨_, _, Tryz.func21, rfl, by kernel_rfl⟩ pc107
theorem h107 (x0 : Sl Int) (x1 : Int) (h : g107_1 x0 x1 = true) : (0 ≤ g107_0_1 x0 x1 ∧ g107_0_1 x0 x1 ≤ ((g107_0_0 x0 x1).n : Int)) ∧ (g107_0_0 x0 x1).n ≤ 400000 := by
  unfold g107_1 at h
  cases hm : g107_m1 x0 x1 with
  | true => rw [hm] at h; simp at h
  | false =>
    simp only [g107_0_1, g107_0_0, hm, cond_false]
    simp [g107_m1] at hm
    omega
theorem u107 {x0 : Sl Int} {x1 : Int} (h : U8 x0) : U8 (g107_0_0 x0 x1) := by
  unfold g107_0_0
  cases g107_m1 x0 x1
  · exact h
  · exact fun _ => ⟨Int.le_refl 0, (by decide : (0 : Int) ≤ 255)⟩
noncomputable def g41_m1 (x0 : Sl Int) (x1 : Int) (x2 : Sl Int) (x3 : Int) : Bool := (bif (x1 == x3) then (((Sl.toStr x0) : ByteArray).toList == ((Sl.toStr x2) : ByteArray).toList) else false)
noncomputable def g41 (x0 : Sl Int) (x1 : Int) (x2 : Sl Int) (x3 : Int) : Bool := (g41_m1 x0 x1 x2 x3)
noncomputable def F41 : Fq := ⟨[.g [.sl E5, kI], .g [.sl E5, kI]], fun x0 x1 x2 x3 => ⟨⟨none, .bool (g41 x0 x1 x2 x3)⟩⟩⟩
theorem pc41 : FnOk Tryz.prog 10 F41.sh _ (F41.sh.flatMap Sh.bs) F41.f [] :=
  fun x0 _ _ (x1 : Int) x2 _ _ (x3 : Int) => pure_of_exec (X := X0) (R := ⟨.pure, [.tmp 4], [(.t 0, kB)], ⟨[U], []⟩⟩) (h := (.s .z (.j ⟨16, [.b 0, .b 1], [(.t 4, kB)], [], .f⟩ .z .z))) (ms := []) (p := True) X0_ok Tryz.func10 rfl rfl (by kernel_rfl) (trivial)
theorem k41 : XOk Tryz.prog 10 F41.ans := Fq.ok ⟨_, _, Tryz.func10, rfl, by kernel_rfl⟩ pc41
end Go.Proofs.YtchhfojblmceiaaGreat
