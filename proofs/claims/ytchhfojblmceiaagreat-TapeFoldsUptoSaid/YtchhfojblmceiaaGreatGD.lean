/-
  Walks: what functions of the program answer, as functions.
-/
import Derived.Test.YtchhfojblmceiaaGreatCl
import Derived.Test.YtchhfojblmceiaaGreatEc
import Derived.Test.YtchhfojblmceiaaGreatGA
import Derived.Test.YtchhfojblmceiaaGreatVcH
import Derived.Test.YtchhfojblmceiaaGreatGC
import Derived.Test.YtchhfojblmceiaaGreatVcN
import Derived.Test.YtchhfojblmceiaaGreatGB
namespace Go.Proofs.YtchhfojblmceiaaGreat
open Go Go.Vc Go.RowKit
set_option maxRecDepth 100000
set_option maxHeartbeats 4000000
noncomputable def g184_0 (x0 : Int) : Int := x0
noncomputable def g184_1 (x1 : ByteArray) : ByteArray := x1
noncomputable def g184_2 (x2 : Int) : Int := x2
noncomputable def g215_m1 (x0 : Int) (x2 : ByteArray) (x8 : Sl T160) : Bool := (bif (x0 == 4) then (g228_139_1 x8 x2) else false)
noncomputable def g215_m2 (x0 : Int) (x8 : Sl T160) : Bool := (bif (x0 == 4) then (((x8.n : Nat) : Int) == 20) else false)
noncomputable def g215_m3 (x0 : Int) (x2 : ByteArray) (x8 : Sl T160) : Bool := (bif (x0 == 5) then (!(g228_139_1 x8 x2)) else false)
noncomputable def g215_m4 (x2 : ByteArray) (x8 : Sl T160) : Sl T160 := (bif (g228_139_1 x8 x2) then (Sl.del x8 (Int.toNat (g228_139_0 x8 x2)) (Int.toNat (IntKind.i64.wrap ((g228_139_0 x8 x2) + 1)))) else x8)
noncomputable def g215_p5 (x0 : Int) (x2 : ByteArray) (x8 : Sl T160) : Bool := (bif (g215_m1 x0 x2 x8) then false else (bif (g215_m2 x0 x8) then false else (bif (x0 == 4) then false else (bif (g215_m3 x0 x2 x8) then false else (bif (x0 == 5) then false else true)))))
noncomputable def g215_0 (x0 : Int) (x2 : ByteArray) (x8 : Sl T160) : Int := (bif (g215_p5 x0 x2 x8) then g213_0 else (bif (g215_m1 x0 x2 x8) then g213_0 else (bif (g215_m2 x0 x8) then (g187_0 6) else (bif (x0 == 4) then g213_0 else (bif (g215_m3 x0 x2 x8) then (g187_0 5) else 0)))))
noncomputable def g215_1 (x0 : Int) (x2 : ByteArray) (x8 : Sl T160) : ByteArray := (bif (g215_p5 x0 x2 x8) then g213_1 else (bif (g215_m1 x0 x2 x8) then g213_1 else (bif (g215_m2 x0 x8) then g187_1 else (bif (x0 == 4) then g213_1 else (bif (g215_m3 x0 x2 x8) then g187_1 else (x8.at' (Int.toNat (g228_139_0 x8 x2))).c1)))))
noncomputable def g215_2 (x0 : Int) (x2 : ByteArray) (x8 : Sl T160) : Int := (bif (g215_p5 x0 x2 x8) then (g213_2 (g231 (g228_139_1 x8 x2))) else (bif (g215_m1 x0 x2 x8) then (g213_2 0) else (bif (g215_m2 x0 x8) then g187_2 else (bif (x0 == 4) then (g213_2 1) else (bif (g215_m3 x0 x2 x8) then g187_2 else 0)))))
noncomputable def g215_3 (x0 : Int) (x2 : ByteArray) (x8 : Sl T160) : Sl ByteArray := (bif (g215_p5 x0 x2 x8) then g213_3 else (bif (g215_m1 x0 x2 x8) then g213_3 else (bif (g215_m2 x0 x8) then g187_3 else (bif (x0 == 4) then g213_3 else (bif (g215_m3 x0 x2 x8) then g187_3 else (nilSl : Sl ByteArray))))))
noncomputable def g215_h0_3 (x0 : Int) (x2 : ByteArray) (x3 : ByteArray) (x8 : Sl T160) : Sl T160 := (bif (g215_p5 x0 x2 x8) then (g215_m4 x2 x8) else (bif (g215_m1 x0 x2 x8) then (Sl.upd x8 (Int.toNat (g228_139_0 x8 x2)) (⟨(x8.at' (Int.toNat (g228_139_0 x8 x2))).c0, x3⟩ : T160)) else (bif (g215_m2 x0 x8) then x8 else (bif (x0 == 4) then (Sl.ins x8 (Int.toNat (g228_139_0 x8 x2)) (⟨x2, x3⟩ : T160)) else x8))))
noncomputable def g216_m1 (x0 : Int) (x9 : Sl ByteArray) : Bool := (bif (decide (x0 ≤ 8)) then (((x9.n : Nat) : Int) == 20) else false)
noncomputable def g216_m2 (x0 : Int) (x9 : Sl ByteArray) : Sl ByteArray := (bif (x0 == 9) then (Sl.part x9 0 (IntKind.i64.wrap (((x9.n : Nat) : Int) - 1))) else (Sl.part x9 1 ((x9.n : Nat) : Int)))
noncomputable def g216_m3 (x0 : Int) (x9 : Sl ByteArray) : ByteArray := (bif (x0 == 9) then (x9.at' (Int.toNat (IntKind.i64.wrap (((x9.n : Nat) : Int) - 1)))) else (x9.at' (Int.toNat 0)))
noncomputable def g216_p4 (x0 : Int) (x9 : Sl ByteArray) : Bool := (bif (g216_m1 x0 x9) then false else (bif (x0 == 7) then false else (bif (x0 == 8) then false else true)))
noncomputable def g216_0 (x0 : Int) (x9 : Sl ByteArray) : Int := (bif (g216_p4 x0 x9) then 0 else (bif (g216_m1 x0 x9) then (g187_0 6) else g213_0))
noncomputable def g216_1 (x0 : Int) (x9 : Sl ByteArray) : ByteArray := (bif (g216_p4 x0 x9) then (g216_m3 x0 x9) else (bif (g216_m1 x0 x9) then g187_1 else g213_1))
noncomputable def g216_2 (x0 : Int) (x9 : Sl ByteArray) : Int := (bif (g216_p4 x0 x9) then 0 else (bif (g216_m1 x0 x9) then g187_2 else (g213_2 (IntKind.i64.wrap (((x9.n : Nat) : Int) + 1)))))
noncomputable def g216_3 (x0 : Int) (x9 : Sl ByteArray) : Sl ByteArray := (bif (g216_p4 x0 x9) then (nilSl : Sl ByteArray) else (bif (g216_m1 x0 x9) then g187_3 else g213_3))
noncomputable def g216_h0_4 (x0 : Int) (x3 : ByteArray) (x9 : Sl ByteArray) : Sl ByteArray := (bif (g216_p4 x0 x9) then (g216_m2 x0 x9) else (bif (g216_m1 x0 x9) then x9 else (bif (x0 == 7) then (Sl.app x9 (Sl.lit ([x3] : List ByteArray))) else (Sl.ins x9 (Int.toNat 0) x3))))
noncomputable def g217_m1 (x0 : Int) (x3 : ByteArray) (x9 : Sl ByteArray) : Bool := (bif (x0 == 11) then (bif (!(g233_1 x9 x3)) then (((x9.n : Nat) : Int) == 20) else false) else false)
noncomputable def g217_m2 (x0 : Int) (x3 : ByteArray) (x9 : Sl ByteArray) : Bool := (bif (x0 == 11) then (!(g233_1 x9 x3)) else false)
noncomputable def g217_m3 (x0 : Int) (x3 : ByteArray) (x9 : Sl ByteArray) : Bool := (bif (x0 == 12) then (g233_1 x9 x3) else false)
noncomputable def g217_m4 (x0 : Int) (x3 : ByteArray) (x9 : Sl ByteArray) : Sl ByteArray := (bif (g217_m3 x0 x3 x9) then (Sl.del x9 (Int.toNat (g233_0 x9 x3)) (Int.toNat (IntKind.i64.wrap ((g233_0 x9 x3) + 1)))) else x9)
noncomputable def g217_p5 (x0 : Int) (x3 : ByteArray) (x9 : Sl ByteArray) : Bool := (bif (g217_m1 x0 x3 x9) then false else (bif (g217_m2 x0 x3 x9) then false else (bif (x0 == 11) then false else true)))
noncomputable def g217_0 (x0 : Int) (x3 : ByteArray) (x9 : Sl ByteArray) : Int := (bif (g217_p5 x0 x3 x9) then g213_0 else (bif (g217_m1 x0 x3 x9) then (g187_0 6) else g213_0))
noncomputable def g217_1 (x0 : Int) (x3 : ByteArray) (x9 : Sl ByteArray) : ByteArray := (bif (g217_p5 x0 x3 x9) then g213_1 else (bif (g217_m1 x0 x3 x9) then g187_1 else g213_1))
noncomputable def g217_2 (x0 : Int) (x3 : ByteArray) (x9 : Sl ByteArray) : Int := (bif (g217_p5 x0 x3 x9) then (g213_2 (g231 (g233_1 x9 x3))) else (bif (g217_m1 x0 x3 x9) then g187_2 else (bif (g217_m2 x0 x3 x9) then (g213_2 1) else (g213_2 0))))
noncomputable def g217_3 (x0 : Int) (x3 : ByteArray) (x9 : Sl ByteArray) : Sl ByteArray := (bif (g217_p5 x0 x3 x9) then g213_3 else (bif (g217_m1 x0 x3 x9) then g187_3 else g213_3))
noncomputable def g217_h0_4 (x0 : Int) (x3 : ByteArray) (x9 : Sl ByteArray) : Sl ByteArray := (bif (g217_p5 x0 x3 x9) then (g217_m4 x0 x3 x9) else (bif (g217_m1 x0 x3 x9) then x9 else (bif (g217_m2 x0 x3 x9) then (Sl.ins x9 (Int.toNat (g233_0 x9 x3)) x3) else x9)))
noncomputable def g218_m1 (x0 : Int) (x3 : ByteArray) (x10 : Sl T164) : Bool := (bif (x0 == 16) then (decide ((g144 x10 x3) < 0)) else false)
noncomputable def g218_m2 (x0 : Int) (x3 : ByteArray) (x10 : Sl T164) : Bool := (bif (x0 == 14) then (bif (decide ((g144 x10 x3) < 0)) then (((x10.n : Nat) : Int) == 20) else false) else false)
noncomputable def g218_m3 (x3 : ByteArray) (x10 : Sl T164) : Sl T164 := (bif (decide ((g144 x10 x3) ≥ 0)) then (Sl.del x10 (Int.toNat (g144 x10 x3)) (Int.toNat (IntKind.i64.wrap ((g144 x10 x3) + 1)))) else x10)
noncomputable def g218_0 (x0 : Int) (x3 : ByteArray) (x10 : Sl T164) : Int := (bif (g218_m1 x0 x3 x10) then (g187_0 5) else (bif (x0 == 16) then g213_0 else (bif (g218_m2 x0 x3 x10) then (g187_0 6) else g213_0)))
noncomputable def g218_1 (x0 : Int) (x3 : ByteArray) (x10 : Sl T164) : ByteArray := (bif (g218_m1 x0 x3 x10) then g187_1 else (bif (x0 == 16) then g213_1 else (bif (g218_m2 x0 x3 x10) then g187_1 else g213_1)))
noncomputable def g218_2 (x0 : Int) (x3 : ByteArray) (x10 : Sl T164) : Int := (bif (g218_m1 x0 x3 x10) then g187_2 else (bif (x0 == 16) then (g213_2 (g144 x10 x3)) else (bif (g218_m2 x0 x3 x10) then g187_2 else (bif (x0 == 15) then (g213_2 (g231 (decide ((g144 x10 x3) ≥ 0)))) else (g213_2 (g231 (decide ((g144 x10 x3) < 0))))))))
noncomputable def g218_3 (x0 : Int) (x3 : ByteArray) (x10 : Sl T164) : Sl ByteArray := (bif (g218_m1 x0 x3 x10) then g187_3 else (bif (x0 == 16) then g213_3 else (bif (g218_m2 x0 x3 x10) then g187_3 else g213_3)))
noncomputable def g218_h0_5 (x0 : Int) (x3 : ByteArray) (x4 : Int) (x10 : Sl T164) : Sl T164 := (bif (g218_m1 x0 x3 x10) then x10 else (bif (x0 == 16) then x10 else (bif (g218_m2 x0 x3 x10) then x10 else (bif (x0 == 15) then (g218_m3 x3 x10) else (Sl.ins (g218_m3 x3 x10) (Int.toNat (g236_141_0 (g218_m3 x3 x10) x3 x4)) (⟨x3, x4⟩ : T164))))))
end Go.Proofs.YtchhfojblmceiaaGreat
/-
  Walks: what functions of the program answer, as functions.
-/
namespace Go.Proofs.YtchhfojblmceiaaGreat
open Go Go.Vc Go.RowKit
set_option maxRecDepth 100000
set_option maxHeartbeats 4000000
noncomputable def g188_0 (x0 : Int) (x2 : ByteArray) (x3 : ByteArray) (x4 : Int) (x5 : Int) (x7 : Int) (x8 : Sl T160) (x9 : Sl ByteArray) (x10 : Sl T164) : Int := (bif (x0 == 1) then g213_0 else (bif (x0 == 2) then 0 else (bif (x0 == 3) then (bif (!(g117 (IntKind.i64.wrap (x7 + x4)))) then (g187_0 7) else g213_0) else (bif (x0 == 17) then g213_0 else (bif (x0 == 18) then 0 else (bif (x5 == 3) then (g215_0 x0 x2 x8) else (bif (x5 == 4) then (g216_0 x0 x9) else (bif (x5 == 5) then (g217_0 x0 x3 x9) else (g218_0 x0 x3 x10)))))))))
noncomputable def g188_1 (x0 : Int) (x2 : ByteArray) (x3 : ByteArray) (x4 : Int) (x5 : Int) (x6 : ByteArray) (x7 : Int) (x8 : Sl T160) (x9 : Sl ByteArray) (x10 : Sl T164) : ByteArray := (bif (x0 == 1) then g213_1 else (bif (x0 == 2) then x6 else (bif (x0 == 3) then (bif (!(g117 (IntKind.i64.wrap (x7 + x4)))) then g187_1 else g213_1) else (bif (x0 == 17) then g213_1 else (bif (x0 == 18) then ⟨#[]⟩ else (bif (x5 == 3) then (g215_1 x0 x2 x8) else (bif (x5 == 4) then (g216_1 x0 x9) else (bif (x5 == 5) then (g217_1 x0 x3 x9) else (g218_1 x0 x3 x10)))))))))
noncomputable def g188_2 (x0 : Int) (x2 : ByteArray) (x3 : ByteArray) (x4 : Int) (x5 : Int) (x7 : Int) (x8 : Sl T160) (x9 : Sl ByteArray) (x10 : Sl T164) : Int := (bif (x0 == 1) then (g213_2 0) else (bif (x0 == 2) then 0 else (bif (x0 == 3) then (bif (!(g117 (IntKind.i64.wrap (x7 + x4)))) then g187_2 else (g213_2 (IntKind.i64.wrap (x7 + x4)))) else (bif (x0 == 17) then (g213_2 (g131 x8 x9 x10)) else (bif (x0 == 18) then 0 else (bif (x5 == 3) then (g215_2 x0 x2 x8) else (bif (x5 == 4) then (g216_2 x0 x9) else (bif (x5 == 5) then (g217_2 x0 x3 x9) else (g218_2 x0 x3 x10)))))))))
noncomputable def g188_3 (x0 : Int) (x2 : ByteArray) (x3 : ByteArray) (x4 : Int) (x5 : Int) (x7 : Int) (x8 : Sl T160) (x9 : Sl ByteArray) (x10 : Sl T164) : Sl ByteArray := (bif (x0 == 1) then g213_3 else (bif (x0 == 2) then (nilSl : Sl ByteArray) else (bif (x0 == 3) then (bif (!(g117 (IntKind.i64.wrap (x7 + x4)))) then g187_3 else g213_3) else (bif (x0 == 17) then g213_3 else (bif (x0 == 18) then (g214 x8 x9 x10) else (bif (x5 == 3) then (g215_3 x0 x2 x8) else (bif (x5 == 4) then (g216_3 x0 x9) else (bif (x5 == 5) then (g217_3 x0 x3 x9) else (g218_3 x0 x3 x10)))))))))
noncomputable def g188_h0_0 (x0 : Int) (x5 : Int) : Int := (bif (x0 == 1) then 1 else x5)
noncomputable def g188_h0_1 (x0 : Int) (x3 : ByteArray) (x6 : ByteArray) : ByteArray := (bif (x0 == 1) then x3 else x6)
noncomputable def g188_h0_2 (x0 : Int) (x4 : Int) (x7 : Int) : Int := (bif (x0 == 1) then 0 else (bif (x0 == 2) then x7 else (bif (x0 == 3) then (bif (!(g117 (IntKind.i64.wrap (x7 + x4)))) then x7 else (IntKind.i64.wrap (x7 + x4))) else x7)))
noncomputable def g188_h0_3 (x0 : Int) (x2 : ByteArray) (x3 : ByteArray) (x5 : Int) (x8 : Sl T160) : Sl T160 := (bif (x0 == 1) then (nilSl : Sl T160) else (bif (x0 == 2) then x8 else (bif (x0 == 3) then x8 else (bif (x0 == 17) then x8 else (bif (x0 == 18) then x8 else (bif (x5 == 3) then (g215_h0_3 x0 x2 x3 x8) else x8))))))
noncomputable def g188_h0_4 (x0 : Int) (x3 : ByteArray) (x5 : Int) (x9 : Sl ByteArray) : Sl ByteArray := (bif (x0 == 1) then (nilSl : Sl ByteArray) else (bif (x0 == 2) then x9 else (bif (x0 == 3) then x9 else (bif (x0 == 17) then x9 else (bif (x0 == 18) then x9 else (bif (x5 == 3) then x9 else (bif (x5 == 4) then (g216_h0_4 x0 x3 x9) else (bif (x5 == 5) then (g217_h0_4 x0 x3 x9) else x9))))))))
noncomputable def g188_h0_5 (x0 : Int) (x3 : ByteArray) (x4 : Int) (x5 : Int) (x10 : Sl T164) : Sl T164 := (bif (x0 == 1) then (nilSl : Sl T164) else (bif (x0 == 2) then x10 else (bif (x0 == 3) then x10 else (bif (x0 == 17) then x10 else (bif (x0 == 18) then x10 else (bif (x5 == 3) then x10 else (bif (x5 == 4) then x10 else (bif (x5 == 5) then x10 else (g218_h0_5 x0 x3 x4 x10)))))))))
end Go.Proofs.YtchhfojblmceiaaGreat
namespace Go.Proofs.YtchhfojblmceiaaGreat
open Go Go.Vc Go.RowKit
set_option maxRecDepth 100000
set_option maxHeartbeats 4000000
structure VSep (x0 : Int) (x1 : ByteArray) (x2 : Int) (s3 : Sl T160) (s4 : Sl ByteArray) (s5 : Sl T164) : Prop where
  k : 1 ≤ x0 ∧ x0 ≤ 6
  t : x0 ≠ 1 → x1 = ⟨#[]⟩
  i : x0 ≠ 2 → x2 = 0
  a3 : x0 ≠ 3 → s3.n = 0
  a4 : x0 ≠ 4 → x0 ≠ 5 → s4.n = 0
  a5 : x0 ≠ 6 → s5.n = 0
  b3 : x0 = 3 → 1 ≤ s3.n ∧ s3.n ≤ 20
  b4 : x0 = 4 ∨ x0 = 5 → 1 ≤ s4.n ∧ s4.n ≤ 20
  b5 : x0 = 6 → 1 ≤ s5.n ∧ s5.n ≤ 20
theorem ba_nil {x : ByteArray} (h : (!(x.toList == (⟨#[]⟩ : ByteArray).toList)) = false) : x = ⟨#[]⟩ := by
  have h : x.toList = (⟨#[]⟩ : ByteArray).toList := by simpa using h
  have h2 : x.data.toList = [] := by
    have e : ∀ y : ByteArray, y.toList = y.data.toList := fun y => ByteArray.toList_eq y
    rw [e, e] at h; exact h
  cases x with
  | mk d => cases d with
    | mk l => simp at h2; subst h2; rfl
theorem sep72 (x0 : Int) (x1 : ByteArray) (x2 : Int) (s3 : Sl T160) (s4 : Sl ByteArray) (s5 : Sl T164) (h3 : s3.n ≤ 1048576) (h4 : s4.n ≤ 1048576) (h5 : s5.n ≤ 1048576) (h : g72 x0 x1 x2 s3 s4 s5 = 0) : VSep x0 x1 x2 s3 s4 s5 := by
  unfold g72 at h
  obtain ⟨a1, h⟩ := bz h (by decide)
  obtain ⟨a2, h⟩ := bz h (by decide)
  obtain ⟨a3, _⟩ := bz h (by decide)
  unfold g72_m1 at a1
  obtain ⟨b1, b2⟩ := bt a1
  have c1 := df b1
  have c2 := df b2
  unfold g72_m7 g72_m2 g72_m3 g72_m4 g72_m5 g72_m6 at a2
  obtain ⟨d1, a2⟩ := bt a2
  obtain ⟨d2, a2⟩ := bt a2
  unfold g72_m8 at a3
  have k : x0 = 1 ∨ x0 = 2 ∨ x0 = 3 ∨ x0 = 4 ∨ x0 = 5 ∨ x0 = 6 := by omega
  have z3 : (nilSl : Sl T160).n = 0 := rfl
  have z4 : (nilSl : Sl ByteArray).n = 0 := rfl
  have z5 : (nilSl : Sl T164).n = 0 := rfl
  have a2 := df a2
  have c3 : 3 ≤ x0 → ¬ (g131 s3 s4 s5 < 1) ∧ ¬ (g131 s3 s4 s5 > 20) := fun hx => by
    rw [decide_eq_true (show x0 ≥ 3 by omega)] at a3
    obtain ⟨e1, e2⟩ := bt a3
    exact ⟨df e1, df e2⟩
  rw [sum_eq _ _ _ h3 h4 h5] at c3
  have t1 : x0 ≠ 1 → x1 = ⟨#[]⟩ := fun hx => by
    rw [show (x0 == 1) = false from beq_eq_false_iff_ne.2 hx] at d1
    exact ba_nil d1
  have t2 : x0 ≠ 2 → x2 = 0 := fun hx => by
    rw [show (x0 == 2) = false from beq_eq_false_iff_ne.2 hx] at d2
    have d2 := bne_eq_false_iff_eq.1 d2
    revert d2
    cases (x0 == 1) <;> exact id
  rcases k with e | e | e | e | e | e <;> subst e <;>
  simp only [beq_self_eq_true, Int.reduceBEq, cond_true, cond_false] at a2 <;>
  rw [sum_eq _ _ _ (by omega) (by omega) (by omega)] at a2 <;>
  exact ⟨by omega, t1, t2, by omega, by omega, by omega, by omega, by omega, by omega⟩
end Go.Proofs.YtchhfojblmceiaaGreat
/-
  Lists with one value put in, taken out; the order of texts; loops as folds.
-/
namespace Go.Vc
open Go
set_option maxRecDepth 100000
theorem less_irr : ∀ a : List UInt8, Op.bytesLess a a = false
  | [] => rfl
  | x :: a => by
    simp only [Op.bytesLess, Bool.or_eq_false_iff, decide_eq_false_iff_not]
    exact ⟨UInt8.lt_irrefl x, by simp [less_irr a]⟩
theorem less_cons {x y : UInt8} {a b : List UInt8} : Op.bytesLess (x :: a) (y :: b) = true ↔ x < y ∨ (x = y ∧ Op.bytesLess a b = true) := by
  simp only [Op.bytesLess, Bool.or_eq_true, Bool.and_eq_true, decide_eq_true_eq, beq_iff_eq]
theorem less_trans : ∀ {a b c : List UInt8}, Op.bytesLess a b = true → Op.bytesLess b c = true → Op.bytesLess a c = true
  | _, _, [], _, h => by simp [Op.bytesLess] at h
  | [], _, _ :: _, _, _ => rfl
  | _ :: _, [], _ :: _, h, _ => by simp [Op.bytesLess] at h
  | x :: a, y :: b, z :: c, h1, h2 => by
    rw [less_cons] at h1 h2 ⊢
    rcases h1 with h1 | ⟨e1, h1⟩
    · rcases h2 with h2 | ⟨e2, h2⟩
      · exact .inl (UInt8.lt_trans h1 h2)
      · subst e2; exact .inl h1
    · subst e1
      rcases h2 with h2 | ⟨e2, h2⟩
      · exact .inl h2
      · exact .inr ⟨e2, less_trans h1 h2⟩
theorem cutAt (p : Nat → Bool) : ∀ n : Nat, (∀ i j, i < j → j < n → p j = true → p i = true) → ∃ t, t ≤ n ∧ ∀ m, m < n → p m = decide (m < t)
  | 0, _ => ⟨0, Nat.le_refl _, fun m h => by omega⟩
  | n + 1, h => by
    obtain ⟨t, h1, h2⟩ := cutAt p n fun i j a b c => h i j a (by omega) c
    cases e : p n with
    | true =>
      refine ⟨n + 1, Nat.le_refl _, fun m hm => ?_⟩
      rw [show decide (m < n + 1) = true from decide_eq_true hm]
      rcases Nat.lt_or_ge m n with g | g
      · exact h m n g (by omega) e
      · rw [show m = n by omega, e]
    | false =>
      refine ⟨t, by omega, fun m hm => ?_⟩
      rcases Nat.lt_or_ge m n with g | g
      · exact h2 m g
      · rw [show m = n by omega, e]
        exact (decide_eq_false (by omega)).symm
theorem foldF {σ ρ : Type} (F : Nat → Int → σ → ρ) (n : Nat) (step : Nat → σ → σ) (out : σ → ρ) (hn : n ≤ 549755813888) (hF : ∀ k i s, F (k + 1) i s = bif decide (i < (n : Int)) then F k (IntKind.i64.wrap (i + 1)) (step (Int.toNat i) s) else out s) :
    ∀ (m k i : Nat) (s : σ), i + m = n → m ≤ k → F (k + 1) (i : Int) s = out ((List.range' i m).foldl (fun s j => step j s) s)
  | 0, k, i, s, hi, _ => by
    rw [hF, show decide ((i : Int) < (n : Int)) = false by simp; omega]; rfl
  | m + 1, k, i, s, hi, hk => by
    obtain ⟨k, rfl⟩ : ∃ k', k = k' + 1 := ⟨k - 1, by omega⟩
    rw [hF, show decide ((i : Int) < (n : Int)) = true by simp; omega]
    simp only [cond_true]
    rw [wrap64 (x := (i : Int) + 1) (by omega) (by omega)]
    have := foldF F n step out hn hF m k (i + 1) (step i s) (by omega) (by omega)
    rw [show (((i + 1 : Nat)) : Int) = (i : Int) + 1 by omega] at this
    rw [show Int.toNat (i : Int) = i from Int.toNat_natCast i, this]
    rfl
theorem fold0 {σ ρ : Type} (F : Nat → Int → σ → ρ) (n : Nat) (step : Nat → σ → σ) (out : σ → ρ) (hn : n ≤ 549755813888) (hF : ∀ k i s, F (k + 1) i s = bif decide (i < (n : Int)) then F k (IntKind.i64.wrap (i + 1)) (step (Int.toNat i) s) else out s) (s : σ) :
    F (Int.toNat ((n : Int) - 0) + 1) 0 s = out ((List.range n).foldl (fun s j => step j s) s) := by
  have := foldF F n step out hn hF n (Int.toNat ((n : Int) - 0)) 0 s (by omega) (by omega)
  rw [List.range_eq_range']; exact this
section
variable {α : Type}
theorem foldB {σ : Type} (s : Sl α) (step : α → σ → σ) (st : σ) : (List.range s.n).foldl (fun st j => step (s.at' j) st) st = s.B.foldl (fun st a => step a st) st := by
  unfold Sl.B
  rw [List.foldl_map]
end
end Go.Vc
/-
  Walks: what functions of the program answer, as functions.
-/
namespace Go.Proofs.YtchhfojblmceiaaGreat
open Go Go.Vc Go.RowKit
set_option maxRecDepth 100000
set_option maxHeartbeats 4000000
noncomputable def g101_m1 (x0 : Int) (x1 : ByteArray) (x2 : Int) (x3 : Sl T160) (x4 : Sl ByteArray) (x5 : Sl T164) : Bool := (bif (x0 == 0) then (bif ((x1 : ByteArray).toList == (⟨#[]⟩ : ByteArray).toList) then (bif (x2 == 0) then ((g131 x3 x4 x5) == 0) else false) else false) else false)
noncomputable def g101_m2 (x0 : Int) (x1 : ByteArray) (x2 : Int) (x3 : Sl T160) (x4 : Sl ByteArray) (x5 : Sl T164) : Bool := (bif ((g72 x0 x1 x2 x3 x4 x5) != 0) then (!(g101_m1 x0 x1 x2 x3 x4 x5)) else false)
noncomputable def g101_m3 (x0 : Int) (x1 : ByteArray) (x2 : Int) (x3 : Sl T160) (x4 : Sl ByteArray) (x5 : Sl T164) (x6 : Int) : Bool := (bif (g101_m1 x0 x1 x2 x3 x4 x5) then (!(g186 x6)) else false)
noncomputable def g101_m4 (x0 : Int) (x6 : Int) : Bool := (bif ((g185 x6) != 0) then ((g185 x6) != x0) else false)
noncomputable def g101_m5 (x0 : Int) (x6 : Int) : Bool := (bif (decide (x6 ≥ 17)) then (decide (x0 < 3)) else false)
noncomputable def g101_m6 (x0 : Int) (x6 : Int) : Bool := (bif (g101_m4 x0 x6) then (g101_m4 x0 x6) else (g101_m5 x0 x6))
noncomputable def g101_m7 (x0 : Int) (x1 : ByteArray) (x2 : Int) (x3 : Sl T160) (x4 : Sl ByteArray) (x5 : Sl T164) (x6 : Int) : Int := (bif (g101_m1 x0 x1 x2 x3 x4 x5) then (g185 x6) else (g184_0 x0))
noncomputable def g101_p8 (x0 : Int) (x1 : ByteArray) (x2 : Int) (x3 : Sl T160) (x4 : Sl ByteArray) (x5 : Sl T164) (x6 : Int) : Bool := (bif (g101_m3 x0 x1 x2 x3 x4 x5 x6) then false else (bif (g101_m1 x0 x1 x2 x3 x4 x5) then true else (bif (g101_m6 x0 x6) then false else true)))
noncomputable def g101_m9 (x0 : Int) (x1 : ByteArray) (x2 : Int) (x3 : Sl T160) (x4 : Sl ByteArray) (x5 : Sl T164) (x6 : Int) (x8 : ByteArray) (x9 : ByteArray) (x10 : Int) : Bool := (bif (decide ((g188_h0_0 x6 (g101_m7 x0 x1 x2 x3 x4 x5 x6)) ≥ 3)) then ((g131 (g188_h0_3 x6 x8 x9 (g101_m7 x0 x1 x2 x3 x4 x5 x6) x3) (g188_h0_4 x6 x9 (g101_m7 x0 x1 x2 x3 x4 x5 x6) x4) (g188_h0_5 x6 x9 x10 (g101_m7 x0 x1 x2 x3 x4 x5 x6) x5)) == 0) else false)
noncomputable def g101_m10 (x0 : Int) (x1 : ByteArray) (x2 : Int) (x3 : Sl T160) (x4 : Sl ByteArray) (x5 : Sl T164) (x6 : Int) (x8 : ByteArray) (x9 : ByteArray) (x10 : Int) : Int := (bif (g101_m9 x0 x1 x2 x3 x4 x5 x6 x8 x9 x10) then 0 else (g188_h0_0 x6 (g101_m7 x0 x1 x2 x3 x4 x5 x6)))
noncomputable def g101_m11 (x0 : Int) (x1 : ByteArray) (x2 : Int) (x3 : Sl T160) (x4 : Sl ByteArray) (x5 : Sl T164) (x6 : Int) (x8 : ByteArray) (x9 : ByteArray) (x10 : Int) : ByteArray := (bif (g101_m9 x0 x1 x2 x3 x4 x5 x6 x8 x9 x10) then ⟨#[]⟩ else (g188_h0_1 x6 x9 (g184_1 x1)))
noncomputable def g101_m12 (x0 : Int) (x1 : ByteArray) (x2 : Int) (x3 : Sl T160) (x4 : Sl ByteArray) (x5 : Sl T164) (x6 : Int) (x8 : ByteArray) (x9 : ByteArray) (x10 : Int) : Int := (bif (g101_m9 x0 x1 x2 x3 x4 x5 x6 x8 x9 x10) then 0 else (g188_h0_2 x6 x10 (g184_2 x2)))
noncomputable def g101_m13 (x0 : Int) (x1 : ByteArray) (x2 : Int) (x3 : Sl T160) (x4 : Sl ByteArray) (x5 : Sl T164) (x6 : Int) (x8 : ByteArray) (x9 : ByteArray) (x10 : Int) : Sl T160 := (bif (g101_m9 x0 x1 x2 x3 x4 x5 x6 x8 x9 x10) then (nilSl : Sl T160) else (g188_h0_3 x6 x8 x9 (g101_m7 x0 x1 x2 x3 x4 x5 x6) x3))
noncomputable def g101_m14 (x0 : Int) (x1 : ByteArray) (x2 : Int) (x3 : Sl T160) (x4 : Sl ByteArray) (x5 : Sl T164) (x6 : Int) (x8 : ByteArray) (x9 : ByteArray) (x10 : Int) : Sl ByteArray := (bif (g101_m9 x0 x1 x2 x3 x4 x5 x6 x8 x9 x10) then (nilSl : Sl ByteArray) else (g188_h0_4 x6 x9 (g101_m7 x0 x1 x2 x3 x4 x5 x6) x4))
noncomputable def g101_m15 (x0 : Int) (x1 : ByteArray) (x2 : Int) (x3 : Sl T160) (x4 : Sl ByteArray) (x5 : Sl T164) (x6 : Int) (x8 : ByteArray) (x9 : ByteArray) (x10 : Int) : Sl T164 := (bif (g101_m9 x0 x1 x2 x3 x4 x5 x6 x8 x9 x10) then (nilSl : Sl T164) else (g188_h0_5 x6 x9 x10 (g101_m7 x0 x1 x2 x3 x4 x5 x6) x5))
noncomputable def g101_0_0 (x0 : Int) (x1 : ByteArray) (x2 : Int) (x3 : Sl T160) (x4 : Sl ByteArray) (x5 : Sl T164) (x6 : Int) (x7 : ByteArray) (x8 : ByteArray) (x9 : ByteArray) (x10 : Int) : Int := (bif (g101_m2 x0 x1 x2 x3 x4 x5) then 0 else (bif ((g47 x6 x7 x8 x9 x10) != 0) then 0 else (bif (decide (x6 > 18)) then 0 else (bif (g101_p8 x0 x1 x2 x3 x4 x5 x6) then (bif ((g188_0 x6 x8 x9 x10 (g101_m7 x0 x1 x2 x3 x4 x5 x6) (g184_2 x2) x3 x4 x5) != 0) then (g184_0 x0) else (g184_0 (g101_m10 x0 x1 x2 x3 x4 x5 x6 x8 x9 x10))) else (g184_0 x0)))))
noncomputable def g101_0_1 (x0 : Int) (x1 : ByteArray) (x2 : Int) (x3 : Sl T160) (x4 : Sl ByteArray) (x5 : Sl T164) (x6 : Int) (x7 : ByteArray) (x8 : ByteArray) (x9 : ByteArray) (x10 : Int) : ByteArray := (bif (g101_m2 x0 x1 x2 x3 x4 x5) then ⟨#[]⟩ else (bif ((g47 x6 x7 x8 x9 x10) != 0) then ⟨#[]⟩ else (bif (decide (x6 > 18)) then ⟨#[]⟩ else (bif (g101_p8 x0 x1 x2 x3 x4 x5 x6) then (bif ((g188_0 x6 x8 x9 x10 (g101_m7 x0 x1 x2 x3 x4 x5 x6) (g184_2 x2) x3 x4 x5) != 0) then (g184_1 x1) else (g184_1 (g101_m11 x0 x1 x2 x3 x4 x5 x6 x8 x9 x10))) else (g184_1 x1)))))
noncomputable def g101_0_2 (x0 : Int) (x1 : ByteArray) (x2 : Int) (x3 : Sl T160) (x4 : Sl ByteArray) (x5 : Sl T164) (x6 : Int) (x7 : ByteArray) (x8 : ByteArray) (x9 : ByteArray) (x10 : Int) : Int := (bif (g101_m2 x0 x1 x2 x3 x4 x5) then 0 else (bif ((g47 x6 x7 x8 x9 x10) != 0) then 0 else (bif (decide (x6 > 18)) then 0 else (bif (g101_p8 x0 x1 x2 x3 x4 x5 x6) then (bif ((g188_0 x6 x8 x9 x10 (g101_m7 x0 x1 x2 x3 x4 x5 x6) (g184_2 x2) x3 x4 x5) != 0) then (g184_2 x2) else (g184_2 (g101_m12 x0 x1 x2 x3 x4 x5 x6 x8 x9 x10))) else (g184_2 x2)))))
noncomputable def g101_0_3 (x0 : Int) (x1 : ByteArray) (x2 : Int) (x3 : Sl T160) (x4 : Sl ByteArray) (x5 : Sl T164) (x6 : Int) (x7 : ByteArray) (x8 : ByteArray) (x9 : ByteArray) (x10 : Int) : Sl T160 := (bif (g101_m2 x0 x1 x2 x3 x4 x5) then (nilSl : Sl T160) else (bif ((g47 x6 x7 x8 x9 x10) != 0) then (nilSl : Sl T160) else (bif (decide (x6 > 18)) then (nilSl : Sl T160) else (bif (g101_p8 x0 x1 x2 x3 x4 x5 x6) then (bif ((g188_0 x6 x8 x9 x10 (g101_m7 x0 x1 x2 x3 x4 x5 x6) (g184_2 x2) x3 x4 x5) != 0) then x3 else (g101_m13 x0 x1 x2 x3 x4 x5 x6 x8 x9 x10)) else x3))))
noncomputable def g101_0_4 (x0 : Int) (x1 : ByteArray) (x2 : Int) (x3 : Sl T160) (x4 : Sl ByteArray) (x5 : Sl T164) (x6 : Int) (x7 : ByteArray) (x8 : ByteArray) (x9 : ByteArray) (x10 : Int) : Sl ByteArray := (bif (g101_m2 x0 x1 x2 x3 x4 x5) then (nilSl : Sl ByteArray) else (bif ((g47 x6 x7 x8 x9 x10) != 0) then (nilSl : Sl ByteArray) else (bif (decide (x6 > 18)) then (nilSl : Sl ByteArray) else (bif (g101_p8 x0 x1 x2 x3 x4 x5 x6) then (bif ((g188_0 x6 x8 x9 x10 (g101_m7 x0 x1 x2 x3 x4 x5 x6) (g184_2 x2) x3 x4 x5) != 0) then x4 else (g101_m14 x0 x1 x2 x3 x4 x5 x6 x8 x9 x10)) else x4))))
noncomputable def g101_0_5 (x0 : Int) (x1 : ByteArray) (x2 : Int) (x3 : Sl T160) (x4 : Sl ByteArray) (x5 : Sl T164) (x6 : Int) (x7 : ByteArray) (x8 : ByteArray) (x9 : ByteArray) (x10 : Int) : Sl T164 := (bif (g101_m2 x0 x1 x2 x3 x4 x5) then (nilSl : Sl T164) else (bif ((g47 x6 x7 x8 x9 x10) != 0) then (nilSl : Sl T164) else (bif (decide (x6 > 18)) then (nilSl : Sl T164) else (bif (g101_p8 x0 x1 x2 x3 x4 x5 x6) then (bif ((g188_0 x6 x8 x9 x10 (g101_m7 x0 x1 x2 x3 x4 x5 x6) (g184_2 x2) x3 x4 x5) != 0) then x5 else (g101_m15 x0 x1 x2 x3 x4 x5 x6 x8 x9 x10)) else x5))))
noncomputable def g101_1_0 (x0 : Int) (x1 : ByteArray) (x2 : Int) (x3 : Sl T160) (x4 : Sl ByteArray) (x5 : Sl T164) (x6 : Int) (x7 : ByteArray) (x8 : ByteArray) (x9 : ByteArray) (x10 : Int) : Int := (bif (g101_m2 x0 x1 x2 x3 x4 x5) then 0 else (bif ((g47 x6 x7 x8 x9 x10) != 0) then 0 else (bif (decide (x6 > 18)) then 0 else (bif (g101_p8 x0 x1 x2 x3 x4 x5 x6) then (g188_0 x6 x8 x9 x10 (g101_m7 x0 x1 x2 x3 x4 x5 x6) (g184_2 x2) x3 x4 x5) else (bif (g101_m3 x0 x1 x2 x3 x4 x5 x6) then (g187_0 5) else (g187_0 4))))))
noncomputable def g101_1_1 (x0 : Int) (x1 : ByteArray) (x2 : Int) (x3 : Sl T160) (x4 : Sl ByteArray) (x5 : Sl T164) (x6 : Int) (x7 : ByteArray) (x8 : ByteArray) (x9 : ByteArray) (x10 : Int) : ByteArray := (bif (g101_m2 x0 x1 x2 x3 x4 x5) then ⟨#[]⟩ else (bif ((g47 x6 x7 x8 x9 x10) != 0) then ⟨#[]⟩ else (bif (decide (x6 > 18)) then ⟨#[]⟩ else (bif (g101_p8 x0 x1 x2 x3 x4 x5 x6) then (g188_1 x6 x8 x9 x10 (g101_m7 x0 x1 x2 x3 x4 x5 x6) (g184_1 x1) (g184_2 x2) x3 x4 x5) else g187_1))))
noncomputable def g101_1_2 (x0 : Int) (x1 : ByteArray) (x2 : Int) (x3 : Sl T160) (x4 : Sl ByteArray) (x5 : Sl T164) (x6 : Int) (x7 : ByteArray) (x8 : ByteArray) (x9 : ByteArray) (x10 : Int) : Int := (bif (g101_m2 x0 x1 x2 x3 x4 x5) then 0 else (bif ((g47 x6 x7 x8 x9 x10) != 0) then 0 else (bif (decide (x6 > 18)) then 0 else (bif (g101_p8 x0 x1 x2 x3 x4 x5 x6) then (g188_2 x6 x8 x9 x10 (g101_m7 x0 x1 x2 x3 x4 x5 x6) (g184_2 x2) x3 x4 x5) else g187_2))))
noncomputable def g101_1_3 (x0 : Int) (x1 : ByteArray) (x2 : Int) (x3 : Sl T160) (x4 : Sl ByteArray) (x5 : Sl T164) (x6 : Int) (x7 : ByteArray) (x8 : ByteArray) (x9 : ByteArray) (x10 : Int) : Sl ByteArray := (bif (g101_m2 x0 x1 x2 x3 x4 x5) then (nilSl : Sl ByteArray) else (bif ((g47 x6 x7 x8 x9 x10) != 0) then (nilSl : Sl ByteArray) else (bif (decide (x6 > 18)) then (nilSl : Sl ByteArray) else (bif (g101_p8 x0 x1 x2 x3 x4 x5 x6) then (g188_3 x6 x8 x9 x10 (g101_m7 x0 x1 x2 x3 x4 x5 x6) (g184_2 x2) x3 x4 x5) else g187_3))))
noncomputable def g101_2 (x0 : Int) (x1 : ByteArray) (x2 : Int) (x3 : Sl T160) (x4 : Sl ByteArray) (x5 : Sl T164) (x6 : Int) (x7 : ByteArray) (x8 : ByteArray) (x9 : ByteArray) (x10 : Int) : Int := (bif (g101_m2 x0 x1 x2 x3 x4 x5) then (g72 x0 x1 x2 x3 x4 x5) else (bif ((g47 x6 x7 x8 x9 x10) != 0) then (g47 x6 x7 x8 x9 x10) else (bif (decide (x6 > 18)) then 3 else 0)))
end Go.Proofs.YtchhfojblmceiaaGreat
/-
  Walks: what functions of the program answer, as functions.
-/
namespace Go.Proofs.YtchhfojblmceiaaGreat
open Go Go.Vc Go.RowKit
set_option maxRecDepth 100000
set_option maxHeartbeats 4000000
noncomputable def g189_m1 (x0 : Int) (x1 : ByteArray) (x2 : Int) (x3 : Sl T160) (x4 : Sl ByteArray) (x5 : Sl T164) : Bool := (bif (x0 == 0) then (bif ((x1 : ByteArray).toList == (⟨#[]⟩ : ByteArray).toList) then (bif (x2 == 0) then ((g145 x3 x4 x5) == 0) else false) else false) else false)
noncomputable def g189 (x0 : Int) (x1 : ByteArray) (x2 : Int) (x3 : Sl T160) (x4 : Sl ByteArray) (x5 : Sl T164) : Bool := (g189_m1 x0 x1 x2 x3 x4 x5)
noncomputable def g219 (x0 : Int) : Int := (bif (x0 == 2) then 1 else (bif (x0 == 3) then 2 else (bif (g112 x0 4 6) then 3 else (bif (g112 x0 7 10) then 4 else (bif (g112 x0 11 13) then 5 else (bif (g112 x0 14 16) then 6 else 0))))))
noncomputable def g238 (x0 : Bool) : Int := (bif x0 then 1 else 0)
noncomputable def g220_m4 (x3 : Sl T160) (x6 : Int) (x8 : ByteArray) (v1_2 : Bool) (v1_3 : Int) : Bool := (bif (x6 == 4) then (bif (!v1_2) then (!(Op.bytesLess (((x3.at' (Int.toNat v1_3)).c0 : ByteArray).toList) ((x8 : ByteArray).toList))) else false) else false)
noncomputable def g220_m5 (x3 : Sl T160) (x6 : Int) (x8 : ByteArray) (x9 : ByteArray) (v1_2 : Bool) (v1_3 : Int) (v1_4 : Sl T160) : Sl T160 := (bif (g220_m4 x3 x6 x8 v1_2 v1_3) then (Sl.app v1_4 (Sl.lit ([(⟨x8, x9⟩ : T160)] : List T160))) else v1_4)
noncomputable def g220_m6 (x3 : Sl T160) (x6 : Int) (x8 : ByteArray) (v1_2 : Bool) (v1_3 : Int) : Bool := (bif (g220_m4 x3 x6 x8 v1_2 v1_3) then true else v1_2)
noncomputable def g220_m7 (x3 : Sl T160) (x6 : Int) (x8 : ByteArray) (x9 : ByteArray) (v1_2 : Bool) (v1_3 : Int) (v1_4 : Sl T160) : Sl T160 := (bif (!(((x3.at' (Int.toNat v1_3)).c0 : ByteArray).toList == (x8 : ByteArray).toList)) then (Sl.app (g220_m5 x3 x6 x8 x9 v1_2 v1_3 v1_4) (Sl.lit ([(x3.at' (Int.toNat v1_3))] : List T160))) else (g220_m5 x3 x6 x8 x9 v1_2 v1_3 v1_4))
noncomputable def g220_m8 (x3 : Sl T160) (x8 : ByteArray) (v1_0 : Bool) (v1_3 : Int) : Bool := (bif (!(((x3.at' (Int.toNat v1_3)).c0 : ByteArray).toList == (x8 : ByteArray).toList)) then v1_0 else true)
noncomputable def g220_m9 (x3 : Sl T160) (x8 : ByteArray) (v1_1 : ByteArray) (v1_3 : Int) : ByteArray := (bif (!(((x3.at' (Int.toNat v1_3)).c0 : ByteArray).toList == (x8 : ByteArray).toList)) then v1_1 else (x3.at' (Int.toNat v1_3)).c1)
noncomputable def g220_l1 (x3 : Sl T160) (x6 : Int) (x8 : ByteArray) (x9 : ByteArray) : Nat → Bool → ByteArray → Bool → Int → Sl T160 → Bool × ByteArray × Bool × Sl T160
  | 0, _, _, _, _, _ => default
  | k + 1, v1_0, v1_1, v1_2, v1_3, v1_4 => (bif (decide (v1_3 < (x3.n : Int))) then (g220_l1 x3 x6 x8 x9 k (g220_m8 x3 x8 v1_0 v1_3) (g220_m9 x3 x8 v1_1 v1_3) (g220_m6 x3 x6 x8 v1_2 v1_3) (IntKind.i64.wrap (v1_3 + 1)) (g220_m7 x3 x6 x8 x9 v1_2 v1_3 v1_4)) else (v1_0, v1_1, v1_2, v1_4))
noncomputable def g220_r10 (x3 : Sl T160) (x6 : Int) (x8 : ByteArray) (x9 : ByteArray) : Bool × ByteArray × Bool × Sl T160 := g220_l1 x3 x6 x8 x9 ((Int.toNat (((x3.n : Nat) : Int) - 0)) + 1) false ⟨#[]⟩ false 0 (nilSl : Sl T160)
noncomputable def g220_m11 (x3 : Sl T160) (x6 : Int) (x8 : ByteArray) (x9 : ByteArray) : Sl T160 := (bif (!(g220_r10 x3 x6 x8 x9).2.2.1) then (Sl.app (g220_r10 x3 x6 x8 x9).2.2.2 (Sl.lit ([(⟨x8, x9⟩ : T160)] : List T160))) else (g220_r10 x3 x6 x8 x9).2.2.2)
noncomputable def g220_0_0 (x0 : Int) (x3 : Sl T160) (x6 : Int) (x8 : ByteArray) (x9 : ByteArray) : Int := (bif (x6 == 5) then x0 else (bif (x6 == 6) then 3 else (bif (decide ((((g220_m11 x3 x6 x8 x9).n : Nat) : Int) > 20)) then x0 else 3)))
noncomputable def g220_0_1 (x1 : ByteArray) (x3 : Sl T160) (x6 : Int) (x8 : ByteArray) (x9 : ByteArray) : ByteArray := (bif (x6 == 5) then x1 else (bif (x6 == 6) then ⟨#[]⟩ else (bif (decide ((((g220_m11 x3 x6 x8 x9).n : Nat) : Int) > 20)) then x1 else ⟨#[]⟩)))
noncomputable def g220_0_2 (x2 : Int) (x3 : Sl T160) (x6 : Int) (x8 : ByteArray) (x9 : ByteArray) : Int := (bif (x6 == 5) then x2 else (bif (x6 == 6) then 0 else (bif (decide ((((g220_m11 x3 x6 x8 x9).n : Nat) : Int) > 20)) then x2 else 0)))
noncomputable def g220_0_3 (x3 : Sl T160) (x6 : Int) (x8 : ByteArray) (x9 : ByteArray) : Sl T160 := (bif (x6 == 5) then x3 else (bif (x6 == 6) then (g220_r10 x3 x6 x8 x9).2.2.2 else (bif (decide ((((g220_m11 x3 x6 x8 x9).n : Nat) : Int) > 20)) then x3 else (g220_m11 x3 x6 x8 x9))))
noncomputable def g220_0_4 (x3 : Sl T160) (x4 : Sl ByteArray) (x6 : Int) (x8 : ByteArray) (x9 : ByteArray) : Sl ByteArray := (bif (x6 == 5) then x4 else (bif (x6 == 6) then (nilSl : Sl ByteArray) else (bif (decide ((((g220_m11 x3 x6 x8 x9).n : Nat) : Int) > 20)) then x4 else (nilSl : Sl ByteArray))))
noncomputable def g220_0_5 (x3 : Sl T160) (x5 : Sl T164) (x6 : Int) (x8 : ByteArray) (x9 : ByteArray) : Sl T164 := (bif (x6 == 5) then x5 else (bif (x6 == 6) then (nilSl : Sl T164) else (bif (decide ((((g220_m11 x3 x6 x8 x9).n : Nat) : Int) > 20)) then x5 else (nilSl : Sl T164))))
noncomputable def g220_1_0 (x3 : Sl T160) (x6 : Int) (x8 : ByteArray) (x9 : ByteArray) : Int := (bif (x6 == 5) then (bif (!(g220_r10 x3 x6 x8 x9).1) then 5 else 0) else (bif (x6 == 6) then 0 else (bif (decide ((((g220_m11 x3 x6 x8 x9).n : Nat) : Int) > 20)) then 6 else 0)))
noncomputable def g220_1_1 (x3 : Sl T160) (x6 : Int) (x8 : ByteArray) (x9 : ByteArray) : ByteArray := (bif (x6 == 5) then (bif (!(g220_r10 x3 x6 x8 x9).1) then ⟨#[]⟩ else (g220_r10 x3 x6 x8 x9).2.1) else ⟨#[]⟩)
noncomputable def g220_1_2 (x3 : Sl T160) (x6 : Int) (x8 : ByteArray) (x9 : ByteArray) : Int := (bif (x6 == 5) then 0 else (bif (x6 == 6) then (g238 (g220_r10 x3 x6 x8 x9).1) else (bif (decide ((((g220_m11 x3 x6 x8 x9).n : Nat) : Int) > 20)) then 0 else (g238 (!(g220_r10 x3 x6 x8 x9).1)))))
noncomputable def g220_1_3 : Sl ByteArray := (nilSl : Sl ByteArray)
noncomputable def g221_m1 (x6 : Int) : Bool := (bif (x6 == 7) then true else (x6 == 8))
noncomputable def g221_m2 (x6 : Int) (x9 : ByteArray) : Sl ByteArray := (bif (x6 == 8) then (Sl.lit ([x9] : List ByteArray)) else (nilSl : Sl ByteArray))
noncomputable def g221_l6 (x4 : Sl ByteArray) : Nat → Int → Sl ByteArray → Sl ByteArray
  | 0, _, _ => default
  | k + 1, v6_0, v6_1 => (bif (decide (v6_0 < (x4.n : Int))) then (g221_l6 x4 k (IntKind.i64.wrap (v6_0 + 1)) (Sl.app v6_1 (Sl.lit ([(x4.at' (Int.toNat v6_0))] : List ByteArray)))) else v6_1)
noncomputable def g221_r3 (x4 : Sl ByteArray) (x6 : Int) (x9 : ByteArray) : Sl ByteArray := g221_l6 x4 ((Int.toNat (((x4.n : Nat) : Int) - 0)) + 1) 0 (g221_m2 x6 x9)
noncomputable def g221_m4 (x4 : Sl ByteArray) (x6 : Int) (x9 : ByteArray) : Sl ByteArray := (bif (x6 == 7) then (Sl.app (g221_r3 x4 x6 x9) (Sl.lit ([x9] : List ByteArray))) else (g221_r3 x4 x6 x9))
noncomputable def g221_m5 (x4 : Sl ByteArray) (x6 : Int) : Int := (bif (x6 == 10) then 0 else (IntKind.i64.wrap ((x4.n : Int) - 1)))
noncomputable def g221_m6 (x4 : Sl ByteArray) (x6 : Int) (v16_0 : Int) (v16_1 : Sl ByteArray) : Sl ByteArray := (bif (v16_0 != (g221_m5 x4 x6)) then (Sl.app v16_1 (Sl.lit ([(x4.at' (Int.toNat v16_0))] : List ByteArray))) else v16_1)
noncomputable def g221_l16 (x4 : Sl ByteArray) (x6 : Int) : Nat → Int → Sl ByteArray → Sl ByteArray
  | 0, _, _ => default
  | k + 1, v16_0, v16_1 => (bif (decide (v16_0 < (x4.n : Int))) then (g221_l16 x4 x6 k (IntKind.i64.wrap (v16_0 + 1)) (g221_m6 x4 x6 v16_0 v16_1)) else v16_1)
noncomputable def g221_r7 (x4 : Sl ByteArray) (x6 : Int) : Sl ByteArray := g221_l16 x4 x6 ((Int.toNat (((x4.n : Nat) : Int) - 0)) + 1) 0 (nilSl : Sl ByteArray)
noncomputable def g221_0_0 (x0 : Int) (x4 : Sl ByteArray) (x6 : Int) : Int := (bif (g221_m1 x6) then (bif (decide ((x4.n : Int) ≥ 20)) then x0 else 4) else 4)
noncomputable def g221_0_1 (x1 : ByteArray) (x4 : Sl ByteArray) (x6 : Int) : ByteArray := (bif (g221_m1 x6) then (bif (decide ((x4.n : Int) ≥ 20)) then x1 else ⟨#[]⟩) else ⟨#[]⟩)
noncomputable def g221_0_2 (x2 : Int) (x4 : Sl ByteArray) (x6 : Int) : Int := (bif (g221_m1 x6) then (bif (decide ((x4.n : Int) ≥ 20)) then x2 else 0) else 0)
noncomputable def g221_0_3 (x3 : Sl T160) (x4 : Sl ByteArray) (x6 : Int) : Sl T160 := (bif (g221_m1 x6) then (bif (decide ((x4.n : Int) ≥ 20)) then x3 else (nilSl : Sl T160)) else (nilSl : Sl T160))
noncomputable def g221_0_4 (x4 : Sl ByteArray) (x6 : Int) (x9 : ByteArray) : Sl ByteArray := (bif (g221_m1 x6) then (bif (decide ((x4.n : Int) ≥ 20)) then x4 else (g221_m4 x4 x6 x9)) else (g221_r7 x4 x6))
noncomputable def g221_0_5 (x4 : Sl ByteArray) (x5 : Sl T164) (x6 : Int) : Sl T164 := (bif (g221_m1 x6) then (bif (decide ((x4.n : Int) ≥ 20)) then x5 else (nilSl : Sl T164)) else (nilSl : Sl T164))
noncomputable def g221_1_0 (x4 : Sl ByteArray) (x6 : Int) : Int := (bif (g221_m1 x6) then (bif (decide ((x4.n : Int) ≥ 20)) then 6 else 0) else 0)
noncomputable def g221_1_1 (x4 : Sl ByteArray) (x6 : Int) : ByteArray := (bif (g221_m1 x6) then ⟨#[]⟩ else (x4.at' (Int.toNat (g221_m5 x4 x6))))
noncomputable def g221_1_2 (x4 : Sl ByteArray) (x6 : Int) : Int := (bif (g221_m1 x6) then (bif (decide ((x4.n : Int) ≥ 20)) then 0 else (IntKind.i64.wrap ((x4.n : Int) + 1))) else 0)
noncomputable def g221_1_3 : Sl ByteArray := (nilSl : Sl ByteArray)
noncomputable def g222_m4 (x4 : Sl ByteArray) (x6 : Int) (x9 : ByteArray) (v1_1 : Bool) (v1_2 : Int) : Bool := (bif (x6 == 11) then (bif (!v1_1) then (!(Op.bytesLess (((x4.at' (Int.toNat v1_2)) : ByteArray).toList) ((x9 : ByteArray).toList))) else false) else false)
noncomputable def g222_m5 (x4 : Sl ByteArray) (x6 : Int) (x9 : ByteArray) (v1_1 : Bool) (v1_2 : Int) (v1_3 : Sl ByteArray) : Sl ByteArray := (bif (g222_m4 x4 x6 x9 v1_1 v1_2) then (Sl.app v1_3 (Sl.lit ([x9] : List ByteArray))) else v1_3)
noncomputable def g222_m6 (x4 : Sl ByteArray) (x6 : Int) (x9 : ByteArray) (v1_1 : Bool) (v1_2 : Int) : Bool := (bif (g222_m4 x4 x6 x9 v1_1 v1_2) then true else v1_1)
noncomputable def g222_m7 (x4 : Sl ByteArray) (x6 : Int) (x9 : ByteArray) (v1_1 : Bool) (v1_2 : Int) (v1_3 : Sl ByteArray) : Sl ByteArray := (bif (((x4.at' (Int.toNat v1_2)) : ByteArray).toList == (x9 : ByteArray).toList) then (g222_m5 x4 x6 x9 v1_1 v1_2 v1_3) else (Sl.app (g222_m5 x4 x6 x9 v1_1 v1_2 v1_3) (Sl.lit ([(x4.at' (Int.toNat v1_2))] : List ByteArray))))
noncomputable def g222_m8 (x4 : Sl ByteArray) (x9 : ByteArray) (v1_0 : Bool) (v1_2 : Int) : Bool := (bif (((x4.at' (Int.toNat v1_2)) : ByteArray).toList == (x9 : ByteArray).toList) then true else v1_0)
noncomputable def g222_l1 (x4 : Sl ByteArray) (x6 : Int) (x9 : ByteArray) : Nat → Bool → Bool → Int → Sl ByteArray → Bool × Bool × Sl ByteArray
  | 0, _, _, _, _ => default
  | k + 1, v1_0, v1_1, v1_2, v1_3 => (bif (decide (v1_2 < (x4.n : Int))) then (g222_l1 x4 x6 x9 k (g222_m8 x4 x9 v1_0 v1_2) (g222_m6 x4 x6 x9 v1_1 v1_2) (IntKind.i64.wrap (v1_2 + 1)) (g222_m7 x4 x6 x9 v1_1 v1_2 v1_3)) else (v1_0, v1_1, v1_3))
noncomputable def g222_r9 (x4 : Sl ByteArray) (x6 : Int) (x9 : ByteArray) : Bool × Bool × Sl ByteArray := g222_l1 x4 x6 x9 ((Int.toNat (((x4.n : Nat) : Int) - 0)) + 1) false false 0 (nilSl : Sl ByteArray)
noncomputable def g222_m10 (x4 : Sl ByteArray) (x6 : Int) (x9 : ByteArray) : Sl ByteArray := (bif (!(g222_r9 x4 x6 x9).2.1) then (Sl.app (g222_r9 x4 x6 x9).2.2 (Sl.lit ([x9] : List ByteArray))) else (g222_r9 x4 x6 x9).2.2)
noncomputable def g222_0_0 (x0 : Int) (x4 : Sl ByteArray) (x6 : Int) (x9 : ByteArray) : Int := (bif (x6 == 13) then x0 else (bif (x6 == 12) then 5 else (bif (decide ((((g222_m10 x4 x6 x9).n : Nat) : Int) > 20)) then x0 else 5)))
noncomputable def g222_0_1 (x1 : ByteArray) (x4 : Sl ByteArray) (x6 : Int) (x9 : ByteArray) : ByteArray := (bif (x6 == 13) then x1 else (bif (x6 == 12) then ⟨#[]⟩ else (bif (decide ((((g222_m10 x4 x6 x9).n : Nat) : Int) > 20)) then x1 else ⟨#[]⟩)))
noncomputable def g222_0_2 (x2 : Int) (x4 : Sl ByteArray) (x6 : Int) (x9 : ByteArray) : Int := (bif (x6 == 13) then x2 else (bif (x6 == 12) then 0 else (bif (decide ((((g222_m10 x4 x6 x9).n : Nat) : Int) > 20)) then x2 else 0)))
noncomputable def g222_0_3 (x3 : Sl T160) (x4 : Sl ByteArray) (x6 : Int) (x9 : ByteArray) : Sl T160 := (bif (x6 == 13) then x3 else (bif (x6 == 12) then (nilSl : Sl T160) else (bif (decide ((((g222_m10 x4 x6 x9).n : Nat) : Int) > 20)) then x3 else (nilSl : Sl T160))))
noncomputable def g222_0_4 (x4 : Sl ByteArray) (x6 : Int) (x9 : ByteArray) : Sl ByteArray := (bif (x6 == 13) then x4 else (bif (x6 == 12) then (g222_r9 x4 x6 x9).2.2 else (bif (decide ((((g222_m10 x4 x6 x9).n : Nat) : Int) > 20)) then x4 else (g222_m10 x4 x6 x9))))
noncomputable def g222_0_5 (x4 : Sl ByteArray) (x5 : Sl T164) (x6 : Int) (x9 : ByteArray) : Sl T164 := (bif (x6 == 13) then x5 else (bif (x6 == 12) then (nilSl : Sl T164) else (bif (decide ((((g222_m10 x4 x6 x9).n : Nat) : Int) > 20)) then x5 else (nilSl : Sl T164))))
noncomputable def g222_1_0 (x4 : Sl ByteArray) (x6 : Int) (x9 : ByteArray) : Int := (bif (x6 == 13) then 0 else (bif (x6 == 12) then 0 else (bif (decide ((((g222_m10 x4 x6 x9).n : Nat) : Int) > 20)) then 6 else 0)))
noncomputable def g222_1_1 : ByteArray := ⟨#[]⟩
noncomputable def g222_1_2 (x4 : Sl ByteArray) (x6 : Int) (x9 : ByteArray) : Int := (bif (x6 == 13) then (g238 (g222_r9 x4 x6 x9).1) else (bif (x6 == 12) then (g238 (g222_r9 x4 x6 x9).1) else (bif (decide ((((g222_m10 x4 x6 x9).n : Nat) : Int) > 20)) then 0 else (g238 (!(g222_r9 x4 x6 x9).1)))))
noncomputable def g222_1_3 : Sl ByteArray := (nilSl : Sl ByteArray)
noncomputable def g223_m2 (x5 : Sl T164) (x9 : ByteArray) (x10 : Int) (v3_0 : Bool) (v3_1 : Int) : Bool := (bif (!v3_0) then (g146 x9 x10 (x5.at' (Int.toNat v3_1)).c0 (x5.at' (Int.toNat v3_1)).c1) else false)
noncomputable def g223_m3 (x5 : Sl T164) (x9 : ByteArray) (x10 : Int) (v3_0 : Bool) (v3_1 : Int) (v3_2 : Sl T164) : Sl T164 := (bif (g223_m2 x5 x9 x10 v3_0 v3_1) then (Sl.app v3_2 (Sl.lit ([(⟨x9, x10⟩ : T164)] : List T164))) else v3_2)
noncomputable def g223_m4 (x5 : Sl T164) (x9 : ByteArray) (x10 : Int) (v3_0 : Bool) (v3_1 : Int) : Bool := (bif (g223_m2 x5 x9 x10 v3_0 v3_1) then true else v3_0)
noncomputable def g223_m5 (x5 : Sl T164) (x9 : ByteArray) (x10 : Int) (v3_0 : Bool) (v3_1 : Int) (v3_2 : Sl T164) : Sl T164 := (bif (v3_1 == (g147 x5 x9)) then v3_2 else (Sl.app (g223_m3 x5 x9 x10 v3_0 v3_1 v3_2) (Sl.lit ([(x5.at' (Int.toNat v3_1))] : List T164))))
noncomputable def g223_m6 (x5 : Sl T164) (x9 : ByteArray) (x10 : Int) (v3_0 : Bool) (v3_1 : Int) : Bool := (bif (v3_1 == (g147 x5 x9)) then v3_0 else (g223_m4 x5 x9 x10 v3_0 v3_1))
noncomputable def g223_l3 (x5 : Sl T164) (x9 : ByteArray) (x10 : Int) : Nat → Bool → Int → Sl T164 → Bool × Sl T164
  | 0, _, _, _ => default
  | k + 1, v3_0, v3_1, v3_2 => (bif (decide (v3_1 < (x5.n : Int))) then (g223_l3 x5 x9 x10 k (g223_m6 x5 x9 x10 v3_0 v3_1) (IntKind.i64.wrap (v3_1 + 1)) (g223_m5 x5 x9 x10 v3_0 v3_1 v3_2)) else (v3_0, v3_2))
noncomputable def g223_r7 (x5 : Sl T164) (x6 : Int) (x9 : ByteArray) (x10 : Int) : Bool × Sl T164 := g223_l3 x5 x9 x10 ((Int.toNat (((x5.n : Nat) : Int) - 0)) + 1) (x6 == 15) 0 (nilSl : Sl T164)
noncomputable def g223_m8 (x5 : Sl T164) (x6 : Int) (x9 : ByteArray) (x10 : Int) : Sl T164 := (bif (!(g223_r7 x5 x6 x9 x10).1) then (Sl.app (g223_r7 x5 x6 x9 x10).2 (Sl.lit ([(⟨x9, x10⟩ : T164)] : List T164))) else (g223_r7 x5 x6 x9 x10).2)
noncomputable def g223_0_0 (x0 : Int) (x5 : Sl T164) (x6 : Int) (x9 : ByteArray) (x10 : Int) : Int := (bif (x6 == 16) then x0 else (bif (x6 == 15) then 6 else (bif (decide ((((g223_m8 x5 x6 x9 x10).n : Nat) : Int) > 20)) then x0 else 6)))
noncomputable def g223_0_1 (x1 : ByteArray) (x5 : Sl T164) (x6 : Int) (x9 : ByteArray) (x10 : Int) : ByteArray := (bif (x6 == 16) then x1 else (bif (x6 == 15) then ⟨#[]⟩ else (bif (decide ((((g223_m8 x5 x6 x9 x10).n : Nat) : Int) > 20)) then x1 else ⟨#[]⟩)))
noncomputable def g223_0_2 (x2 : Int) (x5 : Sl T164) (x6 : Int) (x9 : ByteArray) (x10 : Int) : Int := (bif (x6 == 16) then x2 else (bif (x6 == 15) then 0 else (bif (decide ((((g223_m8 x5 x6 x9 x10).n : Nat) : Int) > 20)) then x2 else 0)))
noncomputable def g223_0_3 (x3 : Sl T160) (x5 : Sl T164) (x6 : Int) (x9 : ByteArray) (x10 : Int) : Sl T160 := (bif (x6 == 16) then x3 else (bif (x6 == 15) then (nilSl : Sl T160) else (bif (decide ((((g223_m8 x5 x6 x9 x10).n : Nat) : Int) > 20)) then x3 else (nilSl : Sl T160))))
noncomputable def g223_0_4 (x4 : Sl ByteArray) (x5 : Sl T164) (x6 : Int) (x9 : ByteArray) (x10 : Int) : Sl ByteArray := (bif (x6 == 16) then x4 else (bif (x6 == 15) then (nilSl : Sl ByteArray) else (bif (decide ((((g223_m8 x5 x6 x9 x10).n : Nat) : Int) > 20)) then x4 else (nilSl : Sl ByteArray))))
noncomputable def g223_0_5 (x5 : Sl T164) (x6 : Int) (x9 : ByteArray) (x10 : Int) : Sl T164 := (bif (x6 == 16) then x5 else (bif (x6 == 15) then (g223_r7 x5 x6 x9 x10).2 else (bif (decide ((((g223_m8 x5 x6 x9 x10).n : Nat) : Int) > 20)) then x5 else (g223_m8 x5 x6 x9 x10))))
noncomputable def g223_1_0 (x5 : Sl T164) (x6 : Int) (x9 : ByteArray) (x10 : Int) : Int := (bif (x6 == 16) then (bif (decide ((g147 x5 x9) < 0)) then 5 else 0) else (bif (x6 == 15) then 0 else (bif (decide ((((g223_m8 x5 x6 x9 x10).n : Nat) : Int) > 20)) then 6 else 0)))
noncomputable def g223_1_1 : ByteArray := ⟨#[]⟩
noncomputable def g223_1_2 (x5 : Sl T164) (x6 : Int) (x9 : ByteArray) (x10 : Int) : Int := (bif (x6 == 16) then (bif (decide ((g147 x5 x9) < 0)) then 0 else (g147 x5 x9)) else (bif (x6 == 15) then (g238 (decide ((g147 x5 x9) ≥ 0))) else (bif (decide ((((g223_m8 x5 x6 x9 x10).n : Nat) : Int) > 20)) then 0 else (g238 (decide ((g147 x5 x9) < 0))))))
noncomputable def g223_1_3 : Sl ByteArray := (nilSl : Sl ByteArray)
end Go.Proofs.YtchhfojblmceiaaGreat
/-
  Walks: what functions of the program answer, as functions.
-/
namespace Go.Proofs.YtchhfojblmceiaaGreat
open Go Go.Vc Go.RowKit
set_option maxRecDepth 100000
set_option maxHeartbeats 4000000
noncomputable def g190_m1 (x6 : Int) : Bool := (bif (x6 == 1) then true else (bif (x6 == 3) then true else (bif (x6 == 4) then true else (bif (x6 == 7) then true else (bif (x6 == 8) then true else (bif (x6 == 11) then true else (x6 == 14)))))))
noncomputable def g190_m2 (x0 : Int) (x6 : Int) : Bool := (bif (decide ((g219 x6) > 0)) then (bif ((g219 x6) != x0) then true else (bif (x6 == 17) then (decide (x0 < 3)) else (bif (x6 == 18) then (decide (x0 < 3)) else false))) else (bif (x6 == 17) then (decide (x0 < 3)) else (bif (x6 == 18) then (decide (x0 < 3)) else false)))
noncomputable def g190_m3 (x0 : Int) (x1 : ByteArray) (x2 : Int) (x3 : Sl T160) (x4 : Sl ByteArray) (x5 : Sl T164) (x6 : Int) : Int := (bif (g189 x0 x1 x2 x3 x4 x5) then (g219 x6) else x0)
noncomputable def g190_p4 (x0 : Int) (x1 : ByteArray) (x2 : Int) (x3 : Sl T160) (x4 : Sl ByteArray) (x5 : Sl T164) (x6 : Int) : Bool := (bif (g189 x0 x1 x2 x3 x4 x5) then (bif (!(g190_m1 x6)) then false else true) else (bif (g190_m2 x0 x6) then false else true))
noncomputable def g190_l20 (x4 : Sl ByteArray) : Nat → Int → Sl ByteArray → Sl ByteArray
  | 0, _, _ => default
  | k + 1, v20_0, v20_1 => (bif (decide (v20_0 < (x4.n : Int))) then (g190_l20 x4 k (IntKind.i64.wrap (v20_0 + 1)) (Sl.app v20_1 (Sl.lit ([(x4.at' (Int.toNat v20_0))] : List ByteArray)))) else v20_1)
noncomputable def g190_r5 (x4 : Sl ByteArray) : Sl ByteArray := g190_l20 x4 ((Int.toNat ((x4.n : Int) - 0)) + 1) 0 (nilSl : Sl ByteArray)
noncomputable def g190_l26 (x3 : Sl T160) : Nat → Int → Sl ByteArray → Sl ByteArray
  | 0, _, _ => default
  | k + 1, v26_0, v26_1 => (bif (decide (v26_0 < (x3.n : Int))) then (g190_l26 x3 k (IntKind.i64.wrap (v26_0 + 1)) (Sl.app v26_1 (Sl.lit ([(x3.at' (Int.toNat v26_0)).c0] : List ByteArray)))) else v26_1)
noncomputable def g190_r6 (x3 : Sl T160) (x4 : Sl ByteArray) : Sl ByteArray := g190_l26 x3 ((Int.toNat ((x3.n : Int) - 0)) + 1) 0 (g190_r5 x4)
noncomputable def g190_l31 (x5 : Sl T164) : Nat → Int → Sl ByteArray → Sl ByteArray
  | 0, _, _ => default
  | k + 1, v31_0, v31_1 => (bif (decide (v31_0 < (x5.n : Int))) then (g190_l31 x5 k (IntKind.i64.wrap (v31_0 + 1)) (Sl.app v31_1 (Sl.lit ([(x5.at' (Int.toNat v31_0)).c0] : List ByteArray)))) else v31_1)
noncomputable def g190_r7 (x3 : Sl T160) (x4 : Sl ByteArray) (x5 : Sl T164) : Sl ByteArray := g190_l31 x5 ((Int.toNat ((x5.n : Int) - 0)) + 1) 0 (g190_r6 x3 x4)
noncomputable def g190_m8 (x0 : Int) (x1 : ByteArray) (x2 : Int) (x3 : Sl T160) (x4 : Sl ByteArray) (x5 : Sl T164) (x6 : Int) (x8 : ByteArray) (x9 : ByteArray) (x10 : Int) : Int := (bif (x6 == 1) then 1 else (bif (x6 == 2) then (g190_m3 x0 x1 x2 x3 x4 x5 x6) else (bif (x6 == 3) then (g190_m3 x0 x1 x2 x3 x4 x5 x6) else (bif (x6 == 17) then (g190_m3 x0 x1 x2 x3 x4 x5 x6) else (bif (x6 == 18) then (g190_m3 x0 x1 x2 x3 x4 x5 x6) else (bif ((g219 x6) == 3) then (g220_0_0 (g190_m3 x0 x1 x2 x3 x4 x5 x6) x3 x6 x8 x9) else (bif ((g219 x6) == 4) then (g221_0_0 (g190_m3 x0 x1 x2 x3 x4 x5 x6) x4 x6) else (bif ((g219 x6) == 5) then (g222_0_0 (g190_m3 x0 x1 x2 x3 x4 x5 x6) x4 x6 x9) else (g223_0_0 (g190_m3 x0 x1 x2 x3 x4 x5 x6) x5 x6 x9 x10)))))))))
noncomputable def g190_m9 (x1 : ByteArray) (x3 : Sl T160) (x4 : Sl ByteArray) (x5 : Sl T164) (x6 : Int) (x8 : ByteArray) (x9 : ByteArray) (x10 : Int) : ByteArray := (bif (x6 == 1) then x9 else (bif (x6 == 2) then x1 else (bif (x6 == 3) then x1 else (bif (x6 == 17) then x1 else (bif (x6 == 18) then x1 else (bif ((g219 x6) == 3) then (g220_0_1 x1 x3 x6 x8 x9) else (bif ((g219 x6) == 4) then (g221_0_1 x1 x4 x6) else (bif ((g219 x6) == 5) then (g222_0_1 x1 x4 x6 x9) else (g223_0_1 x1 x5 x6 x9 x10)))))))))
noncomputable def g190_m10 (x2 : Int) (x3 : Sl T160) (x4 : Sl ByteArray) (x5 : Sl T164) (x6 : Int) (x8 : ByteArray) (x9 : ByteArray) (x10 : Int) : Int := (bif (x6 == 1) then 0 else (bif (x6 == 2) then x2 else (bif (x6 == 3) then (bif (!(g114 (IntKind.i64.wrap (x2 + x10)))) then x2 else (IntKind.i64.wrap (x2 + x10))) else (bif (x6 == 17) then x2 else (bif (x6 == 18) then x2 else (bif ((g219 x6) == 3) then (g220_0_2 x2 x3 x6 x8 x9) else (bif ((g219 x6) == 4) then (g221_0_2 x2 x4 x6) else (bif ((g219 x6) == 5) then (g222_0_2 x2 x4 x6 x9) else (g223_0_2 x2 x5 x6 x9 x10)))))))))
noncomputable def g190_m11 (x3 : Sl T160) (x4 : Sl ByteArray) (x5 : Sl T164) (x6 : Int) (x8 : ByteArray) (x9 : ByteArray) (x10 : Int) : Sl T160 := (bif (x6 == 1) then (nilSl : Sl T160) else (bif (x6 == 2) then x3 else (bif (x6 == 3) then x3 else (bif (x6 == 17) then x3 else (bif (x6 == 18) then x3 else (bif ((g219 x6) == 3) then (g220_0_3 x3 x6 x8 x9) else (bif ((g219 x6) == 4) then (g221_0_3 x3 x4 x6) else (bif ((g219 x6) == 5) then (g222_0_3 x3 x4 x6 x9) else (g223_0_3 x3 x5 x6 x9 x10)))))))))
noncomputable def g190_m12 (x3 : Sl T160) (x4 : Sl ByteArray) (x5 : Sl T164) (x6 : Int) (x8 : ByteArray) (x9 : ByteArray) (x10 : Int) : Sl ByteArray := (bif (x6 == 1) then (nilSl : Sl ByteArray) else (bif (x6 == 2) then x4 else (bif (x6 == 3) then x4 else (bif (x6 == 17) then x4 else (bif (x6 == 18) then x4 else (bif ((g219 x6) == 3) then (g220_0_4 x3 x4 x6 x8 x9) else (bif ((g219 x6) == 4) then (g221_0_4 x4 x6 x9) else (bif ((g219 x6) == 5) then (g222_0_4 x4 x6 x9) else (g223_0_4 x4 x5 x6 x9 x10)))))))))
noncomputable def g190_m13 (x3 : Sl T160) (x4 : Sl ByteArray) (x5 : Sl T164) (x6 : Int) (x8 : ByteArray) (x9 : ByteArray) (x10 : Int) : Sl T164 := (bif (x6 == 1) then (nilSl : Sl T164) else (bif (x6 == 2) then x5 else (bif (x6 == 3) then x5 else (bif (x6 == 17) then x5 else (bif (x6 == 18) then x5 else (bif ((g219 x6) == 3) then (g220_0_5 x3 x5 x6 x8 x9) else (bif ((g219 x6) == 4) then (g221_0_5 x4 x5 x6) else (bif ((g219 x6) == 5) then (g222_0_5 x4 x5 x6 x9) else (g223_0_5 x5 x6 x9 x10)))))))))
noncomputable def g190_m14 (x2 : Int) (x3 : Sl T160) (x4 : Sl ByteArray) (x5 : Sl T164) (x6 : Int) (x8 : ByteArray) (x9 : ByteArray) (x10 : Int) : Int := (bif (x6 == 1) then 0 else (bif (x6 == 2) then 0 else (bif (x6 == 3) then (bif (!(g114 (IntKind.i64.wrap (x2 + x10)))) then 7 else 0) else (bif (x6 == 17) then 0 else (bif (x6 == 18) then 0 else (bif ((g219 x6) == 3) then (g220_1_0 x3 x6 x8 x9) else (bif ((g219 x6) == 4) then (g221_1_0 x4 x6) else (bif ((g219 x6) == 5) then (g222_1_0 x4 x6 x9) else (g223_1_0 x5 x6 x9 x10)))))))))
noncomputable def g190_m15 (x1 : ByteArray) (x3 : Sl T160) (x4 : Sl ByteArray) (x6 : Int) (x8 : ByteArray) (x9 : ByteArray) : ByteArray := (bif (x6 == 1) then ⟨#[]⟩ else (bif (x6 == 2) then x1 else (bif (x6 == 3) then ⟨#[]⟩ else (bif (x6 == 17) then ⟨#[]⟩ else (bif (x6 == 18) then ⟨#[]⟩ else (bif ((g219 x6) == 3) then (g220_1_1 x3 x6 x8 x9) else (bif ((g219 x6) == 4) then (g221_1_1 x4 x6) else (bif ((g219 x6) == 5) then g222_1_1 else g223_1_1))))))))
noncomputable def g190_m16 (x2 : Int) (x3 : Sl T160) (x4 : Sl ByteArray) (x5 : Sl T164) (x6 : Int) (x8 : ByteArray) (x9 : ByteArray) (x10 : Int) : Int := (bif (x6 == 1) then 0 else (bif (x6 == 2) then 0 else (bif (x6 == 3) then (bif (!(g114 (IntKind.i64.wrap (x2 + x10)))) then 0 else (IntKind.i64.wrap (x2 + x10))) else (bif (x6 == 17) then (g145 x3 x4 x5) else (bif (x6 == 18) then 0 else (bif ((g219 x6) == 3) then (g220_1_2 x3 x6 x8 x9) else (bif ((g219 x6) == 4) then (g221_1_2 x4 x6) else (bif ((g219 x6) == 5) then (g222_1_2 x4 x6 x9) else (g223_1_2 x5 x6 x9 x10)))))))))
noncomputable def g190_m17 (x3 : Sl T160) (x4 : Sl ByteArray) (x5 : Sl T164) (x6 : Int) : Sl ByteArray := (bif (x6 == 1) then (nilSl : Sl ByteArray) else (bif (x6 == 2) then (nilSl : Sl ByteArray) else (bif (x6 == 3) then (nilSl : Sl ByteArray) else (bif (x6 == 17) then (nilSl : Sl ByteArray) else (bif (x6 == 18) then (g190_r7 x3 x4 x5) else (bif ((g219 x6) == 3) then g220_1_3 else (bif ((g219 x6) == 4) then g221_1_3 else (bif ((g219 x6) == 5) then g222_1_3 else g223_1_3))))))))
noncomputable def g190_m18 (x0 : Int) (x1 : ByteArray) (x2 : Int) (x3 : Sl T160) (x4 : Sl ByteArray) (x5 : Sl T164) (x6 : Int) (x8 : ByteArray) (x9 : ByteArray) (x10 : Int) : Bool := (bif (decide ((g190_m8 x0 x1 x2 x3 x4 x5 x6 x8 x9 x10) ≥ 3)) then ((g145 (g190_m11 x3 x4 x5 x6 x8 x9 x10) (g190_m12 x3 x4 x5 x6 x8 x9 x10) (g190_m13 x3 x4 x5 x6 x8 x9 x10)) == 0) else false)
noncomputable def g190_m19 (x0 : Int) (x1 : ByteArray) (x2 : Int) (x3 : Sl T160) (x4 : Sl ByteArray) (x5 : Sl T164) (x6 : Int) (x8 : ByteArray) (x9 : ByteArray) (x10 : Int) : Int := (bif (g190_m18 x0 x1 x2 x3 x4 x5 x6 x8 x9 x10) then 0 else (g190_m8 x0 x1 x2 x3 x4 x5 x6 x8 x9 x10))
noncomputable def g190_m20 (x0 : Int) (x1 : ByteArray) (x2 : Int) (x3 : Sl T160) (x4 : Sl ByteArray) (x5 : Sl T164) (x6 : Int) (x8 : ByteArray) (x9 : ByteArray) (x10 : Int) : ByteArray := (bif (g190_m18 x0 x1 x2 x3 x4 x5 x6 x8 x9 x10) then ⟨#[]⟩ else (g190_m9 x1 x3 x4 x5 x6 x8 x9 x10))
noncomputable def g190_m21 (x0 : Int) (x1 : ByteArray) (x2 : Int) (x3 : Sl T160) (x4 : Sl ByteArray) (x5 : Sl T164) (x6 : Int) (x8 : ByteArray) (x9 : ByteArray) (x10 : Int) : Int := (bif (g190_m18 x0 x1 x2 x3 x4 x5 x6 x8 x9 x10) then 0 else (g190_m10 x2 x3 x4 x5 x6 x8 x9 x10))
noncomputable def g190_m22 (x0 : Int) (x1 : ByteArray) (x2 : Int) (x3 : Sl T160) (x4 : Sl ByteArray) (x5 : Sl T164) (x6 : Int) (x8 : ByteArray) (x9 : ByteArray) (x10 : Int) : Sl T160 := (bif (g190_m18 x0 x1 x2 x3 x4 x5 x6 x8 x9 x10) then (nilSl : Sl T160) else (g190_m11 x3 x4 x5 x6 x8 x9 x10))
noncomputable def g190_m23 (x0 : Int) (x1 : ByteArray) (x2 : Int) (x3 : Sl T160) (x4 : Sl ByteArray) (x5 : Sl T164) (x6 : Int) (x8 : ByteArray) (x9 : ByteArray) (x10 : Int) : Sl ByteArray := (bif (g190_m18 x0 x1 x2 x3 x4 x5 x6 x8 x9 x10) then (nilSl : Sl ByteArray) else (g190_m12 x3 x4 x5 x6 x8 x9 x10))
noncomputable def g190_m24 (x0 : Int) (x1 : ByteArray) (x2 : Int) (x3 : Sl T160) (x4 : Sl ByteArray) (x5 : Sl T164) (x6 : Int) (x8 : ByteArray) (x9 : ByteArray) (x10 : Int) : Sl T164 := (bif (g190_m18 x0 x1 x2 x3 x4 x5 x6 x8 x9 x10) then (nilSl : Sl T164) else (g190_m13 x3 x4 x5 x6 x8 x9 x10))
noncomputable def g190_0_0 (x0 : Int) (x1 : ByteArray) (x2 : Int) (x3 : Sl T160) (x4 : Sl ByteArray) (x5 : Sl T164) (x6 : Int) (x8 : ByteArray) (x9 : ByteArray) (x10 : Int) : Int := (bif (g190_p4 x0 x1 x2 x3 x4 x5 x6) then (bif ((g190_m14 x2 x3 x4 x5 x6 x8 x9 x10) != 0) then x0 else (g190_m19 x0 x1 x2 x3 x4 x5 x6 x8 x9 x10)) else x0)
noncomputable def g190_0_1 (x0 : Int) (x1 : ByteArray) (x2 : Int) (x3 : Sl T160) (x4 : Sl ByteArray) (x5 : Sl T164) (x6 : Int) (x8 : ByteArray) (x9 : ByteArray) (x10 : Int) : ByteArray := (bif (g190_p4 x0 x1 x2 x3 x4 x5 x6) then (bif ((g190_m14 x2 x3 x4 x5 x6 x8 x9 x10) != 0) then x1 else (g190_m20 x0 x1 x2 x3 x4 x5 x6 x8 x9 x10)) else x1)
noncomputable def g190_0_2 (x0 : Int) (x1 : ByteArray) (x2 : Int) (x3 : Sl T160) (x4 : Sl ByteArray) (x5 : Sl T164) (x6 : Int) (x8 : ByteArray) (x9 : ByteArray) (x10 : Int) : Int := (bif (g190_p4 x0 x1 x2 x3 x4 x5 x6) then (bif ((g190_m14 x2 x3 x4 x5 x6 x8 x9 x10) != 0) then x2 else (g190_m21 x0 x1 x2 x3 x4 x5 x6 x8 x9 x10)) else x2)
noncomputable def g190_0_3 (x0 : Int) (x1 : ByteArray) (x2 : Int) (x3 : Sl T160) (x4 : Sl ByteArray) (x5 : Sl T164) (x6 : Int) (x8 : ByteArray) (x9 : ByteArray) (x10 : Int) : Sl T160 := (bif (g190_p4 x0 x1 x2 x3 x4 x5 x6) then (bif ((g190_m14 x2 x3 x4 x5 x6 x8 x9 x10) != 0) then x3 else (g190_m22 x0 x1 x2 x3 x4 x5 x6 x8 x9 x10)) else x3)
noncomputable def g190_0_4 (x0 : Int) (x1 : ByteArray) (x2 : Int) (x3 : Sl T160) (x4 : Sl ByteArray) (x5 : Sl T164) (x6 : Int) (x8 : ByteArray) (x9 : ByteArray) (x10 : Int) : Sl ByteArray := (bif (g190_p4 x0 x1 x2 x3 x4 x5 x6) then (bif ((g190_m14 x2 x3 x4 x5 x6 x8 x9 x10) != 0) then x4 else (g190_m23 x0 x1 x2 x3 x4 x5 x6 x8 x9 x10)) else x4)
noncomputable def g190_0_5 (x0 : Int) (x1 : ByteArray) (x2 : Int) (x3 : Sl T160) (x4 : Sl ByteArray) (x5 : Sl T164) (x6 : Int) (x8 : ByteArray) (x9 : ByteArray) (x10 : Int) : Sl T164 := (bif (g190_p4 x0 x1 x2 x3 x4 x5 x6) then (bif ((g190_m14 x2 x3 x4 x5 x6 x8 x9 x10) != 0) then x5 else (g190_m24 x0 x1 x2 x3 x4 x5 x6 x8 x9 x10)) else x5)
noncomputable def g190_1_0 (x0 : Int) (x1 : ByteArray) (x2 : Int) (x3 : Sl T160) (x4 : Sl ByteArray) (x5 : Sl T164) (x6 : Int) (x8 : ByteArray) (x9 : ByteArray) (x10 : Int) : Int := (bif (g190_p4 x0 x1 x2 x3 x4 x5 x6) then (g190_m14 x2 x3 x4 x5 x6 x8 x9 x10) else (bif (g189 x0 x1 x2 x3 x4 x5) then 5 else 4))
noncomputable def g190_1_1 (x0 : Int) (x1 : ByteArray) (x2 : Int) (x3 : Sl T160) (x4 : Sl ByteArray) (x5 : Sl T164) (x6 : Int) (x8 : ByteArray) (x9 : ByteArray) : ByteArray := (bif (g190_p4 x0 x1 x2 x3 x4 x5 x6) then (g190_m15 x1 x3 x4 x6 x8 x9) else ⟨#[]⟩)
noncomputable def g190_1_2 (x0 : Int) (x1 : ByteArray) (x2 : Int) (x3 : Sl T160) (x4 : Sl ByteArray) (x5 : Sl T164) (x6 : Int) (x8 : ByteArray) (x9 : ByteArray) (x10 : Int) : Int := (bif (g190_p4 x0 x1 x2 x3 x4 x5 x6) then (g190_m16 x2 x3 x4 x5 x6 x8 x9 x10) else 0)
noncomputable def g190_1_3 (x0 : Int) (x1 : ByteArray) (x2 : Int) (x3 : Sl T160) (x4 : Sl ByteArray) (x5 : Sl T164) (x6 : Int) : Sl ByteArray := (bif (g190_p4 x0 x1 x2 x3 x4 x5 x6) then (g190_m17 x3 x4 x5 x6) else (nilSl : Sl ByteArray))
end Go.Proofs.YtchhfojblmceiaaGreat
/-
  Walks: what functions of the program answer, as functions.
-/
namespace Go.Proofs.YtchhfojblmceiaaGreat
open Go Go.Vc Go.RowKit
set_option maxRecDepth 100000
set_option maxHeartbeats 4000000
noncomputable def g102_p1 (x0 : Int) (x1 : ByteArray) (x2 : Int) (x3 : Sl T160) (x4 : Sl ByteArray) (x5 : Sl T164) : Bool := (bif (!(g189 x0 x1 x2 x3 x4 x5)) then (bif ((g74 x0 x1 x2 x3 x4 x5) != 0) then false else true) else true)
noncomputable def g102_m2 (x6 : Int) (x7 : ByteArray) (x8 : ByteArray) (x9 : ByteArray) (x10 : Int) : Bool := (bif ((g48 x6 x7 x8 x9 x10) == 0) then (decide (x6 > 18)) else false)
noncomputable def g102_m3 (x6 : Int) (x7 : ByteArray) (x8 : ByteArray) (x9 : ByteArray) (x10 : Int) : Int := (bif (g102_m2 x6 x7 x8 x9 x10) then 3 else (g48 x6 x7 x8 x9 x10))
noncomputable def g102_m4 (x0 : Int) (x1 : ByteArray) (x2 : Int) (x3 : Sl T160) (x4 : Sl ByteArray) (x5 : Sl T164) (x6 : Int) (x8 : ByteArray) (x9 : ByteArray) (x10 : Int) : Int := (bif ((g190_1_0 x0 x1 x2 x3 x4 x5 x6 x8 x9 x10) != 0) then x0 else (g190_0_0 x0 x1 x2 x3 x4 x5 x6 x8 x9 x10))
noncomputable def g102_m5 (x0 : Int) (x1 : ByteArray) (x2 : Int) (x3 : Sl T160) (x4 : Sl ByteArray) (x5 : Sl T164) (x6 : Int) (x8 : ByteArray) (x9 : ByteArray) (x10 : Int) : ByteArray := (bif ((g190_1_0 x0 x1 x2 x3 x4 x5 x6 x8 x9 x10) != 0) then x1 else (g190_0_1 x0 x1 x2 x3 x4 x5 x6 x8 x9 x10))
noncomputable def g102_m6 (x0 : Int) (x1 : ByteArray) (x2 : Int) (x3 : Sl T160) (x4 : Sl ByteArray) (x5 : Sl T164) (x6 : Int) (x8 : ByteArray) (x9 : ByteArray) (x10 : Int) : Int := (bif ((g190_1_0 x0 x1 x2 x3 x4 x5 x6 x8 x9 x10) != 0) then x2 else (g190_0_2 x0 x1 x2 x3 x4 x5 x6 x8 x9 x10))
noncomputable def g102_m7 (x0 : Int) (x1 : ByteArray) (x2 : Int) (x3 : Sl T160) (x4 : Sl ByteArray) (x5 : Sl T164) (x6 : Int) (x8 : ByteArray) (x9 : ByteArray) (x10 : Int) : Sl T160 := (bif ((g190_1_0 x0 x1 x2 x3 x4 x5 x6 x8 x9 x10) != 0) then x3 else (g190_0_3 x0 x1 x2 x3 x4 x5 x6 x8 x9 x10))
noncomputable def g102_m8 (x0 : Int) (x1 : ByteArray) (x2 : Int) (x3 : Sl T160) (x4 : Sl ByteArray) (x5 : Sl T164) (x6 : Int) (x8 : ByteArray) (x9 : ByteArray) (x10 : Int) : Sl ByteArray := (bif ((g190_1_0 x0 x1 x2 x3 x4 x5 x6 x8 x9 x10) != 0) then x4 else (g190_0_4 x0 x1 x2 x3 x4 x5 x6 x8 x9 x10))
noncomputable def g102_m9 (x0 : Int) (x1 : ByteArray) (x2 : Int) (x3 : Sl T160) (x4 : Sl ByteArray) (x5 : Sl T164) (x6 : Int) (x8 : ByteArray) (x9 : ByteArray) (x10 : Int) : Sl T164 := (bif ((g190_1_0 x0 x1 x2 x3 x4 x5 x6 x8 x9 x10) != 0) then x5 else (g190_0_5 x0 x1 x2 x3 x4 x5 x6 x8 x9 x10))
noncomputable def g102_0_0 (x0 : Int) (x1 : ByteArray) (x2 : Int) (x3 : Sl T160) (x4 : Sl ByteArray) (x5 : Sl T164) (x6 : Int) (x7 : ByteArray) (x8 : ByteArray) (x9 : ByteArray) (x10 : Int) : Int := (bif (g102_p1 x0 x1 x2 x3 x4 x5) then (bif ((g102_m3 x6 x7 x8 x9 x10) != 0) then 0 else (g73_0 (g102_m4 x0 x1 x2 x3 x4 x5 x6 x8 x9 x10))) else 0)
noncomputable def g102_0_1 (x0 : Int) (x1 : ByteArray) (x2 : Int) (x3 : Sl T160) (x4 : Sl ByteArray) (x5 : Sl T164) (x6 : Int) (x7 : ByteArray) (x8 : ByteArray) (x9 : ByteArray) (x10 : Int) : ByteArray := (bif (g102_p1 x0 x1 x2 x3 x4 x5) then (bif ((g102_m3 x6 x7 x8 x9 x10) != 0) then ⟨#[]⟩ else (g73_1 (g102_m5 x0 x1 x2 x3 x4 x5 x6 x8 x9 x10))) else ⟨#[]⟩)
noncomputable def g102_0_2 (x0 : Int) (x1 : ByteArray) (x2 : Int) (x3 : Sl T160) (x4 : Sl ByteArray) (x5 : Sl T164) (x6 : Int) (x7 : ByteArray) (x8 : ByteArray) (x9 : ByteArray) (x10 : Int) : Int := (bif (g102_p1 x0 x1 x2 x3 x4 x5) then (bif ((g102_m3 x6 x7 x8 x9 x10) != 0) then 0 else (g73_2 (g102_m6 x0 x1 x2 x3 x4 x5 x6 x8 x9 x10))) else 0)
noncomputable def g102_0_3 (x0 : Int) (x1 : ByteArray) (x2 : Int) (x3 : Sl T160) (x4 : Sl ByteArray) (x5 : Sl T164) (x6 : Int) (x7 : ByteArray) (x8 : ByteArray) (x9 : ByteArray) (x10 : Int) : Sl T160 := (bif (g102_p1 x0 x1 x2 x3 x4 x5) then (bif ((g102_m3 x6 x7 x8 x9 x10) != 0) then (nilSl : Sl T160) else (g73_3 (g102_m7 x0 x1 x2 x3 x4 x5 x6 x8 x9 x10))) else (nilSl : Sl T160))
noncomputable def g102_0_4 (x0 : Int) (x1 : ByteArray) (x2 : Int) (x3 : Sl T160) (x4 : Sl ByteArray) (x5 : Sl T164) (x6 : Int) (x7 : ByteArray) (x8 : ByteArray) (x9 : ByteArray) (x10 : Int) : Sl ByteArray := (bif (g102_p1 x0 x1 x2 x3 x4 x5) then (bif ((g102_m3 x6 x7 x8 x9 x10) != 0) then (nilSl : Sl ByteArray) else (g73_4 (g102_m8 x0 x1 x2 x3 x4 x5 x6 x8 x9 x10))) else (nilSl : Sl ByteArray))
noncomputable def g102_0_5 (x0 : Int) (x1 : ByteArray) (x2 : Int) (x3 : Sl T160) (x4 : Sl ByteArray) (x5 : Sl T164) (x6 : Int) (x7 : ByteArray) (x8 : ByteArray) (x9 : ByteArray) (x10 : Int) : Sl T164 := (bif (g102_p1 x0 x1 x2 x3 x4 x5) then (bif ((g102_m3 x6 x7 x8 x9 x10) != 0) then (nilSl : Sl T164) else (g73_5 (g102_m9 x0 x1 x2 x3 x4 x5 x6 x8 x9 x10))) else (nilSl : Sl T164))
noncomputable def g102_1_0 (x0 : Int) (x1 : ByteArray) (x2 : Int) (x3 : Sl T160) (x4 : Sl ByteArray) (x5 : Sl T164) (x6 : Int) (x7 : ByteArray) (x8 : ByteArray) (x9 : ByteArray) (x10 : Int) : Int := (bif (g102_p1 x0 x1 x2 x3 x4 x5) then (bif ((g102_m3 x6 x7 x8 x9 x10) != 0) then 0 else (g190_1_0 x0 x1 x2 x3 x4 x5 x6 x8 x9 x10)) else 0)
noncomputable def g102_1_1 (x0 : Int) (x1 : ByteArray) (x2 : Int) (x3 : Sl T160) (x4 : Sl ByteArray) (x5 : Sl T164) (x6 : Int) (x7 : ByteArray) (x8 : ByteArray) (x9 : ByteArray) (x10 : Int) : ByteArray := (bif (g102_p1 x0 x1 x2 x3 x4 x5) then (bif ((g102_m3 x6 x7 x8 x9 x10) != 0) then ⟨#[]⟩ else (g190_1_1 x0 x1 x2 x3 x4 x5 x6 x8 x9)) else ⟨#[]⟩)
noncomputable def g102_1_2 (x0 : Int) (x1 : ByteArray) (x2 : Int) (x3 : Sl T160) (x4 : Sl ByteArray) (x5 : Sl T164) (x6 : Int) (x7 : ByteArray) (x8 : ByteArray) (x9 : ByteArray) (x10 : Int) : Int := (bif (g102_p1 x0 x1 x2 x3 x4 x5) then (bif ((g102_m3 x6 x7 x8 x9 x10) != 0) then 0 else (g190_1_2 x0 x1 x2 x3 x4 x5 x6 x8 x9 x10)) else 0)
noncomputable def g102_1_3 (x0 : Int) (x1 : ByteArray) (x2 : Int) (x3 : Sl T160) (x4 : Sl ByteArray) (x5 : Sl T164) (x6 : Int) (x7 : ByteArray) (x8 : ByteArray) (x9 : ByteArray) (x10 : Int) : Sl ByteArray := (bif (g102_p1 x0 x1 x2 x3 x4 x5) then (bif ((g102_m3 x6 x7 x8 x9 x10) != 0) then (nilSl : Sl ByteArray) else (g190_1_3 x0 x1 x2 x3 x4 x5 x6)) else (nilSl : Sl ByteArray))
noncomputable def g102_2 (x0 : Int) (x1 : ByteArray) (x2 : Int) (x3 : Sl T160) (x4 : Sl ByteArray) (x5 : Sl T164) (x6 : Int) (x7 : ByteArray) (x8 : ByteArray) (x9 : ByteArray) (x10 : Int) : Int := (bif (g102_p1 x0 x1 x2 x3 x4 x5) then (bif ((g102_m3 x6 x7 x8 x9 x10) != 0) then (g102_m3 x6 x7 x8 x9 x10) else 0) else (g74 x0 x1 x2 x3 x4 x5))
end Go.Proofs.YtchhfojblmceiaaGreat
/-
  Walks: what functions of the program answer, as functions.
-/
namespace Go.Proofs.YtchhfojblmceiaaGreat
open Go Go.Vc Go.RowKit
set_option maxRecDepth 100000
set_option maxHeartbeats 4000000
noncomputable def g31_m1 (x0 : Int) (x1 : ByteArray) (x2 : Int) (x3 : Sl T160) (x4 : Sl ByteArray) (x5 : Sl T164) (x6 : Int) (x7 : ByteArray) (x8 : ByteArray) (x9 : ByteArray) (x10 : Int) : Bool := (bif ((g101_2 (g73_0 x0) (g73_1 x1) (g73_2 x2) (g73_3 x3) (g73_4 x4) (g73_5 x5) x6 x7 x8 x9 x10) == (g102_2 x0 x1 x2 x3 x4 x5 x6 x7 x8 x9 x10)) then (bif (g103 (g101_0_0 (g73_0 x0) (g73_1 x1) (g73_2 x2) (g73_3 x3) (g73_4 x4) (g73_5 x5) x6 x7 x8 x9 x10) (g101_0_1 (g73_0 x0) (g73_1 x1) (g73_2 x2) (g73_3 x3) (g73_4 x4) (g73_5 x5) x6 x7 x8 x9 x10) (g101_0_2 (g73_0 x0) (g73_1 x1) (g73_2 x2) (g73_3 x3) (g73_4 x4) (g73_5 x5) x6 x7 x8 x9 x10) (g101_0_3 (g73_0 x0) (g73_1 x1) (g73_2 x2) (g73_3 x3) (g73_4 x4) (g73_5 x5) x6 x7 x8 x9 x10) (g101_0_4 (g73_0 x0) (g73_1 x1) (g73_2 x2) (g73_3 x3) (g73_4 x4) (g73_5 x5) x6 x7 x8 x9 x10) (g101_0_5 (g73_0 x0) (g73_1 x1) (g73_2 x2) (g73_3 x3) (g73_4 x4) (g73_5 x5) x6 x7 x8 x9 x10) (g102_0_0 x0 x1 x2 x3 x4 x5 x6 x7 x8 x9 x10) (g102_0_1 x0 x1 x2 x3 x4 x5 x6 x7 x8 x9 x10) (g102_0_2 x0 x1 x2 x3 x4 x5 x6 x7 x8 x9 x10) (g102_0_3 x0 x1 x2 x3 x4 x5 x6 x7 x8 x9 x10) (g102_0_4 x0 x1 x2 x3 x4 x5 x6 x7 x8 x9 x10) (g102_0_5 x0 x1 x2 x3 x4 x5 x6 x7 x8 x9 x10)) then (bif (g104 (g101_1_0 (g73_0 x0) (g73_1 x1) (g73_2 x2) (g73_3 x3) (g73_4 x4) (g73_5 x5) x6 x7 x8 x9 x10) (g101_1_1 (g73_0 x0) (g73_1 x1) (g73_2 x2) (g73_3 x3) (g73_4 x4) (g73_5 x5) x6 x7 x8 x9 x10) (g101_1_2 (g73_0 x0) (g73_1 x1) (g73_2 x2) (g73_3 x3) (g73_4 x4) (g73_5 x5) x6 x7 x8 x9 x10) (g101_1_3 (g73_0 x0) (g73_1 x1) (g73_2 x2) (g73_3 x3) (g73_4 x4) (g73_5 x5) x6 x7 x8 x9 x10) (g102_1_0 x0 x1 x2 x3 x4 x5 x6 x7 x8 x9 x10) (g102_1_1 x0 x1 x2 x3 x4 x5 x6 x7 x8 x9 x10) (g102_1_2 x0 x1 x2 x3 x4 x5 x6 x7 x8 x9 x10) (g102_1_3 x0 x1 x2 x3 x4 x5 x6 x7 x8 x9 x10)) then (g103 (g73_0 x0) (g73_1 x1) (g73_2 x2) (g73_3 x3) (g73_4 x4) (g73_5 x5) x0 x1 x2 x3 x4 x5) else false) else false) else false)
noncomputable def g31 (x0 : Int) (x1 : ByteArray) (x2 : Int) (x3 : Sl T160) (x4 : Sl ByteArray) (x5 : Sl T164) (x6 : Int) (x7 : ByteArray) (x8 : ByteArray) (x9 : ByteArray) (x10 : Int) : Bool := (g31_m1 x0 x1 x2 x3 x4 x5 x6 x7 x8 x9 x10)
end Go.Proofs.YtchhfojblmceiaaGreat
/-
  What the reference's loops over sorted lists come to.
-/
namespace Go.Proofs.YtchhfojblmceiaaGreat
open Go Go.Vc Go.RowKit
set_option maxRecDepth 100000
set_option maxHeartbeats 4000000
section
variable {α β : Type}
end
def Rise (n : Nat) (key : Nat → ByteArray) : Prop := ∀ i j, i < j → j < n → Op.bytesLess (key i).toList (key j).toList = true
structure Spot (n : Nat) (key : Nat → ByteArray) (k : ByteArray) (t : Nat) : Prop where
  le : t ≤ n
  lt : ∀ m, m < n → Op.bytesLess (key m).toList k.toList = decide (m < t)
  ne : ∀ m, m < n → m ≠ t → ((key m).toList == k.toList) = false
theorem spot {n : Nat} {key : Nat → ByteArray} (h : Rise n key) (k : ByteArray) : ∃ t, Spot n key k t := by
  obtain ⟨t, h1, h2⟩ := cutAt (fun m => Op.bytesLess (key m).toList k.toList) n fun i j a b c => less_trans (h i j a b) c
  refine ⟨t, h1, h2, fun m hm hne => beq_eq_false_iff_ne.2 fun e => ?_⟩
  have g := h2 m hm
  simp only [e, less_irr] at g
  have g := of_decide_eq_false g.symm
  have g2 := h2 t (by omega)
  have g3 := h t m (by omega) hm
  rw [e] at g3
  simp only [g3] at g2
  have := of_decide_eq_true g2.symm
  omega
end Go.Proofs.YtchhfojblmceiaaGreat
/-
  Hash and set: the reference's loops against the search.
-/
namespace Go.Proofs.YtchhfojblmceiaaGreat
open Go Go.Vc Go.RowKit
set_option maxRecDepth 100000
set_option maxHeartbeats 4000000
section
variable {α β : Type}
end
theorem B_some {α : Type} (s : Sl α) (t : Nat) : s.B[t]? = if t < s.n then some (s.at' t) else none := by
  by_cases h : t < s.n
  · rw [if_pos h, B_get s h]
  · rw [if_neg h]; exact List.getElem?_eq_none (by rw [B_len]; omega)
end Go.Proofs.YtchhfojblmceiaaGreat
/-
  Walks: what functions of the program answer, as functions.
-/
namespace Go.Proofs.YtchhfojblmceiaaGreat
open Go Go.Vc Go.RowKit
set_option maxRecDepth 100000
set_option maxHeartbeats 4000000
noncomputable def g153_m1 (x0 : Int) : Bool := (bif (decide (x0 ≥ 1)) then (decide (x0 ≤ 1048576)) else false)
noncomputable def g153 (x0 : Int) : Bool := (g153_m1 x0)
noncomputable def F153 : Fq := ⟨[.v kI], fun x0 => ⟨⟨none, .bool (g153 x0)⟩⟩⟩
theorem pc153 : FnOk Tryz.prog 66 F153.sh _ (F153.sh.flatMap Sh.bs) F153.f [] :=
  fun (x0 : Int) => pure_of_exec (X := X0) (R := ⟨.pure, [.tmp 2], [(.t 0, kB)], ⟨[U], []⟩⟩) (h := (.s .z (.j ⟨4, [], [(.t 2, kB)], [], .f⟩ .z .z))) (ms := []) (p := True) X0_ok Tryz.func66 rfl rfl (by kernel_rfl) (trivial)
theorem k153 : XOk Tryz.prog 66 F153.ans := Fq.ok ⟨_, _, Tryz.func66, rfl, by kernel_rfl⟩ pc153
noncomputable def g87_m1 (x0 : Int) (x1 : Int) : Bool := (bif (!(g153 x0)) then true else (!(g153 x1)))
noncomputable def g87 (x0 : Int) (x1 : Int) (x2 : Int) (x3 : Sl T175) (x4 : Int) (x5 : Sl T137) : Int := (bif (g87_m1 x0 x1) then 2 else (g84 x2 x3 x4 x5))
noncomputable def F87 : Fq := ⟨[.g [kI, kI, kI, .sl E175, kI, .sl E137]], fun x0 x1 x2 x3 x4 x5 => ⟨⟨none, .int .i64 (g87 x0 x1 x2 x3 x4 x5)⟩⟩⟩
theorem pc87 : FnOk Tryz.prog 68 F87.sh _ (F87.sh.flatMap Sh.bs) F87.f [] :=
  fun (x0 : Int) (x1 : Int) (x2 : Int) x3 _ _ (x4 : Int) x5 _ _ => pure_of_exec (X := (mkX [(73, F84.ans), (66, F153.ans)])) (R := ⟨.pure, [.tmp 2], [(.t 0, kI)], ⟨[U], []⟩⟩) (h := (.s .z (.s (.j ⟨4102, [], [(.t 12, kB)], [], .f⟩ .z .z) .z))) (ms := []) (p := True) (mkX_ok ⟨k84, k153, trivial⟩) Tryz.func68 rfl rfl (by kernel_rfl) (trivial)
theorem k87 : XOk Tryz.prog 68 F87.ans := Fq.ok ⟨_, _, Tryz.func68, rfl, by kernel_rfl⟩ pc87
noncomputable def g88_0 (x0 : Int) : Int := x0
noncomputable def g88_1 (x1 : Int) : Int := x1
noncomputable def g88_2 (x2 : Int) : Int := (g85_0 x2)
noncomputable def g88_3 (x3 : Sl T175) : Sl T175 := (g85_1 x3)
noncomputable def g88_4 (x4 : Int) : Int := (g85_2 x4)
noncomputable def g88_5 (x5 : Sl T137) : Sl T137 := (g85_3 x5)
noncomputable def F88 : Fq := ⟨[.g [kI, kI, kI, .sl E175, kI, .sl E137]], fun x0 x1 x2 x3 x4 x5 => ⟨⟨none, .agg [.int .i64 (g88_0 x0), .int .i64 (g88_1 x1), .int .i64 (g88_2 x2), ofSl 8 e175 (g88_3 x3), .int .i64 (g88_4 x4), ofSl 7 e137 (g88_5 x5)]⟩⟩⟩
theorem pc88 : FnOk Tryz.prog 63 F88.sh _ (F88.sh.flatMap Sh.bs) F88.f [] :=
  fun (x0 : Int) (x1 : Int) (x2 : Int) x3 _ _ (x4 : Int) x5 _ _ => pure_of_exec (X := (mkX [(42, F85.ans)])) (R := ⟨.pure, [.cell 2 41], [(.c 0 0, kI), (.c 0 1, kI), (.c 0 2, kI), (.c 0 3, .sl E175), (.c 0 4, kI), (.c 0 5, .sl E137)], ⟨[.agg (us 6 [])], []⟩⟩) (h := .z) (ms := []) (p := True) (mkX_ok ⟨k85, trivial⟩) Tryz.func63 rfl rfl (by kernel_rfl) (trivial)
theorem k88 : XOk Tryz.prog 63 F88.ans := Fq.ok ⟨_, _, Tryz.func63, rfl, by kernel_rfl⟩ pc88
noncomputable def g89_m1 (x0 : Int) (x1 : Int) : Bool := (bif (!(g120 x0)) then true else (!(g120 x1)))
noncomputable def g89 (x0 : Int) (x1 : Int) (x2 : Int) (x3 : Sl T175) (x4 : Int) (x5 : Sl T137) : Int := (bif (g89_m1 x0 x1) then 2 else (g86 x2 x3 x4 x5))
noncomputable def F89 : Fq := ⟨[.g [kI, kI, kI, .sl E175, kI, .sl E137]], fun x0 x1 x2 x3 x4 x5 => ⟨⟨none, .int .i64 (g89 x0 x1 x2 x3 x4 x5)⟩⟩⟩
theorem pc89 : FnOk Tryz.prog 90 F89.sh _ (F89.sh.flatMap Sh.bs) F89.f [] :=
  fun (x0 : Int) (x1 : Int) (x2 : Int) x3 _ _ (x4 : Int) x5 _ _ => pure_of_exec (X := (mkX [(125, F86.ans), (91, F120.ans)])) (R := ⟨.pure, [.tmp 2], [(.t 0, kI)], ⟨[U], []⟩⟩) (h := (.s .z (.s (.j ⟨4102, [], [(.t 12, kB)], [], .f⟩ .z .z) .z))) (ms := []) (p := True) (mkX_ok ⟨k86, k120, trivial⟩) Tryz.func90 rfl rfl (by kernel_rfl) (trivial)
theorem k89 : XOk Tryz.prog 90 F89.ans := Fq.ok ⟨_, _, Tryz.func90, rfl, by kernel_rfl⟩ pc89
end Go.Proofs.YtchhfojblmceiaaGreat
/-
  Walks: what functions of the program answer, as functions.
-/
namespace Go.Proofs.YtchhfojblmceiaaGreat
open Go Go.Vc Go.RowKit
set_option maxRecDepth 100000
set_option maxHeartbeats 4000000
noncomputable def g175_m1 (x0 : Int) (x1 : Int) (x2 : Int) (x3 : Sl T175) (x4 : Int) (x5 : Sl T137) : Bool := (bif (x0 == 0) then (bif (x1 == 0) then (bif (x4 == 0) then (bif ((x5.n : Int) == 0) then (bif (x2 == 0) then ((x3.n : Int) == 0) else false) else false) else false) else false) else false)
noncomputable def g175 (x0 : Int) (x1 : Int) (x2 : Int) (x3 : Sl T175) (x4 : Int) (x5 : Sl T137) : Bool := (g175_m1 x0 x1 x2 x3 x4 x5)
noncomputable def F175 : Fq := ⟨[.g [kI, kI, kI, .sl E175, kI, .sl E137]], fun x0 x1 x2 x3 x4 x5 => ⟨⟨none, .bool (g175 x0 x1 x2 x3 x4 x5)⟩⟩⟩
theorem pc175 : FnOk Tryz.prog 65 F175.sh _ (F175.sh.flatMap Sh.bs) F175.f [] :=
  fun (x0 : Int) (x1 : Int) (x2 : Int) x3 _ _ (x4 : Int) x5 _ _ => pure_of_exec (X := X0) (R := ⟨.pure, [.tmp 2], [(.t 0, kB)], ⟨[U], []⟩⟩) (h := (.s .z (.s .z (.j ⟨4, [.b 0, .b 1], [(.t 2, kB)], [], .f⟩ .z .z)))) (ms := []) (p := True) X0_ok Tryz.func65 rfl rfl (by kernel_rfl) (trivial)
theorem k175 : XOk Tryz.prog 65 F175.ans := Fq.ok ⟨_, _, Tryz.func65, rfl, by kernel_rfl⟩ pc175
noncomputable def g176_m1 (x0 : Int) (x1 : Int) (x2 : Int) (x3 : Sl T175) (x4 : Int) (x5 : Sl T137) : Bool := (bif (x0 == 0) then (bif (x1 == 0) then (bif (x4 == 0) then (bif (x2 == 0) then (bif ((x3.n : Int) == 0) then ((x5.n : Int) == 0) else false) else false) else false) else false) else false)
noncomputable def g176 (x0 : Int) (x1 : Int) (x2 : Int) (x3 : Sl T175) (x4 : Int) (x5 : Sl T137) : Bool := (g176_m1 x0 x1 x2 x3 x4 x5)
noncomputable def F176 : Fq := ⟨[.g [kI, kI, kI, .sl E175, kI, .sl E137]], fun x0 x1 x2 x3 x4 x5 => ⟨⟨none, .bool (g176 x0 x1 x2 x3 x4 x5)⟩⟩⟩
theorem pc176 : FnOk Tryz.prog 89 F176.sh _ (F176.sh.flatMap Sh.bs) F176.f [] :=
  fun (x0 : Int) (x1 : Int) (x2 : Int) x3 _ _ (x4 : Int) x5 _ _ => pure_of_exec (X := X0) (R := ⟨.pure, [.tmp 2], [(.t 0, kB)], ⟨[U], []⟩⟩) (h := (.s .z (.j ⟨4, [.b 0], [(.t 2, kB)], [], .f⟩ .z .z))) (ms := []) (p := True) X0_ok Tryz.func89 rfl rfl (by kernel_rfl) (trivial)
theorem k176 : XOk Tryz.prog 89 F176.ans := Fq.ok ⟨_, _, Tryz.func89, rfl, by kernel_rfl⟩ pc176
noncomputable def g94_m1 (x0 : Int) : Bool := (bif (decide (x0 < 1)) then true else (decide (x0 > 3)))
noncomputable def g94_m2 (x0 : Int) (x1 : Int) (x2 : Int) (x3 : Int) (x4 : Int) (x5 : Int) (x6 : Bool) (x7 : Int) (x8 : Int) (x9 : Int) (x10 : ByteArray) (x11 : ByteArray) (x12 : ByteArray) (x13 : Int) (x14 : Int) (x15 : Int) (x16 : Int) (x17 : Sl T175) (x18 : Int) (x19 : Sl T137) : Bool := (bif (x0 != 1) then (bif (x1 != 0) then true else (bif (x2 != 0) then true else (bif (x0 != 2) then (bif (x3 != 0) then true else (bif (!((x4 == 0) && ((x5 == 0) && ((x6 == false) && ((x7 == 0) && ((x8 == 0) && ((x9 == 0) && (((x10 : ByteArray).toList == (⟨#[]⟩ : ByteArray).toList) && (((x11 : ByteArray).toList == (⟨#[]⟩ : ByteArray).toList) && (((x12 : ByteArray).toList == (⟨#[]⟩ : ByteArray).toList) && ((x13 == 0) && true))))))))))) then true else (bif (x0 != 3) then (!(g175 x14 x15 x16 x17 x18 x19)) else false))) else (bif (x0 != 3) then (!(g175 x14 x15 x16 x17 x18 x19)) else false)))) else (bif (x0 != 2) then (bif (x3 != 0) then true else (bif (!((x4 == 0) && ((x5 == 0) && ((x6 == false) && ((x7 == 0) && ((x8 == 0) && ((x9 == 0) && (((x10 : ByteArray).toList == (⟨#[]⟩ : ByteArray).toList) && (((x11 : ByteArray).toList == (⟨#[]⟩ : ByteArray).toList) && (((x12 : ByteArray).toList == (⟨#[]⟩ : ByteArray).toList) && ((x13 == 0) && true))))))))))) then true else (bif (x0 != 3) then (!(g175 x14 x15 x16 x17 x18 x19)) else false))) else (bif (x0 != 3) then (!(g175 x14 x15 x16 x17 x18 x19)) else false)))
noncomputable def g94_m3 (x1 : Int) (x2 : Int) : Bool := (bif (!(g153 x1)) then true else (bif (decide (x2 < (-1))) then true else (decide (x2 ≥ 3))))
noncomputable def g94 (x0 : Int) (x1 : Int) (x2 : Int) (x3 : Int) (x4 : Int) (x5 : Int) (x6 : Bool) (x7 : Int) (x8 : Int) (x9 : Int) (x10 : ByteArray) (x11 : ByteArray) (x12 : ByteArray) (x13 : Int) (x14 : Int) (x15 : Int) (x16 : Int) (x17 : Sl T175) (x18 : Int) (x19 : Sl T137) : Int := (bif (g94_m1 x0) then 3 else (bif (g94_m2 x0 x1 x2 x3 x4 x5 x6 x7 x8 x9 x10 x11 x12 x13 x14 x15 x16 x17 x18 x19) then 8 else (bif (x0 == 1) then (bif (g94_m3 x1 x2) then 2 else 0) else (bif (x0 == 2) then (bif (!(g153 x3)) then 2 else (g51 x4 x5 x6 x7 x8 x9 x10 x11 x12 x13)) else (g87 x14 x15 x16 x17 x18 x19)))))
noncomputable def F94 : Fq := ⟨[.g [kI, kI, kI, kI, kI, kI, kB, kI, kI, kI, kS, kS, kS, kI, kI, kI, kI, .sl E175, kI, .sl E137]], fun x0 x1 x2 x3 x4 x5 x6 x7 x8 x9 x10 x11 x12 x13 x14 x15 x16 x17 x18 x19 => ⟨⟨none, .int .i64 (g94 x0 x1 x2 x3 x4 x5 x6 x7 x8 x9 x10 x11 x12 x13 x14 x15 x16 x17 x18 x19)⟩⟩⟩
theorem pc94 : FnOk Tryz.prog 31 F94.sh _ (F94.sh.flatMap Sh.bs) F94.f [] :=
  fun (x0 : Int) (x1 : Int) (x2 : Int) (x3 : Int) (x4 : Int) (x5 : Int) x6 (x7 : Int) (x8 : Int) (x9 : Int) x10 _ x11 _ x12 _ (x13 : Int) (x14 : Int) (x15 : Int) (x16 : Int) x17 _ _ (x18 : Int) x19 _ _ => pure_of_exec (X := (mkX [(67, F51.ans), (68, F87.ans), (66, F153.ans), (65, F175.ans)])) (R := ⟨.pure, [.tmp 2], [(.t 0, kI)], ⟨[U], []⟩⟩) (h := (.s .z (.s (.j ⟨2054, [], [(.t 11, kB)], [], .f⟩ .z .z) (.s .z (.s (.j ⟨4503599627370502, [.b 1], [(.t 52, kB)], [], .f⟩ .z .z) (.s (.s .z (.s .z (.s (.s (.j ⟨1180591620717411303430, [], [(.t 70, kB)], [], .f⟩ .z .z) .z) .z))) .z)))))) (ms := []) (p := True) (mkX_ok ⟨k51, k87, k153, k175, trivial⟩) Tryz.func31 rfl rfl (by kernel_rfl) (trivial)
theorem k94 : XOk Tryz.prog 31 F94.ans := Fq.ok ⟨_, _, Tryz.func31, rfl, by kernel_rfl⟩ pc94
noncomputable def g95_0 (x0 : Int) : Int := x0
noncomputable def g95_1 (x1 : Int) : Int := x1
noncomputable def g95_2 (x2 : Int) : Int := x2
noncomputable def g95_3 (x3 : Int) : Int := x3
noncomputable def g95_4 (x4 : Int) : Int := x4
noncomputable def g95_5 (x5 : Int) : Int := x5
noncomputable def g95_6 (x6 : Bool) : Bool := x6
noncomputable def g95_7 (x7 : Int) : Int := x7
noncomputable def g95_8 (x8 : Int) : Int := x8
noncomputable def g95_9 (x9 : Int) : Int := x9
noncomputable def g95_10 (x10 : ByteArray) : ByteArray := x10
noncomputable def g95_11 (x11 : ByteArray) : ByteArray := x11
noncomputable def g95_12 (x12 : ByteArray) : ByteArray := x12
noncomputable def g95_13 (x13 : Int) : Int := x13
noncomputable def g95_14 (x14 : Int) : Int := (g88_0 x14)
noncomputable def g95_15 (x15 : Int) : Int := (g88_1 x15)
noncomputable def g95_16 (x16 : Int) : Int := (g88_2 x16)
noncomputable def g95_17 (x17 : Sl T175) : Sl T175 := (g88_3 x17)
noncomputable def g95_18 (x18 : Int) : Int := (g88_4 x18)
noncomputable def g95_19 (x19 : Sl T137) : Sl T137 := (g88_5 x19)
noncomputable def F95 : Fq := ⟨[.g [kI, kI, kI, kI, kI, kI, kB, kI, kI, kI, kS, kS, kS, kI, kI, kI, kI, .sl E175, kI, .sl E137]], fun x0 x1 x2 x3 x4 x5 x6 x7 x8 x9 x10 x11 x12 x13 x14 x15 x16 x17 x18 x19 => ⟨⟨none, .agg [.int .i64 (g95_0 x0), .int .i64 (g95_1 x1), .int .i64 (g95_2 x2), .int .i64 (g95_3 x3), .int .i64 (g95_4 x4), .int .i64 (g95_5 x5), .bool (g95_6 x6), .int .i64 (g95_7 x7), .int .i64 (g95_8 x8), .int .i64 (g95_9 x9), .str (g95_10 x10), .str (g95_11 x11), .str (g95_12 x12), .int .i64 (g95_13 x13), .int .i64 (g95_14 x14), .int .i64 (g95_15 x15), .int .i64 (g95_16 x16), ofSl 8 e175 (g95_17 x17), .int .i64 (g95_18 x18), ofSl 7 e137 (g95_19 x19)]⟩⟩⟩
theorem pc95 : FnOk Tryz.prog 29 F95.sh _ (F95.sh.flatMap Sh.bs) F95.f [] :=
  fun (x0 : Int) (x1 : Int) (x2 : Int) (x3 : Int) (x4 : Int) (x5 : Int) x6 (x7 : Int) (x8 : Int) (x9 : Int) x10 _ x11 _ x12 _ (x13 : Int) (x14 : Int) (x15 : Int) (x16 : Int) x17 _ _ (x18 : Int) x19 _ _ => pure_of_exec (X := (mkX [(63, F88.ans)])) (R := ⟨.pure, [.cell 2 71], [(.c 0 0, kI), (.c 0 1, kI), (.c 0 2, kI), (.c 0 3, kI), (.c 0 4, kI), (.c 0 5, kI), (.c 0 6, kB), (.c 0 7, kI), (.c 0 8, kI), (.c 0 9, kI), (.c 0 10, kS), (.c 0 11, kS), (.c 0 12, kS), (.c 0 13, kI), (.c 0 14, kI), (.c 0 15, kI), (.c 0 16, kI), (.c 0 17, .sl E175), (.c 0 18, kI), (.c 0 19, .sl E137)], ⟨[.agg (us 20 [])], []⟩⟩) (h := .z) (ms := []) (p := True) (mkX_ok ⟨k88, trivial⟩) Tryz.func29 rfl rfl (by kernel_rfl) (trivial)
theorem k95 : XOk Tryz.prog 29 F95.ans := Fq.ok ⟨_, _, Tryz.func29, rfl, by kernel_rfl⟩ pc95
noncomputable def g96_m1 (x0 : Int) (x1 : Int) (x2 : Int) (x3 : Int) (x4 : Int) (x5 : Int) (x6 : Bool) (x7 : Int) (x8 : Int) (x9 : Int) (x10 : ByteArray) (x11 : ByteArray) (x12 : ByteArray) (x13 : Int) (x14 : Int) (x15 : Int) (x16 : Int) (x17 : Sl T175) (x18 : Int) (x19 : Sl T137) : Bool := (bif (x0 != 1) then (bif (x1 != 0) then true else (bif (x2 != 0) then true else (bif (x0 != 2) then (bif (x3 != 0) then true else (bif (!((x4 == 0) && ((x5 == 0) && ((x6 == false) && ((x7 == 0) && ((x8 == 0) && ((x9 == 0) && (((x10 : ByteArray).toList == (⟨#[]⟩ : ByteArray).toList) && (((x11 : ByteArray).toList == (⟨#[]⟩ : ByteArray).toList) && (((x12 : ByteArray).toList == (⟨#[]⟩ : ByteArray).toList) && ((x13 == 0) && true))))))))))) then true else (bif (x0 != 3) then (!(g176 x14 x15 x16 x17 x18 x19)) else false))) else (bif (x0 != 3) then (!(g176 x14 x15 x16 x17 x18 x19)) else false)))) else (bif (x0 != 2) then (bif (x3 != 0) then true else (bif (!((x4 == 0) && ((x5 == 0) && ((x6 == false) && ((x7 == 0) && ((x8 == 0) && ((x9 == 0) && (((x10 : ByteArray).toList == (⟨#[]⟩ : ByteArray).toList) && (((x11 : ByteArray).toList == (⟨#[]⟩ : ByteArray).toList) && (((x12 : ByteArray).toList == (⟨#[]⟩ : ByteArray).toList) && ((x13 == 0) && true))))))))))) then true else (bif (x0 != 3) then (!(g176 x14 x15 x16 x17 x18 x19)) else false))) else (bif (x0 != 3) then (!(g176 x14 x15 x16 x17 x18 x19)) else false)))
noncomputable def g96_m2 (x1 : Int) (x2 : Int) : Bool := (bif (!(g120 x1)) then true else (!(g112 x2 (-1) 2)))
noncomputable def g96 (x0 : Int) (x1 : Int) (x2 : Int) (x3 : Int) (x4 : Int) (x5 : Int) (x6 : Bool) (x7 : Int) (x8 : Int) (x9 : Int) (x10 : ByteArray) (x11 : ByteArray) (x12 : ByteArray) (x13 : Int) (x14 : Int) (x15 : Int) (x16 : Int) (x17 : Sl T175) (x18 : Int) (x19 : Sl T137) : Int := (bif (!(g112 x0 1 3)) then 3 else (bif (g96_m1 x0 x1 x2 x3 x4 x5 x6 x7 x8 x9 x10 x11 x12 x13 x14 x15 x16 x17 x18 x19) then 8 else (bif (x0 == 3) then (g89 x14 x15 x16 x17 x18 x19) else (bif (x0 == 1) then (bif (g96_m2 x1 x2) then 2 else 0) else (bif (!(g120 x3)) then 2 else (g52 x4 x5 x6 x7 x8 x9 x10 x11 x12 x13))))))
noncomputable def F96 : Fq := ⟨[.g [kI, kI, kI, kI, kI, kI, kB, kI, kI, kI, kS, kS, kS, kI, kI, kI, kI, .sl E175, kI, .sl E137]], fun x0 x1 x2 x3 x4 x5 x6 x7 x8 x9 x10 x11 x12 x13 x14 x15 x16 x17 x18 x19 => ⟨⟨none, .int .i64 (g96 x0 x1 x2 x3 x4 x5 x6 x7 x8 x9 x10 x11 x12 x13 x14 x15 x16 x17 x18 x19)⟩⟩⟩
theorem pc96 : FnOk Tryz.prog 38 F96.sh _ (F96.sh.flatMap Sh.bs) F96.f [] :=
  fun (x0 : Int) (x1 : Int) (x2 : Int) (x3 : Int) (x4 : Int) (x5 : Int) x6 (x7 : Int) (x8 : Int) (x9 : Int) x10 _ x11 _ x12 _ (x13 : Int) (x14 : Int) (x15 : Int) (x16 : Int) x17 _ _ (x18 : Int) x19 _ _ => pure_of_exec (X := (mkX [(92, F52.ans), (90, F89.ans), (54, F112.ans), (91, F120.ans), (89, F176.ans)])) (R := ⟨.pure, [.tmp 2], [(.t 0, kI)], ⟨[U], []⟩⟩) (h := (.s .z (.s .z (.s (.j ⟨70368744177670, [], [(.t 46, kB)], [], .f⟩ .z .z) (.s .z (.s (.s .z (.s (.s (.j ⟨36893488147419103238, [], [(.t 65, kB)], [], .f⟩ .z .z) .z) .z)) .z)))))) (ms := []) (p := True) (mkX_ok ⟨k52, k89, k112, k120, k176, trivial⟩) Tryz.func38 rfl rfl (by kernel_rfl) (trivial)
theorem k96 : XOk Tryz.prog 38 F96.ans := Fq.ok ⟨_, _, Tryz.func38, rfl, by kernel_rfl⟩ pc96
end Go.Proofs.YtchhfojblmceiaaGreat
