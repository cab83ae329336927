/-
  Walks: what functions of the program answer, as functions.
-/
import Derived.Test.YtchhfojblmceiaaGreatCl
import Derived.Test.YtchhfojblmceiaaGreatEc
import Derived.Test.YtchhfojblmceiaaGreatGA
import Derived.Test.YtchhfojblmceiaaGreatGB
import Derived.Test.YtchhfojblmceiaaGreatGE
import Derived.Test.YtchhfojblmceiaaGreatGD
import Derived.Test.YtchhfojblmceiaaGreatGC
namespace Go.Proofs.YtchhfojblmceiaaGreat
open Go Go.Vc Go.RowKit
set_option maxRecDepth 100000
set_option maxHeartbeats 4000000
theorem u8part {s : Sl Int} {l h : Int} (hs : U8 s) : U8 (Sl.part s l h) := fun i => hs _
noncomputable def g106_m1 (x0 : Int) (x1 : Int) (x2 : Int) (x3 : Sl T175) (x4 : Int) (x5 : Sl T137) (x6 : Int) (x7 : Int) (x8 : Int) (x9 : Sl T175) (x10 : Int) (x11 : Sl T137) : Bool := (bif (x0 == x6) then (bif (x1 == x7) then (g34 x2 x3 x4 x5 x8 x9 x10 x11) else false) else false)
noncomputable def g106 (x0 : Int) (x1 : Int) (x2 : Int) (x3 : Sl T175) (x4 : Int) (x5 : Sl T137) (x6 : Int) (x7 : Int) (x8 : Int) (x9 : Sl T175) (x10 : Int) (x11 : Sl T137) : Bool := (g106_m1 x0 x1 x2 x3 x4 x5 x6 x7 x8 x9 x10 x11)
noncomputable def F106 : Fq := ⟨[.g [kI, kI, kI, .sl E175, kI, .sl E137], .g [kI, kI, kI, .sl E175, kI, .sl E137]], fun x0 x1 x2 x3 x4 x5 x6 x7 x8 x9 x10 x11 => ⟨⟨none, .bool (g106 x0 x1 x2 x3 x4 x5 x6 x7 x8 x9 x10 x11)⟩⟩⟩
theorem pc106 : FnOk Tryz.prog 44 F106.sh _ (F106.sh.flatMap Sh.bs) F106.f [] :=
  fun (x0 : Int) (x1 : Int) (x2 : Int) x3 _ _ (x4 : Int) x5 _ _ (x6 : Int) (x7 : Int) (x8 : Int) x9 _ _ (x10 : Int) x11 _ _ => pure_of_exec (X := (mkX [(96, F34.ans)])) (R := ⟨.pure, [.tmp 4], [(.t 0, kB)], ⟨[U], []⟩⟩) (h := (.s .z (.j ⟨16, [.b 0, .b 1], [(.t 4, kB)], [], .f⟩ .z .z))) (ms := []) (p := True) (mkX_ok ⟨k34, trivial⟩) Tryz.func44 rfl rfl (by kernel_rfl) (trivial)
theorem k106 : XOk Tryz.prog 44 F106.ans := Fq.ok ⟨_, _, Tryz.func44, rfl, by kernel_rfl⟩ pc106
noncomputable def g1028_m1 (x0 : Int) (x1 : Int) (x2 : Int) (x3 : Int) (x4 : Int) (x5 : Int) (x6 : Bool) (x7 : Int) (x8 : Int) (x9 : Int) (x10 : ByteArray) (x11 : ByteArray) (x12 : ByteArray) (x13 : Int) (x14 : Int) (x15 : Int) (x16 : Int) (x17 : Sl T175) (x18 : Int) (x19 : Sl T137) (x20 : Int) (x21 : Int) (x22 : Int) (x23 : Int) (x24 : Int) (x25 : Int) (x26 : Bool) (x27 : Int) (x28 : Int) (x29 : Int) (x30 : ByteArray) (x31 : ByteArray) (x32 : ByteArray) (x33 : Int) (x34 : Int) (x35 : Int) (x36 : Int) (x37 : Sl T175) (x38 : Int) (x39 : Sl T137) : Bool := (bif (x0 == x20) then (bif (x1 == x21) then (bif (x2 == x22) then (bif (x3 == x23) then (bif ((x4 == x24) && ((x5 == x25) && ((x6 == x26) && ((x7 == x27) && ((x8 == x28) && ((x9 == x29) && (((x10 : ByteArray).toList == (x30 : ByteArray).toList) && (((x11 : ByteArray).toList == (x31 : ByteArray).toList) && (((x12 : ByteArray).toList == (x32 : ByteArray).toList) && ((x13 == x33) && true)))))))))) then (g106 x14 x15 x16 x17 x18 x19 x34 x35 x36 x37 x38 x39) else false) else false) else false) else false) else false)
noncomputable def g1028 (x0 : Int) (x1 : Int) (x2 : Int) (x3 : Int) (x4 : Int) (x5 : Int) (x6 : Bool) (x7 : Int) (x8 : Int) (x9 : Int) (x10 : ByteArray) (x11 : ByteArray) (x12 : ByteArray) (x13 : Int) (x14 : Int) (x15 : Int) (x16 : Int) (x17 : Sl T175) (x18 : Int) (x19 : Sl T137) (x20 : Int) (x21 : Int) (x22 : Int) (x23 : Int) (x24 : Int) (x25 : Int) (x26 : Bool) (x27 : Int) (x28 : Int) (x29 : Int) (x30 : ByteArray) (x31 : ByteArray) (x32 : ByteArray) (x33 : Int) (x34 : Int) (x35 : Int) (x36 : Int) (x37 : Sl T175) (x38 : Int) (x39 : Sl T137) : Bool := (g1028_m1 x0 x1 x2 x3 x4 x5 x6 x7 x8 x9 x10 x11 x12 x13 x14 x15 x16 x17 x18 x19 x20 x21 x22 x23 x24 x25 x26 x27 x28 x29 x30 x31 x32 x33 x34 x35 x36 x37 x38 x39)
noncomputable def F1028 : Fq := ⟨[.g [kI, kI, kI, kI, kI, kI, kB, kI, kI, kI, kS, kS, kS, kI, kI, kI, kI, .sl E175, kI, .sl E137], .g [kI, kI, kI, kI, kI, kI, kB, kI, kI, kI, kS, kS, kS, kI, kI, kI, kI, .sl E175, kI, .sl E137]], fun x0 x1 x2 x3 x4 x5 x6 x7 x8 x9 x10 x11 x12 x13 x14 x15 x16 x17 x18 x19 x20 x21 x22 x23 x24 x25 x26 x27 x28 x29 x30 x31 x32 x33 x34 x35 x36 x37 x38 x39 => ⟨⟨none, .bool (g1028 x0 x1 x2 x3 x4 x5 x6 x7 x8 x9 x10 x11 x12 x13 x14 x15 x16 x17 x18 x19 x20 x21 x22 x23 x24 x25 x26 x27 x28 x29 x30 x31 x32 x33 x34 x35 x36 x37 x38 x39)⟩⟩⟩
theorem pc1028 : FnOk Tryz.prog 28 F1028.sh _ (F1028.sh.flatMap Sh.bs) F1028.f [] :=
  fun (x0 : Int) (x1 : Int) (x2 : Int) (x3 : Int) (x4 : Int) (x5 : Int) x6 (x7 : Int) (x8 : Int) (x9 : Int) x10 _ x11 _ x12 _ (x13 : Int) (x14 : Int) (x15 : Int) (x16 : Int) x17 _ _ (x18 : Int) x19 _ _ (x20 : Int) (x21 : Int) (x22 : Int) (x23 : Int) (x24 : Int) (x25 : Int) x26 (x27 : Int) (x28 : Int) (x29 : Int) x30 _ x31 _ x32 _ (x33 : Int) (x34 : Int) (x35 : Int) (x36 : Int) x37 _ _ (x38 : Int) x39 _ _ => pure_of_exec (X := (mkX [(44, F106.ans)])) (R := ⟨.pure, [.tmp 4], [(.t 0, kB)], ⟨[U], []⟩⟩) (h := (.s .z (.j ⟨16, [.b 0, .b 1], [(.t 4, kB)], [], .f⟩ .z .z))) (ms := []) (p := True) (mkX_ok ⟨k106, trivial⟩) Tryz.func28 rfl rfl (by kernel_rfl) (trivial)
theorem k1028 : XOk Tryz.prog 28 F1028.ans := Fq.ok ⟨_, _, Tryz.func28, rfl, by kernel_rfl⟩ pc1028
noncomputable def g1009_l2 (x0 : Sl T122) (x1 : Sl T122) : Nat → Int → Bool × Bool
  | 0, _ => default
  | k + 1, v2_0 => (bif (decide (v2_0 < (x0.n : Int))) then (bif (!(g1028 (x0.at' (Int.toNat v2_0)).c0 (x0.at' (Int.toNat v2_0)).c1 (x0.at' (Int.toNat v2_0)).c2 (x0.at' (Int.toNat v2_0)).c3 (x0.at' (Int.toNat v2_0)).c4 (x0.at' (Int.toNat v2_0)).c5 (x0.at' (Int.toNat v2_0)).c6 (x0.at' (Int.toNat v2_0)).c7 (x0.at' (Int.toNat v2_0)).c8 (x0.at' (Int.toNat v2_0)).c9 (x0.at' (Int.toNat v2_0)).c10 (x0.at' (Int.toNat v2_0)).c11 (x0.at' (Int.toNat v2_0)).c12 (x0.at' (Int.toNat v2_0)).c13 (x0.at' (Int.toNat v2_0)).c14 (x0.at' (Int.toNat v2_0)).c15 (x0.at' (Int.toNat v2_0)).c16 (x0.at' (Int.toNat v2_0)).c17 (x0.at' (Int.toNat v2_0)).c18 (x0.at' (Int.toNat v2_0)).c19 (x1.at' (Int.toNat v2_0)).c0 (x1.at' (Int.toNat v2_0)).c1 (x1.at' (Int.toNat v2_0)).c2 (x1.at' (Int.toNat v2_0)).c3 (x1.at' (Int.toNat v2_0)).c4 (x1.at' (Int.toNat v2_0)).c5 (x1.at' (Int.toNat v2_0)).c6 (x1.at' (Int.toNat v2_0)).c7 (x1.at' (Int.toNat v2_0)).c8 (x1.at' (Int.toNat v2_0)).c9 (x1.at' (Int.toNat v2_0)).c10 (x1.at' (Int.toNat v2_0)).c11 (x1.at' (Int.toNat v2_0)).c12 (x1.at' (Int.toNat v2_0)).c13 (x1.at' (Int.toNat v2_0)).c14 (x1.at' (Int.toNat v2_0)).c15 (x1.at' (Int.toNat v2_0)).c16 (x1.at' (Int.toNat v2_0)).c17 (x1.at' (Int.toNat v2_0)).c18 (x1.at' (Int.toNat v2_0)).c19)) then (true, false) else (g1009_l2 x0 x1 k (IntKind.i64.wrap (v2_0 + 1)))) else (false, default))
noncomputable def g1009_r1 (x0 : Sl T122) (x1 : Sl T122) : Bool × Bool := g1009_l2 x0 x1 ((Int.toNat ((x0.n : Int) - 0)) + 1) 0
noncomputable def g1009_p2 (x0 : Sl T122) (x1 : Sl T122) : Bool := (bif (g1009_r1 x0 x1).1 then false else true)
noncomputable def g1009 (x0 : Sl T122) (x1 : Sl T122) : Bool := (bif ((x0.n : Int) != (x1.n : Int)) then false else (bif (g1009_p2 x0 x1) then true else (g1009_r1 x0 x1).2))
noncomputable def F1009 : Fq := ⟨[.v (.sl E122), .v (.sl E122)], fun x0 x1 => ⟨⟨none, .bool (g1009 x0 x1)⟩⟩⟩
theorem pc1009 : FnOk Tryz.prog 9 F1009.sh _ (F1009.sh.flatMap Sh.bs) F1009.f [] :=
  fun x0 n0 _ x1 n1 _ => pure_of_exec (X := (mkX [(28, F1028.ans)])) (R := ⟨.pure, [.tmp 4], [(.t 0, kB)], ⟨[U], []⟩⟩) (h := (.s .z (.s .z (.j ⟨16, [], [], [], .f⟩ (.s .z (.lp ⟨51, [], [], [(.t 5, kI)], some 0, true, 16, [], [], fun k (s : Int) => g1009_l2 x0 x1 k s, .f, fun (s : Int) => (0 ≤ s ∧ s ≤ (x0.n : Int)), fun (s : Int) => (Int.toNat ((x0.n : Int) - s)), none⟩ .z)) .z)))) (ms := []) (p := (((x0.n : Int) != (x1.n : Int)) = false → (((0 ≤ (0 : Int) ∧ (0 : Int) ≤ (x0.n : Int))) ∧ (∀ (v2_0 : Int), (0 ≤ v2_0 ∧ v2_0 ≤ (x0.n : Int)) → (((decide (v2_0 < (x0.n : Int))) = true → (((0 : Int) ≤ v2_0 ∧ v2_0 < ((x0.n : Nat) : Int)) ∧ ((0 : Int) ≤ v2_0 ∧ v2_0 < ((x1.n : Nat) : Int)))) ∧ ((decide (v2_0 < (x0.n : Int))) = true → ((!(g1028 (x0.at' (Int.toNat v2_0)).c0 (x0.at' (Int.toNat v2_0)).c1 (x0.at' (Int.toNat v2_0)).c2 (x0.at' (Int.toNat v2_0)).c3 (x0.at' (Int.toNat v2_0)).c4 (x0.at' (Int.toNat v2_0)).c5 (x0.at' (Int.toNat v2_0)).c6 (x0.at' (Int.toNat v2_0)).c7 (x0.at' (Int.toNat v2_0)).c8 (x0.at' (Int.toNat v2_0)).c9 (x0.at' (Int.toNat v2_0)).c10 (x0.at' (Int.toNat v2_0)).c11 (x0.at' (Int.toNat v2_0)).c12 (x0.at' (Int.toNat v2_0)).c13 (x0.at' (Int.toNat v2_0)).c14 (x0.at' (Int.toNat v2_0)).c15 (x0.at' (Int.toNat v2_0)).c16 (x0.at' (Int.toNat v2_0)).c17 (x0.at' (Int.toNat v2_0)).c18 (x0.at' (Int.toNat v2_0)).c19 (x1.at' (Int.toNat v2_0)).c0 (x1.at' (Int.toNat v2_0)).c1 (x1.at' (Int.toNat v2_0)).c2 (x1.at' (Int.toNat v2_0)).c3 (x1.at' (Int.toNat v2_0)).c4 (x1.at' (Int.toNat v2_0)).c5 (x1.at' (Int.toNat v2_0)).c6 (x1.at' (Int.toNat v2_0)).c7 (x1.at' (Int.toNat v2_0)).c8 (x1.at' (Int.toNat v2_0)).c9 (x1.at' (Int.toNat v2_0)).c10 (x1.at' (Int.toNat v2_0)).c11 (x1.at' (Int.toNat v2_0)).c12 (x1.at' (Int.toNat v2_0)).c13 (x1.at' (Int.toNat v2_0)).c14 (x1.at' (Int.toNat v2_0)).c15 (x1.at' (Int.toNat v2_0)).c16 (x1.at' (Int.toNat v2_0)).c17 (x1.at' (Int.toNat v2_0)).c18 (x1.at' (Int.toNat v2_0)).c19)) = false → ((0 ≤ (IntKind.i64.wrap (v2_0 + 1)) ∧ (IntKind.i64.wrap (v2_0 + 1)) ≤ (x0.n : Int)) ∧ (Int.toNat ((x0.n : Int) - (IntKind.i64.wrap (v2_0 + 1)))) < (Int.toNat ((x0.n : Int) - v2_0)))))))))) (mkX_ok ⟨k1028, trivial⟩) Tryz.func9 rfl rfl (by kernel_rfl) ((fun h1 => ⟨(by have := bne_eq_false_iff_eq.1 h1; omega), (fun v2_0 hI2 => ⟨(fun h3 => ⟨(by have := bne_eq_false_iff_eq.1 h1; have := of_decide_eq_true h3; omega), (by have := bne_eq_false_iff_eq.1 h1; have := of_decide_eq_true h3; omega)⟩), (fun h4 => (fun h5 => (by have := bne_eq_false_iff_eq.1 h1; have := of_decide_eq_true h4; first | omega | (have := wrap64 (x := (v2_0 + 1)) (by omega) (by omega); omega))))⟩)⟩))
theorem k1009 : XOk Tryz.prog 9 F1009.ans := Fq.ok ⟨_, _, Tryz.func9, rfl, by kernel_rfl⟩ pc1009
end Go.Proofs.YtchhfojblmceiaaGreat
/-
  Walks: what functions of the program answer, as functions.
-/
namespace Go.Proofs.YtchhfojblmceiaaGreat
open Go Go.Vc Go.RowKit
set_option maxRecDepth 100000
set_option maxHeartbeats 4000000
noncomputable def g32_0 : Int := 0
noncomputable def g32_1 : Sl T175 := (nilSl : Sl T175)
noncomputable def g32_2 : Int := 1
noncomputable def g32_3 : Sl T137 := (nilSl : Sl T137)
noncomputable def F32 : Fq := ⟨[], ⟨⟨none, .agg [.int .i64 g32_0, ofSl 8 e175 g32_1, .int .i64 g32_2, ofSl 7 e137 g32_3]⟩⟩⟩
theorem pc32 : FnOk Tryz.prog 64 F32.sh _ (F32.sh.flatMap Sh.bs) F32.f [] :=
  pure_of_exec (X := X0) (R := ⟨.pure, [.cell 0 39], [(.c 0 0, kI), (.c 0 1, .sl E175), (.c 0 2, kI), (.c 0 3, .sl E137)], ⟨[.agg (us 4 [])], []⟩⟩) (h := .z) (ms := []) (p := True) X0_ok Tryz.func64 rfl rfl (by kernel_rfl) (trivial)
theorem k32 : XOk Tryz.prog 64 F32.ans := Fq.ok ⟨_, _, Tryz.func64, rfl, by kernel_rfl⟩ pc32
noncomputable def g35_0 : Int := 0
noncomputable def g35_1 : Int := (-1)
noncomputable def g35_2 : Int := 0
noncomputable def g35_3 : Int := 0
noncomputable def g35_4 : Int := g32_0
noncomputable def g35_5 : Sl T175 := g32_1
noncomputable def g35_6 : Int := g32_2
noncomputable def g35_7 : Sl T137 := g32_3
noncomputable def g35_8 : Int := 0
noncomputable def g35_9 : Int := 0
noncomputable def g35_10 : Sl T68 := (nilSl : Sl T68)
noncomputable def F35 : Fq := ⟨[], ⟨⟨none, .agg [.int .i64 g35_0, .int .i64 g35_1, .int .i64 g35_2, .int .i64 g35_3, .int .i64 g35_4, ofSl 8 e175 g35_5, .int .i64 g35_6, ofSl 7 e137 g35_7, .int .i64 g35_8, .int .i64 g35_9, ofSl 10 e68 g35_10]⟩⟩⟩
theorem pc35 : FnOk Tryz.prog 30 F35.sh _ (F35.sh.flatMap Sh.bs) F35.f [] :=
  pure_of_exec (X := (mkX [(64, F32.ans)])) (R := ⟨.pure, [.cell 0 46], [(.c 0 0, kI), (.c 0 1, kI), (.c 0 2, kI), (.c 0 3, kI), (.c 0 4, kI), (.c 0 5, .sl E175), (.c 0 6, kI), (.c 0 7, .sl E137), (.c 0 8, kI), (.c 0 9, kI), (.c 0 10, .sl E68)], ⟨[.agg (us 11 [])], []⟩⟩) (h := .z) (ms := []) (p := True) (mkX_ok ⟨k32, trivial⟩) Tryz.func30 rfl rfl (by kernel_rfl) (trivial)
theorem k35 : XOk Tryz.prog 30 F35.ans := Fq.ok ⟨_, _, Tryz.func30, rfl, by kernel_rfl⟩ pc35
noncomputable def g33_0 : Int := 0
noncomputable def g33_1 : Sl T175 := (nilSl : Sl T175)
noncomputable def g33_2 : Int := 1
noncomputable def g33_3 : Sl T137 := (nilSl : Sl T137)
noncomputable def F33 : Fq := ⟨[], ⟨⟨none, .agg [.int .i64 g33_0, ofSl 8 e175 g33_1, .int .i64 g33_2, ofSl 7 e137 g33_3]⟩⟩⟩
theorem pc33 : FnOk Tryz.prog 88 F33.sh _ (F33.sh.flatMap Sh.bs) F33.f [] :=
  pure_of_exec (X := X0) (R := ⟨.pure, [.cell 0 39], [(.c 0 0, kI), (.c 0 1, .sl E175), (.c 0 2, kI), (.c 0 3, .sl E137)], ⟨[.agg (us 4 [])], []⟩⟩) (h := .z) (ms := []) (p := True) X0_ok Tryz.func88 rfl rfl (by kernel_rfl) (trivial)
theorem k33 : XOk Tryz.prog 88 F33.ans := Fq.ok ⟨_, _, Tryz.func88, rfl, by kernel_rfl⟩ pc33
noncomputable def g36_0 : Int := 0
noncomputable def g36_1 : Int := (-1)
noncomputable def g36_2 : Int := 0
noncomputable def g36_3 : Int := 0
noncomputable def g36_4 : Int := g33_0
noncomputable def g36_5 : Sl T175 := g33_1
noncomputable def g36_6 : Int := g33_2
noncomputable def g36_7 : Sl T137 := g33_3
noncomputable def g36_8 : Int := 0
noncomputable def g36_9 : Int := 0
noncomputable def g36_10 : Sl T68 := (nilSl : Sl T68)
noncomputable def F36 : Fq := ⟨[], ⟨⟨none, .agg [.int .i64 g36_0, .int .i64 g36_1, .int .i64 g36_2, .int .i64 g36_3, .int .i64 g36_4, ofSl 8 e175 g36_5, .int .i64 g36_6, ofSl 7 e137 g36_7, .int .i64 g36_8, .int .i64 g36_9, ofSl 10 e68 g36_10]⟩⟩⟩
theorem pc36 : FnOk Tryz.prog 37 F36.sh _ (F36.sh.flatMap Sh.bs) F36.f [] :=
  pure_of_exec (X := (mkX [(88, F33.ans)])) (R := ⟨.pure, [.cell 0 46], [(.c 0 0, kI), (.c 0 1, kI), (.c 0 2, kI), (.c 0 3, kI), (.c 0 4, kI), (.c 0 5, .sl E175), (.c 0 6, kI), (.c 0 7, .sl E137), (.c 0 8, kI), (.c 0 9, kI), (.c 0 10, .sl E68)], ⟨[.agg (us 11 [])], []⟩⟩) (h := .z) (ms := []) (p := True) (mkX_ok ⟨k33, trivial⟩) Tryz.func37 rfl rfl (by kernel_rfl) (trivial)
theorem k36 : XOk Tryz.prog 37 F36.ans := Fq.ok ⟨_, _, Tryz.func37, rfl, by kernel_rfl⟩ pc36
noncomputable def g37_m1 (x0 : Int) (x1 : Int) (x2 : Int) (x3 : Int) (x4 : Int) (x5 : Sl T175) (x6 : Int) (x7 : Sl T137) (x8 : Int) (x9 : Int) (x10 : Sl T68) (x11 : Int) (x12 : Int) (x13 : Int) (x14 : Int) (x15 : Int) (x16 : Sl T175) (x17 : Int) (x18 : Sl T137) (x19 : Int) (x20 : Int) (x21 : Sl T68) : Bool := (bif (x0 == x11) then (bif (x1 == x12) then (bif (g106 x2 x3 x4 x5 x6 x7 x13 x14 x15 x16 x17 x18) then (g68 x8 x9 x10 x19 x20 x21) else false) else false) else false)
noncomputable def g37 (x0 : Int) (x1 : Int) (x2 : Int) (x3 : Int) (x4 : Int) (x5 : Sl T175) (x6 : Int) (x7 : Sl T137) (x8 : Int) (x9 : Int) (x10 : Sl T68) (x11 : Int) (x12 : Int) (x13 : Int) (x14 : Int) (x15 : Int) (x16 : Sl T175) (x17 : Int) (x18 : Sl T137) (x19 : Int) (x20 : Int) (x21 : Sl T68) : Bool := (g37_m1 x0 x1 x2 x3 x4 x5 x6 x7 x8 x9 x10 x11 x12 x13 x14 x15 x16 x17 x18 x19 x20 x21)
noncomputable def F37 : Fq := ⟨[.g [kI, kI, kI, kI, kI, .sl E175, kI, .sl E137, kI, kI, .sl E68], .g [kI, kI, kI, kI, kI, .sl E175, kI, .sl E137, kI, kI, .sl E68]], fun x0 x1 x2 x3 x4 x5 x6 x7 x8 x9 x10 x11 x12 x13 x14 x15 x16 x17 x18 x19 x20 x21 => ⟨⟨none, .bool (g37 x0 x1 x2 x3 x4 x5 x6 x7 x8 x9 x10 x11 x12 x13 x14 x15 x16 x17 x18 x19 x20 x21)⟩⟩⟩
theorem pc37 : FnOk Tryz.prog 14 F37.sh _ (F37.sh.flatMap Sh.bs) F37.f [] :=
  fun (x0 : Int) (x1 : Int) (x2 : Int) (x3 : Int) (x4 : Int) x5 _ _ (x6 : Int) x7 _ _ (x8 : Int) (x9 : Int) x10 _ _ (x11 : Int) (x12 : Int) (x13 : Int) (x14 : Int) (x15 : Int) x16 _ _ (x17 : Int) x18 _ _ (x19 : Int) (x20 : Int) x21 _ _ => pure_of_exec (X := (mkX [(45, F68.ans), (44, F106.ans)])) (R := ⟨.pure, [.tmp 4], [(.t 0, kB)], ⟨[U], []⟩⟩) (h := (.s .z (.j ⟨16, [.b 0, .b 1], [(.t 4, kB)], [], .f⟩ .z .z))) (ms := []) (p := True) (mkX_ok ⟨k68, k106, trivial⟩) Tryz.func14 rfl rfl (by kernel_rfl) (trivial)
theorem k37 : XOk Tryz.prog 14 F37.ans := Fq.ok ⟨_, _, Tryz.func14, rfl, by kernel_rfl⟩ pc37
end Go.Proofs.YtchhfojblmceiaaGreat
/-
  Walks: what functions of the program answer, as functions.
-/
namespace Go.Proofs.YtchhfojblmceiaaGreat
open Go Go.Vc Go.RowKit
set_option maxRecDepth 100000
set_option maxHeartbeats 4000000
noncomputable def g1011_l1 (x0 : Sl T122) : Nat → Int → Sl T122 → Sl T122
  | 0, _, _ => default
  | k + 1, v1_0, v1_1 => (bif (decide (v1_0 < (x0.n : Int))) then (g1011_l1 x0 k (IntKind.i64.wrap (v1_0 + 1)) (Sl.app v1_1 (Sl.lit ([(⟨(g95_0 (x0.at' (Int.toNat v1_0)).c0), (g95_1 (x0.at' (Int.toNat v1_0)).c1), (g95_2 (x0.at' (Int.toNat v1_0)).c2), (g95_3 (x0.at' (Int.toNat v1_0)).c3), (g95_4 (x0.at' (Int.toNat v1_0)).c4), (g95_5 (x0.at' (Int.toNat v1_0)).c5), (g95_6 (x0.at' (Int.toNat v1_0)).c6), (g95_7 (x0.at' (Int.toNat v1_0)).c7), (g95_8 (x0.at' (Int.toNat v1_0)).c8), (g95_9 (x0.at' (Int.toNat v1_0)).c9), (g95_10 (x0.at' (Int.toNat v1_0)).c10), (g95_11 (x0.at' (Int.toNat v1_0)).c11), (g95_12 (x0.at' (Int.toNat v1_0)).c12), (g95_13 (x0.at' (Int.toNat v1_0)).c13), (g95_14 (x0.at' (Int.toNat v1_0)).c14), (g95_15 (x0.at' (Int.toNat v1_0)).c15), (g95_16 (x0.at' (Int.toNat v1_0)).c16), (g95_17 (x0.at' (Int.toNat v1_0)).c17), (g95_18 (x0.at' (Int.toNat v1_0)).c18), (g95_19 (x0.at' (Int.toNat v1_0)).c19)⟩ : T122)] : List T122)))) else v1_1)
noncomputable def g1011_r1 (x0 : Sl T122) : Sl T122 := g1011_l1 x0 ((Int.toNat ((x0.n : Int) - 0)) + 1) 0 (nilSl : Sl T122)
noncomputable def g1011 (x0 : Sl T122) : Sl T122 := (g1011_r1 x0)
noncomputable def F1011 : Fq := ⟨[.v (.sl E122)], fun x0 => ⟨⟨none, (Kd.blk E122).av (g1011 x0)⟩⟩⟩
theorem pc1011 : FnOk Tryz.prog 11 F1011.sh _ (F1011.sh.flatMap Sh.bs) F1011.f [] :=
  fun x0 n0 _ => pure_of_exec (X := (mkX [(29, F95.ans)])) (R := ⟨.own E122, [.tmp 2], [(.h 0 0, .blk E122)], ⟨[], []⟩⟩) (h := (.s .z (.s .z (.j ⟨12, [], [], [], .f⟩ (.s .z (.lp ⟨29, [], [(.t 3, E122)], [(.t 4, kI), (.h 0 0, .blk E122)], some 0, false, 12, [], [(.h 0 0, .blk E122)], fun k (s : Int × Sl T122) => g1011_l1 x0 k s.1 s.2, .f, fun (s : Int × Sl T122) => ((0 ≤ s.1 ∧ s.1 ≤ (x0.n : Int)) ∧ ((s.2.n : Nat) : Int) ≤ 0 + (s.1 - 0)), fun (s : Int × Sl T122) => (Int.toNat ((x0.n : Int) - s.1)), some fun (r : Sl T122) => ((r.n : Nat) : Int) ≤ 0 + max ((x0.n : Int) - 0) 0⟩ .z)) .z)))) (ms := []) (p := ((((0 ≤ (0 : Int) ∧ (0 : Int) ≤ (x0.n : Int)) ∧ ((0 : Nat) : Int) ≤ 0 + ((0 : Int) - 0))) ∧ (∀ (v1_0 : Int) (v1_1 : Sl T122), ((0 ≤ v1_0 ∧ v1_0 ≤ (x0.n : Int)) ∧ ((v1_1.n : Nat) : Int) ≤ 0 + (v1_0 - 0)) → (((decide (v1_0 < (x0.n : Int))) = true → (((0 : Int) ≤ v1_0 ∧ v1_0 < ((x0.n : Nat) : Int)) ∧ (v1_1.n + 1 ≤ 549755813888))) ∧ (((decide (v1_0 < (x0.n : Int))) = true → (((0 ≤ (IntKind.i64.wrap (v1_0 + 1)) ∧ (IntKind.i64.wrap (v1_0 + 1)) ≤ (x0.n : Int)) ∧ (((v1_1.n + 1) : Nat) : Int) ≤ 0 + ((IntKind.i64.wrap (v1_0 + 1)) - 0)) ∧ (Int.toNat ((x0.n : Int) - (IntKind.i64.wrap (v1_0 + 1)))) < (Int.toNat ((x0.n : Int) - v1_0)))) ∧ ((decide (v1_0 < (x0.n : Int))) = false → (((v1_1.n : Nat) : Int) ≤ 0 + max ((x0.n : Int) - 0) 0))))))) (mkX_ok ⟨k95, trivial⟩) Tryz.func11 rfl rfl (by kernel_rfl) (⟨(by omega), (fun v1_0 v1_1 hI1 => ⟨(fun h2 => ⟨(by have := of_decide_eq_true h2; omega), (by have := of_decide_eq_true h2; omega)⟩), ⟨(fun h3 => (by have := of_decide_eq_true h3; first | omega | (have := wrap64 (x := (v1_0 + 1)) (by omega) (by omega); omega))), (fun h4 => (by have := of_decide_eq_false h4; omega))⟩⟩)⟩)
theorem k1011 : XOk Tryz.prog 11 F1011.ans := Fq.ok ⟨_, _, Tryz.func11, rfl, by kernel_rfl⟩ pc1011
end Go.Proofs.YtchhfojblmceiaaGreat
/-
  Walks: what functions of the program answer, as functions.
-/
namespace Go.Proofs.YtchhfojblmceiaaGreat
open Go Go.Vc Go.RowKit
set_option maxRecDepth 100000
set_option maxHeartbeats 4000000
noncomputable def g1032_0_0 (x0 : Int) : Int := x0
noncomputable def g1032_0_1 (x1 : Int) : Int := x1
noncomputable def g1032_0_2 (x0 : Int) (x1 : Int) (x2 : Sl T68) (x3 : Int) (x4 : Int) (x5 : Int) (x6 : Bool) (x7 : Int) (x8 : Int) (x9 : Int) (x10 : ByteArray) (x11 : ByteArray) (x12 : ByteArray) (x13 : Int) : Sl T68 := (bif (decide (x3 ≤ x0)) then x2 else (bif (decide (x3 > (IntKind.i64.wrap ((g58_0 x0 x1 x2) + 1)))) then x2 else (bif ((g53 x0 x1 (Sl.app (Sl.part x2 0 (IntKind.i64.wrap ((IntKind.i64.wrap (x3 - x0)) - 1))) (Sl.lit ([(⟨x4, x5, x6, x7, x8, x9, x10, x11, x12, x13⟩ : T68)] : List T68)))) != 0) then x2 else (Sl.app (Sl.part x2 0 (IntKind.i64.wrap ((IntKind.i64.wrap (x3 - x0)) - 1))) (Sl.lit ([(⟨x4, x5, x6, x7, x8, x9, x10, x11, x12, x13⟩ : T68)] : List T68))))))
noncomputable def g1032_1 (x0 : Int) (x1 : Int) (x2 : Sl T68) (x3 : Int) (x4 : Int) (x5 : Int) (x6 : Bool) (x7 : Int) (x8 : Int) (x9 : Int) (x10 : ByteArray) (x11 : ByteArray) (x12 : ByteArray) (x13 : Int) : Int := (bif (decide (x3 ≤ x0)) then 0 else (bif (decide (x3 > (IntKind.i64.wrap ((g58_0 x0 x1 x2) + 1)))) then 10 else (bif ((g53 x0 x1 (Sl.app (Sl.part x2 0 (IntKind.i64.wrap ((IntKind.i64.wrap (x3 - x0)) - 1))) (Sl.lit ([(⟨x4, x5, x6, x7, x8, x9, x10, x11, x12, x13⟩ : T68)] : List T68)))) != 0) then 10 else 0)))
theorem l58 (x0 x1 : Int) (x2 : Sl T68) (h : GL x0 x1 x2) : g58_0 x0 x1 x2 = x0 + (x2.n : Int) := by
  have hc := chk53 x0 x1 x2 h
  unfold GL at h
  unfold g58_0 g124_0
  rw [h]
  show (bif decide ((x2.n : Int) > 0) then _ else x0) = _
  by_cases e : (x2.n : Int) > 0
  · rw [decide_eq_true e]; simp only [cond_true]; exact wrap64 (by omega) (by omega)
  · rw [decide_eq_false e]; simp only [cond_false]; omega
noncomputable def F1032 : Fq := ⟨[.g [kI, kI, .sl E68], .v kI, .g [kI, kI, kB, kI, kI, kI, kS, kS, kS, kI]], fun (x0 : Int) (x1 : Int) x2 (x3 : Int) (x4 : Int) (x5 : Int) x6 (x7 : Int) (x8 : Int) (x9 : Int) x10 x11 x12 (x13 : Int) => ⟨⟨some (GL x0 x1 x2), .tup [.agg [.int .i64 (g1032_0_0 x0), .int .i64 (g1032_0_1 x1), ofSl 10 e68 (g1032_0_2 x0 x1 x2 x3 x4 x5 x6 x7 x8 x9 x10 x11 x12 x13)], .int .i64 (g1032_1 x0 x1 x2 x3 x4 x5 x6 x7 x8 x9 x10 x11 x12 x13)]⟩⟩⟩
theorem pc1032 : FnOk Tryz.prog 32 F1032.sh _ (F1032.sh.flatMap Sh.bs) F1032.f [] :=
  fun (x0 : Int) (x1 : Int) x2 n2 _ (x3 : Int) (x4 : Int) (x5 : Int) x6 (x7 : Int) (x8 : Int) (x9 : Int) x10 n10 x11 n11 x12 n12 (x13 : Int) hp => pure_of_exec (X := (mkX [(70, F53.ans), (69, F58.ans), (36, F130.ans)])) (R := ⟨.pure, [.cell 6 44, .tmp 7], [(.c 0 0, kI), (.c 0 1, kI), (.c 0 2, .sl E68), (.t 1, kI)], ⟨[.agg (us 3 []), U], []⟩⟩) (h := .z) (ms := [.l, .l, .f, .f]) (p := ((decide (x3 ≤ x0)) = false → ((decide (x3 > (IntKind.i64.wrap ((g58_0 x0 x1 x2) + 1)))) = false → ((((0 : Int) ≤ 0) ∧ ((0 : Int) ≤ (IntKind.i64.wrap ((IntKind.i64.wrap (x3 - x0)) - 1))) ∧ (((IntKind.i64.wrap ((IntKind.i64.wrap (x3 - x0)) - 1)) : Int) ≤ (IntKind.i64.wrap ((IntKind.i64.wrap (x3 - x0)) - 1))) ∧ (((IntKind.i64.wrap ((IntKind.i64.wrap (x3 - x0)) - 1)) : Int) ≤ ((x2.n : Nat) : Int))) ∧ ((Int.toNat ((IntKind.i64.wrap ((IntKind.i64.wrap (x3 - x0)) - 1)) - 0)) + 1 ≤ 549755813888))))) (mkX_ok ⟨k53, k58, k130, trivial⟩) Tryz.func32 rfl rfl (by kernel_rfl) ((fun h1 => (fun h2 => ⟨(by have := of_decide_eq_false h1; have := of_decide_eq_false h2; have := chk53 x0 x1 x2 hp; have := l58 x0 x1 x2 hp; have := wrap64 (x := g58_0 x0 x1 x2 + 1) (by omega) (by omega); first | omega | (have := wrap64 (x := (x3 - x0)) (by omega) (by omega); have := wrap64 (x := ((IntKind.i64.wrap (x3 - x0)) - 1)) (by omega) (by omega); omega)), (by have := of_decide_eq_false h1; have := of_decide_eq_false h2; have := chk53 x0 x1 x2 hp; have := l58 x0 x1 x2 hp; have := wrap64 (x := g58_0 x0 x1 x2 + 1) (by omega) (by omega); first | omega | (have := wrap64 (x := (x3 - x0)) (by omega) (by omega); have := wrap64 (x := ((IntKind.i64.wrap (x3 - x0)) - 1)) (by omega) (by omega); omega))⟩)))
theorem k1032 : XOk Tryz.prog 32 F1032.ans := Fq.ok ⟨_, _, Tryz.func32, rfl, by kernel_rfl⟩ pc1032
end Go.Proofs.YtchhfojblmceiaaGreat
/-
  Walks: what functions of the program answer, as functions.
-/
namespace Go.Proofs.YtchhfojblmceiaaGreat
open Go Go.Vc Go.RowKit
set_option maxRecDepth 100000
set_option maxHeartbeats 4000000
noncomputable def g1012_m1 (x0 : Sl T122) (v1_0 : Int) (v1_1 : Int) : Int := (bif ((x0.at' (Int.toNat v1_0)).c0 == 1) then (x0.at' (Int.toNat v1_0)).c1 else v1_1)
noncomputable def g1012_m2 (x0 : Sl T122) (v1_0 : Int) (v1_2 : Int) : Int := (bif ((x0.at' (Int.toNat v1_0)).c0 == 1) then (x0.at' (Int.toNat v1_0)).c2 else v1_2)
noncomputable def g1012_m3 (x0 : Sl T122) (v1_0 : Int) (v1_3 : Int) : Int := (bif ((x0.at' (Int.toNat v1_0)).c0 == 1) then v1_3 else (bif ((x0.at' (Int.toNat v1_0)).c0 == 2) then v1_3 else (bif ((x0.at' (Int.toNat v1_0)).c0 == 3) then (bif (decide ((x0.at' (Int.toNat v1_0)).c14 > v1_3)) then (x0.at' (Int.toNat v1_0)).c14 else v1_3) else v1_3)))
noncomputable def g1012_m4 (x0 : Sl T122) (v1_0 : Int) (v1_3 : Int) (v1_4 : Int) : Int := (bif ((x0.at' (Int.toNat v1_0)).c0 == 1) then v1_4 else (bif ((x0.at' (Int.toNat v1_0)).c0 == 2) then v1_4 else (bif ((x0.at' (Int.toNat v1_0)).c0 == 3) then (bif (decide ((x0.at' (Int.toNat v1_0)).c14 > v1_3)) then (x0.at' (Int.toNat v1_0)).c15 else v1_4) else v1_4)))
noncomputable def g1012_m5 (x0 : Sl T122) (v1_0 : Int) (v1_3 : Int) (v1_5 : Int) : Int := (bif ((x0.at' (Int.toNat v1_0)).c0 == 1) then v1_5 else (bif ((x0.at' (Int.toNat v1_0)).c0 == 2) then v1_5 else (bif ((x0.at' (Int.toNat v1_0)).c0 == 3) then (bif (decide ((x0.at' (Int.toNat v1_0)).c14 > v1_3)) then (x0.at' (Int.toNat v1_0)).c16 else v1_5) else v1_5)))
noncomputable def g1012_m6 (x0 : Sl T122) (v1_0 : Int) (v1_3 : Int) (v1_6 : Sl T175) : Sl T175 := (bif ((x0.at' (Int.toNat v1_0)).c0 == 1) then v1_6 else (bif ((x0.at' (Int.toNat v1_0)).c0 == 2) then v1_6 else (bif ((x0.at' (Int.toNat v1_0)).c0 == 3) then (bif (decide ((x0.at' (Int.toNat v1_0)).c14 > v1_3)) then (x0.at' (Int.toNat v1_0)).c17 else v1_6) else v1_6)))
noncomputable def g1012_m7 (x0 : Sl T122) (v1_0 : Int) (v1_3 : Int) (v1_7 : Int) : Int := (bif ((x0.at' (Int.toNat v1_0)).c0 == 1) then v1_7 else (bif ((x0.at' (Int.toNat v1_0)).c0 == 2) then v1_7 else (bif ((x0.at' (Int.toNat v1_0)).c0 == 3) then (bif (decide ((x0.at' (Int.toNat v1_0)).c14 > v1_3)) then (x0.at' (Int.toNat v1_0)).c18 else v1_7) else v1_7)))
noncomputable def g1012_m8 (x0 : Sl T122) (v1_0 : Int) (v1_3 : Int) (v1_8 : Sl T137) : Sl T137 := (bif ((x0.at' (Int.toNat v1_0)).c0 == 1) then v1_8 else (bif ((x0.at' (Int.toNat v1_0)).c0 == 2) then v1_8 else (bif ((x0.at' (Int.toNat v1_0)).c0 == 3) then (bif (decide ((x0.at' (Int.toNat v1_0)).c14 > v1_3)) then (x0.at' (Int.toNat v1_0)).c19 else v1_8) else v1_8)))
noncomputable def g1012_m9 (x0 : Sl T122) (v1_0 : Int) (v1_3 : Int) (v1_9 : Int) (v1_10 : Int) (v1_11 : Sl T68) : Int := (bif ((x0.at' (Int.toNat v1_0)).c0 == 1) then v1_9 else (bif ((x0.at' (Int.toNat v1_0)).c0 == 2) then (g1032_0_0 v1_9) else (bif ((x0.at' (Int.toNat v1_0)).c0 == 3) then (bif (decide ((x0.at' (Int.toNat v1_0)).c14 > v1_3)) then (g177_0 v1_9 v1_10 v1_11 (x0.at' (Int.toNat v1_0)).c14 (x0.at' (Int.toNat v1_0)).c15) else v1_9) else v1_9)))
noncomputable def g1012_m10 (x0 : Sl T122) (v1_0 : Int) (v1_3 : Int) (v1_9 : Int) (v1_10 : Int) (v1_11 : Sl T68) : Int := (bif ((x0.at' (Int.toNat v1_0)).c0 == 1) then v1_10 else (bif ((x0.at' (Int.toNat v1_0)).c0 == 2) then (g1032_0_1 v1_10) else (bif ((x0.at' (Int.toNat v1_0)).c0 == 3) then (bif (decide ((x0.at' (Int.toNat v1_0)).c14 > v1_3)) then (g177_1 v1_9 v1_10 v1_11 (x0.at' (Int.toNat v1_0)).c14 (x0.at' (Int.toNat v1_0)).c15) else v1_10) else v1_10)))
noncomputable def g1012_m11 (x0 : Sl T122) (v1_0 : Int) (v1_3 : Int) (v1_9 : Int) (v1_10 : Int) (v1_11 : Sl T68) : Sl T68 := (bif ((x0.at' (Int.toNat v1_0)).c0 == 1) then v1_11 else (bif ((x0.at' (Int.toNat v1_0)).c0 == 2) then (g1032_0_2 v1_9 v1_10 v1_11 (x0.at' (Int.toNat v1_0)).c3 (x0.at' (Int.toNat v1_0)).c4 (x0.at' (Int.toNat v1_0)).c5 (x0.at' (Int.toNat v1_0)).c6 (x0.at' (Int.toNat v1_0)).c7 (x0.at' (Int.toNat v1_0)).c8 (x0.at' (Int.toNat v1_0)).c9 (x0.at' (Int.toNat v1_0)).c10 (x0.at' (Int.toNat v1_0)).c11 (x0.at' (Int.toNat v1_0)).c12 (x0.at' (Int.toNat v1_0)).c13) else (bif ((x0.at' (Int.toNat v1_0)).c0 == 3) then (bif (decide ((x0.at' (Int.toNat v1_0)).c14 > v1_3)) then (g177_2 v1_9 v1_10 v1_11 (x0.at' (Int.toNat v1_0)).c14 (x0.at' (Int.toNat v1_0)).c15) else v1_11) else v1_11)))
noncomputable def g1012_p12 (x0 : Sl T122) (v1_0 : Int) (v1_9 : Int) (v1_10 : Int) (v1_11 : Sl T68) : Bool := (bif ((g94 (x0.at' (Int.toNat v1_0)).c0 (x0.at' (Int.toNat v1_0)).c1 (x0.at' (Int.toNat v1_0)).c2 (x0.at' (Int.toNat v1_0)).c3 (x0.at' (Int.toNat v1_0)).c4 (x0.at' (Int.toNat v1_0)).c5 (x0.at' (Int.toNat v1_0)).c6 (x0.at' (Int.toNat v1_0)).c7 (x0.at' (Int.toNat v1_0)).c8 (x0.at' (Int.toNat v1_0)).c9 (x0.at' (Int.toNat v1_0)).c10 (x0.at' (Int.toNat v1_0)).c11 (x0.at' (Int.toNat v1_0)).c12 (x0.at' (Int.toNat v1_0)).c13 (x0.at' (Int.toNat v1_0)).c14 (x0.at' (Int.toNat v1_0)).c15 (x0.at' (Int.toNat v1_0)).c16 (x0.at' (Int.toNat v1_0)).c17 (x0.at' (Int.toNat v1_0)).c18 (x0.at' (Int.toNat v1_0)).c19) != 0) then false else (bif ((x0.at' (Int.toNat v1_0)).c0 == 1) then true else (bif ((x0.at' (Int.toNat v1_0)).c0 == 2) then (bif ((g1032_1 v1_9 v1_10 v1_11 (x0.at' (Int.toNat v1_0)).c3 (x0.at' (Int.toNat v1_0)).c4 (x0.at' (Int.toNat v1_0)).c5 (x0.at' (Int.toNat v1_0)).c6 (x0.at' (Int.toNat v1_0)).c7 (x0.at' (Int.toNat v1_0)).c8 (x0.at' (Int.toNat v1_0)).c9 (x0.at' (Int.toNat v1_0)).c10 (x0.at' (Int.toNat v1_0)).c11 (x0.at' (Int.toNat v1_0)).c12 (x0.at' (Int.toNat v1_0)).c13) != 0) then false else true) else true)))
noncomputable def g1012_l1 (x0 : Sl T122) : Nat → Int → Int → Int → Int → Int → Int → Sl T175 → Int → Sl T137 → Int → Int → Sl T68 → Bool × Int × Int × Int × Int × Int × Sl T175 × Int × Sl T137 × Int × Int × Sl T68 × Int × Int × Int × Int × Int × Sl T175 × Int × Sl T137 × Int × Int × Sl T68 × Int
  | 0, _, _, _, _, _, _, _, _, _, _, _, _ => default
  | k + 1, v1_0, v1_1, v1_2, v1_3, v1_4, v1_5, v1_6, v1_7, v1_8, v1_9, v1_10, v1_11 => (bif (decide (v1_0 < (x0.n : Int))) then (bif (g1012_p12 x0 v1_0 v1_9 v1_10 v1_11) then (g1012_l1 x0 k (IntKind.i64.wrap (v1_0 + 1)) (g1012_m1 x0 v1_0 v1_1) (g1012_m2 x0 v1_0 v1_2) (g1012_m3 x0 v1_0 v1_3) (g1012_m4 x0 v1_0 v1_3 v1_4) (g1012_m5 x0 v1_0 v1_3 v1_5) (g1012_m6 x0 v1_0 v1_3 v1_6) (g1012_m7 x0 v1_0 v1_3 v1_7) (g1012_m8 x0 v1_0 v1_3 v1_8) (g1012_m9 x0 v1_0 v1_3 v1_9 v1_10 v1_11) (g1012_m10 x0 v1_0 v1_3 v1_9 v1_10 v1_11) (g1012_m11 x0 v1_0 v1_3 v1_9 v1_10 v1_11)) else (bif ((g94 (x0.at' (Int.toNat v1_0)).c0 (x0.at' (Int.toNat v1_0)).c1 (x0.at' (Int.toNat v1_0)).c2 (x0.at' (Int.toNat v1_0)).c3 (x0.at' (Int.toNat v1_0)).c4 (x0.at' (Int.toNat v1_0)).c5 (x0.at' (Int.toNat v1_0)).c6 (x0.at' (Int.toNat v1_0)).c7 (x0.at' (Int.toNat v1_0)).c8 (x0.at' (Int.toNat v1_0)).c9 (x0.at' (Int.toNat v1_0)).c10 (x0.at' (Int.toNat v1_0)).c11 (x0.at' (Int.toNat v1_0)).c12 (x0.at' (Int.toNat v1_0)).c13 (x0.at' (Int.toNat v1_0)).c14 (x0.at' (Int.toNat v1_0)).c15 (x0.at' (Int.toNat v1_0)).c16 (x0.at' (Int.toNat v1_0)).c17 (x0.at' (Int.toNat v1_0)).c18 (x0.at' (Int.toNat v1_0)).c19) != 0) then (true, default, default, default, default, default, default, default, default, default, default, default, 0, 0, 0, 0, 0, (nilSl : Sl T175), 0, (nilSl : Sl T137), 0, 0, (nilSl : Sl T68), (g94 (x0.at' (Int.toNat v1_0)).c0 (x0.at' (Int.toNat v1_0)).c1 (x0.at' (Int.toNat v1_0)).c2 (x0.at' (Int.toNat v1_0)).c3 (x0.at' (Int.toNat v1_0)).c4 (x0.at' (Int.toNat v1_0)).c5 (x0.at' (Int.toNat v1_0)).c6 (x0.at' (Int.toNat v1_0)).c7 (x0.at' (Int.toNat v1_0)).c8 (x0.at' (Int.toNat v1_0)).c9 (x0.at' (Int.toNat v1_0)).c10 (x0.at' (Int.toNat v1_0)).c11 (x0.at' (Int.toNat v1_0)).c12 (x0.at' (Int.toNat v1_0)).c13 (x0.at' (Int.toNat v1_0)).c14 (x0.at' (Int.toNat v1_0)).c15 (x0.at' (Int.toNat v1_0)).c16 (x0.at' (Int.toNat v1_0)).c17 (x0.at' (Int.toNat v1_0)).c18 (x0.at' (Int.toNat v1_0)).c19)) else (true, default, default, default, default, default, default, default, default, default, default, default, 0, 0, 0, 0, 0, (nilSl : Sl T175), 0, (nilSl : Sl T137), 0, 0, (nilSl : Sl T68), (g1032_1 v1_9 v1_10 v1_11 (x0.at' (Int.toNat v1_0)).c3 (x0.at' (Int.toNat v1_0)).c4 (x0.at' (Int.toNat v1_0)).c5 (x0.at' (Int.toNat v1_0)).c6 (x0.at' (Int.toNat v1_0)).c7 (x0.at' (Int.toNat v1_0)).c8 (x0.at' (Int.toNat v1_0)).c9 (x0.at' (Int.toNat v1_0)).c10 (x0.at' (Int.toNat v1_0)).c11 (x0.at' (Int.toNat v1_0)).c12 (x0.at' (Int.toNat v1_0)).c13)))) else (false, v1_1, v1_2, v1_3, v1_4, v1_5, v1_6, v1_7, v1_8, v1_9, v1_10, v1_11, default, default, default, default, default, default, default, default, default, default, default, default))
noncomputable def g1012_r13 (x0 : Sl T122) : Bool × Int × Int × Int × Int × Int × Sl T175 × Int × Sl T137 × Int × Int × Sl T68 × Int × Int × Int × Int × Int × Sl T175 × Int × Sl T137 × Int × Int × Sl T68 × Int := g1012_l1 x0 ((Int.toNat ((x0.n : Int) - 0)) + 1) 0 g35_0 g35_1 g35_2 g35_3 g35_4 g35_5 g35_6 g35_7 g35_8 g35_9 g35_10
noncomputable def g1012_p14 (x0 : Sl T122) : Bool := (bif (g1012_r13 x0).1 then false else true)
noncomputable def g1012_0_0 (x0 : Sl T122) : Int := (bif (g1012_p14 x0) then (g1012_r13 x0).2.1 else (g1012_r13 x0).2.2.2.2.2.2.2.2.2.2.2.2.1)
noncomputable def g1012_0_1 (x0 : Sl T122) : Int := (bif (g1012_p14 x0) then (g1012_r13 x0).2.2.1 else (g1012_r13 x0).2.2.2.2.2.2.2.2.2.2.2.2.2.1)
noncomputable def g1012_0_2 (x0 : Sl T122) : Int := (bif (g1012_p14 x0) then (g1012_r13 x0).2.2.2.1 else (g1012_r13 x0).2.2.2.2.2.2.2.2.2.2.2.2.2.2.1)
noncomputable def g1012_0_3 (x0 : Sl T122) : Int := (bif (g1012_p14 x0) then (g1012_r13 x0).2.2.2.2.1 else (g1012_r13 x0).2.2.2.2.2.2.2.2.2.2.2.2.2.2.2.1)
noncomputable def g1012_0_4 (x0 : Sl T122) : Int := (bif (g1012_p14 x0) then (g92_0_0 (g90_0 (g1012_r13 x0).2.2.2.2.2.1 (g1012_r13 x0).2.2.2.2.2.2.1 (g1012_r13 x0).2.2.2.2.2.2.2.1 (g1012_r13 x0).2.2.2.2.2.2.2.2.1)) else (g1012_r13 x0).2.2.2.2.2.2.2.2.2.2.2.2.2.2.2.2.1)
noncomputable def g1012_0_5 (x0 : Sl T122) : Sl T175 := (bif (g1012_p14 x0) then (g92_0_1 (g90_0 (g1012_r13 x0).2.2.2.2.2.1 (g1012_r13 x0).2.2.2.2.2.2.1 (g1012_r13 x0).2.2.2.2.2.2.2.1 (g1012_r13 x0).2.2.2.2.2.2.2.2.1)) else (g1012_r13 x0).2.2.2.2.2.2.2.2.2.2.2.2.2.2.2.2.2.1)
noncomputable def g1012_0_6 (x0 : Sl T122) : Int := (bif (g1012_p14 x0) then (g92_0_2 (g90_0 (g1012_r13 x0).2.2.2.2.2.1 (g1012_r13 x0).2.2.2.2.2.2.1 (g1012_r13 x0).2.2.2.2.2.2.2.1 (g1012_r13 x0).2.2.2.2.2.2.2.2.1)) else (g1012_r13 x0).2.2.2.2.2.2.2.2.2.2.2.2.2.2.2.2.2.2.1)
noncomputable def g1012_0_7 (x0 : Sl T122) : Sl T137 := (bif (g1012_p14 x0) then (g92_0_3 (g90_0 (g1012_r13 x0).2.2.2.2.2.1 (g1012_r13 x0).2.2.2.2.2.2.1 (g1012_r13 x0).2.2.2.2.2.2.2.1 (g1012_r13 x0).2.2.2.2.2.2.2.2.1)) else (g1012_r13 x0).2.2.2.2.2.2.2.2.2.2.2.2.2.2.2.2.2.2.2.1)
noncomputable def g1012_0_8 (x0 : Sl T122) : Int := (bif (g1012_p14 x0) then (g1012_r13 x0).2.2.2.2.2.2.2.2.2.1 else (g1012_r13 x0).2.2.2.2.2.2.2.2.2.2.2.2.2.2.2.2.2.2.2.2.1)
noncomputable def g1012_0_9 (x0 : Sl T122) : Int := (bif (g1012_p14 x0) then (g1012_r13 x0).2.2.2.2.2.2.2.2.2.2.1 else (g1012_r13 x0).2.2.2.2.2.2.2.2.2.2.2.2.2.2.2.2.2.2.2.2.2.1)
noncomputable def g1012_0_10 (x0 : Sl T122) : Sl T68 := (bif (g1012_p14 x0) then (g1012_r13 x0).2.2.2.2.2.2.2.2.2.2.2.1 else (g1012_r13 x0).2.2.2.2.2.2.2.2.2.2.2.2.2.2.2.2.2.2.2.2.2.2.1)
noncomputable def g1012_1 (x0 : Sl T122) : Int := (bif (g1012_p14 x0) then 0 else (g1012_r13 x0).2.2.2.2.2.2.2.2.2.2.2.2.2.2.2.2.2.2.2.2.2.2.2)
theorem fd0_1012 : FD g35_5 g35_7 g35_8 g35_9 g35_10 := ⟨⟨fun _ _ => rfl, Nat.zero_le _, fun i hi => absurd hi (Nat.not_lt_zero i)⟩, ⟨fun _ _ => rfl, Nat.zero_le _, fun i hi => absurd hi (Nat.not_lt_zero i)⟩, lv53' ⟨by decide, by decide, ⟨fun _ => rfl, fun _ => rfl⟩, Nat.zero_le _, by decide, fun i hi => absurd hi (Nat.not_lt_zero i), fun i hi => absurd hi (Nat.not_lt_zero _)⟩⟩
theorem gl1032 {x0 x1 : Int} {x2 : Sl T68} {x3 x4 x5 : Int} {x6 : Bool} {x7 x8 x9 : Int} {x10 x11 x12 : ByteArray} {x13 : Int} (h : GL x0 x1 x2) : GL (g1032_0_0 x0) (g1032_0_1 x1) (g1032_0_2 x0 x1 x2 x3 x4 x5 x6 x7 x8 x9 x10 x11 x12 x13) := by
  unfold g1032_0_0 g1032_0_1 g1032_0_2
  cases decide (x3 ≤ x0)
  · cases decide (x3 > (IntKind.i64.wrap ((g58_0 x0 x1 x2) + 1)))
    · simp only [cond_false]
      cases e : ((g53 x0 x1 (Sl.app (Sl.part x2 0 (IntKind.i64.wrap ((IntKind.i64.wrap (x3 - x0)) - 1))) (Sl.lit ([(⟨x4, x5, x6, x7, x8, x9, x10, x11, x12, x13⟩ : T68)] : List T68)))) != 0)
      · exact bne_eq_false_iff_eq.1 e
      · exact h
    · exact h
  · exact h
theorem fds1012 {x0 : Sl T122} {v0 v3 b t : Int} {es : Sl T175} {cs : Sl T137} {s : Sl T68} (hp : RCS x0) (h : FD es cs b t s) (h12 : (g1012_p12 x0 v0 b t s) = true) : FD (g1012_m6 x0 v0 v3 es) (g1012_m8 x0 v0 v3 cs) (g1012_m9 x0 v0 v3 b t s) (g1012_m10 x0 v0 v3 b t s) (g1012_m11 x0 v0 v3 b t s) := by
  unfold g1012_p12 at h12
  have hr := rcs94 (i := Int.toNat v0) hp
  obtain ⟨q1, q2⟩ := hp.2 (Int.toNat v0)
  unfold g1012_m6 g1012_m8 g1012_m9 g1012_m10 g1012_m11
  generalize x0.at' (Int.toNat v0) = E at *
  cases e94 : (g94 E.c0 E.c1 E.c2 E.c3 E.c4 E.c5 E.c6 E.c7 E.c8 E.c9 E.c10 E.c11 E.c12 E.c13 E.c14 E.c15 E.c16 E.c17 E.c18 E.c19 != 0) with
  | true => rw [e94] at h12; cases h12
  | false =>
    have hr := hr e94
    cases e1 : (E.c0 == 1)
    · simp only [cond_false]
      cases e2 : (E.c0 == 2)
      · simp only [cond_false]
        cases e3 : (E.c0 == 3)
        · exact h
        · simp only [cond_true]
          cases decide (E.c14 > v3)
          · exact h
          · have e3 := eq_of_beq e3
            have r : (1 ≤ E.c14 ∧ E.c14 ≤ 1048576) ∧ (1 ≤ E.c15 ∧ E.c15 ≤ 1048576) := by omega
            exact ⟨q1, q2, lv53' (lv_rest (lv53 h.2.2) r.1 r.2)⟩
      · exact ⟨h.1, h.2.1, gl1032 h.2.2⟩
    · exact h
def FDr (r : Bool × Int × Int × Int × Int × Int × Sl T175 × Int × Sl T137 × Int × Int × Sl T68 × Int × Int × Int × Int × Int × Sl T175 × Int × Sl T137 × Int × Int × Sl T68 × Int) : Prop := r.1 = true ∨ FD r.2.2.2.2.2.2.1 r.2.2.2.2.2.2.2.2.1 r.2.2.2.2.2.2.2.2.2.1 r.2.2.2.2.2.2.2.2.2.2.1 r.2.2.2.2.2.2.2.2.2.2.2.1
theorem fdl1012 {x0 : Sl T122} (hp : RCS x0) (hn : x0.n ≤ 549755813888) : ∀ (m fu : Nat) (v0 v1 v2 v3 v4 v5 : Int) (es : Sl T175) (v7 : Int) (cs : Sl T137) (b t : Int) (s : Sl T68), 0 ≤ v0 → v0 + (m : Int) = (x0.n : Int) → m ≤ fu → FD es cs b t s → FDr (g1012_l1 x0 (fu + 1) v0 v1 v2 v3 v4 v5 es v7 cs b t s)
  | 0, fu, v0, v1, v2, v3, v4, v5, es, v7, cs, b, t, s, h0, hm, hf, h => by
    rw [g1012_l1, decide_eq_false (show ¬ v0 < (x0.n : Int) by omega)]
    exact .inr h
  | m + 1, fu, v0, v1, v2, v3, v4, v5, es, v7, cs, b, t, s, h0, hm, hf, h => by
    obtain ⟨fu, rfl⟩ : ∃ q, fu = q + 1 := ⟨fu - 1, by omega⟩
    rw [g1012_l1, decide_eq_true (show v0 < (x0.n : Int) by omega)]
    simp only [cond_true]
    cases h12 : g1012_p12 x0 v0 b t s with
    | false =>
      simp only [cond_false]
      refine .inl ?_
      generalize (g94 _ _ _ _ _ _ _ _ _ _ _ _ _ _ _ _ _ _ _ _ != 0) = bb
      cases bb <;> rfl
    | true =>
      simp only [cond_true]
      rw [wrap64 (by omega) (by omega)]
      exact fdl1012 hp hn m fu (v0 + 1) _ _ _ _ _ _ _ _ _ _ _ (by omega) (by omega) (by omega) (fds1012 hp h h12)
theorem fdr1012 {x0 : Sl T122} (hp : RCS x0) (hn : x0.n ≤ 549755813888) (h : g1012_p14 x0 = true) : FD (g1012_r13 x0).2.2.2.2.2.2.1 (g1012_r13 x0).2.2.2.2.2.2.2.2.1 (g1012_r13 x0).2.2.2.2.2.2.2.2.2.1 (g1012_r13 x0).2.2.2.2.2.2.2.2.2.2.1 (g1012_r13 x0).2.2.2.2.2.2.2.2.2.2.2.1 := by
  have := fdl1012 hp hn x0.n (Int.toNat ((x0.n : Int) - 0)) 0 g35_0 g35_1 g35_2 g35_3 g35_4 g35_5 g35_6 g35_7 g35_8 g35_9 g35_10 (Int.le_refl _) (by omega) (by omega) fd0_1012
  rcases this with e | e
  · unfold g1012_p14 g1012_r13 at h
    rw [e] at h; cases h
  · exact e
theorem fde1012 {x0 : Sl T122} (hp : RCS x0) (hn : x0.n ≤ 549755813888) (h : g1012_p14 x0 = true) : CE (g1012_r13 x0).2.2.2.2.2.2.1 := (fdr1012 hp hn h).1
theorem fdc1012 {x0 : Sl T122} (hp : RCS x0) (hn : x0.n ≤ 549755813888) (h : g1012_p14 x0 = true) : CC (g1012_r13 x0).2.2.2.2.2.2.2.2.1 := (fdr1012 hp hn h).2.1
noncomputable def F1012 : Fq := ⟨[.v (.sl E122)], fun x0 => ⟨⟨some (RCS x0), .tup [.agg [.int .i64 (g1012_0_0 x0), .int .i64 (g1012_0_1 x0), .int .i64 (g1012_0_2 x0), .int .i64 (g1012_0_3 x0), .int .i64 (g1012_0_4 x0), ofSl 8 e175 (g1012_0_5 x0), .int .i64 (g1012_0_6 x0), ofSl 7 e137 (g1012_0_7 x0), .int .i64 (g1012_0_8 x0), .int .i64 (g1012_0_9 x0), ofSl 10 e68 (g1012_0_10 x0)], .int .i64 (g1012_1 x0)]⟩⟩⟩
theorem pc1012 : FnOk Tryz.prog 12 F1012.sh _ (F1012.sh.flatMap Sh.bs) F1012.f [] :=
  fun x0 n0 _ hp => pure_of_exec (X := (mkX [(30, F35.ans), (34, F90.ans), (35, F92.ans), (31, F94.ans), (36, F130.ans), (33, F177.ans), (32, F1032.ans)])) (R := ⟨.pure, [.cell 2 46, .tmp 3], [(.c 0 0, kI), (.c 0 1, kI), (.c 0 2, kI), (.c 0 3, kI), (.c 0 4, kI), (.c 0 5, .sl E175), (.c 0 6, kI), (.c 0 7, .sl E137), (.c 0 8, kI), (.c 0 9, kI), (.c 0 10, .sl E68), (.t 1, kI)], ⟨[.agg (us 11 []), U], []⟩⟩) (h := (.s .z (.s .z (.j ⟨28, [], [], [], .f⟩ (.s .z (.lp ⟨57372, [], [], [(.t 15, kI), (.h 1 0, kI), (.h 1 1, kI), (.h 1 2, kI), (.h 1 3, kI), (.h 1 4, kI), (.h 1 5, .sl E175), (.h 1 6, kI), (.h 1 7, .sl E137), (.h 1 8, kI), (.h 1 9, kI), (.h 1 10, .sl E68)], some 0, true, 28, [], [(.h 1 0, kI), (.h 1 1, kI), (.h 1 2, kI), (.h 1 3, kI), (.h 1 4, kI), (.h 1 5, .sl E175), (.h 1 6, kI), (.h 1 7, .sl E137), (.h 1 8, kI), (.h 1 9, kI), (.h 1 10, .sl E68)], fun k (s : Int × Int × Int × Int × Int × Int × Sl T175 × Int × Sl T137 × Int × Int × Sl T68) => g1012_l1 x0 k s.1 s.2.1 s.2.2.1 s.2.2.2.1 s.2.2.2.2.1 s.2.2.2.2.2.1 s.2.2.2.2.2.2.1 s.2.2.2.2.2.2.2.1 s.2.2.2.2.2.2.2.2.1 s.2.2.2.2.2.2.2.2.2.1 s.2.2.2.2.2.2.2.2.2.2.1 s.2.2.2.2.2.2.2.2.2.2.2, .f, fun (s : Int × Int × Int × Int × Int × Int × Sl T175 × Int × Sl T137 × Int × Int × Sl T68) => (FD s.2.2.2.2.2.2.1 s.2.2.2.2.2.2.2.2.1 s.2.2.2.2.2.2.2.2.2.1 s.2.2.2.2.2.2.2.2.2.2.1 s.2.2.2.2.2.2.2.2.2.2.2 ∧ 0 ≤ s.1 ∧ s.1 ≤ (x0.n : Int)), fun (s : Int × Int × Int × Int × Int × Int × Sl T175 × Int × Sl T137 × Int × Int × Sl T68) => (Int.toNat ((x0.n : Int) - s.1)), none⟩ (.s .z (.s .z (.j ⟨511697116, [], [(.h 1 0, kI), (.h 1 1, kI), (.h 1 2, kI), (.h 1 3, kI), (.h 1 4, kI), (.h 1 5, .sl E175), (.h 1 6, kI), (.h 1 7, .sl E137), (.h 1 8, kI), (.h 1 9, kI), (.h 1 10, .sl E68)], [(.b .f .l), (.b .f .l), .f, .f, .f, .f, .f, .f, .f, .f, .f], (.b .f (.b .f (.b .f .l)))⟩ .z .z))))) .z)))) (ms := []) (p := ((((FD g35_5 g35_7 g35_8 g35_9 g35_10 ∧ 0 ≤ (0 : Int) ∧ (0 : Int) ≤ (x0.n : Int))) ∧ (∀ (v1_0 : Int) (v1_1 : Int) (v1_2 : Int) (v1_3 : Int) (v1_4 : Int) (v1_5 : Int) (v1_6 : Sl T175) (v1_7 : Int) (v1_8 : Sl T137) (v1_9 : Int) (v1_10 : Int) (v1_11 : Sl T68), (FD v1_6 v1_8 v1_9 v1_10 v1_11 ∧ 0 ≤ v1_0 ∧ v1_0 ≤ (x0.n : Int)) → (((decide (v1_0 < (x0.n : Int))) = true → (((0 : Int) ≤ v1_0 ∧ v1_0 < ((x0.n : Nat) : Int)) ∧ (((g94 (x0.at' (Int.toNat v1_0)).c0 (x0.at' (Int.toNat v1_0)).c1 (x0.at' (Int.toNat v1_0)).c2 (x0.at' (Int.toNat v1_0)).c3 (x0.at' (Int.toNat v1_0)).c4 (x0.at' (Int.toNat v1_0)).c5 (x0.at' (Int.toNat v1_0)).c6 (x0.at' (Int.toNat v1_0)).c7 (x0.at' (Int.toNat v1_0)).c8 (x0.at' (Int.toNat v1_0)).c9 (x0.at' (Int.toNat v1_0)).c10 (x0.at' (Int.toNat v1_0)).c11 (x0.at' (Int.toNat v1_0)).c12 (x0.at' (Int.toNat v1_0)).c13 (x0.at' (Int.toNat v1_0)).c14 (x0.at' (Int.toNat v1_0)).c15 (x0.at' (Int.toNat v1_0)).c16 (x0.at' (Int.toNat v1_0)).c17 (x0.at' (Int.toNat v1_0)).c18 (x0.at' (Int.toNat v1_0)).c19) != 0) = false → (((x0.at' (Int.toNat v1_0)).c0 == 1) = false → ((((x0.at' (Int.toNat v1_0)).c0 == 2) = true → (GL v1_9 v1_10 v1_11)) ∧ (((x0.at' (Int.toNat v1_0)).c0 == 2) = false → (((x0.at' (Int.toNat v1_0)).c0 == 3) = true → ((decide ((x0.at' (Int.toNat v1_0)).c14 > v1_3)) = true → ((x0.at' (Int.toNat v1_0)).c14 ≤ 9223372036854775807))))))))) ∧ ((decide (v1_0 < (x0.n : Int))) = true → ((g1012_p12 x0 v1_0 v1_9 v1_10 v1_11) = true → ((FD (g1012_m6 x0 v1_0 v1_3 v1_6) (g1012_m8 x0 v1_0 v1_3 v1_8) (g1012_m9 x0 v1_0 v1_3 v1_9 v1_10 v1_11) (g1012_m10 x0 v1_0 v1_3 v1_9 v1_10 v1_11) (g1012_m11 x0 v1_0 v1_3 v1_9 v1_10 v1_11) ∧ 0 ≤ (IntKind.i64.wrap (v1_0 + 1)) ∧ (IntKind.i64.wrap (v1_0 + 1)) ≤ (x0.n : Int)) ∧ (Int.toNat ((x0.n : Int) - (IntKind.i64.wrap (v1_0 + 1)))) < (Int.toNat ((x0.n : Int) - v1_0)))))))) ∧ ((g1012_p14 x0) = true → ((CE (g1012_r13 x0).2.2.2.2.2.2.1 ∧ CC (g1012_r13 x0).2.2.2.2.2.2.2.2.1) ∧ (U8 (g90_0 (g1012_r13 x0).2.2.2.2.2.1 (g1012_r13 x0).2.2.2.2.2.2.1 (g1012_r13 x0).2.2.2.2.2.2.2.1 (g1012_r13 x0).2.2.2.2.2.2.2.2.1)))))) (mkX_ok ⟨k35, k90, k92, k94, k130, k177, k1032, trivial⟩) Tryz.func12 rfl rfl (by kernel_rfl) (⟨⟨⟨(by repeat first | assumption | apply rcs1011 | apply gl0_1013 | apply gls1013 | apply fd_gl | apply fd0_1012 | apply fds1012 | apply fde1012 | apply fdc1012 | apply u90 | apply ss1016 | apply sv1017 | apply sv1056 | apply th1106 | apply ce85 | apply cc85' | apply vok_t | apply rmok | apply And.intro | apply ce95 | apply cc95), (by omega)⟩, (fun v1_0 v1_1 v1_2 v1_3 v1_4 v1_5 v1_6 v1_7 v1_8 v1_9 v1_10 v1_11 hI1 => have hu1 := hI1.1; ⟨(fun h2 => ⟨(by have := of_decide_eq_true h2; omega), (fun h3 => (fun h4 => ⟨(fun h5 => (by have := of_decide_eq_true h2; have := rcs94 (by assumption) h3; have := ne_of_beq_false h4; have := eq_of_beq h5; repeat first | assumption | apply rcs1011 | apply gl0_1013 | apply gls1013 | apply fd_gl | apply fd0_1012 | apply fds1012 | apply fde1012 | apply fdc1012 | apply u90 | apply ss1016 | apply sv1017 | apply sv1056 | apply th1106 | apply ce85 | apply cc85' | apply vok_t | apply rmok | apply And.intro | apply ce95 | apply cc95)), (fun h6 => (fun h7 => (fun h8 => (by have := of_decide_eq_true h2; have := rcs94 (by assumption) h3; have := ne_of_beq_false h4; have := ne_of_beq_false h6; have := eq_of_beq h7; have := of_decide_eq_true h8; omega))))⟩))⟩), (fun h9 => (fun h10 => ⟨⟨(by have := of_decide_eq_true h9; repeat first | assumption | apply rcs1011 | apply gl0_1013 | apply gls1013 | apply fd_gl | apply fd0_1012 | apply fds1012 | apply fde1012 | apply fdc1012 | apply u90 | apply ss1016 | apply sv1017 | apply sv1056 | apply th1106 | apply ce85 | apply cc85' | apply vok_t | apply rmok | apply And.intro | apply ce95 | apply cc95), (by have := of_decide_eq_true h9; first | omega | (have := wrap64 (x := (v1_0 + 1)) (by omega) (by omega); omega))⟩, (by have := of_decide_eq_true h9; first | omega | (have := wrap64 (x := (v1_0 + 1)) (by omega) (by omega); omega))⟩))⟩)⟩, (fun h11 => ⟨⟨(by repeat first | assumption | apply rcs1011 | apply gl0_1013 | apply gls1013 | apply fd_gl | apply fd0_1012 | apply fds1012 | apply fde1012 | apply fdc1012 | apply u90 | apply ss1016 | apply sv1017 | apply sv1056 | apply th1106 | apply ce85 | apply cc85' | apply vok_t | apply rmok | apply And.intro | apply ce95 | apply cc95), (by repeat first | assumption | apply rcs1011 | apply gl0_1013 | apply gls1013 | apply fd_gl | apply fd0_1012 | apply fds1012 | apply fde1012 | apply fdc1012 | apply u90 | apply ss1016 | apply sv1017 | apply sv1056 | apply th1106 | apply ce85 | apply cc85' | apply vok_t | apply rmok | apply And.intro | apply ce95 | apply cc95)⟩, (by first | (with_reducible (repeat first | assumption | apply u205 | apply u161 | apply u167 | apply u164 | apply u227 | apply u202 | apply u208pp | apply u162_208pp | apply u168 | apply u206pp | apply u162_206pp | apply u207pp | apply u162_207pp | apply u165 | apply u163pp | apply u162_163pp | apply u166pp | apply u162_166pp | apply u8part | apply u107 | apply u90); done) | assumption)⟩)⟩)
theorem k1012 : XOk Tryz.prog 12 F1012.ans := Fq.ok ⟨_, _, Tryz.func12, rfl, by kernel_rfl⟩ pc1012
end Go.Proofs.YtchhfojblmceiaaGreat
/-
  Walks: what functions of the program answer, as functions.
-/
namespace Go.Proofs.YtchhfojblmceiaaGreat
open Go Go.Vc Go.RowKit
set_option maxRecDepth 100000
set_option maxHeartbeats 4000000
noncomputable def g1013_m1 (x0 : Sl T122) (v1_0 : Int) (v1_1 : Int) : Int := (bif ((x0.at' (Int.toNat v1_0)).c0 == 1) then (x0.at' (Int.toNat v1_0)).c1 else v1_1)
noncomputable def g1013_m2 (x0 : Sl T122) (v1_0 : Int) (v1_2 : Int) : Int := (bif ((x0.at' (Int.toNat v1_0)).c0 == 1) then (x0.at' (Int.toNat v1_0)).c2 else v1_2)
noncomputable def g1013_m4 (x0 : Sl T122) (v1_0 : Int) (v1_9 : Int) : Bool := (bif ((x0.at' (Int.toNat v1_0)).c0 == 2) then (decide ((x0.at' (Int.toNat v1_0)).c3 > v1_9)) else false)
noncomputable def g1013_l29 (x0 : Sl T122) (v1_0 : Int) (v1_9 : Int) (v1_11 : Sl T68) : Nat → Int → Sl T68 → Int × Sl T68 × Int × Int × Bool
  | 0, _, _ => default
  | k + 1, v29_0, v29_1 => (bif (decide (v29_0 < (x0.at' (Int.toNat v1_0)).c3)) then (g1013_l29 x0 v1_0 v1_9 v1_11 k (IntKind.i64.wrap (v29_0 + 1)) (Sl.app v29_1 (Sl.lit ([(v1_11.at' (Int.toNat (IntKind.i64.wrap ((IntKind.i64.wrap (v29_0 - v1_9)) - 1))))] : List T68)))) else (v29_0, v29_1, v29_0, (x0.at' (Int.toNat v1_0)).c3, (decide (v29_0 < (x0.at' (Int.toNat v1_0)).c3))))
noncomputable def g1013_r5 (x0 : Sl T122) (v1_0 : Int) (v1_9 : Int) (v1_11 : Sl T68) : Int × Sl T68 × Int × Int × Bool := g1013_l29 x0 v1_0 v1_9 v1_11 ((Int.toNat ((x0.at' (Int.toNat v1_0)).c3 - (IntKind.i64.wrap (v1_9 + 1)))) + 1) (IntKind.i64.wrap (v1_9 + 1)) (nilSl : Sl T68)
noncomputable def g1013_m6 (x0 : Sl T122) (v1_0 : Int) (v1_9 : Int) (v1_11 : Sl T68) : Sl T68 := (bif (g1013_m4 x0 v1_0 v1_9) then (Sl.app (g1013_r5 x0 v1_0 v1_9 v1_11).2.1 (Sl.lit ([(⟨(x0.at' (Int.toNat v1_0)).c4, (x0.at' (Int.toNat v1_0)).c5, (x0.at' (Int.toNat v1_0)).c6, (x0.at' (Int.toNat v1_0)).c7, (x0.at' (Int.toNat v1_0)).c8, (x0.at' (Int.toNat v1_0)).c9, (x0.at' (Int.toNat v1_0)).c10, (x0.at' (Int.toNat v1_0)).c11, (x0.at' (Int.toNat v1_0)).c12, (x0.at' (Int.toNat v1_0)).c13⟩ : T68)] : List T68))) else v1_11)
noncomputable def g1013_p7 (x0 : Sl T122) (v1_0 : Int) (v1_9 : Int) (v1_10 : Int) (v1_11 : Sl T68) : Bool := (bif (g1013_m4 x0 v1_0 v1_9) then (bif (decide ((x0.at' (Int.toNat v1_0)).c3 > (IntKind.i64.wrap ((g125 v1_9 v1_11) + 1)))) then false else (bif ((g55 v1_9 v1_10 (Sl.app (g1013_r5 x0 v1_0 v1_9 v1_11).2.1 (Sl.lit ([(⟨(x0.at' (Int.toNat v1_0)).c4, (x0.at' (Int.toNat v1_0)).c5, (x0.at' (Int.toNat v1_0)).c6, (x0.at' (Int.toNat v1_0)).c7, (x0.at' (Int.toNat v1_0)).c8, (x0.at' (Int.toNat v1_0)).c9, (x0.at' (Int.toNat v1_0)).c10, (x0.at' (Int.toNat v1_0)).c11, (x0.at' (Int.toNat v1_0)).c12, (x0.at' (Int.toNat v1_0)).c13⟩ : T68)] : List T68)))) != 0) then false else true)) else true)
noncomputable def g1013_m9 (x0 : Sl T122) (v1_0 : Int) (v1_3 : Int) : Bool := (bif ((x0.at' (Int.toNat v1_0)).c0 == 3) then (decide ((x0.at' (Int.toNat v1_0)).c14 > v1_3)) else false)
noncomputable def g1013_m10 (x0 : Sl T122) (v1_0 : Int) (v1_3 : Int) : Int := (bif (g1013_m9 x0 v1_0 v1_3) then (x0.at' (Int.toNat v1_0)).c14 else v1_3)
noncomputable def g1013_m11 (x0 : Sl T122) (v1_0 : Int) (v1_3 : Int) (v1_4 : Int) : Int := (bif (g1013_m9 x0 v1_0 v1_3) then (x0.at' (Int.toNat v1_0)).c15 else v1_4)
noncomputable def g1013_m12 (x0 : Sl T122) (v1_0 : Int) (v1_3 : Int) (v1_5 : Int) : Int := (bif (g1013_m9 x0 v1_0 v1_3) then (x0.at' (Int.toNat v1_0)).c16 else v1_5)
noncomputable def g1013_m13 (x0 : Sl T122) (v1_0 : Int) (v1_3 : Int) (v1_6 : Sl T175) : Sl T175 := (bif (g1013_m9 x0 v1_0 v1_3) then (x0.at' (Int.toNat v1_0)).c17 else v1_6)
noncomputable def g1013_m14 (x0 : Sl T122) (v1_0 : Int) (v1_3 : Int) (v1_7 : Int) : Int := (bif (g1013_m9 x0 v1_0 v1_3) then (x0.at' (Int.toNat v1_0)).c18 else v1_7)
noncomputable def g1013_m15 (x0 : Sl T122) (v1_0 : Int) (v1_3 : Int) (v1_8 : Sl T137) : Sl T137 := (bif (g1013_m9 x0 v1_0 v1_3) then (x0.at' (Int.toNat v1_0)).c19 else v1_8)
noncomputable def g1013_m16 (x0 : Sl T122) (v1_0 : Int) (v1_3 : Int) (v1_9 : Int) (v1_10 : Int) (v1_11 : Sl T68) : Int := (bif (g1013_m9 x0 v1_0 v1_3) then (g178_0 v1_9 v1_10 (g1013_m6 x0 v1_0 v1_9 v1_11) (x0.at' (Int.toNat v1_0)).c14 (x0.at' (Int.toNat v1_0)).c15) else v1_9)
noncomputable def g1013_m17 (x0 : Sl T122) (v1_0 : Int) (v1_3 : Int) (v1_9 : Int) (v1_10 : Int) (v1_11 : Sl T68) : Int := (bif (g1013_m9 x0 v1_0 v1_3) then (g178_1 v1_9 v1_10 (g1013_m6 x0 v1_0 v1_9 v1_11) (x0.at' (Int.toNat v1_0)).c14 (x0.at' (Int.toNat v1_0)).c15) else v1_10)
noncomputable def g1013_m18 (x0 : Sl T122) (v1_0 : Int) (v1_3 : Int) (v1_9 : Int) (v1_10 : Int) (v1_11 : Sl T68) : Sl T68 := (bif (g1013_m9 x0 v1_0 v1_3) then (g178_2 v1_9 v1_10 (g1013_m6 x0 v1_0 v1_9 v1_11) (x0.at' (Int.toNat v1_0)).c14 (x0.at' (Int.toNat v1_0)).c15) else (g1013_m6 x0 v1_0 v1_9 v1_11))
noncomputable def g1013_p19 (x0 : Sl T122) (v1_0 : Int) (v1_9 : Int) (v1_10 : Int) (v1_11 : Sl T68) : Bool := (bif ((g96 (x0.at' (Int.toNat v1_0)).c0 (x0.at' (Int.toNat v1_0)).c1 (x0.at' (Int.toNat v1_0)).c2 (x0.at' (Int.toNat v1_0)).c3 (x0.at' (Int.toNat v1_0)).c4 (x0.at' (Int.toNat v1_0)).c5 (x0.at' (Int.toNat v1_0)).c6 (x0.at' (Int.toNat v1_0)).c7 (x0.at' (Int.toNat v1_0)).c8 (x0.at' (Int.toNat v1_0)).c9 (x0.at' (Int.toNat v1_0)).c10 (x0.at' (Int.toNat v1_0)).c11 (x0.at' (Int.toNat v1_0)).c12 (x0.at' (Int.toNat v1_0)).c13 (x0.at' (Int.toNat v1_0)).c14 (x0.at' (Int.toNat v1_0)).c15 (x0.at' (Int.toNat v1_0)).c16 (x0.at' (Int.toNat v1_0)).c17 (x0.at' (Int.toNat v1_0)).c18 (x0.at' (Int.toNat v1_0)).c19) != 0) then false else (bif (g1013_p7 x0 v1_0 v1_9 v1_10 v1_11) then true else false))
noncomputable def g1013_l1 (x0 : Sl T122) : Nat → Int → Int → Int → Int → Int → Int → Sl T175 → Int → Sl T137 → Int → Int → Sl T68 → Bool × Int × Int × Int × Int × Int × Sl T175 × Int × Sl T137 × Int × Int × Sl T68 × Int × Int × Int × Int × Int × Sl T175 × Int × Sl T137 × Int × Int × Sl T68 × Int
  | 0, _, _, _, _, _, _, _, _, _, _, _, _ => default
  | k + 1, v1_0, v1_1, v1_2, v1_3, v1_4, v1_5, v1_6, v1_7, v1_8, v1_9, v1_10, v1_11 => (bif (decide (v1_0 < (x0.n : Int))) then (bif (g1013_p19 x0 v1_0 v1_9 v1_10 v1_11) then (g1013_l1 x0 k (IntKind.i64.wrap (v1_0 + 1)) (g1013_m1 x0 v1_0 v1_1) (g1013_m2 x0 v1_0 v1_2) (g1013_m10 x0 v1_0 v1_3) (g1013_m11 x0 v1_0 v1_3 v1_4) (g1013_m12 x0 v1_0 v1_3 v1_5) (g1013_m13 x0 v1_0 v1_3 v1_6) (g1013_m14 x0 v1_0 v1_3 v1_7) (g1013_m15 x0 v1_0 v1_3 v1_8) (g1013_m16 x0 v1_0 v1_3 v1_9 v1_10 v1_11) (g1013_m17 x0 v1_0 v1_3 v1_9 v1_10 v1_11) (g1013_m18 x0 v1_0 v1_3 v1_9 v1_10 v1_11)) else (bif ((g96 (x0.at' (Int.toNat v1_0)).c0 (x0.at' (Int.toNat v1_0)).c1 (x0.at' (Int.toNat v1_0)).c2 (x0.at' (Int.toNat v1_0)).c3 (x0.at' (Int.toNat v1_0)).c4 (x0.at' (Int.toNat v1_0)).c5 (x0.at' (Int.toNat v1_0)).c6 (x0.at' (Int.toNat v1_0)).c7 (x0.at' (Int.toNat v1_0)).c8 (x0.at' (Int.toNat v1_0)).c9 (x0.at' (Int.toNat v1_0)).c10 (x0.at' (Int.toNat v1_0)).c11 (x0.at' (Int.toNat v1_0)).c12 (x0.at' (Int.toNat v1_0)).c13 (x0.at' (Int.toNat v1_0)).c14 (x0.at' (Int.toNat v1_0)).c15 (x0.at' (Int.toNat v1_0)).c16 (x0.at' (Int.toNat v1_0)).c17 (x0.at' (Int.toNat v1_0)).c18 (x0.at' (Int.toNat v1_0)).c19) != 0) then (true, default, default, default, default, default, default, default, default, default, default, default, 0, 0, 0, 0, 0, (nilSl : Sl T175), 0, (nilSl : Sl T137), 0, 0, (nilSl : Sl T68), (g96 (x0.at' (Int.toNat v1_0)).c0 (x0.at' (Int.toNat v1_0)).c1 (x0.at' (Int.toNat v1_0)).c2 (x0.at' (Int.toNat v1_0)).c3 (x0.at' (Int.toNat v1_0)).c4 (x0.at' (Int.toNat v1_0)).c5 (x0.at' (Int.toNat v1_0)).c6 (x0.at' (Int.toNat v1_0)).c7 (x0.at' (Int.toNat v1_0)).c8 (x0.at' (Int.toNat v1_0)).c9 (x0.at' (Int.toNat v1_0)).c10 (x0.at' (Int.toNat v1_0)).c11 (x0.at' (Int.toNat v1_0)).c12 (x0.at' (Int.toNat v1_0)).c13 (x0.at' (Int.toNat v1_0)).c14 (x0.at' (Int.toNat v1_0)).c15 (x0.at' (Int.toNat v1_0)).c16 (x0.at' (Int.toNat v1_0)).c17 (x0.at' (Int.toNat v1_0)).c18 (x0.at' (Int.toNat v1_0)).c19)) else (true, default, default, default, default, default, default, default, default, default, default, default, 0, 0, 0, 0, 0, (nilSl : Sl T175), 0, (nilSl : Sl T137), 0, 0, (nilSl : Sl T68), 10))) else (false, v1_1, v1_2, v1_3, v1_4, v1_5, v1_6, v1_7, v1_8, v1_9, v1_10, v1_11, default, default, default, default, default, default, default, default, default, default, default, default))
noncomputable def g1013_r20 (x0 : Sl T122) : Bool × Int × Int × Int × Int × Int × Sl T175 × Int × Sl T137 × Int × Int × Sl T68 × Int × Int × Int × Int × Int × Sl T175 × Int × Sl T137 × Int × Int × Sl T68 × Int := g1013_l1 x0 ((Int.toNat ((x0.n : Int) - 0)) + 1) 0 g36_0 g36_1 g36_2 g36_3 g36_4 g36_5 g36_6 g36_7 g36_8 g36_9 g36_10
noncomputable def g1013_p21 (x0 : Sl T122) : Bool := (bif (g1013_r20 x0).1 then false else true)
noncomputable def g1013_0_0 (x0 : Sl T122) : Int := (bif (g1013_p21 x0) then (g1013_r20 x0).2.1 else (g1013_r20 x0).2.2.2.2.2.2.2.2.2.2.2.2.1)
noncomputable def g1013_0_1 (x0 : Sl T122) : Int := (bif (g1013_p21 x0) then (g1013_r20 x0).2.2.1 else (g1013_r20 x0).2.2.2.2.2.2.2.2.2.2.2.2.2.1)
noncomputable def g1013_0_2 (x0 : Sl T122) : Int := (bif (g1013_p21 x0) then (g1013_r20 x0).2.2.2.1 else (g1013_r20 x0).2.2.2.2.2.2.2.2.2.2.2.2.2.2.1)
noncomputable def g1013_0_3 (x0 : Sl T122) : Int := (bif (g1013_p21 x0) then (g1013_r20 x0).2.2.2.2.1 else (g1013_r20 x0).2.2.2.2.2.2.2.2.2.2.2.2.2.2.2.1)
noncomputable def g1013_0_4 (x0 : Sl T122) : Int := (bif (g1013_p21 x0) then (g85_0 (g1013_r20 x0).2.2.2.2.2.1) else (g1013_r20 x0).2.2.2.2.2.2.2.2.2.2.2.2.2.2.2.2.1)
noncomputable def g1013_0_5 (x0 : Sl T122) : Sl T175 := (bif (g1013_p21 x0) then (g85_1 (g1013_r20 x0).2.2.2.2.2.2.1) else (g1013_r20 x0).2.2.2.2.2.2.2.2.2.2.2.2.2.2.2.2.2.1)
noncomputable def g1013_0_6 (x0 : Sl T122) : Int := (bif (g1013_p21 x0) then (g85_2 (g1013_r20 x0).2.2.2.2.2.2.2.1) else (g1013_r20 x0).2.2.2.2.2.2.2.2.2.2.2.2.2.2.2.2.2.2.1)
noncomputable def g1013_0_7 (x0 : Sl T122) : Sl T137 := (bif (g1013_p21 x0) then (g85_3 (g1013_r20 x0).2.2.2.2.2.2.2.2.1) else (g1013_r20 x0).2.2.2.2.2.2.2.2.2.2.2.2.2.2.2.2.2.2.2.1)
noncomputable def g1013_0_8 (x0 : Sl T122) : Int := (bif (g1013_p21 x0) then (g54_0 (g1013_r20 x0).2.2.2.2.2.2.2.2.2.1) else (g1013_r20 x0).2.2.2.2.2.2.2.2.2.2.2.2.2.2.2.2.2.2.2.2.1)
noncomputable def g1013_0_9 (x0 : Sl T122) : Int := (bif (g1013_p21 x0) then (g54_1 (g1013_r20 x0).2.2.2.2.2.2.2.2.2.2.1) else (g1013_r20 x0).2.2.2.2.2.2.2.2.2.2.2.2.2.2.2.2.2.2.2.2.2.1)
noncomputable def g1013_0_10 (x0 : Sl T122) : Sl T68 := (bif (g1013_p21 x0) then (g54_2 (g1013_r20 x0).2.2.2.2.2.2.2.2.2.2.2.1) else (g1013_r20 x0).2.2.2.2.2.2.2.2.2.2.2.2.2.2.2.2.2.2.2.2.2.2.1)
noncomputable def g1013_1 (x0 : Sl T122) : Int := (bif (g1013_p21 x0) then 0 else (g1013_r20 x0).2.2.2.2.2.2.2.2.2.2.2.2.2.2.2.2.2.2.2.2.2.2.2)
theorem l125 (a : Int) (s : Sl T68) (h : 0 ≤ a ∧ a ≤ 1048576 ∧ s.n ≤ 200) : g125 a s = a + (s.n : Int) := (last0 a s h.1 h.2.1 h.2.2).2
theorem gl0_1013 : GL g36_8 g36_9 g36_10 := lv53' ⟨by decide, by decide, ⟨fun _ => rfl, fun _ => rfl⟩, Nat.zero_le _, by decide, fun i hi => absurd hi (Nat.not_lt_zero i), fun i hi => absurd hi (Nat.not_lt_zero _)⟩
theorem gls1013 {x0 : Sl T122} {v0 v3 b t : Int} {s : Sl T68} (hp : RCS x0) (h : GL b t s) (h19 : (g1013_p19 x0 v0 b t s) = true) : GL (g1013_m16 x0 v0 v3 b t s) (g1013_m17 x0 v0 v3 b t s) (g1013_m18 x0 v0 v3 b t s) := by
  unfold g1013_p19 at h19
  have hr := rcs96 (i := Int.toNat v0) hp
  cases e96 : (g96 (x0.at' (Int.toNat v0)).c0 (x0.at' (Int.toNat v0)).c1 (x0.at' (Int.toNat v0)).c2 (x0.at' (Int.toNat v0)).c3 (x0.at' (Int.toNat v0)).c4 (x0.at' (Int.toNat v0)).c5 (x0.at' (Int.toNat v0)).c6 (x0.at' (Int.toNat v0)).c7 (x0.at' (Int.toNat v0)).c8 (x0.at' (Int.toNat v0)).c9 (x0.at' (Int.toNat v0)).c10 (x0.at' (Int.toNat v0)).c11 (x0.at' (Int.toNat v0)).c12 (x0.at' (Int.toNat v0)).c13 (x0.at' (Int.toNat v0)).c14 (x0.at' (Int.toNat v0)).c15 (x0.at' (Int.toNat v0)).c16 (x0.at' (Int.toNat v0)).c17 (x0.at' (Int.toNat v0)).c18 (x0.at' (Int.toNat v0)).c19 != 0) with
  | true => rw [e96] at h19; cases h19
  | false =>
    have hr := hr e96
    rw [e96] at h19
    have h7 : g1013_p7 x0 v0 b t s = true := by
      cases e : g1013_p7 x0 v0 b t s with
      | true => rfl
      | false => rw [e] at h19; cases h19
    have h6 : GL b t (g1013_m6 x0 v0 b s) := by
      unfold g1013_p7 at h7
      unfold g1013_m6
      cases e4 : g1013_m4 x0 v0 b with
      | false => exact h
      | true =>
        rw [e4] at h7
        simp only [cond_true] at h7 ⊢
        generalize decide ((x0.at' (Int.toNat v0)).c3 > (IntKind.i64.wrap ((g125 b s) + 1))) = bb at h7
        cases bb with
        | true => cases h7
        | false =>
          simp only [cond_false] at h7
          refine lv53' (lv_of ?_)
          generalize g55 b t _ = z at h7 ⊢
          cases e : (z != 0) with
          | true => rw [e] at h7; cases h7
          | false => exact bne_eq_false_iff_eq.1 e
    unfold g1013_m16 g1013_m17 g1013_m18
    cases e9 : g1013_m9 x0 v0 v3 with
    | false => exact h6
    | true =>
      unfold g1013_m9 at e9
      have e3 : (x0.at' (Int.toNat v0)).c0 = 3 := by
        cases e : ((x0.at' (Int.toNat v0)).c0 == 3) with
        | true => exact eq_of_beq e
        | false => rw [e] at e9; cases e9
      exact gl178 h6 (by omega) (by omega)
theorem c1013 (x0 : Sl T122) (v0 v3 b t : Int) (s : Sl T68) (h : RCS x0 ∧ GL b t s ∧ (g1013_p19 x0 v0 b t s) = true) : 0 ≤ g1013_m16 x0 v0 v3 b t s ∧ g1013_m16 x0 v0 v3 b t s ≤ 1048576 ∧ (g1013_m18 x0 v0 v3 b t s).n ≤ 200 ∧ g1013_m16 x0 v0 v3 b t s + ((g1013_m18 x0 v0 v3 b t s).n : Int) ≤ 1048576 := by
  have := chk53 _ _ _ (gls1013 (v3 := v3) h.1 h.2.1 h.2.2)
  omega
noncomputable def F1013 : Fq := ⟨[.v (.sl E122)], fun x0 => ⟨⟨some (RCS x0), .tup [.agg [.int .i64 (g1013_0_0 x0), .int .i64 (g1013_0_1 x0), .int .i64 (g1013_0_2 x0), .int .i64 (g1013_0_3 x0), .int .i64 (g1013_0_4 x0), ofSl 8 e175 (g1013_0_5 x0), .int .i64 (g1013_0_6 x0), ofSl 7 e137 (g1013_0_7 x0), .int .i64 (g1013_0_8 x0), .int .i64 (g1013_0_9 x0), ofSl 10 e68 (g1013_0_10 x0)], .int .i64 (g1013_1 x0)]⟩⟩⟩
theorem pc1013 : FnOk Tryz.prog 13 F1013.sh _ (F1013.sh.flatMap Sh.bs) F1013.f [] :=
  fun x0 n0 _ hp => pure_of_exec (X := (mkX [(37, F36.ans), (43, F54.ans), (40, F55.ans), (42, F85.ans), (38, F96.ans), (39, F125.ans), (41, F178.ans)])) (R := ⟨.pure, [.cell 2 46, .tmp 3], [(.c 0 0, kI), (.c 0 1, kI), (.c 0 2, kI), (.c 0 3, kI), (.c 0 4, kI), (.c 0 5, .sl E175), (.c 0 6, kI), (.c 0 7, .sl E137), (.c 0 8, kI), (.c 0 9, kI), (.c 0 10, .sl E68), (.t 1, kI)], ⟨[.agg (us 11 []), U], []⟩⟩) (h := (.s .z (.s .z (.j ⟨28, [], [], [], .f⟩ (.s .z (.lpv ⟨61, [], [], [(.t 5, kI), (.h 1 0, kI), (.h 1 1, kI), (.h 1 2, kI), (.h 1 3, kI), (.h 1 4, kI), (.h 1 5, .sl E175), (.h 1 6, kI), (.h 1 7, .sl E137), (.h 1 8, kI), (.h 1 9, kI), (.h 1 10, .sl E68)], some 0, true, 28, [], [(.h 1 0, kI), (.h 1 1, kI), (.h 1 2, kI), (.h 1 3, kI), (.h 1 4, kI), (.h 1 5, .sl E175), (.h 1 6, kI), (.h 1 7, .sl E137), (.h 1 8, kI), (.h 1 9, kI), (.h 1 10, .sl E68)], fun k (s : Int × Int × Int × Int × Int × Int × Sl T175 × Int × Sl T137 × Int × Int × Sl T68) => g1013_l1 x0 k s.1 s.2.1 s.2.2.1 s.2.2.2.1 s.2.2.2.2.1 s.2.2.2.2.2.1 s.2.2.2.2.2.2.1 s.2.2.2.2.2.2.2.1 s.2.2.2.2.2.2.2.2.1 s.2.2.2.2.2.2.2.2.2.1 s.2.2.2.2.2.2.2.2.2.2.1 s.2.2.2.2.2.2.2.2.2.2.2, (.b (.b .f (.b .f .l)) .f), fun (s : Int × Int × Int × Int × Int × Int × Sl T175 × Int × Sl T137 × Int × Int × Sl T68) => (GL s.2.2.2.2.2.2.2.2.2.1 s.2.2.2.2.2.2.2.2.2.2.1 s.2.2.2.2.2.2.2.2.2.2.2 ∧ 0 ≤ s.1 ∧ s.1 ≤ (x0.n : Int) ∧ 0 ≤ s.2.2.2.2.2.2.2.2.2.1 ∧ s.2.2.2.2.2.2.2.2.2.1 ≤ 1048576 ∧ s.2.2.2.2.2.2.2.2.2.2.2.n ≤ 200 ∧ s.2.2.2.2.2.2.2.2.2.1 + (s.2.2.2.2.2.2.2.2.2.2.2.n : Int) ≤ 1048576), fun (s : Int × Int × Int × Int × Int × Int × Sl T175 × Int × Sl T137 × Int × Int × Sl T68) => (Int.toNat ((x0.n : Int) - s.1)), none⟩ (fun (u1 : Int × Int × Int × Int × Int × Int × Sl T175 × Int × Sl T137 × Int × Int × Sl T68) => (.s .z (.j ⟨5230326376541674510646797934688509, [], [(.h 1 2, kI), (.h 1 3, kI), (.h 1 4, kI), (.h 1 5, .sl E175), (.h 1 6, kI), (.h 1 7, .sl E137), (.h 1 8, kI), (.h 1 9, kI), (.h 1 10, .sl E68)], [], (.b .f (.b .l .l))⟩ (.s .z (.s .z (.s .z (.j ⟨972978429, [], [(.h 1 0, kI), (.h 1 1, kI)], [], .f⟩ .z (.jc ⟨71400509307133, [.b 3, .b 4, .b 5], [(.h 1 10, .sl E68)], [], .f⟩ [.dat (.h 1 10) E68] (.j ⟨71400509307133, [], [(.t 39, kB), (.t 46, kB)], [], .f⟩ .z (.s (.s .z (.s .z (.j ⟨1032999584392246361085, [], [], [], .f⟩ (.s .z (.lp ⟨73768892559349677053, [], [(.h 3 2, E68)], [(.t 9, kI), (.h 4 0, .blk E68)], some 2, false, 1032999584392246361085, [], [(.t 9, kI), (.h 4 0, .blk E68), (.t 66, kI), (.t 68, kI), (.t 69, kB)], fun k (s : Int × Sl T68) => g1013_l29 x0 u1.1 u1.2.2.2.2.2.2.2.2.2.1 u1.2.2.2.2.2.2.2.2.2.2.2 k s.1 s.2, .f, fun (s : Int × Sl T68) => (((IntKind.i64.wrap (u1.2.2.2.2.2.2.2.2.2.1 + 1)) ≤ s.1 ∧ (s.1 ≤ (x0.at' (Int.toNat u1.1)).c3 ∨ s.1 = (IntKind.i64.wrap (u1.2.2.2.2.2.2.2.2.2.1 + 1)))) ∧ ((s.2.n : Nat) : Int) ≤ 0 + (s.1 - (IntKind.i64.wrap (u1.2.2.2.2.2.2.2.2.2.1 + 1)))), fun (s : Int × Sl T68) => (Int.toNat ((x0.at' (Int.toNat u1.1)).c3 - s.1)), some fun (r : Int × Sl T68 × Int × Int × Bool) => ((r.2.1.n : Nat) : Int) ≤ 0 + max ((x0.at' (Int.toNat u1.1)).c3 - (IntKind.i64.wrap (u1.2.2.2.2.2.2.2.2.2.1 + 1))) 0⟩ .z)) .z))) .z)) (.j ⟨5230326376541674510646797934688509, [], [(.t 104, kB), (.t 112, kB)], [], .f⟩ .z .z)))))) .z))))) .z)))) (ms := []) (p := (((GL g36_8 g36_9 g36_10 ∧ 0 ≤ (0 : Int) ∧ (0 : Int) ≤ (x0.n : Int) ∧ 0 ≤ g36_8 ∧ g36_8 ≤ 1048576 ∧ g36_10.n ≤ 200 ∧ g36_8 + (g36_10.n : Int) ≤ 1048576)) ∧ (∀ (v1_0 : Int) (v1_1 : Int) (v1_2 : Int) (v1_3 : Int) (v1_4 : Int) (v1_5 : Int) (v1_6 : Sl T175) (v1_7 : Int) (v1_8 : Sl T137) (v1_9 : Int) (v1_10 : Int) (v1_11 : Sl T68), (GL v1_9 v1_10 v1_11 ∧ 0 ≤ v1_0 ∧ v1_0 ≤ (x0.n : Int) ∧ 0 ≤ v1_9 ∧ v1_9 ≤ 1048576 ∧ v1_11.n ≤ 200 ∧ v1_9 + (v1_11.n : Int) ≤ 1048576) → (((decide (v1_0 < (x0.n : Int))) = true → (((0 : Int) ≤ v1_0 ∧ v1_0 < ((x0.n : Nat) : Int)) ∧ (((g96 (x0.at' (Int.toNat v1_0)).c0 (x0.at' (Int.toNat v1_0)).c1 (x0.at' (Int.toNat v1_0)).c2 (x0.at' (Int.toNat v1_0)).c3 (x0.at' (Int.toNat v1_0)).c4 (x0.at' (Int.toNat v1_0)).c5 (x0.at' (Int.toNat v1_0)).c6 (x0.at' (Int.toNat v1_0)).c7 (x0.at' (Int.toNat v1_0)).c8 (x0.at' (Int.toNat v1_0)).c9 (x0.at' (Int.toNat v1_0)).c10 (x0.at' (Int.toNat v1_0)).c11 (x0.at' (Int.toNat v1_0)).c12 (x0.at' (Int.toNat v1_0)).c13 (x0.at' (Int.toNat v1_0)).c14 (x0.at' (Int.toNat v1_0)).c15 (x0.at' (Int.toNat v1_0)).c16 (x0.at' (Int.toNat v1_0)).c17 (x0.at' (Int.toNat v1_0)).c18 (x0.at' (Int.toNat v1_0)).c19) != 0) = false → (((g1013_m4 x0 v1_0 v1_9) = true → ((decide ((x0.at' (Int.toNat v1_0)).c3 > (IntKind.i64.wrap ((g125 v1_9 v1_11) + 1)))) = false → ((((((IntKind.i64.wrap (v1_9 + 1)) ≤ (IntKind.i64.wrap (v1_9 + 1)) ∧ ((IntKind.i64.wrap (v1_9 + 1)) ≤ (x0.at' (Int.toNat v1_0)).c3 ∨ (IntKind.i64.wrap (v1_9 + 1)) = (IntKind.i64.wrap (v1_9 + 1)))) ∧ ((0 : Nat) : Int) ≤ 0 + ((IntKind.i64.wrap (v1_9 + 1)) - (IntKind.i64.wrap (v1_9 + 1))))) ∧ (∀ (v29_0 : Int) (v29_1 : Sl T68), (((IntKind.i64.wrap (v1_9 + 1)) ≤ v29_0 ∧ (v29_0 ≤ (x0.at' (Int.toNat v1_0)).c3 ∨ v29_0 = (IntKind.i64.wrap (v1_9 + 1)))) ∧ ((v29_1.n : Nat) : Int) ≤ 0 + (v29_0 - (IntKind.i64.wrap (v1_9 + 1)))) → (((decide (v29_0 < (x0.at' (Int.toNat v1_0)).c3)) = true → (((0 : Int) ≤ (IntKind.i64.wrap ((IntKind.i64.wrap (v29_0 - v1_9)) - 1)) ∧ (IntKind.i64.wrap ((IntKind.i64.wrap (v29_0 - v1_9)) - 1)) < ((v1_11.n : Nat) : Int)) ∧ (v29_1.n + 1 ≤ 549755813888))) ∧ (((decide (v29_0 < (x0.at' (Int.toNat v1_0)).c3)) = true → ((((IntKind.i64.wrap (v1_9 + 1)) ≤ (IntKind.i64.wrap (v29_0 + 1)) ∧ ((IntKind.i64.wrap (v29_0 + 1)) ≤ (x0.at' (Int.toNat v1_0)).c3 ∨ (IntKind.i64.wrap (v29_0 + 1)) = (IntKind.i64.wrap (v1_9 + 1)))) ∧ (((v29_1.n + 1) : Nat) : Int) ≤ 0 + ((IntKind.i64.wrap (v29_0 + 1)) - (IntKind.i64.wrap (v1_9 + 1)))) ∧ (Int.toNat ((x0.at' (Int.toNat v1_0)).c3 - (IntKind.i64.wrap (v29_0 + 1)))) < (Int.toNat ((x0.at' (Int.toNat v1_0)).c3 - v29_0)))) ∧ ((decide (v29_0 < (x0.at' (Int.toNat v1_0)).c3)) = false → (((v29_1.n : Nat) : Int) ≤ 0 + max ((x0.at' (Int.toNat v1_0)).c3 - (IntKind.i64.wrap (v1_9 + 1))) 0)))))) ∧ (((((g1013_r5 x0 v1_0 v1_9 v1_11).2.1.n : Nat) : Int) ≤ 0 + max ((x0.at' (Int.toNat v1_0)).c3 - (IntKind.i64.wrap (v1_9 + 1))) 0) → ((g1013_r5 x0 v1_0 v1_9 v1_11).2.1.n + 1 ≤ 549755813888))))) ∧ ((g1013_p7 x0 v1_0 v1_9 v1_10 v1_11) = true → ((g1013_m9 x0 v1_0 v1_3) = true → (0 ≤ v1_9 ∧ v1_9 ≤ 1048576 ∧ (x0.at' (Int.toNat v1_0)).c14 ≤ 9223372036854775807))))))) ∧ ((decide (v1_0 < (x0.n : Int))) = true → ((g1013_p19 x0 v1_0 v1_9 v1_10 v1_11) = true → ((GL (g1013_m16 x0 v1_0 v1_3 v1_9 v1_10 v1_11) (g1013_m17 x0 v1_0 v1_3 v1_9 v1_10 v1_11) (g1013_m18 x0 v1_0 v1_3 v1_9 v1_10 v1_11) ∧ 0 ≤ (IntKind.i64.wrap (v1_0 + 1)) ∧ (IntKind.i64.wrap (v1_0 + 1)) ≤ (x0.n : Int) ∧ 0 ≤ (g1013_m16 x0 v1_0 v1_3 v1_9 v1_10 v1_11) ∧ (g1013_m16 x0 v1_0 v1_3 v1_9 v1_10 v1_11) ≤ 1048576 ∧ (g1013_m18 x0 v1_0 v1_3 v1_9 v1_10 v1_11).n ≤ 200 ∧ (g1013_m16 x0 v1_0 v1_3 v1_9 v1_10 v1_11) + ((g1013_m18 x0 v1_0 v1_3 v1_9 v1_10 v1_11).n : Int) ≤ 1048576) ∧ (Int.toNat ((x0.n : Int) - (IntKind.i64.wrap (v1_0 + 1)))) < (Int.toNat ((x0.n : Int) - v1_0))))))))) (mkX_ok ⟨k36, k54, k55, k85, k96, k125, k178, trivial⟩) Tryz.func13 rfl rfl (by kernel_rfl) (⟨⟨(by have := (show g36_8 = 0 from rfl); have := (show (g36_10).n = 0 from rfl); repeat first | assumption | apply rcs1011 | apply gl0_1013 | apply gls1013 | apply fd_gl | apply fd0_1012 | apply fds1012 | apply fde1012 | apply fdc1012 | apply u90 | apply ss1016 | apply sv1017 | apply sv1056 | apply th1106 | apply ce85 | apply cc85' | apply vok_t | apply rmok | apply And.intro | apply ce95 | apply cc95), (by have := (show g36_8 = 0 from rfl); have := (show (g36_10).n = 0 from rfl); omega)⟩, (fun v1_0 v1_1 v1_2 v1_3 v1_4 v1_5 v1_6 v1_7 v1_8 v1_9 v1_10 v1_11 hI1 => have hu1 := hI1.1; ⟨(fun h2 => ⟨(by have := of_decide_eq_true h2; have := (show g36_8 = 0 from rfl); have := (show (g36_10).n = 0 from rfl); omega), (fun h3 => ⟨(fun h4 => (fun h5 => ⟨⟨(by have := of_decide_eq_true h2; have := rcs96 (by assumption) h3; have := h4; (try simp [g1013_m4] at this); have := of_decide_eq_false h5; have := (show g36_8 = 0 from rfl); have := (show (g36_10).n = 0 from rfl); have := l125 v1_9 v1_11 (by omega); first | omega | (have := wrap64 (x := (v1_9 + 1)) (by omega) (by omega); have := wrap64 (x := ((g125 v1_9 v1_11) + 1)) (by omega) (by omega); omega)), (fun v29_0 v29_1 hI6 => ⟨(fun h7 => ⟨(by have := of_decide_eq_true h2; have := rcs96 (by assumption) h3; have := h4; (try simp [g1013_m4] at this); have := of_decide_eq_false h5; have := of_decide_eq_true h7; have := (show g36_8 = 0 from rfl); have := (show (g36_10).n = 0 from rfl); have := l125 v1_9 v1_11 (by omega); first | omega | (have := wrap64 (x := (v1_9 + 1)) (by omega) (by omega); have := wrap64 (x := ((g125 v1_9 v1_11) + 1)) (by omega) (by omega); have := wrap64 (x := (v29_0 - v1_9)) (by omega) (by omega); have := wrap64 (x := ((IntKind.i64.wrap (v29_0 - v1_9)) - 1)) (by omega) (by omega); omega)), (by have := of_decide_eq_true h2; have := rcs96 (by assumption) h3; have := h4; (try simp [g1013_m4] at this); have := of_decide_eq_false h5; have := of_decide_eq_true h7; have := (show g36_8 = 0 from rfl); have := (show (g36_10).n = 0 from rfl); have := l125 v1_9 v1_11 (by omega); first | omega | (have := wrap64 (x := (v1_9 + 1)) (by omega) (by omega); have := wrap64 (x := ((g125 v1_9 v1_11) + 1)) (by omega) (by omega); omega))⟩), ⟨(fun h8 => (by have := of_decide_eq_true h2; have := rcs96 (by assumption) h3; have := h4; (try simp [g1013_m4] at this); have := of_decide_eq_false h5; have := of_decide_eq_true h8; have := (show g36_8 = 0 from rfl); have := (show (g36_10).n = 0 from rfl); have := l125 v1_9 v1_11 (by omega); first | omega | (have := wrap64 (x := (v1_9 + 1)) (by omega) (by omega); have := wrap64 (x := ((g125 v1_9 v1_11) + 1)) (by omega) (by omega); have := wrap64 (x := (v29_0 + 1)) (by omega) (by omega); omega))), (fun h9 => (by have := of_decide_eq_true h2; have := rcs96 (by assumption) h3; have := h4; (try simp [g1013_m4] at this); have := of_decide_eq_false h5; have := of_decide_eq_false h9; have := (show g36_8 = 0 from rfl); have := (show (g36_10).n = 0 from rfl); have := l125 v1_9 v1_11 (by omega); first | omega | (have := wrap64 (x := (v1_9 + 1)) (by omega) (by omega); have := wrap64 (x := ((g125 v1_9 v1_11) + 1)) (by omega) (by omega); omega)))⟩⟩)⟩, (fun hF10 => (by have := of_decide_eq_true h2; have := rcs96 (by assumption) h3; have := h4; (try simp [g1013_m4] at this); have := of_decide_eq_false h5; have := (show g36_8 = 0 from rfl); have := (show (g36_10).n = 0 from rfl); have := l125 v1_9 v1_11 (by omega); first | omega | (have := wrap64 (x := (v1_9 + 1)) (by omega) (by omega); have := wrap64 (x := ((g125 v1_9 v1_11) + 1)) (by omega) (by omega); omega)))⟩)), (fun h11 => (fun h12 => (by have := of_decide_eq_true h2; have := rcs96 (by assumption) h3; have := h12; (try simp [g1013_m9] at this); have := (show g36_8 = 0 from rfl); have := (show (g36_10).n = 0 from rfl); omega)))⟩)⟩), (fun h13 => (fun h14 => ⟨⟨(by have := of_decide_eq_true h13; have := (show g36_8 = 0 from rfl); have := (show (g36_10).n = 0 from rfl); repeat first | assumption | apply rcs1011 | apply gl0_1013 | apply gls1013 | apply fd_gl | apply fd0_1012 | apply fds1012 | apply fde1012 | apply fdc1012 | apply u90 | apply ss1016 | apply sv1017 | apply sv1056 | apply th1106 | apply ce85 | apply cc85' | apply vok_t | apply rmok | apply And.intro | apply ce95 | apply cc95), (by have := of_decide_eq_true h13; have := (show g36_8 = 0 from rfl); have := (show (g36_10).n = 0 from rfl); have := c1013 x0 v1_0 v1_3 v1_9 v1_10 v1_11 (by repeat first | assumption | apply rcs1011 | apply gl0_1013 | apply gls1013 | apply fd_gl | apply fd0_1012 | apply fds1012 | apply fde1012 | apply fdc1012 | apply u90 | apply ss1016 | apply sv1017 | apply sv1056 | apply th1106 | apply ce85 | apply cc85' | apply vok_t | apply rmok | apply And.intro | apply ce95 | apply cc95); first | omega | (have := wrap64 (x := (v1_0 + 1)) (by omega) (by omega); omega))⟩, (by have := of_decide_eq_true h13; have := (show g36_8 = 0 from rfl); have := (show (g36_10).n = 0 from rfl); first | omega | (have := wrap64 (x := (v1_0 + 1)) (by omega) (by omega); omega))⟩))⟩)⟩)
theorem k1013 : XOk Tryz.prog 13 F1013.ans := Fq.ok ⟨_, _, Tryz.func13, rfl, by kernel_rfl⟩ pc1013
end Go.Proofs.YtchhfojblmceiaaGreat
/-
  Walks: what functions of the program answer, as functions.
-/
namespace Go.Proofs.YtchhfojblmceiaaGreat
open Go Go.Vc Go.RowKit
set_option maxRecDepth 100000
set_option maxHeartbeats 4000000
noncomputable def g1004_m1 (x0 : Sl T122) : Bool := (bif ((g1012_1 (g1011 x0)) == (g1013_1 x0)) then (bif (g37 (g1012_0_0 (g1011 x0)) (g1012_0_1 (g1011 x0)) (g1012_0_2 (g1011 x0)) (g1012_0_3 (g1011 x0)) (g1012_0_4 (g1011 x0)) (g1012_0_5 (g1011 x0)) (g1012_0_6 (g1011 x0)) (g1012_0_7 (g1011 x0)) (g1012_0_8 (g1011 x0)) (g1012_0_9 (g1011 x0)) (g1012_0_10 (g1011 x0)) (g1013_0_0 x0) (g1013_0_1 x0) (g1013_0_2 x0) (g1013_0_3 x0) (g1013_0_4 x0) (g1013_0_5 x0) (g1013_0_6 x0) (g1013_0_7 x0) (g1013_0_8 x0) (g1013_0_9 x0) (g1013_0_10 x0)) then (g1009 (g1011 x0) x0) else false) else false)
noncomputable def g1004 (x0 : Sl T122) : Bool := (g1004_m1 x0)
theorem e1011 {x0 : Sl T122} (h : RCS x0) : g1011 x0 = x0 := by
  refine copy_idc (g1011_l1 x0) x0 _ h.1.1 (by have := h.1.2; omega) (fun i hi => ?_) fun _ _ _ => rfl
  obtain ⟨q1, q2⟩ := h.2 i
  simp only [Int.toNat_natCast]
  have e1 : g95_17 (x0.at' i).c17 = (x0.at' i).c17 := ce79 q1
  have e2 : g95_19 (x0.at' i).c19 = (x0.at' i).c19 := copy85 _ q2.1 (by have := q2.2.1; omega) q2.2.2
  rw [e1, e2]; rfl
theorem rcs1011 {x0 : Sl T122} (h : RCS x0) : RCS (g1011 x0) := by rw [e1011 h]; exact h
noncomputable def F1004 : Fq := ⟨[.v (.sl E122)], fun x0 => ⟨⟨some (RCS x0), .bool (g1004 x0)⟩⟩⟩
theorem pc1004 : FnOk Tryz.prog 4 F1004.sh _ (F1004.sh.flatMap Sh.bs) F1004.f [] :=
  fun x0 _ _ hp => pure_of_exec (X := (mkX [(14, F37.ans), (9, F1009.ans), (11, F1011.ans), (12, F1012.ans), (13, F1013.ans)])) (R := ⟨.pure, [.tmp 2], [(.t 0, kB)], ⟨[U], []⟩⟩) (h := (.s .z (.s .z (.s .z (.s .z (.j ⟨4, [.b 0, .b 1, .b 2], [(.t 2, kB)], [], .f⟩ .z .z)))))) (ms := []) (p := ((RCS (g1011 x0)) ∧ (RCS x0))) (mkX_ok ⟨k37, k1009, k1011, k1012, k1013, trivial⟩) Tryz.func4 rfl rfl (by kernel_rfl) (⟨(by repeat first | assumption | apply rcs1011 | apply gl0_1013 | apply gls1013 | apply fd_gl | apply fd0_1012 | apply fds1012 | apply fde1012 | apply fdc1012 | apply u90 | apply ss1016 | apply sv1017 | apply sv1056 | apply th1106 | apply ce85 | apply cc85' | apply vok_t | apply rmok | apply And.intro | apply ce95 | apply cc95), (by repeat first | assumption | apply rcs1011 | apply gl0_1013 | apply gls1013 | apply fd_gl | apply fd0_1012 | apply fds1012 | apply fde1012 | apply fdc1012 | apply u90 | apply ss1016 | apply sv1017 | apply sv1056 | apply th1106 | apply ce85 | apply cc85' | apply vok_t | apply rmok | apply And.intro | apply ce95 | apply cc95)⟩)
end Go.Proofs.YtchhfojblmceiaaGreat
/-
  tape.Fold: the law.
-/
namespace Go.Proofs.YtchhfojblmceiaaGreat
open Go Go.Vc Go.RowKit
set_option maxRecDepth 100000
set_option maxHeartbeats 4000000
theorem drop_cons {α : Type} (s : Sl α) {j : Nat} (h : j < s.n) : s.B.drop j = s.at' j :: s.B.drop (j + 1) := by
  have h' : j < s.B.length := by rw [B_len]; exact h
  rw [List.drop_eq_getElem_cons h']
  congr 1
  have := B_get s h
  rw [List.getElem?_eq_getElem h'] at this
  exact Option.some.inj this
theorem r5_loop (x0 : Sl T122) (v0 b : Int) (s : Sl T68) (hb : 0 ≤ b ∧ b ≤ 1048576) (hn : s.n ≤ 200) : ∀ (m fu j : Nat) (i : Int) (acc : Sl T68), i = b + 1 + (j : Int) → (x0.at' (Int.toNat v0)).c3 = i + (m : Int) → m ≤ fu → j + m ≤ s.n → (g1013_l29 x0 v0 b s (fu + 1) i acc).2.1.B = acc.B ++ (s.B.drop j).take m
  | 0, fu, j, i, acc, hi, hc, hf, hj => by
    rw [g1013_l29, decide_eq_false (by omega)]
    simp
  | m + 1, fu, j, i, acc, hi, hc, hf, hj => by
    obtain ⟨fu, rfl⟩ : ∃ q, fu = q + 1 := ⟨fu - 1, by omega⟩
    rw [g1013_l29, decide_eq_true (by omega)]
    simp only [cond_true]
    rw [show IntKind.i64.wrap (i + 1) = i + 1 from wrap64 (by omega) (by omega), show IntKind.i64.wrap (i - b) = i - b from wrap64 (by omega) (by omega), show IntKind.i64.wrap (i - b - 1) = (j : Int) by rw [wrap64 (by omega) (by omega)]; omega, Int.toNat_natCast]
    rw [r5_loop x0 v0 b s hb hn m fu (j + 1) (i + 1) _ (by omega) (by omega) (by omega) (by omega), B_app, B_lit, drop_cons s (show j < s.n by omega), List.take_succ_cons, List.append_assoc]
    rfl
theorem r5_B {x0 : Sl T122} {v0 b : Int} {s : Sl T68} (hb : 0 ≤ b ∧ b ≤ 1048576) (hn : s.n ≤ 200) {k : Nat} (hk : (x0.at' (Int.toNat v0)).c3 = b + 1 + (k : Int)) (hk2 : k ≤ s.n) : (g1013_r5 x0 v0 b s).2.1.B = s.B.take k := by
  unfold g1013_r5
  rw [show IntKind.i64.wrap (b + 1) = b + 1 from wrap64 (by omega) (by omega)]
  have := r5_loop x0 v0 b s hb hn k (Int.toNat ((x0.at' (Int.toNat v0)).c3 - (b + 1))) 0 (b + 1) nilSl (by omega) (by omega) (by omega) (by omega)
  rw [this, B_nil, List.nil_append, List.drop_zero]
structure FS (now : Int) (es : Sl T175) (nx : Int) (cs : Sl T137) (b t : Int) (s s' : Sl T68) : Prop where
  e : CE es
  c : CC cs
  m : g84 now es nx cs = 0
  l : LV b t s
  q : s'.B = s.B
abbrev TT4 : Type := Bool × Int × Int × Int × Int × Int × Sl T175 × Int × Sl T137 × Int × Int × Sl T68 × Int × Int × Int × Int × Int × Sl T175 × Int × Sl T137 × Int × Int × Sl T68 × Int
structure RelG (r r' : TT4) : Prop where
  a : r.1 = false ∧ r'.1 = false
  k1 : r.2.1 = r'.2.1
  k2 : r.2.2.1 = r'.2.2.1
  k3 : r.2.2.2.1 = r'.2.2.2.1
  k4 : r.2.2.2.2.1 = r'.2.2.2.2.1
  k5 : r.2.2.2.2.2.1 = r'.2.2.2.2.2.1
  k6 : r.2.2.2.2.2.2.1 = r'.2.2.2.2.2.2.1
  k7 : r.2.2.2.2.2.2.2.1 = r'.2.2.2.2.2.2.2.1
  k8 : r.2.2.2.2.2.2.2.2.1 = r'.2.2.2.2.2.2.2.2.1
  k9 : r.2.2.2.2.2.2.2.2.2.1 = r'.2.2.2.2.2.2.2.2.2.1
  k10 : r.2.2.2.2.2.2.2.2.2.2.1 = r'.2.2.2.2.2.2.2.2.2.2.1
  f : FS r.2.2.2.2.2.1 r.2.2.2.2.2.2.1 r.2.2.2.2.2.2.2.1 r.2.2.2.2.2.2.2.2.1 r.2.2.2.2.2.2.2.2.2.1 r.2.2.2.2.2.2.2.2.2.2.1 r.2.2.2.2.2.2.2.2.2.2.2.1 r'.2.2.2.2.2.2.2.2.2.2.2.1
def RelT (r r' : TT4) : Prop := (r.1 = true ∧ r'.1 = true ∧ r.2.2.2.2.2.2.2.2.2.2.2.2 = r'.2.2.2.2.2.2.2.2.2.2.2.2 ∧ ∃ e, r.2.2.2.2.2.2.2.2.2.2.2.2 = (0, 0, 0, 0, 0, (nilSl : Sl T175), 0, (nilSl : Sl T137), 0, 0, (nilSl : Sl T68), e)) ∨ RelG r r'
structure StepG (x0 : Sl T122) (v0 v1 v2 v3 v4 v5 : Int) (es : Sl T175) (v7 : Int) (cs : Sl T137) (b t : Int) (s s' : Sl T68) : Prop where
  p : g1012_p12 x0 v0 b t s = true
  q : g1013_p19 x0 v0 b t s' = true
  e1 : g1013_m1 x0 v0 v1 = g1012_m1 x0 v0 v1
  e2 : g1013_m2 x0 v0 v2 = g1012_m2 x0 v0 v2
  e3 : g1013_m10 x0 v0 v3 = g1012_m3 x0 v0 v3
  e4 : g1013_m11 x0 v0 v3 v4 = g1012_m4 x0 v0 v3 v4
  e5 : g1013_m12 x0 v0 v3 v5 = g1012_m5 x0 v0 v3 v5
  e6 : g1013_m13 x0 v0 v3 es = g1012_m6 x0 v0 v3 es
  e7 : g1013_m14 x0 v0 v3 v7 = g1012_m7 x0 v0 v3 v7
  e8 : g1013_m15 x0 v0 v3 cs = g1012_m8 x0 v0 v3 cs
  e9 : g1013_m16 x0 v0 v3 b t s' = g1012_m9 x0 v0 v3 b t s
  e10 : g1013_m17 x0 v0 v3 b t s' = g1012_m10 x0 v0 v3 b t s
  f : FS (g1012_m5 x0 v0 v3 v5) (g1012_m6 x0 v0 v3 es) (g1012_m7 x0 v0 v3 v7) (g1012_m8 x0 v0 v3 cs) (g1012_m9 x0 v0 v3 b t s) (g1012_m10 x0 v0 v3 b t s) (g1012_m11 x0 v0 v3 b t s) (g1013_m18 x0 v0 v3 b t s')
theorem loop_rel {x0 : Sl T122} (hn : x0.n ≤ 1048576)
    (hs : ∀ (v0 v1 v2 v3 v4 v5 : Int) (es : Sl T175) (v7 : Int) (cs : Sl T137) (b t : Int) (s s' : Sl T68), 0 ≤ v0 → v0 < (x0.n : Int) → FS v5 es v7 cs b t s s' →
      (∀ k k', RelT (g1012_l1 x0 (k + 1) v0 v1 v2 v3 v4 v5 es v7 cs b t s) (g1013_l1 x0 (k' + 1) v0 v1 v2 v3 v4 v5 es v7 cs b t s')) ∨ StepG x0 v0 v1 v2 v3 v4 v5 es v7 cs b t s s') :
    ∀ (m fu : Nat) (v0 v1 v2 v3 v4 v5 : Int) (es : Sl T175) (v7 : Int) (cs : Sl T137) (b t : Int) (s s' : Sl T68), 0 ≤ v0 → v0 + (m : Int) = (x0.n : Int) → m ≤ fu → FS v5 es v7 cs b t s s' →
    RelT (g1012_l1 x0 (fu + 1) v0 v1 v2 v3 v4 v5 es v7 cs b t s) (g1013_l1 x0 (fu + 1) v0 v1 v2 v3 v4 v5 es v7 cs b t s') := by
  intro m
  induction m with
  | zero =>
    intro fu v0 v1 v2 v3 v4 v5 es v7 cs b t s s' h0 hm hf h
    have d : decide (v0 < (x0.n : Int)) = false := decide_eq_false (by omega)
    have a1 : g1012_l1 x0 (fu + 1) v0 v1 v2 v3 v4 v5 es v7 cs b t s = (false, v1, v2, v3, v4, v5, es, v7, cs, b, t, s, default, default, default, default, default, default, default, default, default, default, default, default) := by
      rw [g1012_l1, d]; rfl
    have a2 : g1013_l1 x0 (fu + 1) v0 v1 v2 v3 v4 v5 es v7 cs b t s' = (false, v1, v2, v3, v4, v5, es, v7, cs, b, t, s', default, default, default, default, default, default, default, default, default, default, default, default) := by
      rw [g1013_l1, d]; rfl
    rw [a1, a2]
    exact .inr ⟨⟨rfl, rfl⟩, rfl, rfl, rfl, rfl, rfl, rfl, rfl, rfl, rfl, rfl, h⟩
  | succ m ih =>
    intro fu v0 v1 v2 v3 v4 v5 es v7 cs b t s s' h0 hm hf h
    obtain ⟨fu, rfl⟩ : ∃ q, fu = q + 1 := ⟨fu - 1, by omega⟩
    rcases hs v0 v1 v2 v3 v4 v5 es v7 cs b t s s' h0 (by omega) h with g | g
    · exact g _ _
    · have d : decide (v0 < (x0.n : Int)) = true := decide_eq_true (by omega)
      have w : IntKind.i64.wrap (v0 + 1) = v0 + 1 := wrap64 (by omega) (by omega)
      have a1 : g1012_l1 x0 (fu + 1 + 1) v0 v1 v2 v3 v4 v5 es v7 cs b t s = g1012_l1 x0 (fu + 1) (v0 + 1) (g1012_m1 x0 v0 v1) (g1012_m2 x0 v0 v2) (g1012_m3 x0 v0 v3) (g1012_m4 x0 v0 v3 v4) (g1012_m5 x0 v0 v3 v5) (g1012_m6 x0 v0 v3 es) (g1012_m7 x0 v0 v3 v7) (g1012_m8 x0 v0 v3 cs) (g1012_m9 x0 v0 v3 b t s) (g1012_m10 x0 v0 v3 b t s) (g1012_m11 x0 v0 v3 b t s) := by
        rw [g1012_l1, d, g.p, w]; rfl
      have a2 : g1013_l1 x0 (fu + 1 + 1) v0 v1 v2 v3 v4 v5 es v7 cs b t s' = g1013_l1 x0 (fu + 1) (v0 + 1) (g1012_m1 x0 v0 v1) (g1012_m2 x0 v0 v2) (g1012_m3 x0 v0 v3) (g1012_m4 x0 v0 v3 v4) (g1012_m5 x0 v0 v3 v5) (g1012_m6 x0 v0 v3 es) (g1012_m7 x0 v0 v3 v7) (g1012_m8 x0 v0 v3 cs) (g1012_m9 x0 v0 v3 b t s) (g1012_m10 x0 v0 v3 b t s) (g1013_m18 x0 v0 v3 b t s') := by
        rw [g1013_l1, d, g.q, w, g.e1, g.e2, g.e3, g.e4, g.e5, g.e6, g.e7, g.e8, g.e9, g.e10]; rfl
      rw [a1, a2]
      exact ih fu (v0 + 1) _ _ _ _ _ _ _ _ _ _ _ _ (by omega) (by omega) (by omega) g.f
end Go.Proofs.YtchhfojblmceiaaGreat
/-
  tape.Fold: a round of both sides.
-/
namespace Go.Proofs.YtchhfojblmceiaaGreat
open Go Go.Vc Go.RowKit
set_option maxRecDepth 100000
set_option maxHeartbeats 4000000
section
variable {x0 : Sl T122} {v0 v1 v2 v3 v4 v5 : Int} {es : Sl T175} {v7 : Int} {cs : Sl T137} {b t : Int} {s s' : Sl T68}
theorem p12_of (e : ((g94 (x0.at' (Int.toNat v0)).c0 (x0.at' (Int.toNat v0)).c1 (x0.at' (Int.toNat v0)).c2 (x0.at' (Int.toNat v0)).c3 (x0.at' (Int.toNat v0)).c4 (x0.at' (Int.toNat v0)).c5 (x0.at' (Int.toNat v0)).c6 (x0.at' (Int.toNat v0)).c7 (x0.at' (Int.toNat v0)).c8 (x0.at' (Int.toNat v0)).c9 (x0.at' (Int.toNat v0)).c10 (x0.at' (Int.toNat v0)).c11 (x0.at' (Int.toNat v0)).c12 (x0.at' (Int.toNat v0)).c13 (x0.at' (Int.toNat v0)).c14 (x0.at' (Int.toNat v0)).c15 (x0.at' (Int.toNat v0)).c16 (x0.at' (Int.toNat v0)).c17 (x0.at' (Int.toNat v0)).c18 (x0.at' (Int.toNat v0)).c19) != 0) = false) : g1012_p12 x0 v0 b t s = (bif ((x0.at' (Int.toNat v0)).c0 == 1) then true else (bif ((x0.at' (Int.toNat v0)).c0 == 2) then (bif ((g1032_1 b t s (x0.at' (Int.toNat v0)).c3 (x0.at' (Int.toNat v0)).c4 (x0.at' (Int.toNat v0)).c5 (x0.at' (Int.toNat v0)).c6 (x0.at' (Int.toNat v0)).c7 (x0.at' (Int.toNat v0)).c8 (x0.at' (Int.toNat v0)).c9 (x0.at' (Int.toNat v0)).c10 (x0.at' (Int.toNat v0)).c11 (x0.at' (Int.toNat v0)).c12 (x0.at' (Int.toNat v0)).c13) != 0) then false else true) else (bif ((x0.at' (Int.toNat v0)).c0 == 3) then true else true))) := by
  unfold g1012_p12
  rw [e]
  generalize (g1032_1 b t s (x0.at' (Int.toNat v0)).c3 (x0.at' (Int.toNat v0)).c4 (x0.at' (Int.toNat v0)).c5 (x0.at' (Int.toNat v0)).c6 (x0.at' (Int.toNat v0)).c7 (x0.at' (Int.toNat v0)).c8 (x0.at' (Int.toNat v0)).c9 (x0.at' (Int.toNat v0)).c10 (x0.at' (Int.toNat v0)).c11 (x0.at' (Int.toNat v0)).c12 (x0.at' (Int.toNat v0)).c13) = z
  cases ((x0.at' (Int.toNat v0)).c0 == 1) <;> cases ((x0.at' (Int.toNat v0)).c0 == 2) <;> cases ((x0.at' (Int.toNat v0)).c0 == 3) <;> rfl
theorem p19_of (e : ((g96 (x0.at' (Int.toNat v0)).c0 (x0.at' (Int.toNat v0)).c1 (x0.at' (Int.toNat v0)).c2 (x0.at' (Int.toNat v0)).c3 (x0.at' (Int.toNat v0)).c4 (x0.at' (Int.toNat v0)).c5 (x0.at' (Int.toNat v0)).c6 (x0.at' (Int.toNat v0)).c7 (x0.at' (Int.toNat v0)).c8 (x0.at' (Int.toNat v0)).c9 (x0.at' (Int.toNat v0)).c10 (x0.at' (Int.toNat v0)).c11 (x0.at' (Int.toNat v0)).c12 (x0.at' (Int.toNat v0)).c13 (x0.at' (Int.toNat v0)).c14 (x0.at' (Int.toNat v0)).c15 (x0.at' (Int.toNat v0)).c16 (x0.at' (Int.toNat v0)).c17 (x0.at' (Int.toNat v0)).c18 (x0.at' (Int.toNat v0)).c19) != 0) = false) : g1013_p19 x0 v0 b t s' = g1013_p7 x0 v0 b t s' := by
  unfold g1013_p19
  rw [e]
  cases g1013_p7 x0 v0 b t s' <;> rfl
theorem step_mark (h : FS v5 es v7 cs b t s s') (e94 : ((g94 (x0.at' (Int.toNat v0)).c0 (x0.at' (Int.toNat v0)).c1 (x0.at' (Int.toNat v0)).c2 (x0.at' (Int.toNat v0)).c3 (x0.at' (Int.toNat v0)).c4 (x0.at' (Int.toNat v0)).c5 (x0.at' (Int.toNat v0)).c6 (x0.at' (Int.toNat v0)).c7 (x0.at' (Int.toNat v0)).c8 (x0.at' (Int.toNat v0)).c9 (x0.at' (Int.toNat v0)).c10 (x0.at' (Int.toNat v0)).c11 (x0.at' (Int.toNat v0)).c12 (x0.at' (Int.toNat v0)).c13 (x0.at' (Int.toNat v0)).c14 (x0.at' (Int.toNat v0)).c15 (x0.at' (Int.toNat v0)).c16 (x0.at' (Int.toNat v0)).c17 (x0.at' (Int.toNat v0)).c18 (x0.at' (Int.toNat v0)).c19) != 0) = false) (e96 : ((g96 (x0.at' (Int.toNat v0)).c0 (x0.at' (Int.toNat v0)).c1 (x0.at' (Int.toNat v0)).c2 (x0.at' (Int.toNat v0)).c3 (x0.at' (Int.toNat v0)).c4 (x0.at' (Int.toNat v0)).c5 (x0.at' (Int.toNat v0)).c6 (x0.at' (Int.toNat v0)).c7 (x0.at' (Int.toNat v0)).c8 (x0.at' (Int.toNat v0)).c9 (x0.at' (Int.toNat v0)).c10 (x0.at' (Int.toNat v0)).c11 (x0.at' (Int.toNat v0)).c12 (x0.at' (Int.toNat v0)).c13 (x0.at' (Int.toNat v0)).c14 (x0.at' (Int.toNat v0)).c15 (x0.at' (Int.toNat v0)).c16 (x0.at' (Int.toNat v0)).c17 (x0.at' (Int.toNat v0)).c18 (x0.at' (Int.toNat v0)).c19) != 0) = false) (k : (x0.at' (Int.toNat v0)).c0 = 1) : StepG x0 v0 v1 v2 v3 v4 v5 es v7 cs b t s s' := by
  have m4 : g1013_m4 x0 v0 b = false := by unfold g1013_m4; rw [k]; rfl
  have m9 : g1013_m9 x0 v0 v3 = false := by unfold g1013_m9; rw [k]; rfl
  refine ⟨?_, ?_, rfl, rfl, ?_, ?_, ?_, ?_, ?_, ?_, ?_, ?_, ?_⟩
  · rw [p12_of e94, k]; rfl
  · rw [p19_of e96]; unfold g1013_p7; rw [m4]; rfl
  · unfold g1013_m10 g1012_m3; rw [m9, k]; rfl
  · unfold g1013_m11 g1012_m4; rw [m9, k]; rfl
  · unfold g1013_m12 g1012_m5; rw [m9, k]; rfl
  · unfold g1013_m13 g1012_m6; rw [m9, k]; rfl
  · unfold g1013_m14 g1012_m7; rw [m9, k]; rfl
  · unfold g1013_m15 g1012_m8; rw [m9, k]; rfl
  · unfold g1013_m16 g1012_m9; rw [m9, k]; rfl
  · unfold g1013_m17 g1012_m10; rw [m9, k]; rfl
  · unfold g1012_m5 g1012_m6 g1012_m7 g1012_m8 g1012_m9 g1012_m10 g1012_m11 g1013_m18 g1013_m6
    rw [m9, m4, k]; exact h
theorem fs_rest {p u now' : Int} {es' : Sl T175} {nx' : Int} {cs' : Sl T137} (hL : LV b t s) (hq : s'.B = s.B) (q1 : CE es') (q2 : CC cs') (m : g84 now' es' nx' cs' = 0) (hp : 1 ≤ p ∧ p ≤ 1048576) (hu : 1 ≤ u ∧ u ≤ 1048576) : (g178_0 b t s' p u = g177_0 b t s p u ∧ g178_1 b t s' p u = g177_1 b t s p u) ∧ FS now' es' nx' cs' (g177_0 b t s p u) (g177_1 b t s p u) (g177_2 b t s p u) (g178_2 b t s' p u) := by
  have hL' : LV b t s' := lv_congr hL hq
  obtain ⟨a0, a1, a2⟩ := rest_eq hL' hp hu
  have hn : s'.n = s.n := by rw [← B_len s', ← B_len s, hq]
  have hat : ∀ i, i < s'.n → s'.at' i = s.at' i := fun i hi => by
    have h1 := B_some s' i
    rw [hq, B_some, if_pos (by omega), if_pos hi] at h1
    exact (Option.some.inj h1).symm
  have hLn := hL.n
  have hLb := hL.b0
  -- what the program's rest is, of slices with the same data
  have c127 : g127_1 b s' p = g127_1 b s p := by unfold g127_1; rw [hn]
  have c127' : g127_1 b s p = 0 → g127_0 b t s' p = g127_0 b t s p := fun hz => by
    unfold g127_0
    rw [hn]
    by_cases e1 : p < b
    · rw [decide_eq_true e1]; rfl
    · rw [decide_eq_false e1]
      by_cases e2 : p = b
      · rw [e2]; simp
      · rw [beq_eq_false_iff_ne.2 e2]
        unfold g127_1 at hz
        rw [decide_eq_false e1, beq_eq_false_iff_ne.2 e2] at hz
        simp only [cond_false] at hz ⊢
        obtain ⟨hz, _⟩ := bz hz (by decide)
        rw [hz]
        have hz := df hz
        have w1 : IntKind.i64.wrap (p - b) = p - b := wrap64 (by omega) (by omega)
        have w2 : IntKind.i64.wrap (p - b - 1) = p - b - 1 := wrap64 (by omega) (by omega)
        rw [w1] at hz ⊢
        rw [w2]
        simp only [cond_false]
        rw [hat _ (by omega)]
  have z' := lv53' hL'
  have z := lv53' hL
  have c62 : g62_1 b t s' p = g62_1 b t s p := by unfold g62_1; rw [z, z', c127]
  have e177 : g177_m1 b t s' p u = g177_m1 b t s p u := by
    unfold g177_m1
    rw [c62]
    cases e : (g62_1 b t s p == 0) with
    | false => rfl
    | true =>
      have e := eq_of_beq e
      unfold g62_1 at e
      rw [z] at e
      have e : (bif g62_m1 p then 2 else g127_1 b s p) = 0 := e
      obtain ⟨hm, e⟩ := bz e (by decide)
      show (g62_0 b t s' p == u) = (g62_0 b t s p == u)
      unfold g62_0
      rw [z, z', hm, c127' e]
  have r0 : g177_0 b t s' p u = g177_0 b t s p u := by
    unfold g177_0 g66_0_0
    rw [e177, z, z', c127]
  have r1 : g177_1 b t s' p u = g177_1 b t s p u := by
    unfold g177_1 g66_0_1
    rw [e177, z, z', c127]
    cases (g177_m1 b t s p u) with
    | false => rfl
    | true =>
      simp only [cond_true]
      cases e : (g127_1 b s p != 0) with
      | true => rfl
      | false => rw [c127' (bne_eq_false_iff_eq.1 e)]
  have r2 : (g177_2 b t s' p u).B = (g177_2 b t s p u).B := by
    unfold g177_2 g66_0_2
    rw [e177, z, z', c127, hn]
    cases (g177_m1 b t s p u) with
    | false => rfl
    | true =>
      simp only [cond_true]
      cases ez : (g127_1 b s p != 0) with
      | true => rfl
      | false =>
        have hpb : b ≤ p := by
          have ez := bne_eq_false_iff_eq.1 ez
          unfold g127_1 at ez
          obtain ⟨ez, _⟩ := bz ez (by decide)
          have := df ez
          omega
        show (Sl.part s' (IntKind.i64.wrap (p - b)) ((s.n : Nat) : Int)).B = (Sl.part s (IntKind.i64.wrap (p - b)) ((s.n : Nat) : Int)).B
        rw [wrap64 (by omega) (by omega)]
        refine B_ext (by simp only [Sl.part_n]) fun i hi => ?_
        simp only [Sl.part_n] at hi
        show s'.at' (Int.toNat (p - b) + i) = s.at' (Int.toNat (p - b) + i)
        exact hat _ (by omega)
  refine ⟨⟨a0.trans r0, a1.trans r1⟩, q1, q2, m, lv_rest hL hp hu, ?_⟩
  exact a2.trans r2
theorem step_snap (h : FS v5 es v7 cs b t s s') (q1 : CE (x0.at' (Int.toNat v0)).c17) (q2 : CC (x0.at' (Int.toNat v0)).c19) (e94 : ((g94 (x0.at' (Int.toNat v0)).c0 (x0.at' (Int.toNat v0)).c1 (x0.at' (Int.toNat v0)).c2 (x0.at' (Int.toNat v0)).c3 (x0.at' (Int.toNat v0)).c4 (x0.at' (Int.toNat v0)).c5 (x0.at' (Int.toNat v0)).c6 (x0.at' (Int.toNat v0)).c7 (x0.at' (Int.toNat v0)).c8 (x0.at' (Int.toNat v0)).c9 (x0.at' (Int.toNat v0)).c10 (x0.at' (Int.toNat v0)).c11 (x0.at' (Int.toNat v0)).c12 (x0.at' (Int.toNat v0)).c13 (x0.at' (Int.toNat v0)).c14 (x0.at' (Int.toNat v0)).c15 (x0.at' (Int.toNat v0)).c16 (x0.at' (Int.toNat v0)).c17 (x0.at' (Int.toNat v0)).c18 (x0.at' (Int.toNat v0)).c19) != 0) = false) (e96 : ((g96 (x0.at' (Int.toNat v0)).c0 (x0.at' (Int.toNat v0)).c1 (x0.at' (Int.toNat v0)).c2 (x0.at' (Int.toNat v0)).c3 (x0.at' (Int.toNat v0)).c4 (x0.at' (Int.toNat v0)).c5 (x0.at' (Int.toNat v0)).c6 (x0.at' (Int.toNat v0)).c7 (x0.at' (Int.toNat v0)).c8 (x0.at' (Int.toNat v0)).c9 (x0.at' (Int.toNat v0)).c10 (x0.at' (Int.toNat v0)).c11 (x0.at' (Int.toNat v0)).c12 (x0.at' (Int.toNat v0)).c13 (x0.at' (Int.toNat v0)).c14 (x0.at' (Int.toNat v0)).c15 (x0.at' (Int.toNat v0)).c16 (x0.at' (Int.toNat v0)).c17 (x0.at' (Int.toNat v0)).c18 (x0.at' (Int.toNat v0)).c19) != 0) = false) (k : (x0.at' (Int.toNat v0)).c0 = 3) (k14 : 1 ≤ (x0.at' (Int.toNat v0)).c14 ∧ (x0.at' (Int.toNat v0)).c14 ≤ 1048576) (k15 : 1 ≤ (x0.at' (Int.toNat v0)).c15 ∧ (x0.at' (Int.toNat v0)).c15 ≤ 1048576) (k84 : g84 (x0.at' (Int.toNat v0)).c16 (x0.at' (Int.toNat v0)).c17 (x0.at' (Int.toNat v0)).c18 (x0.at' (Int.toNat v0)).c19 = 0) : StepG x0 v0 v1 v2 v3 v4 v5 es v7 cs b t s s' := by
  have m4 : g1013_m4 x0 v0 b = false := by unfold g1013_m4; rw [k]; rfl
  have m6 : g1013_m6 x0 v0 b s' = s' := by unfold g1013_m6; rw [m4]; rfl
  have m9 : g1013_m9 x0 v0 v3 = decide ((x0.at' (Int.toNat v0)).c14 > v3) := by unfold g1013_m9; rw [k]; rfl
  obtain ⟨⟨r0, r1⟩, hf⟩ := fs_rest h.l h.q q1 q2 k84 k14 k15
  have c1 : ((3 : Int) == 1) = false := rfl
  have c2 : ((3 : Int) == 2) = false := rfl
  have c3 : ((3 : Int) == 3) = true := rfl
  refine ⟨?_, ?_, rfl, rfl, ?_, ?_, ?_, ?_, ?_, ?_, ?_, ?_, ?_⟩
  · rw [p12_of e94, k]; rfl
  · rw [p19_of e96]; unfold g1013_p7; rw [m4]; rfl
  · unfold g1013_m10 g1012_m3; rw [m9, k]; rfl
  · unfold g1013_m11 g1012_m4; rw [m9, k]; rfl
  · unfold g1013_m12 g1012_m5; rw [m9, k]; rfl
  · unfold g1013_m13 g1012_m6; rw [m9, k]; rfl
  · unfold g1013_m14 g1012_m7; rw [m9, k]; rfl
  · unfold g1013_m15 g1012_m8; rw [m9, k]; rfl
  · unfold g1013_m16 g1012_m9; rw [m9, m6, k, c1, c2, c3, r0]; rfl
  · unfold g1013_m17 g1012_m10; rw [m9, m6, k, c1, c2, c3, r1]; rfl
  · unfold g1012_m5 g1012_m6 g1012_m7 g1012_m8 g1012_m9 g1012_m10 g1012_m11 g1013_m18
    rw [m9, m6, k, c1, c2, c3]
    cases decide ((x0.at' (Int.toNat v0)).c14 > v3) with
    | false => exact h
    | true => exact hf
end
end Go.Proofs.YtchhfojblmceiaaGreat
/-
  tape.Fold: an item, on both sides; a round.
-/
namespace Go.Proofs.YtchhfojblmceiaaGreat
open Go Go.Vc Go.RowKit
set_option maxRecDepth 100000
set_option maxHeartbeats 4000000
section
variable {x0 : Sl T122} {v0 v1 v2 v3 v4 v5 : Int} {es : Sl T175} {v7 : Int} {cs : Sl T137} {b t : Int} {s s' : Sl T68}
theorem err_rel (hv : v0 < (x0.n : Int)) (p : g1012_p12 x0 v0 b t s = false) (q : g1013_p19 x0 v0 b t s' = false) (e94 : ((g94 (x0.at' (Int.toNat v0)).c0 (x0.at' (Int.toNat v0)).c1 (x0.at' (Int.toNat v0)).c2 (x0.at' (Int.toNat v0)).c3 (x0.at' (Int.toNat v0)).c4 (x0.at' (Int.toNat v0)).c5 (x0.at' (Int.toNat v0)).c6 (x0.at' (Int.toNat v0)).c7 (x0.at' (Int.toNat v0)).c8 (x0.at' (Int.toNat v0)).c9 (x0.at' (Int.toNat v0)).c10 (x0.at' (Int.toNat v0)).c11 (x0.at' (Int.toNat v0)).c12 (x0.at' (Int.toNat v0)).c13 (x0.at' (Int.toNat v0)).c14 (x0.at' (Int.toNat v0)).c15 (x0.at' (Int.toNat v0)).c16 (x0.at' (Int.toNat v0)).c17 (x0.at' (Int.toNat v0)).c18 (x0.at' (Int.toNat v0)).c19) != 0) = false) (e96 : ((g96 (x0.at' (Int.toNat v0)).c0 (x0.at' (Int.toNat v0)).c1 (x0.at' (Int.toNat v0)).c2 (x0.at' (Int.toNat v0)).c3 (x0.at' (Int.toNat v0)).c4 (x0.at' (Int.toNat v0)).c5 (x0.at' (Int.toNat v0)).c6 (x0.at' (Int.toNat v0)).c7 (x0.at' (Int.toNat v0)).c8 (x0.at' (Int.toNat v0)).c9 (x0.at' (Int.toNat v0)).c10 (x0.at' (Int.toNat v0)).c11 (x0.at' (Int.toNat v0)).c12 (x0.at' (Int.toNat v0)).c13 (x0.at' (Int.toNat v0)).c14 (x0.at' (Int.toNat v0)).c15 (x0.at' (Int.toNat v0)).c16 (x0.at' (Int.toNat v0)).c17 (x0.at' (Int.toNat v0)).c18 (x0.at' (Int.toNat v0)).c19) != 0) = false) (c : (g1032_1 b t s (x0.at' (Int.toNat v0)).c3 (x0.at' (Int.toNat v0)).c4 (x0.at' (Int.toNat v0)).c5 (x0.at' (Int.toNat v0)).c6 (x0.at' (Int.toNat v0)).c7 (x0.at' (Int.toNat v0)).c8 (x0.at' (Int.toNat v0)).c9 (x0.at' (Int.toNat v0)).c10 (x0.at' (Int.toNat v0)).c11 (x0.at' (Int.toNat v0)).c12 (x0.at' (Int.toNat v0)).c13) = 10) : ∀ k k', RelT (g1012_l1 x0 (k + 1) v0 v1 v2 v3 v4 v5 es v7 cs b t s) (g1013_l1 x0 (k' + 1) v0 v1 v2 v3 v4 v5 es v7 cs b t s') := fun k k' => by
  have d : decide (v0 < (x0.n : Int)) = true := decide_eq_true hv
  have a1 : g1012_l1 x0 (k + 1) v0 v1 v2 v3 v4 v5 es v7 cs b t s = (true, default, default, default, default, default, default, default, default, default, default, default, 0, 0, 0, 0, 0, (nilSl : Sl T175), 0, (nilSl : Sl T137), 0, 0, (nilSl : Sl T68), 10) := by
    rw [g1012_l1, d, p, e94, c]; rfl
  have a2 : g1013_l1 x0 (k' + 1) v0 v1 v2 v3 v4 v5 es v7 cs b t s' = (true, default, default, default, default, default, default, default, default, default, default, default, 0, 0, 0, 0, 0, (nilSl : Sl T175), 0, (nilSl : Sl T137), 0, 0, (nilSl : Sl T68), 10) := by
    rw [g1013_l1, d, q, e96]; rfl
  rw [a1, a2]
  exact .inl ⟨rfl, rfl, rfl, _, rfl⟩
theorem err_chk (hv : v0 < (x0.n : Int)) (e : (g94 (x0.at' (Int.toNat v0)).c0 (x0.at' (Int.toNat v0)).c1 (x0.at' (Int.toNat v0)).c2 (x0.at' (Int.toNat v0)).c3 (x0.at' (Int.toNat v0)).c4 (x0.at' (Int.toNat v0)).c5 (x0.at' (Int.toNat v0)).c6 (x0.at' (Int.toNat v0)).c7 (x0.at' (Int.toNat v0)).c8 (x0.at' (Int.toNat v0)).c9 (x0.at' (Int.toNat v0)).c10 (x0.at' (Int.toNat v0)).c11 (x0.at' (Int.toNat v0)).c12 (x0.at' (Int.toNat v0)).c13 (x0.at' (Int.toNat v0)).c14 (x0.at' (Int.toNat v0)).c15 (x0.at' (Int.toNat v0)).c16 (x0.at' (Int.toNat v0)).c17 (x0.at' (Int.toNat v0)).c18 (x0.at' (Int.toNat v0)).c19) = (g96 (x0.at' (Int.toNat v0)).c0 (x0.at' (Int.toNat v0)).c1 (x0.at' (Int.toNat v0)).c2 (x0.at' (Int.toNat v0)).c3 (x0.at' (Int.toNat v0)).c4 (x0.at' (Int.toNat v0)).c5 (x0.at' (Int.toNat v0)).c6 (x0.at' (Int.toNat v0)).c7 (x0.at' (Int.toNat v0)).c8 (x0.at' (Int.toNat v0)).c9 (x0.at' (Int.toNat v0)).c10 (x0.at' (Int.toNat v0)).c11 (x0.at' (Int.toNat v0)).c12 (x0.at' (Int.toNat v0)).c13 (x0.at' (Int.toNat v0)).c14 (x0.at' (Int.toNat v0)).c15 (x0.at' (Int.toNat v0)).c16 (x0.at' (Int.toNat v0)).c17 (x0.at' (Int.toNat v0)).c18 (x0.at' (Int.toNat v0)).c19)) (e94 : ((g94 (x0.at' (Int.toNat v0)).c0 (x0.at' (Int.toNat v0)).c1 (x0.at' (Int.toNat v0)).c2 (x0.at' (Int.toNat v0)).c3 (x0.at' (Int.toNat v0)).c4 (x0.at' (Int.toNat v0)).c5 (x0.at' (Int.toNat v0)).c6 (x0.at' (Int.toNat v0)).c7 (x0.at' (Int.toNat v0)).c8 (x0.at' (Int.toNat v0)).c9 (x0.at' (Int.toNat v0)).c10 (x0.at' (Int.toNat v0)).c11 (x0.at' (Int.toNat v0)).c12 (x0.at' (Int.toNat v0)).c13 (x0.at' (Int.toNat v0)).c14 (x0.at' (Int.toNat v0)).c15 (x0.at' (Int.toNat v0)).c16 (x0.at' (Int.toNat v0)).c17 (x0.at' (Int.toNat v0)).c18 (x0.at' (Int.toNat v0)).c19) != 0) = true) : ∀ k k', RelT (g1012_l1 x0 (k + 1) v0 v1 v2 v3 v4 v5 es v7 cs b t s) (g1013_l1 x0 (k' + 1) v0 v1 v2 v3 v4 v5 es v7 cs b t s') := fun k k' => by
  have d : decide (v0 < (x0.n : Int)) = true := decide_eq_true hv
  have p : g1012_p12 x0 v0 b t s = false := by unfold g1012_p12; rw [e94]; rfl
  have q : g1013_p19 x0 v0 b t s' = false := by unfold g1013_p19; rw [← e, e94]; rfl
  have a1 : g1012_l1 x0 (k + 1) v0 v1 v2 v3 v4 v5 es v7 cs b t s = (true, default, default, default, default, default, default, default, default, default, default, default, 0, 0, 0, 0, 0, (nilSl : Sl T175), 0, (nilSl : Sl T137), 0, 0, (nilSl : Sl T68), (g94 (x0.at' (Int.toNat v0)).c0 (x0.at' (Int.toNat v0)).c1 (x0.at' (Int.toNat v0)).c2 (x0.at' (Int.toNat v0)).c3 (x0.at' (Int.toNat v0)).c4 (x0.at' (Int.toNat v0)).c5 (x0.at' (Int.toNat v0)).c6 (x0.at' (Int.toNat v0)).c7 (x0.at' (Int.toNat v0)).c8 (x0.at' (Int.toNat v0)).c9 (x0.at' (Int.toNat v0)).c10 (x0.at' (Int.toNat v0)).c11 (x0.at' (Int.toNat v0)).c12 (x0.at' (Int.toNat v0)).c13 (x0.at' (Int.toNat v0)).c14 (x0.at' (Int.toNat v0)).c15 (x0.at' (Int.toNat v0)).c16 (x0.at' (Int.toNat v0)).c17 (x0.at' (Int.toNat v0)).c18 (x0.at' (Int.toNat v0)).c19)) := by
    rw [g1012_l1, d, p, e94]; rfl
  have a2 : g1013_l1 x0 (k' + 1) v0 v1 v2 v3 v4 v5 es v7 cs b t s' = (true, default, default, default, default, default, default, default, default, default, default, default, 0, 0, 0, 0, 0, (nilSl : Sl T175), 0, (nilSl : Sl T137), 0, 0, (nilSl : Sl T68), (g94 (x0.at' (Int.toNat v0)).c0 (x0.at' (Int.toNat v0)).c1 (x0.at' (Int.toNat v0)).c2 (x0.at' (Int.toNat v0)).c3 (x0.at' (Int.toNat v0)).c4 (x0.at' (Int.toNat v0)).c5 (x0.at' (Int.toNat v0)).c6 (x0.at' (Int.toNat v0)).c7 (x0.at' (Int.toNat v0)).c8 (x0.at' (Int.toNat v0)).c9 (x0.at' (Int.toNat v0)).c10 (x0.at' (Int.toNat v0)).c11 (x0.at' (Int.toNat v0)).c12 (x0.at' (Int.toNat v0)).c13 (x0.at' (Int.toNat v0)).c14 (x0.at' (Int.toNat v0)).c15 (x0.at' (Int.toNat v0)).c16 (x0.at' (Int.toNat v0)).c17 (x0.at' (Int.toNat v0)).c18 (x0.at' (Int.toNat v0)).c19)) := by
    rw [g1013_l1, d, q, ← e, e94]; rfl
  rw [a1, a2]
  exact .inl ⟨rfl, rfl, rfl, _, rfl⟩
theorem step_item (hv : v0 < (x0.n : Int)) (h : FS v5 es v7 cs b t s s') (e94 : ((g94 (x0.at' (Int.toNat v0)).c0 (x0.at' (Int.toNat v0)).c1 (x0.at' (Int.toNat v0)).c2 (x0.at' (Int.toNat v0)).c3 (x0.at' (Int.toNat v0)).c4 (x0.at' (Int.toNat v0)).c5 (x0.at' (Int.toNat v0)).c6 (x0.at' (Int.toNat v0)).c7 (x0.at' (Int.toNat v0)).c8 (x0.at' (Int.toNat v0)).c9 (x0.at' (Int.toNat v0)).c10 (x0.at' (Int.toNat v0)).c11 (x0.at' (Int.toNat v0)).c12 (x0.at' (Int.toNat v0)).c13 (x0.at' (Int.toNat v0)).c14 (x0.at' (Int.toNat v0)).c15 (x0.at' (Int.toNat v0)).c16 (x0.at' (Int.toNat v0)).c17 (x0.at' (Int.toNat v0)).c18 (x0.at' (Int.toNat v0)).c19) != 0) = false) (e96 : ((g96 (x0.at' (Int.toNat v0)).c0 (x0.at' (Int.toNat v0)).c1 (x0.at' (Int.toNat v0)).c2 (x0.at' (Int.toNat v0)).c3 (x0.at' (Int.toNat v0)).c4 (x0.at' (Int.toNat v0)).c5 (x0.at' (Int.toNat v0)).c6 (x0.at' (Int.toNat v0)).c7 (x0.at' (Int.toNat v0)).c8 (x0.at' (Int.toNat v0)).c9 (x0.at' (Int.toNat v0)).c10 (x0.at' (Int.toNat v0)).c11 (x0.at' (Int.toNat v0)).c12 (x0.at' (Int.toNat v0)).c13 (x0.at' (Int.toNat v0)).c14 (x0.at' (Int.toNat v0)).c15 (x0.at' (Int.toNat v0)).c16 (x0.at' (Int.toNat v0)).c17 (x0.at' (Int.toNat v0)).c18 (x0.at' (Int.toNat v0)).c19) != 0) = false) (k : (x0.at' (Int.toNat v0)).c0 = 2) (k3 : 1 ≤ (x0.at' (Int.toNat v0)).c3 ∧ (x0.at' (Int.toNat v0)).c3 ≤ 1048576) :
    (∀ k k', RelT (g1012_l1 x0 (k + 1) v0 v1 v2 v3 v4 v5 es v7 cs b t s) (g1013_l1 x0 (k' + 1) v0 v1 v2 v3 v4 v5 es v7 cs b t s')) ∨ StepG x0 v0 v1 v2 v3 v4 v5 es v7 cs b t s s' := by
  have hL := h.l
  have hLn := hL.n
  have hLb := hL.b0
  have hLt := hL.top
  have hsn : s'.n = s.n := by rw [← B_len s', ← B_len s, h.q]
  have c1 : ((2 : Int) == 1) = false := rfl
  have c2 : ((2 : Int) == 2) = true := rfl
  have m9 : g1013_m9 x0 v0 v3 = false := by unfold g1013_m9; rw [k]; rfl
  have m4 : g1013_m4 x0 v0 b = decide ((x0.at' (Int.toNat v0)).c3 > b) := by unfold g1013_m4; rw [k]; rfl
  have p12 : g1012_p12 x0 v0 b t s = (bif ((g1032_1 b t s (x0.at' (Int.toNat v0)).c3 (x0.at' (Int.toNat v0)).c4 (x0.at' (Int.toNat v0)).c5 (x0.at' (Int.toNat v0)).c6 (x0.at' (Int.toNat v0)).c7 (x0.at' (Int.toNat v0)).c8 (x0.at' (Int.toNat v0)).c9 (x0.at' (Int.toNat v0)).c10 (x0.at' (Int.toNat v0)).c11 (x0.at' (Int.toNat v0)).c12 (x0.at' (Int.toNat v0)).c13) != 0) then false else true) := by rw [p12_of e94, k]; rfl
  have l1 := l58 b t s (lv53' hL)
  have l2 := l125 b s' ⟨hLb.1, hLb.2, by omega⟩
  rw [hsn] at l2
  have w1 : IntKind.i64.wrap (b + (s.n : Int) + 1) = b + (s.n : Int) + 1 := wrap64 (by omega) (by omega)
  -- what both sides have where the round goes on
  have go : (g1032_1 b t s (x0.at' (Int.toNat v0)).c3 (x0.at' (Int.toNat v0)).c4 (x0.at' (Int.toNat v0)).c5 (x0.at' (Int.toNat v0)).c6 (x0.at' (Int.toNat v0)).c7 (x0.at' (Int.toNat v0)).c8 (x0.at' (Int.toNat v0)).c9 (x0.at' (Int.toNat v0)).c10 (x0.at' (Int.toNat v0)).c11 (x0.at' (Int.toNat v0)).c12 (x0.at' (Int.toNat v0)).c13) = 0 → g1013_p7 x0 v0 b t s' = true → FS v5 es v7 cs b t (g1032_0_2 b t s (x0.at' (Int.toNat v0)).c3 (x0.at' (Int.toNat v0)).c4 (x0.at' (Int.toNat v0)).c5 (x0.at' (Int.toNat v0)).c6 (x0.at' (Int.toNat v0)).c7 (x0.at' (Int.toNat v0)).c8 (x0.at' (Int.toNat v0)).c9 (x0.at' (Int.toNat v0)).c10 (x0.at' (Int.toNat v0)).c11 (x0.at' (Int.toNat v0)).c12 (x0.at' (Int.toNat v0)).c13) (g1013_m6 x0 v0 b s') → StepG x0 v0 v1 v2 v3 v4 v5 es v7 cs b t s s' := fun a1 a2 a3 => by
    refine ⟨?_, ?_, rfl, rfl, ?_, ?_, ?_, ?_, ?_, ?_, ?_, ?_, ?_⟩
    · rw [p12, a1]; rfl
    · rw [p19_of e96]; exact a2
    · unfold g1013_m10 g1012_m3; rw [m9, k]; rfl
    · unfold g1013_m11 g1012_m4; rw [m9, k]; rfl
    · unfold g1013_m12 g1012_m5; rw [m9, k]; rfl
    · unfold g1013_m13 g1012_m6; rw [m9, k]; rfl
    · unfold g1013_m14 g1012_m7; rw [m9, k]; rfl
    · unfold g1013_m15 g1012_m8; rw [m9, k]; rfl
    · unfold g1013_m16 g1012_m9; rw [m9, k]; rfl
    · unfold g1013_m17 g1012_m10; rw [m9, k]; rfl
    · unfold g1012_m5 g1012_m6 g1012_m7 g1012_m8 g1012_m9 g1012_m10 g1012_m11 g1013_m18
      rw [m9, k, c1, c2]
      exact a3
  by_cases g1 : (x0.at' (Int.toNat v0)).c3 ≤ b
  · right
    have d1 : decide ((x0.at' (Int.toNat v0)).c3 ≤ b) = true := decide_eq_true g1
    have d2 : g1013_m4 x0 v0 b = false := by rw [m4]; exact decide_eq_false (by omega)
    refine go ?_ ?_ ?_
    · unfold g1032_1; rw [d1]; rfl
    · unfold g1013_p7; rw [d2]; rfl
    · have u1 : (g1032_0_2 b t s (x0.at' (Int.toNat v0)).c3 (x0.at' (Int.toNat v0)).c4 (x0.at' (Int.toNat v0)).c5 (x0.at' (Int.toNat v0)).c6 (x0.at' (Int.toNat v0)).c7 (x0.at' (Int.toNat v0)).c8 (x0.at' (Int.toNat v0)).c9 (x0.at' (Int.toNat v0)).c10 (x0.at' (Int.toNat v0)).c11 (x0.at' (Int.toNat v0)).c12 (x0.at' (Int.toNat v0)).c13) = s := by unfold g1032_0_2; rw [d1]; rfl
      have u2 : g1013_m6 x0 v0 b s' = s' := by unfold g1013_m6; rw [d2]; rfl
      rw [u1, u2]; exact h
  · have d1 : decide ((x0.at' (Int.toNat v0)).c3 ≤ b) = false := decide_eq_false g1
    have d2 : g1013_m4 x0 v0 b = true := by rw [m4]; exact decide_eq_true (by omega)
    by_cases g2 : (x0.at' (Int.toNat v0)).c3 > b + (s.n : Int) + 1
    · left
      have d3 : decide ((x0.at' (Int.toNat v0)).c3 > IntKind.i64.wrap (g58_0 b t s + 1)) = true := by rw [l1, w1]; exact decide_eq_true g2
      have d4 : decide ((x0.at' (Int.toNat v0)).c3 > IntKind.i64.wrap (g125 b s' + 1)) = true := by rw [l2, w1]; exact decide_eq_true g2
      have c : (g1032_1 b t s (x0.at' (Int.toNat v0)).c3 (x0.at' (Int.toNat v0)).c4 (x0.at' (Int.toNat v0)).c5 (x0.at' (Int.toNat v0)).c6 (x0.at' (Int.toNat v0)).c7 (x0.at' (Int.toNat v0)).c8 (x0.at' (Int.toNat v0)).c9 (x0.at' (Int.toNat v0)).c10 (x0.at' (Int.toNat v0)).c11 (x0.at' (Int.toNat v0)).c12 (x0.at' (Int.toNat v0)).c13) = 10 := by unfold g1032_1; rw [d1, d3]; rfl
      refine err_rel hv ?_ ?_ e94 e96 c
      · rw [p12, c]; rfl
      · rw [p19_of e96]; unfold g1013_p7; rw [d2, d4]; rfl
    · have d3 : decide ((x0.at' (Int.toNat v0)).c3 > IntKind.i64.wrap (g58_0 b t s + 1)) = false := by rw [l1, w1]; exact decide_eq_false g2
      have d4 : decide ((x0.at' (Int.toNat v0)).c3 > IntKind.i64.wrap (g125 b s' + 1)) = false := by rw [l2, w1]; exact decide_eq_false g2
      obtain ⟨n, hn⟩ : ∃ n : Nat, (x0.at' (Int.toNat v0)).c3 = b + 1 + (n : Int) := ⟨((x0.at' (Int.toNat v0)).c3 - b - 1).toNat, by omega⟩
      have w2 : IntKind.i64.wrap (IntKind.i64.wrap ((x0.at' (Int.toNat v0)).c3 - b) - 1) = (n : Int) := by
        rw [show IntKind.i64.wrap ((x0.at' (Int.toNat v0)).c3 - b) = (x0.at' (Int.toNat v0)).c3 - b from wrap64 (by omega) (by omega), wrap64 (by omega) (by omega)]; omega
      have e1 : (g1032_1 b t s (x0.at' (Int.toNat v0)).c3 (x0.at' (Int.toNat v0)).c4 (x0.at' (Int.toNat v0)).c5 (x0.at' (Int.toNat v0)).c6 (x0.at' (Int.toNat v0)).c7 (x0.at' (Int.toNat v0)).c8 (x0.at' (Int.toNat v0)).c9 (x0.at' (Int.toNat v0)).c10 (x0.at' (Int.toNat v0)).c11 (x0.at' (Int.toNat v0)).c12 (x0.at' (Int.toNat v0)).c13) = (bif (g53 b t (Sl.app (Sl.part s 0 (n : Int)) (Sl.lit ([(⟨(x0.at' (Int.toNat v0)).c4, (x0.at' (Int.toNat v0)).c5, (x0.at' (Int.toNat v0)).c6, (x0.at' (Int.toNat v0)).c7, (x0.at' (Int.toNat v0)).c8, (x0.at' (Int.toNat v0)).c9, (x0.at' (Int.toNat v0)).c10, (x0.at' (Int.toNat v0)).c11, (x0.at' (Int.toNat v0)).c12, (x0.at' (Int.toNat v0)).c13⟩ : T68)] : List T68))) != 0) then 10 else 0) := by
        unfold g1032_1; rw [d1, d3, w2]; rfl
      have e2 : (g1032_0_2 b t s (x0.at' (Int.toNat v0)).c3 (x0.at' (Int.toNat v0)).c4 (x0.at' (Int.toNat v0)).c5 (x0.at' (Int.toNat v0)).c6 (x0.at' (Int.toNat v0)).c7 (x0.at' (Int.toNat v0)).c8 (x0.at' (Int.toNat v0)).c9 (x0.at' (Int.toNat v0)).c10 (x0.at' (Int.toNat v0)).c11 (x0.at' (Int.toNat v0)).c12 (x0.at' (Int.toNat v0)).c13) = (bif (g53 b t (Sl.app (Sl.part s 0 (n : Int)) (Sl.lit ([(⟨(x0.at' (Int.toNat v0)).c4, (x0.at' (Int.toNat v0)).c5, (x0.at' (Int.toNat v0)).c6, (x0.at' (Int.toNat v0)).c7, (x0.at' (Int.toNat v0)).c8, (x0.at' (Int.toNat v0)).c9, (x0.at' (Int.toNat v0)).c10, (x0.at' (Int.toNat v0)).c11, (x0.at' (Int.toNat v0)).c12, (x0.at' (Int.toNat v0)).c13⟩ : T68)] : List T68))) != 0) then s else (Sl.app (Sl.part s 0 (n : Int)) (Sl.lit ([(⟨(x0.at' (Int.toNat v0)).c4, (x0.at' (Int.toNat v0)).c5, (x0.at' (Int.toNat v0)).c6, (x0.at' (Int.toNat v0)).c7, (x0.at' (Int.toNat v0)).c8, (x0.at' (Int.toNat v0)).c9, (x0.at' (Int.toNat v0)).c10, (x0.at' (Int.toNat v0)).c11, (x0.at' (Int.toNat v0)).c12, (x0.at' (Int.toNat v0)).c13⟩ : T68)] : List T68)))) := by
        unfold g1032_0_2; rw [d1, d3, w2]; rfl
      have e3 : g1013_p7 x0 v0 b t s' = (bif (g55 b t (Sl.app (g1013_r5 x0 v0 b s').2.1 (Sl.lit ([(⟨(x0.at' (Int.toNat v0)).c4, (x0.at' (Int.toNat v0)).c5, (x0.at' (Int.toNat v0)).c6, (x0.at' (Int.toNat v0)).c7, (x0.at' (Int.toNat v0)).c8, (x0.at' (Int.toNat v0)).c9, (x0.at' (Int.toNat v0)).c10, (x0.at' (Int.toNat v0)).c11, (x0.at' (Int.toNat v0)).c12, (x0.at' (Int.toNat v0)).c13⟩ : T68)] : List T68))) != 0) then false else true) := by
        unfold g1013_p7; rw [d2, d4]; rfl
      have e4 : g1013_m6 x0 v0 b s' = (Sl.app (g1013_r5 x0 v0 b s').2.1 (Sl.lit ([(⟨(x0.at' (Int.toNat v0)).c4, (x0.at' (Int.toNat v0)).c5, (x0.at' (Int.toNat v0)).c6, (x0.at' (Int.toNat v0)).c7, (x0.at' (Int.toNat v0)).c8, (x0.at' (Int.toNat v0)).c9, (x0.at' (Int.toNat v0)).c10, (x0.at' (Int.toNat v0)).c11, (x0.at' (Int.toNat v0)).c12, (x0.at' (Int.toNat v0)).c13⟩ : T68)] : List T68))) := by unfold g1013_m6; rw [d2]; rfl
      have rB := r5_B (x0 := x0) (v0 := v0) (b := b) (s := s') hLb (by omega) hn (by omega)
      have pB : (Sl.part s 0 (n : Int)).B = s.B.take n := by
        rw [B_part s 0 (n : Int) (Int.le_refl _) (by omega) (by omega)]
        rw [show Int.toNat 0 = 0 from rfl, List.drop_zero, show Int.toNat ((n : Int) - 0) = n by omega]
      have oB : (Sl.app (g1013_r5 x0 v0 b s').2.1 (Sl.lit ([(⟨(x0.at' (Int.toNat v0)).c4, (x0.at' (Int.toNat v0)).c5, (x0.at' (Int.toNat v0)).c6, (x0.at' (Int.toNat v0)).c7, (x0.at' (Int.toNat v0)).c8, (x0.at' (Int.toNat v0)).c9, (x0.at' (Int.toNat v0)).c10, (x0.at' (Int.toNat v0)).c11, (x0.at' (Int.toNat v0)).c12, (x0.at' (Int.toNat v0)).c13⟩ : T68)] : List T68))).B = (Sl.app (Sl.part s 0 (n : Int)) (Sl.lit ([(⟨(x0.at' (Int.toNat v0)).c4, (x0.at' (Int.toNat v0)).c5, (x0.at' (Int.toNat v0)).c6, (x0.at' (Int.toNat v0)).c7, (x0.at' (Int.toNat v0)).c8, (x0.at' (Int.toNat v0)).c9, (x0.at' (Int.toNat v0)).c10, (x0.at' (Int.toNat v0)).c11, (x0.at' (Int.toNat v0)).c12, (x0.at' (Int.toNat v0)).c13⟩ : T68)] : List T68))).B := by
        rw [B_app, B_app, rB, pB, h.q]
      generalize (Sl.app (g1013_r5 x0 v0 b s').2.1 (Sl.lit ([(⟨(x0.at' (Int.toNat v0)).c4, (x0.at' (Int.toNat v0)).c5, (x0.at' (Int.toNat v0)).c6, (x0.at' (Int.toNat v0)).c7, (x0.at' (Int.toNat v0)).c8, (x0.at' (Int.toNat v0)).c9, (x0.at' (Int.toNat v0)).c10, (x0.at' (Int.toNat v0)).c11, (x0.at' (Int.toNat v0)).c12, (x0.at' (Int.toNat v0)).c13⟩ : T68)] : List T68))) = R at *
      generalize (Sl.app (Sl.part s 0 (n : Int)) (Sl.lit ([(⟨(x0.at' (Int.toNat v0)).c4, (x0.at' (Int.toNat v0)).c5, (x0.at' (Int.toNat v0)).c6, (x0.at' (Int.toNat v0)).c7, (x0.at' (Int.toNat v0)).c8, (x0.at' (Int.toNat v0)).c9, (x0.at' (Int.toNat v0)).c10, (x0.at' (Int.toNat v0)).c11, (x0.at' (Int.toNat v0)).c12, (x0.at' (Int.toNat v0)).c13⟩ : T68)] : List T68))) = Q at *
      cases z : (g53 b t Q != 0) with
      | true =>
        left
        have c : (g1032_1 b t s (x0.at' (Int.toNat v0)).c3 (x0.at' (Int.toNat v0)).c4 (x0.at' (Int.toNat v0)).c5 (x0.at' (Int.toNat v0)).c6 (x0.at' (Int.toNat v0)).c7 (x0.at' (Int.toNat v0)).c8 (x0.at' (Int.toNat v0)).c9 (x0.at' (Int.toNat v0)).c10 (x0.at' (Int.toNat v0)).c11 (x0.at' (Int.toNat v0)).c12 (x0.at' (Int.toNat v0)).c13) = 10 := by rw [e1, z]; rfl
        refine err_rel hv ?_ ?_ e94 e96 c
        · rw [p12, c]; rfl
        · rw [p19_of e96, e3]
          cases y : (g55 b t R != 0) with
          | true => rfl
          | false =>
            have := lv53' (lv_congr (lv_of (bne_eq_false_iff_eq.1 y)) oB.symm)
            rw [this] at z; cases z
      | false =>
        right
        have hQ := lv53 (bne_eq_false_iff_eq.1 z)
        have hR := lv_to (lv_congr hQ oB)
        refine go ?_ ?_ ?_
        · rw [e1, z]; rfl
        · rw [e3, hR]; rfl
        · rw [e2, z, e4]
          exact ⟨h.e, h.c, h.m, hQ, oB⟩
theorem step_all (hp : RCS x0) (hv : v0 < (x0.n : Int)) (h : FS v5 es v7 cs b t s s') :
    (∀ k k', RelT (g1012_l1 x0 (k + 1) v0 v1 v2 v3 v4 v5 es v7 cs b t s) (g1013_l1 x0 (k' + 1) v0 v1 v2 v3 v4 v5 es v7 cs b t s')) ∨ StepG x0 v0 v1 v2 v3 v4 v5 es v7 cs b t s s' := by
  obtain ⟨q1, q2⟩ := hp.2 (Int.toNat v0)
  have e : (g94 (x0.at' (Int.toNat v0)).c0 (x0.at' (Int.toNat v0)).c1 (x0.at' (Int.toNat v0)).c2 (x0.at' (Int.toNat v0)).c3 (x0.at' (Int.toNat v0)).c4 (x0.at' (Int.toNat v0)).c5 (x0.at' (Int.toNat v0)).c6 (x0.at' (Int.toNat v0)).c7 (x0.at' (Int.toNat v0)).c8 (x0.at' (Int.toNat v0)).c9 (x0.at' (Int.toNat v0)).c10 (x0.at' (Int.toNat v0)).c11 (x0.at' (Int.toNat v0)).c12 (x0.at' (Int.toNat v0)).c13 (x0.at' (Int.toNat v0)).c14 (x0.at' (Int.toNat v0)).c15 (x0.at' (Int.toNat v0)).c16 (x0.at' (Int.toNat v0)).c17 (x0.at' (Int.toNat v0)).c18 (x0.at' (Int.toNat v0)).c19) = (g96 (x0.at' (Int.toNat v0)).c0 (x0.at' (Int.toNat v0)).c1 (x0.at' (Int.toNat v0)).c2 (x0.at' (Int.toNat v0)).c3 (x0.at' (Int.toNat v0)).c4 (x0.at' (Int.toNat v0)).c5 (x0.at' (Int.toNat v0)).c6 (x0.at' (Int.toNat v0)).c7 (x0.at' (Int.toNat v0)).c8 (x0.at' (Int.toNat v0)).c9 (x0.at' (Int.toNat v0)).c10 (x0.at' (Int.toNat v0)).c11 (x0.at' (Int.toNat v0)).c12 (x0.at' (Int.toNat v0)).c13 (x0.at' (Int.toNat v0)).c14 (x0.at' (Int.toNat v0)).c15 (x0.at' (Int.toNat v0)).c16 (x0.at' (Int.toNat v0)).c17 (x0.at' (Int.toNat v0)).c18 (x0.at' (Int.toNat v0)).c19) := eq94 q1 q2
  cases e94 : ((g94 (x0.at' (Int.toNat v0)).c0 (x0.at' (Int.toNat v0)).c1 (x0.at' (Int.toNat v0)).c2 (x0.at' (Int.toNat v0)).c3 (x0.at' (Int.toNat v0)).c4 (x0.at' (Int.toNat v0)).c5 (x0.at' (Int.toNat v0)).c6 (x0.at' (Int.toNat v0)).c7 (x0.at' (Int.toNat v0)).c8 (x0.at' (Int.toNat v0)).c9 (x0.at' (Int.toNat v0)).c10 (x0.at' (Int.toNat v0)).c11 (x0.at' (Int.toNat v0)).c12 (x0.at' (Int.toNat v0)).c13 (x0.at' (Int.toNat v0)).c14 (x0.at' (Int.toNat v0)).c15 (x0.at' (Int.toNat v0)).c16 (x0.at' (Int.toNat v0)).c17 (x0.at' (Int.toNat v0)).c18 (x0.at' (Int.toNat v0)).c19) != 0) with
  | true => exact .inl (err_chk hv e e94)
  | false =>
    have e96 := e94
    rw [e] at e96
    rcases rec_ok (bne_eq_false_iff_eq.1 e94) with ⟨k, _⟩ | ⟨k, k3, _⟩ | ⟨k, k14, k15, k84⟩
    · exact .inr (step_mark h e94 e96 k)
    · exact step_item hv h e94 e96 k k3
    · exact .inr (step_snap h q1 q2 e94 e96 k k14 k15 k84)
end
end Go.Proofs.YtchhfojblmceiaaGreat
/-
  Lists and ranks: the reference's loops against the program's steps.
-/
namespace Go.Proofs.YtchhfojblmceiaaGreat
open Go Go.Vc Go.RowKit
set_option maxRecDepth 100000
set_option maxHeartbeats 4000000
section
variable {α γ : Type}
theorem foldMap (f : α → γ) : ∀ (l : List α) (a : List γ), l.foldl (fun b x => b ++ [f x]) a = a ++ l.map f
  | [], a => by simp
  | x :: l, a => by rw [List.foldl_cons, foldMap f l]; simp
theorem mapB [Inhabited γ] (F : Nat → Int → Sl γ → Sl γ) (s : Sl α) (f : α → γ) (hn : s.n ≤ 549755813888) (hF : ∀ k i a, F (k + 1) i a = bif decide (i < (s.n : Int)) then F k (IntKind.i64.wrap (i + 1)) (Sl.app a (Sl.lit [f (s.at' (Int.toNat i))])) else a) (a : Sl γ) :
    (F (Int.toNat ((s.n : Int) - 0) + 1) 0 a).B = a.B ++ s.B.map f := by
  rw [fold0 F s.n (fun j a => Sl.app a (Sl.lit [f (s.at' j)])) id hn (fun k i a => hF k i a) a]
  rw [← foldMap f s.B a.B, ← foldB s (fun x b => b ++ [f x])]
  exact (List.foldl_hom Sl.B fun st j => by rw [B_app, B_lit]).symm
end
end Go.Proofs.YtchhfojblmceiaaGreat
/-
  tape.Fold: the law.
-/
namespace Go.Proofs.YtchhfojblmceiaaGreat
open Go Go.Vc Go.RowKit
set_option maxRecDepth 100000
set_option maxHeartbeats 4000000
theorem B54 (s : Sl T68) (hn : s.n ≤ 549755813888) : (g54_2 s).B = s.B := by
  have := mapB (g54_l1 s) s (fun x => x) hn (fun _ _ _ => rfl) nilSl
  rw [List.map_id', B_nil, List.nil_append] at this; exact this
theorem se175 {s : Sl T175} (h : CE s) : SlE R175 s s := ⟨rfl, fun i hi => by
  obtain ⟨⟨_, a⟩, ⟨_, b⟩, _, c⟩ := h.2.2 i hi
  exact ⟨⟨rfl, rfl, rfl, rfl, rfl⟩, ⟨SlE.rfl' (fun _ => rfl) _, SlE.rfl' (fun _ => rfl) _, SlE.rfl' (fun _ => rfl) _⟩, by omega, by omega, by omega⟩⟩
theorem se137 {s : Sl T137} (h : CC s) : SlE R137 s s := ⟨rfl, fun i hi => by
  obtain ⟨_, a⟩ := h.2.2 i hi
  exact ⟨⟨rfl, rfl, rfl, rfl, rfl, rfl⟩, SlE.rfl' (fun _ => rfl) _, by omega⟩⟩
theorem self34 (a c : Int) {es : Sl T175} {cs : Sl T137} (h1 : CE es) (h2 : CC cs) : g34 a es c cs a es c cs = true := t34 (se175 h1) (by have := h1.2.1; omega) (se137 h2) (by have := h2.2.1; omega)
theorem self37 (a b c d e : Int) {es : Sl T175} (f : Int) {cs : Sl T137} (g h : Int) {s s' : Sl T68} (h1 : CE es) (h2 : CC cs) (hB : s.B = s'.B) (hn : s.n ≤ 549755813888) : g37 a b c d e es f cs g h s a b c d e es f cs g h s' = true := by
  have hl : g68 g h s g h s' = true := same68 g h s s' hn (by rw [← B_len s, ← B_len s', hB]) fun i hi => by
    have h1 := B_some s i
    have hn : s.n = s'.n := by rw [← B_len s, ← B_len s', hB]
    rw [hB, B_some, if_pos (by omega), if_pos hi] at h1
    exact (Option.some.inj h1).symm
  unfold g37 g37_m1 g106 g106_m1
  rw [hl, self34 e f h1 h2]
  simp only [beq_self_eq_true, cond_true]
theorem ce_nil : CE (nilSl : Sl T175) := ⟨fun _ _ => rfl, Nat.zero_le _, fun i hi => absurd hi (Nat.not_lt_zero i)⟩
theorem cc_nil : CC (nilSl : Sl T137) := ⟨fun _ _ => rfl, Nat.zero_le _, fun i hi => absurd hi (Nat.not_lt_zero i)⟩
theorem self1009 {l : Sl T122} (h : RCS l) : g1009 l l = true := by
  have c : g1009_r1 l l = (false, default) := clean0 (g1009_l2 l l) l.n _ (fun _ => false) (by have := h.1.2; omega) (fun _ _ => rfl) fun i hi => by
    simp only [Int.toNat_natCast]
    obtain ⟨q1, q2⟩ := h.2 i
    have hm := self34 (l.at' i).c16 (l.at' i).c18 q1 q2
    unfold g1028 g1028_m1 g106 g106_m1
    rw [hm]
    simp
  unfold g1009 g1009_p2
  rw [c]
  simp
theorem fs0 : FS g35_4 g35_5 g35_6 g35_7 g35_8 g35_9 g35_10 g36_10 := by
  refine ⟨ce_nil, cc_nil, by decide +kernel, ⟨by decide, by decide, ⟨fun _ => rfl, fun _ => rfl⟩, Nat.zero_le _, by decide, fun i hi => absurd hi (Nat.not_lt_zero i), fun i hi => absurd hi (Nat.not_lt_zero _)⟩, rfl⟩
theorem law1004 (x0 : Sl T122) (hp : RCS x0) : g1004 x0 = true := by
  have hn := hp.1.2
  unfold g1004 g1004_m1
  rw [e1011 hp, self1009 hp]
  have hr : RelT (g1012_r13 x0) (g1013_r20 x0) := loop_rel (x0 := x0) hn (fun v0 v1 v2 v3 v4 v5 es v7 cs b t s s' _ hv h => step_all hp hv h) x0.n (Int.toNat ((x0.n : Int) - 0)) 0 g35_0 g35_1 g35_2 g35_3 g35_4 g35_5 g35_6 g35_7 g35_8 g35_9 g35_10 g36_10 (Int.le_refl _) (by omega) (by omega) fs0
  rcases hr with ⟨a1, a2, a3, e, a4⟩ | g
  · have p : g1012_p14 x0 = false := by unfold g1012_p14; rw [a1]; rfl
    have q : g1013_p21 x0 = false := by unfold g1013_p21; rw [a2]; rfl
    unfold g1012_0_0 g1012_0_1 g1012_0_2 g1012_0_3 g1012_0_4 g1012_0_5 g1012_0_6 g1012_0_7 g1012_0_8 g1012_0_9 g1012_0_10 g1012_1 g1013_0_0 g1013_0_1 g1013_0_2 g1013_0_3 g1013_0_4 g1013_0_5 g1013_0_6 g1013_0_7 g1013_0_8 g1013_0_9 g1013_0_10 g1013_1
    rw [p, q]
    simp only [cond_false]
    rw [← a3, a4]
    simp only [beq_self_eq_true, cond_true]
    rw [self37 0 0 0 0 0 0 0 0 ce_nil cc_nil rfl (Nat.zero_le _)]
    rfl
  · have p : g1012_p14 x0 = true := by unfold g1012_p14; rw [g.a.1]; rfl
    have q : g1013_p21 x0 = true := by unfold g1013_p21; rw [g.a.2]; rfl
    obtain ⟨r0, r1, r2, r3⟩ := round_trip g.f.e g.f.c g.f.m
    have hL := g.f.l.n
    have hq := g.f.q
    have hs : (g1013_r20 x0).2.2.2.2.2.2.2.2.2.2.2.1.n ≤ 549755813888 := by
      rw [← B_len, hq, B_len]; omega
    unfold g1012_0_0 g1012_0_1 g1012_0_2 g1012_0_3 g1012_0_4 g1012_0_5 g1012_0_6 g1012_0_7 g1012_0_8 g1012_0_9 g1012_0_10 g1012_1 g1013_0_0 g1013_0_1 g1013_0_2 g1013_0_3 g1013_0_4 g1013_0_5 g1013_0_6 g1013_0_7 g1013_0_8 g1013_0_9 g1013_0_10 g1013_1
    rw [p, q]
    simp only [cond_true, beq_self_eq_true]
    rw [r0, r1, r2, r3, ← g.k1, ← g.k2, ← g.k3, ← g.k4, ← g.k5, ← g.k6, ← g.k7, ← g.k8, ← g.k9, ← g.k10]
    have c1 : g85_1 (g1012_r13 x0).2.2.2.2.2.2.1 = (g1012_r13 x0).2.2.2.2.2.2.1 := ce79 g.f.e
    have c3 : g85_3 (g1012_r13 x0).2.2.2.2.2.2.2.2.1 = (g1012_r13 x0).2.2.2.2.2.2.2.2.1 := cc85 g.f.c
    rw [c1, c3]
    simp only [g85_0, g85_2, g79_0, g54_0, g54_1]
    rw [self37 _ _ _ _ _ _ _ _ g.f.e g.f.c (by rw [B54 _ hs, hq]) (by omega)]
    rfl
end Go.Proofs.YtchhfojblmceiaaGreat
/- What the opening of a slice of records must know of one record. -/
namespace Go.Proofs.YtchhfojblmceiaaGreat
open Go Go.Vc
def W122 (x : T122) : Prop := CE x.c17 ∧ CC x.c19
theorem w122d : W122 default :=
  ⟨⟨fun _ _ => rfl, Nat.zero_le _, fun i h => absurd h (Nat.not_lt_zero i)⟩, ⟨fun _ _ => rfl, Nat.zero_le _, fun i h => absurd h (Nat.not_lt_zero i)⟩⟩
end Go.Proofs.YtchhfojblmceiaaGreat
