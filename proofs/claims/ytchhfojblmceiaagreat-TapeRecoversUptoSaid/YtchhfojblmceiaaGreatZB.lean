/-
  Walks: what functions of the program answer, as functions.
-/
import Derived.Test.YtchhfojblmceiaaGreatCl
import Derived.Test.YtchhfojblmceiaaGreatEc
import Derived.Test.YtchhfojblmceiaaGreatYA
import Derived.Test.YtchhfojblmceiaaGreatZA
namespace Go.Proofs.YtchhfojblmceiaaGreat
open Go Go.Vc Go.RowKit
set_option maxRecDepth 100000
set_option maxHeartbeats 4000000
noncomputable def g153_m1 (x0 : Int) : Bool := (bif (decide (x0 ≥ 1)) then (decide (x0 ≤ 1048576)) else false)
noncomputable def g153 (x0 : Int) : Bool := (g153_m1 x0)
noncomputable def F153 : Fq := ⟨[.v kI], fun x0 => ⟨⟨none, .bool (g153 x0)⟩⟩⟩
theorem pc153 : FnOk Tryz.prog 66 F153.sh _ (F153.sh.flatMap Sh.bs) F153.f [] :=
  fun (x0 : Int) => pure_of_exec (X := X0) (R := ⟨.pure, [.tmp 2], [(.t 0, kB)], ⟨[U], []⟩⟩) (h := (.s .z (.j ⟨4, [], [(.t 2, kB)], [], .f⟩ .z .z))) (ms := []) (p := True) X0_ok Tryz.func66 rfl rfl (by kernel_rfl) (trivial)
theorem k153 : XOk Tryz.prog 66 F153.ans := Fq.ok ⟨_, _, Tryz.func66, rfl, by kernel_rfl⟩ pc153
noncomputable def g87_m1 (x0 : Int) (x1 : Int) : Bool := (bif (!(g153 x0)) then true else (!(g153 x1)))
noncomputable def g87 (x0 : Int) (x1 : Int) (x2 : Int) (x3 : Sl T175) (x4 : Int) (x5 : Sl T137) : Int := (bif (g87_m1 x0 x1) then 2 else (g84 x2 x3 x4 x5))
noncomputable def F87 : Fq := ⟨[.g [kI, kI, kI, .sl E175, kI, .sl E137]], fun x0 x1 x2 x3 x4 x5 => ⟨⟨none, .int .i64 (g87 x0 x1 x2 x3 x4 x5)⟩⟩⟩
theorem pc87 : FnOk Tryz.prog 68 F87.sh _ (F87.sh.flatMap Sh.bs) F87.f [] :=
  fun (x0 : Int) (x1 : Int) (x2 : Int) x3 _ _ (x4 : Int) x5 _ _ => pure_of_exec (X := (mkX [(73, F84.ans), (66, F153.ans)])) (R := ⟨.pure, [.tmp 2], [(.t 0, kI)], ⟨[U], []⟩⟩) (h := (.s .z (.s (.j ⟨4102, [], [(.t 12, kB)], [], .f⟩ .z .z) .z))) (ms := []) (p := True) (mkX_ok ⟨k84, k153, trivial⟩) Tryz.func68 rfl rfl (by kernel_rfl) (trivial)
theorem k87 : XOk Tryz.prog 68 F87.ans := Fq.ok ⟨_, _, Tryz.func68, rfl, by kernel_rfl⟩ pc87
noncomputable def g88_0 (x0 : Int) : Int := x0
noncomputable def g88_1 (x1 : Int) : Int := x1
noncomputable def g88_2 (x2 : Int) : Int := (g85_0 x2)
noncomputable def g88_3 (x3 : Sl T175) : Sl T175 := (g85_1 x3)
noncomputable def g88_4 (x4 : Int) : Int := (g85_2 x4)
noncomputable def g88_5 (x5 : Sl T137) : Sl T137 := (g85_3 x5)
noncomputable def F88 : Fq := ⟨[.g [kI, kI, kI, .sl E175, kI, .sl E137]], fun x0 x1 x2 x3 x4 x5 => ⟨⟨none, .agg [.int .i64 (g88_0 x0), .int .i64 (g88_1 x1), .int .i64 (g88_2 x2), ofSl 8 e175 (g88_3 x3), .int .i64 (g88_4 x4), ofSl 7 e137 (g88_5 x5)]⟩⟩⟩
theorem pc88 : FnOk Tryz.prog 63 F88.sh _ (F88.sh.flatMap Sh.bs) F88.f [] :=
  fun (x0 : Int) (x1 : Int) (x2 : Int) x3 _ _ (x4 : Int) x5 _ _ => pure_of_exec (X := (mkX [(42, F85.ans)])) (R := ⟨.pure, [.cell 2 41], [(.c 0 0, kI), (.c 0 1, kI), (.c 0 2, kI), (.c 0 3, .sl E175), (.c 0 4, kI), (.c 0 5, .sl E137)], ⟨[.agg (us 6 [])], []⟩⟩) (h := .z) (ms := []) (p := True) (mkX_ok ⟨k85, trivial⟩) Tryz.func63 rfl rfl (by kernel_rfl) (trivial)
theorem k88 : XOk Tryz.prog 63 F88.ans := Fq.ok ⟨_, _, Tryz.func63, rfl, by kernel_rfl⟩ pc88
noncomputable def g89_m1 (x0 : Int) (x1 : Int) : Bool := (bif (!(g120 x0)) then true else (!(g120 x1)))
noncomputable def g89 (x0 : Int) (x1 : Int) (x2 : Int) (x3 : Sl T175) (x4 : Int) (x5 : Sl T137) : Int := (bif (g89_m1 x0 x1) then 2 else (g86 x2 x3 x4 x5))
noncomputable def F89 : Fq := ⟨[.g [kI, kI, kI, .sl E175, kI, .sl E137]], fun x0 x1 x2 x3 x4 x5 => ⟨⟨none, .int .i64 (g89 x0 x1 x2 x3 x4 x5)⟩⟩⟩
theorem pc89 : FnOk Tryz.prog 90 F89.sh _ (F89.sh.flatMap Sh.bs) F89.f [] :=
  fun (x0 : Int) (x1 : Int) (x2 : Int) x3 _ _ (x4 : Int) x5 _ _ => pure_of_exec (X := (mkX [(125, F86.ans), (91, F120.ans)])) (R := ⟨.pure, [.tmp 2], [(.t 0, kI)], ⟨[U], []⟩⟩) (h := (.s .z (.s (.j ⟨4102, [], [(.t 12, kB)], [], .f⟩ .z .z) .z))) (ms := []) (p := True) (mkX_ok ⟨k86, k120, trivial⟩) Tryz.func90 rfl rfl (by kernel_rfl) (trivial)
theorem k89 : XOk Tryz.prog 90 F89.ans := Fq.ok ⟨_, _, Tryz.func90, rfl, by kernel_rfl⟩ pc89
noncomputable def g25 (x0 : Int) (x1 : Int) (x2 : Int) (x3 : Sl T175) (x4 : Int) (x5 : Sl T137) : Bool := ((g87 (g88_0 x0) (g88_1 x1) (g88_2 x2) (g88_3 x3) (g88_4 x4) (g88_5 x5)) == (g89 x0 x1 x2 x3 x4 x5))
noncomputable def F25 : Fq := ⟨[.g [kI, kI, kI, .sl E175, kI, .sl E137]], fun x0 x1 x2 x3 x4 x5 => ⟨⟨none, .bool (g25 x0 x1 x2 x3 x4 x5)⟩⟩⟩
end Go.Proofs.YtchhfojblmceiaaGreat
/-
  Walks: what functions of the program answer, as functions.
-/
namespace Go.Proofs.YtchhfojblmceiaaGreat
open Go Go.Vc Go.RowKit
set_option maxRecDepth 100000
set_option maxHeartbeats 4000000
noncomputable def g175_m1 (x0 : Int) (x1 : Int) (x2 : Int) (x3 : Sl T175) (x4 : Int) (x5 : Sl T137) : Bool := (bif (x0 == 0) then (bif (x1 == 0) then (bif (x4 == 0) then (bif ((x5.n : Int) == 0) then (bif (x2 == 0) then ((x3.n : Int) == 0) else false) else false) else false) else false) else false)
noncomputable def g175 (x0 : Int) (x1 : Int) (x2 : Int) (x3 : Sl T175) (x4 : Int) (x5 : Sl T137) : Bool := (g175_m1 x0 x1 x2 x3 x4 x5)
noncomputable def F175 : Fq := ⟨[.g [kI, kI, kI, .sl E175, kI, .sl E137]], fun x0 x1 x2 x3 x4 x5 => ⟨⟨none, .bool (g175 x0 x1 x2 x3 x4 x5)⟩⟩⟩
theorem pc175 : FnOk Tryz.prog 65 F175.sh _ (F175.sh.flatMap Sh.bs) F175.f [] :=
  fun (x0 : Int) (x1 : Int) (x2 : Int) x3 _ _ (x4 : Int) x5 _ _ => pure_of_exec (X := X0) (R := ⟨.pure, [.tmp 2], [(.t 0, kB)], ⟨[U], []⟩⟩) (h := (.s .z (.s .z (.j ⟨4, [.b 0, .b 1], [(.t 2, kB)], [], .f⟩ .z .z)))) (ms := []) (p := True) X0_ok Tryz.func65 rfl rfl (by kernel_rfl) (trivial)
theorem k175 : XOk Tryz.prog 65 F175.ans := Fq.ok ⟨_, _, Tryz.func65, rfl, by kernel_rfl⟩ pc175
noncomputable def g176_m1 (x0 : Int) (x1 : Int) (x2 : Int) (x3 : Sl T175) (x4 : Int) (x5 : Sl T137) : Bool := (bif (x0 == 0) then (bif (x1 == 0) then (bif (x4 == 0) then (bif (x2 == 0) then (bif ((x3.n : Int) == 0) then ((x5.n : Int) == 0) else false) else false) else false) else false) else false)
noncomputable def g176 (x0 : Int) (x1 : Int) (x2 : Int) (x3 : Sl T175) (x4 : Int) (x5 : Sl T137) : Bool := (g176_m1 x0 x1 x2 x3 x4 x5)
noncomputable def F176 : Fq := ⟨[.g [kI, kI, kI, .sl E175, kI, .sl E137]], fun x0 x1 x2 x3 x4 x5 => ⟨⟨none, .bool (g176 x0 x1 x2 x3 x4 x5)⟩⟩⟩
theorem pc176 : FnOk Tryz.prog 89 F176.sh _ (F176.sh.flatMap Sh.bs) F176.f [] :=
  fun (x0 : Int) (x1 : Int) (x2 : Int) x3 _ _ (x4 : Int) x5 _ _ => pure_of_exec (X := X0) (R := ⟨.pure, [.tmp 2], [(.t 0, kB)], ⟨[U], []⟩⟩) (h := (.s .z (.j ⟨4, [.b 0], [(.t 2, kB)], [], .f⟩ .z .z))) (ms := []) (p := True) X0_ok Tryz.func89 rfl rfl (by kernel_rfl) (trivial)
theorem k176 : XOk Tryz.prog 89 F176.ans := Fq.ok ⟨_, _, Tryz.func89, rfl, by kernel_rfl⟩ pc176
noncomputable def g94_m1 (x0 : Int) : Bool := (bif (decide (x0 < 1)) then true else (decide (x0 > 3)))
noncomputable def g94_m2 (x0 : Int) (x1 : Int) (x2 : Int) (x3 : Int) (x4 : Int) (x5 : Int) (x6 : Bool) (x7 : Int) (x8 : Int) (x9 : Int) (x10 : ByteArray) (x11 : ByteArray) (x12 : ByteArray) (x13 : Int) (x14 : Int) (x15 : Int) (x16 : Int) (x17 : Sl T175) (x18 : Int) (x19 : Sl T137) : Bool := (bif (x0 != 1) then (bif (x1 != 0) then true else (bif (x2 != 0) then true else (bif (x0 != 2) then (bif (x3 != 0) then true else (bif (!((x4 == 0) && ((x5 == 0) && ((x6 == false) && ((x7 == 0) && ((x8 == 0) && ((x9 == 0) && (((x10 : ByteArray).toList == (⟨#[]⟩ : ByteArray).toList) && (((x11 : ByteArray).toList == (⟨#[]⟩ : ByteArray).toList) && (((x12 : ByteArray).toList == (⟨#[]⟩ : ByteArray).toList) && ((x13 == 0) && true))))))))))) then true else (bif (x0 != 3) then (!(g175 x14 x15 x16 x17 x18 x19)) else false))) else (bif (x0 != 3) then (!(g175 x14 x15 x16 x17 x18 x19)) else false)))) else (bif (x0 != 2) then (bif (x3 != 0) then true else (bif (!((x4 == 0) && ((x5 == 0) && ((x6 == false) && ((x7 == 0) && ((x8 == 0) && ((x9 == 0) && (((x10 : ByteArray).toList == (⟨#[]⟩ : ByteArray).toList) && (((x11 : ByteArray).toList == (⟨#[]⟩ : ByteArray).toList) && (((x12 : ByteArray).toList == (⟨#[]⟩ : ByteArray).toList) && ((x13 == 0) && true))))))))))) then true else (bif (x0 != 3) then (!(g175 x14 x15 x16 x17 x18 x19)) else false))) else (bif (x0 != 3) then (!(g175 x14 x15 x16 x17 x18 x19)) else false)))
noncomputable def g94_m3 (x1 : Int) (x2 : Int) : Bool := (bif (!(g153 x1)) then true else (bif (decide (x2 < (-1))) then true else (decide (x2 ≥ 3))))
noncomputable def g94 (x0 : Int) (x1 : Int) (x2 : Int) (x3 : Int) (x4 : Int) (x5 : Int) (x6 : Bool) (x7 : Int) (x8 : Int) (x9 : Int) (x10 : ByteArray) (x11 : ByteArray) (x12 : ByteArray) (x13 : Int) (x14 : Int) (x15 : Int) (x16 : Int) (x17 : Sl T175) (x18 : Int) (x19 : Sl T137) : Int := (bif (g94_m1 x0) then 3 else (bif (g94_m2 x0 x1 x2 x3 x4 x5 x6 x7 x8 x9 x10 x11 x12 x13 x14 x15 x16 x17 x18 x19) then 8 else (bif (x0 == 1) then (bif (g94_m3 x1 x2) then 2 else 0) else (bif (x0 == 2) then (bif (!(g153 x3)) then 2 else (g51 x4 x5 x6 x7 x8 x9 x10 x11 x12 x13)) else (g87 x14 x15 x16 x17 x18 x19)))))
noncomputable def F94 : Fq := ⟨[.g [kI, kI, kI, kI, kI, kI, kB, kI, kI, kI, kS, kS, kS, kI, kI, kI, kI, .sl E175, kI, .sl E137]], fun x0 x1 x2 x3 x4 x5 x6 x7 x8 x9 x10 x11 x12 x13 x14 x15 x16 x17 x18 x19 => ⟨⟨none, .int .i64 (g94 x0 x1 x2 x3 x4 x5 x6 x7 x8 x9 x10 x11 x12 x13 x14 x15 x16 x17 x18 x19)⟩⟩⟩
theorem pc94 : FnOk Tryz.prog 31 F94.sh _ (F94.sh.flatMap Sh.bs) F94.f [] :=
  fun (x0 : Int) (x1 : Int) (x2 : Int) (x3 : Int) (x4 : Int) (x5 : Int) x6 (x7 : Int) (x8 : Int) (x9 : Int) x10 _ x11 _ x12 _ (x13 : Int) (x14 : Int) (x15 : Int) (x16 : Int) x17 _ _ (x18 : Int) x19 _ _ => pure_of_exec (X := (mkX [(67, F51.ans), (68, F87.ans), (66, F153.ans), (65, F175.ans)])) (R := ⟨.pure, [.tmp 2], [(.t 0, kI)], ⟨[U], []⟩⟩) (h := (.s .z (.s (.j ⟨2054, [], [(.t 11, kB)], [], .f⟩ .z .z) (.s .z (.s (.j ⟨4503599627370502, [.b 1], [(.t 52, kB)], [], .f⟩ .z .z) (.s (.s .z (.s .z (.s (.s (.j ⟨1180591620717411303430, [], [(.t 70, kB)], [], .f⟩ .z .z) .z) .z))) .z)))))) (ms := []) (p := True) (mkX_ok ⟨k51, k87, k153, k175, trivial⟩) Tryz.func31 rfl rfl (by kernel_rfl) (trivial)
theorem k94 : XOk Tryz.prog 31 F94.ans := Fq.ok ⟨_, _, Tryz.func31, rfl, by kernel_rfl⟩ pc94
noncomputable def g95_0 (x0 : Int) : Int := x0
noncomputable def g95_1 (x1 : Int) : Int := x1
noncomputable def g95_2 (x2 : Int) : Int := x2
noncomputable def g95_3 (x3 : Int) : Int := x3
noncomputable def g95_4 (x4 : Int) : Int := x4
noncomputable def g95_5 (x5 : Int) : Int := x5
noncomputable def g95_6 (x6 : Bool) : Bool := x6
noncomputable def g95_7 (x7 : Int) : Int := x7
noncomputable def g95_8 (x8 : Int) : Int := x8
noncomputable def g95_9 (x9 : Int) : Int := x9
noncomputable def g95_10 (x10 : ByteArray) : ByteArray := x10
noncomputable def g95_11 (x11 : ByteArray) : ByteArray := x11
noncomputable def g95_12 (x12 : ByteArray) : ByteArray := x12
noncomputable def g95_13 (x13 : Int) : Int := x13
noncomputable def g95_14 (x14 : Int) : Int := (g88_0 x14)
noncomputable def g95_15 (x15 : Int) : Int := (g88_1 x15)
noncomputable def g95_16 (x16 : Int) : Int := (g88_2 x16)
noncomputable def g95_17 (x17 : Sl T175) : Sl T175 := (g88_3 x17)
noncomputable def g95_18 (x18 : Int) : Int := (g88_4 x18)
noncomputable def g95_19 (x19 : Sl T137) : Sl T137 := (g88_5 x19)
noncomputable def F95 : Fq := ⟨[.g [kI, kI, kI, kI, kI, kI, kB, kI, kI, kI, kS, kS, kS, kI, kI, kI, kI, .sl E175, kI, .sl E137]], fun x0 x1 x2 x3 x4 x5 x6 x7 x8 x9 x10 x11 x12 x13 x14 x15 x16 x17 x18 x19 => ⟨⟨none, .agg [.int .i64 (g95_0 x0), .int .i64 (g95_1 x1), .int .i64 (g95_2 x2), .int .i64 (g95_3 x3), .int .i64 (g95_4 x4), .int .i64 (g95_5 x5), .bool (g95_6 x6), .int .i64 (g95_7 x7), .int .i64 (g95_8 x8), .int .i64 (g95_9 x9), .str (g95_10 x10), .str (g95_11 x11), .str (g95_12 x12), .int .i64 (g95_13 x13), .int .i64 (g95_14 x14), .int .i64 (g95_15 x15), .int .i64 (g95_16 x16), ofSl 8 e175 (g95_17 x17), .int .i64 (g95_18 x18), ofSl 7 e137 (g95_19 x19)]⟩⟩⟩
theorem pc95 : FnOk Tryz.prog 29 F95.sh _ (F95.sh.flatMap Sh.bs) F95.f [] :=
  fun (x0 : Int) (x1 : Int) (x2 : Int) (x3 : Int) (x4 : Int) (x5 : Int) x6 (x7 : Int) (x8 : Int) (x9 : Int) x10 _ x11 _ x12 _ (x13 : Int) (x14 : Int) (x15 : Int) (x16 : Int) x17 _ _ (x18 : Int) x19 _ _ => pure_of_exec (X := (mkX [(63, F88.ans)])) (R := ⟨.pure, [.cell 2 71], [(.c 0 0, kI), (.c 0 1, kI), (.c 0 2, kI), (.c 0 3, kI), (.c 0 4, kI), (.c 0 5, kI), (.c 0 6, kB), (.c 0 7, kI), (.c 0 8, kI), (.c 0 9, kI), (.c 0 10, kS), (.c 0 11, kS), (.c 0 12, kS), (.c 0 13, kI), (.c 0 14, kI), (.c 0 15, kI), (.c 0 16, kI), (.c 0 17, .sl E175), (.c 0 18, kI), (.c 0 19, .sl E137)], ⟨[.agg (us 20 [])], []⟩⟩) (h := .z) (ms := []) (p := True) (mkX_ok ⟨k88, trivial⟩) Tryz.func29 rfl rfl (by kernel_rfl) (trivial)
theorem k95 : XOk Tryz.prog 29 F95.ans := Fq.ok ⟨_, _, Tryz.func29, rfl, by kernel_rfl⟩ pc95
noncomputable def g96_m1 (x0 : Int) (x1 : Int) (x2 : Int) (x3 : Int) (x4 : Int) (x5 : Int) (x6 : Bool) (x7 : Int) (x8 : Int) (x9 : Int) (x10 : ByteArray) (x11 : ByteArray) (x12 : ByteArray) (x13 : Int) (x14 : Int) (x15 : Int) (x16 : Int) (x17 : Sl T175) (x18 : Int) (x19 : Sl T137) : Bool := (bif (x0 != 1) then (bif (x1 != 0) then true else (bif (x2 != 0) then true else (bif (x0 != 2) then (bif (x3 != 0) then true else (bif (!((x4 == 0) && ((x5 == 0) && ((x6 == false) && ((x7 == 0) && ((x8 == 0) && ((x9 == 0) && (((x10 : ByteArray).toList == (⟨#[]⟩ : ByteArray).toList) && (((x11 : ByteArray).toList == (⟨#[]⟩ : ByteArray).toList) && (((x12 : ByteArray).toList == (⟨#[]⟩ : ByteArray).toList) && ((x13 == 0) && true))))))))))) then true else (bif (x0 != 3) then (!(g176 x14 x15 x16 x17 x18 x19)) else false))) else (bif (x0 != 3) then (!(g176 x14 x15 x16 x17 x18 x19)) else false)))) else (bif (x0 != 2) then (bif (x3 != 0) then true else (bif (!((x4 == 0) && ((x5 == 0) && ((x6 == false) && ((x7 == 0) && ((x8 == 0) && ((x9 == 0) && (((x10 : ByteArray).toList == (⟨#[]⟩ : ByteArray).toList) && (((x11 : ByteArray).toList == (⟨#[]⟩ : ByteArray).toList) && (((x12 : ByteArray).toList == (⟨#[]⟩ : ByteArray).toList) && ((x13 == 0) && true))))))))))) then true else (bif (x0 != 3) then (!(g176 x14 x15 x16 x17 x18 x19)) else false))) else (bif (x0 != 3) then (!(g176 x14 x15 x16 x17 x18 x19)) else false)))
noncomputable def g96_m2 (x1 : Int) (x2 : Int) : Bool := (bif (!(g120 x1)) then true else (!(g112 x2 (-1) 2)))
noncomputable def g96 (x0 : Int) (x1 : Int) (x2 : Int) (x3 : Int) (x4 : Int) (x5 : Int) (x6 : Bool) (x7 : Int) (x8 : Int) (x9 : Int) (x10 : ByteArray) (x11 : ByteArray) (x12 : ByteArray) (x13 : Int) (x14 : Int) (x15 : Int) (x16 : Int) (x17 : Sl T175) (x18 : Int) (x19 : Sl T137) : Int := (bif (!(g112 x0 1 3)) then 3 else (bif (g96_m1 x0 x1 x2 x3 x4 x5 x6 x7 x8 x9 x10 x11 x12 x13 x14 x15 x16 x17 x18 x19) then 8 else (bif (x0 == 3) then (g89 x14 x15 x16 x17 x18 x19) else (bif (x0 == 1) then (bif (g96_m2 x1 x2) then 2 else 0) else (bif (!(g120 x3)) then 2 else (g52 x4 x5 x6 x7 x8 x9 x10 x11 x12 x13))))))
noncomputable def F96 : Fq := ⟨[.g [kI, kI, kI, kI, kI, kI, kB, kI, kI, kI, kS, kS, kS, kI, kI, kI, kI, .sl E175, kI, .sl E137]], fun x0 x1 x2 x3 x4 x5 x6 x7 x8 x9 x10 x11 x12 x13 x14 x15 x16 x17 x18 x19 => ⟨⟨none, .int .i64 (g96 x0 x1 x2 x3 x4 x5 x6 x7 x8 x9 x10 x11 x12 x13 x14 x15 x16 x17 x18 x19)⟩⟩⟩
theorem pc96 : FnOk Tryz.prog 38 F96.sh _ (F96.sh.flatMap Sh.bs) F96.f [] :=
  fun (x0 : Int) (x1 : Int) (x2 : Int) (x3 : Int) (x4 : Int) (x5 : Int) x6 (x7 : Int) (x8 : Int) (x9 : Int) x10 _ x11 _ x12 _ (x13 : Int) (x14 : Int) (x15 : Int) (x16 : Int) x17 _ _ (x18 : Int) x19 _ _ => pure_of_exec (X := (mkX [(92, F52.ans), (90, F89.ans), (54, F112.ans), (91, F120.ans), (89, F176.ans)])) (R := ⟨.pure, [.tmp 2], [(.t 0, kI)], ⟨[U], []⟩⟩) (h := (.s .z (.s .z (.s (.j ⟨70368744177670, [], [(.t 46, kB)], [], .f⟩ .z .z) (.s .z (.s (.s .z (.s (.s (.j ⟨36893488147419103238, [], [(.t 65, kB)], [], .f⟩ .z .z) .z) .z)) .z)))))) (ms := []) (p := True) (mkX_ok ⟨k52, k89, k112, k120, k176, trivial⟩) Tryz.func38 rfl rfl (by kernel_rfl) (trivial)
theorem k96 : XOk Tryz.prog 38 F96.ans := Fq.ok ⟨_, _, Tryz.func38, rfl, by kernel_rfl⟩ pc96
noncomputable def g28 (x0 : Int) (x1 : Int) (x2 : Int) (x3 : Int) (x4 : Int) (x5 : Int) (x6 : Bool) (x7 : Int) (x8 : Int) (x9 : Int) (x10 : ByteArray) (x11 : ByteArray) (x12 : ByteArray) (x13 : Int) (x14 : Int) (x15 : Int) (x16 : Int) (x17 : Sl T175) (x18 : Int) (x19 : Sl T137) : Bool := ((g94 (g95_0 x0) (g95_1 x1) (g95_2 x2) (g95_3 x3) (g95_4 x4) (g95_5 x5) (g95_6 x6) (g95_7 x7) (g95_8 x8) (g95_9 x9) (g95_10 x10) (g95_11 x11) (g95_12 x12) (g95_13 x13) (g95_14 x14) (g95_15 x15) (g95_16 x16) (g95_17 x17) (g95_18 x18) (g95_19 x19)) == (g96 x0 x1 x2 x3 x4 x5 x6 x7 x8 x9 x10 x11 x12 x13 x14 x15 x16 x17 x18 x19))
noncomputable def F28 : Fq := ⟨[.g [kI, kI, kI, kI, kI, kI, kB, kI, kI, kI, kS, kS, kS, kI, kI, kI, kI, .sl E175, kI, .sl E137]], fun x0 x1 x2 x3 x4 x5 x6 x7 x8 x9 x10 x11 x12 x13 x14 x15 x16 x17 x18 x19 => ⟨⟨none, .bool (g28 x0 x1 x2 x3 x4 x5 x6 x7 x8 x9 x10 x11 x12 x13 x14 x15 x16 x17 x18 x19)⟩⟩⟩
end Go.Proofs.YtchhfojblmceiaaGreat
