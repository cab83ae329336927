/-
  Walks: what functions of the program answer, as functions.
-/
import Derived.Test.YtchhfojblmceiaaGreatCl
import Derived.Test.YtchhfojblmceiaaGreatEc
import Derived.Test.YtchhfojblmceiaaGreatYA
import Derived.Test.YtchhfojblmceiaaGreatHA
namespace Go.Proofs.YtchhfojblmceiaaGreat
open Go Go.Vc Go.RowKit
set_option maxRecDepth 100000
set_option maxHeartbeats 4000000
noncomputable def g1022 (x0 : Sl Int) : Int := (bits .or .i64 (bits .or .i64 (IntKind.i64.wrap ((IntKind.i64.wrap (x0.at' (Int.toNat 0))) * 2 ^ (Int.toNat 16))) (IntKind.i64.wrap ((IntKind.i64.wrap (x0.at' (Int.toNat 1))) * 2 ^ (Int.toNat 8)))) (IntKind.i64.wrap (x0.at' (Int.toNat 2))))
noncomputable def F1022 : Fq := ⟨[.v (.sl E5)], fun x0 => ⟨⟨some (U8 x0 ∧ 3 ≤ x0.n), .int .i64 (g1022 x0)⟩⟩⟩
theorem pc1022 : FnOk Tryz.prog 22 F1022.sh _ (F1022.sh.flatMap Sh.bs) F1022.f [] :=
  fun x0 n0 _ hp => pure_of_exec (X := X0) (R := ⟨.pure, [.tmp 2], [(.t 0, kI)], ⟨[U], []⟩⟩) (h := .z) (ms := []) (p := (((0 : Int) ≤ 0 ∧ 0 < ((x0.n : Nat) : Int)) ∧ (((0 : Int) ≤ 16 ∧ (16 : Int) ≤ 64) ∧ (((0 : Int) ≤ 1 ∧ 1 < ((x0.n : Nat) : Int)) ∧ (((0 : Int) ≤ 8 ∧ (8 : Int) ≤ 64) ∧ ((0 : Int) ≤ 2 ∧ 2 < ((x0.n : Nat) : Int))))))) X0_ok Tryz.func22 rfl rfl (by kernel_rfl) (have ⟨hq0, hq1⟩ := hp; ⟨(by omega), ⟨(by omega), ⟨(by omega), ⟨(by omega), (by omega)⟩⟩⟩⟩)
theorem k1022 : XOk Tryz.prog 22 F1022.ans := Fq.ok ⟨_, _, Tryz.func22, rfl, by kernel_rfl⟩ pc1022
theorem or_b64 (v b k : Nat) (h1 : v * 2 ^ k < 9223372036854775808) (h2 : b < 2 ^ k) (h3 : b < 9223372036854775808) : bits .or .i64 ((v * 2 ^ k : Nat) : Int) (b : Int) = ((v * 2 ^ k : Nat) : Int) + b := by
  have e := Nat.shiftLeft_add_eq_or_of_lt h2 v
  rw [Nat.shiftLeft_eq] at e
  have hs : v * 2 ^ k + b < 9223372036854775808 := by
    rw [e]
    exact Nat.or_lt_two_pow (n := 63) h1 h3
  unfold bits
  simp only [BitVec.toNat_or, BitVec.toNat_ofInt]
  have e1 : ((((v * 2 ^ k : Nat) : Int)) % ((2 ^ IntKind.i64.bits : Nat) : Int)).toNat = v * 2 ^ k := by
    show ((((v * 2 ^ k : Nat) : Int)) % 18446744073709551616).toNat = v * 2 ^ k
    omega
  have e2 : ((b : Int) % ((2 ^ IntKind.i64.bits : Nat) : Int)).toNat = b := by
    show ((b : Int) % 18446744073709551616).toNat = b
    omega
  rw [e1, e2, ← e, wrap64 (by omega) (by omega)]
  omega
theorem e1022 (x0 : Sl Int) (h : U8 x0) : g1022 x0 = 65536 * x0.at' 0 + 256 * x0.at' 1 + x0.at' 2 := by
  obtain ⟨a, ha⟩ := Int.eq_ofNat_of_zero_le (h 0).1
  obtain ⟨b, hb⟩ := Int.eq_ofNat_of_zero_le (h 1).1
  obtain ⟨c, hc⟩ := Int.eq_ofNat_of_zero_le (h 2).1
  have ra := (h 0).2
  have rb := (h 1).2
  have rc := (h 2).2
  unfold g1022
  show bits .or .i64 (bits .or .i64 (IntKind.i64.wrap ((IntKind.i64.wrap (x0.at' 0)) * 65536)) (IntKind.i64.wrap ((IntKind.i64.wrap (x0.at' 1)) * 256))) (IntKind.i64.wrap (x0.at' 2)) = _
  rw [ha] at ra ⊢
  rw [hb] at rb ⊢
  rw [hc] at rc ⊢
  rw [wrap64 (x := (a : Int)) (by omega) (by omega), wrap64 (x := (b : Int)) (by omega) (by omega), wrap64 (x := (c : Int)) (by omega) (by omega), wrap64 (x := (a : Int) * 65536) (by omega) (by omega), wrap64 (x := (b : Int) * 256) (by omega) (by omega)]
  have o1 := or_b64 a (b * 256) 16 (by omega) (by omega) (by omega)
  have o2 := or_b64 (a * 256 + b) c 8 (by omega) (by omega) (by omega)
  rw [show (a : Int) * 65536 = ((a * 2 ^ 16 : Nat) : Int) by omega, show (b : Int) * 256 = ((b * 256 : Nat) : Int) by omega, o1]
  rw [show ((a * 2 ^ 16 : Nat) : Int) + ((b * 256 : Nat) : Int) = (((a * 256 + b) * 2 ^ 8 : Nat) : Int) by omega, o2]
  omega
theorem r1022 (x0 : Sl Int) (h : U8 x0) : 0 ≤ g1022 x0 ∧ g1022 x0 ≤ 16777215 := by
  have := h 0
  have := h 1
  have := h 2
  rw [e1022 x0 h]
  omega
theorem u8part {s : Sl Int} {l h : Int} (hs : U8 s) : U8 (Sl.part s l h) := fun i => hs _
noncomputable def g1025 (x0 : Sl Int) (x1 : Int) : Int := (IntKind.i64.wrap ((IntKind.i64.wrap ((IntKind.i64.wrap (65536 * (IntKind.i64.wrap (x0.at' (Int.toNat x1))))) + (IntKind.i64.wrap (256 * (IntKind.i64.wrap (x0.at' (Int.toNat (IntKind.i64.wrap (x1 + 1))))))))) + (IntKind.i64.wrap (x0.at' (Int.toNat (IntKind.i64.wrap (x1 + 2)))))))
noncomputable def F1025 : Fq := ⟨[.v (.sl E5), .v kI], fun x0 (x1 : Int) => ⟨⟨some (U8 x0 ∧ 0 ≤ x1 ∧ x1 + 3 ≤ (x0.n : Int)), .int .i64 (g1025 x0 x1)⟩⟩⟩
theorem pc1025 : FnOk Tryz.prog 25 F1025.sh _ (F1025.sh.flatMap Sh.bs) F1025.f [] :=
  fun x0 n0 _ (x1 : Int) hp => pure_of_exec (X := X0) (R := ⟨.pure, [.tmp 4], [(.t 0, kI)], ⟨[U], []⟩⟩) (h := .z) (ms := []) (p := (((0 : Int) ≤ x1 ∧ x1 < ((x0.n : Nat) : Int)) ∧ (((0 : Int) ≤ (IntKind.i64.wrap (x1 + 1)) ∧ (IntKind.i64.wrap (x1 + 1)) < ((x0.n : Nat) : Int)) ∧ ((0 : Int) ≤ (IntKind.i64.wrap (x1 + 2)) ∧ (IntKind.i64.wrap (x1 + 2)) < ((x0.n : Nat) : Int))))) X0_ok Tryz.func25 rfl rfl (by kernel_rfl) (have ⟨hq0, hq1, hq2⟩ := hp; ⟨(by omega), ⟨(by first | omega | (have := wrap64 (x := (x1 + 1)) (by omega) (by omega); omega)), (by first | omega | (have := wrap64 (x := (x1 + 2)) (by omega) (by omega); omega))⟩⟩)
theorem k1025 : XOk Tryz.prog 25 F1025.ans := Fq.ok ⟨_, _, Tryz.func25, rfl, by kernel_rfl⟩ pc1025
theorem e1025 (x0 : Sl Int) (x1 : Int) (h : U8 x0) (h1 : 0 ≤ x1 ∧ x1 ≤ 1000000000) : g1025 x0 x1 = 65536 * x0.at' x1.toNat + 256 * x0.at' (x1.toNat + 1) + x0.at' (x1.toNat + 2) := by
  unfold g1025
  rw [wrap64 (x := x1 + 1) (by omega) (by omega), wrap64 (x := x1 + 2) (by omega) (by omega), show (x1 + 1).toNat = x1.toNat + 1 by omega, show (x1 + 2).toNat = x1.toNat + 2 by omega]
  have h2 := h x1.toNat
  have h3 := h (x1.toNat + 1)
  have h4 := h (x1.toNat + 2)
  generalize x0.at' x1.toNat = a at *
  generalize x0.at' (x1.toNat + 1) = b at *
  generalize x0.at' (x1.toNat + 2) = c at *
  rw [wrap64 (x := a) (by omega) (by omega), wrap64 (x := b) (by omega) (by omega), wrap64 (x := c) (by omega) (by omega), wrap64 (x := 65536 * a) (by omega) (by omega), wrap64 (x := 256 * b) (by omega) (by omega), wrap64 (x := 65536 * a + 256 * b) (by omega) (by omega), wrap64 (x := 65536 * a + 256 * b + c) (by omega) (by omega)]
theorem r1025 (x0 : Sl Int) (x1 : Int) (h : U8 x0) (h1 : 0 ≤ x1 ∧ x1 ≤ 1000000000) : 0 ≤ g1025 x0 x1 ∧ g1025 x0 x1 ≤ 16777215 := by
  have := h x1.toNat
  have := h (x1.toNat + 1)
  have := h (x1.toNat + 2)
  rw [e1025 x0 x1 h h1]
  omega
theorem q1025 (x0 : Sl Int) (x1 : Int) (h : U8 x0) : 0 ≤ x1 ∧ x1 ≤ 1000000000 → 0 ≤ g1025 x0 x1 ∧ g1025 x0 x1 ≤ 16777215 := r1025 x0 x1 h
theorem lp3 {v n : Int} (h : decide (IntKind.i64.wrap (v + 3) ≤ n) = true) (hv : 0 ≤ v) (hb : v ≤ 1000000) : v + 3 ≤ n := by
  have := of_decide_eq_true h
  rw [wrap64 (x := v + 3) (by omega) (by omega)] at this
  exact this
theorem lp4 {v g n : Int} (h : decide (IntKind.i64.wrap (IntKind.i64.wrap (v + 3) + g) > n) = false) (hv : 0 ≤ v) (hb : v ≤ 1000000) : 0 ≤ g ∧ g ≤ 16777215 → v + 3 + g ≤ n := fun hg => by
  have := of_decide_eq_false h
  rw [wrap64 (x := v + 3) (by omega) (by omega), wrap64 (x := v + 3 + g) (by omega) (by omega)] at this
  omega
noncomputable def g106_m1 (x0 : Int) (x1 : Int) (x2 : Int) (x3 : Sl T175) (x4 : Int) (x5 : Sl T137) (x6 : Int) (x7 : Int) (x8 : Int) (x9 : Sl T175) (x10 : Int) (x11 : Sl T137) : Bool := (bif (x0 == x6) then (bif (x1 == x7) then (g34 x2 x3 x4 x5 x8 x9 x10 x11) else false) else false)
noncomputable def g106 (x0 : Int) (x1 : Int) (x2 : Int) (x3 : Sl T175) (x4 : Int) (x5 : Sl T137) (x6 : Int) (x7 : Int) (x8 : Int) (x9 : Sl T175) (x10 : Int) (x11 : Sl T137) : Bool := (g106_m1 x0 x1 x2 x3 x4 x5 x6 x7 x8 x9 x10 x11)
noncomputable def F106 : Fq := ⟨[.g [kI, kI, kI, .sl E175, kI, .sl E137], .g [kI, kI, kI, .sl E175, kI, .sl E137]], fun x0 x1 x2 x3 x4 x5 x6 x7 x8 x9 x10 x11 => ⟨⟨none, .bool (g106 x0 x1 x2 x3 x4 x5 x6 x7 x8 x9 x10 x11)⟩⟩⟩
theorem pc106 : FnOk Tryz.prog 44 F106.sh _ (F106.sh.flatMap Sh.bs) F106.f [] :=
  fun (x0 : Int) (x1 : Int) (x2 : Int) x3 _ _ (x4 : Int) x5 _ _ (x6 : Int) (x7 : Int) (x8 : Int) x9 _ _ (x10 : Int) x11 _ _ => pure_of_exec (X := (mkX [(96, F34.ans)])) (R := ⟨.pure, [.tmp 4], [(.t 0, kB)], ⟨[U], []⟩⟩) (h := (.s .z (.j ⟨16, [.b 0, .b 1], [(.t 4, kB)], [], .f⟩ .z .z))) (ms := []) (p := True) (mkX_ok ⟨k34, trivial⟩) Tryz.func44 rfl rfl (by kernel_rfl) (trivial)
theorem k106 : XOk Tryz.prog 44 F106.ans := Fq.ok ⟨_, _, Tryz.func44, rfl, by kernel_rfl⟩ pc106
noncomputable def g1028_m1 (x0 : Int) (x1 : Int) (x2 : Int) (x3 : Int) (x4 : Int) (x5 : Int) (x6 : Bool) (x7 : Int) (x8 : Int) (x9 : Int) (x10 : ByteArray) (x11 : ByteArray) (x12 : ByteArray) (x13 : Int) (x14 : Int) (x15 : Int) (x16 : Int) (x17 : Sl T175) (x18 : Int) (x19 : Sl T137) (x20 : Int) (x21 : Int) (x22 : Int) (x23 : Int) (x24 : Int) (x25 : Int) (x26 : Bool) (x27 : Int) (x28 : Int) (x29 : Int) (x30 : ByteArray) (x31 : ByteArray) (x32 : ByteArray) (x33 : Int) (x34 : Int) (x35 : Int) (x36 : Int) (x37 : Sl T175) (x38 : Int) (x39 : Sl T137) : Bool := (bif (x0 == x20) then (bif (x1 == x21) then (bif (x2 == x22) then (bif (x3 == x23) then (bif ((x4 == x24) && ((x5 == x25) && ((x6 == x26) && ((x7 == x27) && ((x8 == x28) && ((x9 == x29) && (((x10 : ByteArray).toList == (x30 : ByteArray).toList) && (((x11 : ByteArray).toList == (x31 : ByteArray).toList) && (((x12 : ByteArray).toList == (x32 : ByteArray).toList) && ((x13 == x33) && true)))))))))) then (g106 x14 x15 x16 x17 x18 x19 x34 x35 x36 x37 x38 x39) else false) else false) else false) else false) else false)
noncomputable def g1028 (x0 : Int) (x1 : Int) (x2 : Int) (x3 : Int) (x4 : Int) (x5 : Int) (x6 : Bool) (x7 : Int) (x8 : Int) (x9 : Int) (x10 : ByteArray) (x11 : ByteArray) (x12 : ByteArray) (x13 : Int) (x14 : Int) (x15 : Int) (x16 : Int) (x17 : Sl T175) (x18 : Int) (x19 : Sl T137) (x20 : Int) (x21 : Int) (x22 : Int) (x23 : Int) (x24 : Int) (x25 : Int) (x26 : Bool) (x27 : Int) (x28 : Int) (x29 : Int) (x30 : ByteArray) (x31 : ByteArray) (x32 : ByteArray) (x33 : Int) (x34 : Int) (x35 : Int) (x36 : Int) (x37 : Sl T175) (x38 : Int) (x39 : Sl T137) : Bool := (g1028_m1 x0 x1 x2 x3 x4 x5 x6 x7 x8 x9 x10 x11 x12 x13 x14 x15 x16 x17 x18 x19 x20 x21 x22 x23 x24 x25 x26 x27 x28 x29 x30 x31 x32 x33 x34 x35 x36 x37 x38 x39)
noncomputable def F1028 : Fq := ⟨[.g [kI, kI, kI, kI, kI, kI, kB, kI, kI, kI, kS, kS, kS, kI, kI, kI, kI, .sl E175, kI, .sl E137], .g [kI, kI, kI, kI, kI, kI, kB, kI, kI, kI, kS, kS, kS, kI, kI, kI, kI, .sl E175, kI, .sl E137]], fun x0 x1 x2 x3 x4 x5 x6 x7 x8 x9 x10 x11 x12 x13 x14 x15 x16 x17 x18 x19 x20 x21 x22 x23 x24 x25 x26 x27 x28 x29 x30 x31 x32 x33 x34 x35 x36 x37 x38 x39 => ⟨⟨none, .bool (g1028 x0 x1 x2 x3 x4 x5 x6 x7 x8 x9 x10 x11 x12 x13 x14 x15 x16 x17 x18 x19 x20 x21 x22 x23 x24 x25 x26 x27 x28 x29 x30 x31 x32 x33 x34 x35 x36 x37 x38 x39)⟩⟩⟩
theorem pc1028 : FnOk Tryz.prog 28 F1028.sh _ (F1028.sh.flatMap Sh.bs) F1028.f [] :=
  fun (x0 : Int) (x1 : Int) (x2 : Int) (x3 : Int) (x4 : Int) (x5 : Int) x6 (x7 : Int) (x8 : Int) (x9 : Int) x10 _ x11 _ x12 _ (x13 : Int) (x14 : Int) (x15 : Int) (x16 : Int) x17 _ _ (x18 : Int) x19 _ _ (x20 : Int) (x21 : Int) (x22 : Int) (x23 : Int) (x24 : Int) (x25 : Int) x26 (x27 : Int) (x28 : Int) (x29 : Int) x30 _ x31 _ x32 _ (x33 : Int) (x34 : Int) (x35 : Int) (x36 : Int) x37 _ _ (x38 : Int) x39 _ _ => pure_of_exec (X := (mkX [(44, F106.ans)])) (R := ⟨.pure, [.tmp 4], [(.t 0, kB)], ⟨[U], []⟩⟩) (h := (.s .z (.j ⟨16, [.b 0, .b 1], [(.t 4, kB)], [], .f⟩ .z .z))) (ms := []) (p := True) (mkX_ok ⟨k106, trivial⟩) Tryz.func28 rfl rfl (by kernel_rfl) (trivial)
theorem k1028 : XOk Tryz.prog 28 F1028.ans := Fq.ok ⟨_, _, Tryz.func28, rfl, by kernel_rfl⟩ pc1028
noncomputable def g1009_l2 (x0 : Sl T122) (x1 : Sl T122) : Nat → Int → Bool × Bool
  | 0, _ => default
  | k + 1, v2_0 => (bif (decide (v2_0 < (x0.n : Int))) then (bif (!(g1028 (x0.at' (Int.toNat v2_0)).c0 (x0.at' (Int.toNat v2_0)).c1 (x0.at' (Int.toNat v2_0)).c2 (x0.at' (Int.toNat v2_0)).c3 (x0.at' (Int.toNat v2_0)).c4 (x0.at' (Int.toNat v2_0)).c5 (x0.at' (Int.toNat v2_0)).c6 (x0.at' (Int.toNat v2_0)).c7 (x0.at' (Int.toNat v2_0)).c8 (x0.at' (Int.toNat v2_0)).c9 (x0.at' (Int.toNat v2_0)).c10 (x0.at' (Int.toNat v2_0)).c11 (x0.at' (Int.toNat v2_0)).c12 (x0.at' (Int.toNat v2_0)).c13 (x0.at' (Int.toNat v2_0)).c14 (x0.at' (Int.toNat v2_0)).c15 (x0.at' (Int.toNat v2_0)).c16 (x0.at' (Int.toNat v2_0)).c17 (x0.at' (Int.toNat v2_0)).c18 (x0.at' (Int.toNat v2_0)).c19 (x1.at' (Int.toNat v2_0)).c0 (x1.at' (Int.toNat v2_0)).c1 (x1.at' (Int.toNat v2_0)).c2 (x1.at' (Int.toNat v2_0)).c3 (x1.at' (Int.toNat v2_0)).c4 (x1.at' (Int.toNat v2_0)).c5 (x1.at' (Int.toNat v2_0)).c6 (x1.at' (Int.toNat v2_0)).c7 (x1.at' (Int.toNat v2_0)).c8 (x1.at' (Int.toNat v2_0)).c9 (x1.at' (Int.toNat v2_0)).c10 (x1.at' (Int.toNat v2_0)).c11 (x1.at' (Int.toNat v2_0)).c12 (x1.at' (Int.toNat v2_0)).c13 (x1.at' (Int.toNat v2_0)).c14 (x1.at' (Int.toNat v2_0)).c15 (x1.at' (Int.toNat v2_0)).c16 (x1.at' (Int.toNat v2_0)).c17 (x1.at' (Int.toNat v2_0)).c18 (x1.at' (Int.toNat v2_0)).c19)) then (true, false) else (g1009_l2 x0 x1 k (IntKind.i64.wrap (v2_0 + 1)))) else (false, default))
noncomputable def g1009_r1 (x0 : Sl T122) (x1 : Sl T122) : Bool × Bool := g1009_l2 x0 x1 ((Int.toNat ((x0.n : Int) - 0)) + 1) 0
noncomputable def g1009_p2 (x0 : Sl T122) (x1 : Sl T122) : Bool := (bif (g1009_r1 x0 x1).1 then false else true)
noncomputable def g1009 (x0 : Sl T122) (x1 : Sl T122) : Bool := (bif ((x0.n : Int) != (x1.n : Int)) then false else (bif (g1009_p2 x0 x1) then true else (g1009_r1 x0 x1).2))
noncomputable def F1009 : Fq := ⟨[.v (.sl E122), .v (.sl E122)], fun x0 x1 => ⟨⟨none, .bool (g1009 x0 x1)⟩⟩⟩
theorem pc1009 : FnOk Tryz.prog 9 F1009.sh _ (F1009.sh.flatMap Sh.bs) F1009.f [] :=
  fun x0 n0 _ x1 n1 _ => pure_of_exec (X := (mkX [(28, F1028.ans)])) (R := ⟨.pure, [.tmp 4], [(.t 0, kB)], ⟨[U], []⟩⟩) (h := (.s .z (.s .z (.j ⟨16, [], [], [], .f⟩ (.s .z (.lp ⟨51, [], [], [(.t 5, kI)], some 0, true, 16, [], [], fun k (s : Int) => g1009_l2 x0 x1 k s, .f, fun (s : Int) => (0 ≤ s ∧ s ≤ (x0.n : Int)), fun (s : Int) => (Int.toNat ((x0.n : Int) - s)), none⟩ .z)) .z)))) (ms := []) (p := (((x0.n : Int) != (x1.n : Int)) = false → (((0 ≤ (0 : Int) ∧ (0 : Int) ≤ (x0.n : Int))) ∧ (∀ (v2_0 : Int), (0 ≤ v2_0 ∧ v2_0 ≤ (x0.n : Int)) → (((decide (v2_0 < (x0.n : Int))) = true → (((0 : Int) ≤ v2_0 ∧ v2_0 < ((x0.n : Nat) : Int)) ∧ ((0 : Int) ≤ v2_0 ∧ v2_0 < ((x1.n : Nat) : Int)))) ∧ ((decide (v2_0 < (x0.n : Int))) = true → ((!(g1028 (x0.at' (Int.toNat v2_0)).c0 (x0.at' (Int.toNat v2_0)).c1 (x0.at' (Int.toNat v2_0)).c2 (x0.at' (Int.toNat v2_0)).c3 (x0.at' (Int.toNat v2_0)).c4 (x0.at' (Int.toNat v2_0)).c5 (x0.at' (Int.toNat v2_0)).c6 (x0.at' (Int.toNat v2_0)).c7 (x0.at' (Int.toNat v2_0)).c8 (x0.at' (Int.toNat v2_0)).c9 (x0.at' (Int.toNat v2_0)).c10 (x0.at' (Int.toNat v2_0)).c11 (x0.at' (Int.toNat v2_0)).c12 (x0.at' (Int.toNat v2_0)).c13 (x0.at' (Int.toNat v2_0)).c14 (x0.at' (Int.toNat v2_0)).c15 (x0.at' (Int.toNat v2_0)).c16 (x0.at' (Int.toNat v2_0)).c17 (x0.at' (Int.toNat v2_0)).c18 (x0.at' (Int.toNat v2_0)).c19 (x1.at' (Int.toNat v2_0)).c0 (x1.at' (Int.toNat v2_0)).c1 (x1.at' (Int.toNat v2_0)).c2 (x1.at' (Int.toNat v2_0)).c3 (x1.at' (Int.toNat v2_0)).c4 (x1.at' (Int.toNat v2_0)).c5 (x1.at' (Int.toNat v2_0)).c6 (x1.at' (Int.toNat v2_0)).c7 (x1.at' (Int.toNat v2_0)).c8 (x1.at' (Int.toNat v2_0)).c9 (x1.at' (Int.toNat v2_0)).c10 (x1.at' (Int.toNat v2_0)).c11 (x1.at' (Int.toNat v2_0)).c12 (x1.at' (Int.toNat v2_0)).c13 (x1.at' (Int.toNat v2_0)).c14 (x1.at' (Int.toNat v2_0)).c15 (x1.at' (Int.toNat v2_0)).c16 (x1.at' (Int.toNat v2_0)).c17 (x1.at' (Int.toNat v2_0)).c18 (x1.at' (Int.toNat v2_0)).c19)) = false → ((0 ≤ (IntKind.i64.wrap (v2_0 + 1)) ∧ (IntKind.i64.wrap (v2_0 + 1)) ≤ (x0.n : Int)) ∧ (Int.toNat ((x0.n : Int) - (IntKind.i64.wrap (v2_0 + 1)))) < (Int.toNat ((x0.n : Int) - v2_0)))))))))) (mkX_ok ⟨k1028, trivial⟩) Tryz.func9 rfl rfl (by kernel_rfl) ((fun h1 => ⟨(by have := bne_eq_false_iff_eq.1 h1; omega), (fun v2_0 hI2 => ⟨(fun h3 => ⟨(by have := bne_eq_false_iff_eq.1 h1; have := of_decide_eq_true h3; omega), (by have := bne_eq_false_iff_eq.1 h1; have := of_decide_eq_true h3; omega)⟩), (fun h4 => (fun h5 => (by have := bne_eq_false_iff_eq.1 h1; have := of_decide_eq_true h4; first | omega | (have := wrap64 (x := (v2_0 + 1)) (by omega) (by omega); omega))))⟩)⟩))
theorem k1009 : XOk Tryz.prog 9 F1009.ans := Fq.ok ⟨_, _, Tryz.func9, rfl, by kernel_rfl⟩ pc1009
end Go.Proofs.YtchhfojblmceiaaGreat
