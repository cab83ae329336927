/-
  Walks: what functions of the program answer, as functions.
-/
import Derived.Test.YtchhfojblmceiaaGreatCl
import Derived.Test.YtchhfojblmceiaaGreatEc
namespace Go.Proofs.YtchhfojblmceiaaGreat
open Go Go.Vc Go.RowKit
set_option maxRecDepth 100000
set_option maxHeartbeats 4000000
noncomputable def g191_l2 (x0 : Sl ByteArray) (x1 : Sl ByteArray) : Nat → Int → Bool × Bool
  | 0, _ => default
  | k + 1, v2_0 => (bif (decide (v2_0 < (x0.n : Int))) then (bif (!(((x0.at' (Int.toNat v2_0)) : ByteArray).toList == ((x1.at' (Int.toNat v2_0)) : ByteArray).toList)) then (true, false) else (g191_l2 x0 x1 k (IntKind.i64.wrap (v2_0 + 1)))) else (false, default))
noncomputable def g191_r1 (x0 : Sl ByteArray) (x1 : Sl ByteArray) : Bool × Bool := g191_l2 x0 x1 ((Int.toNat ((x0.n : Int) - 0)) + 1) 0
noncomputable def g191_p2 (x0 : Sl ByteArray) (x1 : Sl ByteArray) : Bool := (bif (g191_r1 x0 x1).1 then false else true)
noncomputable def g191 (x0 : Sl ByteArray) (x1 : Sl ByteArray) : Bool := (bif ((x0.n : Int) != (x1.n : Int)) then false else (bif (g191_p2 x0 x1) then true else (g191_r1 x0 x1).2))
noncomputable def F191 : Fq := ⟨[.v (.sl E9), .v (.sl E9)], fun x0 x1 => ⟨⟨none, .bool (g191 x0 x1)⟩⟩⟩
theorem pc191 : FnOk Tryz.prog 58 F191.sh _ (F191.sh.flatMap Sh.bs) F191.f [] :=
  fun x0 n0 _ x1 n1 _ => pure_of_exec (X := X0) (R := ⟨.pure, [.tmp 4], [(.t 0, kB)], ⟨[U], []⟩⟩) (h := (.s .z (.s .z (.j ⟨16, [], [], [], .f⟩ (.s .z (.lp ⟨51, [], [], [(.t 5, kI)], some 0, true, 16, [], [], fun k (s : Int) => g191_l2 x0 x1 k s, .f, fun (s : Int) => (0 ≤ s ∧ s ≤ (x0.n : Int)), fun (s : Int) => (Int.toNat ((x0.n : Int) - s)), none⟩ .z)) .z)))) (ms := []) (p := (((x0.n : Int) != (x1.n : Int)) = false → (((0 ≤ (0 : Int) ∧ (0 : Int) ≤ (x0.n : Int))) ∧ (∀ (v2_0 : Int), (0 ≤ v2_0 ∧ v2_0 ≤ (x0.n : Int)) → (((decide (v2_0 < (x0.n : Int))) = true → (((0 : Int) ≤ v2_0 ∧ v2_0 < ((x0.n : Nat) : Int)) ∧ ((0 : Int) ≤ v2_0 ∧ v2_0 < ((x1.n : Nat) : Int)))) ∧ ((decide (v2_0 < (x0.n : Int))) = true → ((!(((x0.at' (Int.toNat v2_0)) : ByteArray).toList == ((x1.at' (Int.toNat v2_0)) : ByteArray).toList)) = false → ((0 ≤ (IntKind.i64.wrap (v2_0 + 1)) ∧ (IntKind.i64.wrap (v2_0 + 1)) ≤ (x0.n : Int)) ∧ (Int.toNat ((x0.n : Int) - (IntKind.i64.wrap (v2_0 + 1)))) < (Int.toNat ((x0.n : Int) - v2_0)))))))))) X0_ok Tryz.func58 rfl rfl (by kernel_rfl) ((fun h1 => ⟨(by have := bne_eq_false_iff_eq.1 h1; omega), (fun v2_0 hI2 => ⟨(fun h3 => ⟨(by have := bne_eq_false_iff_eq.1 h1; have := of_decide_eq_true h3; omega), (by have := bne_eq_false_iff_eq.1 h1; have := of_decide_eq_true h3; omega)⟩), (fun h4 => (fun h5 => (by have := bne_eq_false_iff_eq.1 h1; have := of_decide_eq_true h4; first | omega | (have := wrap64 (x := (v2_0 + 1)) (by omega) (by omega); omega))))⟩)⟩))
theorem k191 : XOk Tryz.prog 58 F191.ans := Fq.ok ⟨_, _, Tryz.func58, rfl, by kernel_rfl⟩ pc191
noncomputable def g103_m1 (x0 : Int) (x1 : ByteArray) (x2 : Int) (x3 : Sl T160) (x4 : Sl ByteArray) (x5 : Sl T164) (x6 : Int) (x7 : ByteArray) (x8 : Int) (x9 : Sl T160) (x10 : Sl ByteArray) (x11 : Sl T164) : Bool := (bif (x0 != x6) then true else (bif (!((x1 : ByteArray).toList == (x7 : ByteArray).toList)) then true else (bif (x2 != x8) then true else (bif ((x3.n : Int) != (x9.n : Int)) then true else (bif ((x5.n : Int) != (x11.n : Int)) then true else (!(g191 x4 x10)))))))
noncomputable def g103_l8 (x3 : Sl T160) (x9 : Sl T160) : Nat → Int → Bool × Bool
  | 0, _ => default
  | k + 1, v8_0 => (bif (decide (v8_0 < (x3.n : Int))) then (bif (!((((x3.at' (Int.toNat v8_0)).c0 : ByteArray).toList == ((x9.at' (Int.toNat v8_0)).c0 : ByteArray).toList) && ((((x3.at' (Int.toNat v8_0)).c1 : ByteArray).toList == ((x9.at' (Int.toNat v8_0)).c1 : ByteArray).toList) && true))) then (true, false) else (g103_l8 x3 x9 k (IntKind.i64.wrap (v8_0 + 1)))) else (false, default))
noncomputable def g103_r2 (x3 : Sl T160) (x9 : Sl T160) : Bool × Bool := g103_l8 x3 x9 ((Int.toNat ((x3.n : Int) - 0)) + 1) 0
noncomputable def g103_p3 (x3 : Sl T160) (x9 : Sl T160) : Bool := (bif (g103_r2 x3 x9).1 then false else true)
noncomputable def g103_l15 (x5 : Sl T164) (x11 : Sl T164) : Nat → Int → Bool × Bool
  | 0, _ => default
  | k + 1, v15_0 => (bif (decide (v15_0 < (x5.n : Int))) then (bif (!((((x5.at' (Int.toNat v15_0)).c0 : ByteArray).toList == ((x11.at' (Int.toNat v15_0)).c0 : ByteArray).toList) && (((x5.at' (Int.toNat v15_0)).c1 == (x11.at' (Int.toNat v15_0)).c1) && true))) then (true, false) else (g103_l15 x5 x11 k (IntKind.i64.wrap (v15_0 + 1)))) else (false, default))
noncomputable def g103_r4 (x5 : Sl T164) (x11 : Sl T164) : Bool × Bool := g103_l15 x5 x11 ((Int.toNat ((x5.n : Int) - 0)) + 1) 0
noncomputable def g103_p5 (x5 : Sl T164) (x11 : Sl T164) : Bool := (bif (g103_r4 x5 x11).1 then false else true)
noncomputable def g103 (x0 : Int) (x1 : ByteArray) (x2 : Int) (x3 : Sl T160) (x4 : Sl ByteArray) (x5 : Sl T164) (x6 : Int) (x7 : ByteArray) (x8 : Int) (x9 : Sl T160) (x10 : Sl ByteArray) (x11 : Sl T164) : Bool := (bif (g103_m1 x0 x1 x2 x3 x4 x5 x6 x7 x8 x9 x10 x11) then false else (bif (g103_p3 x3 x9) then (bif (g103_p5 x5 x11) then true else (g103_r4 x5 x11).2) else (g103_r2 x3 x9).2))
noncomputable def F103 : Fq := ⟨[.g [kI, kS, kI, .sl E160, .sl E9, .sl E164], .g [kI, kS, kI, .sl E160, .sl E9, .sl E164]], fun x0 x1 x2 x3 x4 x5 x6 x7 x8 x9 x10 x11 => ⟨⟨none, .bool (g103 x0 x1 x2 x3 x4 x5 x6 x7 x8 x9 x10 x11)⟩⟩⟩
theorem pc103 : FnOk Tryz.prog 57 F103.sh _ (F103.sh.flatMap Sh.bs) F103.f [] :=
  fun (x0 : Int) x1 n1 (x2 : Int) x3 n3 _ x4 n4 _ x5 n5 _ (x6 : Int) x7 n7 (x8 : Int) x9 n9 _ x10 n10 _ x11 n11 _ => pure_of_exec (X := (mkX [(58, F191.ans)])) (R := ⟨.pure, [.tmp 4], [(.t 0, kB)], ⟨[U], []⟩⟩) (h := (.s .z (.s (.j ⟨2251799813685276, [], [(.t 51, kB)], [], .f⟩ .z .z) (.j ⟨28, [], [], [], .f⟩ (.s .z (.lp ⟨60, [], [], [(.t 5, kI)], some 0, true, 28, [], [], fun k (s : Int) => g103_l8 x3 x9 k s, .f, fun (s : Int) => (0 ≤ s ∧ s ≤ (x3.n : Int)), fun (s : Int) => (Int.toNat ((x3.n : Int) - s)), none⟩ .z)) (.j ⟨16, [], [], [], .f⟩ (.s .z (.lp ⟨92, [], [], [(.t 6, kI)], some 2, true, 16, [.b 0, .b 1], [], fun k (s : Int) => g103_l15 x5 x11 k s, .f, fun (s : Int) => (0 ≤ s ∧ s ≤ (x5.n : Int)), fun (s : Int) => (Int.toNat ((x5.n : Int) - s)), none⟩ .z)) .z))))) (ms := []) (p := ((g103_m1 x0 x1 x2 x3 x4 x5 x6 x7 x8 x9 x10 x11) = false → ((((0 ≤ (0 : Int) ∧ (0 : Int) ≤ (x3.n : Int))) ∧ (∀ (v8_0 : Int), (0 ≤ v8_0 ∧ v8_0 ≤ (x3.n : Int)) → (((decide (v8_0 < (x3.n : Int))) = true → (((0 : Int) ≤ v8_0 ∧ v8_0 < ((x3.n : Nat) : Int)) ∧ ((0 : Int) ≤ v8_0 ∧ v8_0 < ((x9.n : Nat) : Int)))) ∧ ((decide (v8_0 < (x3.n : Int))) = true → ((!((((x3.at' (Int.toNat v8_0)).c0 : ByteArray).toList == ((x9.at' (Int.toNat v8_0)).c0 : ByteArray).toList) && ((((x3.at' (Int.toNat v8_0)).c1 : ByteArray).toList == ((x9.at' (Int.toNat v8_0)).c1 : ByteArray).toList) && true))) = false → ((0 ≤ (IntKind.i64.wrap (v8_0 + 1)) ∧ (IntKind.i64.wrap (v8_0 + 1)) ≤ (x3.n : Int)) ∧ (Int.toNat ((x3.n : Int) - (IntKind.i64.wrap (v8_0 + 1)))) < (Int.toNat ((x3.n : Int) - v8_0)))))))) ∧ ((g103_p3 x3 x9) = true → (((0 ≤ (0 : Int) ∧ (0 : Int) ≤ (x5.n : Int))) ∧ (∀ (v15_0 : Int), (0 ≤ v15_0 ∧ v15_0 ≤ (x5.n : Int)) → (((decide (v15_0 < (x5.n : Int))) = true → (((0 : Int) ≤ v15_0 ∧ v15_0 < ((x5.n : Nat) : Int)) ∧ ((0 : Int) ≤ v15_0 ∧ v15_0 < ((x11.n : Nat) : Int)))) ∧ ((decide (v15_0 < (x5.n : Int))) = true → ((!((((x5.at' (Int.toNat v15_0)).c0 : ByteArray).toList == ((x11.at' (Int.toNat v15_0)).c0 : ByteArray).toList) && (((x5.at' (Int.toNat v15_0)).c1 == (x11.at' (Int.toNat v15_0)).c1) && true))) = false → ((0 ≤ (IntKind.i64.wrap (v15_0 + 1)) ∧ (IntKind.i64.wrap (v15_0 + 1)) ≤ (x5.n : Int)) ∧ (Int.toNat ((x5.n : Int) - (IntKind.i64.wrap (v15_0 + 1)))) < (Int.toNat ((x5.n : Int) - v15_0)))))))))))) (mkX_ok ⟨k191, trivial⟩) Tryz.func57 rfl rfl (by kernel_rfl) ((fun h1 => ⟨⟨(by have := h1; simp [g103_m1] at this; omega), (fun v8_0 hI2 => ⟨(fun h3 => ⟨(by have := h1; simp [g103_m1] at this; have := of_decide_eq_true h3; omega), (by have := h1; simp [g103_m1] at this; have := of_decide_eq_true h3; omega)⟩), (fun h4 => (fun h5 => (by have := h1; simp [g103_m1] at this; have := of_decide_eq_true h4; first | omega | (have := wrap64 (x := (v8_0 + 1)) (by omega) (by omega); omega))))⟩)⟩, (fun h6 => ⟨(by have := h1; simp [g103_m1] at this; omega), (fun v15_0 hI7 => ⟨(fun h8 => ⟨(by have := h1; simp [g103_m1] at this; have := of_decide_eq_true h8; omega), (by have := h1; simp [g103_m1] at this; have := of_decide_eq_true h8; omega)⟩), (fun h9 => (fun h10 => (by have := h1; simp [g103_m1] at this; have := of_decide_eq_true h9; first | omega | (have := wrap64 (x := (v15_0 + 1)) (by omega) (by omega); omega))))⟩)⟩)⟩))
theorem k103 : XOk Tryz.prog 57 F103.ans := Fq.ok ⟨_, _, Tryz.func57, rfl, by kernel_rfl⟩ pc103
noncomputable def g104_m1 (x0 : Int) (x1 : ByteArray) (x2 : Int) (x3 : Sl ByteArray) (x4 : Int) (x5 : ByteArray) (x6 : Int) (x7 : Sl ByteArray) : Bool := (bif (x0 == x4) then (bif ((x1 : ByteArray).toList == (x5 : ByteArray).toList) then (bif (x2 == x6) then (g191 x3 x7) else false) else false) else false)
noncomputable def g104 (x0 : Int) (x1 : ByteArray) (x2 : Int) (x3 : Sl ByteArray) (x4 : Int) (x5 : ByteArray) (x6 : Int) (x7 : Sl ByteArray) : Bool := (g104_m1 x0 x1 x2 x3 x4 x5 x6 x7)
noncomputable def F104 : Fq := ⟨[.g [kI, kS, kI, .sl E9], .g [kI, kS, kI, .sl E9]], fun x0 x1 x2 x3 x4 x5 x6 x7 => ⟨⟨none, .bool (g104 x0 x1 x2 x3 x4 x5 x6 x7)⟩⟩⟩
theorem pc104 : FnOk Tryz.prog 19 F104.sh _ (F104.sh.flatMap Sh.bs) F104.f [] :=
  fun (x0 : Int) x1 _ (x2 : Int) x3 _ _ (x4 : Int) x5 _ (x6 : Int) x7 _ _ => pure_of_exec (X := (mkX [(58, F191.ans)])) (R := ⟨.pure, [.tmp 4], [(.t 0, kB)], ⟨[U], []⟩⟩) (h := (.s .z (.j ⟨16, [.b 0, .b 1], [(.t 4, kB)], [], .f⟩ .z .z))) (ms := []) (p := True) (mkX_ok ⟨k191, trivial⟩) Tryz.func19 rfl rfl (by kernel_rfl) (trivial)
theorem k104 : XOk Tryz.prog 19 F104.ans := Fq.ok ⟨_, _, Tryz.func19, rfl, by kernel_rfl⟩ pc104
noncomputable def g105_m1 (x0 : Int) (x1 : Sl T175) (x2 : Int) (x3 : Sl T175) : Bool := (bif (x0 != x2) then true else ((x1.n : Int) != (x3.n : Int)))
noncomputable def g105_m2 (x1 : Sl T175) (x3 : Sl T175) (v4_0 : Int) : Bool := (bif (!(((x1.at' (Int.toNat v4_0)).c0 : ByteArray).toList == ((x3.at' (Int.toNat v4_0)).c0 : ByteArray).toList)) then true else false)
noncomputable def g105_m3 (x1 : Sl T175) (x3 : Sl T175) (v4_0 : Int) : Bool := (bif (!(((x1.at' (Int.toNat v4_0)).c0 : ByteArray).toList == ((x3.at' (Int.toNat v4_0)).c0 : ByteArray).toList)) then true else ((x1.at' (Int.toNat v4_0)).c7 != (x3.at' (Int.toNat v4_0)).c7))
noncomputable def g105_m4 (x1 : Sl T175) (x3 : Sl T175) (v4_0 : Int) : Bool := (bif (!(((x1.at' (Int.toNat v4_0)).c0 : ByteArray).toList == ((x3.at' (Int.toNat v4_0)).c0 : ByteArray).toList)) then true else (bif ((x1.at' (Int.toNat v4_0)).c7 != (x3.at' (Int.toNat v4_0)).c7) then true else false))
noncomputable def g105_m5 (x1 : Sl T175) (x3 : Sl T175) (v4_0 : Int) : Bool := (bif (!(((x1.at' (Int.toNat v4_0)).c0 : ByteArray).toList == ((x3.at' (Int.toNat v4_0)).c0 : ByteArray).toList)) then true else (bif ((x1.at' (Int.toNat v4_0)).c7 != (x3.at' (Int.toNat v4_0)).c7) then true else (!(g103 (x1.at' (Int.toNat v4_0)).c1 (x1.at' (Int.toNat v4_0)).c2 (x1.at' (Int.toNat v4_0)).c3 (x1.at' (Int.toNat v4_0)).c4 (x1.at' (Int.toNat v4_0)).c5 (x1.at' (Int.toNat v4_0)).c6 (x3.at' (Int.toNat v4_0)).c1 (x3.at' (Int.toNat v4_0)).c2 (x3.at' (Int.toNat v4_0)).c3 (x3.at' (Int.toNat v4_0)).c4 (x3.at' (Int.toNat v4_0)).c5 (x3.at' (Int.toNat v4_0)).c6))))
noncomputable def g105_l4 (x1 : Sl T175) (x3 : Sl T175) : Nat → Int → Bool × Bool
  | 0, _ => default
  | k + 1, v4_0 => (bif (decide (v4_0 < (x1.n : Int))) then (bif (g105_m5 x1 x3 v4_0) then (true, false) else (g105_l4 x1 x3 k (IntKind.i64.wrap (v4_0 + 1)))) else (false, default))
noncomputable def g105_r6 (x1 : Sl T175) (x3 : Sl T175) : Bool × Bool := g105_l4 x1 x3 ((Int.toNat ((x1.n : Int) - 0)) + 1) 0
noncomputable def g105_p7 (x1 : Sl T175) (x3 : Sl T175) : Bool := (bif (g105_r6 x1 x3).1 then false else true)
noncomputable def g105 (x0 : Int) (x1 : Sl T175) (x2 : Int) (x3 : Sl T175) : Bool := (bif (g105_m1 x0 x1 x2 x3) then false else (bif (g105_p7 x1 x3) then true else (g105_r6 x1 x3).2))
noncomputable def F105 : Fq := ⟨[.g [kI, .sl E175], .g [kI, .sl E175]], fun x0 x1 x2 x3 => ⟨⟨none, .bool (g105 x0 x1 x2 x3)⟩⟩⟩
theorem pc105 : FnOk Tryz.prog 18 F105.sh _ (F105.sh.flatMap Sh.bs) F105.f [] :=
  fun (x0 : Int) x1 n1 _ (x2 : Int) x3 n3 _ => pure_of_exec (X := (mkX [(57, F103.ans)])) (R := ⟨.pure, [.tmp 4], [(.t 0, kB)], ⟨[U], []⟩⟩) (h := (.s .z (.s (.j ⟨2097180, [], [(.t 21, kB)], [], .f⟩ .z .z) (.j ⟨16, [], [], [], .f⟩ (.s .z (.lp ⟨60, [], [], [(.t 5, kI)], some 0, true, 16, [.b 0, .b 1], [], fun k (s : Int) => g105_l4 x1 x3 k s, .f, fun (s : Int) => (0 ≤ s ∧ s ≤ (x1.n : Int)), fun (s : Int) => (Int.toNat ((x1.n : Int) - s)), none⟩ (.s .z (.s (.s .z (.s .z (.j ⟨291643259837481212, [], [(.t 44, kB), (.t 50, kB), (.t 51, kB), (.t 58, kB)], [(.b .f .l), (.b .f .l), .f, .f], .f⟩ .z .z))) .z)))) .z)))) (ms := []) (p := ((g105_m1 x0 x1 x2 x3) = false → (((0 ≤ (0 : Int) ∧ (0 : Int) ≤ (x1.n : Int))) ∧ (∀ (v4_0 : Int), (0 ≤ v4_0 ∧ v4_0 ≤ (x1.n : Int)) → (((decide (v4_0 < (x1.n : Int))) = true → (((0 : Int) ≤ v4_0 ∧ v4_0 < ((x1.n : Nat) : Int)) ∧ ((0 : Int) ≤ v4_0 ∧ v4_0 < ((x3.n : Nat) : Int)))) ∧ ((decide (v4_0 < (x1.n : Int))) = true → ((g105_m5 x1 x3 v4_0) = false → ((0 ≤ (IntKind.i64.wrap (v4_0 + 1)) ∧ (IntKind.i64.wrap (v4_0 + 1)) ≤ (x1.n : Int)) ∧ (Int.toNat ((x1.n : Int) - (IntKind.i64.wrap (v4_0 + 1)))) < (Int.toNat ((x1.n : Int) - v4_0)))))))))) (mkX_ok ⟨k103, trivial⟩) Tryz.func18 rfl rfl (by kernel_rfl) ((fun h1 => ⟨(by have := h1; simp [g105_m1] at this; omega), (fun v4_0 hI2 => ⟨(fun h3 => ⟨(by have := h1; simp [g105_m1] at this; have := of_decide_eq_true h3; omega), (by have := h1; simp [g105_m1] at this; have := of_decide_eq_true h3; omega)⟩), (fun h4 => (fun h5 => (by have := h1; simp [g105_m1] at this; have := of_decide_eq_true h4; have := h5; simp [g105_m5] at this; first | omega | (have := wrap64 (x := (v4_0 + 1)) (by omega) (by omega); omega))))⟩)⟩))
theorem k105 : XOk Tryz.prog 18 F105.ans := Fq.ok ⟨_, _, Tryz.func18, rfl, by kernel_rfl⟩ pc105
noncomputable def g34_m1 (x0 : Int) (x1 : Sl T175) (x2 : Int) (x3 : Sl T137) (x4 : Int) (x5 : Sl T175) (x6 : Int) (x7 : Sl T137) : Bool := (bif (x2 != x6) then true else (bif (!(g105 x0 x1 x4 x5)) then true else ((x3.n : Int) != (x7.n : Int))))
noncomputable def g34_m2 (x3 : Sl T137) (x7 : Sl T137) (v5_0 : Int) : Bool := (bif ((x3.at' (Int.toNat v5_0)).c0 != (x7.at' (Int.toNat v5_0)).c0) then true else false)
noncomputable def g34_m3 (x3 : Sl T137) (x7 : Sl T137) (v5_0 : Int) : Bool := (bif ((x3.at' (Int.toNat v5_0)).c0 != (x7.at' (Int.toNat v5_0)).c0) then true else ((x3.at' (Int.toNat v5_0)).c1 != (x7.at' (Int.toNat v5_0)).c1))
noncomputable def g34_m4 (x3 : Sl T137) (x7 : Sl T137) (v5_0 : Int) : Bool := (bif ((x3.at' (Int.toNat v5_0)).c0 != (x7.at' (Int.toNat v5_0)).c0) then true else (bif ((x3.at' (Int.toNat v5_0)).c1 != (x7.at' (Int.toNat v5_0)).c1) then true else false))
noncomputable def g34_m5 (x3 : Sl T137) (x7 : Sl T137) (v5_0 : Int) : Bool := (bif ((x3.at' (Int.toNat v5_0)).c0 != (x7.at' (Int.toNat v5_0)).c0) then true else (bif ((x3.at' (Int.toNat v5_0)).c1 != (x7.at' (Int.toNat v5_0)).c1) then true else ((x3.at' (Int.toNat v5_0)).c2 != (x7.at' (Int.toNat v5_0)).c2)))
noncomputable def g34_m6 (x3 : Sl T137) (x7 : Sl T137) (v5_0 : Int) : Bool := (bif ((x3.at' (Int.toNat v5_0)).c0 != (x7.at' (Int.toNat v5_0)).c0) then true else (bif ((x3.at' (Int.toNat v5_0)).c1 != (x7.at' (Int.toNat v5_0)).c1) then true else (bif ((x3.at' (Int.toNat v5_0)).c2 != (x7.at' (Int.toNat v5_0)).c2) then true else false)))
noncomputable def g34_m7 (x3 : Sl T137) (x7 : Sl T137) (v5_0 : Int) : Bool := (bif ((x3.at' (Int.toNat v5_0)).c0 != (x7.at' (Int.toNat v5_0)).c0) then true else (bif ((x3.at' (Int.toNat v5_0)).c1 != (x7.at' (Int.toNat v5_0)).c1) then true else (bif ((x3.at' (Int.toNat v5_0)).c2 != (x7.at' (Int.toNat v5_0)).c2) then true else (!(g104 (x3.at' (Int.toNat v5_0)).c3 (x3.at' (Int.toNat v5_0)).c4 (x3.at' (Int.toNat v5_0)).c5 (x3.at' (Int.toNat v5_0)).c6 (x7.at' (Int.toNat v5_0)).c3 (x7.at' (Int.toNat v5_0)).c4 (x7.at' (Int.toNat v5_0)).c5 (x7.at' (Int.toNat v5_0)).c6)))))
noncomputable def g34_l5 (x3 : Sl T137) (x7 : Sl T137) : Nat → Int → Bool × Bool
  | 0, _ => default
  | k + 1, v5_0 => (bif (decide (v5_0 < (x3.n : Int))) then (bif (g34_m7 x3 x7 v5_0) then (true, false) else (g34_l5 x3 x7 k (IntKind.i64.wrap (v5_0 + 1)))) else (false, default))
noncomputable def g34_r8 (x3 : Sl T137) (x7 : Sl T137) : Bool × Bool := g34_l5 x3 x7 ((Int.toNat ((x3.n : Int) - 0)) + 1) 0
noncomputable def g34_p9 (x3 : Sl T137) (x7 : Sl T137) : Bool := (bif (g34_r8 x3 x7).1 then false else true)
noncomputable def g34 (x0 : Int) (x1 : Sl T175) (x2 : Int) (x3 : Sl T137) (x4 : Int) (x5 : Sl T175) (x6 : Int) (x7 : Sl T137) : Bool := (bif (g34_m1 x0 x1 x2 x3 x4 x5 x6 x7) then false else (bif (g34_p9 x3 x7) then true else (g34_r8 x3 x7).2))
noncomputable def F34 : Fq := ⟨[.g [kI, .sl E175, kI, .sl E137], .g [kI, .sl E175, kI, .sl E137]], fun x0 x1 x2 x3 x4 x5 x6 x7 => ⟨⟨none, .bool (g34 x0 x1 x2 x3 x4 x5 x6 x7)⟩⟩⟩
theorem pc34 : FnOk Tryz.prog 96 F34.sh _ (F34.sh.flatMap Sh.bs) F34.f [] :=
  fun (x0 : Int) x1 n1 _ (x2 : Int) x3 n3 _ (x4 : Int) x5 n5 _ (x6 : Int) x7 n7 _ => pure_of_exec (X := (mkX [(19, F104.ans), (18, F105.ans)])) (R := ⟨.pure, [.tmp 4], [(.t 0, kB)], ⟨[U], []⟩⟩) (h := (.s .z (.s (.j ⟨536870940, [], [(.t 29, kB)], [], .f⟩ .z .z) (.j ⟨16, [], [], [], .f⟩ (.s .z (.lp ⟨60, [], [], [(.t 5, kI)], some 0, true, 16, [.b 0, .b 1], [], fun k (s : Int) => g34_l5 x3 x7 k s, .f, fun (s : Int) => (0 ≤ s ∧ s ≤ (x3.n : Int)), fun (s : Int) => (Int.toNat ((x3.n : Int) - s)), none⟩ (.s .z (.s (.s .z (.s .z (.j ⟨9556287128405104656636, [], [(.t 52, kB), (.t 58, kB), (.t 59, kB), (.t 65, kB), (.t 66, kB), (.t 73, kB)], [(.b .f .l), (.b .f .l), (.b .f (.b .f .l)), (.b .f (.b .f .l)), .f, .f], .f⟩ .z .z))) .z)))) .z)))) (ms := []) (p := ((g34_m1 x0 x1 x2 x3 x4 x5 x6 x7) = false → (((0 ≤ (0 : Int) ∧ (0 : Int) ≤ (x3.n : Int))) ∧ (∀ (v5_0 : Int), (0 ≤ v5_0 ∧ v5_0 ≤ (x3.n : Int)) → (((decide (v5_0 < (x3.n : Int))) = true → (((0 : Int) ≤ v5_0 ∧ v5_0 < ((x3.n : Nat) : Int)) ∧ ((0 : Int) ≤ v5_0 ∧ v5_0 < ((x7.n : Nat) : Int)))) ∧ ((decide (v5_0 < (x3.n : Int))) = true → ((g34_m7 x3 x7 v5_0) = false → ((0 ≤ (IntKind.i64.wrap (v5_0 + 1)) ∧ (IntKind.i64.wrap (v5_0 + 1)) ≤ (x3.n : Int)) ∧ (Int.toNat ((x3.n : Int) - (IntKind.i64.wrap (v5_0 + 1)))) < (Int.toNat ((x3.n : Int) - v5_0)))))))))) (mkX_ok ⟨k104, k105, trivial⟩) Tryz.func96 rfl rfl (by kernel_rfl) ((fun h1 => ⟨(by have := h1; simp [g34_m1] at this; omega), (fun v5_0 hI2 => ⟨(fun h3 => ⟨(by have := h1; simp [g34_m1] at this; have := of_decide_eq_true h3; omega), (by have := h1; simp [g34_m1] at this; have := of_decide_eq_true h3; omega)⟩), (fun h4 => (fun h5 => (by have := h1; simp [g34_m1] at this; have := of_decide_eq_true h4; have := h5; simp [g34_m7] at this; first | omega | (have := wrap64 (x := (v5_0 + 1)) (by omega) (by omega); omega))))⟩)⟩))
theorem k34 : XOk Tryz.prog 96 F34.ans := Fq.ok ⟨_, _, Tryz.func96, rfl, by kernel_rfl⟩ pc34
end Go.Proofs.YtchhfojblmceiaaGreat
/-
  Walks: what functions of the program answer, as functions.
-/
namespace Go.Proofs.YtchhfojblmceiaaGreat
open Go Go.Vc Go.RowKit
set_option maxRecDepth 100000
set_option maxHeartbeats 4000000
noncomputable def g112_m1 (x0 : Int) (x1 : Int) (x2 : Int) : Bool := (bif (decide (x0 ≥ x1)) then (decide (x0 ≤ x2)) else false)
noncomputable def g112 (x0 : Int) (x1 : Int) (x2 : Int) : Bool := (g112_m1 x0 x1 x2)
noncomputable def F112 : Fq := ⟨[.v kI, .v kI, .v kI], fun x0 x1 x2 => ⟨⟨none, .bool (g112 x0 x1 x2)⟩⟩⟩
theorem pc112 : FnOk Tryz.prog 54 F112.sh _ (F112.sh.flatMap Sh.bs) F112.f [] :=
  fun (x0 : Int) (x1 : Int) (x2 : Int) => pure_of_exec (X := X0) (R := ⟨.pure, [.tmp 6], [(.t 0, kB)], ⟨[U], []⟩⟩) (h := (.s .z (.j ⟨64, [], [(.t 6, kB)], [], .f⟩ .z .z))) (ms := []) (p := True) X0_ok Tryz.func54 rfl rfl (by kernel_rfl) (trivial)
theorem k112 : XOk Tryz.prog 54 F112.ans := Fq.ok ⟨_, _, Tryz.func54, rfl, by kernel_rfl⟩ pc112
noncomputable def g113 (x0 : ByteArray) : Bool := (decide (((x0 : ByteArray).size : Int) ≤ 20))
noncomputable def F113 : Fq := ⟨[.v kS], fun x0 => ⟨⟨none, .bool (g113 x0)⟩⟩⟩
theorem pc113 : FnOk Tryz.prog 113 F113.sh _ (F113.sh.flatMap Sh.bs) F113.f [] :=
  fun x0 _ => pure_of_exec (X := X0) (R := ⟨.pure, [.tmp 2], [(.t 0, kB)], ⟨[U], []⟩⟩) (h := .z) (ms := []) (p := True) X0_ok Tryz.func113 rfl rfl (by kernel_rfl) (trivial)
theorem k113 : XOk Tryz.prog 113 F113.ans := Fq.ok ⟨_, _, Tryz.func113, rfl, by kernel_rfl⟩ pc113
noncomputable def g114 (x0 : Int) : Bool := (g112 x0 (-1099511627776) 1099511627776)
noncomputable def F114 : Fq := ⟨[.v kI], fun x0 => ⟨⟨none, .bool (g114 x0)⟩⟩⟩
theorem pc114 : FnOk Tryz.prog 114 F114.sh _ (F114.sh.flatMap Sh.bs) F114.f [] :=
  fun (x0 : Int) => pure_of_exec (X := (mkX [(54, F112.ans)])) (R := ⟨.pure, [.tmp 2], [(.t 0, kB)], ⟨[U], []⟩⟩) (h := .z) (ms := []) (p := True) (mkX_ok ⟨k112, trivial⟩) Tryz.func114 rfl rfl (by kernel_rfl) (trivial)
theorem k114 : XOk Tryz.prog 114 F114.ans := Fq.ok ⟨_, _, Tryz.func114, rfl, by kernel_rfl⟩ pc114
noncomputable def g118 (x0 : ByteArray) : Bool := (g112 ((x0 : ByteArray).size : Int) 1 12)
noncomputable def F118 : Fq := ⟨[.v kS], fun x0 => ⟨⟨none, .bool (g118 x0)⟩⟩⟩
theorem pc118 : FnOk Tryz.prog 111 F118.sh _ (F118.sh.flatMap Sh.bs) F118.f [] :=
  fun x0 _ => pure_of_exec (X := (mkX [(54, F112.ans)])) (R := ⟨.pure, [.tmp 2], [(.t 0, kB)], ⟨[U], []⟩⟩) (h := .z) (ms := []) (p := True) (mkX_ok ⟨k112, trivial⟩) Tryz.func111 rfl rfl (by kernel_rfl) (trivial)
theorem k118 : XOk Tryz.prog 111 F118.ans := Fq.ok ⟨_, _, Tryz.func111, rfl, by kernel_rfl⟩ pc118
noncomputable def g115_m1 (x0 : ByteArray) : Bool := (bif (decide (((x0 : ByteArray).size : Int) ≥ 1)) then (decide (((x0 : ByteArray).size : Int) ≤ 12)) else false)
noncomputable def g115 (x0 : ByteArray) : Bool := (g115_m1 x0)
noncomputable def F115 : Fq := ⟨[.v kS], fun x0 => ⟨⟨none, .bool (g115 x0)⟩⟩⟩
theorem pc115 : FnOk Tryz.prog 99 F115.sh _ (F115.sh.flatMap Sh.bs) F115.f [] :=
  fun x0 _ => pure_of_exec (X := X0) (R := ⟨.pure, [.tmp 2], [(.t 0, kB)], ⟨[U], []⟩⟩) (h := (.s .z (.j ⟨4, [], [(.t 2, kB)], [], .f⟩ .z .z))) (ms := []) (p := True) X0_ok Tryz.func99 rfl rfl (by kernel_rfl) (trivial)
theorem k115 : XOk Tryz.prog 99 F115.ans := Fq.ok ⟨_, _, Tryz.func99, rfl, by kernel_rfl⟩ pc115
noncomputable def g116 (x0 : ByteArray) : Bool := (decide (((x0 : ByteArray).size : Int) ≤ 20))
noncomputable def F116 : Fq := ⟨[.v kS], fun x0 => ⟨⟨none, .bool (g116 x0)⟩⟩⟩
theorem pc116 : FnOk Tryz.prog 100 F116.sh _ (F116.sh.flatMap Sh.bs) F116.f [] :=
  fun x0 _ => pure_of_exec (X := X0) (R := ⟨.pure, [.tmp 2], [(.t 0, kB)], ⟨[U], []⟩⟩) (h := .z) (ms := []) (p := True) X0_ok Tryz.func100 rfl rfl (by kernel_rfl) (trivial)
theorem k116 : XOk Tryz.prog 100 F116.ans := Fq.ok ⟨_, _, Tryz.func100, rfl, by kernel_rfl⟩ pc116
noncomputable def g117_m1 (x0 : Int) : Bool := (bif (decide (x0 ≥ (-1099511627776))) then (decide (x0 ≤ 1099511627776)) else false)
noncomputable def g117 (x0 : Int) : Bool := (g117_m1 x0)
noncomputable def F117 : Fq := ⟨[.v kI], fun x0 => ⟨⟨none, .bool (g117 x0)⟩⟩⟩
theorem pc117 : FnOk Tryz.prog 101 F117.sh _ (F117.sh.flatMap Sh.bs) F117.f [] :=
  fun (x0 : Int) => pure_of_exec (X := X0) (R := ⟨.pure, [.tmp 2], [(.t 0, kB)], ⟨[U], []⟩⟩) (h := (.s .z (.j ⟨4, [], [(.t 2, kB)], [], .f⟩ .z .z))) (ms := []) (p := True) X0_ok Tryz.func101 rfl rfl (by kernel_rfl) (trivial)
theorem k117 : XOk Tryz.prog 101 F117.ans := Fq.ok ⟨_, _, Tryz.func101, rfl, by kernel_rfl⟩ pc117
noncomputable def g119_m1 (x0 : Int) : Bool := (bif (decide (x0 ≥ 1)) then (decide (x0 ≤ 1048576)) else false)
noncomputable def g119 (x0 : Int) : Bool := (g119_m1 x0)
noncomputable def F119 : Fq := ⟨[.v kI], fun x0 => ⟨⟨none, .bool (g119 x0)⟩⟩⟩
theorem pc119 : FnOk Tryz.prog 168 F119.sh _ (F119.sh.flatMap Sh.bs) F119.f [] :=
  fun (x0 : Int) => pure_of_exec (X := X0) (R := ⟨.pure, [.tmp 2], [(.t 0, kB)], ⟨[U], []⟩⟩) (h := (.s .z (.j ⟨4, [], [(.t 2, kB)], [], .f⟩ .z .z))) (ms := []) (p := True) X0_ok Tryz.func168 rfl rfl (by kernel_rfl) (trivial)
theorem k119 : XOk Tryz.prog 168 F119.ans := Fq.ok ⟨_, _, Tryz.func168, rfl, by kernel_rfl⟩ pc119
noncomputable def g120 (x0 : Int) : Bool := (g112 x0 1 1048576)
noncomputable def F120 : Fq := ⟨[.v kI], fun x0 => ⟨⟨none, .bool (g120 x0)⟩⟩⟩
theorem pc120 : FnOk Tryz.prog 91 F120.sh _ (F120.sh.flatMap Sh.bs) F120.f [] :=
  fun (x0 : Int) => pure_of_exec (X := (mkX [(54, F112.ans)])) (R := ⟨.pure, [.tmp 2], [(.t 0, kB)], ⟨[U], []⟩⟩) (h := .z) (ms := []) (p := True) (mkX_ok ⟨k112, trivial⟩) Tryz.func91 rfl rfl (by kernel_rfl) (trivial)
theorem k120 : XOk Tryz.prog 91 F120.ans := Fq.ok ⟨_, _, Tryz.func91, rfl, by kernel_rfl⟩ pc120
end Go.Proofs.YtchhfojblmceiaaGreat
/-
  Walks: what functions of the program answer, as functions.
-/
namespace Go.Proofs.YtchhfojblmceiaaGreat
open Go Go.Vc Go.RowKit
set_option maxRecDepth 100000
set_option maxHeartbeats 4000000
noncomputable def g111 (x0 : ByteArray) : Bool := (decide (((x0 : ByteArray).size : Int) > 20))
noncomputable def F111 : Fq := ⟨[.v kS], fun x0 => ⟨⟨none, .bool (g111 x0)⟩⟩⟩
theorem pc111 : FnOk Tryz.prog 169 F111.sh _ (F111.sh.flatMap Sh.bs) F111.f [] :=
  fun x0 _ => pure_of_exec (X := X0) (R := ⟨.pure, [.tmp 2], [(.t 0, kB)], ⟨[U], []⟩⟩) (h := .z) (ms := []) (p := True) X0_ok Tryz.func169 rfl rfl (by kernel_rfl) (trivial)
theorem k111 : XOk Tryz.prog 169 F111.ans := Fq.ok ⟨_, _, Tryz.func169, rfl, by kernel_rfl⟩ pc111
noncomputable def g192_111_l1 (x0 : Sl ByteArray) : Nat → Int → Bool × Int
  | 0, _ => default
  | k + 1, v1_0 => (bif (decide (v1_0 < (x0.n : Int))) then (bif (g111 (x0.at' (Int.toNat v1_0))) then (true, v1_0) else (g192_111_l1 x0 k (IntKind.i64.wrap (v1_0 + 1)))) else (false, default))
noncomputable def g192_111_r1 (x0 : Sl ByteArray) : Bool × Int := g192_111_l1 x0 ((Int.toNat ((x0.n : Int) - 0)) + 1) 0
noncomputable def g192_111_p2 (x0 : Sl ByteArray) : Bool := (bif (g192_111_r1 x0).1 then false else true)
noncomputable def g192_111 (x0 : Sl ByteArray) : Int := (bif (g192_111_p2 x0) then (-1) else (g192_111_r1 x0).2)
noncomputable def F192_111 : Fq := ⟨[.v (.sl E9), .fn 169 []], fun x0 => ⟨⟨none, .int .i64 (g192_111 x0)⟩⟩⟩
theorem pc192_111 : FnOk Tryz.prog 170 F192_111.sh _ (F192_111.sh.flatMap Sh.bs) F192_111.f [] :=
  fun x0 n0 _ => pure_of_exec (X := (mkX [(169, F111.ans)])) (R := ⟨.pure, [.tmp 4], [(.t 0, kI)], ⟨[U], []⟩⟩) (h := (.s .z (.j ⟨16, [], [], [], .f⟩ (.s .z (.lp ⟨403, [], [], [(.t 8, kI)], some 0, true, 16, [], [], fun k (s : Int) => g192_111_l1 x0 k s, .f, fun (s : Int) => (0 ≤ s ∧ s ≤ (x0.n : Int)), fun (s : Int) => (Int.toNat ((x0.n : Int) - s)), none⟩ .z)) .z))) (ms := []) (p := (((0 ≤ (0 : Int) ∧ (0 : Int) ≤ (x0.n : Int))) ∧ (∀ (v1_0 : Int), (0 ≤ v1_0 ∧ v1_0 ≤ (x0.n : Int)) → (((decide (v1_0 < (x0.n : Int))) = true → ((0 : Int) ≤ v1_0 ∧ v1_0 < ((x0.n : Nat) : Int))) ∧ ((decide (v1_0 < (x0.n : Int))) = true → ((g111 (x0.at' (Int.toNat v1_0))) = false → ((0 ≤ (IntKind.i64.wrap (v1_0 + 1)) ∧ (IntKind.i64.wrap (v1_0 + 1)) ≤ (x0.n : Int)) ∧ (Int.toNat ((x0.n : Int) - (IntKind.i64.wrap (v1_0 + 1)))) < (Int.toNat ((x0.n : Int) - v1_0))))))))) (mkX_ok ⟨k111, trivial⟩) Tryz.func170 rfl rfl (by kernel_rfl) (⟨(by omega), (fun v1_0 hI1 => ⟨(fun h2 => (by have := of_decide_eq_true h2; omega)), (fun h3 => (fun h4 => (by have := of_decide_eq_true h3; first | omega | (have := wrap64 (x := (v1_0 + 1)) (by omega) (by omega); omega))))⟩)⟩)
theorem k192_111 : XOk Tryz.prog 170 F192_111.ans := Fq.ok ⟨_, _, Tryz.func170, rfl, by kernel_rfl⟩ pc192_111
noncomputable def g110_111 (x0 : Sl ByteArray) : Bool := (decide ((g192_111 x0) ≥ 0))
noncomputable def F110_111 : Fq := ⟨[.v (.sl E9), .fn 169 []], fun x0 => ⟨⟨none, .bool (g110_111 x0)⟩⟩⟩
theorem pc110_111 : FnOk Tryz.prog 136 F110_111.sh _ (F110_111.sh.flatMap Sh.bs) F110_111.f [] :=
  fun x0 _ _ => pure_of_exec (X := (mkX [(170, F192_111.ans)])) (R := ⟨.pure, [.tmp 4], [(.t 0, kB)], ⟨[U], []⟩⟩) (h := .z) (ms := []) (p := True) (mkX_ok ⟨k192_111, trivial⟩) Tryz.func136 rfl rfl (by kernel_rfl) (trivial)
theorem k110_111 : XOk Tryz.prog 136 F110_111.ans := Fq.ok ⟨_, _, Tryz.func136, rfl, by kernel_rfl⟩ pc110_111
noncomputable def g42_m1 (x0 : Int) : Bool := (bif (decide (x0 < 0)) then true else (decide (x0 > 13)))
noncomputable def g42_m2 (x1 : ByteArray) (x3 : Sl ByteArray) : Bool := (bif (decide (((x1 : ByteArray).size : Int) > 20)) then true else (decide ((x3.n : Int) > 20)))
noncomputable def g42_m3 (x2 : Int) : Bool := (bif (decide (x2 < (-1099511627776))) then true else (decide (x2 > 1099511627776)))
noncomputable def g42 (x0 : Int) (x1 : ByteArray) (x2 : Int) (x3 : Sl ByteArray) : Int := (bif (g42_m1 x0) then 3 else (bif (g42_m2 x1 x3) then 1 else (bif (g110_111 x3) then 1 else (bif (g42_m3 x2) then 2 else 0))))
noncomputable def F42 : Fq := ⟨[.g [kI, kS, kI, .sl E9]], fun x0 x1 x2 x3 => ⟨⟨none, .int .i64 (g42 x0 x1 x2 x3)⟩⟩⟩
theorem pc42 : FnOk Tryz.prog 129 F42.sh _ (F42.sh.flatMap Sh.bs) F42.f [] :=
  fun (x0 : Int) x1 _ (x2 : Int) x3 _ _ => pure_of_exec (X := (mkX [(136, F110_111.ans)])) (R := ⟨.pure, [.tmp 2], [(.t 0, kI)], ⟨[U], []⟩⟩) (h := (.s .z (.s (.j ⟨1030, [], [(.t 10, kB)], [], .f⟩ .z .z) (.s (.j ⟨1048582, [], [(.t 20, kB)], [], .f⟩ .z .z) (.s .z (.s (.j ⟨2147483652, [.b 0], [(.t 31, kB)], [], .f⟩ .z .z) .z)))))) (ms := []) (p := True) (mkX_ok ⟨k110_111, trivial⟩) Tryz.func129 rfl rfl (by kernel_rfl) (trivial)
theorem k42 : XOk Tryz.prog 129 F42.ans := Fq.ok ⟨_, _, Tryz.func129, rfl, by kernel_rfl⟩ pc42
noncomputable def g43_0 (x0 : Int) : Int := x0
noncomputable def g43_1 (x1 : ByteArray) : ByteArray := x1
noncomputable def g43_2 (x2 : Int) : Int := x2
noncomputable def g43_3 (x3 : Sl ByteArray) : Sl ByteArray := x3
noncomputable def F43 : Fq := ⟨[.g [kI, kS, kI, .sl E9]], fun x0 x1 x2 x3 => ⟨⟨none, .agg [.int .i64 (g43_0 x0), .str (g43_1 x1), .int .i64 (g43_2 x2), ofSl 1 e9 (g43_3 x3)]⟩⟩⟩
noncomputable def g44_m1 (x1 : ByteArray) (x3 : Sl ByteArray) : Bool := (bif (!(g113 x1)) then true else (decide ((x3.n : Int) > 20)))
noncomputable def g44_l5 (x3 : Sl ByteArray) : Nat → Int → Bool × Int
  | 0, _ => default
  | k + 1, v5_0 => (bif (decide (v5_0 < (x3.n : Int))) then (bif (!(g113 (x3.at' (Int.toNat v5_0)))) then (true, 1) else (g44_l5 x3 k (IntKind.i64.wrap (v5_0 + 1)))) else (false, default))
noncomputable def g44_r2 (x3 : Sl ByteArray) : Bool × Int := g44_l5 x3 ((Int.toNat ((x3.n : Int) - 0)) + 1) 0
noncomputable def g44_p3 (x3 : Sl ByteArray) : Bool := (bif (g44_r2 x3).1 then false else true)
noncomputable def g44 (x0 : Int) (x1 : ByteArray) (x2 : Int) (x3 : Sl ByteArray) : Int := (bif (!(g112 x0 0 13)) then 3 else (bif (g44_m1 x1 x3) then 1 else (bif (g44_p3 x3) then (bif (!(g114 x2)) then 2 else 0) else (g44_r2 x3).2)))
noncomputable def F44 : Fq := ⟨[.g [kI, kS, kI, .sl E9]], fun x0 x1 x2 x3 => ⟨⟨none, .int .i64 (g44 x0 x1 x2 x3)⟩⟩⟩
theorem pc44 : FnOk Tryz.prog 167 F44.sh _ (F44.sh.flatMap Sh.bs) F44.f [] :=
  fun (x0 : Int) x1 n1 (x2 : Int) x3 n3 _ => pure_of_exec (X := (mkX [(54, F112.ans), (113, F113.ans), (114, F114.ans)])) (R := ⟨.pure, [.tmp 2], [(.t 0, kI)], ⟨[U], []⟩⟩) (h := (.s .z (.s .z (.s (.j ⟨131078, [], [(.t 17, kB)], [], .f⟩ .z .z) (.j ⟨6, [], [], [], .f⟩ (.s .z (.lp ⟨14, [], [], [(.t 3, kI)], some 0, true, 6, [], [], fun k (s : Int) => g44_l5 x3 k s, .f, fun (s : Int) => (0 ≤ s ∧ s ≤ (x3.n : Int)), fun (s : Int) => (Int.toNat ((x3.n : Int) - s)), none⟩ .z)) .z))))) (ms := []) (p := ((!(g112 x0 0 13)) = false → ((g44_m1 x1 x3) = false → (((0 ≤ (0 : Int) ∧ (0 : Int) ≤ (x3.n : Int))) ∧ (∀ (v5_0 : Int), (0 ≤ v5_0 ∧ v5_0 ≤ (x3.n : Int)) → (((decide (v5_0 < (x3.n : Int))) = true → ((0 : Int) ≤ v5_0 ∧ v5_0 < ((x3.n : Nat) : Int))) ∧ ((decide (v5_0 < (x3.n : Int))) = true → ((!(g113 (x3.at' (Int.toNat v5_0)))) = false → ((0 ≤ (IntKind.i64.wrap (v5_0 + 1)) ∧ (IntKind.i64.wrap (v5_0 + 1)) ≤ (x3.n : Int)) ∧ (Int.toNat ((x3.n : Int) - (IntKind.i64.wrap (v5_0 + 1)))) < (Int.toNat ((x3.n : Int) - v5_0))))))))))) (mkX_ok ⟨k112, k113, k114, trivial⟩) Tryz.func167 rfl rfl (by kernel_rfl) ((fun h1 => (fun h2 => ⟨(by have := h2; simp [g44_m1] at this; omega), (fun v5_0 hI3 => ⟨(fun h4 => (by have := h2; simp [g44_m1] at this; have := of_decide_eq_true h4; omega)), (fun h5 => (fun h6 => (by have := h2; simp [g44_m1] at this; have := of_decide_eq_true h5; first | omega | (have := wrap64 (x := (v5_0 + 1)) (by omega) (by omega); omega))))⟩)⟩)))
theorem k44 : XOk Tryz.prog 167 F44.ans := Fq.ok ⟨_, _, Tryz.func167, rfl, by kernel_rfl⟩ pc44
end Go.Proofs.YtchhfojblmceiaaGreat
/-
  Walks: what functions of the program answer, as functions.
-/
namespace Go.Proofs.YtchhfojblmceiaaGreat
open Go Go.Vc Go.RowKit
set_option maxRecDepth 100000
set_option maxHeartbeats 4000000
noncomputable def g48_m1 (x0 : Int) : Bool := (bif (x0 == 1) then true else (bif (x0 == 4) then true else (bif (x0 == 7) then true else (bif (x0 == 8) then true else (g112 x0 11 16)))))
noncomputable def g48_m2 (x0 : Int) : Bool := (bif (x0 == 3) then true else (bif (x0 == 14) then true else (x0 == 20)))
noncomputable def g48_m3 (x0 : Int) (x1 : ByteArray) (x2 : ByteArray) (x3 : ByteArray) (x4 : Int) : Bool := (bif (!(g48_m1 x0)) then (bif (!((x3 : ByteArray).toList == (⟨#[]⟩ : ByteArray).toList)) then true else (bif (!(g112 x0 4 6)) then (bif (!((x2 : ByteArray).toList == (⟨#[]⟩ : ByteArray).toList)) then true else (bif (!(g48_m2 x0)) then (bif (x4 != 0) then true else (bif (!(x0 != 22)) then (!((x1 : ByteArray).toList == (⟨#[]⟩ : ByteArray).toList)) else false)) else (bif (!(x0 != 22)) then (!((x1 : ByteArray).toList == (⟨#[]⟩ : ByteArray).toList)) else false))) else (bif (!(g48_m2 x0)) then (bif (x4 != 0) then true else (bif (!(x0 != 22)) then (!((x1 : ByteArray).toList == (⟨#[]⟩ : ByteArray).toList)) else false)) else (bif (!(x0 != 22)) then (!((x1 : ByteArray).toList == (⟨#[]⟩ : ByteArray).toList)) else false)))) else (bif (!(g112 x0 4 6)) then (bif (!((x2 : ByteArray).toList == (⟨#[]⟩ : ByteArray).toList)) then true else (bif (!(g48_m2 x0)) then (bif (x4 != 0) then true else (bif (!(x0 != 22)) then (!((x1 : ByteArray).toList == (⟨#[]⟩ : ByteArray).toList)) else false)) else (bif (!(x0 != 22)) then (!((x1 : ByteArray).toList == (⟨#[]⟩ : ByteArray).toList)) else false))) else (bif (!(g48_m2 x0)) then (bif (x4 != 0) then true else (bif (!(x0 != 22)) then (!((x1 : ByteArray).toList == (⟨#[]⟩ : ByteArray).toList)) else false)) else (bif (!(x0 != 22)) then (!((x1 : ByteArray).toList == (⟨#[]⟩ : ByteArray).toList)) else false))))
noncomputable def g48_m4 (x0 : Int) (x1 : ByteArray) (x2 : ByteArray) (x3 : ByteArray) : Bool := (bif (x0 != 22) then (bif (!(g118 x1)) then true else (bif (g112 x0 4 6) then (bif (!(g118 x2)) then true else (!(g113 x3))) else (!(g113 x3)))) else (bif (g112 x0 4 6) then (bif (!(g118 x2)) then true else (!(g113 x3))) else (!(g113 x3))))
noncomputable def g48 (x0 : Int) (x1 : ByteArray) (x2 : ByteArray) (x3 : ByteArray) (x4 : Int) : Int := (bif (!(g112 x0 1 22)) then 3 else (bif (g48_m3 x0 x1 x2 x3 x4) then 8 else (bif (g48_m4 x0 x1 x2 x3) then 1 else (bif (!(g114 x4)) then 2 else 0))))
noncomputable def F48 : Fq := ⟨[.g [kI, kS, kS, kS, kI]], fun x0 x1 x2 x3 x4 => ⟨⟨none, .int .i64 (g48 x0 x1 x2 x3 x4)⟩⟩⟩
theorem pc48 : FnOk Tryz.prog 55 F48.sh _ (F48.sh.flatMap Sh.bs) F48.f [] :=
  fun (x0 : Int) x1 _ x2 _ x3 _ (x4 : Int) => pure_of_exec (X := (mkX [(54, F112.ans), (113, F113.ans), (114, F114.ans), (111, F118.ans)])) (R := ⟨.pure, [.tmp 2], [(.t 0, kI)], ⟨[U], []⟩⟩) (h := (.s .z (.s .z (.j ⟨14, [], [(.t 3, kB)], [], .f⟩ .z (.s .z (.j ⟨62, [], [(.t 5, kB)], [], .f⟩ .z (.s .z (.s (.j ⟨77371252455336267181195350, [], [(.t 86, kB)], [], .f⟩ .z .z) (.s (.j ⟨324518553658426726783156020576262, [], [(.t 108, kB)], [], .f⟩ .z .z) .z))))))))) (ms := []) (p := True) (mkX_ok ⟨k112, k113, k114, k118, trivial⟩) Tryz.func55 rfl rfl (by kernel_rfl) (trivial)
theorem k48 : XOk Tryz.prog 55 F48.ans := Fq.ok ⟨_, _, Tryz.func55, rfl, by kernel_rfl⟩ pc48
noncomputable def g47_m1 (x0 : Int) : Bool := (bif (decide (x0 < 1)) then true else (decide (x0 > 22)))
noncomputable def g47_m2 (x0 : Int) : Bool := (bif (x0 == 1) then (x0 == 1) else (bif (x0 == 7) then (x0 == 7) else (bif (x0 == 8) then (x0 == 8) else (bif (x0 == 11) then (x0 == 11) else (bif (x0 == 12) then (x0 == 12) else (bif (x0 == 13) then (x0 == 13) else (bif (x0 == 15) then (x0 == 15) else (x0 == 16))))))))
noncomputable def g47_m3 (x0 : Int) : Bool := (bif (x0 == 3) then (x0 == 3) else (x0 == 20))
noncomputable def g47_m4 (x0 : Int) : Bool := (bif (x0 == 5) then (x0 == 5) else (x0 == 6))
noncomputable def g47_m5 (x0 : Int) (x1 : ByteArray) : ByteArray := (bif (g47_m2 x0) then x1 else (bif (g47_m3 x0) then x1 else (bif (x0 == 4) then x1 else (bif (g47_m4 x0) then x1 else (bif (x0 == 14) then x1 else (bif (x0 == 22) then ⟨#[]⟩ else x1))))))
noncomputable def g47_m6 (x0 : Int) (x2 : ByteArray) : ByteArray := (bif (g47_m2 x0) then ⟨#[]⟩ else (bif (g47_m3 x0) then ⟨#[]⟩ else (bif (x0 == 4) then x2 else (bif (g47_m4 x0) then x2 else ⟨#[]⟩))))
noncomputable def g47_m7 (x0 : Int) (x3 : ByteArray) : ByteArray := (bif (g47_m2 x0) then x3 else (bif (g47_m3 x0) then ⟨#[]⟩ else (bif (x0 == 4) then x3 else (bif (g47_m4 x0) then ⟨#[]⟩ else (bif (x0 == 14) then x3 else ⟨#[]⟩)))))
noncomputable def g47_m8 (x0 : Int) (x4 : Int) : Int := (bif (g47_m2 x0) then 0 else (bif (g47_m3 x0) then x4 else (bif (x0 == 4) then 0 else (bif (g47_m4 x0) then 0 else (bif (x0 == 14) then x4 else 0)))))
noncomputable def g47_m9 (x0 : Int) (x1 : ByteArray) (x2 : ByteArray) (x3 : ByteArray) : Bool := (bif (x0 != 22) then (bif (!(g115 x1)) then true else (bif (decide (x0 ≥ 4)) then (bif (decide (x0 ≤ 6)) then (bif (!(g115 x2)) then true else (!(g116 x3))) else (!(g116 x3))) else (!(g116 x3)))) else (bif (decide (x0 ≥ 4)) then (bif (decide (x0 ≤ 6)) then (bif (!(g115 x2)) then true else (!(g116 x3))) else (!(g116 x3))) else (!(g116 x3))))
noncomputable def g47 (x0 : Int) (x1 : ByteArray) (x2 : ByteArray) (x3 : ByteArray) (x4 : Int) : Int := (bif (g47_m1 x0) then 3 else (bif (!((x0 == x0) && (((x1 : ByteArray).toList == ((g47_m5 x0 x1) : ByteArray).toList) && (((x2 : ByteArray).toList == ((g47_m6 x0 x2) : ByteArray).toList) && (((x3 : ByteArray).toList == ((g47_m7 x0 x3) : ByteArray).toList) && ((x4 == (g47_m8 x0 x4)) && true)))))) then 8 else (bif (g47_m9 x0 x1 x2 x3) then 1 else (bif (!(g117 x4)) then 2 else 0))))
noncomputable def F47 : Fq := ⟨[.g [kI, kS, kS, kS, kI]], fun x0 x1 x2 x3 x4 => ⟨⟨none, .int .i64 (g47 x0 x1 x2 x3 x4)⟩⟩⟩
theorem pc47 : FnOk Tryz.prog 48 F47.sh _ (F47.sh.flatMap Sh.bs) F47.f [] :=
  fun (x0 : Int) x1 _ x2 _ x3 _ (x4 : Int) => pure_of_exec (X := (mkX [(99, F115.ans), (100, F116.ans), (101, F117.ans)])) (R := ⟨.pure, [.tmp 2], [(.t 0, kI)], ⟨[U], []⟩⟩) (h := (.s .z (.s (.j ⟨2054, [], [(.t 11, kB)], [], .f⟩ .z .z) (.s .z (.j ⟨14, [], [(.h 1 1, kS), (.h 1 2, kS), (.h 1 3, kS), (.h 1 4, kI)], [.f, (.b .f (.b .f (.b .f (.b .f .l)))), (.b .f (.b .f (.b .f (.b .f (.b .f .l))))), (.b .f (.b .f (.b .f (.b .f (.b .f .l)))))], .f⟩ (.s .z (.j ⟨786446, [], [(.t 19, kB)], [], .f⟩ .z (.s .z (.j ⟨2147745806, [], [(.t 31, kB)], [], .f⟩ .z (.s .z (.s .z (.s .z (.j ⟨35184372350990, [], [(.t 45, kB)], [], .f⟩ .z .z)))))))) (.s .z (.s (.j ⟨39614081257132168796771975174, [.b 1], [(.t 95, kB)], [], .f⟩ .z .z) .z))))))) (ms := []) (p := True) (mkX_ok ⟨k115, k116, k117, trivial⟩) Tryz.func48 rfl rfl (by kernel_rfl) (trivial)
theorem k47 : XOk Tryz.prog 48 F47.ans := Fq.ok ⟨_, _, Tryz.func48, rfl, by kernel_rfl⟩ pc47
noncomputable def g49_m1 (x0 : Int) (x1 : Int) : Bool := (bif (!(g119 x0)) then true else (!(g119 x1)))
noncomputable def g49 (x0 : Int) (x1 : Int) (x2 : Int) (x3 : ByteArray) (x4 : ByteArray) (x5 : ByteArray) (x6 : Int) : Int := (bif (x0 == 0) then (bif (!((x0 == 0) && ((x1 == 0) && ((x2 == 0) && (((x3 : ByteArray).toList == (⟨#[]⟩ : ByteArray).toList) && (((x4 : ByteArray).toList == (⟨#[]⟩ : ByteArray).toList) && (((x5 : ByteArray).toList == (⟨#[]⟩ : ByteArray).toList) && ((x6 == 0) && true)))))))) then 8 else 0) else (bif (g49_m1 x0 x1) then 2 else (g47 x2 x3 x4 x5 x6)))
noncomputable def F49 : Fq := ⟨[.g [kI, kI, kI, kS, kS, kS, kI]], fun x0 x1 x2 x3 x4 x5 x6 => ⟨⟨none, .int .i64 (g49 x0 x1 x2 x3 x4 x5 x6)⟩⟩⟩
theorem pc49 : FnOk Tryz.prog 126 F49.sh _ (F49.sh.flatMap Sh.bs) F49.f [] :=
  fun (x0 : Int) (x1 : Int) (x2 : Int) x3 _ x4 _ x5 _ (x6 : Int) => pure_of_exec (X := (mkX [(48, F47.ans), (168, F119.ans)])) (R := ⟨.pure, [.tmp 2], [(.t 0, kI)], ⟨[U], []⟩⟩) (h := (.s .z (.s .z (.s (.j ⟨262150, [], [(.t 18, kB)], [], .f⟩ .z .z) .z)))) (ms := []) (p := True) (mkX_ok ⟨k47, k119, trivial⟩) Tryz.func126 rfl rfl (by kernel_rfl) (trivial)
theorem k49 : XOk Tryz.prog 126 F49.ans := Fq.ok ⟨_, _, Tryz.func126, rfl, by kernel_rfl⟩ pc49
noncomputable def g50_m1 (x1 : Int) (x2 : Int) (x3 : ByteArray) (x4 : ByteArray) (x5 : ByteArray) (x6 : Int) : Bool := (bif (x1 != 0) then true else (!((x2 == 0) && (((x3 : ByteArray).toList == (⟨#[]⟩ : ByteArray).toList) && (((x4 : ByteArray).toList == (⟨#[]⟩ : ByteArray).toList) && (((x5 : ByteArray).toList == (⟨#[]⟩ : ByteArray).toList) && ((x6 == 0) && true)))))))
noncomputable def g50_m2 (x0 : Int) (x1 : Int) : Bool := (bif (!(g120 x0)) then true else (!(g120 x1)))
noncomputable def g50 (x0 : Int) (x1 : Int) (x2 : Int) (x3 : ByteArray) (x4 : ByteArray) (x5 : ByteArray) (x6 : Int) : Int := (bif (x0 == 0) then (bif (g50_m1 x1 x2 x3 x4 x5 x6) then 8 else 0) else (bif (g50_m2 x0 x1) then 2 else (g48 x2 x3 x4 x5 x6)))
noncomputable def F50 : Fq := ⟨[.g [kI, kI, kI, kS, kS, kS, kI]], fun x0 x1 x2 x3 x4 x5 x6 => ⟨⟨none, .int .i64 (g50 x0 x1 x2 x3 x4 x5 x6)⟩⟩⟩
theorem pc50 : FnOk Tryz.prog 134 F50.sh _ (F50.sh.flatMap Sh.bs) F50.f [] :=
  fun (x0 : Int) (x1 : Int) (x2 : Int) x3 _ x4 _ x5 _ (x6 : Int) => pure_of_exec (X := (mkX [(55, F48.ans), (91, F120.ans)])) (R := ⟨.pure, [.tmp 2], [(.t 0, kI)], ⟨[U], []⟩⟩) (h := (.s .z (.s (.s .z (.s (.s (.j ⟨16390, [], [(.t 14, kB)], [], .f⟩ .z .z) .z) .z)) (.s (.j ⟨16777222, [], [(.t 24, kB)], [], .f⟩ .z .z) .z)))) (ms := []) (p := True) (mkX_ok ⟨k48, k120, trivial⟩) Tryz.func134 rfl rfl (by kernel_rfl) (trivial)
theorem k50 : XOk Tryz.prog 134 F50.ans := Fq.ok ⟨_, _, Tryz.func134, rfl, by kernel_rfl⟩ pc50
noncomputable def g51_m1 (x0 : Int) (x1 : Int) : Bool := (bif (decide (x0 < 1)) then true else (bif (decide (x0 > 1048576)) then true else (bif (decide (x1 < 0)) then true else (decide (x1 > 1073741824)))))
noncomputable def g51 (x0 : Int) (x1 : Int) (x2 : Bool) (x3 : Int) (x4 : Int) (x5 : Int) (x6 : ByteArray) (x7 : ByteArray) (x8 : ByteArray) (x9 : Int) : Int := (bif (g51_m1 x0 x1) then 2 else (bif x2 then (bif (!((x3 == 0) && ((x4 == 0) && ((x5 == 0) && (((x6 : ByteArray).toList == (⟨#[]⟩ : ByteArray).toList) && (((x7 : ByteArray).toList == (⟨#[]⟩ : ByteArray).toList) && (((x8 : ByteArray).toList == (⟨#[]⟩ : ByteArray).toList) && ((x9 == 0) && true)))))))) then 8 else 0) else (g49 x3 x4 x5 x6 x7 x8 x9)))
noncomputable def F51 : Fq := ⟨[.g [kI, kI, kB, kI, kI, kI, kS, kS, kS, kI]], fun x0 x1 x2 x3 x4 x5 x6 x7 x8 x9 => ⟨⟨none, .int .i64 (g51 x0 x1 x2 x3 x4 x5 x6 x7 x8 x9)⟩⟩⟩
theorem pc51 : FnOk Tryz.prog 67 F51.sh _ (F51.sh.flatMap Sh.bs) F51.f [] :=
  fun (x0 : Int) (x1 : Int) x2 (x3 : Int) (x4 : Int) (x5 : Int) x6 _ x7 _ x8 _ (x9 : Int) => pure_of_exec (X := (mkX [(126, F49.ans)])) (R := ⟨.pure, [.tmp 2], [(.t 0, kI)], ⟨[U], []⟩⟩) (h := (.s .z (.s (.j ⟨1048582, [], [(.t 20, kB)], [], .f⟩ .z .z) .z))) (ms := []) (p := True) (mkX_ok ⟨k49, trivial⟩) Tryz.func67 rfl rfl (by kernel_rfl) (trivial)
theorem k51 : XOk Tryz.prog 67 F51.ans := Fq.ok ⟨_, _, Tryz.func67, rfl, by kernel_rfl⟩ pc51
noncomputable def g52_m1 (x0 : Int) (x1 : Int) : Bool := (bif (!(g120 x0)) then true else (!(g112 x1 0 1073741824)))
noncomputable def g52 (x0 : Int) (x1 : Int) (x2 : Bool) (x3 : Int) (x4 : Int) (x5 : Int) (x6 : ByteArray) (x7 : ByteArray) (x8 : ByteArray) (x9 : Int) : Int := (bif (g52_m1 x0 x1) then 2 else (bif (!x2) then (g50 x3 x4 x5 x6 x7 x8 x9) else (bif (!((x3 == 0) && ((x4 == 0) && ((x5 == 0) && (((x6 : ByteArray).toList == (⟨#[]⟩ : ByteArray).toList) && (((x7 : ByteArray).toList == (⟨#[]⟩ : ByteArray).toList) && (((x8 : ByteArray).toList == (⟨#[]⟩ : ByteArray).toList) && ((x9 == 0) && true)))))))) then 8 else 0)))
noncomputable def F52 : Fq := ⟨[.g [kI, kI, kB, kI, kI, kI, kS, kS, kS, kI]], fun x0 x1 x2 x3 x4 x5 x6 x7 x8 x9 => ⟨⟨none, .int .i64 (g52 x0 x1 x2 x3 x4 x5 x6 x7 x8 x9)⟩⟩⟩
theorem pc52 : FnOk Tryz.prog 92 F52.sh _ (F52.sh.flatMap Sh.bs) F52.f [] :=
  fun (x0 : Int) (x1 : Int) x2 (x3 : Int) (x4 : Int) (x5 : Int) x6 _ x7 _ x8 _ (x9 : Int) => pure_of_exec (X := (mkX [(134, F50.ans), (54, F112.ans), (91, F120.ans)])) (R := ⟨.pure, [.tmp 2], [(.t 0, kI)], ⟨[U], []⟩⟩) (h := (.s .z (.s (.j ⟨4102, [], [(.t 12, kB)], [], .f⟩ .z .z) .z))) (ms := []) (p := True) (mkX_ok ⟨k50, k112, k120, trivial⟩) Tryz.func92 rfl rfl (by kernel_rfl) (trivial)
theorem k52 : XOk Tryz.prog 92 F52.ans := Fq.ok ⟨_, _, Tryz.func92, rfl, by kernel_rfl⟩ pc52
end Go.Proofs.YtchhfojblmceiaaGreat
/-
  Walks: what functions of the program answer, as functions.
-/
namespace Go.Proofs.YtchhfojblmceiaaGreat
open Go Go.Vc Go.RowKit
set_option maxRecDepth 100000
set_option maxHeartbeats 4000000
noncomputable def g55_m1 (x0 : Int) (x1 : Int) (x2 : Sl T68) : Bool := (bif (!(g112 x0 0 1048576)) then true else (bif (!(g112 x1 0 1048576)) then true else (bif (!((x0 == 0) == (x1 == 0))) then true else (bif (decide ((x2.n : Int) > 200)) then true else (decide ((IntKind.i64.wrap (x0 + (x2.n : Int))) > 1048576))))))
noncomputable def g55_m2 (x2 : Sl T68) (v7_0 : Int) : Bool := (bif ((g52 (x2.at' (Int.toNat v7_0)).c0 (x2.at' (Int.toNat v7_0)).c1 (x2.at' (Int.toNat v7_0)).c2 (x2.at' (Int.toNat v7_0)).c3 (x2.at' (Int.toNat v7_0)).c4 (x2.at' (Int.toNat v7_0)).c5 (x2.at' (Int.toNat v7_0)).c6 (x2.at' (Int.toNat v7_0)).c7 (x2.at' (Int.toNat v7_0)).c8 (x2.at' (Int.toNat v7_0)).c9) != 0) then true else false)
noncomputable def g55_m3 (x1 : Int) (x2 : Sl T68) (v7_0 : Int) : Bool := (bif ((g52 (x2.at' (Int.toNat v7_0)).c0 (x2.at' (Int.toNat v7_0)).c1 (x2.at' (Int.toNat v7_0)).c2 (x2.at' (Int.toNat v7_0)).c3 (x2.at' (Int.toNat v7_0)).c4 (x2.at' (Int.toNat v7_0)).c5 (x2.at' (Int.toNat v7_0)).c6 (x2.at' (Int.toNat v7_0)).c7 (x2.at' (Int.toNat v7_0)).c8 (x2.at' (Int.toNat v7_0)).c9) != 0) then true else (decide ((x2.at' (Int.toNat v7_0)).c0 < x1)))
noncomputable def g55_m4 (v7_0 : Int) : Bool := (bif (decide (v7_0 > 0)) then true else false)
noncomputable def g55_m5 (x2 : Sl T68) (v7_0 : Int) : Bool := (bif (decide (v7_0 > 0)) then (bif (decide ((x2.at' (Int.toNat v7_0)).c0 < (x2.at' (Int.toNat (IntKind.i64.wrap (v7_0 - 1)))).c0)) then true else (decide ((x2.at' (Int.toNat v7_0)).c1 < (x2.at' (Int.toNat (IntKind.i64.wrap (v7_0 - 1)))).c1))) else false)
noncomputable def g55_l7 (x1 : Int) (x2 : Sl T68) : Nat → Int → Bool × Int
  | 0, _ => default
  | k + 1, v7_0 => (bif (decide (v7_0 < (x2.n : Int))) then (bif (g55_m3 x1 x2 v7_0) then (true, 13) else (bif (g55_m5 x2 v7_0) then (true, 13) else (g55_l7 x1 x2 k (IntKind.i64.wrap (v7_0 + 1))))) else (false, default))
noncomputable def g55_r6 (x1 : Int) (x2 : Sl T68) : Bool × Int := g55_l7 x1 x2 ((Int.toNat ((x2.n : Int) - 0)) + 1) 0
noncomputable def g55_p7 (x1 : Int) (x2 : Sl T68) : Bool := (bif (g55_r6 x1 x2).1 then false else true)
noncomputable def g55 (x0 : Int) (x1 : Int) (x2 : Sl T68) : Int := (bif (g55_m1 x0 x1 x2) then 13 else (bif (g55_p7 x1 x2) then 0 else (g55_r6 x1 x2).2))
noncomputable def F55 : Fq := ⟨[.g [kI, kI, .sl E68]], fun x0 x1 x2 => ⟨⟨none, .int .i64 (g55 x0 x1 x2)⟩⟩⟩
theorem pc55 : FnOk Tryz.prog 40 F55.sh _ (F55.sh.flatMap Sh.bs) F55.f [] :=
  fun (x0 : Int) (x1 : Int) x2 n2 _ => pure_of_exec (X := (mkX [(92, F52.ans), (54, F112.ans)])) (R := ⟨.pure, [.tmp 2], [(.t 0, kI)], ⟨[U], []⟩⟩) (h := (.s .z (.s (.j ⟨137438953478, [], [(.t 37, kB)], [], .f⟩ .z .z) (.j ⟨4, [], [], [], .f⟩ (.s .z (.lp ⟨14, [], [], [(.t 3, kI)], some 0, true, 4, [.b 0], [], fun k (s : Int) => g55_l7 x1 x2 k s, .f, fun (s : Int) => (0 ≤ s ∧ s ≤ (x2.n : Int)), fun (s : Int) => (Int.toNat ((x2.n : Int) - s)), none⟩ (.s .z (.s (.s (.j ⟨4620666554525155342, [], [(.t 52, kB), (.t 62, kB)], [], .f⟩ .z .z) (.j ⟨79228162583448608406052536334, [], [(.t 65, kB), (.t 96, kB)], [(.b .l .f), .f], .f⟩ .z .z)) .z)))) .z)))) (ms := []) (p := ((g55_m1 x0 x1 x2) = false → (((0 ≤ (0 : Int) ∧ (0 : Int) ≤ (x2.n : Int))) ∧ (∀ (v7_0 : Int), (0 ≤ v7_0 ∧ v7_0 ≤ (x2.n : Int)) → (((decide (v7_0 < (x2.n : Int))) = true → ((((0 : Int) ≤ v7_0 ∧ v7_0 < ((x2.n : Nat) : Int)) ∧ (((g52 (x2.at' (Int.toNat v7_0)).c0 (x2.at' (Int.toNat v7_0)).c1 (x2.at' (Int.toNat v7_0)).c2 (x2.at' (Int.toNat v7_0)).c3 (x2.at' (Int.toNat v7_0)).c4 (x2.at' (Int.toNat v7_0)).c5 (x2.at' (Int.toNat v7_0)).c6 (x2.at' (Int.toNat v7_0)).c7 (x2.at' (Int.toNat v7_0)).c8 (x2.at' (Int.toNat v7_0)).c9) != 0) = false → ((0 : Int) ≤ v7_0 ∧ v7_0 < ((x2.n : Nat) : Int)))) ∧ ((g55_m3 x1 x2 v7_0) = false → ((decide (v7_0 > 0)) = true → (((0 : Int) ≤ v7_0 ∧ v7_0 < ((x2.n : Nat) : Int)) ∧ (((0 : Int) ≤ (IntKind.i64.wrap (v7_0 - 1)) ∧ (IntKind.i64.wrap (v7_0 - 1)) < ((x2.n : Nat) : Int)) ∧ ((decide ((x2.at' (Int.toNat v7_0)).c0 < (x2.at' (Int.toNat (IntKind.i64.wrap (v7_0 - 1)))).c0)) = false → (((0 : Int) ≤ v7_0 ∧ v7_0 < ((x2.n : Nat) : Int)) ∧ ((0 : Int) ≤ (IntKind.i64.wrap (v7_0 - 1)) ∧ (IntKind.i64.wrap (v7_0 - 1)) < ((x2.n : Nat) : Int)))))))))) ∧ ((decide (v7_0 < (x2.n : Int))) = true → ((g55_m3 x1 x2 v7_0) = false → ((g55_m5 x2 v7_0) = false → ((0 ≤ (IntKind.i64.wrap (v7_0 + 1)) ∧ (IntKind.i64.wrap (v7_0 + 1)) ≤ (x2.n : Int)) ∧ (Int.toNat ((x2.n : Int) - (IntKind.i64.wrap (v7_0 + 1)))) < (Int.toNat ((x2.n : Int) - v7_0))))))))))) (mkX_ok ⟨k52, k112, trivial⟩) Tryz.func40 rfl rfl (by kernel_rfl) ((fun h1 => ⟨(by have := h1; simp [g55_m1] at this; omega), (fun v7_0 hI2 => ⟨(fun h3 => ⟨⟨(by have := h1; simp [g55_m1] at this; have := of_decide_eq_true h3; omega), (fun h4 => (by have := h1; simp [g55_m1] at this; have := of_decide_eq_true h3; have := bne_eq_false_iff_eq.1 h4; omega))⟩, (fun h5 => (fun h6 => ⟨(by have := h1; simp [g55_m1] at this; have := of_decide_eq_true h3; have := h5; simp [g55_m3] at this; have := of_decide_eq_true h6; omega), ⟨(by have := h1; simp [g55_m1] at this; have := of_decide_eq_true h3; have := h5; simp [g55_m3] at this; have := of_decide_eq_true h6; first | omega | (have := wrap64 (x := (v7_0 - 1)) (by omega) (by omega); omega)), (fun h7 => ⟨(by have := h1; simp [g55_m1] at this; have := of_decide_eq_true h3; have := h5; simp [g55_m3] at this; have := of_decide_eq_true h6; have := of_decide_eq_false h7; omega), (by have := h1; simp [g55_m1] at this; have := of_decide_eq_true h3; have := h5; simp [g55_m3] at this; have := of_decide_eq_true h6; have := of_decide_eq_false h7; first | omega | (have := wrap64 (x := (v7_0 - 1)) (by omega) (by omega); omega))⟩)⟩⟩))⟩), (fun h8 => (fun h9 => (fun h10 => (by have := h1; simp [g55_m1] at this; have := of_decide_eq_true h8; have := h9; simp [g55_m3] at this; have := h10; simp [g55_m5] at this; first | omega | (have := wrap64 (x := (v7_0 + 1)) (by omega) (by omega); omega)))))⟩)⟩))
theorem k55 : XOk Tryz.prog 40 F55.ans := Fq.ok ⟨_, _, Tryz.func40, rfl, by kernel_rfl⟩ pc55
theorem chk55 (x0 x1 : Int) (x2 : Sl T68) (h : g55 x0 x1 x2 = 0) : (0 ≤ x0 ∧ x0 ≤ 1048576) ∧ (0 ≤ x1 ∧ x1 ≤ 1048576) ∧ x2.n ≤ 200 ∧ x0 + x2.n ≤ 1048576 := by
  unfold g55 at h
  cases hm : g55_m1 x0 x1 x2 with
  | true => rw [hm] at h; simp at h
  | false =>
    simp [g55_m1, g112, g112_m1] at hm
    have := wrap64 (x := x0 + (x2.n : Int)) (by omega) (by omega)
    omega
noncomputable def g54_l1 (x2 : Sl T68) : Nat → Int → Sl T68 → Sl T68
  | 0, _, _ => default
  | k + 1, v1_0, v1_1 => (bif (decide (v1_0 < (x2.n : Int))) then (g54_l1 x2 k (IntKind.i64.wrap (v1_0 + 1)) (Sl.app v1_1 (Sl.lit ([(x2.at' (Int.toNat v1_0))] : List T68)))) else v1_1)
noncomputable def g54_r1 (x2 : Sl T68) : Sl T68 := g54_l1 x2 ((Int.toNat ((x2.n : Int) - 0)) + 1) 0 (nilSl : Sl T68)
noncomputable def g54_0 (x0 : Int) : Int := x0
noncomputable def g54_1 (x1 : Int) : Int := x1
noncomputable def g54_2 (x2 : Sl T68) : Sl T68 := (g54_r1 x2)
noncomputable def F54 : Fq := ⟨[.g [kI, kI, .sl E68]], fun x0 x1 x2 => ⟨⟨none, .agg [.int .i64 (g54_0 x0), .int .i64 (g54_1 x1), ofSl 10 e68 (g54_2 x2)]⟩⟩⟩
theorem pc54 : FnOk Tryz.prog 43 F54.sh _ (F54.sh.flatMap Sh.bs) F54.f [] :=
  fun (x0 : Int) (x1 : Int) x2 n2 _ => pure_of_exec (X := X0) (R := ⟨.pure, [.cell 2 44], [(.c 0 0, kI), (.c 0 1, kI), (.c 0 2, .sl E68)], ⟨[.agg (us 3 [])], []⟩⟩) (h := (.s .z (.s .z (.j ⟨12, [], [], [], .f⟩ (.s .z (.lp ⟨30, [], [(.h 2 2, E68)], [(.t 4, kI), (.h 3 0, .blk E68)], some 0, false, 12, [.b 0], [(.h 3 0, .blk E68)], fun k (s : Int × Sl T68) => g54_l1 x2 k s.1 s.2, .f, fun (s : Int × Sl T68) => ((0 ≤ s.1 ∧ s.1 ≤ (x2.n : Int)) ∧ ((s.2.n : Nat) : Int) ≤ 0 + (s.1 - 0)), fun (s : Int × Sl T68) => (Int.toNat ((x2.n : Int) - s.1)), some fun (r : Sl T68) => ((r.n : Nat) : Int) ≤ 0 + max ((x2.n : Int) - 0) 0⟩ .z)) .z)))) (ms := []) (p := ((((0 ≤ (0 : Int) ∧ (0 : Int) ≤ (x2.n : Int)) ∧ ((0 : Nat) : Int) ≤ 0 + ((0 : Int) - 0))) ∧ (∀ (v1_0 : Int) (v1_1 : Sl T68), ((0 ≤ v1_0 ∧ v1_0 ≤ (x2.n : Int)) ∧ ((v1_1.n : Nat) : Int) ≤ 0 + (v1_0 - 0)) → (((decide (v1_0 < (x2.n : Int))) = true → (((0 : Int) ≤ v1_0 ∧ v1_0 < ((x2.n : Nat) : Int)) ∧ (v1_1.n + 1 ≤ 549755813888))) ∧ (((decide (v1_0 < (x2.n : Int))) = true → (((0 ≤ (IntKind.i64.wrap (v1_0 + 1)) ∧ (IntKind.i64.wrap (v1_0 + 1)) ≤ (x2.n : Int)) ∧ (((v1_1.n + 1) : Nat) : Int) ≤ 0 + ((IntKind.i64.wrap (v1_0 + 1)) - 0)) ∧ (Int.toNat ((x2.n : Int) - (IntKind.i64.wrap (v1_0 + 1)))) < (Int.toNat ((x2.n : Int) - v1_0)))) ∧ ((decide (v1_0 < (x2.n : Int))) = false → (((v1_1.n : Nat) : Int) ≤ 0 + max ((x2.n : Int) - 0) 0))))))) X0_ok Tryz.func43 rfl rfl (by kernel_rfl) (⟨(by omega), (fun v1_0 v1_1 hI1 => ⟨(fun h2 => ⟨(by have := of_decide_eq_true h2; omega), (by have := of_decide_eq_true h2; omega)⟩), ⟨(fun h3 => (by have := of_decide_eq_true h3; first | omega | (have := wrap64 (x := (v1_0 + 1)) (by omega) (by omega); omega))), (fun h4 => (by have := of_decide_eq_false h4; omega))⟩⟩)⟩)
theorem k54 : XOk Tryz.prog 43 F54.ans := Fq.ok ⟨_, _, Tryz.func43, rfl, by kernel_rfl⟩ pc54
noncomputable def g109_l1 (x0 : Sl Int) : Nat → Int → Sl Int → Sl Int
  | 0, _, _ => default
  | k + 1, v1_0, v1_1 => (bif (decide (v1_0 < (x0.n : Int))) then (g109_l1 x0 k (IntKind.i64.wrap (v1_0 + 1)) (Sl.app v1_1 (Sl.lit ([(x0.at' (Int.toNat v1_0))] : List Int)))) else v1_1)
noncomputable def g109_r1 (x0 : Sl Int) : Sl Int := g109_l1 x0 ((Int.toNat ((x0.n : Int) - 0)) + 1) 0 (nilSl : Sl Int)
noncomputable def g109_l7 (x1 : Sl Int) : Nat → Int → Sl Int → Sl Int
  | 0, _, _ => default
  | k + 1, v7_0, v7_1 => (bif (decide (v7_0 < (x1.n : Int))) then (g109_l7 x1 k (IntKind.i64.wrap (v7_0 + 1)) (Sl.app v7_1 (Sl.lit ([(x1.at' (Int.toNat v7_0))] : List Int)))) else v7_1)
noncomputable def g109_r2 (x0 : Sl Int) (x1 : Sl Int) : Sl Int := g109_l7 x1 ((Int.toNat ((x1.n : Int) - 0)) + 1) 0 (g109_r1 x0)
noncomputable def g109 (x0 : Sl Int) (x1 : Sl Int) : Sl Int := (g109_r2 x0 x1)
noncomputable def F109 : Fq := ⟨[.v (.sl E5), .v (.sl E5)], fun x0 x1 => ⟨⟨some (x0.n + x1.n ≤ 549755813888), (Kd.blk E5).av (g109 x0 x1)⟩⟩⟩
theorem pc109 : FnOk Tryz.prog 27 F109.sh _ (F109.sh.flatMap Sh.bs) F109.f [] :=
  fun x0 n0 _ x1 n1 _ hp => pure_of_exec (X := X0) (R := ⟨.own E5, [.tmp 4], [(.h 0 0, .blk E5)], ⟨[], []⟩⟩) (h := (.s .z (.s .z (.j ⟨50, [], [], [], .f⟩ (.s .z (.lp ⟨115, [], [(.t 5, E5)], [(.t 6, kI), (.h 0 0, .blk E5)], some 0, false, 50, [], [(.h 0 0, .blk E5)], fun k (s : Int × Sl Int) => g109_l1 x0 k s.1 s.2, .f, fun (s : Int × Sl Int) => ((0 ≤ s.1 ∧ s.1 ≤ (x0.n : Int)) ∧ ((s.2.n : Nat) : Int) ≤ 0 + (s.1 - 0)), fun (s : Int × Sl Int) => (Int.toNat ((x0.n : Int) - s.1)), some fun (r : Sl Int) => ((r.n : Nat) : Int) ≤ 0 + max ((x0.n : Int) - 0) 0⟩ .z)) (.j ⟨48, [], [], [], .f⟩ (.s .z (.lp ⟨178, [], [], [(.t 7, kI), (.h 0 0, .blk E5)], some 2, false, 48, [], [(.h 0 0, .blk E5)], fun k (s : Int × Sl Int) => g109_l7 x1 k s.1 s.2, .f, fun (s : Int × Sl Int) => ((0 ≤ s.1 ∧ s.1 ≤ (x1.n : Int)) ∧ ((s.2.n : Nat) : Int) ≤ (g109_r1 x0).n + (s.1 - 0)), fun (s : Int × Sl Int) => (Int.toNat ((x1.n : Int) - s.1)), some fun (r : Sl Int) => ((r.n : Nat) : Int) ≤ (g109_r1 x0).n + max ((x1.n : Int) - 0) 0⟩ .z)) .z))))) (ms := []) (p := (((((0 ≤ (0 : Int) ∧ (0 : Int) ≤ (x0.n : Int)) ∧ ((0 : Nat) : Int) ≤ 0 + ((0 : Int) - 0))) ∧ (∀ (v1_0 : Int) (v1_1 : Sl Int), ((0 ≤ v1_0 ∧ v1_0 ≤ (x0.n : Int)) ∧ ((v1_1.n : Nat) : Int) ≤ 0 + (v1_0 - 0)) → (((decide (v1_0 < (x0.n : Int))) = true → (((0 : Int) ≤ v1_0 ∧ v1_0 < ((x0.n : Nat) : Int)) ∧ (v1_1.n + 1 ≤ 549755813888))) ∧ (((decide (v1_0 < (x0.n : Int))) = true → (((0 ≤ (IntKind.i64.wrap (v1_0 + 1)) ∧ (IntKind.i64.wrap (v1_0 + 1)) ≤ (x0.n : Int)) ∧ (((v1_1.n + 1) : Nat) : Int) ≤ 0 + ((IntKind.i64.wrap (v1_0 + 1)) - 0)) ∧ (Int.toNat ((x0.n : Int) - (IntKind.i64.wrap (v1_0 + 1)))) < (Int.toNat ((x0.n : Int) - v1_0)))) ∧ ((decide (v1_0 < (x0.n : Int))) = false → (((v1_1.n : Nat) : Int) ≤ 0 + max ((x0.n : Int) - 0) 0)))))) ∧ (((((g109_r1 x0).n : Nat) : Int) ≤ 0 + max ((x0.n : Int) - 0) 0) → ((((0 ≤ (0 : Int) ∧ (0 : Int) ≤ (x1.n : Int)) ∧ (((g109_r1 x0).n : Nat) : Int) ≤ (g109_r1 x0).n + ((0 : Int) - 0))) ∧ (∀ (v7_0 : Int) (v7_1 : Sl Int), ((0 ≤ v7_0 ∧ v7_0 ≤ (x1.n : Int)) ∧ ((v7_1.n : Nat) : Int) ≤ (g109_r1 x0).n + (v7_0 - 0)) → (((decide (v7_0 < (x1.n : Int))) = true → (((0 : Int) ≤ v7_0 ∧ v7_0 < ((x1.n : Nat) : Int)) ∧ (v7_1.n + 1 ≤ 549755813888))) ∧ (((decide (v7_0 < (x1.n : Int))) = true → (((0 ≤ (IntKind.i64.wrap (v7_0 + 1)) ∧ (IntKind.i64.wrap (v7_0 + 1)) ≤ (x1.n : Int)) ∧ (((v7_1.n + 1) : Nat) : Int) ≤ (g109_r1 x0).n + ((IntKind.i64.wrap (v7_0 + 1)) - 0)) ∧ (Int.toNat ((x1.n : Int) - (IntKind.i64.wrap (v7_0 + 1)))) < (Int.toNat ((x1.n : Int) - v7_0)))) ∧ ((decide (v7_0 < (x1.n : Int))) = false → (((v7_1.n : Nat) : Int) ≤ (g109_r1 x0).n + max ((x1.n : Int) - 0) 0))))))))) X0_ok Tryz.func27 rfl rfl (by kernel_rfl) (⟨⟨(by omega), (fun v1_0 v1_1 hI1 => ⟨(fun h2 => ⟨(by have := of_decide_eq_true h2; omega), (by have := of_decide_eq_true h2; omega)⟩), ⟨(fun h3 => (by have := of_decide_eq_true h3; first | omega | (have := wrap64 (x := (v1_0 + 1)) (by omega) (by omega); omega))), (fun h4 => (by have := of_decide_eq_false h4; omega))⟩⟩)⟩, (fun hF5 => ⟨(by omega), (fun v7_0 v7_1 hI6 => ⟨(fun h7 => ⟨(by have := of_decide_eq_true h7; omega), (by have := of_decide_eq_true h7; omega)⟩), ⟨(fun h8 => (by have := of_decide_eq_true h8; first | omega | (have := wrap64 (x := (v7_0 + 1)) (by omega) (by omega); omega))), (fun h9 => (by have := of_decide_eq_false h9; omega))⟩⟩)⟩)⟩)
theorem k109 : XOk Tryz.prog 27 F109.ans := Fq.ok ⟨_, _, Tryz.func27, rfl, by kernel_rfl⟩ pc109
theorem lenl109 (x0 : Sl Int) (hn : x0.n ≤ 549755813888) : ∀ (m : Nat) (v : Int) (s : Sl Int), 0 ≤ v → v ≤ x0.n → m = Int.toNat ((x0.n : Int) - v) → ((g109_l1 x0 (m + 1) v s).n : Int) = s.n + ((x0.n : Int) - v)
  | 0, v, s, h0, h1, hm => by
    have : ¬ v < (x0.n : Int) := by omega
    simp only [g109_l1, this, decide_false, cond_false]; omega
  | m + 1, v, s, h0, h1, hm => by
    have hv : v < (x0.n : Int) := by omega
    have hw := wrap64 (x := v + 1) (by omega) (by omega)
    rw [g109_l1]
    simp only [hv, decide_true, cond_true]
    rw [hw, lenl109 x0 hn m (v + 1) _ (by omega) (by omega) (by omega)]
    simp only [Sl.app_n, Sl.lit_n, List.length_cons, List.length_nil]; omega
theorem lenm109 (x0 : Sl Int) (hn : x0.n ≤ 549755813888) : ∀ (m : Nat) (v : Int) (s : Sl Int), 0 ≤ v → v ≤ x0.n → m = Int.toNat ((x0.n : Int) - v) → ((g109_l7 x0 (m + 1) v s).n : Int) = s.n + ((x0.n : Int) - v)
  | 0, v, s, h0, h1, hm => by
    have : ¬ v < (x0.n : Int) := by omega
    simp only [g109_l7, this, decide_false, cond_false]; omega
  | m + 1, v, s, h0, h1, hm => by
    have hv : v < (x0.n : Int) := by omega
    have hw := wrap64 (x := v + 1) (by omega) (by omega)
    rw [g109_l7]
    simp only [hv, decide_true, cond_true]
    rw [hw, lenm109 x0 hn m (v + 1) _ (by omega) (by omega) (by omega)]
    simp only [Sl.app_n, Sl.lit_n, List.length_cons, List.length_nil]; omega
theorem len109 (x0 x1 : Sl Int) : x0.n + x1.n ≤ 549755813888 → (g109 x0 x1).n = x0.n + x1.n := fun h => by
  have h1 : ((g109_r1 x0).n : Int) = 0 + ((x0.n : Int) - 0) := lenl109 x0 (by omega) _ 0 nilSl (by omega) (by omega) rfl
  have h2 : ((g109_r2 x0 x1).n : Int) = (g109_r1 x0).n + ((x1.n : Int) - 0) := lenm109 x1 (by omega) _ 0 _ (by omega) (by omega) rfl
  show (g109_r2 x0 x1).n = _
  omega
noncomputable def g108_m1 (x0 : Sl Int) (x1 : Int) : Bool := (bif (decide ((x0.n : Int) ≤ 400000)) then (g112 x1 0 (x0.n : Int)) else false)
noncomputable def g108 (x0 : Sl Int) (x1 : Int) : Bool := (g108_m1 x0 x1)
noncomputable def F108 : Fq := ⟨[.g [.sl E5, kI]], fun x0 x1 => ⟨⟨none, .bool (g108 x0 x1)⟩⟩⟩
theorem pc108 : FnOk Tryz.prog 24 F108.sh _ (F108.sh.flatMap Sh.bs) F108.f [] :=
  fun x0 _ _ (x1 : Int) => pure_of_exec (X := (mkX [(54, F112.ans)])) (R := ⟨.pure, [.tmp 2], [(.t 0, kB)], ⟨[U], []⟩⟩) (h := (.s .z (.j ⟨4, [.b 0], [(.t 2, kB)], [], .f⟩ .z .z))) (ms := []) (p := True) (mkX_ok ⟨k112, trivial⟩) Tryz.func24 rfl rfl (by kernel_rfl) (trivial)
theorem k108 : XOk Tryz.prog 24 F108.ans := Fq.ok ⟨_, _, Tryz.func24, rfl, by kernel_rfl⟩ pc108
theorem h108 (x0 : Sl Int) (x1 : Int) (h : g108 x0 x1 = true) : (0 ≤ x1 ∧ x1 ≤ (x0.n : Int)) ∧ x0.n ≤ 400000 := by
  simp [g108, g108_m1, g112, g112_m1] at h
  omega
end Go.Proofs.YtchhfojblmceiaaGreat
