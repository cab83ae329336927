/-
  Walks: what functions of the program answer, as functions.
-/
import Derived.Test.YtchhfojblmceiaaCl
import Derived.Test.YtchhfojblmceiaaEc
import Derived.Test.YtchhfojblmceiaaY0
import Derived.Test.YtchhfojblmceiaaY1
import Derived.Test.YtchhfojblmceiaaYr
import Derived.Test.YtchhfojblmceiaaY2
import Derived.Test.YtchhfojblmceiaaZ1
import Derived.Test.YtchhfojblmceiaaZ2
import Derived.Test.YtchhfojblmceiaaZ3
import Derived.Test.YtchhfojblmceiaaZ4
import Derived.Test.YtchhfojblmceiaaZ5
import Derived.Test.YtchhfojblmceiaaH1
import Derived.Test.YtchhfojblmceiaaH3
namespace Go.Proofs.Ytchhfojblmceiaa
open Go Go.Vc Go.RowKit
set_option maxRecDepth 100000
set_option maxHeartbeats 4000000
noncomputable def g208pp_h2_0 (x0 : Sl Int) (x1 : Bool) : Sl Int := (g164_h0_0 x0 x1)
noncomputable def g208pp_h2_1 (x0 : Sl Int) (x1 : Bool) : Bool := (g164_h0_1 x0 x1)
noncomputable def g208pp_h3_0 (x0 : Sl Int) (x1 : Bool) (x2 : Sl ByteArray) : Sl ByteArray := (Sl.app x2 (Sl.lit ([(g164 x0 x1)] : List ByteArray)))
noncomputable def F208pp : Hq := ⟨[.p 0, .p 1], [(.h 2 0, .sl E5), (.h 2 1, kB), (.h 3 0, .blk E9)], [[.own 3 0], [.ptr 2 0], [U, U], [U]], fun x0 x1 x2 => ⟨⟨some (U8 x0 ∧ x2.n ≤ 1000), [], [[.own 3 ((g208pp_h3_0 x0 x1 x2)).n], [.ptr 2 0], [ofSl 1 e5 (g208pp_h2_0 x0 x1), .bool (g208pp_h2_1 x0 x1)], [(Kd.blk E9).av (g208pp_h3_0 x0 x1 x2)]]⟩⟩⟩
theorem pc208pp : HqOk Try.prog 208 F208pp _ (F208pp.sh.flatMap Sh.bs) F208pp.f [] :=
  fun x0 n0 x1 x2 n2 hp => heap_of_exec (X := (mkXh 4 [] [(164, F164.ans)])) (R := ⟨.heap, [], [(.h 2 0, .sl E5), (.h 2 1, kB), (.h 3 0, .blk E9)], ⟨[], [[.own 3 0], [.ptr 2 0], [U, U], [U]]⟩⟩) (h := .z) (ms := []) (p := ((U8 x0) ∧ (x2.n + 1 ≤ 549755813888))) (mkXh_ok trivial ⟨k164, trivial⟩) Try.func208 rfl rfl rfl (by kernel_rfl) (have ⟨hq0, hq1⟩ := hp; ⟨(by repeat first | assumption | apply u205 | apply u161 | apply u167 | apply u164 | apply u227 | apply u202 | apply u208pp | apply u162_208pp | apply u168), (by omega)⟩)
theorem k208pp : XHOk Try.prog 208 F208pp.ans := Hq.ok ⟨_, _, Try.func208, rfl, by kernel_rfl⟩ (by kernel_rfl) pc208pp
theorem u208pp {x0 : Sl Int} {x1 : Bool} (h : U8 x0) : U8 (g208pp_h2_0 x0 x1) := u164 h
theorem len208pp (x0 : Sl Int) (x1 : Bool) (x2 : Sl ByteArray) : (g208pp_h3_0 x0 x1 x2).n = x2.n + 1 := rfl
noncomputable def g162_208pp_m1 (v1_0 : Int) : Bool := (bif (decide (v1_0 > 0)) then true else false)
noncomputable def g162_208pp_m2 (v1_0 : Int) (v1_2 : Bool) : Bool := (bif (decide (v1_0 > 0)) then (!v1_2) else false)
noncomputable def g162_208pp_l1 : Nat → Int → Sl Int → Bool → Sl ByteArray → Sl Int × Bool × Sl ByteArray
  | 0, _, _, _, _ => default
  | k + 1, v1_0, v1_1, v1_2, v1_3 => (bif (g162_208pp_m2 v1_0 v1_2) then (g162_208pp_l1 k (IntKind.i64.wrap (v1_0 - 1)) (g208pp_h2_0 v1_1 v1_2) (g208pp_h2_1 v1_1 v1_2) (g208pp_h3_0 v1_1 v1_2 v1_3)) else (v1_1, v1_2, v1_3))
noncomputable def g162_208pp_r3 (x0 : Sl Int) (x1 : Bool) (x2 : Sl ByteArray) : Sl Int × Bool × Sl ByteArray := g162_208pp_l1 ((Int.toNat (g167 x0 x1)) + 1) (g167 x0 x1) (g167_h0_0 x0 x1) (g167_h0_1 x0 x1) x2
noncomputable def g162_208pp_h2_0 (x0 : Sl Int) (x1 : Bool) (x2 : Sl ByteArray) : Sl Int := (g162_208pp_r3 x0 x1 x2).1
noncomputable def g162_208pp_h2_1 (x0 : Sl Int) (x1 : Bool) (x2 : Sl ByteArray) : Bool := (g162_208pp_r3 x0 x1 x2).2.1
noncomputable def g162_208pp_h3_0 (x0 : Sl Int) (x1 : Bool) (x2 : Sl ByteArray) : Sl ByteArray := (g162_208pp_r3 x0 x1 x2).2.2
noncomputable def F162_208pp : Hq := ⟨[.p 2, .fp 208 [0, 1]], [(.h 2 0, .sl E5), (.h 2 1, kB), (.h 3 0, .blk E9)], [[.own 3 0], [.ptr 2 0], [U, U], [U]], fun x0 x1 x2 => ⟨⟨some (U8 x0 ∧ x2.n ≤ 10), [], [[.own 3 ((g162_208pp_h3_0 x0 x1 x2)).n], [.ptr 2 0], [ofSl 1 e5 (g162_208pp_h2_0 x0 x1 x2), .bool (g162_208pp_h2_1 x0 x1 x2)], [(Kd.blk E9).av (g162_208pp_h3_0 x0 x1 x2)]]⟩⟩⟩
theorem pc162_208pp : HqOk Try.prog 162 F162_208pp _ (F162_208pp.sh.flatMap Sh.bs) F162_208pp.f [] :=
  fun x0 n0 x1 x2 n2 hp => heap_of_exec (X := (mkXh 4 [] [(167, F167.ans), (208, F208pp.ans)])) (R := ⟨.heap, [], [(.h 2 0, .sl E5), (.h 2 1, kB), (.h 3 0, .blk E9)], ⟨[], [[.own 3 0], [.ptr 2 0], [U, U], [U]]⟩⟩) (h := (.s .z (.lp ⟨19, [], [], [(.t 4, kI), (.h 2 0, .sl E5), (.h 2 1, kB), (.h 3 0, .blk E9)], some 0, false, 0, [], [(.h 2 0, .sl E5), (.h 2 1, kB), (.h 3 0, .blk E9)], fun k (s : Int × Sl Int × Bool × Sl ByteArray) => g162_208pp_l1 k s.1 s.2.1 s.2.2.1 s.2.2.2, .f, fun (s : Int × Sl Int × Bool × Sl ByteArray) => (U8 s.2.1 ∧ 0 ≤ s.1 ∧ s.1 ≤ 255 ∧ ((s.2.2.2.n : Nat) : Int) ≤ ((x2.n : Nat) : Int) + 255 - s.1), fun (s : Int × Sl Int × Bool × Sl ByteArray) => (Int.toNat s.1), none⟩ (.s (.j ⟨33683, [], [(.t 9, kB), (.t 15, kB)], [], .f⟩ .z .z) .z)))) (ms := []) (p := (((U8 (g167_h0_0 x0 x1) ∧ 0 ≤ (g167 x0 x1) ∧ (g167 x0 x1) ≤ 255 ∧ ((x2.n : Nat) : Int) ≤ ((x2.n : Nat) : Int) + 255 - (g167 x0 x1))) ∧ (∀ (v1_0 : Int) (v1_1 : Sl Int) (v1_2 : Bool) (v1_3 : Sl ByteArray), (U8 v1_1 ∧ 0 ≤ v1_0 ∧ v1_0 ≤ 255 ∧ ((v1_3.n : Nat) : Int) ≤ ((x2.n : Nat) : Int) + 255 - v1_0) → (((g162_208pp_m2 v1_0 v1_2) = true → (U8 v1_1 ∧ v1_3.n ≤ 1000)) ∧ ((g162_208pp_m2 v1_0 v1_2) = true → ((U8 (g208pp_h2_0 v1_1 v1_2) ∧ 0 ≤ (IntKind.i64.wrap (v1_0 - 1)) ∧ (IntKind.i64.wrap (v1_0 - 1)) ≤ 255 ∧ (((g208pp_h3_0 v1_1 v1_2 v1_3).n : Nat) : Int) ≤ ((x2.n : Nat) : Int) + 255 - (IntKind.i64.wrap (v1_0 - 1))) ∧ (Int.toNat (IntKind.i64.wrap (v1_0 - 1))) < (Int.toNat v1_0))))))) (mkXh_ok trivial ⟨k167, k208pp, trivial⟩) Try.func162 rfl rfl rfl (by kernel_rfl) (have ⟨hq0, hq1⟩ := hp; ⟨⟨(by repeat first | assumption | apply u205 | apply u161 | apply u167 | apply u164 | apply u227 | apply u202 | apply u208pp | apply u162_208pp | apply u168), (by have := r167 x0 x1 (by repeat first | assumption | apply u205 | apply u161 | apply u167 | apply u164 | apply u227 | apply u202 | apply u208pp | apply u162_208pp | apply u168); omega)⟩, (fun v1_0 v1_1 v1_2 v1_3 hI1 => have hu1 := hI1.1; ⟨(fun h2 => ⟨(by repeat first | assumption | apply u205 | apply u161 | apply u167 | apply u164 | apply u227 | apply u202 | apply u208pp | apply u162_208pp | apply u168), (by have := h2; (try simp [g162_208pp_m2] at this); omega)⟩), (fun h3 => ⟨⟨(by repeat first | assumption | apply u205 | apply u161 | apply u167 | apply u164 | apply u227 | apply u202 | apply u208pp | apply u162_208pp | apply u168), (by have := h3; (try simp [g162_208pp_m2] at this); have := len208pp v1_1 v1_2 v1_3; first | omega | (have := wrap64 (x := (v1_0 - 1)) (by omega) (by omega); omega))⟩, (by have := h3; (try simp [g162_208pp_m2] at this); first | omega | (have := wrap64 (x := (v1_0 - 1)) (by omega) (by omega); omega))⟩)⟩)⟩)
theorem k162_208pp : XHOk Try.prog 162 F162_208pp.ans := Hq.ok ⟨_, _, Try.func162, rfl, by kernel_rfl⟩ (by kernel_rfl) pc162_208pp
theorem u162_208ppl : ∀ (m : Nat) (n : Int) (s : Sl Int) (b : Bool) (l : Sl ByteArray), U8 s → U8 (g162_208pp_l1 m n s b l).1
  | 0, _, _, _, _, _ => fun i => by show (0 : Int) ≤ 0 ∧ (0 : Int) ≤ 255; omega
  | m + 1, n, s, b, l, h => by
    rw [g162_208pp_l1]
    cases g162_208pp_m2 n b
    · exact h
    · exact u162_208ppl m _ _ _ _ (u208pp h)
theorem u162_208pp {x0 : Sl Int} {x1 : Bool} {x2 : Sl ByteArray} (h : U8 x0) : U8 (g162_208pp_h2_0 x0 x1 x2) := u162_208ppl _ _ _ _ _ (u167 h)
noncomputable def g168 (x0 : Sl Int) (x1 : Bool) : Sl ByteArray := (g162_208pp_h3_0 x0 x1 (nilSl : Sl ByteArray))
noncomputable def g168_h0_0 (x0 : Sl Int) (x1 : Bool) : Sl Int := (g162_208pp_h2_0 x0 x1 (nilSl : Sl ByteArray))
noncomputable def g168_h0_1 (x0 : Sl Int) (x1 : Bool) : Bool := (g162_208pp_h2_1 x0 x1 (nilSl : Sl ByteArray))
noncomputable def F168 : Hq := ⟨[.p 0], [(.h 0 0, .sl E5), (.h 0 1, kB)], [[U, U]], fun x0 x1 => ⟨⟨some (U8 x0), [ofSl 1 e9 (g168 x0 x1)], [[ofSl 1 e5 (g168_h0_0 x0 x1), .bool (g168_h0_1 x0 x1)]]⟩⟩⟩
theorem pc168 : HqOk Try.prog 168 F168 _ (F168.sh.flatMap Sh.bs) F168.f [] :=
  fun x0 n0 x1 hp => heap_of_exec (X := (mkXh 1 [] [(162, F162_208pp.ans)])) (R := ⟨.heap, [.tmp 2], [(.t 0, .sl E9), (.h 0 0, .sl E5), (.h 0 1, kB)], ⟨[U], [[U, U]]⟩⟩) (h := (.s .z (.s .z (.s (.cv [(.h 2 0, E9)]) .z)))) (ms := []) (p := (U8 x0 ∧ 0 ≤ 10)) (mkXh_ok trivial ⟨k162_208pp, trivial⟩) Try.func168 rfl rfl rfl (by kernel_rfl) (⟨(by repeat first | assumption | apply u205 | apply u161 | apply u167 | apply u164 | apply u227 | apply u202 | apply u208pp | apply u162_208pp | apply u168), (by omega)⟩)
theorem k168 : XHOk Try.prog 168 F168.ans := Hq.ok ⟨_, _, Try.func168, rfl, by kernel_rfl⟩ (by kernel_rfl) pc168
theorem u168 {x0 : Sl Int} {x1 : Bool} (h : U8 x0) : U8 (g168_h0_0 x0 x1) := u162_208pp h
end Go.Proofs.Ytchhfojblmceiaa
