/-
  Walks: what functions of the program answer, as functions.
-/
import Derived.Test.YtchhfojblmceiaaGreatCl
import Derived.Test.YtchhfojblmceiaaGreatEc
import Derived.Test.YtchhfojblmceiaaGreatGA
import Derived.Test.YtchhfojblmceiaaGreatVcH
import Derived.Test.YtchhfojblmceiaaGreatWd
namespace Go.Proofs.YtchhfojblmceiaaGreat
open Go Go.Vc Go.RowKit
set_option maxRecDepth 100000
set_option maxHeartbeats 4000000
noncomputable def g155 (x0 : Int) (x1 : Sl Int) : Sl Int := (Sl.app x1 (Sl.lit ([(IntKind.u8.wrap x0)] : List Int)))
noncomputable def F155 : Hq := ⟨[.p 0, .v kI], [(.h 1 0, .blk E5)], [[.own 1 0], [U]], fun (x0 : Int) x1 => ⟨⟨some (x1.n ≤ 400000000000), [], [[.own 1 ((g155 x0 x1)).n], [(Kd.blk E5).av (g155 x0 x1)]]⟩⟩⟩
theorem pc155 : HqOk Tryz.prog 75 F155 _ (F155.sh.flatMap Sh.bs) F155.f [] :=
  fun (x0 : Int) x1 n1 hp => heap_of_exec (X := (mkXh 2 [] [])) (R := ⟨.heap, [], [(.h 1 0, .blk E5)], ⟨[], [[.own 1 0], [U]]⟩⟩) (h := .z) (ms := []) (p := (x1.n + 1 ≤ 549755813888)) (mkXh_ok trivial trivial) Tryz.func75 rfl rfl rfl (by kernel_rfl) ((by omega))
theorem k155 : XHOk Tryz.prog 75 F155.ans := Hq.ok ⟨_, _, Tryz.func75, rfl, by kernel_rfl⟩ (by kernel_rfl) pc155
theorem len155 (x0 : Int) (x1 : Sl Int) : (g155 x0 x1).n = x1.n + 1 := rfl
noncomputable def g154_l1 (x0 : Int) : Nat → Int → Sl Int → Sl Int
  | 0, _, _ => default
  | k + 1, v1_0, v1_1 => (bif (decide (v1_0 ≥ 0)) then (g154_l1 x0 k (IntKind.i64.wrap (v1_0 - 8)) (Sl.app v1_1 (Sl.lit ([(IntKind.u8.wrap ((IntKind.u64.wrap (IntKind.i64.wrap (x0 + 4611686018427387904))) / 2 ^ (Int.toNat v1_0)))] : List Int)))) else v1_1)
noncomputable def g154_r1 (x0 : Int) (x1 : Sl Int) : Sl Int := g154_l1 x0 ((Int.toNat (56 + 8)) + 1) 56 x1
noncomputable def g154 (x0 : Int) (x1 : Sl Int) : Sl Int := (g154_r1 x0 x1)
noncomputable def F154 : Hq := ⟨[.p 0, .v kI], [(.h 1 0, .blk E5)], [[.own 1 0], [U]], fun (x0 : Int) x1 => ⟨⟨some (x1.n ≤ 400000000000), [], [[.own 1 ((g154 x0 x1)).n], [(Kd.blk E5).av (g154 x0 x1)]]⟩⟩⟩
theorem pc154 : HqOk Tryz.prog 74 F154 _ (F154.sh.flatMap Sh.bs) F154.f [] :=
  fun (x0 : Int) x1 n1 hp => heap_of_exec (X := (mkXh 2 [] [])) (R := ⟨.heap, [], [(.h 1 0, .blk E5)], ⟨[], [[.own 1 0], [U]]⟩⟩) (h := (.s .z (.s .z (.lp ⟨49, [], [], [(.t 5, kI), (.h 1 0, .blk E5)], some 0, false, 0, [], [(.h 1 0, .blk E5)], fun k (s : Int × Sl Int) => g154_l1 x0 k s.1 s.2, .f, fun (s : Int × Sl Int) => (s.1 % 8 = 0 ∧ -8 ≤ s.1 ∧ s.1 ≤ 56 ∧ ((s.2.n : Nat) : Int) * 8 = ((x1.n : Nat) : Int) * 8 + 56 - s.1), fun (s : Int × Sl Int) => (Int.toNat (s.1 + 8)), none⟩ .z)))) (ms := []) (p := ((((56 : Int) % 8 = 0 ∧ -8 ≤ (56 : Int) ∧ (56 : Int) ≤ 56 ∧ ((x1.n : Nat) : Int) * 8 = ((x1.n : Nat) : Int) * 8 + 56 - (56 : Int))) ∧ (∀ (v1_0 : Int) (v1_1 : Sl Int), (v1_0 % 8 = 0 ∧ -8 ≤ v1_0 ∧ v1_0 ≤ 56 ∧ ((v1_1.n : Nat) : Int) * 8 = ((x1.n : Nat) : Int) * 8 + 56 - v1_0) → (((decide (v1_0 ≥ 0)) = true → (((0 : Int) ≤ v1_0 ∧ (v1_0 : Int) ≤ 64) ∧ (v1_1.n + 1 ≤ 549755813888))) ∧ ((decide (v1_0 ≥ 0)) = true → (((IntKind.i64.wrap (v1_0 - 8)) % 8 = 0 ∧ -8 ≤ (IntKind.i64.wrap (v1_0 - 8)) ∧ (IntKind.i64.wrap (v1_0 - 8)) ≤ 56 ∧ (((v1_1.n + 1) : Nat) : Int) * 8 = ((x1.n : Nat) : Int) * 8 + 56 - (IntKind.i64.wrap (v1_0 - 8))) ∧ (Int.toNat ((IntKind.i64.wrap (v1_0 - 8)) + 8)) < (Int.toNat (v1_0 + 8)))))))) (mkXh_ok trivial trivial) Tryz.func74 rfl rfl rfl (by kernel_rfl) (⟨(by omega), (fun v1_0 v1_1 hI1 => ⟨(fun h2 => ⟨(by have := of_decide_eq_true h2; omega), (by have := of_decide_eq_true h2; omega)⟩), (fun h3 => (by have := of_decide_eq_true h3; first | omega | (have := wrap64 (x := (v1_0 - 8)) (by omega) (by omega); omega)))⟩)⟩)
theorem k154 : XHOk Tryz.prog 74 F154.ans := Hq.ok ⟨_, _, Tryz.func74, rfl, by kernel_rfl⟩ (by kernel_rfl) pc154
theorem len154 (x0 : Int) (x1 : Sl Int) : (g154 x0 x1).n = x1.n + 8 := by kernel_rfl
noncomputable def g156 (x0 : ByteArray) (x1 : Sl Int) : Sl Int := (Sl.app (g155 ((x0 : ByteArray).size : Int) x1) (Sl.ofStr x0))
noncomputable def F156 : Hq := ⟨[.p 0, .v kS], [(.h 1 0, .blk E5)], [[.own 1 0], [U]], fun x0 x1 => ⟨⟨some (x1.n ≤ 300000000000 ∧ x0.size ≤ 10000000000), [], [[.own 1 ((g156 x0 x1)).n], [(Kd.blk E5).av (g156 x0 x1)]]⟩⟩⟩
theorem pc156 : HqOk Tryz.prog 76 F156 _ (F156.sh.flatMap Sh.bs) F156.f [] :=
  fun x0 n0 x1 n1 hp => heap_of_exec (X := (mkXh 2 [] [(75, F155.ans)])) (R := ⟨.heap, [], [(.h 1 0, .blk E5)], ⟨[], [[.own 1 0], [U]]⟩⟩) (h := .z) (ms := []) (p := ((x1.n ≤ 400000000000) ∧ ((g155 ((x0 : ByteArray).size : Int) x1).n + (x0 : ByteArray).size ≤ 549755813888))) (mkXh_ok trivial ⟨k155, trivial⟩) Tryz.func76 rfl rfl rfl (by kernel_rfl) (have ⟨hq0, hq1⟩ := hp; ⟨(by omega), (by have := len155 ((x0 : ByteArray).size : Int) x1; omega)⟩)
theorem k156 : XHOk Tryz.prog 76 F156.ans := Hq.ok ⟨_, _, Tryz.func76, rfl, by kernel_rfl⟩ (by kernel_rfl) pc156
theorem len156 (x0 : ByteArray) (x1 : Sl Int) : (g156 x0 x1).n = x1.n + 1 + x0.size := rfl
end Go.Proofs.YtchhfojblmceiaaGreat
/-
  Walks: what functions of the program answer, as functions.
-/
namespace Go.Proofs.YtchhfojblmceiaaGreat
open Go Go.Vc Go.RowKit
set_option maxRecDepth 100000
set_option maxHeartbeats 4000000
noncomputable def g194_l1 : Nat → Int → Int → Sl Int → Sl Int
  | 0, _, _, _ => default
  | k + 1, v1_0, v1_1, v1_2 => (bif (decide (v1_1 ≥ 0)) then (g194_l1 k (IntKind.i64.wrap (v1_0.tdiv 256)) (IntKind.i64.wrap (v1_1 - 1)) (Sl.upd v1_2 (Int.toNat v1_1) (IntKind.u8.wrap (v1_0.tmod 256)))) else v1_2)
noncomputable def g194_r1 (x0 : Int) : Sl Int := g194_l1 ((Int.toNat (7 + 1)) + 1) (IntKind.i64.wrap (x0 + 4611686018427387904)) 7 (Sl.rep (Int.toNat 8) (0 : Int))
noncomputable def g194 (x0 : Int) : Sl Int := (g194_r1 x0)
theorem len194 (x0 : Int) : (g194 x0).n = 8 := by kernel_rfl
noncomputable def g195 (x0 : ByteArray) : Sl Int := (g109 (Sl.lit ([(IntKind.u8.wrap ((x0 : ByteArray).size : Int))] : List Int)) (Sl.ofStr x0))
theorem len195 (x0 : ByteArray) : x0.size ≤ 10000000000 → (g195 x0).n = x0.size + 1 := fun h => by
  unfold g195
  rw [len109 _ _ (by simp only [Sl.lit_n, Sl.ofStr, List.length_cons, List.length_nil]; omega)]
  simp only [Sl.lit_n, Sl.ofStr, List.length_cons, List.length_nil]; omega
end Go.Proofs.YtchhfojblmceiaaGreat
namespace Go.Proofs.YtchhfojblmceiaaGreat
open Go Go.Vc Go.RowKit
set_option maxRecDepth 100000
theorem g112_eq (n l h : Int) : g112 n l h = (decide (n ≥ l) && decide (n ≤ h)) := by
  unfold g112 g112_m1; cases decide (n ≥ l) <;> rfl
theorem g118_eq (x : ByteArray) : g115 x = g118 x := by
  unfold g118 g115 g115_m1; rw [g112_eq]; cases decide ((x.size : Int) ≥ 1) <;> rfl
theorem g116_eq (x : ByteArray) : g116 x = g113 x := rfl
theorem g117_eq (x : Int) : g117 x = g114 x := by
  unfold g117 g117_m1 g114; rw [g112_eq]; cases decide (x ≥ (-1099511627776)) <;> rfl
theorem g119_eq (x : Int) : g119 x = g120 x := by
  unfold g119 g119_m1 g120; rw [g112_eq]; cases decide (x ≥ 1) <;> rfl
end Go.Proofs.YtchhfojblmceiaaGreat
namespace Go.Proofs.YtchhfojblmceiaaGreat
open Go Go.Vc Go.RowKit
set_option maxRecDepth 100000
set_option maxHeartbeats 4000000
theorem copy73_3 (s : Sl T160) (h : Canon s) (hn : s.n ≤ 549755813888) : g73_3 s = s := copy_id (g73_l1 s) s h hn fun _ _ _ => rfl
theorem copy73_4 (s : Sl ByteArray) (h : Canon s) (hn : s.n ≤ 549755813888) : g73_4 s = s := copy_id (g73_l7 s) s h hn fun _ _ _ => rfl
theorem copy73_5 (s : Sl T164) (h : Canon s) (hn : s.n ≤ 549755813888) : g73_5 s = s := copy_id (g73_l13 s) s h hn fun _ _ _ => rfl
-- the program's
theorem a110 (s : Sl ByteArray) (hn : s.n ≤ 549755813888) : g110_132 s = hit (fun i => !(g113 (s.at' (Int.toNat i)))) s.n 0 :=
  idx_hit _ _ _ (scan0 (g192_132_l1 s) s.n (fun i => !(g113 (s.at' (Int.toNat i)))) (fun i => i) hn fun _ _ => rfl)
theorem a133 (s : Sl T160) (hn : s.n ≤ 549755813888) : g133_134 s = hit (fun i => g134 (s.at' (Int.toNat i)).c0 (s.at' (Int.toNat i)).c1) s.n 0 :=
  idx_hit _ _ _ (scan0 (g196_134_l1 s) s.n (fun i => g134 (s.at' (Int.toNat i)).c0 (s.at' (Int.toNat i)).c1) (fun i => i) hn fun _ _ => rfl)
theorem a135 (s : Sl T164) (hn : s.n ≤ 549755813888) : g135_136 s = hit (fun i => !(g113 (s.at' (Int.toNat i)).c0)) s.n 0 :=
  idx_hit _ _ _ (scan0 (g197_136_l1 s) s.n (fun i => !(g113 (s.at' (Int.toNat i)).c0)) (fun i => i) hn fun _ _ => rfl)
theorem a137 (s : Sl T164) (hn : s.n ≤ 549755813888) : g135_137 s = hit (fun i => !(g117 (s.at' (Int.toNat i)).c1)) s.n 0 :=
  idx_hit _ _ _ (scan0 (g197_137_l1 s) s.n (fun i => !(g117 (s.at' (Int.toNat i)).c1)) (fun i => i) hn fun _ _ => rfl)
theorem a144 (s : Sl T164) (x : ByteArray) (hn : s.n ≤ 549755813888) : decide (g144 s x ≥ 0) = hit (fun i => (s.at' (Int.toNat i)).c0.toList == x.toList) s.n 0 :=
  idx_hit _ _ _ (scan0 (g197_201s_l1 s x) s.n (fun i => (s.at' (Int.toNat i)).c0.toList == x.toList) (fun i => i) hn fun _ _ => rfl)
theorem a147 (s : Sl T164) (x : ByteArray) (hn : s.n ≤ 549755813888) : decide (g147 s x ≥ 0) = hit (fun i => (s.at' (Int.toNat i)).c0.toList == x.toList) s.n 0 :=
  idx_hit _ _ _ (scan0 (g147_l1 s x) s.n (fun i => (s.at' (Int.toNat i)).c0.toList == x.toList) (fun i => i) hn fun _ _ => rfl)
noncomputable def o3 (s : Sl T160) : Bool := hit (fun i => !(Op.bytesLess (s.at' (Int.toNat (IntKind.i64.wrap (i - 1)))).c0.toList (s.at' (Int.toNat i)).c0.toList)) (s.n - 1) 1
noncomputable def o4 (s : Sl ByteArray) : Bool := hit (fun i => !(Op.bytesLess (s.at' (Int.toNat (IntKind.i64.wrap (i - 1)))).toList (s.at' (Int.toNat i)).toList)) (s.n - 1) 1
noncomputable def o5 (s : Sl T164) : Bool := hit (fun i => !(g146 (s.at' (Int.toNat (IntKind.i64.wrap (i - 1)))).c0 (s.at' (Int.toNat (IntKind.i64.wrap (i - 1)))).c1 (s.at' (Int.toNat i)).c0 (s.at' (Int.toNat i)).c1)) (s.n - 1) 1
noncomputable def same (s : Sl T164) (i : Int) : Bool := hit (fun j => ((Sl.part s 0 i).at' (Int.toNat j)).c0.toList == (s.at' (Int.toNat i)).c0.toList) (Sl.part s 0 i).n 0
theorem rise {F : Bool × Bool} {bad : Int → Bool} {m : Nat} (h : F = scan bad (fun _ => false) m 1) : (bif (bif F.1 then false else true) then true else F.2) = !(hit bad m 1) := by
  rw [h, scan_const]
  cases hit bad m 1 <;> rfl
theorem c139 (a b : ByteArray) : decide (g139 a b ≥ 0) = !(Op.bytesLess a.toList b.toList) := cmp_less a b
theorem a138 (s : Sl T160) (hn : s.n ≤ 549755813888) : g138_139 s = !(o3 s) := by
  refine (rise (scanG (g138_139_l1 s) s.n (fun i => decide (g139 (s.at' (Int.toNat (IntKind.i64.wrap (i - 1)))).c0 (s.at' (Int.toNat i)).c0 ≥ 0)) (fun _ => false) hn fun _ _ => rfl)).trans ?_
  congr 1
  exact hit_congr _ _ fun j _ _ => c139 _ _
theorem a142 (s : Sl ByteArray) (hn : s.n ≤ 549755813888) : g142_143 s = !(o4 s) := by
  refine (rise (scanG (g142_143_l1 s) s.n (fun i => decide (g143 (s.at' (Int.toNat (IntKind.i64.wrap (i - 1)))) (s.at' (Int.toNat i)) ≥ 0)) (fun _ => false) hn fun _ _ => rfl)).trans ?_
  congr 1
  exact hit_congr _ _ fun j _ _ => cmp_less _ _
theorem e198 (a b : Int) : g198 (Sl.lit [a, b]) = bif a != 0 then a else b := by
  have h : g198_r1 (Sl.lit [a, b]) = scan (fun i => (Sl.lit [a, b]).at' (Int.toNat i) != 0) (fun i => (Sl.lit [a, b]).at' (Int.toNat i)) 2 0 :=
    scan0 (g198_l1 (Sl.lit [a, b])) 2 _ _ (by omega) fun _ _ => rfl
  have e0 : (Sl.lit [a, b]).at' (Int.toNat 0) = a := rfl
  have e1 : (Sl.lit [a, b]).at' (Int.toNat (0 + 1)) = b := rfl
  simp only [g198, g198_p2, h, scan, e0, e1]
  cases h1 : (a != 0)
  · cases h2 : (b != 0)
    · have : b = 0 := by simpa [bne] using h2
      subst this; rfl
    · rfl
  · rfl
theorem e199 (a b : Int) : g199 a b = bif decide (a < b) then -1 else bif decide (a > b) then 1 else 0 := by
  simp [g199, g225]
theorem c141 (a : ByteArray) (x : Int) (b : ByteArray) (y : Int) : decide (g141 a x b y ≥ 0) = !(g146 a x b y) := by
  simp only [g141, e198, e199, g146]
  by_cases h1 : x < y
  · have h2 : x ≠ y := by omega
    simp [h1, h2]
  · by_cases h2 : x > y
    · have h3 : x ≠ y := by omega
      simp [h1, h2, h3]
    · have h3 : x = y := by omega
      subst h3
      have e1 : decide (x < x) = false := by simp
      have e2 : decide (x > x) = false := by simp
      have e3 : (x != x) = false := by simp
      rw [e1, e3]
      exact cmp_less a b
theorem a140 (s : Sl T164) (hn : s.n ≤ 549755813888) : g140_141 s = !(o5 s) := by
  refine (rise (scanG (g140_141_l1 s) s.n (fun i => decide (g141 (s.at' (Int.toNat (IntKind.i64.wrap (i - 1)))).c0 (s.at' (Int.toNat (IntKind.i64.wrap (i - 1)))).c1 (s.at' (Int.toNat i)).c0 (s.at' (Int.toNat i)).c1 ≥ 0)) (fun _ => false) hn fun _ _ => rfl)).trans ?_
  congr 1
  exact hit_congr _ _ fun j _ _ => c141 _ _ _ _
theorem fall {F : Bool × Int} {bad : Int → Bool} {c : Int} {m : Nat} {i : Int} (h : F = scan bad (fun _ => c) m i) (X : Int) : (bif (bif F.1 then false else true) then X else F.2) = bif hit bad m i then c else X := by
  rw [h, scan_const]
  cases hit bad m i <;> rfl
theorem u4 (s : Sl ByteArray) (hn : s.n ≤ 549755813888) : g74_r4 s = scan (fun i => !(g113 (s.at' (Int.toNat i)))) (fun _ => 1) s.n 0 :=
  scan0 (g74_l56 s) s.n _ _ hn fun _ _ => rfl
theorem u8 (s : Sl T160) (hn : s.n ≤ 549755813888) : g74_r8 s = scan (fun i => g134 (s.at' (Int.toNat i)).c0 (s.at' (Int.toNat i)).c1) (fun _ => 1) s.n 0 :=
  scan0 (g74_l63 s) s.n _ _ hn fun k i => by
    have : g74_m7 s i = g134 (s.at' (Int.toNat i)).c0 (s.at' (Int.toNat i)).c1 := by
      simp only [g74_m7, g134, g134_m1, g118_eq, g116_eq]
    show (bif decide (i < (s.n : Int)) then (bif (g74_m7 s i) then (true, 1) else _) else _) = _
    rw [this]
theorem u10 (s : Sl T164) (hn : s.n ≤ 549755813888) : g74_r10 s = scan (fun i => !(g113 (s.at' (Int.toNat i)).c0)) (fun _ => 1) s.n 0 :=
  scan0 (g74_l74 s) s.n _ _ hn fun _ _ => rfl
theorem u12 (s : Sl T164) (hn : s.n ≤ 549755813888) : g74_r12 s = scan (fun i => !(g117 (s.at' (Int.toNat i)).c1)) (fun _ => 2) s.n 0 :=
  scan0 (g74_l82 s) s.n _ _ hn fun k i => by
    simp only [g117_eq]; rfl
theorem u14 (s : Sl T160) (hn : s.n ≤ 549755813888) : g74_r14 s = scan (fun i => !(Op.bytesLess (s.at' (Int.toNat (IntKind.i64.wrap (i - 1)))).c0.toList (s.at' (Int.toNat i)).c0.toList)) (fun _ => 10) (s.n - 1) 1 :=
  scanG (g74_l89 s) s.n _ _ hn fun _ _ => rfl
theorem u18 (x : Int) (s : Sl ByteArray) (hn : s.n ≤ 549755813888) (X : Int) : (bif g74_p19 x s then X else (g74_r18 x s).2) = bif (x == 5 && o4 s) then 10 else X := by
  cases hx : (x == 5) with
  | false =>
    have : g74_r18 x s = (false, default) := by
      show (bif (bif decide ((1 : Int) < (s.n : Int)) then (x == 5) else false) then _ else _) = _
      rw [hx]; cases decide ((1 : Int) < (s.n : Int)) <;> rfl
    simp only [g74_p19, this]; rfl
  | true =>
    have : g74_r18 x s = scan (fun i => !(Op.bytesLess (s.at' (Int.toNat (IntKind.i64.wrap (i - 1)))).toList (s.at' (Int.toNat i)).toList)) (fun _ => 10) (s.n - 1) 1 :=
      scanG (g74_l96 x s) s.n _ _ hn fun k i => by
        have : g74_m17 x s i = decide (i < (s.n : Int)) := by
          simp only [g74_m17, hx]; cases decide (i < (s.n : Int)) <;> rfl
        show (bif g74_m17 x s i then _ else _) = _
        rw [this]
    exact fall this X
theorem part_n {α : Type} [Inhabited α] (s : Sl α) (i : Int) (h0 : 0 ≤ i) (h1 : i ≤ s.n) : ((Sl.part s 0 i).n : Int) = i := by
  simp [Sl.part]; omega
theorem u22 (s : Sl T164) (hn : s.n ≤ 1048576) : g74_r22 s = scan (fun i => !(g146 (s.at' (Int.toNat (IntKind.i64.wrap (i - 1)))).c0 (s.at' (Int.toNat (IntKind.i64.wrap (i - 1)))).c1 (s.at' (Int.toNat i)).c0 (s.at' (Int.toNat i)).c1) || decide (g147 (Sl.part s 0 i) (s.at' (Int.toNat i)).c0 ≥ 0)) (fun _ => 10) (s.n - 1) 1 :=
  scanG (g74_l107 s) s.n _ _ (by omega) fun k i => by
    have : g74_m21 s i = (!(g146 (s.at' (Int.toNat (IntKind.i64.wrap (i - 1)))).c0 (s.at' (Int.toNat (IntKind.i64.wrap (i - 1)))).c1 (s.at' (Int.toNat i)).c0 (s.at' (Int.toNat i)).c1) || decide (g147 (Sl.part s 0 i) (s.at' (Int.toNat i)).c0 ≥ 0)) := by
      simp only [g74_m21]
      cases g146 (s.at' (Int.toNat (IntKind.i64.wrap (i - 1)))).c0 (s.at' (Int.toNat (IntKind.i64.wrap (i - 1)))).c1 (s.at' (Int.toNat i)).c0 (s.at' (Int.toNat i)).c1 <;> rfl
    show (bif decide (i < (s.n : Int)) then (bif (g74_m21 s i) then (true, 10) else _) else _) = _
    rw [this]
theorem same147 (s : Sl T164) (i : Int) (h0 : 0 ≤ i) (h1 : i < s.n) (hn : s.n ≤ 1048576) : decide (g147 (Sl.part s 0 i) (s.at' (Int.toNat i)).c0 ≥ 0) = same s i := by
  have := part_n s i h0 (by omega)
  exact a147 _ _ (by omega)
theorem same144 (s : Sl T164) (i : Int) (h0 : 0 ≤ i) (h1 : i < s.n) (hn : s.n ≤ 1048576) : decide (g144 (Sl.part s 0 i) (s.at' (Int.toNat i)).c0 ≥ 0) = same s i := by
  have := part_n s i h0 (by omega)
  exact a144 _ _ (by omega)
theorem o22 (s : Sl T164) (hn : s.n ≤ 1048576) (X : Int) : (bif g74_p23 s then X else (g74_r22 s).2) = bif (o5 s || hit (same s) (s.n - 1) 1) then 10 else X := by
  refine (fall (u22 s hn) X).trans ?_
  rw [hit_or]
  rw [show hit (fun i => decide (g147 (Sl.part s 0 i) (s.at' (Int.toNat i)).c0 ≥ 0)) (s.n - 1) 1 = hit (same s) (s.n - 1) 1 from hit_congr _ _ fun j h1 h2 => same147 s j (by omega) (by omega) hn]
  rfl
theorem l23 (s : Sl T164) (hn : s.n ≤ 1048576) : ∀ (m k : Nat) (b : Bool) (i : Int), 0 ≤ i → i + (m : Int) = s.n → m ≤ k → g72_l29 s (k + 1) b i = (b && !(hit (same s) m i))
  | 0, k, b, i, h0, hi, hk => by
    show (bif decide (i < (s.n : Int)) then _ else b) = _
    rw [show decide (i < (s.n : Int)) = false by simp; omega]
    simp [hit]
  | m + 1, k, b, i, h0, hi, hk => by
    obtain ⟨k, rfl⟩ : ∃ k', k = k' + 1 := ⟨k - 1, by omega⟩
    show (bif decide (i < (s.n : Int)) then g72_l29 s (k + 1) (g72_m12 s b i) (IntKind.i64.wrap (i + 1)) else b) = _
    rw [show decide (i < (s.n : Int)) = true by simp; omega]
    simp only [cond_true]
    rw [wrap64 (by omega) (by omega), l23 s hn m k _ (i + 1) (by omega) (by omega) (by omega)]
    have e : decide (g144 (Sl.part s 0 i) (s.at' (Int.toNat i)).c0 < 0) = !(same s i) := by
      rw [← same144 s i h0 (by omega) hn]
      by_cases h : g144 (Sl.part s 0 i) (s.at' (Int.toNat i)).c0 < 0
      · have : ¬ (0 ≤ g144 (Sl.part s 0 i) (s.at' (Int.toNat i)).c0) := by omega
        simp [h, this]
      · have : 0 ≤ g144 (Sl.part s 0 i) (s.at' (Int.toNat i)).c0 := by omega
        simp [h, this]
    simp only [g72_m12, e, hit]
    cases b <;> cases same s i <;> simp
theorem l23z (s : Sl T164) (hn : s.n ≤ 1048576) : hit (same s) s.n 0 = hit (same s) (s.n - 1) 1 := by
  rcases Nat.eq_zero_or_pos s.n with h | h
  · rw [h]; rfl
  · obtain ⟨m, hm⟩ : ∃ m, s.n = m + 1 := ⟨s.n - 1, by omega⟩
    rw [hm]
    show (same s 0 || hit (same s) m (0 + 1)) = hit (same s) (m + 1 - 1) 1
    have : same s 0 = false := by
      have h := part_n s 0 (Int.le_refl _) (by omega)
      have h : (Sl.part s 0 0).n = 0 := by omega
      simp only [same]
      rw [h]; rfl
    rw [this]; rfl
theorem e15 (x : Int) (s3 : Sl T160) (s4 : Sl ByteArray) (s5 : Sl T164) (h3 : s3.n ≤ 1048576) (h4 : s4.n ≤ 1048576) (h5 : s5.n ≤ 1048576) : g72_r15 x s3 s4 s5 = (!(o3 s3) && !(o5 s5) && (!(x == 5) || !(o4 s4)) && !(hit (same s5) (s5.n - 1) 1)) := by
  rw [← l23z s5 h5]
  unfold g72_r15
  rw [l23 s5 h5 s5.n _ _ 0 (Int.le_refl _) (by omega) (by omega)]
  simp only [g72_m11, a138 s3 (by omega), a140 s5 (by omega), a142 s4 (by omega), bne]
  cases o3 s3 <;> cases o5 s5 <;> cases x == 5 <;> cases o4 s4 <;> rfl
theorem sum_eq (s3 : Sl T160) (s4 : Sl ByteArray) (s5 : Sl T164) (h3 : s3.n ≤ 1048576) (h4 : s4.n ≤ 1048576) (h5 : s5.n ≤ 1048576) : g131 s3 s4 s5 = (s3.n : Int) + s4.n + s5.n := by
  unfold g131
  rw [wrap64 (x := (s3.n : Int) + s4.n) (by omega) (by omega), wrap64 (by omega) (by omega)]
theorem sum_eq' (s3 : Sl T160) (s4 : Sl ByteArray) (s5 : Sl T164) (h3 : s3.n ≤ 1048576) (h4 : s4.n ≤ 1048576) (h5 : s5.n ≤ 1048576) : g145 s3 s4 s5 = (s3.n : Int) + s4.n + s5.n := sum_eq s3 s4 s5 h3 h4 h5
theorem sum_pos (s3 : Sl T160) (s4 : Sl ByteArray) (s5 : Sl T164) (h3 : s3.n ≤ 1048576) (h4 : s4.n ≤ 1048576) (h5 : s5.n ≤ 1048576) : decide (g131 s3 s4 s5 > 0) = (decide ((s3.n : Int) > 0) || decide ((s4.n : Int) > 0) || decide ((s5.n : Int) > 0)) := by
  rw [sum_eq _ _ _ h3 h4 h5, Bool.eq_iff_iff]
  simp only [Bool.or_eq_true, decide_eq_true_eq]
  omega
theorem forms (x0 : Int) (x1 : ByteArray) (x2 : Int) (s3 : Sl T160) (s4 : Sl ByteArray) (s5 : Sl T164) (h3 : s3.n ≤ 1048576) (h4 : s4.n ≤ 1048576) (h5 : s5.n ≤ 1048576) (h : 1 ≤ x0 ∧ x0 ≤ 6) : g72_m7 x0 x1 x2 s3 s4 s5 = g74_m2 x0 x1 x2 s3 s4 s5 := by
  have hx : x0 = 1 ∨ x0 = 2 ∨ x0 = 3 ∨ x0 = 4 ∨ x0 = 5 ∨ x0 = 6 := by omega
  unfold g72_m7 g74_m2
  have hz {α : Type} [Inhabited α] : decide ((((nilSl : Sl α).n : Nat) : Int) > 0) = false := rfl
  have b3 : (g72_m4 x0 s3).n ≤ 1048576 := by
    unfold g72_m4; cases x0 == 1 <;> cases x0 == 2 <;> cases x0 == 3 <;> simp [nilSl, h3]
  have b4 : (g72_m5 x0 s4).n ≤ 1048576 := by
    unfold g72_m5; cases x0 == 1 <;> cases x0 == 2 <;> cases x0 == 3 <;> cases x0 == 6 <;> simp [nilSl, h4]
  have b5 : (g72_m6 x0 s5).n ≤ 1048576 := by
    unfold g72_m6; cases x0 == 1 <;> cases x0 == 2 <;> cases x0 == 3 <;> cases x0 == 6 <;> simp [nilSl, h5]
  rw [sum_pos _ _ _ b3 b4 b5]
  unfold g72_m2 g72_m3 g72_m4 g72_m5 g72_m6 g74_m1
  clear b3 b4 b5
  have he : (ByteArray.toList ⟨#[]⟩ == ByteArray.toList ⟨#[]⟩) = true := by simp
  rcases hx with rfl | rfl | rfl | rfl | rfl | rfl <;>
    simp only [Int.reduceBEq, beq_self_eq_true, bne, cond_true, cond_false, Bool.not_true, Bool.not_false, he, hz] <;>
    (generalize decide ((s3.n : Int) > 0) = a3; generalize decide ((s4.n : Int) > 0) = a4; generalize decide ((s5.n : Int) > 0) = a5
     generalize (x1.toList == ByteArray.toList ⟨#[]⟩) = e1; generalize (x2 == 0) = e2
     revert a3 a4 a5 e1 e2; decide)
theorem g72_eq (x0 : Int) (x1 : ByteArray) (x2 : Int) (s3 : Sl T160) (s4 : Sl ByteArray) (s5 : Sl T164) (h3 : s3.n ≤ 1048576) (h4 : s4.n ≤ 1048576) (h5 : s5.n ≤ 1048576) : g72 x0 x1 x2 s3 s4 s5 = g74 x0 x1 x2 s3 s4 s5 := by
  unfold g72 g74
  have hm : g72_m1 x0 = !(g112 x0 1 6) := by
    rw [g112_eq]; unfold g72_m1
    by_cases h1 : x0 < 1
    · have : ¬ (x0 ≥ 1) := by omega
      simp [h1, this]
    · by_cases h2 : x0 > 6
      · have : ¬ (x0 ≤ 6) := by omega
        simp [h2, this]
      · have : x0 ≥ 1 := by omega
        have : x0 ≤ 6 := by omega
        simp [*]
  rw [hm]
  cases hr : g112 x0 1 6 with
  | false => rfl
  | true =>
    simp only [Bool.not_true, cond_false]
    have hr : 1 ≤ x0 ∧ x0 ≤ 6 := by simpa [g112_eq] using hr
    rw [forms x0 x1 x2 s3 s4 s5 h3 h4 h5 hr]
    cases g74_m2 x0 x1 x2 s3 s4 s5
    · simp only [cond_false]
      have f4 := fun X => fall (u4 s4 (by omega)) X
      have f8 := fun X => fall (u8 s3 (by omega)) X
      have f10 := fun X => fall (u10 s5 (by omega)) X
      have f12 := fun X => fall (u12 s5 (by omega)) X
      have f14 := fun X => fall (u14 s3 (by omega)) X
      have f18 := fun X => u18 x0 s4 (by omega) X
      have f22 := fun X => o22 s5 h5 X
      simp only [g74_p5, g74_p9, g74_p11, g74_p13, g74_p15, f4, f8, f10, f12, f14, f18, f22]
      have hs : g112 (g145 s3 s4 s5) 1 20 = !(bif decide (g131 s3 s4 s5 < 1) then true else decide (g131 s3 s4 s5 > 20)) := by
        rw [sum_eq _ _ _ h3 h4 h5, sum_eq' _ _ _ h3 h4 h5, g112_eq]
        generalize (s3.n : Int) + s4.n + s5.n = t
        by_cases h1 : t < 1
        · have : ¬ (t ≥ 1) := by omega
          simp [h1, this]
        · by_cases h2 : t > 20
          · have : ¬ (t ≤ 20) := by omega
            simp [h2, this]
          · have : t ≥ 1 := by omega
            have : t ≤ 20 := by omega
            simp [*]
      simp only [g74_m3, g72_m8, g72_m9, g72_m10, hs, a110 s4 (by omega), a133 s3 (by omega), a135 s5 (by omega), a137 s5 (by omega), e15 x0 s3 s4 s5 h3 h4 h5, g116_eq, g117_eq]
      have ho : hit (fun i => !(Op.bytesLess (s3.at' (Int.toNat (IntKind.i64.wrap (i - 1)))).c0.toList (s3.at' (Int.toNat i)).c0.toList)) (s3.n - 1) 1 = o3 s3 := rfl
      rw [ho]
      generalize (bif decide (g131 s3 s4 s5 < 1) then true else decide (g131 s3 s4 s5 > 20)) = b1
      generalize g113 x1 = b2
      generalize g114 x2 = b3
      generalize hit _ s4.n 0 = b4
      generalize hit _ s3.n 0 = b5
      generalize hit (fun i => !(g113 _)) s5.n 0 = b6
      generalize hit _ s5.n 0 = b7
      generalize o3 s3 = b8
      generalize o4 s4 = b9
      generalize o5 s5 = b10
      generalize hit _ (s5.n - 1) 1 = b11
      generalize (x0 == 5) = b12
      cases decide (x0 ≥ 3) <;> cases b1 <;> cases b2 <;> try rfl
      all_goals (cases b4 <;> cases b5 <;> cases b6 <;> cases b3 <;> cases b7 <;> try rfl)
      all_goals (cases b8 <;> cases b9 <;> cases b10 <;> cases b11 <;> cases b12 <;> rfl)
    · rfl
end Go.Proofs.YtchhfojblmceiaaGreat
namespace Go.Vc
open Go Go.RowKit
theorem copy_idc {α : Type} [Inhabited α] (F : Nat → Int → Sl α → Sl α) (s : Sl α) (f : Int → α) (hs : Canon s) (hn : s.n ≤ 549755813888) (hf : ∀ i : Nat, i < s.n → f (i : Int) = s.at' i) (hF : ∀ k i t, F (k + 1) i t = bif decide (i < (s.n : Int)) then F k (IntKind.i64.wrap (i + 1)) (Sl.app t (Sl.lit [f i])) else t) :
    F (Int.toNat ((s.n : Int) - 0) + 1) 0 nilSl = s := by
  rw [copyL F s.n f hn hF s.n _ 0 nilSl Canon.nil (Int.le_refl _) (by omega) (by omega), nil_app]
  refine Canon.eq (Canon.tab _ _ _) hs rfl fun i hi => ?_
  have hi : i < s.n := hi
  simp only [tab, blt_t hi, cond_true]
  rw [show (0 : Int) + (i : Int) = (i : Int) by omega]
  exact hf i hi
theorem bif_or {α : Type} (a b : Bool) (x y : α) : (bif a then x else bif b then x else y) = bif (a || b) then x else y := by cases a <;> rfl
end Go.Vc
namespace Go.Proofs.YtchhfojblmceiaaGreat
open Go Go.Vc Go.RowKit
set_option maxRecDepth 100000
set_option maxHeartbeats 4000000
theorem copy79 (s : Sl T175) (h : Canon s) (hn : s.n ≤ 549755813888) (hw : ∀ i, i < s.n → W175 (s.at' i)) : g79_1 s = s := by
  refine copy_idc (g79_l1 s) s (fun i => ⟨(s.at' (Int.toNat i)).c0, g73_0 (s.at' (Int.toNat i)).c1, g73_1 (s.at' (Int.toNat i)).c2, g73_2 (s.at' (Int.toNat i)).c3, g73_3 (s.at' (Int.toNat i)).c4, g73_4 (s.at' (Int.toNat i)).c5, g73_5 (s.at' (Int.toNat i)).c6, (s.at' (Int.toNat i)).c7⟩) h hn (fun i hi => ?_) fun _ _ _ => rfl
  obtain ⟨⟨a1, a2⟩, ⟨b1, b2⟩, c1, c2⟩ := hw i hi
  simp only [Int.toNat_natCast, g73_0, g73_1, g73_2]
  rw [copy73_3 _ a1 (by omega), copy73_4 _ b1 (by omega), copy73_5 _ c1 (by omega)]
theorem n118 (x : ByteArray) (b : Bool) : (bif !(g118 x) then true else b) = (bif decide ((x.size : Int) < 1) then true else bif decide ((x.size : Int) > 12) then true else b) := by
  have : (!(g118 x)) = (decide ((x.size : Int) < 1) || decide ((x.size : Int) > 12)) := by
    unfold g118
    rw [g112_eq]
    by_cases h1 : (x.size : Int) < 1
    · have : ¬ ((x.size : Int) ≥ 1) := by omega
      simp only [h1, this, decide_true, decide_false, Bool.false_and, Bool.not_false, Bool.true_or]
    · by_cases h2 : (x.size : Int) > 12
      · have : ¬ ((x.size : Int) ≤ 12) := by omega
        simp only [h2, this, decide_true, decide_false, Bool.and_false, Bool.not_false, Bool.or_true]
      · have h3 : (x.size : Int) ≥ 1 := by omega
        have h4 : (x.size : Int) ≤ 12 := by omega
        simp only [h1, h2, h3, h4, decide_true, decide_false, Bool.and_true, Bool.not_true, Bool.or_false]
  rw [this]
  cases decide ((x.size : Int) < 1) <;> cases decide ((x.size : Int) > 12) <;> rfl
theorem until_eq (x u : Int) (h : 0 ≤ x) : (bif (!(g112 u 0 1073741824)) then true else decide (u ≤ x)) = (bif decide (u ≤ x) then true else decide (u > 1073741824)) := by
  rw [g112_eq]
  by_cases h1 : u ≤ x
  · simp [h1]
  · have h2 : u ≥ 0 := by omega
    by_cases h3 : u > 1073741824
    · have : ¬ (u ≤ 1073741824) := by omega
      simp [h1, h3, this]
    · have : u ≤ 1073741824 := by omega
      simp [h1, h2, h3, this]
theorem e78 (x0 : Int) (s : Sl T175) (h0 : 0 ≤ x0) (hn : s.n ≤ 549755813888) (hw : ∀ i, i < s.n → W175 (s.at' i)) : g78_r10 x0 s = g80_r8 x0 s := by
  have hl : g78_r10 x0 s = scan (fun i => g78_m7 s i || g78_m9 x0 s i) (fun _ => 13) s.n 0 := scan0 (g78_l5 x0 s) s.n _ _ hn fun k i => by
    show (bif decide (i < (s.n : Int)) then (bif (g78_m7 s i) then (true, 13) else (bif (g78_m9 x0 s i) then (true, 13) else g78_l5 x0 s k (IntKind.i64.wrap (i + 1)))) else (false, default)) = _
    rw [bif_or]
  have hr : g80_r8 x0 s = scan (fun i => g80_m5 s i || g80_m7 x0 s i) (fun _ => 13) s.n 0 := scan0 (g80_l4 x0 s) s.n _ _ hn fun k i => by
    show (bif decide (i < (s.n : Int)) then (bif (g80_m5 s i) then (true, 13) else (bif (g80_m7 x0 s i) then (true, 13) else g80_l4 x0 s k (IntKind.i64.wrap (i + 1)))) else (false, default)) = _
    rw [bif_or]
  rw [hl, hr]
  refine scan_congr _ _ (fun j j0 j1 => ?_) fun _ _ _ => rfl
  obtain ⟨⟨_, a2⟩, ⟨_, b2⟩, _, c2⟩ := hw (Int.toNat j) (by omega)
  have e5 : g80_m5 s j = g78_m7 s j := by
    simp only [g80_m5, g78_m7]
    rw [g72_eq _ _ _ _ _ _ a2 b2 c2]
    exact n118 _ _
  have e7 : g80_m7 x0 s j = g78_m9 x0 s j := by
    simp only [g80_m7, g78_m9]
    rw [until_eq _ _ h0]
  rw [e5, e7]
theorem g78_eq (x0 : Int) (s : Sl T175) (hn : s.n ≤ 549755813888) (hw : ∀ i, i < s.n → W175 (s.at' i)) : g78 x0 s = g80 x0 s := by
  unfold g78 g80
  have hm : g78_m1 x0 s = g80_m1 x0 s := by
    unfold g78_m1 g80_m1
    rw [g112_eq]
    by_cases h1 : x0 < 0
    · have : ¬ (x0 ≥ 0) := by omega
      simp [h1, this]
    · have h3 : x0 ≥ 0 := by omega
      by_cases h2 : x0 > 1073741824
      · have : ¬ (x0 ≤ 1073741824) := by omega
        simp [h2, this]
      · have : x0 ≤ 1073741824 := by omega
        simp [h1, h2, h3, this]
  rw [hm]
  cases h : g80_m1 x0 s with
  | true => rfl
  | false =>
    have h0 : 0 ≤ x0 := by
      unfold g80_m1 at h
      rw [g112_eq] at h
      by_cases h3 : x0 ≥ 0
      · exact h3
      · simp [h3] at h
    simp only [g78_p11, g80_p9, e78 x0 s h0 hn hw]
end Go.Proofs.YtchhfojblmceiaaGreat
namespace Go.Proofs.YtchhfojblmceiaaGreat
open Go Go.Vc Go.RowKit
set_option maxRecDepth 100000
theorem scan192 (s : Sl ByteArray) (hn : s.n ≤ 549755813888) : g192_111_r1 s = scan (fun i => g111 (s.at' (Int.toNat i))) (fun i => i) s.n 0 := scan0 (g192_111_l1 s) s.n _ _ hn fun _ _ => rfl
theorem scan44 (s : Sl ByteArray) (hn : s.n ≤ 549755813888) : g44_r2 s = scan (fun i => !(g113 (s.at' (Int.toNat i)))) (fun _ => 1) s.n 0 := scan0 (g44_l5 s) s.n _ _ hn fun _ _ => rfl
theorem t111 (s : ByteArray) : g111 s = !(g113 s) := by
  simp only [g111, g113]
  by_cases h : (s.size : Int) > 20 <;> simp [h] <;> omega
theorem g42_eq (x0 : Int) (x1 : ByteArray) (x2 : Int) (x3 : Sl ByteArray) (hm : x3.n ≤ 1048576) : g42 x0 x1 x2 x3 = g44 x0 x1 x2 x3 := by
  have hn : x3.n ≤ 549755813888 := by omega
  have h1 : g110_111 x3 = (g44_r2 x3).1 := by
    simp only [g110_111, g192_111, g192_111_p2]
    have e : (g192_111_r1 x3).1 = (g44_r2 x3).1 := by
      rw [scan192 x3 hn, scan44 x3 hn, scan_fst _ _ (fun _ => (1 : Int))]
      congr 1
      exact scan_congr _ _ (fun j _ _ => t111 _) (fun _ _ _ => rfl)
    rw [← e]
    rcases Bool.eq_false_or_eq_true (g192_111_r1 x3).1 with h | h
    · have h4 : 0 ≤ (g192_111_r1 x3).2 := by
        rw [scan192 x3 hn] at h ⊢
        obtain ⟨j, h1, h2, _, h4⟩ := scan_snd _ _ h
        rw [h4]; exact h1
      simp [h, h4]
    · simp [h]
  have h2 : (g44_r2 x3).1 = true → (g44_r2 x3).2 = 1 := fun h => by
    rw [scan44 x3 hn] at h ⊢
    obtain ⟨j, _, _, _, h4⟩ := scan_snd _ _ h
    exact h4
  simp only [g42, g44, h1, g44_p3]
  have e0 : g42_m1 x0 = !(g112 x0 0 13) := by
    simp only [g42_m1, g112, g112_m1]
    by_cases h1 : x0 < 0 <;> by_cases h2 : x0 > 13 <;> simp [h1, h2] <;> omega
  have e1 : g42_m2 x1 x3 = g44_m1 x1 x3 := by
    simp only [g42_m2, g44_m1, ← t111]
    rfl
  have e2 : g42_m3 x2 = !(g114 x2) := by
    simp only [g42_m3, g114, g112, g112_m1]
    by_cases h1 : x2 < -1099511627776 <;> by_cases h2 : x2 > 1099511627776 <;> simp [h1, h2] <;> omega
  rw [e0, e1, e2]
  cases g112 x0 0 13 <;> cases g44_m1 x1 x3 <;> cases h3 : (g44_r2 x3).1 <;> cases g114 x2 <;> simp <;> exact (h2 h3).symm
end Go.Proofs.YtchhfojblmceiaaGreat
namespace Go.Proofs.YtchhfojblmceiaaGreat
open Go Go.Vc Go.RowKit
set_option maxRecDepth 100000
set_option maxHeartbeats 4000000
theorem copy152 (s : Sl ByteArray) (h : Canon s) (hn : s.n ≤ 549755813888) : g152_3 s = s := copy_id (g152_l1 s) s h hn fun _ _ _ => rfl
theorem copy85 (s : Sl T137) (h : Canon s) (hn : s.n ≤ 549755813888) (hw : ∀ i, i < s.n → W137 (s.at' i)) : g85_3 s = s := by
  refine copy_idc (g85_l1 s) s (fun i => ⟨(s.at' (Int.toNat i)).c0, (s.at' (Int.toNat i)).c1, (s.at' (Int.toNat i)).c2, g152_0 (s.at' (Int.toNat i)).c3, g152_1 (s.at' (Int.toNat i)).c4, g152_2 (s.at' (Int.toNat i)).c5, g152_3 (s.at' (Int.toNat i)).c6⟩) h hn (fun i hi => ?_) fun _ _ _ => rfl
  obtain ⟨a1, a2⟩ := hw i hi
  simp only [Int.toNat_natCast, g152_0, g152_1, g152_2]
  rw [copy152 _ a1 (by omega)]
theorem in_not (n l h : Int) : (!(g112 n l h)) = (decide (n < l) || decide (n > h)) := by
  rw [g112_eq]
  by_cases h1 : n < l
  · have : ¬ (n ≥ l) := by omega
    simp [h1, this]
  · by_cases h2 : n > h
    · have : ¬ (n ≤ h) := by omega
      simp [h2, this]
    · have h3 : n ≥ l := by omega
      have h4 : n ≤ h := by omega
      simp [h1, h2, h3, h4]
theorem e84 (x0 x2 : Int) (s : Sl T137) (hx : x2 ≤ 1048577) (hn : s.n ≤ 549755813888) (hw : ∀ i, i < s.n → W137 (s.at' i)) : g84_r14 x0 x2 s = g86_r12 x0 x2 s := by
  have hl : g84_r14 x0 x2 s = scan (fun i => g84_m5 x2 s i || g84_m13 x0 s i) (fun _ => 13) s.n 0 := scan0 (g84_l6 x0 x2 s) s.n _ _ hn fun k i => by
    show (bif decide (i < (s.n : Int)) then (bif (g84_m5 x2 s i) then (true, 13) else (bif (g84_m13 x0 s i) then (true, 13) else g84_l6 x0 x2 s k (IntKind.i64.wrap (i + 1)))) else (false, default)) = _
    rw [bif_or]
  have hr : g86_r12 x0 x2 s = scan (fun i => g86_m11 x0 x2 s i) (fun _ => 13) s.n 0 := scan0 (g86_l5 x0 x2 s) s.n _ _ hn fun k i => rfl
  rw [hl, hr]
  refine scan_congr _ _ (fun j j0 j1 => ?_) fun _ _ _ => rfl
  obtain ⟨_, a2⟩ := hw (Int.toNat j) (by omega)
  simp only [g86_m11, g84_m5, g84_m13, g120, in_not, g42_eq _ _ _ _ a2]
  generalize (s.at' (Int.toNat j)).c0 = a
  generalize (s.at' (Int.toNat j)).c1 = b
  generalize (s.at' (Int.toNat j)).c2 = c
  generalize (s.at' (Int.toNat (IntKind.i64.wrap (j - 1)))).c0 = d
  generalize (g44 _ _ _ _ != 0) = e
  have h1 : (decide (a < 1) || decide (a > 1048576) || decide (a ≥ x2)) = (decide (a < 1) || decide (a ≥ x2)) := by
    by_cases h : a > 1048576
    · have : a ≥ x2 := by omega
      simp [h, this]
    · simp [h]
  revert h1
  generalize decide (a < 1) = p1
  generalize decide (a > 1048576) = p2
  generalize decide (a ≥ x2) = p3
  generalize decide (b < 0) = p4
  generalize decide (b > 1048576) = p5
  generalize decide (c < 0) = p6
  generalize decide (c > x0) = p7
  generalize decide (j > 0) = p8
  generalize decide (d ≥ a) = p9
  cases p1 <;> cases p2 <;> cases p3 <;> intro h1 <;> first | (cases h1; done) | skip
  all_goals cases p4 <;> cases p5 <;> cases p6 <;> cases p7 <;> cases p8 <;> cases p9 <;> cases e <;> rfl
theorem g84_eq (x0 : Int) (s1 : Sl T175) (x2 : Int) (s3 : Sl T137) (h1 : s1.n ≤ 549755813888) (w1 : ∀ i, i < s1.n → W175 (s1.at' i)) (h3 : s3.n ≤ 549755813888) (w3 : ∀ i, i < s3.n → W137 (s3.at' i)) : g84 x0 s1 x2 s3 = g86 x0 s1 x2 s3 := by
  unfold g84 g86
  have hm : g84_m1 x0 s1 x2 s3 = g86_m1 x0 s1 x2 s3 := by
    simp only [g84_m1, g86_m1, g78_eq x0 s1 h1 w1, in_not]
    cases decide (x2 < 1) <;> cases decide (x2 > 1048577) <;> rfl
  rw [hm]
  cases h : g86_m1 x0 s1 x2 s3 with
  | true => rfl
  | false =>
    have hx : x2 ≤ 1048577 := by
      simp only [g86_m1, in_not] at h
      by_cases h3 : x2 > 1048577
      · simp [h3] at h
      · omega
    simp only [g84_p15, g86_p13, e84 x0 x2 s3 hx h3 w3]
end Go.Proofs.YtchhfojblmceiaaGreat
namespace Go.Proofs.YtchhfojblmceiaaGreat
open Go Go.Vc Go.RowKit
set_option maxRecDepth 100000
set_option maxHeartbeats 4000000
theorem hit_no {bad : Int → Bool} : ∀ (m : Nat) (i : Int), hit bad m i = false → ∀ j : Int, i ≤ j → j < i + m → bad j = false
  | 0, i, _, j, h1, h2 => by omega
  | m + 1, i, h, j, h1, h2 => by
    simp only [hit, Bool.or_eq_false_iff] at h
    by_cases e : j = i
    · rw [e]; exact h.1
    · exact hit_no m (i + 1) h.2 j (by omega) (by omega)
theorem hit_nat {bad : Int → Bool} {n : Nat} (h : hit bad n 0 = false) (i : Nat) (hi : i < n) : bad (i : Int) = false := hit_no n 0 h i (by omega) (by omega)
theorem bz {b : Bool} {c X : Int} (h : (bif b then c else X) = 0) (hc : c ≠ 0) : b = false ∧ X = 0 := by
  cases b with
  | true => exact absurd h hc
  | false => exact ⟨rfl, h⟩
theorem bt {a b : Bool} (h : (bif a then true else b) = false) : a = false ∧ b = false := by
  cases a with
  | true => simp at h
  | false => exact ⟨rfl, h⟩
theorem df {p : Prop} [Decidable p] (h : decide p = false) : ¬ p := of_decide_eq_false h
def VOK (x1 : ByteArray) (x2 : Int) (x3 : Sl T160) (x4 : Sl ByteArray) (x5 : Sl T164) : Prop :=
  (x1.size ≤ 20 ∧ -1099511627776 ≤ x2 ∧ x2 ≤ 1099511627776) ∧ (x3.n ≤ 20 ∧ x4.n ≤ 20 ∧ x5.n ≤ 20) ∧ (∀ i, i < x3.n → (x3.at' i).c0.size ≤ 20 ∧ (x3.at' i).c1.size ≤ 20) ∧ (∀ i, i < x4.n → (x4.at' i).size ≤ 20) ∧ (∀ i, i < x5.n → (x5.at' i).c0.size ≤ 20 ∧ -1099511627776 ≤ (x5.at' i).c1 ∧ (x5.at' i).c1 ≤ 1099511627776)
def TOK (x : Sl ByteArray) : Prop := x.n ≤ 20 ∧ ∀ i, i < x.n → (x.at' i).size ≤ 20
def EOK (x : T175) : Prop := x.c0.size ≤ 20 ∧ VOK x.c2 x.c3 x.c4 x.c5 x.c6 ∧ 0 ≤ x.c7 ∧ x.c7 ≤ 1073741824
def KOK (x : T137) : Prop := ((0 ≤ x.c0 ∧ x.c0 ≤ 1048577) ∧ (0 ≤ x.c1 ∧ x.c1 ≤ 1048576) ∧ (0 ≤ x.c2 ∧ x.c2 ≤ 1073741824)) ∧ ((0 ≤ x.c3 ∧ x.c3 ≤ 13) ∧ x.c4.size ≤ 20 ∧ -1099511627776 ≤ x.c5 ∧ x.c5 ≤ 1099511627776) ∧ TOK x.c6
def MOK (x0 : Int) (x1 : Sl T175) (x2 : Int) (x3 : Sl T137) : Prop := ((0 ≤ x0 ∧ x0 ≤ 1073741824) ∧ (1 ≤ x2 ∧ x2 ≤ 1048577) ∧ x1.n ≤ 12 ∧ x3.n ≤ 4) ∧ (∀ i, i < x1.n → EOK (x1.at' i)) ∧ (∀ i, i < x3.n → KOK (x3.at' i))
theorem vok_t {x1 : ByteArray} {x2 : Int} {x3 : Sl T160} {x4 : Sl ByteArray} {x5 : Sl T164} (h : VOK x1 x2 x3 x4 x5) : TOK x4 := ⟨h.2.1.2.1, h.2.2.2.1⟩
def CE (s : Sl T175) : Prop := Canon s ∧ s.n ≤ 1048576 ∧ ∀ i, i < s.n → W175 (s.at' i)
def CC (s : Sl T137) : Prop := Canon s ∧ s.n ≤ 1048576 ∧ ∀ i, i < s.n → W137 (s.at' i)
theorem ce79 {s : Sl T175} (h : CE s) : g79_1 s = s := copy79 s h.1 (by have := h.2.1; omega) h.2.2
theorem cc85 {s : Sl T137} (h : CC s) : g85_3 s = s := copy85 s h.1 (by have := h.2.1; omega) h.2.2
theorem ce85 {s : Sl T175} (h : CE s) : CE (g85_1 s) := by
  show CE (g79_1 s)
  rw [ce79 h]; exact h
theorem cc85' {s : Sl T137} (h : CC s) : CC (g85_3 s) := by rw [cc85 h]; exact h
theorem s113 {x : ByteArray} (h : (!(g113 x)) = false) : x.size ≤ 20 := by
  unfold g113 at h
  by_cases a : (x.size : Int) ≤ 20
  · omega
  · simp [a] at h
theorem s115 {x : ByteArray} (h : (!(g115 x)) = false) : x.size ≤ 20 := by
  unfold g115 g115_m1 at h
  by_cases a : (x.size : Int) ≤ 12
  · omega
  · simp [a] at h
theorem s117 {x : Int} (h : (!(g117 x)) = false) : -1099511627776 ≤ x ∧ x ≤ 1099511627776 := by
  unfold g117 g117_m1 at h
  by_cases a : x ≥ -1099511627776
  · by_cases b : x ≤ 1099511627776
    · omega
    · simp [b] at h
  · simp [a] at h
theorem a111 (s : Sl ByteArray) (hn : s.n ≤ 549755813888) : g110_111 s = hit (fun i => g111 (s.at' (Int.toNat i))) s.n 0 := idx_hit _ _ _ (scan192 s hn)
theorem chk42 (x0 : Int) (x1 : ByteArray) (x2 : Int) (x3 : Sl ByteArray) (hn : x3.n ≤ 1048576) (h : g42 x0 x1 x2 x3 = 0) : ((0 ≤ x0 ∧ x0 ≤ 13) ∧ x1.size ≤ 20 ∧ -1099511627776 ≤ x2 ∧ x2 ≤ 1099511627776) ∧ TOK x3 := by
  unfold g42 at h
  obtain ⟨a1, h⟩ := bz h (by decide)
  obtain ⟨a2, h⟩ := bz h (by decide)
  obtain ⟨a3, h⟩ := bz h (by decide)
  obtain ⟨a4, _⟩ := bz h (by decide)
  unfold g42_m1 at a1; unfold g42_m2 at a2; unfold g42_m3 at a4
  obtain ⟨b1, b2⟩ := bt a1
  obtain ⟨b3, b4⟩ := bt a2
  obtain ⟨b5, b6⟩ := bt a4
  have c1 := df b1; have c2 := df b2; have c3 := df b3; have c4 := df b4; have c5 := df b5; have c6 := df b6
  refine ⟨⟨⟨by omega, by omega⟩, by omega, by omega, by omega⟩, by omega, fun i hi => ?_⟩
  rw [a111 _ (by omega)] at a3
  have := hit_nat a3 i hi
  simp only [Int.toNat_natCast, g111] at this
  have := df this
  omega
theorem chk72 (x0 : Int) (x1 : ByteArray) (x2 : Int) (s3 : Sl T160) (s4 : Sl ByteArray) (s5 : Sl T164) (h3 : s3.n ≤ 1048576) (h4 : s4.n ≤ 1048576) (h5 : s5.n ≤ 1048576) (h : g72 x0 x1 x2 s3 s4 s5 = 0) : VOK x1 x2 s3 s4 s5 := by
  unfold g72 at h
  obtain ⟨a1, h⟩ := bz h (by decide)
  obtain ⟨a2, h⟩ := bz h (by decide)
  obtain ⟨a3, h⟩ := bz h (by decide)
  obtain ⟨a4, h⟩ := bz h (by decide)
  obtain ⟨a5, h⟩ := bz h (by decide)
  obtain ⟨a6, h⟩ := bz h (by decide)
  obtain ⟨a7, _⟩ := bz h (by decide)
  have hs : s3.n ≤ 20 ∧ s4.n ≤ 20 ∧ s5.n ≤ 20 := by
    unfold g72_m1 at a1
    obtain ⟨b1, b2⟩ := bt a1
    have c1 := df b1
    have c2 := df b2
    by_cases e1 : x0 = 1
    · subst e1
      unfold g72_m7 g72_m4 g72_m5 g72_m6 at a2
      simp only [beq_self_eq_true, cond_true] at a2
      obtain ⟨_, a2⟩ := bt a2
      obtain ⟨_, a2⟩ := bt a2
      rw [sum_eq _ _ _ h3 h4 h5] at a2
      have := df a2
      omega
    · by_cases e2 : x0 = 2
      · subst e2
        unfold g72_m7 g72_m4 g72_m5 g72_m6 at a2
        simp only [beq_self_eq_true, Int.reduceBEq, cond_true, cond_false] at a2
        obtain ⟨_, a2⟩ := bt a2
        obtain ⟨_, a2⟩ := bt a2
        rw [sum_eq _ _ _ h3 h4 h5] at a2
        have := df a2
        omega
      · unfold g72_m8 at a3
        rw [decide_eq_true (show x0 ≥ 3 by omega)] at a3
        simp only [cond_true] at a3
        obtain ⟨_, a3⟩ := bt a3
        rw [sum_eq _ _ _ h3 h4 h5] at a3
        have := df a3
        omega
  unfold g72_m9 at a4
  obtain ⟨b1, b2⟩ := bt a4
  unfold g72_m10 at a7
  obtain ⟨b3, b4⟩ := bt a7
  rw [a110 _ (by omega)] at b2
  rw [a133 _ (by omega)] at a5
  rw [a135 _ (by omega)] at a6
  rw [a137 _ (by omega)] at b4
  refine ⟨⟨s113 b1, s117 b3⟩, hs, fun i hi => ?_, fun i hi => ?_, fun i hi => ?_⟩
  · have := hit_nat a5 i hi
    simp only [Int.toNat_natCast, g134, g134_m1] at this
    obtain ⟨c1, c2⟩ := bt this
    exact ⟨s115 c1, s113 c2⟩
  · have := hit_nat b2 i hi
    simp only [Int.toNat_natCast] at this
    exact s113 this
  · have t1 := hit_nat a6 i hi
    have t2 := hit_nat b4 i hi
    simp only [Int.toNat_natCast] at t1 t2
    exact ⟨s113 t1, s117 t2⟩
theorem chk78 (x0 : Int) (s : Sl T175) (hc : CE s) (h : g78 x0 s = 0) : ((0 ≤ x0 ∧ x0 ≤ 1073741824) ∧ s.n ≤ 12) ∧ ∀ i, i < s.n → EOK (s.at' i) := by
  have hn := hc.2.1
  unfold g78 at h
  obtain ⟨a1, h⟩ := bz h (by decide)
  unfold g78_m1 at a1
  obtain ⟨b1, a1⟩ := bt a1
  obtain ⟨b2, b3⟩ := bt a1
  have c1 := df b1; have c2 := df b2; have c3 := df b3
  have hl : g78_r10 x0 s = scan (fun i => g78_m7 s i || g78_m9 x0 s i) (fun _ => 13) s.n 0 := scan0 (g78_l5 x0 s) s.n _ _ (by omega) fun k i => by
    show (bif decide (i < (s.n : Int)) then (bif (g78_m7 s i) then (true, 13) else (bif (g78_m9 x0 s i) then (true, 13) else g78_l5 x0 s k (IntKind.i64.wrap (i + 1)))) else (false, default)) = _
    rw [bif_or]
  unfold g78_p11 at h
  rw [fall hl] at h
  obtain ⟨hh, _⟩ := bz h (by decide)
  refine ⟨⟨⟨by omega, by omega⟩, by omega⟩, fun i hi => ?_⟩
  have q := hit_nat hh i hi
  simp only [Bool.or_eq_false_iff] at q
  obtain ⟨q1, q2⟩ := q
  obtain ⟨⟨_, w1⟩, ⟨_, w2⟩, _, w3⟩ := hc.2.2 i hi
  unfold g78_m7 at q1
  unfold g78_m9 at q2
  simp only [Int.toNat_natCast] at q1 q2
  obtain ⟨d1, q1⟩ := bt q1
  obtain ⟨d2, q1⟩ := bt q1
  obtain ⟨d3, q1⟩ := bt q1
  have e2 := df d2
  refine ⟨by omega, chk72 _ _ _ _ _ _ w1 w2 w3 (bne_eq_false_iff_eq.1 d3), ?_⟩
  by_cases z : (s.at' i).c7 = 0
  · rw [z]; omega
  · rw [show ((s.at' i).c7 != 0) = true by simp [z]] at q2
    simp only [cond_true] at q2
    obtain ⟨d4, d5⟩ := bt q2
    have := df d4
    have := df d5
    omega
theorem chk84 (x0 : Int) (x1 : Sl T175) (x2 : Int) (x3 : Sl T137) (hc : CE x1) (hk : CC x3) (h : g84 x0 x1 x2 x3 = 0) : MOK x0 x1 x2 x3 := by
  have hn := hk.2.1
  unfold g84 at h
  obtain ⟨a1, h⟩ := bz h (by decide)
  unfold g84_m1 at a1
  obtain ⟨b1, a1⟩ := bt a1
  obtain ⟨b2, a1⟩ := bt a1
  obtain ⟨b3, b4⟩ := bt a1
  have c2 := df b2; have c3 := df b3; have c4 := df b4
  obtain ⟨⟨m1, m2⟩, m3⟩ := chk78 x0 x1 hc (bne_eq_false_iff_eq.1 b1)
  have hl : g84_r14 x0 x2 x3 = scan (fun i => g84_m5 x2 x3 i || g84_m13 x0 x3 i) (fun _ => 13) x3.n 0 := scan0 (g84_l6 x0 x2 x3) x3.n _ _ (by omega) fun k i => by
    show (bif decide (i < (x3.n : Int)) then (bif (g84_m5 x2 x3 i) then (true, 13) else (bif (g84_m13 x0 x3 i) then (true, 13) else g84_l6 x0 x2 x3 k (IntKind.i64.wrap (i + 1)))) else (false, default)) = _
    rw [bif_or]
  unfold g84_p15 at h
  rw [fall hl] at h
  obtain ⟨hh, _⟩ := bz h (by decide)
  refine ⟨⟨m1, ⟨by omega, by omega⟩, m2, by omega⟩, m3, fun i hi => ?_⟩
  have q := hit_nat hh i hi
  simp only [Bool.or_eq_false_iff] at q
  obtain ⟨q1, q2⟩ := q
  unfold g84_m5 at q1
  unfold g84_m13 at q2
  simp only [Int.toNat_natCast] at q1 q2
  obtain ⟨d1, q1⟩ := bt q1
  obtain ⟨d2, _⟩ := bt q1
  obtain ⟨d3, q2⟩ := bt q2
  obtain ⟨d4, q2⟩ := bt q2
  obtain ⟨d5, q2⟩ := bt q2
  obtain ⟨d6, q2⟩ := bt q2
  have e1 := df d1; have e2 := df d2; have e3 := df d3; have e4 := df d4; have e5 := df d5; have e6 := df d6
  obtain ⟨k1, k2⟩ := chk42 _ _ _ _ (hk.2.2 i hi).2 (bne_eq_false_iff_eq.1 q2)
  exact ⟨⟨⟨by omega, by omega⟩, ⟨by omega, by omega⟩, ⟨by omega, by omega⟩⟩, k1, k2⟩
end Go.Proofs.YtchhfojblmceiaaGreat
namespace Go.Proofs.YtchhfojblmceiaaGreat
open Go Go.Vc Go.RowKit
set_option maxRecDepth 100000
theorem e47 (x0 : Int) (x1 x2 x3 : ByteArray) (x4 : Int) : (g47 x0 x1 x2 x3 x4 == g48 x0 x1 x2 x3 x4) = true := by
  by_cases h : 1 ≤ x0 ∧ x0 ≤ 22
  · have hx : x0 = 1 ∨ x0 = 2 ∨ x0 = 3 ∨ x0 = 4 ∨ x0 = 5 ∨ x0 = 6 ∨ x0 = 7 ∨ x0 = 8 ∨ x0 = 9 ∨ x0 = 10 ∨ x0 = 11 ∨ x0 = 12 ∨ x0 = 13 ∨ x0 = 14 ∨ x0 = 15 ∨ x0 = 16 ∨ x0 = 17 ∨ x0 = 18 ∨ x0 = 19 ∨ x0 = 20 ∨ x0 = 21 ∨ x0 = 22 := by omega
    unfold g47 g48 g47_m9 g47_m8 g47_m7 g47_m6 g47_m5 g47_m4 g47_m3 g47_m2 g47_m1 g48_m4 g48_m3 g48_m2 g48_m1
    simp only [g118_eq, g116_eq, g117_eq, g112_eq]
    generalize g118 x1 = b1
    generalize g118 x2 = b2
    generalize g113 x3 = b3
    generalize g114 x4 = b4
    rcases hx with rfl | rfl | rfl | rfl | rfl | rfl | rfl | rfl | rfl | rfl | rfl | rfl | rfl | rfl | rfl | rfl | rfl | rfl | rfl | rfl | rfl | rfl <;>
    simp only [Int.reduceBEq, Int.reduceLE, Int.reduceLT, ge_iff_le, gt_iff_lt, decide_true, decide_false, Bool.and_true, Bool.true_and, Bool.and_false, cond_true, cond_false, Bool.not_true, Bool.not_false, beq_self_eq_true, bne] <;>
    (generalize (x1.toList == ByteArray.toList ⟨#[]⟩) = e1; generalize (x2.toList == ByteArray.toList ⟨#[]⟩) = e2; generalize (x3.toList == ByteArray.toList ⟨#[]⟩) = e3; generalize (x4 == 0) = e4
     revert e1 e2 e3 e4 b1 b2 b3 b4; decide)
  · unfold g47 g48 g47_m1
    have h1 : g112 x0 1 22 = false := by rw [g112_eq]; simp; omega
    have h2 : (bif decide (x0 < 1) then true else decide (x0 > 22)) = true := by
      by_cases h3 : x0 < 1
      · simp [h3]
      · simp [h3]; omega
    rw [h1, h2]; rfl
theorem g47_eq (x0 : Int) (x1 x2 x3 : ByteArray) (x4 : Int) : g47 x0 x1 x2 x3 x4 = g48 x0 x1 x2 x3 x4 := eq_of_beq (e47 x0 x1 x2 x3 x4)
theorem g49_eq (x0 x1 x2 : Int) (x3 x4 x5 : ByteArray) (x6 : Int) : g49 x0 x1 x2 x3 x4 x5 x6 = g50 x0 x1 x2 x3 x4 x5 x6 := by
  unfold g49 g50 g49_m1 g50_m1 g50_m2
  rw [g47_eq]
  simp only [g119_eq, bne]
  cases x0 == 0
  · rfl
  · simp only [cond_true, Bool.true_and]
    cases x1 == 0 <;> simp
theorem g51_eq (x0 x1 : Int) (x2 : Bool) (x3 x4 x5 : Int) (x6 x7 x8 : ByteArray) (x9 : Int) : g51 x0 x1 x2 x3 x4 x5 x6 x7 x8 x9 = g52 x0 x1 x2 x3 x4 x5 x6 x7 x8 x9 := by
  unfold g51 g52
  have h : g51_m1 x0 x1 = g52_m1 x0 x1 := by
    unfold g51_m1 g52_m1 g120
    simp only [g112_eq]
    by_cases a : x0 < 1
    · have : ¬ (1 ≤ x0) := by omega
      simp [a, this]
    · have a' : 1 ≤ x0 := by omega
      by_cases b : x0 > 1048576
      · have : ¬ (x0 ≤ 1048576) := by omega
        simp [b, this]
      · have b' : x0 ≤ 1048576 := by omega
        by_cases c : x1 < 0
        · have : ¬ (0 ≤ x1) := by omega
          simp [a, b, c, a', b', this]
        · have c' : 0 ≤ x1 := by omega
          by_cases d : x1 > 1073741824
          · have : ¬ (x1 ≤ 1073741824) := by omega
            simp [a, b, c, d, a', b', c', this]
          · have d' : x1 ≤ 1073741824 := by omega
            simp [a, b, c, d, a', b', c', d']
  rw [h, g49_eq]
  cases g52_m1 x0 x1 <;> cases x2 <;> rfl
end Go.Proofs.YtchhfojblmceiaaGreat
namespace Go.Proofs.YtchhfojblmceiaaGreat
open Go Go.Vc Go.RowKit
set_option maxRecDepth 100000
def pb (x : Int) (s : Nat) : Int := IntKind.u8.wrap ((IntKind.u64.wrap (IntKind.i64.wrap (x + 4611686018427387904))) / 2 ^ s)
theorem B154 (x0 : Int) (x1 : Sl Int) : (g154 x0 x1).B = x1.B ++ [pb x0 56, pb x0 48, pb x0 40, pb x0 32, pb x0 24, pb x0 16, pb x0 8, pb x0 0] := by
  have h : g154 x0 x1 = Sl.app (Sl.app (Sl.app (Sl.app (Sl.app (Sl.app (Sl.app (Sl.app x1 (Sl.lit [pb x0 56])) (Sl.lit [pb x0 48])) (Sl.lit [pb x0 40])) (Sl.lit [pb x0 32])) (Sl.lit [pb x0 24])) (Sl.lit [pb x0 16])) (Sl.lit [pb x0 8])) (Sl.lit [pb x0 0]) := by kernel_rfl
  rw [h]
  simp only [B_app, B_lit, List.append_assoc, List.cons_append, List.nil_append]
def q256 (y : Int) : Nat → Int
  | 0 => y
  | k + 1 => IntKind.i64.wrap ((q256 y k).tdiv 256)
def rb (y : Int) (k : Nat) : Int := IntKind.u8.wrap ((q256 y k).tmod 256)
theorem B194 (x0 : Int) : (g194 x0).B = [rb (IntKind.i64.wrap (x0 + 4611686018427387904)) 7, rb (IntKind.i64.wrap (x0 + 4611686018427387904)) 6, rb (IntKind.i64.wrap (x0 + 4611686018427387904)) 5, rb (IntKind.i64.wrap (x0 + 4611686018427387904)) 4, rb (IntKind.i64.wrap (x0 + 4611686018427387904)) 3, rb (IntKind.i64.wrap (x0 + 4611686018427387904)) 2, rb (IntKind.i64.wrap (x0 + 4611686018427387904)) 1, rb (IntKind.i64.wrap (x0 + 4611686018427387904)) 0] := by
  generalize hy : IntKind.i64.wrap (x0 + 4611686018427387904) = y
  have h : g194 x0 = Sl.upd (Sl.upd (Sl.upd (Sl.upd (Sl.upd (Sl.upd (Sl.upd (Sl.upd (Sl.rep 8 0) 7 (rb (IntKind.i64.wrap (x0 + 4611686018427387904)) 0)) 6 (rb (IntKind.i64.wrap (x0 + 4611686018427387904)) 1)) 5 (rb (IntKind.i64.wrap (x0 + 4611686018427387904)) 2)) 4 (rb (IntKind.i64.wrap (x0 + 4611686018427387904)) 3)) 3 (rb (IntKind.i64.wrap (x0 + 4611686018427387904)) 4)) 2 (rb (IntKind.i64.wrap (x0 + 4611686018427387904)) 5)) 1 (rb (IntKind.i64.wrap (x0 + 4611686018427387904)) 6)) 0 (rb (IntKind.i64.wrap (x0 + 4611686018427387904)) 7) := by kernel_rfl
  rw [h, hy]
  simp only [B_upd, B_rep]
  rfl
theorem q256_eq (y : Int) (h0 : 0 ≤ y) (h1 : y < 9223372036854775808) : ∀ k, 0 ≤ q256 y k ∧ q256 y k ≤ y ∧ q256 y k = y / 2 ^ (8 * k)
  | 0 => ⟨h0, Int.le_refl _, by simp [q256]⟩
  | k + 1 => by
    obtain ⟨a, b, c⟩ := q256_eq y h0 h1 k
    have e1 : (q256 y k).tdiv 256 = q256 y k / 256 := Int.tdiv_eq_ediv_of_nonneg a
    have e2 : 0 ≤ q256 y k / 256 := by omega
    have e3 : q256 y k / 256 ≤ q256 y k := by omega
    have e4 : q256 y (k + 1) = q256 y k / 256 := by
      simp only [q256, e1]
      exact wrap64 (by omega) (by omega)
    refine ⟨by omega, by omega, ?_⟩
    rw [e4, c, Int.ediv_ediv_of_nonneg (Int.pow_nonneg (by omega)), show (256 : Int) = 2 ^ 8 by decide, ← Int.pow_add, show 8 * k + 8 = 8 * (k + 1) by omega]
theorem byte_eq (x : Int) (k : Nat) (h0 : 0 ≤ x + 4611686018427387904) (h1 : x + 4611686018427387904 < 9223372036854775808) : rb (IntKind.i64.wrap (x + 4611686018427387904)) k = pb x (8 * k) := by
  have hw : IntKind.i64.wrap (x + 4611686018427387904) = x + 4611686018427387904 := wrap64 (by omega) (by omega)
  have hu : IntKind.u64.wrap (x + 4611686018427387904) = x + 4611686018427387904 := by
    rw [IntKind.wrap_u64]; omega
  unfold rb pb
  rw [hw, hu]
  obtain ⟨a, b, c⟩ := q256_eq _ h0 h1 k
  rw [c] at a ⊢
  rw [IntKind.wrap_u8, IntKind.wrap_u8, Int.tmod_eq_emod_of_nonneg a]
  omega
theorem B194_eq (x0 : Int) (x1 : Sl Int) (h0 : 0 ≤ x0 + 4611686018427387904) (h1 : x0 + 4611686018427387904 < 9223372036854775808) : (g154 x0 x1).B = x1.B ++ (g194 x0).B := by
  rw [B154, B194]
  rw [byte_eq x0 7 h0 h1, byte_eq x0 6 h0 h1, byte_eq x0 5 h0 h1, byte_eq x0 4 h0 h1, byte_eq x0 3 h0 h1, byte_eq x0 2 h0 h1, byte_eq x0 1 h0 h1, byte_eq x0 0 h0 h1]
theorem B109 (x0 x1 : Sl Int) (h : x0.n + x1.n ≤ 549755813888) : (g109 x0 x1).B = x0.B ++ x1.B := by
  have h1 : (g109_r1 x0).B = [] ++ x0.B.drop 0 := copyB (g109_l1 x0) x0 (by omega) (fun _ _ _ => rfl) _ 0 nilSl (by omega) (by omega)
  have h2 : (g109_r2 x0 x1).B = (g109_r1 x0).B ++ x1.B.drop 0 := copyB (g109_l7 x1) x1 (by omega) (fun _ _ _ => rfl) _ 0 _ (by omega) (by omega)
  show (g109_r2 x0 x1).B = _
  rw [h2, h1]; rfl
theorem B195 (x : ByteArray) (h : x.size ≤ 10000000000) (w : Sl Int) : (g156 x w).B = w.B ++ (g195 x).B := by
  have h1 : (g195 x).B = [IntKind.u8.wrap (x.size : Int)] ++ (Sl.ofStr x).B := by
    unfold g195
    rw [B109 _ _ (by simp only [Sl.lit_n, Sl.ofStr, List.length_cons, List.length_nil]; omega), B_lit]
  rw [h1]
  unfold g156 g155
  rw [B_app, B_app, B_lit, List.append_assoc]
end Go.Proofs.YtchhfojblmceiaaGreat
namespace Go.Vc
open Go Go.RowKit
def cat {β : Type} (f : Nat → List β) : Nat → Nat → List β
  | 0, _ => []
  | m + 1, i => f i ++ cat f m (i + 1)
theorem cat_len {β : Type} {f : Nat → List β} {D : Nat} : ∀ m i, (∀ j, i ≤ j → j < i + m → (f j).length ≤ D) → (cat f m i).length ≤ m * D
  | 0, _, _ => by simp [cat]
  | m + 1, i, h => by
    simp only [cat, List.length_append]
    have h1 := h i (Nat.le_refl _) (by omega)
    have h2 := cat_len m (i + 1) fun j h1 h2 => h j (by omega) (by omega)
    rw [Nat.succ_mul]; omega
theorem loopB {α : Type} (F : Nat → Int → Sl α → Sl α) (n D L : Nat) (step : Int → Sl α → Sl α) (f : Nat → List α) (hn : n ≤ 549755813888)
    (hF : ∀ k i s, F (k + 1) i s = bif decide (i < (n : Int)) then F k (IntKind.i64.wrap (i + 1)) (step i s) else s)
    (hs : ∀ (i : Nat) (s : Sl α), i < n → s.n ≤ L + i * D → (step (i : Int) s).B = s.B ++ f i ∧ (f i).length ≤ D) :
    ∀ (m i : Nat) (s : Sl α), i + m = n → s.n ≤ L + i * D → (F (m + 1) (i : Int) s).B = s.B ++ cat f m i
  | 0, i, s, hm, hl => by
    rw [hF, decide_eq_false (show ¬ ((i : Int) < (n : Int)) by omega)]
    simp only [cond_false, cat, List.append_nil]
  | m + 1, i, s, hm, hl => by
    obtain ⟨h1, h2⟩ := hs i s (by omega) hl
    rw [hF, decide_eq_true (show (i : Int) < (n : Int) by omega)]
    simp only [cond_true]
    have hl' : (step (i : Int) s).n ≤ L + (i + 1) * D := by
      rw [← B_len, h1, List.length_append, B_len, Nat.succ_mul]; omega
    rw [wrap64 (by omega) (by omega), show (i : Int) + 1 = ((i + 1 : Nat) : Int) by omega, loopB F n D L step f hn hF hs m (i + 1) _ (by omega) hl', h1, List.append_assoc]
    rfl
theorem loopB0 {α : Type} (F : Nat → Int → Sl α → Sl α) (n D L : Nat) (step : Int → Sl α → Sl α) (f : Nat → List α) (hn : n ≤ 549755813888)
    (hF : ∀ k i s, F (k + 1) i s = bif decide (i < (n : Int)) then F k (IntKind.i64.wrap (i + 1)) (step i s) else s)
    (hs : ∀ (i : Nat) (s : Sl α), i < n → s.n ≤ L + i * D → (step (i : Int) s).B = s.B ++ f i ∧ (f i).length ≤ D) (s : Sl α) (hl : s.n ≤ L) :
    (F (Int.toNat ((n : Int) - 0) + 1) 0 s).B = s.B ++ cat f n 0 := by
  have := loopB F n D L step f hn hF hs n 0 s (by omega) (by omega)
  rw [show Int.toNat ((n : Int) - 0) = n by omega]
  exact this
end Go.Vc
namespace Go.Proofs.YtchhfojblmceiaaGreat
open Go Go.Vc Go.RowKit
noncomputable def nb (x : Int) : List Int := (g194 x).B
noncomputable def tb (x : ByteArray) : List Int := (g195 x).B
def sb (x : Int) : List Int := [IntKind.u8.wrap x]
theorem nb_len (x : Int) : (nb x).length = 8 := by unfold nb; rw [B_len, len194]
theorem tb_len (x : ByteArray) (h : x.size ≤ 10000000000) : (tb x).length = x.size + 1 := by unfold tb; rw [B_len, len195 x h]
theorem sb_len (x : Int) : (sb x).length = 1 := rfl
theorem w_nb {x : Int} (w : Sl Int) (h0 : -4611686018427387904 ≤ x) (h1 : x < 4611686018427387904) : (g154 x w).B = w.B ++ nb x := B194_eq x w (by omega) (by omega)
theorem w_tb {x : ByteArray} (w : Sl Int) (h : x.size ≤ 10000000000) : (g156 x w).B = w.B ++ tb x := B195 x h w
theorem w_sb (x : Int) (w : Sl Int) : (g155 x w).B = w.B ++ sb x := by unfold g155; rw [B_app, B_lit]; rfl
end Go.Proofs.YtchhfojblmceiaaGreat
/-
  Walks: what functions of the program answer, as functions.
-/
namespace Go.Proofs.YtchhfojblmceiaaGreat
open Go Go.Vc Go.RowKit
set_option maxRecDepth 100000
set_option maxHeartbeats 4000000
noncomputable def g158_l1 (x0 : Sl ByteArray) : Nat → Int → Sl Int → Sl Int
  | 0, _, _ => default
  | k + 1, v1_0, v1_1 => (bif (decide (v1_0 < (x0.n : Int))) then (g158_l1 x0 k (IntKind.i64.wrap (v1_0 + 1)) (g156 (x0.at' (Int.toNat v1_0)) v1_1)) else v1_1)
noncomputable def g158_r1 (x0 : Sl ByteArray) (x1 : Sl Int) : Sl Int := g158_l1 x0 ((Int.toNat ((x0.n : Int) - 0)) + 1) 0 (g155 (x0.n : Int) x1)
noncomputable def g158 (x0 : Sl ByteArray) (x1 : Sl Int) : Sl Int := (g158_r1 x0 x1)
noncomputable def F158 : Hq := ⟨[.p 0, .v (.sl E9)], [(.h 1 0, .blk E5)], [[.own 1 0], [U]], fun x0 x1 => ⟨⟨some (TOK x0 ∧ x1.n ≤ 250000000000), [], [[.own 1 ((g158 x0 x1)).n], [(Kd.blk E5).av (g158 x0 x1)]]⟩⟩⟩
theorem pc158 : HqOk Tryz.prog 78 F158 _ (F158.sh.flatMap Sh.bs) F158.f [] :=
  fun x0 n0 x1 n1 hp => heap_of_exec (X := (mkXh 2 [] [(75, F155.ans), (76, F156.ans)])) (R := ⟨.heap, [], [(.h 1 0, .blk E5)], ⟨[], [[.own 1 0], [U]]⟩⟩) (h := (.s .z (.s .z (.lp ⟨7169, [], [], [(.t 12, kI), (.h 1 0, .blk E5)], some 0, false, 0, [], [(.h 1 0, .blk E5)], fun k (s : Int × Sl Int) => g158_l1 x0 k s.1 s.2, .f, fun (s : Int × Sl Int) => (0 ≤ s.1 ∧ s.1 ≤ (x0.n : Int) ∧ ((s.2.n : Nat) : Int) ≤ ((x1.n : Nat) : Int) + 1 + s.1 * 21), fun (s : Int × Sl Int) => (Int.toNat ((x0.n : Int) - s.1)), none⟩ .z)))) (ms := []) (p := ((x1.n ≤ 400000000000) ∧ (((0 ≤ (0 : Int) ∧ (0 : Int) ≤ (x0.n : Int) ∧ (((g155 (x0.n : Int) x1).n : Nat) : Int) ≤ ((x1.n : Nat) : Int) + 1 + (0 : Int) * 21)) ∧ (∀ (v1_0 : Int) (v1_1 : Sl Int), (0 ≤ v1_0 ∧ v1_0 ≤ (x0.n : Int) ∧ ((v1_1.n : Nat) : Int) ≤ ((x1.n : Nat) : Int) + 1 + v1_0 * 21) → (((decide (v1_0 < (x0.n : Int))) = true → (((0 : Int) ≤ v1_0 ∧ v1_0 < ((x0.n : Nat) : Int)) ∧ (v1_1.n ≤ 300000000000 ∧ (x0.at' (Int.toNat v1_0)).size ≤ 10000000000))) ∧ ((decide (v1_0 < (x0.n : Int))) = true → ((0 ≤ (IntKind.i64.wrap (v1_0 + 1)) ∧ (IntKind.i64.wrap (v1_0 + 1)) ≤ (x0.n : Int) ∧ (((g156 (x0.at' (Int.toNat v1_0)) v1_1).n : Nat) : Int) ≤ ((x1.n : Nat) : Int) + 1 + (IntKind.i64.wrap (v1_0 + 1)) * 21) ∧ (Int.toNat ((x0.n : Int) - (IntKind.i64.wrap (v1_0 + 1)))) < (Int.toNat ((x0.n : Int) - v1_0))))))))) (mkXh_ok trivial ⟨k155, k156, trivial⟩) Tryz.func78 rfl rfl rfl (by kernel_rfl) (have ⟨hq0, hq1⟩ := hp; ⟨(by have := hq0.1; omega), ⟨(by have := hq0.1; have := len155 (x0.n : Int) x1; omega), (fun v1_0 v1_1 hI1 => ⟨(fun h2 => ⟨(by have := of_decide_eq_true h2; have := hq0.1; omega), (by have := of_decide_eq_true h2; have := hq0.1; have := hq0.2 (Int.toNat v1_0) (by omega); omega)⟩), (fun h3 => (by have := of_decide_eq_true h3; have := hq0.1; have := hq0.2 (Int.toNat v1_0) (by omega); have := len156 (x0.at' (Int.toNat v1_0)) v1_1; first | omega | (have := wrap64 (x := (v1_0 + 1)) (by omega) (by omega); omega)))⟩)⟩⟩)
theorem k158 : XHOk Tryz.prog 78 F158.ans := Hq.ok ⟨_, _, Tryz.func78, rfl, by kernel_rfl⟩ (by kernel_rfl) pc158
end Go.Proofs.YtchhfojblmceiaaGreat
namespace Go.Proofs.YtchhfojblmceiaaGreat
open Go Go.Vc Go.RowKit
set_option maxRecDepth 100000
noncomputable def tsb (l : Sl ByteArray) : List Int := sb (l.n : Int) ++ cat (fun i => tb (l.at' i)) l.n 0
theorem tb_le {x : ByteArray} (h : x.size ≤ 20) : (tb x).length ≤ 21 := by rw [tb_len x (by omega)]; omega
theorem tsb_len {l : Sl ByteArray} (h : TOK l) : (tsb l).length ≤ 421 := by
  unfold tsb
  have h1 := h.1
  have h2 := cat_len (f := fun i => tb (l.at' i)) (D := 21) l.n 0 fun j _ hj => tb_le (h.2 j (by omega))
  rw [List.length_append, sb_len]; omega
theorem B158 (l : Sl ByteArray) (w : Sl Int) (h : TOK l) : (g158 l w).B = w.B ++ tsb l := by
  have h1 : (g158 l w).B = (g155 (l.n : Int) w).B ++ cat (fun i => tb (l.at' i)) l.n 0 :=
    loopB0 (g158_l1 l) l.n 21 (w.n + 1) (fun i s => g156 (l.at' (Int.toNat i)) s) (fun i => tb (l.at' i)) (by have := h.1; omega) (fun _ _ _ => rfl) (fun i s hi _ => by
      have hz := h.2 i hi
      simp only [Int.toNat_natCast]
      exact ⟨w_tb s (by omega), tb_le hz⟩) _ (by rw [len155]; exact Nat.le_refl _)
  rw [h1, w_sb, List.append_assoc]; rfl
theorem len158 (x0 : Sl ByteArray) (x1 : Sl Int) (h : TOK x0) : (g158 x0 x1).n ≤ x1.n + 421 := by
  rw [← B_len, B158 _ _ h, List.length_append, B_len]
  have := tsb_len h
  omega
end Go.Proofs.YtchhfojblmceiaaGreat
/-
  Walks: what functions of the program answer, as functions.
-/
namespace Go.Proofs.YtchhfojblmceiaaGreat
open Go Go.Vc Go.RowKit
set_option maxRecDepth 100000
set_option maxHeartbeats 4000000
noncomputable def g157_l1 (x3 : Sl T160) : Nat → Int → Sl Int → Sl Int
  | 0, _, _ => default
  | k + 1, v1_0, v1_1 => (bif (decide (v1_0 < (x3.n : Int))) then (g157_l1 x3 k (IntKind.i64.wrap (v1_0 + 1)) (g156 (x3.at' (Int.toNat v1_0)).c1 (g156 (x3.at' (Int.toNat v1_0)).c0 v1_1))) else v1_1)
noncomputable def g157_r1 (x0 : Int) (x1 : ByteArray) (x2 : Int) (x3 : Sl T160) (x6 : Sl Int) : Sl Int := g157_l1 x3 ((Int.toNat ((x3.n : Int) - 0)) + 1) 0 (g155 (x3.n : Int) (g154 x2 (g156 x1 (g155 x0 x6))))
noncomputable def g157_l6 (x5 : Sl T164) : Nat → Int → Sl Int → Sl Int
  | 0, _, _ => default
  | k + 1, v6_0, v6_1 => (bif (decide (v6_0 < (x5.n : Int))) then (g157_l6 x5 k (IntKind.i64.wrap (v6_0 + 1)) (g154 (x5.at' (Int.toNat v6_0)).c1 (g156 (x5.at' (Int.toNat v6_0)).c0 v6_1))) else v6_1)
noncomputable def g157_r2 (x0 : Int) (x1 : ByteArray) (x2 : Int) (x3 : Sl T160) (x4 : Sl ByteArray) (x5 : Sl T164) (x6 : Sl Int) : Sl Int := g157_l6 x5 ((Int.toNat ((x5.n : Int) - 0)) + 1) 0 (g155 (x5.n : Int) (g158 x4 (g157_r1 x0 x1 x2 x3 x6)))
noncomputable def g157 (x0 : Int) (x1 : ByteArray) (x2 : Int) (x3 : Sl T160) (x4 : Sl ByteArray) (x5 : Sl T164) (x6 : Sl Int) : Sl Int := (g157_r2 x0 x1 x2 x3 x4 x5 x6)
noncomputable def F157 : Hq := ⟨[.p 0, .g [kI, kS, kI, .sl E160, .sl E9, .sl E164]], [(.h 1 0, .blk E5)], [[.own 1 0], [U]], fun (x0 : Int) x1 (x2 : Int) x3 x4 x5 x6 => ⟨⟨some (VOK x1 x2 x3 x4 x5 ∧ x6.n ≤ 200000000000), [], [[.own 1 ((g157 x0 x1 x2 x3 x4 x5 x6)).n], [(Kd.blk E5).av (g157 x0 x1 x2 x3 x4 x5 x6)]]⟩⟩⟩
theorem pc157 : HqOk Tryz.prog 77 F157 _ (F157.sh.flatMap Sh.bs) F157.f [] :=
  fun (x0 : Int) x1 n1 (x2 : Int) x3 n3 x4 n4 x5 n5 x6 n6 hp => heap_of_exec (X := (mkXh 2 [] [(74, F154.ans), (75, F155.ans), (76, F156.ans), (78, F158.ans)])) (R := ⟨.heap, [], [(.h 1 0, .blk E5)], ⟨[], [[.own 1 0], [U]]⟩⟩) (h := (.s .z (.s .z (.s .z (.s .z (.s .z (.j ⟨9, [], [], [], .f⟩ (.s .z (.lp ⟨469762057, [], [], [(.t 28, kI), (.h 1 0, .blk E5)], some 0, false, 9, [], [(.h 1 0, .blk E5)], fun k (s : Int × Sl Int) => g157_l1 x3 k s.1 s.2, .f, fun (s : Int × Sl Int) => (0 ≤ s.1 ∧ s.1 ≤ (x3.n : Int) ∧ ((s.2.n : Nat) : Int) ≤ ((x6.n : Nat) : Int) + 40 + s.1 * 42), fun (s : Int × Sl Int) => (Int.toNat ((x3.n : Int) - s.1)), some fun (r : Sl Int) => ((r.n : Nat) : Int) ≤ ((x6.n : Nat) : Int) + 880⟩ .z)) (.s .z (.s .z (.s .z (.lp ⟨15762598695796737, [.b 2], [], [(.t 53, kI), (.h 1 0, .blk E5)], some 2, false, 0, [], [(.h 1 0, .blk E5)], fun k (s : Int × Sl Int) => g157_l6 x5 k s.1 s.2, .f, fun (s : Int × Sl Int) => (0 ≤ s.1 ∧ s.1 ≤ (x5.n : Int) ∧ ((s.2.n : Nat) : Int) ≤ ((x6.n : Nat) : Int) + 1400 + s.1 * 29), fun (s : Int × Sl Int) => (Int.toNat ((x5.n : Int) - s.1)), none⟩ .z))))))))))) (ms := []) (p := ((x6.n ≤ 400000000000) ∧ (((g155 x0 x6).n ≤ 300000000000 ∧ x1.size ≤ 10000000000) ∧ (((g156 x1 (g155 x0 x6)).n ≤ 400000000000) ∧ (((g154 x2 (g156 x1 (g155 x0 x6))).n ≤ 400000000000) ∧ ((((0 ≤ (0 : Int) ∧ (0 : Int) ≤ (x3.n : Int) ∧ (((g155 (x3.n : Int) (g154 x2 (g156 x1 (g155 x0 x6)))).n : Nat) : Int) ≤ ((x6.n : Nat) : Int) + 40 + (0 : Int) * 42)) ∧ (∀ (v1_0 : Int) (v1_1 : Sl Int), (0 ≤ v1_0 ∧ v1_0 ≤ (x3.n : Int) ∧ ((v1_1.n : Nat) : Int) ≤ ((x6.n : Nat) : Int) + 40 + v1_0 * 42) → (((decide (v1_0 < (x3.n : Int))) = true → (((0 : Int) ≤ v1_0 ∧ v1_0 < ((x3.n : Nat) : Int)) ∧ ((v1_1.n ≤ 300000000000 ∧ (x3.at' (Int.toNat v1_0)).c0.size ≤ 10000000000) ∧ ((g156 (x3.at' (Int.toNat v1_0)).c0 v1_1).n ≤ 300000000000 ∧ (x3.at' (Int.toNat v1_0)).c1.size ≤ 10000000000)))) ∧ (((decide (v1_0 < (x3.n : Int))) = true → ((0 ≤ (IntKind.i64.wrap (v1_0 + 1)) ∧ (IntKind.i64.wrap (v1_0 + 1)) ≤ (x3.n : Int) ∧ (((g156 (x3.at' (Int.toNat v1_0)).c1 (g156 (x3.at' (Int.toNat v1_0)).c0 v1_1)).n : Nat) : Int) ≤ ((x6.n : Nat) : Int) + 40 + (IntKind.i64.wrap (v1_0 + 1)) * 42) ∧ (Int.toNat ((x3.n : Int) - (IntKind.i64.wrap (v1_0 + 1)))) < (Int.toNat ((x3.n : Int) - v1_0)))) ∧ ((decide (v1_0 < (x3.n : Int))) = false → (((v1_1.n : Nat) : Int) ≤ ((x6.n : Nat) : Int) + 880)))))) ∧ (((((g157_r1 x0 x1 x2 x3 x6).n : Nat) : Int) ≤ ((x6.n : Nat) : Int) + 880) → ((TOK x4 ∧ (g157_r1 x0 x1 x2 x3 x6).n ≤ 250000000000) ∧ (((g158 x4 (g157_r1 x0 x1 x2 x3 x6)).n ≤ 400000000000) ∧ (((0 ≤ (0 : Int) ∧ (0 : Int) ≤ (x5.n : Int) ∧ (((g155 (x5.n : Int) (g158 x4 (g157_r1 x0 x1 x2 x3 x6))).n : Nat) : Int) ≤ ((x6.n : Nat) : Int) + 1400 + (0 : Int) * 29)) ∧ (∀ (v6_0 : Int) (v6_1 : Sl Int), (0 ≤ v6_0 ∧ v6_0 ≤ (x5.n : Int) ∧ ((v6_1.n : Nat) : Int) ≤ ((x6.n : Nat) : Int) + 1400 + v6_0 * 29) → (((decide (v6_0 < (x5.n : Int))) = true → (((0 : Int) ≤ v6_0 ∧ v6_0 < ((x5.n : Nat) : Int)) ∧ ((v6_1.n ≤ 300000000000 ∧ (x5.at' (Int.toNat v6_0)).c0.size ≤ 10000000000) ∧ ((g156 (x5.at' (Int.toNat v6_0)).c0 v6_1).n ≤ 400000000000)))) ∧ ((decide (v6_0 < (x5.n : Int))) = true → ((0 ≤ (IntKind.i64.wrap (v6_0 + 1)) ∧ (IntKind.i64.wrap (v6_0 + 1)) ≤ (x5.n : Int) ∧ (((g154 (x5.at' (Int.toNat v6_0)).c1 (g156 (x5.at' (Int.toNat v6_0)).c0 v6_1)).n : Nat) : Int) ≤ ((x6.n : Nat) : Int) + 1400 + (IntKind.i64.wrap (v6_0 + 1)) * 29) ∧ (Int.toNat ((x5.n : Int) - (IntKind.i64.wrap (v6_0 + 1)))) < (Int.toNat ((x5.n : Int) - v6_0)))))))))))))))) (mkXh_ok trivial ⟨k154, k155, k156, k158, trivial⟩) Tryz.func77 rfl rfl rfl (by kernel_rfl) (have ⟨hq0, hq1⟩ := hp; ⟨(by have := hq0.1; have := hq0.2.1; have := vok_t hq0; omega), ⟨(by have := hq0.1; have := hq0.2.1; have := vok_t hq0; have := len155 x0 x6; omega), ⟨(by have := hq0.1; have := hq0.2.1; have := vok_t hq0; have := len156 x1 (g155 x0 x6); have := len155 x0 x6; omega), ⟨(by have := hq0.1; have := hq0.2.1; have := vok_t hq0; have := len154 x2 (g156 x1 (g155 x0 x6)); have := len156 x1 (g155 x0 x6); have := len155 x0 x6; omega), ⟨⟨(by have := hq0.1; have := hq0.2.1; have := vok_t hq0; have := len155 (x3.n : Int) (g154 x2 (g156 x1 (g155 x0 x6))); have := len154 x2 (g156 x1 (g155 x0 x6)); have := len156 x1 (g155 x0 x6); have := len155 x0 x6; omega), (fun v1_0 v1_1 hI1 => ⟨(fun h2 => ⟨(by have := of_decide_eq_true h2; have := hq0.1; have := hq0.2.1; have := vok_t hq0; omega), ⟨(by have := of_decide_eq_true h2; have := hq0.1; have := hq0.2.1; have := vok_t hq0; have := hq0.2.2.1 (Int.toNat v1_0) (by omega); omega), (by have := of_decide_eq_true h2; have := hq0.1; have := hq0.2.1; have := vok_t hq0; have := hq0.2.2.1 (Int.toNat v1_0) (by omega); have := len156 (x3.at' (Int.toNat v1_0)).c0 v1_1; omega)⟩⟩), ⟨(fun h3 => (by have := of_decide_eq_true h3; have := hq0.1; have := hq0.2.1; have := vok_t hq0; have := hq0.2.2.1 (Int.toNat v1_0) (by omega); have := len156 (x3.at' (Int.toNat v1_0)).c1 (g156 (x3.at' (Int.toNat v1_0)).c0 v1_1); have := len156 (x3.at' (Int.toNat v1_0)).c0 v1_1; first | omega | (have := wrap64 (x := (v1_0 + 1)) (by omega) (by omega); omega))), (fun h4 => (by have := of_decide_eq_false h4; have := hq0.1; have := hq0.2.1; have := vok_t hq0; omega))⟩⟩)⟩, (fun hF5 => ⟨⟨(by have := hq0.1; have := hq0.2.1; have := vok_t hq0; repeat first | assumption | apply ce85 | apply cc85' | apply vok_t), (by have := hq0.1; have := hq0.2.1; have := vok_t hq0; omega)⟩, ⟨(by have := hq0.1; have := hq0.2.1; have := vok_t hq0; have := len158 x4 (g157_r1 x0 x1 x2 x3 x6) (by repeat first | assumption | apply ce85 | apply cc85' | apply vok_t); omega), ⟨(by have := hq0.1; have := hq0.2.1; have := vok_t hq0; have := len155 (x5.n : Int) (g158 x4 (g157_r1 x0 x1 x2 x3 x6)); have := len158 x4 (g157_r1 x0 x1 x2 x3 x6) (by repeat first | assumption | apply ce85 | apply cc85' | apply vok_t); omega), (fun v6_0 v6_1 hI6 => ⟨(fun h7 => ⟨(by have := of_decide_eq_true h7; have := hq0.1; have := hq0.2.1; have := vok_t hq0; omega), ⟨(by have := of_decide_eq_true h7; have := hq0.1; have := hq0.2.1; have := vok_t hq0; have := hq0.2.2.2.2 (Int.toNat v6_0) (by omega); omega), (by have := of_decide_eq_true h7; have := hq0.1; have := hq0.2.1; have := vok_t hq0; have := hq0.2.2.2.2 (Int.toNat v6_0) (by omega); have := len156 (x5.at' (Int.toNat v6_0)).c0 v6_1; omega)⟩⟩), (fun h8 => (by have := of_decide_eq_true h8; have := hq0.1; have := hq0.2.1; have := vok_t hq0; have := hq0.2.2.2.2 (Int.toNat v6_0) (by omega); have := len154 (x5.at' (Int.toNat v6_0)).c1 (g156 (x5.at' (Int.toNat v6_0)).c0 v6_1); have := len156 (x5.at' (Int.toNat v6_0)).c0 v6_1; first | omega | (have := wrap64 (x := (v6_0 + 1)) (by omega) (by omega); omega)))⟩)⟩⟩⟩)⟩⟩⟩⟩⟩)
theorem k157 : XHOk Tryz.prog 77 F157.ans := Hq.ok ⟨_, _, Tryz.func77, rfl, by kernel_rfl⟩ (by kernel_rfl) pc157
end Go.Proofs.YtchhfojblmceiaaGreat
namespace Go.Proofs.YtchhfojblmceiaaGreat
open Go Go.Vc Go.RowKit
set_option maxRecDepth 100000
noncomputable def pf (s : Sl T160) (i : Nat) : List Int := tb (s.at' i).c0 ++ tb (s.at' i).c1
noncomputable def sf (s : Sl T164) (i : Nat) : List Int := tb (s.at' i).c0 ++ nb (s.at' i).c1
noncomputable def vb (x0 : Int) (x1 : ByteArray) (x2 : Int) (x3 : Sl T160) (x4 : Sl ByteArray) (x5 : Sl T164) : List Int :=
  sb x0 ++ (tb x1 ++ (nb x2 ++ (sb (x3.n : Int) ++ (cat (pf x3) x3.n 0 ++ (tsb x4 ++ (sb (x5.n : Int) ++ cat (sf x5) x5.n 0))))))
theorem pf_len {s : Sl T160} {i : Nat} (h : (s.at' i).c0.size ≤ 20 ∧ (s.at' i).c1.size ≤ 20) : (pf s i).length ≤ 42 := by
  have a := tb_le h.1
  have b := tb_le h.2
  unfold pf; rw [List.length_append]; omega
theorem sf_len {s : Sl T164} {i : Nat} (h : (s.at' i).c0.size ≤ 20) : (sf s i).length ≤ 29 := by
  have a := tb_le h
  unfold sf; rw [List.length_append, nb_len]; omega
theorem vb_len {x0 : Int} {x1 : ByteArray} {x2 : Int} {x3 : Sl T160} {x4 : Sl ByteArray} {x5 : Sl T164} (h : VOK x1 x2 x3 x4 x5) : (vb x0 x1 x2 x3 x4 x5).length ≤ 2000 := by
  have a := tb_le h.1.1
  have b := tsb_len (vok_t h)
  have c := cat_len (f := pf x3) (D := 42) x3.n 0 fun j _ hj => pf_len (h.2.2.1 j (by omega))
  have d := cat_len (f := sf x5) (D := 29) x5.n 0 fun j _ hj => sf_len (h.2.2.2.2 j (by omega)).1
  have e := h.2.1
  unfold vb
  simp only [List.length_append, sb_len, nb_len]
  omega
theorem B157 (x0 : Int) (x1 : ByteArray) (x2 : Int) (x3 : Sl T160) (x4 : Sl ByteArray) (x5 : Sl T164) (w : Sl Int) (h : VOK x1 x2 x3 x4 x5) : (g157 x0 x1 x2 x3 x4 x5 w).B = w.B ++ vb x0 x1 x2 x3 x4 x5 := by
  have hn := h.2.1
  have h1 : (g157_r1 x0 x1 x2 x3 w).B = (g155 (x3.n : Int) (g154 x2 (g156 x1 (g155 x0 w)))).B ++ cat (pf x3) x3.n 0 :=
    loopB0 (g157_l1 x3) x3.n 42 _ (fun i s => g156 (x3.at' (Int.toNat i)).c1 (g156 (x3.at' (Int.toNat i)).c0 s)) (pf x3) (by omega) (fun _ _ _ => rfl) (fun i s hi _ => by
      have hz := h.2.2.1 i hi
      simp only [Int.toNat_natCast]
      exact ⟨by rw [w_tb _ (by omega), w_tb _ (by omega), List.append_assoc]; rfl, pf_len hz⟩) _ (Nat.le_refl _)
  have h2 : (g157_r2 x0 x1 x2 x3 x4 x5 w).B = (g155 (x5.n : Int) (g158 x4 (g157_r1 x0 x1 x2 x3 w))).B ++ cat (sf x5) x5.n 0 :=
    loopB0 (g157_l6 x5) x5.n 29 _ (fun i s => g154 (x5.at' (Int.toNat i)).c1 (g156 (x5.at' (Int.toNat i)).c0 s)) (sf x5) (by omega) (fun _ _ _ => rfl) (fun i s hi _ => by
      have hz := h.2.2.2.2 i hi
      simp only [Int.toNat_natCast]
      exact ⟨by rw [w_nb _ (by omega) (by omega), w_tb _ (by omega), List.append_assoc]; rfl, sf_len hz.1⟩) _ (Nat.le_refl _)
  have hx := h.1
  show (g157_r2 x0 x1 x2 x3 x4 x5 w).B = _
  rw [h2, w_sb, B158 _ _ (vok_t h), h1, w_sb, w_nb _ (by omega) (by omega), w_tb _ (by omega), w_sb]
  simp only [vb, List.append_assoc]
theorem len157 (x0 : Int) (x1 : ByteArray) (x2 : Int) (x3 : Sl T160) (x4 : Sl ByteArray) (x5 : Sl T164) (w : Sl Int) (h : VOK x1 x2 x3 x4 x5) : (g157 x0 x1 x2 x3 x4 x5 w).n ≤ w.n + 2000 := by
  rw [← B_len, B157 _ _ _ _ _ _ _ h, List.length_append, B_len]
  have := vb_len (x0 := x0) h
  omega
end Go.Proofs.YtchhfojblmceiaaGreat
/-
  Walks: what functions of the program answer, as functions.
-/
namespace Go.Proofs.YtchhfojblmceiaaGreat
open Go Go.Vc Go.RowKit
set_option maxRecDepth 100000
set_option maxHeartbeats 4000000
noncomputable def g90_l2 (x1 : Sl T175) : Nat → Int → Sl Int → Sl Int
  | 0, _, _ => default
  | k + 1, v2_0, v2_1 => (bif (decide (v2_0 < (x1.n : Int))) then (g90_l2 x1 k (IntKind.i64.wrap (v2_0 + 1)) (g154 (x1.at' (Int.toNat v2_0)).c7 (g157 (x1.at' (Int.toNat v2_0)).c1 (x1.at' (Int.toNat v2_0)).c2 (x1.at' (Int.toNat v2_0)).c3 (x1.at' (Int.toNat v2_0)).c4 (x1.at' (Int.toNat v2_0)).c5 (x1.at' (Int.toNat v2_0)).c6 (g156 (x1.at' (Int.toNat v2_0)).c0 v2_1)))) else v2_1)
noncomputable def g90_r1 (x0 : Int) (x1 : Sl T175) : Sl Int := g90_l2 x1 ((Int.toNat ((x1.n : Int) - 0)) + 1) 0 (g155 (x1.n : Int) (g154 x0 (nilSl : Sl Int)))
noncomputable def g90_l7 (x3 : Sl T137) : Nat → Int → Sl Int → Sl Int
  | 0, _, _ => default
  | k + 1, v7_0, v7_1 => (bif (decide (v7_0 < (x3.n : Int))) then (g90_l7 x3 k (IntKind.i64.wrap (v7_0 + 1)) (g158 (x3.at' (Int.toNat v7_0)).c6 (g154 (x3.at' (Int.toNat v7_0)).c5 (g156 (x3.at' (Int.toNat v7_0)).c4 (g155 (x3.at' (Int.toNat v7_0)).c3 (g154 (x3.at' (Int.toNat v7_0)).c2 (g154 (x3.at' (Int.toNat v7_0)).c1 (g154 (x3.at' (Int.toNat v7_0)).c0 v7_1)))))))) else v7_1)
noncomputable def g90_r2 (x0 : Int) (x1 : Sl T175) (x2 : Int) (x3 : Sl T137) : Sl Int := g90_l7 x3 ((Int.toNat ((x3.n : Int) - 0)) + 1) 0 (g155 (x3.n : Int) (g154 x2 (g90_r1 x0 x1)))
noncomputable def g90_0 (x0 : Int) (x1 : Sl T175) (x2 : Int) (x3 : Sl T137) : Sl Int := (bif ((g84 x0 x1 x2 x3) != 0) then (nilSl : Sl Int) else (g90_r2 x0 x1 x2 x3))
noncomputable def g90_1 (x0 : Int) (x1 : Sl T175) (x2 : Int) (x3 : Sl T137) : Int := (bif ((g84 x0 x1 x2 x3) != 0) then (g84 x0 x1 x2 x3) else 0)
noncomputable def F90 : Fq := ⟨[.g [kI, .sl E175, kI, .sl E137]], fun (x0 : Int) x1 (x2 : Int) x3 => ⟨⟨some (CE x1 ∧ CC x3), .tup [ofSl 1 e5 (g90_0 x0 x1 x2 x3), .int .i64 (g90_1 x0 x1 x2 x3)]⟩⟩⟩
theorem pc90 : FnOk Tryz.prog 34 F90.sh _ (F90.sh.flatMap Sh.bs) F90.f [] :=
  fun (x0 : Int) x1 n1 _ (x2 : Int) x3 n3 _ hp => pure_of_exec (X := (mkXh 0 [(73, F84.ans)] [(74, F154.ans), (75, F155.ans), (76, F156.ans), (77, F157.ans), (78, F158.ans)])) (R := ⟨.pure, [.tmp 2, .tmp 3], [(.t 0, .sl E5), (.t 1, kI)], ⟨[U, U], []⟩⟩) (h := (.s .z (.s .z (.s .z (.s (.cv [(.h 1 0, E5)]) (.s .z (.j ⟨46, [], [], [], .f⟩ (.s .z (.lp ⟨7516192814, [], [], [(.t 32, kI), (.h 2 0, .blk E5)], some 0, false, 46, [], [(.h 2 0, .blk E5)], fun k (s : Int × Sl Int) => g90_l2 x1 k s.1 s.2, .f, fun (s : Int × Sl Int) => (0 ≤ s.1 ∧ s.1 ≤ (x1.n : Int) ∧ ((s.2.n : Nat) : Int) ≤ 10 + s.1 * 2100), fun (s : Int × Sl Int) => (Int.toNat ((x1.n : Int) - s.1)), some fun (r : Sl Int) => ((r.n : Nat) : Int) ≤ 25300⟩ .z)) (.s .z (.s .z (.j ⟨44, [], [], [], .f⟩ (.s .z (.lp ⟨4035225266123964460, [.b 0], [], [(.t 61, kI), (.h 2 0, .blk E5)], some 2, false, 44, [], [(.h 2 0, .blk E5)], fun k (s : Int × Sl Int) => g90_l7 x3 k s.1 s.2, .f, fun (s : Int × Sl Int) => (0 ≤ s.1 ∧ s.1 ≤ (x3.n : Int) ∧ ((s.2.n : Nat) : Int) ≤ 25400 + s.1 * 500), fun (s : Int × Sl Int) => (Int.toNat ((x3.n : Int) - s.1)), none⟩ .z)) .z)))))))))) (ms := []) (p := (((g84 x0 x1 x2 x3) != 0) = false → ((0 ≤ 400000000000) ∧ (((g154 x0 (nilSl : Sl Int)).n ≤ 400000000000) ∧ ((((0 ≤ (0 : Int) ∧ (0 : Int) ≤ (x1.n : Int) ∧ (((g155 (x1.n : Int) (g154 x0 (nilSl : Sl Int))).n : Nat) : Int) ≤ 10 + (0 : Int) * 2100)) ∧ (∀ (v2_0 : Int) (v2_1 : Sl Int), (0 ≤ v2_0 ∧ v2_0 ≤ (x1.n : Int) ∧ ((v2_1.n : Nat) : Int) ≤ 10 + v2_0 * 2100) → (((decide (v2_0 < (x1.n : Int))) = true → (((0 : Int) ≤ v2_0 ∧ v2_0 < ((x1.n : Nat) : Int)) ∧ ((v2_1.n ≤ 300000000000 ∧ (x1.at' (Int.toNat v2_0)).c0.size ≤ 10000000000) ∧ ((VOK (x1.at' (Int.toNat v2_0)).c2 (x1.at' (Int.toNat v2_0)).c3 (x1.at' (Int.toNat v2_0)).c4 (x1.at' (Int.toNat v2_0)).c5 (x1.at' (Int.toNat v2_0)).c6 ∧ (g156 (x1.at' (Int.toNat v2_0)).c0 v2_1).n ≤ 200000000000) ∧ ((g157 (x1.at' (Int.toNat v2_0)).c1 (x1.at' (Int.toNat v2_0)).c2 (x1.at' (Int.toNat v2_0)).c3 (x1.at' (Int.toNat v2_0)).c4 (x1.at' (Int.toNat v2_0)).c5 (x1.at' (Int.toNat v2_0)).c6 (g156 (x1.at' (Int.toNat v2_0)).c0 v2_1)).n ≤ 400000000000))))) ∧ (((decide (v2_0 < (x1.n : Int))) = true → ((0 ≤ (IntKind.i64.wrap (v2_0 + 1)) ∧ (IntKind.i64.wrap (v2_0 + 1)) ≤ (x1.n : Int) ∧ (((g154 (x1.at' (Int.toNat v2_0)).c7 (g157 (x1.at' (Int.toNat v2_0)).c1 (x1.at' (Int.toNat v2_0)).c2 (x1.at' (Int.toNat v2_0)).c3 (x1.at' (Int.toNat v2_0)).c4 (x1.at' (Int.toNat v2_0)).c5 (x1.at' (Int.toNat v2_0)).c6 (g156 (x1.at' (Int.toNat v2_0)).c0 v2_1))).n : Nat) : Int) ≤ 10 + (IntKind.i64.wrap (v2_0 + 1)) * 2100) ∧ (Int.toNat ((x1.n : Int) - (IntKind.i64.wrap (v2_0 + 1)))) < (Int.toNat ((x1.n : Int) - v2_0)))) ∧ ((decide (v2_0 < (x1.n : Int))) = false → (((v2_1.n : Nat) : Int) ≤ 25300)))))) ∧ (((((g90_r1 x0 x1).n : Nat) : Int) ≤ 25300) → (((g90_r1 x0 x1).n ≤ 400000000000) ∧ (((g154 x2 (g90_r1 x0 x1)).n ≤ 400000000000) ∧ (((0 ≤ (0 : Int) ∧ (0 : Int) ≤ (x3.n : Int) ∧ (((g155 (x3.n : Int) (g154 x2 (g90_r1 x0 x1))).n : Nat) : Int) ≤ 25400 + (0 : Int) * 500)) ∧ (∀ (v7_0 : Int) (v7_1 : Sl Int), (0 ≤ v7_0 ∧ v7_0 ≤ (x3.n : Int) ∧ ((v7_1.n : Nat) : Int) ≤ 25400 + v7_0 * 500) → (((decide (v7_0 < (x3.n : Int))) = true → (((0 : Int) ≤ v7_0 ∧ v7_0 < ((x3.n : Nat) : Int)) ∧ ((v7_1.n ≤ 400000000000) ∧ (((g154 (x3.at' (Int.toNat v7_0)).c0 v7_1).n ≤ 400000000000) ∧ (((g154 (x3.at' (Int.toNat v7_0)).c1 (g154 (x3.at' (Int.toNat v7_0)).c0 v7_1)).n ≤ 400000000000) ∧ (((g154 (x3.at' (Int.toNat v7_0)).c2 (g154 (x3.at' (Int.toNat v7_0)).c1 (g154 (x3.at' (Int.toNat v7_0)).c0 v7_1))).n ≤ 400000000000) ∧ (((g155 (x3.at' (Int.toNat v7_0)).c3 (g154 (x3.at' (Int.toNat v7_0)).c2 (g154 (x3.at' (Int.toNat v7_0)).c1 (g154 (x3.at' (Int.toNat v7_0)).c0 v7_1)))).n ≤ 300000000000 ∧ (x3.at' (Int.toNat v7_0)).c4.size ≤ 10000000000) ∧ (((g156 (x3.at' (Int.toNat v7_0)).c4 (g155 (x3.at' (Int.toNat v7_0)).c3 (g154 (x3.at' (Int.toNat v7_0)).c2 (g154 (x3.at' (Int.toNat v7_0)).c1 (g154 (x3.at' (Int.toNat v7_0)).c0 v7_1))))).n ≤ 400000000000) ∧ (TOK (x3.at' (Int.toNat v7_0)).c6 ∧ (g154 (x3.at' (Int.toNat v7_0)).c5 (g156 (x3.at' (Int.toNat v7_0)).c4 (g155 (x3.at' (Int.toNat v7_0)).c3 (g154 (x3.at' (Int.toNat v7_0)).c2 (g154 (x3.at' (Int.toNat v7_0)).c1 (g154 (x3.at' (Int.toNat v7_0)).c0 v7_1)))))).n ≤ 250000000000))))))))) ∧ ((decide (v7_0 < (x3.n : Int))) = true → ((0 ≤ (IntKind.i64.wrap (v7_0 + 1)) ∧ (IntKind.i64.wrap (v7_0 + 1)) ≤ (x3.n : Int) ∧ (((g158 (x3.at' (Int.toNat v7_0)).c6 (g154 (x3.at' (Int.toNat v7_0)).c5 (g156 (x3.at' (Int.toNat v7_0)).c4 (g155 (x3.at' (Int.toNat v7_0)).c3 (g154 (x3.at' (Int.toNat v7_0)).c2 (g154 (x3.at' (Int.toNat v7_0)).c1 (g154 (x3.at' (Int.toNat v7_0)).c0 v7_1))))))).n : Nat) : Int) ≤ 25400 + (IntKind.i64.wrap (v7_0 + 1)) * 500) ∧ (Int.toNat ((x3.n : Int) - (IntKind.i64.wrap (v7_0 + 1)))) < (Int.toNat ((x3.n : Int) - v7_0))))))))))))))) (mkXh_ok ⟨k84, trivial⟩ ⟨k154, k155, k156, k157, k158, trivial⟩) Tryz.func34 rfl rfl (by kernel_rfl) (have ⟨hq0, hq1⟩ := hp; (fun h1 => ⟨(by have hM := chk84 _ _ _ _ (by assumption) (by assumption) (bne_eq_false_iff_eq.1 h1); have := hM.1; omega), ⟨(by have hM := chk84 _ _ _ _ (by assumption) (by assumption) (bne_eq_false_iff_eq.1 h1); have := hM.1; have := len154 x0 (nilSl : Sl Int); have : (nilSl : Sl Int).n = 0 := rfl; (try simp only [Sl.app_n, Sl.lit_n, Sl.part_n, Sl.rep_n, Sl.upd_n, nilSl_n, List.length_cons, List.length_nil]); omega), ⟨⟨(by have hM := chk84 _ _ _ _ (by assumption) (by assumption) (bne_eq_false_iff_eq.1 h1); have := hM.1; have := len155 (x1.n : Int) (g154 x0 (nilSl : Sl Int)); have := len154 x0 (nilSl : Sl Int); have : (nilSl : Sl Int).n = 0 := rfl; (try simp only [Sl.app_n, Sl.lit_n, Sl.part_n, Sl.rep_n, Sl.upd_n, nilSl_n, List.length_cons, List.length_nil]); omega), (fun v2_0 v2_1 hI2 => ⟨(fun h3 => ⟨(by have hM := chk84 _ _ _ _ (by assumption) (by assumption) (bne_eq_false_iff_eq.1 h1); have := hM.1; have := of_decide_eq_true h3; omega), ⟨(by have hM := chk84 _ _ _ _ (by assumption) (by assumption) (bne_eq_false_iff_eq.1 h1); have := hM.1; have := of_decide_eq_true h3; have hE := hM.2.1 (Int.toNat v2_0) (by omega); have := hE.1; have := hE.2.1; have := hE.2.2; omega), ⟨⟨(by have hM := chk84 _ _ _ _ (by assumption) (by assumption) (bne_eq_false_iff_eq.1 h1); have := hM.1; have := of_decide_eq_true h3; have hE := hM.2.1 (Int.toNat v2_0) (by omega); have := hE.1; have := hE.2.1; have := hE.2.2; repeat first | assumption | apply ce85 | apply cc85' | apply vok_t), (by have hM := chk84 _ _ _ _ (by assumption) (by assumption) (bne_eq_false_iff_eq.1 h1); have := hM.1; have := of_decide_eq_true h3; have hE := hM.2.1 (Int.toNat v2_0) (by omega); have := hE.1; have := hE.2.1; have := hE.2.2; have := len156 (x1.at' (Int.toNat v2_0)).c0 v2_1; omega)⟩, (by have hM := chk84 _ _ _ _ (by assumption) (by assumption) (bne_eq_false_iff_eq.1 h1); have := hM.1; have := of_decide_eq_true h3; have hE := hM.2.1 (Int.toNat v2_0) (by omega); have := hE.1; have := hE.2.1; have := hE.2.2; have := len157 (x1.at' (Int.toNat v2_0)).c1 (x1.at' (Int.toNat v2_0)).c2 (x1.at' (Int.toNat v2_0)).c3 (x1.at' (Int.toNat v2_0)).c4 (x1.at' (Int.toNat v2_0)).c5 (x1.at' (Int.toNat v2_0)).c6 (g156 (x1.at' (Int.toNat v2_0)).c0 v2_1) (by repeat first | assumption | apply ce85 | apply cc85' | apply vok_t); have := len156 (x1.at' (Int.toNat v2_0)).c0 v2_1; omega)⟩⟩⟩), ⟨(fun h4 => (by have hM := chk84 _ _ _ _ (by assumption) (by assumption) (bne_eq_false_iff_eq.1 h1); have := hM.1; have := of_decide_eq_true h4; have hE := hM.2.1 (Int.toNat v2_0) (by omega); have := hE.1; have := hE.2.1; have := hE.2.2; have := len154 (x1.at' (Int.toNat v2_0)).c7 (g157 (x1.at' (Int.toNat v2_0)).c1 (x1.at' (Int.toNat v2_0)).c2 (x1.at' (Int.toNat v2_0)).c3 (x1.at' (Int.toNat v2_0)).c4 (x1.at' (Int.toNat v2_0)).c5 (x1.at' (Int.toNat v2_0)).c6 (g156 (x1.at' (Int.toNat v2_0)).c0 v2_1)); have := len157 (x1.at' (Int.toNat v2_0)).c1 (x1.at' (Int.toNat v2_0)).c2 (x1.at' (Int.toNat v2_0)).c3 (x1.at' (Int.toNat v2_0)).c4 (x1.at' (Int.toNat v2_0)).c5 (x1.at' (Int.toNat v2_0)).c6 (g156 (x1.at' (Int.toNat v2_0)).c0 v2_1) (by repeat first | assumption | apply ce85 | apply cc85' | apply vok_t); have := len156 (x1.at' (Int.toNat v2_0)).c0 v2_1; first | omega | (have := wrap64 (x := (v2_0 + 1)) (by omega) (by omega); omega))), (fun h5 => (by have hM := chk84 _ _ _ _ (by assumption) (by assumption) (bne_eq_false_iff_eq.1 h1); have := hM.1; have := of_decide_eq_false h5; omega))⟩⟩)⟩, (fun hF6 => ⟨(by have hM := chk84 _ _ _ _ (by assumption) (by assumption) (bne_eq_false_iff_eq.1 h1); have := hM.1; omega), ⟨(by have hM := chk84 _ _ _ _ (by assumption) (by assumption) (bne_eq_false_iff_eq.1 h1); have := hM.1; have := len154 x2 (g90_r1 x0 x1); omega), ⟨(by have hM := chk84 _ _ _ _ (by assumption) (by assumption) (bne_eq_false_iff_eq.1 h1); have := hM.1; have := len155 (x3.n : Int) (g154 x2 (g90_r1 x0 x1)); have := len154 x2 (g90_r1 x0 x1); omega), (fun v7_0 v7_1 hI7 => ⟨(fun h8 => ⟨(by have hM := chk84 _ _ _ _ (by assumption) (by assumption) (bne_eq_false_iff_eq.1 h1); have := hM.1; have := of_decide_eq_true h8; omega), ⟨(by have hM := chk84 _ _ _ _ (by assumption) (by assumption) (bne_eq_false_iff_eq.1 h1); have := hM.1; have := of_decide_eq_true h8; omega), ⟨(by have hM := chk84 _ _ _ _ (by assumption) (by assumption) (bne_eq_false_iff_eq.1 h1); have := hM.1; have := of_decide_eq_true h8; have hK := hM.2.2 (Int.toNat v7_0) (by omega); have := hK.1; have := hK.2.1; have := hK.2.2; have := len154 (x3.at' (Int.toNat v7_0)).c0 v7_1; omega), ⟨(by have hM := chk84 _ _ _ _ (by assumption) (by assumption) (bne_eq_false_iff_eq.1 h1); have := hM.1; have := of_decide_eq_true h8; have hK := hM.2.2 (Int.toNat v7_0) (by omega); have := hK.1; have := hK.2.1; have := hK.2.2; have := len154 (x3.at' (Int.toNat v7_0)).c1 (g154 (x3.at' (Int.toNat v7_0)).c0 v7_1); have := len154 (x3.at' (Int.toNat v7_0)).c0 v7_1; omega), ⟨(by have hM := chk84 _ _ _ _ (by assumption) (by assumption) (bne_eq_false_iff_eq.1 h1); have := hM.1; have := of_decide_eq_true h8; have hK := hM.2.2 (Int.toNat v7_0) (by omega); have := hK.1; have := hK.2.1; have := hK.2.2; have := len154 (x3.at' (Int.toNat v7_0)).c2 (g154 (x3.at' (Int.toNat v7_0)).c1 (g154 (x3.at' (Int.toNat v7_0)).c0 v7_1)); have := len154 (x3.at' (Int.toNat v7_0)).c1 (g154 (x3.at' (Int.toNat v7_0)).c0 v7_1); have := len154 (x3.at' (Int.toNat v7_0)).c0 v7_1; omega), ⟨(by have hM := chk84 _ _ _ _ (by assumption) (by assumption) (bne_eq_false_iff_eq.1 h1); have := hM.1; have := of_decide_eq_true h8; have hK := hM.2.2 (Int.toNat v7_0) (by omega); have := hK.1; have := hK.2.1; have := hK.2.2; have := len155 (x3.at' (Int.toNat v7_0)).c3 (g154 (x3.at' (Int.toNat v7_0)).c2 (g154 (x3.at' (Int.toNat v7_0)).c1 (g154 (x3.at' (Int.toNat v7_0)).c0 v7_1))); have := len154 (x3.at' (Int.toNat v7_0)).c2 (g154 (x3.at' (Int.toNat v7_0)).c1 (g154 (x3.at' (Int.toNat v7_0)).c0 v7_1)); have := len154 (x3.at' (Int.toNat v7_0)).c1 (g154 (x3.at' (Int.toNat v7_0)).c0 v7_1); have := len154 (x3.at' (Int.toNat v7_0)).c0 v7_1; omega), ⟨(by have hM := chk84 _ _ _ _ (by assumption) (by assumption) (bne_eq_false_iff_eq.1 h1); have := hM.1; have := of_decide_eq_true h8; have hK := hM.2.2 (Int.toNat v7_0) (by omega); have := hK.1; have := hK.2.1; have := hK.2.2; have := len156 (x3.at' (Int.toNat v7_0)).c4 (g155 (x3.at' (Int.toNat v7_0)).c3 (g154 (x3.at' (Int.toNat v7_0)).c2 (g154 (x3.at' (Int.toNat v7_0)).c1 (g154 (x3.at' (Int.toNat v7_0)).c0 v7_1)))); have := len155 (x3.at' (Int.toNat v7_0)).c3 (g154 (x3.at' (Int.toNat v7_0)).c2 (g154 (x3.at' (Int.toNat v7_0)).c1 (g154 (x3.at' (Int.toNat v7_0)).c0 v7_1))); have := len154 (x3.at' (Int.toNat v7_0)).c2 (g154 (x3.at' (Int.toNat v7_0)).c1 (g154 (x3.at' (Int.toNat v7_0)).c0 v7_1)); have := len154 (x3.at' (Int.toNat v7_0)).c1 (g154 (x3.at' (Int.toNat v7_0)).c0 v7_1); have := len154 (x3.at' (Int.toNat v7_0)).c0 v7_1; omega), ⟨(by have hM := chk84 _ _ _ _ (by assumption) (by assumption) (bne_eq_false_iff_eq.1 h1); have := hM.1; have := of_decide_eq_true h8; have hK := hM.2.2 (Int.toNat v7_0) (by omega); have := hK.1; have := hK.2.1; have := hK.2.2; repeat first | assumption | apply ce85 | apply cc85' | apply vok_t), (by have hM := chk84 _ _ _ _ (by assumption) (by assumption) (bne_eq_false_iff_eq.1 h1); have := hM.1; have := of_decide_eq_true h8; have hK := hM.2.2 (Int.toNat v7_0) (by omega); have := hK.1; have := hK.2.1; have := hK.2.2; have := len154 (x3.at' (Int.toNat v7_0)).c5 (g156 (x3.at' (Int.toNat v7_0)).c4 (g155 (x3.at' (Int.toNat v7_0)).c3 (g154 (x3.at' (Int.toNat v7_0)).c2 (g154 (x3.at' (Int.toNat v7_0)).c1 (g154 (x3.at' (Int.toNat v7_0)).c0 v7_1))))); have := len156 (x3.at' (Int.toNat v7_0)).c4 (g155 (x3.at' (Int.toNat v7_0)).c3 (g154 (x3.at' (Int.toNat v7_0)).c2 (g154 (x3.at' (Int.toNat v7_0)).c1 (g154 (x3.at' (Int.toNat v7_0)).c0 v7_1)))); have := len155 (x3.at' (Int.toNat v7_0)).c3 (g154 (x3.at' (Int.toNat v7_0)).c2 (g154 (x3.at' (Int.toNat v7_0)).c1 (g154 (x3.at' (Int.toNat v7_0)).c0 v7_1))); have := len154 (x3.at' (Int.toNat v7_0)).c2 (g154 (x3.at' (Int.toNat v7_0)).c1 (g154 (x3.at' (Int.toNat v7_0)).c0 v7_1)); have := len154 (x3.at' (Int.toNat v7_0)).c1 (g154 (x3.at' (Int.toNat v7_0)).c0 v7_1); have := len154 (x3.at' (Int.toNat v7_0)).c0 v7_1; omega)⟩⟩⟩⟩⟩⟩⟩⟩), (fun h9 => (by have hM := chk84 _ _ _ _ (by assumption) (by assumption) (bne_eq_false_iff_eq.1 h1); have := hM.1; have := of_decide_eq_true h9; have hK := hM.2.2 (Int.toNat v7_0) (by omega); have := hK.1; have := hK.2.1; have := hK.2.2; have := len158 (x3.at' (Int.toNat v7_0)).c6 (g154 (x3.at' (Int.toNat v7_0)).c5 (g156 (x3.at' (Int.toNat v7_0)).c4 (g155 (x3.at' (Int.toNat v7_0)).c3 (g154 (x3.at' (Int.toNat v7_0)).c2 (g154 (x3.at' (Int.toNat v7_0)).c1 (g154 (x3.at' (Int.toNat v7_0)).c0 v7_1)))))) (by repeat first | assumption | apply ce85 | apply cc85' | apply vok_t); have := len154 (x3.at' (Int.toNat v7_0)).c5 (g156 (x3.at' (Int.toNat v7_0)).c4 (g155 (x3.at' (Int.toNat v7_0)).c3 (g154 (x3.at' (Int.toNat v7_0)).c2 (g154 (x3.at' (Int.toNat v7_0)).c1 (g154 (x3.at' (Int.toNat v7_0)).c0 v7_1))))); have := len156 (x3.at' (Int.toNat v7_0)).c4 (g155 (x3.at' (Int.toNat v7_0)).c3 (g154 (x3.at' (Int.toNat v7_0)).c2 (g154 (x3.at' (Int.toNat v7_0)).c1 (g154 (x3.at' (Int.toNat v7_0)).c0 v7_1)))); have := len155 (x3.at' (Int.toNat v7_0)).c3 (g154 (x3.at' (Int.toNat v7_0)).c2 (g154 (x3.at' (Int.toNat v7_0)).c1 (g154 (x3.at' (Int.toNat v7_0)).c0 v7_1))); have := len154 (x3.at' (Int.toNat v7_0)).c2 (g154 (x3.at' (Int.toNat v7_0)).c1 (g154 (x3.at' (Int.toNat v7_0)).c0 v7_1)); have := len154 (x3.at' (Int.toNat v7_0)).c1 (g154 (x3.at' (Int.toNat v7_0)).c0 v7_1); have := len154 (x3.at' (Int.toNat v7_0)).c0 v7_1; first | omega | (have := wrap64 (x := (v7_0 + 1)) (by omega) (by omega); omega)))⟩)⟩⟩⟩)⟩⟩⟩))
theorem k90 : XOk Tryz.prog 34 F90.ans := Fq.ok ⟨_, _, Tryz.func34, rfl, by kernel_rfl⟩ pc90
end Go.Proofs.YtchhfojblmceiaaGreat
namespace Go.Vc
open Go Go.RowKit
def SlE {α : Type} (R : α → α → Prop) (a b : Sl α) : Prop := a.n = b.n ∧ ∀ i, i < a.n → R (a.at' i) (b.at' i)
theorem SlE.rfl' {α : Type} {R : α → α → Prop} (h : ∀ x, R x x) (a : Sl α) : SlE R a a := ⟨rfl, fun _ _ => h _⟩
theorem clean0 {β : Type} [Inhabited β] (F : Nat → Int → Bool × β) (n : Nat) (bad : Int → Bool) (c : Int → β) (hn : n ≤ 549755813888) (hF : ∀ k i, F (k + 1) i = bif decide (i < (n : Int)) then (bif bad i then (true, c i) else F k (IntKind.i64.wrap (i + 1))) else (false, default)) (h : ∀ i : Nat, i < n → bad (i : Int) = false) :
    F (Int.toNat ((n : Int) - 0) + 1) 0 = (false, default) :=
  (scan0 F n bad c hn hF).trans (scan_clean n 0 fun j h1 h2 => by
    obtain ⟨k, rfl⟩ := Int.eq_ofNat_of_zero_le h1
    exact h k (by omega))
end Go.Vc
namespace Go.Proofs.YtchhfojblmceiaaGreat
open Go Go.Vc Go.RowKit
set_option maxRecDepth 100000
theorem ne_self (x : Int) : (x != x) = false := by simp
theorem t191 {a b : Sl ByteArray} (h : SlE Eq a b) (hn : a.n ≤ 549755813888) : g191 a b = true := by
  have c : g191_r1 a b = (false, default) := clean0 (g191_l2 a b) a.n _ (fun _ => false) hn (fun _ _ => rfl) fun i hi => by
    simp only [Int.toNat_natCast]
    rw [h.2 i hi]; simp
  unfold g191 g191_p2
  rw [c, h.1, ne_self]; rfl
theorem t103 {x0 : Int} {x1 : ByteArray} {x2 : Int} {a3 b3 : Sl T160} {a4 b4 : Sl ByteArray} {a5 b5 : Sl T164} (h3 : SlE Eq a3 b3) (h4 : SlE Eq a4 b4) (h5 : SlE Eq a5 b5) (n3 : a3.n ≤ 549755813888) (n4 : a4.n ≤ 549755813888) (n5 : a5.n ≤ 549755813888) : g103 x0 x1 x2 a3 a4 a5 x0 x1 x2 b3 b4 b5 = true := by
  have c1 : g103_r2 a3 b3 = (false, default) := clean0 (g103_l8 a3 b3) a3.n _ (fun _ => false) n3 (fun _ _ => rfl) fun i hi => by
    simp only [Int.toNat_natCast]
    rw [h3.2 i hi]; simp
  have c2 : g103_r4 a5 b5 = (false, default) := clean0 (g103_l15 a5 b5) a5.n _ (fun _ => false) n5 (fun _ _ => rfl) fun i hi => by
    simp only [Int.toNat_natCast]
    rw [h5.2 i hi]; simp
  have m : g103_m1 x0 x1 x2 a3 a4 a5 x0 x1 x2 b3 b4 b5 = false := by
    unfold g103_m1
    rw [t191 h4 n4, h3.1, h5.1]
    simp only [ne_self, beq_self_eq_true, Bool.not_true, cond_false]
  unfold g103 g103_p3 g103_p5
  rw [m, c1, c2]; rfl
theorem t104 {x0 : Int} {x1 : ByteArray} {x2 : Int} {a b : Sl ByteArray} (h : SlE Eq a b) (hn : a.n ≤ 549755813888) : g104 x0 x1 x2 a x0 x1 x2 b = true := by
  unfold g104 g104_m1
  rw [t191 h hn]
  simp only [beq_self_eq_true, cond_true]
def R175 (x y : T175) : Prop := (x.c0 = y.c0 ∧ x.c1 = y.c1 ∧ x.c2 = y.c2 ∧ x.c3 = y.c3 ∧ x.c7 = y.c7) ∧ (SlE Eq x.c4 y.c4 ∧ SlE Eq x.c5 y.c5 ∧ SlE Eq x.c6 y.c6) ∧ (x.c4.n ≤ 549755813888 ∧ x.c5.n ≤ 549755813888 ∧ x.c6.n ≤ 549755813888)
def R137 (x y : T137) : Prop := (x.c0 = y.c0 ∧ x.c1 = y.c1 ∧ x.c2 = y.c2 ∧ x.c3 = y.c3 ∧ x.c4 = y.c4 ∧ x.c5 = y.c5) ∧ SlE Eq x.c6 y.c6 ∧ x.c6.n ≤ 549755813888
theorem t105 {x0 : Int} {a b : Sl T175} (h : SlE R175 a b) (hn : a.n ≤ 549755813888) : g105 x0 a x0 b = true := by
  have c : g105_r6 a b = (false, default) := clean0 (g105_l4 a b) a.n (fun i => g105_m5 a b i) (fun _ => false) hn (fun _ _ => rfl) fun i hi => by
    show g105_m5 a b (i : Int) = false
    unfold g105_m5
    simp only [Int.toNat_natCast]
    obtain ⟨⟨e0, e1, e2, e3, e7⟩, ⟨s4, s5, s6⟩, n4, n5, n6⟩ := h.2 i hi
    rw [← e0, ← e1, ← e2, ← e3, ← e7, t103 s4 s5 s6 n4 n5 n6]
    simp only [ne_self, beq_self_eq_true, Bool.not_true, cond_false]
  have m : g105_m1 x0 a x0 b = false := by
    unfold g105_m1
    rw [h.1]
    simp only [ne_self, cond_false]
  unfold g105 g105_p7
  rw [m, c]; rfl
theorem t34 {x0 x2 : Int} {a b : Sl T175} {c d : Sl T137} (h : SlE R175 a b) (hn : a.n ≤ 549755813888) (k : SlE R137 c d) (kn : c.n ≤ 549755813888) : g34 x0 a x2 c x0 b x2 d = true := by
  have cl : g34_r8 c d = (false, default) := clean0 (g34_l5 c d) c.n (fun i => g34_m7 c d i) (fun _ => false) kn (fun _ _ => rfl) fun i hi => by
    show g34_m7 c d (i : Int) = false
    unfold g34_m7
    simp only [Int.toNat_natCast]
    obtain ⟨⟨e0, e1, e2, e3, e4, e5⟩, s6, n6⟩ := k.2 i hi
    rw [← e0, ← e1, ← e2, ← e3, ← e4, ← e5, t104 s6 n6]
    simp only [ne_self, Bool.not_true, cond_false]
  have m : g34_m1 x0 a x2 c x0 b x2 d = false := by
    unfold g34_m1
    rw [t105 h hn, k.1]
    simp only [ne_self, Bool.not_true, cond_false]
  unfold g34 g34_p9
  rw [m, cl]; rfl
end Go.Proofs.YtchhfojblmceiaaGreat
namespace Go.Proofs.YtchhfojblmceiaaGreat
open Go Go.Vc Go.RowKit
set_option maxRecDepth 100000
noncomputable def ef (s : Sl T175) (i : Nat) : List Int := tb (s.at' i).c0 ++ (vb (s.at' i).c1 (s.at' i).c2 (s.at' i).c3 (s.at' i).c4 (s.at' i).c5 (s.at' i).c6 ++ nb (s.at' i).c7)
noncomputable def kf (s : Sl T137) (i : Nat) : List Int := nb (s.at' i).c0 ++ (nb (s.at' i).c1 ++ (nb (s.at' i).c2 ++ (sb (s.at' i).c3 ++ (tb (s.at' i).c4 ++ (nb (s.at' i).c5 ++ tsb (s.at' i).c6)))))
noncomputable def mb (x0 : Int) (x1 : Sl T175) (x2 : Int) (x3 : Sl T137) : List Int := nb x0 ++ (sb (x1.n : Int) ++ (cat (ef x1) x1.n 0 ++ (nb x2 ++ (sb (x3.n : Int) ++ cat (kf x3) x3.n 0))))
theorem ef_len {s : Sl T175} {i : Nat} (h : EOK (s.at' i)) : (ef s i).length ≤ 2100 := by
  have a := tb_le h.1
  have b := vb_len (x0 := (s.at' i).c1) h.2.1
  unfold ef
  simp only [List.length_append, nb_len]
  omega
theorem kf_len {s : Sl T137} {i : Nat} (h : KOK (s.at' i)) : (kf s i).length ≤ 500 := by
  have a := tb_le h.2.1.2.1
  have b := tsb_len h.2.2
  unfold kf
  simp only [List.length_append, nb_len, sb_len]
  omega
theorem B90 {x0 : Int} {x1 : Sl T175} {x2 : Int} {x3 : Sl T137} (h : MOK x0 x1 x2 x3) : (g90_r2 x0 x1 x2 x3).B = mb x0 x1 x2 x3 := by
  have hm := h.1
  have h1 : (g90_r1 x0 x1).B = (g155 (x1.n : Int) (g154 x0 (nilSl : Sl Int))).B ++ cat (ef x1) x1.n 0 :=
    loopB0 (g90_l2 x1) x1.n 2100 _ (fun i s => g154 (x1.at' (Int.toNat i)).c7 (g157 (x1.at' (Int.toNat i)).c1 (x1.at' (Int.toNat i)).c2 (x1.at' (Int.toNat i)).c3 (x1.at' (Int.toNat i)).c4 (x1.at' (Int.toNat i)).c5 (x1.at' (Int.toNat i)).c6 (g156 (x1.at' (Int.toNat i)).c0 s))) (ef x1) (by omega) (fun _ _ _ => rfl) (fun i s hi _ => by
      have hz := h.2.1 i hi
      have z0 := hz.1
      have z7 := hz.2.2
      simp only [Int.toNat_natCast]
      refine ⟨?_, ef_len hz⟩
      rw [w_nb _ (by omega) (by omega), B157 _ _ _ _ _ _ _ hz.2.1, w_tb _ (by omega)]
      simp only [ef, List.append_assoc]) _ (Nat.le_refl _)
  have h2 : (g90_r2 x0 x1 x2 x3).B = (g155 (x3.n : Int) (g154 x2 (g90_r1 x0 x1))).B ++ cat (kf x3) x3.n 0 :=
    loopB0 (g90_l7 x3) x3.n 500 _ (fun i s => g158 (x3.at' (Int.toNat i)).c6 (g154 (x3.at' (Int.toNat i)).c5 (g156 (x3.at' (Int.toNat i)).c4 (g155 (x3.at' (Int.toNat i)).c3 (g154 (x3.at' (Int.toNat i)).c2 (g154 (x3.at' (Int.toNat i)).c1 (g154 (x3.at' (Int.toNat i)).c0 s))))))) (kf x3) (by omega) (fun _ _ _ => rfl) (fun i s hi _ => by
      have hz := h.2.2 i hi
      have z0 := hz.1
      have z1 := hz.2.1
      simp only [Int.toNat_natCast]
      refine ⟨?_, kf_len hz⟩
      rw [B158 _ _ hz.2.2, w_nb _ (by omega) (by omega), w_tb _ (by omega), w_sb, w_nb _ (by omega) (by omega), w_nb _ (by omega) (by omega), w_nb _ (by omega) (by omega)]
      simp only [kf, List.append_assoc]) _ (Nat.le_refl _)
  rw [h2, w_sb, w_nb _ (by omega) (by omega), h1, w_sb, w_nb _ (by omega) (by omega), B_nil]
  simp only [mb, List.append_assoc, List.nil_append]
end Go.Proofs.YtchhfojblmceiaaGreat
/-
  Walks: what functions of the program answer, as functions.
-/
namespace Go.Proofs.YtchhfojblmceiaaGreat
open Go Go.Vc Go.RowKit
set_option maxRecDepth 100000
set_option maxHeartbeats 4000000
noncomputable def g205_m1 (x0 : Int) (x1 : Sl Int) (x2 : Bool) : Bool := (bif x2 then true else (decide ((x1.n : Int) < x0)))
noncomputable def g205 (x0 : Int) (x1 : Sl Int) (x2 : Bool) : Sl Int := (bif (g205_m1 x0 x1 x2) then (nilSl : Sl Int) else (Sl.part x1 0 x0))
noncomputable def g205_h0_0 (x0 : Int) (x1 : Sl Int) (x2 : Bool) : Sl Int := (bif (g205_m1 x0 x1 x2) then x1 else (Sl.part x1 x0 ((x1.n : Nat) : Int)))
noncomputable def g205_h0_1 (x0 : Int) (x1 : Sl Int) (x2 : Bool) : Bool := (bif (g205_m1 x0 x1 x2) then true else x2)
noncomputable def F205 : Hq := ⟨[.p 0, .v kI], [(.h 0 0, .sl E5), (.h 0 1, kB)], [[U, U]], fun (x0 : Int) x1 x2 => ⟨⟨some (0 ≤ x0), [ofSl 1 e5 (g205 x0 x1 x2)], [[ofSl 1 e5 (g205_h0_0 x0 x1 x2), .bool (g205_h0_1 x0 x1 x2)]]⟩⟩⟩
theorem pc205 : HqOk Tryz.prog 130 F205 _ (F205.sh.flatMap Sh.bs) F205.f [] :=
  fun (x0 : Int) x1 n1 x2 hp => heap_of_exec (X := (mkXh 1 [] [])) (R := ⟨.heap, [.tmp 4], [(.t 0, .sl E5), (.h 0 0, .sl E5), (.h 0 1, kB)], ⟨[U], [[U, U]]⟩⟩) (h := (.s .z (.s (.j ⟨262163, [], [(.t 18, kB)], [], .f⟩ .z .z) .z))) (ms := []) (p := ((g205_m1 x0 x1 x2) = false → ((((0 : Int) ≤ 0) ∧ ((0 : Int) ≤ x0) ∧ ((x0 : Int) ≤ x0) ∧ ((x0 : Int) ≤ ((x1.n : Nat) : Int))) ∧ (((0 : Int) ≤ x0) ∧ ((x0 : Int) ≤ ((x1.n : Nat) : Int)) ∧ ((((x1.n : Nat) : Int) : Int) ≤ ((x1.n : Nat) : Int)) ∧ ((((x1.n : Nat) : Int) : Int) ≤ ((x1.n : Nat) : Int)))))) (mkXh_ok trivial trivial) Tryz.func130 rfl rfl rfl (by kernel_rfl) ((fun h1 => ⟨(by have := h1; simp [g205_m1] at this; omega), (by have := h1; simp [g205_m1] at this; omega)⟩))
theorem k205 : XHOk Tryz.prog 130 F205.ans := Hq.ok ⟨_, _, Tryz.func130, rfl, by kernel_rfl⟩ (by kernel_rfl) pc205
theorem u205 {x0 : Int} {x1 : Sl Int} {x2 : Bool} (h : U8 x1) : U8 (g205_h0_0 x0 x1 x2) := by
  unfold g205_h0_0
  cases g205_m1 x0 x1 x2
  · exact fun i => h _
  · exact h
theorem v205 {x0 : Int} {x1 : Sl Int} {x2 : Bool} (h : U8 x1) : U8 (g205 x0 x1 x2) := by
  unfold g205
  cases g205_m1 x0 x1 x2
  · exact fun i => h _
  · exact fun i => ⟨by show (0 : Int) ≤ default; decide, by show (default : Int) ≤ 255; decide⟩
theorem len205 (x0 : Int) (x1 : Sl Int) (x2 : Bool) : (g205 x0 x1 x2).n ≤ Int.toNat x0 := by
  unfold g205
  cases g205_m1 x0 x1 x2
  · simp only [cond_false, Sl.part_n]; omega
  · simp only [cond_true, nilSl_n]; omega
noncomputable def g161_l1 (x0 : Sl Int) (x1 : Bool) : Nat → Int → Int → Int
  | 0, _, _ => default
  | k + 1, v1_0, v1_1 => (bif (decide (v1_1 < ((g205 8 x0 x1).n : Int))) then (g161_l1 x0 x1 k (bits .or .u64 (IntKind.u64.wrap (v1_0 * 2 ^ (Int.toNat 8))) (IntKind.u64.wrap ((g205 8 x0 x1).at' (Int.toNat v1_1)))) (IntKind.i64.wrap (v1_1 + 1))) else v1_0)
noncomputable def g161_r1 (x0 : Sl Int) (x1 : Bool) : Int := g161_l1 x0 x1 ((Int.toNat (((g205 8 x0 x1).n : Int) - 0)) + 1) 0 0
noncomputable def g161 (x0 : Sl Int) (x1 : Bool) : Int := (IntKind.i64.wrap (IntKind.u64.wrap ((g161_r1 x0 x1) - 4611686018427387904)))
noncomputable def g161_h0_0 (x0 : Sl Int) (x1 : Bool) : Sl Int := (g205_h0_0 8 x0 x1)
noncomputable def g161_h0_1 (x0 : Sl Int) (x1 : Bool) : Bool := (g205_h0_1 8 x0 x1)
noncomputable def F161 : Hq := ⟨[.p 0], [(.h 0 0, .sl E5), (.h 0 1, kB)], [[U, U]], fun x0 x1 => ⟨⟨none, [.int .i64 (g161 x0 x1)], [[ofSl 1 e5 (g161_h0_0 x0 x1), .bool (g161_h0_1 x0 x1)]]⟩⟩⟩
theorem pc161 : HqOk Tryz.prog 79 F161 _ (F161.sh.flatMap Sh.bs) F161.f [] :=
  fun x0 n0 x1 => heap_of_exec (X := (mkXh 1 [] [(130, F205.ans)])) (R := ⟨.heap, [.tmp 2], [(.t 0, kI), (.h 0 0, .sl E5), (.h 0 1, kB)], ⟨[U], [[U, U]]⟩⟩) (h := (.s .z (.s .z (.j ⟨12, [], [], [], .f⟩ (.s .z (.lp ⟨908, [], [], [(.t 3, .int .u64), (.t 9, kI)], some 0, false, 12, [], [(.t 3, .int .u64)], fun k (s : Int × Int) => g161_l1 x0 x1 k s.1 s.2, .f, fun (s : Int × Int) => (0 ≤ s.2 ∧ s.2 ≤ ((g205 8 x0 x1).n : Int)), fun (s : Int × Int) => (Int.toNat (((g205 8 x0 x1).n : Int) - s.2)), none⟩ .z)) .z)))) (ms := []) (p := ((0 ≤ (8 : Int)) ∧ (((0 ≤ (0 : Int) ∧ (0 : Int) ≤ ((g205 8 x0 x1).n : Int))) ∧ (∀ (v1_0 : Int) (v1_1 : Int), (0 ≤ v1_1 ∧ v1_1 ≤ ((g205 8 x0 x1).n : Int)) → (((decide (v1_1 < ((g205 8 x0 x1).n : Int))) = true → (((0 : Int) ≤ v1_1 ∧ v1_1 < (((g205 8 x0 x1).n : Nat) : Int)) ∧ ((0 : Int) ≤ 8 ∧ (8 : Int) ≤ 64))) ∧ ((decide (v1_1 < ((g205 8 x0 x1).n : Int))) = true → ((0 ≤ (IntKind.i64.wrap (v1_1 + 1)) ∧ (IntKind.i64.wrap (v1_1 + 1)) ≤ ((g205 8 x0 x1).n : Int)) ∧ (Int.toNat (((g205 8 x0 x1).n : Int) - (IntKind.i64.wrap (v1_1 + 1)))) < (Int.toNat (((g205 8 x0 x1).n : Int) - v1_1))))))))) (mkXh_ok trivial ⟨k205, trivial⟩) Tryz.func79 rfl rfl rfl (by kernel_rfl) (⟨(by omega), ⟨(by have := len205 8 x0 x1; omega), (fun v1_0 v1_1 hI1 => ⟨(fun h2 => ⟨(by have := of_decide_eq_true h2; have := len205 8 x0 x1; omega), (by have := of_decide_eq_true h2; have := len205 8 x0 x1; omega)⟩), (fun h3 => (by have := of_decide_eq_true h3; have := len205 8 x0 x1; first | omega | (have := wrap64 (x := (v1_1 + 1)) (by omega) (by omega); omega)))⟩)⟩⟩)
theorem k161 : XHOk Tryz.prog 79 F161.ans := Hq.ok ⟨_, _, Tryz.func79, rfl, by kernel_rfl⟩ (by kernel_rfl) pc161
theorem u161 {x0 : Sl Int} {x1 : Bool} (h : U8 x0) : U8 (g161_h0_0 x0 x1) := u205 h
noncomputable def g167 (x0 : Sl Int) (x1 : Bool) : Int := (bif (decide (0 < ((g205 1 x0 x1).n : Int))) then (IntKind.i64.wrap ((g205 1 x0 x1).at' (Int.toNat 0))) else 0)
noncomputable def g167_h0_0 (x0 : Sl Int) (x1 : Bool) : Sl Int := (g205_h0_0 1 x0 x1)
noncomputable def g167_h0_1 (x0 : Sl Int) (x1 : Bool) : Bool := (g205_h0_1 1 x0 x1)
noncomputable def F167 : Hq := ⟨[.p 0], [(.h 0 0, .sl E5), (.h 0 1, kB)], [[U, U]], fun x0 x1 => ⟨⟨none, [.int .i64 (g167 x0 x1)], [[ofSl 1 e5 (g167_h0_0 x0 x1), .bool (g167_h0_1 x0 x1)]]⟩⟩⟩
theorem pc167 : HqOk Tryz.prog 85 F167 _ (F167.sh.flatMap Sh.bs) F167.f [] :=
  fun x0 n0 x1 => heap_of_exec (X := (mkXh 1 [] [(130, F205.ans)])) (R := ⟨.heap, [.tmp 2], [(.t 0, kI), (.h 0 0, .sl E5), (.h 0 1, kB)], ⟨[U], [[U, U]]⟩⟩) (h := (.s .z (.s (.s .z (.l1 .z)) .z))) (ms := [.f, .l, .l]) (p := ((0 ≤ (1 : Int)) ∧ ((decide (0 < ((g205 1 x0 x1).n : Int))) = true → ((0 : Int) ≤ 0 ∧ 0 < (((g205 1 x0 x1).n : Nat) : Int))))) (mkXh_ok trivial ⟨k205, trivial⟩) Tryz.func85 rfl rfl rfl (by kernel_rfl) (⟨(by omega), (fun h1 => (by have := of_decide_eq_true h1; have := len205 1 x0 x1; omega))⟩)
theorem k167 : XHOk Tryz.prog 85 F167.ans := Hq.ok ⟨_, _, Tryz.func85, rfl, by kernel_rfl⟩ (by kernel_rfl) pc167
theorem u167 {x0 : Sl Int} {x1 : Bool} (h : U8 x0) : U8 (g167_h0_0 x0 x1) := u205 h
theorem r167 (x0 : Sl Int) (x1 : Bool) (h : U8 x0) : 0 ≤ g167 x0 x1 ∧ g167 x0 x1 ≤ 255 := by
  unfold g167
  have h2 : 0 ≤ (g205 1 x0 x1).at' (Int.toNat 0) ∧ (g205 1 x0 x1).at' (Int.toNat 0) ≤ 255 := v205 h _
  cases decide (0 < ((g205 1 x0 x1).n : Int))
  · simp
  · simp only [cond_true]; rw [wrap64 (by omega) (by omega)]; exact h2
noncomputable def g164 (x0 : Sl Int) (x1 : Bool) : ByteArray := (Sl.toStr (g205 (g167 x0 x1) (g167_h0_0 x0 x1) (g167_h0_1 x0 x1)))
noncomputable def g164_h0_0 (x0 : Sl Int) (x1 : Bool) : Sl Int := (g205_h0_0 (g167 x0 x1) (g167_h0_0 x0 x1) (g167_h0_1 x0 x1))
noncomputable def g164_h0_1 (x0 : Sl Int) (x1 : Bool) : Bool := (g205_h0_1 (g167 x0 x1) (g167_h0_0 x0 x1) (g167_h0_1 x0 x1))
noncomputable def F164 : Hq := ⟨[.p 0], [(.h 0 0, .sl E5), (.h 0 1, kB)], [[U, U]], fun x0 x1 => ⟨⟨some (U8 x0), [.str (g164 x0 x1)], [[ofSl 1 e5 (g164_h0_0 x0 x1), .bool (g164_h0_1 x0 x1)]]⟩⟩⟩
theorem pc164 : HqOk Tryz.prog 82 F164 _ (F164.sh.flatMap Sh.bs) F164.f [] :=
  fun x0 n0 x1 hp => heap_of_exec (X := (mkXh 1 [] [(85, F167.ans), (130, F205.ans)])) (R := ⟨.heap, [.tmp 2], [(.t 0, kS), (.h 0 0, .sl E5), (.h 0 1, kB)], ⟨[U], [[U, U]]⟩⟩) (h := .z) (ms := []) (p := (0 ≤ (g167 x0 x1))) (mkXh_ok trivial ⟨k167, k205, trivial⟩) Tryz.func82 rfl rfl rfl (by kernel_rfl) ((by have := r167 x0 x1 (by repeat first | assumption | apply u205 | apply u161 | apply u167 | apply u164 | apply u227 | apply u202); omega))
theorem k164 : XHOk Tryz.prog 82 F164.ans := Hq.ok ⟨_, _, Tryz.func82, rfl, by kernel_rfl⟩ (by kernel_rfl) pc164
theorem u164 {x0 : Sl Int} {x1 : Bool} (h : U8 x0) : U8 (g164_h0_0 x0 x1) := u205 (u167 h)
noncomputable def g227_h0_0 (x0 : Sl Int) (x1 : Bool) : Sl Int := (g161_h0_0 (g164_h0_0 (g164_h0_0 (g164_h0_0 (g167_h0_0 x0 x1) (g167_h0_1 x0 x1)) (g164_h0_1 (g167_h0_0 x0 x1) (g167_h0_1 x0 x1))) (g164_h0_1 (g164_h0_0 (g167_h0_0 x0 x1) (g167_h0_1 x0 x1)) (g164_h0_1 (g167_h0_0 x0 x1) (g167_h0_1 x0 x1)))) (g164_h0_1 (g164_h0_0 (g164_h0_0 (g167_h0_0 x0 x1) (g167_h0_1 x0 x1)) (g164_h0_1 (g167_h0_0 x0 x1) (g167_h0_1 x0 x1))) (g164_h0_1 (g164_h0_0 (g167_h0_0 x0 x1) (g167_h0_1 x0 x1)) (g164_h0_1 (g167_h0_0 x0 x1) (g167_h0_1 x0 x1)))))
theorem u227 {x0 : Sl Int} {x1 : Bool} (h : U8 x0) : U8 (g227_h0_0 x0 x1) := u161 (u164 (u164 (u164 (u167 h))))
noncomputable def g149_m1 (x0 : Bool) (x1 : Sl Int) : Bool := (bif (!x0) then true else (decide ((x1.n : Int) > 0)))
noncomputable def g149 (x0 : Bool) (x1 : Sl Int) (x2 : Bool) : Int := (bif x2 then 9 else (bif (g149_m1 x0 x1) then 8 else 0))
noncomputable def F149 : Hq := ⟨[.p 0, .v kB], [(.h 0 0, .sl E5), (.h 0 1, kB)], [[U, U]], fun x0 x1 x2 => ⟨⟨none, [.int .i64 (g149 x0 x1 x2)], [[ofSl 1 e5 x1, .bool x2]]⟩⟩⟩
theorem pc149 : HqOk Tryz.prog 87 F149 _ (F149.sh.flatMap Sh.bs) F149.f [] :=
  fun x0 x1 _ x2 => heap_of_exec (X := (mkXh 1 [] [])) (R := ⟨.heap, [.tmp 4], [(.t 0, kI), (.h 0 0, .sl E5), (.h 0 1, kB)], ⟨[U], [[U, U]]⟩⟩) (h := (.s .z (.s (.s .z (.s .z (.j ⟨1040, [], [(.t 10, kB)], [], .f⟩ .z .z))) .z))) (ms := [.f, .l, .l]) (p := True) (mkXh_ok trivial trivial) Tryz.func87 rfl rfl rfl (by kernel_rfl) (trivial)
theorem k149 : XHOk Tryz.prog 87 F149.ans := Hq.ok ⟨_, _, Tryz.func87, rfl, by kernel_rfl⟩ (by kernel_rfl) pc149
end Go.Proofs.YtchhfojblmceiaaGreat
