/-
  Walks: what functions of the program answer, as functions.
-/
import Derived.Test.YtchhfojblmceiaaGreatCl
import Derived.Test.YtchhfojblmceiaaGreatEc
import Derived.Test.YtchhfojblmceiaaGreatGA
import Derived.Test.YtchhfojblmceiaaGreatGB
import Derived.Test.YtchhfojblmceiaaGreatVcH
import Derived.Test.YtchhfojblmceiaaGreatGC
import Derived.Test.YtchhfojblmceiaaGreatVcN
import Derived.Test.YtchhfojblmceiaaGreatGD
namespace Go.Proofs.YtchhfojblmceiaaGreat
open Go Go.Vc Go.RowKit
set_option maxRecDepth 100000
set_option maxHeartbeats 4000000
noncomputable def g1016_m1 (x2 : Int) : Bool := (bif (decide (x2 < 0)) then true else (decide (x2 > 1073741824)))
noncomputable def g1016_0_0 (x0 : Int) (x1 : Sl T175) (x2 : Int) (x3 : Int) (x4 : ByteArray) (x5 : ByteArray) (x6 : ByteArray) (x7 : Int) : Int := (bif ((g78 x0 x1) != 0) then 0 else (bif (g1016_m1 x2) then 0 else (bif ((g47 x3 x4 x5 x6 x7) != 0) then 0 else (g1049 (imax (g1049 x0) x2)))))
noncomputable def g1016_0_1 (x0 : Int) (x1 : Sl T175) (x2 : Int) (x3 : Int) (x4 : ByteArray) (x5 : ByteArray) (x6 : ByteArray) (x7 : Int) : Sl T175 := (bif ((g78 x0 x1) != 0) then (nilSl : Sl T175) else (bif (g1016_m1 x2) then (nilSl : Sl T175) else (bif ((g47 x3 x4 x5 x6 x7) != 0) then (nilSl : Sl T175) else (g1049_h0_0 (g1052_h2_0 x3 x4 x5 x6 x7 (imax (g1049 x0) x2) (g1050_1051p_h3_0 (imax (g1049 x0) x2) 0 false (g1049_h0_0 x1)))))))
noncomputable def g1016_1_0 (x0 : Int) (x1 : Sl T175) (x2 : Int) (x3 : Int) (x4 : ByteArray) (x5 : ByteArray) (x6 : ByteArray) (x7 : Int) : Int := (bif ((g78 x0 x1) != 0) then 0 else (bif (g1016_m1 x2) then 0 else (bif ((g47 x3 x4 x5 x6 x7) != 0) then 0 else (g1052_0 x3 x4 x5 x6 x7 (imax (g1049 x0) x2) (g1050_1051p_h3_0 (imax (g1049 x0) x2) 0 false (g1049_h0_0 x1))))))
noncomputable def g1016_1_1 (x0 : Int) (x1 : Sl T175) (x2 : Int) (x3 : Int) (x4 : ByteArray) (x5 : ByteArray) (x6 : ByteArray) (x7 : Int) : ByteArray := (bif ((g78 x0 x1) != 0) then ⟨#[]⟩ else (bif (g1016_m1 x2) then ⟨#[]⟩ else (bif ((g47 x3 x4 x5 x6 x7) != 0) then ⟨#[]⟩ else (g1052_1 x3 x4 x5 x6 x7 (g1050_1051p_h3_0 (imax (g1049 x0) x2) 0 false (g1049_h0_0 x1))))))
noncomputable def g1016_1_2 (x0 : Int) (x1 : Sl T175) (x2 : Int) (x3 : Int) (x4 : ByteArray) (x5 : ByteArray) (x6 : ByteArray) (x7 : Int) : Int := (bif ((g78 x0 x1) != 0) then 0 else (bif (g1016_m1 x2) then 0 else (bif ((g47 x3 x4 x5 x6 x7) != 0) then 0 else (g1052_2 x3 x4 x5 x6 x7 (imax (g1049 x0) x2) (g1050_1051p_h3_0 (imax (g1049 x0) x2) 0 false (g1049_h0_0 x1))))))
noncomputable def g1016_1_3 (x0 : Int) (x1 : Sl T175) (x2 : Int) (x3 : Int) (x4 : ByteArray) (x5 : ByteArray) (x6 : ByteArray) (x7 : Int) : Sl ByteArray := (bif ((g78 x0 x1) != 0) then (nilSl : Sl ByteArray) else (bif (g1016_m1 x2) then (nilSl : Sl ByteArray) else (bif ((g47 x3 x4 x5 x6 x7) != 0) then (nilSl : Sl ByteArray) else (g1052_3 x3 x4 x5 x6 x7 (g1050_1051p_h3_0 (imax (g1049 x0) x2) 0 false (g1049_h0_0 x1))))))
noncomputable def g1016_2 (x0 : Int) (x1 : Sl T175) (x2 : Int) (x3 : Int) (x4 : ByteArray) (x5 : ByteArray) (x6 : ByteArray) (x7 : Int) : Int := (bif ((g78 x0 x1) != 0) then (g78 x0 x1) else (bif (g1016_m1 x2) then 2 else (bif ((g47 x3 x4 x5 x6 x7) != 0) then (g47 x3 x4 x5 x6 x7) else 0)))
noncomputable def F1016 : Fq := ⟨[.g [kI, .sl E175], .v kI, .g [kI, kS, kS, kS, kI]], fun (x0 : Int) x1 (x2 : Int) (x3 : Int) x4 x5 x6 (x7 : Int) => ⟨⟨some (CE x1), .tup [.agg [.int .i64 (g1016_0_0 x0 x1 x2 x3 x4 x5 x6 x7), ofSl 8 e175 (g1016_0_1 x0 x1 x2 x3 x4 x5 x6 x7)], .agg [.int .i64 (g1016_1_0 x0 x1 x2 x3 x4 x5 x6 x7), .str (g1016_1_1 x0 x1 x2 x3 x4 x5 x6 x7), .int .i64 (g1016_1_2 x0 x1 x2 x3 x4 x5 x6 x7), ofSl 1 e9 (g1016_1_3 x0 x1 x2 x3 x4 x5 x6 x7)], .int .i64 (g1016_2 x0 x1 x2 x3 x4 x5 x6 x7)]⟩⟩⟩
theorem pc1016 : FnOk Tryz.prog 16 F1016.sh _ (F1016.sh.flatMap Sh.bs) F1016.f [] :=
  fun (x0 : Int) x1 n1 _ (x2 : Int) (x3 : Int) x4 n4 x5 n5 x6 n6 (x7 : Int) hp => pure_of_exec (X := (mkXh 0 [(48, F47.ans), (47, F78.ans)] [(49, F1049.ans), (50, F1050_1051p.ans), (52, F1052.ans)])) (R := ⟨.pure, [.cell 6 36, .cell 7 56, .tmp 8], [(.c 0 0, kI), (.c 0 1, .sl E175), (.c 1 0, kI), (.c 1 1, kS), (.c 1 2, kI), (.c 1 3, .sl E9), (.t 2, kI)], ⟨[.agg (us 2 []), .agg (us 4 []), U], []⟩⟩) (h := (.s .z (.s .z (.s (.j ⟨33554922, [], [(.t 25, kB)], [], .f⟩ .z .z) (.s .z (.s .z (.s .z (.s .z (.s .z (.s (.cv [(.h 5 1, E175)]) .z)))))))))) (ms := []) (p := (((g78 x0 x1) != 0) = false → ((g1016_m1 x2) = false → (((g47 x3 x4 x5 x6 x7) != 0) = false → (((g1049_h0_0 x1).n ≤ 1000000) ∧ (SS (g1050_1051p_h3_0 (imax (g1049 x0) x2) 0 false (g1049_h0_0 x1)) ∧ (g1050_1051p_h3_0 (imax (g1049 x0) x2) 0 false (g1049_h0_0 x1)).n ≤ 1000000)))))) (mkXh_ok ⟨k47, k78, trivial⟩ ⟨k1049, k1050_1051p, k1052, trivial⟩) Tryz.func16 rfl rfl (by kernel_rfl) ((fun h1 => (fun h2 => (fun h3 => ⟨(by have := bne_eq_false_iff_eq.1 h1; have := h2; simp [g1016_m1] at this; have := bne_eq_false_iff_eq.1 h3; have := n1016a x1 (by repeat first | assumption | apply ss1016 | apply sv1017 | apply sv1056 | apply th1106 | apply ce85 | apply cc85' | apply vok_t | apply rmok | apply And.intro | apply ce95 | apply cc95); omega), ⟨(by have := bne_eq_false_iff_eq.1 h1; have := h2; simp [g1016_m1] at this; have := bne_eq_false_iff_eq.1 h3; repeat first | assumption | apply ss1016 | apply sv1017 | apply sv1056 | apply th1106 | apply ce85 | apply cc85' | apply vok_t | apply rmok | apply And.intro | apply ce95 | apply cc95), (by have := bne_eq_false_iff_eq.1 h1; have := h2; simp [g1016_m1] at this; have := bne_eq_false_iff_eq.1 h3; have := imax_spec (g1049 x0) x2; have := n1016a x1 (by repeat first | assumption | apply ss1016 | apply sv1017 | apply sv1056 | apply th1106 | apply ce85 | apply cc85' | apply vok_t | apply rmok | apply And.intro | apply ce95 | apply cc95); have := n1016b (imax (g1049 x0) x2) 0 false (g1049_h0_0 x1) (by omega); omega)⟩⟩))))
theorem k1016 : XOk Tryz.prog 16 F1016.ans := Fq.ok ⟨_, _, Tryz.func16, rfl, by kernel_rfl⟩ pc1016
end Go.Proofs.YtchhfojblmceiaaGreat
/-
  Walks: what functions of the program answer, as functions.
-/
namespace Go.Proofs.YtchhfojblmceiaaGreat
open Go Go.Vc Go.RowKit
set_option maxRecDepth 100000
set_option maxHeartbeats 4000000
noncomputable def g1005_m1 (x0 : Int) (x1 : Sl T175) (x2 : Int) (x3 : Int) (x4 : ByteArray) (x5 : ByteArray) (x6 : ByteArray) (x7 : Int) : Bool := (bif ((g1016_2 (g79_0 x0) (g79_1 x1) x2 x3 x4 x5 x6 x7) == (g1017_2 x0 x1 x2 x3 x4 x5 x6 x7)) then (bif (g105 (g1016_0_0 (g79_0 x0) (g79_1 x1) x2 x3 x4 x5 x6 x7) (g1016_0_1 (g79_0 x0) (g79_1 x1) x2 x3 x4 x5 x6 x7) (g1017_0_0 x0 x1 x2 x3 x4 x5 x6 x7) (g1017_0_1 x0 x1 x2 x3 x4 x5 x6 x7)) then (bif (g104 (g1016_1_0 (g79_0 x0) (g79_1 x1) x2 x3 x4 x5 x6 x7) (g1016_1_1 (g79_0 x0) (g79_1 x1) x2 x3 x4 x5 x6 x7) (g1016_1_2 (g79_0 x0) (g79_1 x1) x2 x3 x4 x5 x6 x7) (g1016_1_3 (g79_0 x0) (g79_1 x1) x2 x3 x4 x5 x6 x7) (g1017_1_0 x0 x1 x2 x3 x4 x5 x6 x7) (g1017_1_1 x0 x1 x2 x3 x4 x5 x6 x7) (g1017_1_2 x0 x1 x2 x3 x4 x5 x6 x7) (g1017_1_3 x0 x1 x2 x3 x4 x5 x6 x7)) then (g105 (g79_0 x0) (g79_1 x1) x0 x1) else false) else false) else false)
noncomputable def g1005 (x0 : Int) (x1 : Sl T175) (x2 : Int) (x3 : Int) (x4 : ByteArray) (x5 : ByteArray) (x6 : ByteArray) (x7 : Int) : Bool := (g1005_m1 x0 x1 x2 x3 x4 x5 x6 x7)
noncomputable def F1005 : Fq := ⟨[.g [kI, .sl E175], .v kI, .g [kI, kS, kS, kS, kI]], fun (x0 : Int) x1 (x2 : Int) (x3 : Int) x4 x5 x6 (x7 : Int) => ⟨⟨some (CE x1), .bool (g1005 x0 x1 x2 x3 x4 x5 x6 x7)⟩⟩⟩
theorem pc1005 : FnOk Tryz.prog 5 F1005.sh _ (F1005.sh.flatMap Sh.bs) F1005.f [] :=
  fun (x0 : Int) x1 _ _ (x2 : Int) (x3 : Int) x4 _ x5 _ x6 _ (x7 : Int) hp => pure_of_exec (X := (mkX [(15, F79.ans), (19, F104.ans), (18, F105.ans), (16, F1016.ans), (17, F1017.ans)])) (R := ⟨.pure, [.tmp 6], [(.t 0, kB)], ⟨[U], []⟩⟩) (h := (.s .z (.s .z (.s .z (.s .z (.j ⟨64, [.b 0, .b 1, .b 2, .b 3, .b 4, .b 5, .b 6], [(.t 6, kB)], [], .f⟩ .z .z)))))) (ms := []) (p := ((CE (g79_1 x1)) ∧ (CE x1))) (mkX_ok ⟨k79, k104, k105, k1016, k1017, trivial⟩) Tryz.func5 rfl rfl (by kernel_rfl) (⟨(by repeat first | assumption | apply ss1016 | apply sv1017 | apply sv1056 | apply th1106 | apply ce85 | apply cc85' | apply vok_t | apply rmok | apply And.intro | apply ce95 | apply cc95), (by repeat first | assumption | apply ss1016 | apply sv1017 | apply sv1056 | apply th1106 | apply ce85 | apply cc85' | apply vok_t | apply rmok | apply And.intro | apply ce95 | apply cc95)⟩)
end Go.Proofs.YtchhfojblmceiaaGreat
/-
  store.Apply: the law.
-/
namespace Go.Proofs.YtchhfojblmceiaaGreat
open Go Go.Vc Go.RowKit
set_option maxRecDepth 100000
set_option maxHeartbeats 4000000
theorem B1056 (x0 : Int) (s : Sl T175) (x2 : Int) (hn : s.n ≤ 1000000) : (g1056_r5 x0 s x2).B = s.B.filter (keepE (g1056_m1 x0 x2)) := by
  have h := fold0 (fun n i (st : Sl T175) => g1056_l3 x0 s x2 n i st) s.n (fun j st => g1056_m4 x0 s x2 (j : Int) st) id (by omega) (fun n i st => by
    show (bif decide (i < (s.n : Int)) then _ else _) = _
    cases e : decide (i < (s.n : Int)) with
    | false => rfl
    | true => simp only [cond_true, g1056_m4, g1056_m3, Int.toNat_natCast]) nilSl
  have h2 : g1056_r5 x0 s x2 = _ := h
  rw [h2]
  have key : ∀ (l : List Nat) (a : Sl T175), (l.foldl (fun st (j : Nat) => g1056_m4 x0 s x2 (j : Int) st) a).B = a.B ++ (l.map fun j => s.at' j).filter (keepE (g1056_m1 x0 x2)) := by
    intro l
    induction l with
    | nil => intro a; simp
    | cons j l ih =>
      intro a
      rw [List.foldl_cons, ih, List.map_cons]
      have hm : (g1056_m4 x0 s x2 (j : Int) a).B = a.B ++ (if keepE (g1056_m1 x0 x2) (s.at' j) then [s.at' j] else []) := by
        unfold g1056_m4 g1056_m3
        rw [Int.toNat_natCast]
        have e : (bif ((s.at' j).c7 == 0) then true else (decide ((s.at' j).c7 > (g1056_m1 x0 x2)))) = keepE (g1056_m1 x0 x2) (s.at' j) := by
          unfold keepE g1051p g1051p_m1
          by_cases h : (s.at' j).c7 = 0
          · simp [h]
          · rw [show ((s.at' j).c7 == 0) = false from beq_eq_false_iff_ne.2 h, show ((s.at' j).c7 != 0) = true from bne_iff_ne.2 h]
            simp only [cond_true, cond_false]
            by_cases g : (s.at' j).c7 > g1056_m1 x0 x2
            · rw [decide_eq_true g, decide_eq_false (by omega)]; rfl
            · rw [decide_eq_false g, decide_eq_true (by omega)]; rfl
        rw [e]
        cases keepE (g1056_m1 x0 x2) (s.at' j) with
        | false => simp
        | true => simp [B_app, B_lit]
      rw [hm, List.append_assoc, List.filter_cons]
      congr 1
      cases keepE (g1056_m1 x0 x2) (s.at' j) with
      | false => rfl
      | true => rfl
  have := key (List.range s.n) nilSl
  rw [B_nil, List.nil_append] at this
  exact this
theorem now_eq (x0 x2 : Int) : imax (g1049 x0) x2 = g1056_m1 x0 x2 := by
  have h := imax_spec (g1049 x0) x2
  unfold g1056_m1
  have e : g1049 x0 = x0 := rfl
  rw [e] at h ⊢
  by_cases c : x2 > x0
  · rw [decide_eq_true c]; simp only [cond_true]; omega
  · rw [decide_eq_false c]; simp only [cond_false]; omega
theorem same_of {a b : Sl T175} (h : a.B.map cE = b.B.map cE) (hz : ∀ e ∈ a.B, Z3 e) : SlE R175 a b := by
  have hn : a.n = b.n := by
    have := congrArg List.length h
    simpa [B_len] using this
  refine ⟨hn, fun i hi => ?_⟩
  have h1 : (a.B.map cE)[i]? = (b.B.map cE)[i]? := by rw [h]
  rw [List.getElem?_map, List.getElem?_map, B_some, B_some, if_pos hi, if_pos (by omega)] at h1
  have h2 := Option.some.inj h1
  unfold cE at h2
  simp only [Prod.mk.injEq] at h2
  obtain ⟨e0, e1, e2, e3, e4, e5, e6, e7⟩ := h2
  obtain ⟨z1, z2, z3⟩ := hz _ (at_mem hi)
  have sl : ∀ {α : Type} {u v : Sl α}, u.B = v.B → SlE Eq u v := fun {α u v} huv => ⟨nB' huv, fun j hj => at_of_B huv hj⟩
  exact ⟨⟨e0, e1, e2, e3, e7⟩, ⟨sl e4, sl e5, sl e6⟩, by omega, by omega, by omega⟩
theorem B79 (s : Sl T175) (hn : s.n ≤ 549755813888) (hz : ∀ e ∈ s.B, Z3 e) : (g79_1 s).B.map cE = s.B.map cE := by
  have h := mapB (g79_l1 s) s (fun x => (⟨x.c0, g73_0 x.c1, g73_1 x.c2, g73_2 x.c3, g73_3 x.c4, g73_4 x.c5, g73_5 x.c6, x.c7⟩ : T175)) hn (fun _ _ _ => rfl) nilSl
  rw [B_nil, List.nil_append] at h
  have h : (g79_1 s).B = _ := h
  rw [h, List.map_map]
  refine List.map_congr_left fun e he => ?_
  obtain ⟨z1, z2, z3⟩ := hz e he
  simp only [Function.comp, cE, g73_0, g73_1, g73_2]
  rw [B73_3 _ (by omega), B73_4 _ (by omega), B73_5 _ (by omega)]
theorem bif_n {α : Type} {b : Bool} {u v : Sl α} {k : Nat} (h1 : u.n ≤ k) (h2 : v.n ≤ k) : (bif b then u else v).n ≤ k := by cases b <;> assumption
theorem n1052h {x0 : Int} {x1 x2 x3 : ByteArray} {x4 now : Int} {s : Sl T175} : (g1052_h2_0 x0 x1 x2 x3 x4 now s).n ≤ s.n + 1 := by
  have hd : ∀ i, (g1107_h2_0 i s).n ≤ s.n + 1 := fun i => Nat.le_trans (Nat.sub_le _ _) (Nat.le_succ _)
  have hs : s.n ≤ s.n + 1 := Nat.le_succ _
  have hm : ∀ k i f, (g1110_m1 k i f s).n ≤ s.n + 1 := fun k i f => bif_n (Nat.le_refl _) hs
  refine bif_n hs (bif_n (bif_n hs (hd _)) (bif_n ?_ (bif_n ?_ hs)))
  · exact bif_n hs (bif_n hs (bif_n hs hs))
  · exact bif_n hs (bif_n (hd _) (bif_n (bif_n (hm _ _ _) (hm _ _ _)) hs))
theorem law1005 (x0 : Int) (x1 : Sl T175) (x2 : Int) (x3 : Int) (x4 x5 x6 : ByteArray) (x7 : Int) (_ : -9223372036854775808 ≤ x0 ∧ x0 ≤ 9223372036854775807) (c : Canon x1) (hn : x1.n ≤ 1048576) (hw : ∀ i, i < x1.n → W175 (x1.at' i)) (_ : -9223372036854775808 ≤ x2 ∧ x2 ≤ 9223372036854775807) (_ : -9223372036854775808 ≤ x3 ∧ x3 ≤ 9223372036854775807) (_ : x4.size ≤ 1048576) (_ : x5.size ≤ 1048576) (_ : x6.size ≤ 1048576) (h7 : -9223372036854775808 ≤ x7 ∧ x7 ≤ 9223372036854775807) : g1005 x0 x1 x2 x3 x4 x5 x6 x7 = true := by
  have hc : CE x1 := ⟨c, hn, hw⟩
  have zx : ∀ e ∈ x1.B, Z3 e := fun e he => by
    obtain ⟨i, hi, rfl⟩ := mem_B he
    obtain ⟨⟨_, a⟩, ⟨_, b⟩, _, d⟩ := hw i hi
    exact ⟨by omega, by omega, by omega⟩
  have e79 : g79_1 x1 = x1 := ce79 hc
  have e78 : g78 x0 x1 = g80 x0 x1 := g78_eq x0 x1 (by omega) hw
  have self : g105 x0 x1 x0 x1 = true := t105 (same_of rfl zx) (by omega)
  unfold g1005 g1005_m1
  rw [e79]
  simp only [g79_0]
  have em1 : (!(g112 x2 0 1073741824)) = g1016_m1 x2 := by
    unfold g1016_m1
    rw [g112_eq]
    by_cases a : x2 < 0
    · rw [decide_eq_true a, decide_eq_false (show ¬ x2 ≥ 0 by omega)]; rfl
    · rw [decide_eq_false a, decide_eq_true (show x2 ≥ 0 by omega)]
      by_cases b : x2 > 1073741824
      · rw [decide_eq_true b, decide_eq_false (by omega)]; rfl
      · rw [decide_eq_false b, decide_eq_true (by omega)]; rfl
  have bad : ∀ (e : Int), e ≠ 0 → g1016_2 x0 x1 x2 x3 x4 x5 x6 x7 = e → g1017_2 x0 x1 x2 x3 x4 x5 x6 x7 = e → g1016_0_0 x0 x1 x2 x3 x4 x5 x6 x7 = 0 → g1016_0_1 x0 x1 x2 x3 x4 x5 x6 x7 = nilSl → g1016_1_0 x0 x1 x2 x3 x4 x5 x6 x7 = 0 → g1016_1_1 x0 x1 x2 x3 x4 x5 x6 x7 = ⟨#[]⟩ → g1016_1_2 x0 x1 x2 x3 x4 x5 x6 x7 = 0 → g1016_1_3 x0 x1 x2 x3 x4 x5 x6 x7 = nilSl →
      (g1017_m3 x0 x1 x2 x3 x4 x5 x6 x7 != 0) = true → (bif (g1016_2 x0 x1 x2 x3 x4 x5 x6 x7 == g1017_2 x0 x1 x2 x3 x4 x5 x6 x7) then (bif (g105 (g1016_0_0 x0 x1 x2 x3 x4 x5 x6 x7) (g1016_0_1 x0 x1 x2 x3 x4 x5 x6 x7) (g1017_0_0 x0 x1 x2 x3 x4 x5 x6 x7) (g1017_0_1 x0 x1 x2 x3 x4 x5 x6 x7)) then (bif (g104 (g1016_1_0 x0 x1 x2 x3 x4 x5 x6 x7) (g1016_1_1 x0 x1 x2 x3 x4 x5 x6 x7) (g1016_1_2 x0 x1 x2 x3 x4 x5 x6 x7) (g1016_1_3 x0 x1 x2 x3 x4 x5 x6 x7) (g1017_1_0 x0 x1 x2 x3 x4 x5 x6 x7) (g1017_1_1 x0 x1 x2 x3 x4 x5 x6 x7) (g1017_1_2 x0 x1 x2 x3 x4 x5 x6 x7) (g1017_1_3 x0 x1 x2 x3 x4 x5 x6 x7)) then (g105 x0 x1 x0 x1) else false) else false) else false) = true := by
    intro e _ a1 a2 a3 a4 a5 a6 a7 a8 hm
    rw [a1, a2, a3, a4, a5, a6, a7, a8]
    unfold g1017_0_0 g1017_0_1 g1017_1_0 g1017_1_1 g1017_1_2 g1017_1_3
    rw [hm, self]
    simp only [cond_true, beq_self_eq_true]
    have t1 : g105 0 (nilSl : Sl T175) 0 nilSl = true := t105 ⟨rfl, fun i hi => absurd hi (Nat.not_lt_zero i)⟩ (Nat.zero_le _)
    have t2 : g104 0 ⟨#[]⟩ 0 (nilSl : Sl ByteArray) 0 ⟨#[]⟩ 0 nilSl = true := t104 ⟨rfl, fun i hi => absurd hi (Nat.not_lt_zero i)⟩ (Nat.zero_le _)
    rw [t1, t2]; rfl
  -- what is wrong, if anything
  cases d1 : (g78 x0 x1 != 0) with
  | true =>
    have q : g1017_m3 x0 x1 x2 x3 x4 x5 x6 x7 = g78 x0 x1 := by
      unfold g1017_m3 g1017_m2 g1017_m1
      rw [← e78]
      have : (g78 x0 x1 == 0) = false := by rw [beq_eq_false_iff_ne]; exact bne_iff_ne.1 d1
      rw [this]; simp only [cond_false]; rw [this]; rfl
    refine bad (g78 x0 x1) (bne_iff_ne.1 d1) ?_ ?_ ?_ ?_ ?_ ?_ ?_ ?_ (by rw [q]; exact d1)
    · unfold g1016_2; rw [d1]; rfl
    · unfold g1017_2; rw [q, d1]; rfl
    · unfold g1016_0_0; rw [d1]; rfl
    · unfold g1016_0_1; rw [d1]; rfl
    · unfold g1016_1_0; rw [d1]; rfl
    · unfold g1016_1_1; rw [d1]; rfl
    · unfold g1016_1_2; rw [d1]; rfl
    · unfold g1016_1_3; rw [d1]; rfl
  | false =>
  have z78 : g78 x0 x1 = 0 := bne_eq_false_iff_eq.1 d1
  cases d2 : g1016_m1 x2 with
  | true =>
    have q : g1017_m3 x0 x1 x2 x3 x4 x5 x6 x7 = 2 := by
      unfold g1017_m3 g1017_m2 g1017_m1
      rw [← e78, z78, em1, d2]; rfl
    refine bad 2 (by decide) ?_ ?_ ?_ ?_ ?_ ?_ ?_ ?_ (by rw [q]; rfl)
    · unfold g1016_2; rw [d1, d2]; rfl
    · unfold g1017_2; rw [q]; rfl
    · unfold g1016_0_0; rw [d1, d2]; rfl
    · unfold g1016_0_1; rw [d1, d2]; rfl
    · unfold g1016_1_0; rw [d1, d2]; rfl
    · unfold g1016_1_1; rw [d1, d2]; rfl
    · unfold g1016_1_2; rw [d1, d2]; rfl
    · unfold g1016_1_3; rw [d1, d2]; rfl
  | false =>
  cases d3 : (g47 x3 x4 x5 x6 x7 != 0) with
  | true =>
    have q : g1017_m3 x0 x1 x2 x3 x4 x5 x6 x7 = g47 x3 x4 x5 x6 x7 := by
      unfold g1017_m3 g1017_m2 g1017_m1
      rw [← e78, z78, em1, d2, ← g47_eq]; rfl
    refine bad (g47 x3 x4 x5 x6 x7) (bne_iff_ne.1 d3) ?_ ?_ ?_ ?_ ?_ ?_ ?_ ?_ (by rw [q]; exact d3)
    · unfold g1016_2; rw [d1, d2, d3]; rfl
    · unfold g1017_2; rw [q, d3]; rfl
    · unfold g1016_0_0; rw [d1, d2, d3]; rfl
    · unfold g1016_0_1; rw [d1, d2, d3]; rfl
    · unfold g1016_1_0; rw [d1, d2, d3]; rfl
    · unfold g1016_1_1; rw [d1, d2, d3]; rfl
    · unfold g1016_1_2; rw [d1, d2, d3]; rfl
    · unfold g1016_1_3; rw [d1, d2, d3]; rfl
  | false =>
  have z47 : g47 x3 x4 x5 x6 x7 = 0 := bne_eq_false_iff_eq.1 d3
  have q : g1017_m3 x0 x1 x2 x3 x4 x5 x6 x7 = 0 := by
    unfold g1017_m3 g1017_m2 g1017_m1
    rw [← e78, z78, em1, d2, ← g47_eq, z47]; rfl
  have hk := chk hc z78
  have hk12 := hk.n
  obtain ⟨now, hnow⟩ : ∃ now, now = g1056_m1 x0 x2 := ⟨_, rfl⟩
  have e1 : imax (g1049 x0) x2 = now := by rw [hnow]; exact now_eq x0 x2
  obtain ⟨s, hs⟩ : ∃ s, s = g1050_1051p_h3_0 now 0 false (g1049_h0_0 x1) := ⟨_, rfl⟩
  obtain ⟨t, ht⟩ : ∃ t, t = g1056_r5 x0 x1 x2 := ⟨_, rfl⟩
  have sB : s.B = x1.B.filter (keepE now) := by rw [hs]; exact B1016 now 0 false (by omega)
  have tB : t.B = x1.B.filter (keepE now) := by rw [ht, hnow]; exact B1056 x0 x1 x2 (by omega)
  have hF : Fit now t := fit hk tB
  have hB : s.B = t.B := sB.trans tB.symm
  have h0 : 0 ≤ now ∧ now ≤ 1073741824 := by
    have := hk.now
    have d2' := d2
    unfold g1016_m1 at d2'
    obtain ⟨u1, u2⟩ := bt d2'
    have u1 := df u1
    have u2 := df u2
    rw [hnow]
    unfold g1056_m1
    by_cases g : x2 > x0
    · rw [decide_eq_true g]; simp only [cond_true]; omega
    · rw [decide_eq_false g]; simp only [cond_false]; omega
  have D := dsAll (x0 := x3) (x1 := x4) (x2 := x5) (x3 := x6) (x4 := x7) (now := now) z47 h0 h7 hB hF
  have Z := z1052 (x0 := x3) (x1 := x4) (x2 := x5) (x3 := x6) (x4 := x7) (now := now) z47 hB hF
  have Dn : (g1052_h2_0 x3 x4 x5 x6 x7 now s).n ≤ 13 := by
    have h1 := n1052h (x0 := x3) (x1 := x4) (x2 := x5) (x3 := x6) (x4 := x7) (now := now) (s := s)
    have h2 := hF.n
    have h3 := nB' hB
    omega
  have pB : (g1049_h0_0 (g1052_h2_0 x3 x4 x5 x6 x7 now s)).B = (g1052_h2_0 x3 x4 x5 x6 x7 now s).B := B1049 _ (by omega)
  have zr : ∀ e ∈ (g1115_0_1 now t x3 x4 x5 x6 x7).B, Z3 e := fun e he => by
    have h1 : cE e ∈ (g1052_h2_0 x3 x4 x5 x6 x7 now s).B.map cE := by rw [D.e]; exact List.mem_map_of_mem he
    obtain ⟨u, hu, hue⟩ := List.mem_map.1 h1
    obtain ⟨z1, z2, z3⟩ := Z u hu
    unfold cE at hue
    simp only [Prod.mk.injEq] at hue
    obtain ⟨_, _, _, _, k4, k5, k6, _⟩ := hue
    exact ⟨by rw [← nB' k4]; exact z1, by rw [← nB' k5]; exact z2, by rw [← nB' k6]; exact z3⟩
  have rn : (g1115_0_1 now t x3 x4 x5 x6 x7).n ≤ 549755813888 := by
    have h1 := congrArg List.length D.e
    simp only [List.length_map, B_len] at h1
    omega
  have rB := B79 _ rn zr
  have p0 : g1016_0_0 x0 x1 x2 x3 x4 x5 x6 x7 = now := by unfold g1016_0_0; rw [d1, d2, d3, e1]; rfl
  have p1 : g1016_0_1 x0 x1 x2 x3 x4 x5 x6 x7 = g1049_h0_0 (g1052_h2_0 x3 x4 x5 x6 x7 now s) := by unfold g1016_0_1; rw [d1, d2, d3, e1, ← hs]; rfl
  have p2 : g1016_1_0 x0 x1 x2 x3 x4 x5 x6 x7 = g1052_0 x3 x4 x5 x6 x7 now s := by unfold g1016_1_0; rw [d1, d2, d3, e1, ← hs]; rfl
  have p3 : g1016_1_1 x0 x1 x2 x3 x4 x5 x6 x7 = g1052_1 x3 x4 x5 x6 x7 s := by unfold g1016_1_1; rw [d1, d2, d3, e1, ← hs]; rfl
  have p4 : g1016_1_2 x0 x1 x2 x3 x4 x5 x6 x7 = g1052_2 x3 x4 x5 x6 x7 now s := by unfold g1016_1_2; rw [d1, d2, d3, e1, ← hs]; rfl
  have p5 : g1016_1_3 x0 x1 x2 x3 x4 x5 x6 x7 = g1052_3 x3 x4 x5 x6 x7 s := by unfold g1016_1_3; rw [d1, d2, d3, e1, ← hs]; rfl
  have p6 : g1016_2 x0 x1 x2 x3 x4 x5 x6 x7 = 0 := by unfold g1016_2; rw [d1, d2, d3]; rfl
  have q0 : g1017_0_0 x0 x1 x2 x3 x4 x5 x6 x7 = now := by
    unfold g1017_0_0; rw [q]
    show g1056_0_0 x0 x1 x2 x3 x4 x5 x6 x7 = now
    unfold g1056_0_0; rw [← hnow, ← ht]; exact D.w
  have q1 : g1017_0_1 x0 x1 x2 x3 x4 x5 x6 x7 = g79_1 (g1115_0_1 now t x3 x4 x5 x6 x7) := by unfold g1017_0_1; rw [q]; unfold g1056_0_1; rw [← hnow, ← ht]; rfl
  have q2 : g1017_1_0 x0 x1 x2 x3 x4 x5 x6 x7 = g1115_1_0 now t x3 x4 x5 x6 x7 := by unfold g1017_1_0; rw [q]; unfold g1056_1_0; rw [← hnow, ← ht]; rfl
  have q3 : g1017_1_1 x0 x1 x2 x3 x4 x5 x6 x7 = g1115_1_1 t x3 x4 x5 x6 x7 := by unfold g1017_1_1; rw [q]; unfold g1056_1_1; rw [← ht]; rfl
  have q4 : g1017_1_2 x0 x1 x2 x3 x4 x5 x6 x7 = g1115_1_2 now t x3 x4 x5 x6 x7 := by unfold g1017_1_2; rw [q]; unfold g1056_1_2; rw [← hnow, ← ht]; rfl
  have q5 : g1017_1_3 x0 x1 x2 x3 x4 x5 x6 x7 = g1115_1_3 t x3 x4 x5 x6 x7 := by unfold g1017_1_3; rw [q]; unfold g1056_1_3; rw [← ht]; rfl
  have q6 : g1017_2 x0 x1 x2 x3 x4 x5 x6 x7 = 0 := by unfold g1017_2; rw [q]; rfl
  rw [p0, p1, p2, p3, p4, p5, p6, q0, q1, q2, q3, q4, q5, q6, self]
  have t1 : g105 now (g1049_h0_0 (g1052_h2_0 x3 x4 x5 x6 x7 now s)) now (g79_1 (g1115_0_1 now t x3 x4 x5 x6 x7)) = true := by
    refine t105 (same_of ?_ ?_) ?_
    · rw [pB, rB]; exact D.e
    · rw [pB]; exact Z
    · rw [nB' pB]; omega
  have t2 : g104 (g1052_0 x3 x4 x5 x6 x7 now s) (g1052_1 x3 x4 x5 x6 x7 s) (g1052_2 x3 x4 x5 x6 x7 now s) (g1052_3 x3 x4 x5 x6 x7 s) (g1115_1_0 now t x3 x4 x5 x6 x7) (g1115_1_1 t x3 x4 x5 x6 x7) (g1115_1_2 now t x3 x4 x5 x6 x7) (g1115_1_3 t x3 x4 x5 x6 x7) = true := by
    rw [← D.r0, ← D.r1, ← D.r2]
    exact t104 ⟨nB' D.r3, fun i hi => at_of_B D.r3 hi⟩ (by have := D.l3; omega)
  rw [t1, t2]; rfl
end Go.Proofs.YtchhfojblmceiaaGreat
