/-
  What is proved: a part of the laws of this seat, in plain Lean.
-/
import Derived.Test.YtchhfojblmceiaaH7
import Derived.Test.YtchhfojblmceiaaP6e
import Derived.Test.YtchhfojblmceiaaPsm
namespace Go.Proofs.Ytchhfojblmceiaa
open Go Go.Vc Go.RowKit
set_option maxRecDepth 100000
noncomputable def ef (s : Sl T175) (i : Nat) : List Int := tb (s.at' i).c0 ++ (vb (s.at' i).c1 (s.at' i).c2 (s.at' i).c3 (s.at' i).c4 (s.at' i).c5 (s.at' i).c6 ++ nb (s.at' i).c7)
noncomputable def kf (s : Sl T137) (i : Nat) : List Int := nb (s.at' i).c0 ++ (nb (s.at' i).c1 ++ (nb (s.at' i).c2 ++ (sb (s.at' i).c3 ++ (tb (s.at' i).c4 ++ (nb (s.at' i).c5 ++ tsb (s.at' i).c6)))))
/-- The bytes of a machine. -/
noncomputable def mb (x0 : Int) (x1 : Sl T175) (x2 : Int) (x3 : Sl T137) : List Int := nb x0 ++ (sb (x1.n : Int) ++ (cat (ef x1) x1.n 0 ++ (nb x2 ++ (sb (x3.n : Int) ++ cat (kf x3) x3.n 0))))
theorem ef_len {s : Sl T175} {i : Nat} (h : EOK (s.at' i)) : (ef s i).length ≤ 2100 := by
  have a := tb_le h.1
  have b := vb_len (x0 := (s.at' i).c1) h.2.1
  unfold ef
  simp only [List.length_append, nb_len]
  omega
theorem kf_len {s : Sl T137} {i : Nat} (h : KOK (s.at' i)) : (kf s i).length ≤ 500 := by
  have a := tb_le h.2.1.2.1
  have b := tsb_len h.2.2
  unfold kf
  simp only [List.length_append, nb_len, sb_len]
  omega
theorem mb_len {x0 : Int} {x1 : Sl T175} {x2 : Int} {x3 : Sl T137} (h : MOK x0 x1 x2 x3) : (mb x0 x1 x2 x3).length ≤ 28000 := by
  have a := h.1
  have c := cat_len (f := ef x1) (D := 2100) x1.n 0 fun j _ hj => ef_len (h.2.1 j (by omega))
  have d := cat_len (f := kf x3) (D := 500) x3.n 0 fun j _ hj => kf_len (h.2.2 j (by omega))
  unfold mb
  simp only [List.length_append, nb_len, sb_len]
  omega
theorem B90 {x0 : Int} {x1 : Sl T175} {x2 : Int} {x3 : Sl T137} (h : MOK x0 x1 x2 x3) : (g90_r2 x0 x1 x2 x3).B = mb x0 x1 x2 x3 := by
  have hm := h.1
  have h1 : (g90_r1 x0 x1).B = (g155 (x1.n : Int) (g154 x0 (nilSl : Sl Int))).B ++ cat (ef x1) x1.n 0 :=
    loopB0 (g90_l2 x1) x1.n 2100 _ (fun i s => g154 (x1.at' (Int.toNat i)).c7 (g157 (x1.at' (Int.toNat i)).c1 (x1.at' (Int.toNat i)).c2 (x1.at' (Int.toNat i)).c3 (x1.at' (Int.toNat i)).c4 (x1.at' (Int.toNat i)).c5 (x1.at' (Int.toNat i)).c6 (g156 (x1.at' (Int.toNat i)).c0 s))) (ef x1) (by omega) (fun _ _ _ => rfl) (fun i s hi _ => by
      have hz := h.2.1 i hi
      have z0 := hz.1
      have z7 := hz.2.2
      simp only [Int.toNat_natCast]
      refine ⟨?_, ef_len hz⟩
      rw [w_nb _ (by omega) (by omega), B157 _ _ _ _ _ _ _ hz.2.1, w_tb _ (by omega)]
      simp only [ef, List.append_assoc]) _ (Nat.le_refl _)
  have h2 : (g90_r2 x0 x1 x2 x3).B = (g155 (x3.n : Int) (g154 x2 (g90_r1 x0 x1))).B ++ cat (kf x3) x3.n 0 :=
    loopB0 (g90_l7 x3) x3.n 500 _ (fun i s => g158 (x3.at' (Int.toNat i)).c6 (g154 (x3.at' (Int.toNat i)).c5 (g156 (x3.at' (Int.toNat i)).c4 (g155 (x3.at' (Int.toNat i)).c3 (g154 (x3.at' (Int.toNat i)).c2 (g154 (x3.at' (Int.toNat i)).c1 (g154 (x3.at' (Int.toNat i)).c0 s))))))) (kf x3) (by omega) (fun _ _ _ => rfl) (fun i s hi _ => by
      have hz := h.2.2 i hi
      have z0 := hz.1
      have z1 := hz.2.1
      simp only [Int.toNat_natCast]
      refine ⟨?_, kf_len hz⟩
      rw [B158 _ _ hz.2.2, w_nb _ (by omega) (by omega), w_tb _ (by omega), w_sb, w_nb _ (by omega) (by omega), w_nb _ (by omega) (by omega), w_nb _ (by omega) (by omega)]
      simp only [kf, List.append_assoc]) _ (Nat.le_refl _)
  rw [h2, w_sb, w_nb _ (by omega) (by omega), h1, w_sb, w_nb _ (by omega) (by omega), B_nil]
  simp only [mb, List.append_assoc, List.nil_append]
theorem B159 {x0 : Int} {x1 : Sl T175} {x2 : Int} {x3 : Sl T137} (h : MOK x0 x1 x2 x3) : (g159 x0 x1 x2 x3).B = mb x0 x1 x2 x3 := by
  have hm := h.1
  have k1 : (Sl.app (g194 x0) (Sl.lit ([(IntKind.u8.wrap (x1.n : Int))] : List Int))).B = nb x0 ++ sb (x1.n : Int) := by rw [r_sb]; rfl
  have l1 : (Sl.app (g194 x0) (Sl.lit ([(IntKind.u8.wrap (x1.n : Int))] : List Int))).n ≤ 10 := by
    rw [← B_len, k1, List.length_append, nb_len, sb_len]; omega
  have h1 : (g159_r1 x0 x1).B = (nb x0 ++ sb (x1.n : Int)) ++ cat (ef x1) x1.n 0 := by
    rw [← k1]
    exact loopB0 (fun k i s => g159_l1 x1 k s i) x1.n 2100 10 (fun i s => g109 (g109 (g109 s (g195 (x1.at' (Int.toNat i)).c0)) (g203 (x1.at' (Int.toNat i)).c1 (x1.at' (Int.toNat i)).c2 (x1.at' (Int.toNat i)).c3 (x1.at' (Int.toNat i)).c4 (x1.at' (Int.toNat i)).c5 (x1.at' (Int.toNat i)).c6)) (g194 (x1.at' (Int.toNat i)).c7)) (ef x1) (by omega) (fun _ _ _ => rfl) (fun i s hi hs => by
      have hz := h.2.1 i hi
      have z0 := hz.1
      have z7 := hz.2.2
      have zl := tb_le z0
      have zv := len203 (x1.at' i).c1 _ _ _ _ _ hz.2.1
      simp only [Int.toNat_natCast]
      refine ⟨?_, ef_len hz⟩
      have b1 := r_tb (x := (x1.at' i).c0) s (by omega) (by omega)
      have n1 : (g109 s (g195 (x1.at' i).c0)).n ≤ s.n + 21 := by rw [← B_len, b1, List.length_append, B_len]; omega
      have b2 := r_app (g109 s (g195 (x1.at' i).c0)) (g203 (x1.at' i).c1 (x1.at' i).c2 (x1.at' i).c3 (x1.at' i).c4 (x1.at' i).c5 (x1.at' i).c6) (by omega)
      have n2 : (g109 (g109 s (g195 (x1.at' i).c0)) (g203 (x1.at' i).c1 (x1.at' i).c2 (x1.at' i).c3 (x1.at' i).c4 (x1.at' i).c5 (x1.at' i).c6)).n ≤ s.n + 2021 := by rw [← B_len, b2, List.length_append, B_len, B_len]; omega
      rw [r_nb _ _ (by omega), b2, b1, B203 _ _ _ _ _ _ hz.2.1]
      simp only [ef, List.append_assoc]) _ l1
  have m1 : (g159_r1 x0 x1).n ≤ 10 + x1.n * 2100 := by
    rw [← B_len, h1, List.length_append, List.length_append, nb_len, sb_len]
    have c := cat_len (f := ef x1) (D := 2100) x1.n 0 fun j _ hj => ef_len (h.2.1 j (by omega))
    omega
  have k2 : (Sl.app (g109 (g159_r1 x0 x1) (g194 x2)) (Sl.lit ([(IntKind.u8.wrap (x3.n : Int))] : List Int))).B = (g159_r1 x0 x1).B ++ nb x2 ++ sb (x3.n : Int) := by rw [r_sb, r_nb _ _ (by omega)]
  have l2 : (Sl.app (g109 (g159_r1 x0 x1) (g194 x2)) (Sl.lit ([(IntKind.u8.wrap (x3.n : Int))] : List Int))).n ≤ 25300 := by
    rw [← B_len, k2, List.length_append, List.length_append, nb_len, sb_len, B_len]; omega
  have h2 : (g159_r2 x0 x1 x2 x3).B = (Sl.app (g109 (g159_r1 x0 x1) (g194 x2)) (Sl.lit ([(IntKind.u8.wrap (x3.n : Int))] : List Int))).B ++ cat (kf x3) x3.n 0 :=
    loopB0 (fun k i s => g159_l7 x3 k s i) x3.n 500 25300 (fun i s => g109 (g109 (g109 (Sl.app (g109 (g109 (g109 s (g194 (x3.at' (Int.toNat i)).c0)) (g194 (x3.at' (Int.toNat i)).c1)) (g194 (x3.at' (Int.toNat i)).c2)) (Sl.lit ([(IntKind.u8.wrap (x3.at' (Int.toNat i)).c3)] : List Int))) (g195 (x3.at' (Int.toNat i)).c4)) (g194 (x3.at' (Int.toNat i)).c5)) (g204 (x3.at' (Int.toNat i)).c6)) (kf x3) (by omega) (fun _ _ _ => rfl) (fun i s hi hs => by
      have hz := h.2.2 i hi
      have z0 := hz.1
      have z1 := hz.2.1
      have zl := tb_le z1.2.1
      have zt := len204 _ hz.2.2
      simp only [Int.toNat_natCast]
      refine ⟨?_, kf_len hz⟩
      have b1 := r_nb (x3.at' i).c0 s (by omega)
      have n1 : (g109 s (g194 (x3.at' i).c0)).n = s.n + 8 := by rw [← B_len, b1, List.length_append, B_len, nb_len]
      have b2 := r_nb (x3.at' i).c1 (g109 s (g194 (x3.at' i).c0)) (by omega)
      have n2 : (g109 (g109 s (g194 (x3.at' i).c0)) (g194 (x3.at' i).c1)).n = s.n + 16 := by rw [← B_len, b2, List.length_append, B_len, nb_len]; omega
      have b3 := r_nb (x3.at' i).c2 (g109 (g109 s (g194 (x3.at' i).c0)) (g194 (x3.at' i).c1)) (by omega)
      generalize g109 (g109 s (g194 (x3.at' i).c0)) (g194 (x3.at' i).c1) = u2 at *
      have n3 : (g109 u2 (g194 (x3.at' i).c2)).n = s.n + 24 := by rw [← B_len, b3, List.length_append, B_len, nb_len]; omega
      have b4 := r_sb (x3.at' i).c3 (g109 u2 (g194 (x3.at' i).c2))
      generalize g109 u2 (g194 (x3.at' i).c2) = u3 at *
      have n4 : (Sl.app u3 (Sl.lit ([(IntKind.u8.wrap (x3.at' i).c3)] : List Int))).n = s.n + 25 := by rw [← B_len, b4, List.length_append, B_len, sb_len]; omega
      generalize Sl.app u3 (Sl.lit ([(IntKind.u8.wrap (x3.at' i).c3)] : List Int)) = u4 at *
      have b5 := r_tb (x := (x3.at' i).c4) u4 (by omega) (by omega)
      have n5 : (g109 u4 (g195 (x3.at' i).c4)).n ≤ s.n + 46 := by rw [← B_len, b5, List.length_append, B_len]; omega
      generalize g109 u4 (g195 (x3.at' i).c4) = u5 at *
      have b6 := r_nb (x3.at' i).c5 u5 (by omega)
      have n6 : (g109 u5 (g194 (x3.at' i).c5)).n ≤ s.n + 54 := by rw [← B_len, b6, List.length_append, B_len, nb_len]; omega
      rw [r_app _ _ (by omega), B204 _ hz.2.2, b6, b5, b4, b3, b2, b1]
      simp only [kf, List.append_assoc]) _ l2
  show (g159_r2 x0 x1 x2 x3).B = _
  rw [h2, k2, h1]
  simp only [mb, List.append_assoc]
theorem law26 (x0 : Int) (x1 : Sl T175) (x2 : Int) (x3 : Sl T137) (_ : -9223372036854775808 ≤ x0 ∧ x0 ≤ 9223372036854775807) (c1 : Canon x1) (n1 : x1.n ≤ 1048576) (w1 : ∀ i, i < x1.n → W175 (x1.at' i)) (_ : -9223372036854775808 ≤ x2 ∧ x2 ≤ 9223372036854775807) (c3 : Canon x3) (n3 : x3.n ≤ 1048576) (w3 : ∀ i, i < x3.n → W137 (x3.at' i)) : g26 x0 x1 x2 x3 = true := by
  have hE : CE x1 := ⟨c1, n1, w1⟩
  have hC : CC x3 := ⟨c3, n3, w3⟩
  have s1 : SlE R175 x1 x1 := ⟨rfl, fun i hi => by
    obtain ⟨⟨_, a⟩, ⟨_, b⟩, _, c⟩ := w1 i hi
    exact ⟨⟨rfl, rfl, rfl, rfl, rfl⟩, ⟨SlE.rfl' (fun _ => rfl) _, SlE.rfl' (fun _ => rfl) _, SlE.rfl' (fun _ => rfl) _⟩, by omega, by omega, by omega⟩⟩
  have s3 : SlE R137 x3 x3 := ⟨rfl, fun i hi => by
    obtain ⟨_, a⟩ := w3 i hi
    exact ⟨⟨rfl, rfl, rfl, rfl, rfl, rfl⟩, SlE.rfl' (fun _ => rfl) _, by omega⟩⟩
  have e1 : g85_1 x1 = x1 := ce79 hE
  have e : g84 x0 x1 x2 x3 = g86 x0 x1 x2 x3 := g84_eq x0 x1 x2 x3 (by omega) w1 (by omega) w3
  show g26_m1 x0 x1 x2 x3 = true
  unfold g26_m1 g90_1 g90_0 g91_1 g91_0 g85_0 g85_2 g79_0
  rw [e1, cc85 hC, t34 s1 (by omega) s3 (by omega), e]
  by_cases h : g86 x0 x1 x2 x3 = 0
  · have hM := chk86 x0 x1 x2 x3 hE hC h
    have q : (g86 x0 x1 x2 x3 != 0) = false := by simp [h]
    simp only [q, cond_false]
    rw [toStr_B, toStr_B, B90 hM, B159 hM]
    simp
  · have q : (g86 x0 x1 x2 x3 != 0) = true := by simp [h]
    simp [q]
end Go.Proofs.Ytchhfojblmceiaa
