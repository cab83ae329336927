/-
  What is proved: a part of the laws of this seat, in plain Lean.
-/
import Derived.Test.YtchhfojblmceiaaH6
import Derived.Test.YtchhfojblmceiaaP5
namespace Go.Proofs.Ytchhfojblmceiaa
open Go Go.Vc Go.RowKit
set_option maxRecDepth 100000
noncomputable def pf (s : Sl T160) (i : Nat) : List Int := tb (s.at' i).c0 ++ tb (s.at' i).c1
noncomputable def sf (s : Sl T164) (i : Nat) : List Int := tb (s.at' i).c0 ++ nb (s.at' i).c1
/-- The bytes of a value. -/
noncomputable def vb (x0 : Int) (x1 : ByteArray) (x2 : Int) (x3 : Sl T160) (x4 : Sl ByteArray) (x5 : Sl T164) : List Int :=
  sb x0 ++ (tb x1 ++ (nb x2 ++ (sb (x3.n : Int) ++ (cat (pf x3) x3.n 0 ++ (tsb x4 ++ (sb (x5.n : Int) ++ cat (sf x5) x5.n 0))))))
theorem pf_len {s : Sl T160} {i : Nat} (h : (s.at' i).c0.size ≤ 20 ∧ (s.at' i).c1.size ≤ 20) : (pf s i).length ≤ 42 := by
  have a := tb_le h.1
  have b := tb_le h.2
  unfold pf; rw [List.length_append]; omega
theorem sf_len {s : Sl T164} {i : Nat} (h : (s.at' i).c0.size ≤ 20) : (sf s i).length ≤ 29 := by
  have a := tb_le h
  unfold sf; rw [List.length_append, nb_len]; omega
theorem vb_len {x0 : Int} {x1 : ByteArray} {x2 : Int} {x3 : Sl T160} {x4 : Sl ByteArray} {x5 : Sl T164} (h : VOK x1 x2 x3 x4 x5) : (vb x0 x1 x2 x3 x4 x5).length ≤ 2000 := by
  have a := tb_le h.1.1
  have b := tsb_len (vok_t h)
  have c := cat_len (f := pf x3) (D := 42) x3.n 0 fun j _ hj => pf_len (h.2.2.1 j (by omega))
  have d := cat_len (f := sf x5) (D := 29) x5.n 0 fun j _ hj => sf_len (h.2.2.2.2 j (by omega)).1
  have e := h.2.1
  unfold vb
  simp only [List.length_append, sb_len, nb_len]
  omega
theorem B157 (x0 : Int) (x1 : ByteArray) (x2 : Int) (x3 : Sl T160) (x4 : Sl ByteArray) (x5 : Sl T164) (w : Sl Int) (h : VOK x1 x2 x3 x4 x5) : (g157 x0 x1 x2 x3 x4 x5 w).B = w.B ++ vb x0 x1 x2 x3 x4 x5 := by
  have hn := h.2.1
  have h1 : (g157_r1 x0 x1 x2 x3 w).B = (g155 (x3.n : Int) (g154 x2 (g156 x1 (g155 x0 w)))).B ++ cat (pf x3) x3.n 0 :=
    loopB0 (g157_l1 x3) x3.n 42 _ (fun i s => g156 (x3.at' (Int.toNat i)).c1 (g156 (x3.at' (Int.toNat i)).c0 s)) (pf x3) (by omega) (fun _ _ _ => rfl) (fun i s hi _ => by
      have hz := h.2.2.1 i hi
      simp only [Int.toNat_natCast]
      exact ⟨by rw [w_tb _ (by omega), w_tb _ (by omega), List.append_assoc]; rfl, pf_len hz⟩) _ (Nat.le_refl _)
  have h2 : (g157_r2 x0 x1 x2 x3 x4 x5 w).B = (g155 (x5.n : Int) (g158 x4 (g157_r1 x0 x1 x2 x3 w))).B ++ cat (sf x5) x5.n 0 :=
    loopB0 (g157_l6 x5) x5.n 29 _ (fun i s => g154 (x5.at' (Int.toNat i)).c1 (g156 (x5.at' (Int.toNat i)).c0 s)) (sf x5) (by omega) (fun _ _ _ => rfl) (fun i s hi _ => by
      have hz := h.2.2.2.2 i hi
      simp only [Int.toNat_natCast]
      exact ⟨by rw [w_nb _ (by omega) (by omega), w_tb _ (by omega), List.append_assoc]; rfl, sf_len hz.1⟩) _ (Nat.le_refl _)
  have hx := h.1
  show (g157_r2 x0 x1 x2 x3 x4 x5 w).B = _
  rw [h2, w_sb, B158 _ _ (vok_t h), h1, w_sb, w_nb _ (by omega) (by omega), w_tb _ (by omega), w_sb]
  simp only [vb, List.append_assoc]
theorem len157 (x0 : Int) (x1 : ByteArray) (x2 : Int) (x3 : Sl T160) (x4 : Sl ByteArray) (x5 : Sl T164) (w : Sl Int) (h : VOK x1 x2 x3 x4 x5) : (g157 x0 x1 x2 x3 x4 x5 w).n ≤ w.n + 2000 := by
  rw [← B_len, B157 _ _ _ _ _ _ _ h, List.length_append, B_len]
  have := vb_len (x0 := x0) h
  omega
theorem B203 (x0 : Int) (x1 : ByteArray) (x2 : Int) (x3 : Sl T160) (x4 : Sl ByteArray) (x5 : Sl T164) (h : VOK x1 x2 x3 x4 x5) : (g203 x0 x1 x2 x3 x4 x5).B = vb x0 x1 x2 x3 x4 x5 := by
  have hn := h.2.1
  have hx := h.1
  have k1 : (Sl.app (Sl.lit ([(IntKind.u8.wrap x0)] : List Int)) (g195 x1)).B = sb x0 ++ tb x1 := by rw [B_app, B_lit]; rfl
  have l1 : (Sl.app (Sl.lit ([(IntKind.u8.wrap x0)] : List Int)) (g195 x1)).n ≤ 22 := by
    rw [← B_len, k1, List.length_append, sb_len]
    have := tb_le hx.1
    omega
  have k2 : (Sl.app (g109 (Sl.app (Sl.lit ([(IntKind.u8.wrap x0)] : List Int)) (g195 x1)) (g194 x2)) (Sl.lit ([(IntKind.u8.wrap (x3.n : Int))] : List Int))).B = sb x0 ++ tb x1 ++ nb x2 ++ sb (x3.n : Int) := by
    rw [r_sb, r_nb _ _ (by omega), k1]
  have l2 : (Sl.app (g109 (Sl.app (Sl.lit ([(IntKind.u8.wrap x0)] : List Int)) (g195 x1)) (g194 x2)) (Sl.lit ([(IntKind.u8.wrap (x3.n : Int))] : List Int))).n ≤ 31 := by
    rw [← B_len, k2, List.length_append, List.length_append, List.length_append, sb_len, sb_len, nb_len]
    have := tb_le hx.1
    omega
  have h1 : (g203_r1 x0 x1 x2 x3).B = (sb x0 ++ tb x1 ++ nb x2 ++ sb (x3.n : Int)) ++ cat (pf x3) x3.n 0 := by
    rw [← k2]
    exact loopB0 (fun k i s => g203_l1 x3 k s i) x3.n 42 31 (fun i s => g109 (g109 s (g195 (x3.at' (Int.toNat i)).c0)) (g195 (x3.at' (Int.toNat i)).c1)) (pf x3) (by omega) (fun _ _ _ => rfl) (fun i s hi hs => by
      have hz := h.2.2.1 i hi
      simp only [Int.toNat_natCast]
      have hs2 : (g109 s (g195 (x3.at' i).c0)).n ≤ s.n + 21 := by
        rw [← B_len, r_tb s (by omega) (by omega), List.length_append, B_len]
        have := tb_le hz.1
        omega
      exact ⟨by rw [r_tb _ (by omega) (by omega), r_tb s (by omega) (by omega), List.append_assoc]; rfl, pf_len hz⟩) _ l2
  have m1 : (g203_r1 x0 x1 x2 x3).n ≤ 31 + x3.n * 42 := by
    rw [← B_len, h1, List.length_append, List.length_append, List.length_append, List.length_append, sb_len, sb_len, nb_len]
    have := tb_le hx.1
    have c := cat_len (f := pf x3) (D := 42) x3.n 0 fun j _ hj => pf_len (h.2.2.1 j (by omega))
    omega
  have m2 := len204 x4 (vok_t h)
  have k3 : (Sl.app (g109 (g203_r1 x0 x1 x2 x3) (g204 x4)) (Sl.lit ([(IntKind.u8.wrap (x5.n : Int))] : List Int))).B = (g203_r1 x0 x1 x2 x3).B ++ tsb x4 ++ sb (x5.n : Int) := by
    rw [r_sb, r_app _ _ (by omega), B204 _ (vok_t h)]
  have l3 : (Sl.app (g109 (g203_r1 x0 x1 x2 x3) (g204 x4)) (Sl.lit ([(IntKind.u8.wrap (x5.n : Int))] : List Int))).n ≤ 1400 := by
    rw [← B_len, k3, List.length_append, List.length_append, sb_len, B_len]
    have := tsb_len (vok_t h)
    omega
  have h2 : (g203_r2 x0 x1 x2 x3 x4 x5).B = (Sl.app (g109 (g203_r1 x0 x1 x2 x3) (g204 x4)) (Sl.lit ([(IntKind.u8.wrap (x5.n : Int))] : List Int))).B ++ cat (sf x5) x5.n 0 :=
    loopB0 (fun k i s => g203_l7 x5 k s i) x5.n 29 1400 (fun i s => g109 (g109 s (g195 (x5.at' (Int.toNat i)).c0)) (g194 (x5.at' (Int.toNat i)).c1)) (sf x5) (by omega) (fun _ _ _ => rfl) (fun i s hi hs => by
      have hz := h.2.2.2.2 i hi
      simp only [Int.toNat_natCast]
      have hs2 : (g109 s (g195 (x5.at' i).c0)).n ≤ s.n + 21 := by
        rw [← B_len, r_tb s (by omega) (by omega), List.length_append, B_len]
        have := tb_le hz.1
        omega
      exact ⟨by rw [r_nb _ _ (by omega), r_tb s (by omega) (by omega), List.append_assoc]; rfl, sf_len hz.1⟩) _ l3
  show (g203_r2 x0 x1 x2 x3 x4 x5).B = _
  rw [h2, k3, h1]
  simp only [vb, List.append_assoc]
theorem len203 (x0 : Int) (x1 : ByteArray) (x2 : Int) (x3 : Sl T160) (x4 : Sl ByteArray) (x5 : Sl T164) (h : VOK x1 x2 x3 x4 x5) : (g203 x0 x1 x2 x3 x4 x5).n ≤ 2000 := by
  rw [← B_len, B203 _ _ _ _ _ _ h]
  exact vb_len h
end Go.Proofs.Ytchhfojblmceiaa
