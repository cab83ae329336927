/-
  What is proved: a part of the laws of this seat, in plain Lean.
-/
import Derived.Test.YtchhfojblmceiaaH5
import Derived.Test.YtchhfojblmceiaaPd
import Derived.Test.YtchhfojblmceiaaPc
namespace Go.Proofs.Ytchhfojblmceiaa
open Go Go.Vc Go.RowKit
set_option maxRecDepth 100000
/-- The bytes of texts behind how many they are. -/
noncomputable def tsb (l : Sl ByteArray) : List Int := sb (l.n : Int) ++ cat (fun i => tb (l.at' i)) l.n 0
theorem tb_le {x : ByteArray} (h : x.size ≤ 20) : (tb x).length ≤ 21 := by rw [tb_len x (by omega)]; omega
theorem tsb_len {l : Sl ByteArray} (h : TOK l) : (tsb l).length ≤ 421 := by
  unfold tsb
  have h1 := h.1
  have h2 := cat_len (f := fun i => tb (l.at' i)) (D := 21) l.n 0 fun j _ hj => tb_le (h.2 j (by omega))
  rw [List.length_append, sb_len]; omega
theorem B158 (l : Sl ByteArray) (w : Sl Int) (h : TOK l) : (g158 l w).B = w.B ++ tsb l := by
  have h1 : (g158 l w).B = (g155 (l.n : Int) w).B ++ cat (fun i => tb (l.at' i)) l.n 0 :=
    loopB0 (g158_l1 l) l.n 21 (w.n + 1) (fun i s => g156 (l.at' (Int.toNat i)) s) (fun i => tb (l.at' i)) (by have := h.1; omega) (fun _ _ _ => rfl) (fun i s hi _ => by
      have hz := h.2 i hi
      simp only [Int.toNat_natCast]
      exact ⟨w_tb s (by omega), tb_le hz⟩) _ (by rw [len155]; exact Nat.le_refl _)
  rw [h1, w_sb, List.append_assoc]; rfl
theorem len158 (x0 : Sl ByteArray) (x1 : Sl Int) (h : TOK x0) : (g158 x0 x1).n ≤ x1.n + 421 := by
  rw [← B_len, B158 _ _ h, List.length_append, B_len]
  have := tsb_len h
  omega
theorem B204 (l : Sl ByteArray) (h : TOK l) : (g204 l).B = tsb l := by
  have h1 : (g204 l).B = (Sl.lit [IntKind.u8.wrap (l.n : Int)]).B ++ cat (fun i => tb (l.at' i)) l.n 0 :=
    loopB0 (fun k i s => g204_l1 l k s i) l.n 21 1 (fun i s => g109 s (g195 (l.at' (Int.toNat i)))) (fun i => tb (l.at' i)) (by have := h.1; omega) (fun _ _ _ => rfl) (fun i s hi hs => by
      have hz := h.2 i hi
      have hn := h.1
      simp only [Int.toNat_natCast]
      exact ⟨r_tb s (by omega) (by omega), tb_le hz⟩) _ (Nat.le_refl _)
  rw [h1, B_lit]; rfl
theorem len204 (x0 : Sl ByteArray) (h : TOK x0) : (g204 x0).n ≤ 421 := by
  rw [← B_len, B204 _ h]
  exact tsb_len h
end Go.Proofs.Ytchhfojblmceiaa
