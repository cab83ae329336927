/-
  What is proved: a part of the laws of this seat, in plain Lean.
-/
import Derived.Test.YtchhfojblmceiaaYr
import Derived.Test.YtchhfojblmceiaaVcH
namespace Go.Proofs.Ytchhfojblmceiaa
open Go Go.Vc Go.RowKit
set_option maxRecDepth 100000
theorem scan192 (s : Sl ByteArray) (hn : s.n ≤ 549755813888) : g192_111_r1 s = scan (fun i => g111 (s.at' (Int.toNat i))) (fun i => i) s.n 0 := scan0 (g192_111_l1 s) s.n _ _ hn fun _ _ => rfl
theorem scan44 (s : Sl ByteArray) (hn : s.n ≤ 549755813888) : g44_r2 s = scan (fun i => !(g113 (s.at' (Int.toNat i)))) (fun _ => 1) s.n 0 := scan0 (g44_l5 s) s.n _ _ hn fun _ _ => rfl
theorem t111 (s : ByteArray) : g111 s = !(g113 s) := by
  simp only [g111, g113]
  by_cases h : (s.size : Int) > 20 <;> simp [h] <;> omega
theorem g42_eq (x0 : Int) (x1 : ByteArray) (x2 : Int) (x3 : Sl ByteArray) (hm : x3.n ≤ 1048576) : g42 x0 x1 x2 x3 = g44 x0 x1 x2 x3 := by
  have hn : x3.n ≤ 549755813888 := by omega
  have h1 : g110_111 x3 = (g44_r2 x3).1 := by
    simp only [g110_111, g192_111, g192_111_p2]
    have e : (g192_111_r1 x3).1 = (g44_r2 x3).1 := by
      rw [scan192 x3 hn, scan44 x3 hn, scan_fst _ _ (fun _ => (1 : Int))]
      congr 1
      exact scan_congr _ _ (fun j _ _ => t111 _) (fun _ _ _ => rfl)
    rw [← e]
    rcases Bool.eq_false_or_eq_true (g192_111_r1 x3).1 with h | h
    · have h4 : 0 ≤ (g192_111_r1 x3).2 := by
        rw [scan192 x3 hn] at h ⊢
        obtain ⟨j, h1, h2, _, h4⟩ := scan_snd _ _ h
        rw [h4]; exact h1
      simp [h, h4]
    · simp [h]
  have h2 : (g44_r2 x3).1 = true → (g44_r2 x3).2 = 1 := fun h => by
    rw [scan44 x3 hn] at h ⊢
    obtain ⟨j, _, _, _, h4⟩ := scan_snd _ _ h
    exact h4
  simp only [g42, g44, h1, g44_p3]
  have e0 : g42_m1 x0 = !(g112 x0 0 13) := by
    simp only [g42_m1, g112, g112_m1]
    by_cases h1 : x0 < 0 <;> by_cases h2 : x0 > 13 <;> simp [h1, h2] <;> omega
  have e1 : g42_m2 x1 x3 = g44_m1 x1 x3 := by
    simp only [g42_m2, g44_m1, ← t111]
    rfl
  have e2 : g42_m3 x2 = !(g114 x2) := by
    simp only [g42_m3, g114, g112, g112_m1]
    by_cases h1 : x2 < -1099511627776 <;> by_cases h2 : x2 > 1099511627776 <;> simp [h1, h2] <;> omega
  rw [e0, e1, e2]
  cases g112 x0 0 13 <;> cases g44_m1 x1 x3 <;> cases h3 : (g44_r2 x3).1 <;> cases g114 x2 <;> simp <;> exact (h2 h3).symm
end Go.Proofs.Ytchhfojblmceiaa
