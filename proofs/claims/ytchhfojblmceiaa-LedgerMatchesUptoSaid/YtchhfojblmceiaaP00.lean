/-
  What is proved: a part of the laws of this seat, in plain Lean.
-/
import Derived.Test.YtchhfojblmceiaaY0
namespace Go.Proofs.Ytchhfojblmceiaa
open Go Go.Vc Go.RowKit
set_option maxRecDepth 100000
theorem g112_eq (n l h : Int) : g112 n l h = (decide (n ≥ l) && decide (n ≤ h)) := by
  unfold g112 g112_m1; cases decide (n ≥ l) <;> rfl
theorem g118_eq (x : ByteArray) : g115 x = g118 x := by
  unfold g118 g115 g115_m1; rw [g112_eq]; cases decide ((x.size : Int) ≥ 1) <;> rfl
theorem g116_eq (x : ByteArray) : g116 x = g113 x := rfl
theorem g117_eq (x : Int) : g117 x = g114 x := by
  unfold g117 g117_m1 g114; rw [g112_eq]; cases decide (x ≥ (-1099511627776)) <;> rfl
theorem g119_eq (x : Int) : g119 x = g120 x := by
  unfold g119 g119_m1 g120; rw [g112_eq]; cases decide (x ≥ 1) <;> rfl
end Go.Proofs.Ytchhfojblmceiaa
