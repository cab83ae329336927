/-
  Walks: what functions of the program answer, as functions.
-/
import Derived.Test.YtchhfojblmceiaaCl
namespace Go.Proofs.Ytchhfojblmceiaa
open Go Go.Vc Go.RowKit
set_option maxRecDepth 100000
set_option maxHeartbeats 4000000
noncomputable def g112_m1 (x0 : Int) (x1 : Int) (x2 : Int) : Bool := (bif (decide (x0 ≥ x1)) then (decide (x0 ≤ x2)) else false)
noncomputable def g112 (x0 : Int) (x1 : Int) (x2 : Int) : Bool := (g112_m1 x0 x1 x2)
noncomputable abbrev g112_e : Env := mkE []
theorem g112_e_ok : g112_e.Ok := mkE_ok trivial
theorem pc112 (x0 : Int) (x1 : Int) (x2 : Int) : PureCall Try.prog 112 [.int .i64 x0, .int .i64 x1, .int .i64 x2] (.bool (g112 x0 x1 x2)) := by
  refine pure_of_WP (E := g112_e) g112_e_ok Try.func112 rfl _ _ ?_
  refine WP.step0 g112_e_ok ⟨.int .i64 x0 :: .int .i64 x1 :: .int .i64 x2 :: U :: U :: U :: .bool false :: us 8 [], []⟩ (by kernel_rfl) ?_
  refine WP.stepM g112_e_ok (fun a : Bool => ⟨us 6 (.bool a :: us 8 []), []⟩) (g112_m1 x0 x1 x2) (fun K => (((decide (x0 ≥ x1)) = true → K (decide (x0 ≤ x2))) ∧ ((decide (x0 ≥ x1)) = false → K false))) (by kernel_rfl) ⟨fun h1 => (KM.mk (eqT h1 rfl)), fun h1 => (KM.mk (eqF h1 rfl))⟩ ?_
  exact WP.retP (True ∧ ((.bool (g112_m1 x0 x1 x2) : AV) = .bool (g112 x0 x1 x2))) (by kernel_rfl) ⟨trivial, rfl⟩
noncomputable def s112 : Ans := fun xs => match xs with
  | [.int .i64 x0, .int .i64 x1, .int .i64 x2] => some (none, .bool (g112 x0 x1 x2))
  | _ => none
theorem k112 : SOk Try.prog 112 s112 := ⟨⟨_, _, Try.func112, rfl, by kernel_rfl⟩, fun args pre r h _ => by
  unfold s112 at h; split at h <;> cases h; exact pc112 _ _ _⟩
noncomputable def g113 (x0 : ByteArray) : Bool := (decide (((x0 : ByteArray).size : Int) ≤ 20))
noncomputable abbrev g113_e : Env := mkE []
theorem g113_e_ok : g113_e.Ok := mkE_ok trivial
theorem pc113 (x0 : ByteArray) : PureCall Try.prog 113 [.str x0] (.bool (g113 x0)) := by
  refine pure_of_WP (E := g113_e) g113_e_ok Try.func113 rfl _ _ ?_
  refine WP.step0 g113_e_ok ⟨[.str x0, U, .bool false, U, U, U], []⟩ (by kernel_rfl) ?_
  refine WP.step0 g113_e_ok ⟨[U, U, .bool (decide (((x0 : ByteArray).size : Int) ≤ 20)), U, U, U], []⟩ (by kernel_rfl) ?_
  exact WP.retP (True ∧ ((.bool (decide (((x0 : ByteArray).size : Int) ≤ 20)) : AV) = .bool (g113 x0))) (by kernel_rfl) ⟨trivial, rfl⟩
noncomputable def s113 : Ans := fun xs => match xs with
  | [.str x0] => some (none, .bool (g113 x0))
  | _ => none
theorem k113 : SOk Try.prog 113 s113 := ⟨⟨_, _, Try.func113, rfl, by kernel_rfl⟩, fun args pre r h _ => by
  unfold s113 at h; split at h <;> cases h; exact pc113 _⟩
noncomputable def g114 (x0 : Int) : Bool := (g112 x0 (-1099511627776) 1099511627776)
noncomputable abbrev g114_e : Env := mkE [(112, s112)]
theorem g114_e_ok : g114_e.Ok := mkE_ok ⟨k112, trivial⟩
theorem pc114 (x0 : Int) : PureCall Try.prog 114 [.int .i64 x0] (.bool (g114 x0)) := by
  refine pure_of_WP (E := g114_e) g114_e_ok Try.func114 rfl _ _ ?_
  refine WP.step0 g114_e_ok ⟨[.int .i64 x0, U, .bool false, U, U], []⟩ (by kernel_rfl) ?_
  refine WP.step0 g114_e_ok ⟨[U, U, .bool (g112 x0 (-1099511627776) 1099511627776), U, U], []⟩ (by kernel_rfl) ?_
  exact WP.retP (True ∧ ((.bool (g112 x0 (-1099511627776) 1099511627776) : AV) = .bool (g114 x0))) (by kernel_rfl) ⟨trivial, rfl⟩
noncomputable def s114 : Ans := fun xs => match xs with
  | [.int .i64 x0] => some (none, .bool (g114 x0))
  | _ => none
theorem k114 : SOk Try.prog 114 s114 := ⟨⟨_, _, Try.func114, rfl, by kernel_rfl⟩, fun args pre r h _ => by
  unfold s114 at h; split at h <;> cases h; exact pc114 _⟩
noncomputable def g118 (x0 : ByteArray) : Bool := (g112 ((x0 : ByteArray).size : Int) 1 12)
noncomputable abbrev g118_e : Env := mkE [(112, s112)]
theorem g118_e_ok : g118_e.Ok := mkE_ok ⟨k112, trivial⟩
theorem pc118 (x0 : ByteArray) : PureCall Try.prog 118 [.str x0] (.bool (g118 x0)) := by
  refine pure_of_WP (E := g118_e) g118_e_ok Try.func118 rfl _ _ ?_
  refine WP.step0 g118_e_ok ⟨[.str x0, U, .bool false, U, U, U], []⟩ (by kernel_rfl) ?_
  refine WP.step0 g118_e_ok ⟨[U, U, .bool (g112 ((x0 : ByteArray).size : Int) 1 12), U, U, U], []⟩ (by kernel_rfl) ?_
  exact WP.retP (True ∧ ((.bool (g112 ((x0 : ByteArray).size : Int) 1 12) : AV) = .bool (g118 x0))) (by kernel_rfl) ⟨trivial, rfl⟩
noncomputable def s118 : Ans := fun xs => match xs with
  | [.str x0] => some (none, .bool (g118 x0))
  | _ => none
theorem k118 : SOk Try.prog 118 s118 := ⟨⟨_, _, Try.func118, rfl, by kernel_rfl⟩, fun args pre r h _ => by
  unfold s118 at h; split at h <;> cases h; exact pc118 _⟩
noncomputable def g115_m1 (x0 : ByteArray) : Bool := (bif (decide (((x0 : ByteArray).size : Int) ≥ 1)) then (decide (((x0 : ByteArray).size : Int) ≤ 12)) else false)
noncomputable def g115 (x0 : ByteArray) : Bool := (g115_m1 x0)
noncomputable abbrev g115_e : Env := mkE []
theorem g115_e_ok : g115_e.Ok := mkE_ok trivial
theorem pc115 (x0 : ByteArray) : PureCall Try.prog 115 [.str x0] (.bool (g115 x0)) := by
  refine pure_of_WP (E := g115_e) g115_e_ok Try.func115 rfl _ _ ?_
  refine WP.step0 g115_e_ok ⟨.str x0 :: U :: .bool false :: us 8 [], []⟩ (by kernel_rfl) ?_
  refine WP.stepM g115_e_ok (fun a : Bool => ⟨U :: U :: .bool a :: us 8 [], []⟩) (g115_m1 x0) (fun K => (((decide (((x0 : ByteArray).size : Int) ≥ 1)) = true → K (decide (((x0 : ByteArray).size : Int) ≤ 12))) ∧ ((decide (((x0 : ByteArray).size : Int) ≥ 1)) = false → K false))) (by kernel_rfl) ⟨fun h1 => (KM.mk (eqT h1 rfl)), fun h1 => (KM.mk (eqF h1 rfl))⟩ ?_
  exact WP.retP (True ∧ ((.bool (g115_m1 x0) : AV) = .bool (g115 x0))) (by kernel_rfl) ⟨trivial, rfl⟩
noncomputable def s115 : Ans := fun xs => match xs with
  | [.str x0] => some (none, .bool (g115 x0))
  | _ => none
theorem k115 : SOk Try.prog 115 s115 := ⟨⟨_, _, Try.func115, rfl, by kernel_rfl⟩, fun args pre r h _ => by
  unfold s115 at h; split at h <;> cases h; exact pc115 _⟩
noncomputable def g116 (x0 : ByteArray) : Bool := (decide (((x0 : ByteArray).size : Int) ≤ 20))
noncomputable abbrev g116_e : Env := mkE []
theorem g116_e_ok : g116_e.Ok := mkE_ok trivial
theorem pc116 (x0 : ByteArray) : PureCall Try.prog 116 [.str x0] (.bool (g116 x0)) := by
  refine pure_of_WP (E := g116_e) g116_e_ok Try.func116 rfl _ _ ?_
  refine WP.step0 g116_e_ok ⟨[.str x0, U, .bool false, U, U, U], []⟩ (by kernel_rfl) ?_
  refine WP.step0 g116_e_ok ⟨[U, U, .bool (decide (((x0 : ByteArray).size : Int) ≤ 20)), U, U, U], []⟩ (by kernel_rfl) ?_
  exact WP.retP (True ∧ ((.bool (decide (((x0 : ByteArray).size : Int) ≤ 20)) : AV) = .bool (g116 x0))) (by kernel_rfl) ⟨trivial, rfl⟩
noncomputable def s116 : Ans := fun xs => match xs with
  | [.str x0] => some (none, .bool (g116 x0))
  | _ => none
theorem k116 : SOk Try.prog 116 s116 := ⟨⟨_, _, Try.func116, rfl, by kernel_rfl⟩, fun args pre r h _ => by
  unfold s116 at h; split at h <;> cases h; exact pc116 _⟩
noncomputable def g117_m1 (x0 : Int) : Bool := (bif (decide (x0 ≥ (-1099511627776))) then (decide (x0 ≤ 1099511627776)) else false)
noncomputable def g117 (x0 : Int) : Bool := (g117_m1 x0)
noncomputable abbrev g117_e : Env := mkE []
theorem g117_e_ok : g117_e.Ok := mkE_ok trivial
theorem pc117 (x0 : Int) : PureCall Try.prog 117 [.int .i64 x0] (.bool (g117 x0)) := by
  refine pure_of_WP (E := g117_e) g117_e_ok Try.func117 rfl _ _ ?_
  refine WP.step0 g117_e_ok ⟨.int .i64 x0 :: U :: .bool false :: us 6 [], []⟩ (by kernel_rfl) ?_
  refine WP.stepM g117_e_ok (fun a : Bool => ⟨U :: U :: .bool a :: us 6 [], []⟩) (g117_m1 x0) (fun K => (((decide (x0 ≥ (-1099511627776))) = true → K (decide (x0 ≤ 1099511627776))) ∧ ((decide (x0 ≥ (-1099511627776))) = false → K false))) (by kernel_rfl) ⟨fun h1 => (KM.mk (eqT h1 rfl)), fun h1 => (KM.mk (eqF h1 rfl))⟩ ?_
  exact WP.retP (True ∧ ((.bool (g117_m1 x0) : AV) = .bool (g117 x0))) (by kernel_rfl) ⟨trivial, rfl⟩
noncomputable def s117 : Ans := fun xs => match xs with
  | [.int .i64 x0] => some (none, .bool (g117 x0))
  | _ => none
theorem k117 : SOk Try.prog 117 s117 := ⟨⟨_, _, Try.func117, rfl, by kernel_rfl⟩, fun args pre r h _ => by
  unfold s117 at h; split at h <;> cases h; exact pc117 _⟩
noncomputable def g119_m1 (x0 : Int) : Bool := (bif (decide (x0 ≥ 1)) then (decide (x0 ≤ 1048576)) else false)
noncomputable def g119 (x0 : Int) : Bool := (g119_m1 x0)
noncomputable abbrev g119_e : Env := mkE []
theorem g119_e_ok : g119_e.Ok := mkE_ok trivial
theorem pc119 (x0 : Int) : PureCall Try.prog 119 [.int .i64 x0] (.bool (g119 x0)) := by
  refine pure_of_WP (E := g119_e) g119_e_ok Try.func119 rfl _ _ ?_
  refine WP.step0 g119_e_ok ⟨.int .i64 x0 :: U :: .bool false :: us 6 [], []⟩ (by kernel_rfl) ?_
  refine WP.stepM g119_e_ok (fun a : Bool => ⟨U :: U :: .bool a :: us 6 [], []⟩) (g119_m1 x0) (fun K => (((decide (x0 ≥ 1)) = true → K (decide (x0 ≤ 1048576))) ∧ ((decide (x0 ≥ 1)) = false → K false))) (by kernel_rfl) ⟨fun h1 => (KM.mk (eqT h1 rfl)), fun h1 => (KM.mk (eqF h1 rfl))⟩ ?_
  exact WP.retP (True ∧ ((.bool (g119_m1 x0) : AV) = .bool (g119 x0))) (by kernel_rfl) ⟨trivial, rfl⟩
noncomputable def s119 : Ans := fun xs => match xs with
  | [.int .i64 x0] => some (none, .bool (g119 x0))
  | _ => none
theorem k119 : SOk Try.prog 119 s119 := ⟨⟨_, _, Try.func119, rfl, by kernel_rfl⟩, fun args pre r h _ => by
  unfold s119 at h; split at h <;> cases h; exact pc119 _⟩
noncomputable def g120 (x0 : Int) : Bool := (g112 x0 1 1048576)
noncomputable abbrev g120_e : Env := mkE [(112, s112)]
theorem g120_e_ok : g120_e.Ok := mkE_ok ⟨k112, trivial⟩
theorem pc120 (x0 : Int) : PureCall Try.prog 120 [.int .i64 x0] (.bool (g120 x0)) := by
  refine pure_of_WP (E := g120_e) g120_e_ok Try.func120 rfl _ _ ?_
  refine WP.step0 g120_e_ok ⟨[.int .i64 x0, U, .bool false, U, U], []⟩ (by kernel_rfl) ?_
  refine WP.step0 g120_e_ok ⟨[U, U, .bool (g112 x0 1 1048576), U, U], []⟩ (by kernel_rfl) ?_
  exact WP.retP (True ∧ ((.bool (g112 x0 1 1048576) : AV) = .bool (g120 x0))) (by kernel_rfl) ⟨trivial, rfl⟩
noncomputable def s120 : Ans := fun xs => match xs with
  | [.int .i64 x0] => some (none, .bool (g120 x0))
  | _ => none
theorem k120 : SOk Try.prog 120 s120 := ⟨⟨_, _, Try.func120, rfl, by kernel_rfl⟩, fun args pre r h _ => by
  unfold s120 at h; split at h <;> cases h; exact pc120 _⟩
end Go.Proofs.Ytchhfojblmceiaa
