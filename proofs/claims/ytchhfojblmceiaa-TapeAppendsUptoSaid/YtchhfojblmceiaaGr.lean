/-
  What is proved: a part of the laws of this seat, in plain Lean.
-/
import Derived.Test.YtchhfojblmceiaaTy
import Derived.Shelf.Spec.SlicesGrow
namespace Go.Proofs.Ytchhfojblmceiaa
open Go Go.Vc Go.RowKit
set_option maxRecDepth 100000
/-- slices.Grow of bytes: what the library proves of it, at the numbers of this program. -/
def growRen : Go.Shelf.Ren := ⟨fun n => bif n == 4 then 209 else n, fun n => bif n == 22 then 43 else bif n == 25 then 5 else n, fun x => x⟩
theorem grow5 : Lays8.n4 Try.prog growRen where
  mixed := by kernel_rfl
  f4 := ⟨Try.f209.name, by kernel_rfl, by kernel_rfl⟩
  t0 := Try.underlying0
  a0 := Try.isAgg0
  z0 := Try.sizeOf0
  v0 := Try.zeroValue0
  t3 := Try.underlying3
  a3 := Try.isAgg3
  z3 := Try.sizeOf3
  v3 := Try.zeroValue3
  t4 := Try.underlying4
  a4 := Try.isAgg4
  z4 := Try.sizeOf4
  v4 := Try.zeroValue4
  t9 := Try.underlying9
  a9 := Try.isAgg9
  z9 := Try.sizeOf9
  v9 := Try.zeroValue9
  t20 := Try.underlying20
  a20 := Try.isAgg20
  z20 := Try.sizeOf20
  v20 := Try.zeroValue20
  t22 := Try.underlying43
  a22 := Try.isAgg43
  z22 := Try.sizeOf43
  v22 := Try.zeroValue43
theorem grow_res (w : World) (F : Nat → Prop) (G : Nat) (C : Array Value) (T : TypeId) (f : Nat → List AV) (hC : C.size = G) :
    ∃ v, Ending.returned (.slice (some ⟨w.heap.size, 0, none⟩) 0 G) = .returned v ∧ RRel w.heap.size (w.drew.alloc (.cells C T)) F (.blk false 1 0 f) v ∧ Below w.heap.size w (w.drew.alloc (.cells C T)) :=
  ⟨_, rfl, .inr ⟨w.heap.size, G, C, T, Nat.le_refl _, (Array.getElem?_eq_some_iff.1 (heap_alloc_new w.drew (.cells C T))).1, rfl, Nat.zero_le _, Nat.zero_le _, heap_alloc_new w.drew _, by rw [hC, Nat.mul_one], fun i j hi => absurd hi (Nat.not_lt_zero i)⟩, (Below.drew (Below.refl _ w)).alloc (Nat.le_refl _) _⟩
/-- Room for so many, behind nothing: new memory, or none. -/
theorem pc209 (n : Int) (h0 : 0 ≤ n) (h1 : n ≤ 549755813888) : PureCall Try.prog 209 [.nils, .int .i64 n] ((Kd.blk E5).av (nilSl : Sl Int)) := by
  intro w F vs hF hv
  obtain ⟨m, rfl⟩ := Int.eq_ofNat_of_zero_le h0
  have e : vs = [.slice none 0 0, .int .i64 (m : Int)] := by
    match vs, hv with
    | [a, b], ⟨ha, hb, _⟩ => 
      simp only [ARel] at ha hb
      cases ha; cases hb; rfl
  subst e
  rcases Nat.eq_zero_or_pos m with h | h
  · subst h
    refine Calls.mono (Any8.slices_Grow_room grow5 none 0 0 0 w (by omega) (by omega) (by omega) (by omega)) fun e w' ⟨h1, h2⟩ => ?_
    subst h2
    exact ⟨_, h1, .inl ⟨rfl, rfl⟩, Below.refl _ _⟩
  · obtain ⟨i, hi⟩ : ∃ i, Try.prog.info? 5 = some i := ⟨_, rfl⟩
    have hs : i.size = 1 := by
      have : (Try.prog.info? 5).map TypeInfo.size = some 1 := by kernel_rfl
      rw [hi] at this; simpa using this
    have hb : i.bytes = 1 := by
      have : (Try.prog.info? 5).map TypeInfo.bytes = some 1 := by kernel_rfl
      rw [hi] at this; simpa using this
    obtain ⟨z, hz, hzc⟩ : ∃ z, i.zero = some z ∧ z.cells.size = 1 := by
      have : (Try.prog.info? 5).map TypeInfo.zero = some (some (.int .u8 0)) := by kernel_rfl
      rw [hi] at this
      exact ⟨.int .u8 0, by simpa using this, rfl⟩
    refine Calls.mono (Any8.slices_Grow_grow grow5 i z hi hz (by omega) none 0 0 m [] w (by omega) (by omega) (by rw [hb]; omega) (by omega) (by simp) (fun _ => rfl) (fun a h => by cases h)) fun e w' ⟨h1, h2⟩ => ?_
    have hge : 0 + m ≤ grownCap w (0 + m) 0 5 := grownCap_ge w _ _ _
    rw [h1, h2]
    refine grow_res w _ _ _ _ _ ?_
    simp only [Array.size_append, List.size_toArray, size_zeroCells, hzc, List.length_nil]
    show _ = grownCap w (0 + m) 0 5
    have : grownCap w (0 + m) 0 (growRen.t 25) = grownCap w (0 + m) 0 5 := rfl
    rw [this]
    omega
noncomputable def a209 : List AV → Option (Ob × AV)
  | [.nils, .int .i64 n] => some (.p (0 ≤ n ∧ n ≤ 549755813888), (Kd.blk E5).av (nilSl : Sl Int))
  | _ => none
structure Fx where
  ans : List AV → Option (Ob × AV)
noncomputable def F209 : Fx := ⟨a209⟩
theorem k209 : XOk Try.prog 209 F209.ans := ⟨⟨_, _, Try.func209, rfl, by kernel_rfl⟩, fun args o r e ho => by
  show PureCall Try.prog 209 args r
  change a209 args = some (o, r) at e
  unfold a209 at e
  split at e
  · cases e
    exact pc209 _ ho.1 ho.2
  · cases e⟩
end Go.Proofs.Ytchhfojblmceiaa
