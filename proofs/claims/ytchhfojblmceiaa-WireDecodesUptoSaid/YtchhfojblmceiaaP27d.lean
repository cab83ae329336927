/-
  What is proved: a part of the laws of this seat, in plain Lean.
-/
import Derived.Test.YtchhfojblmceiaaP27c
namespace Go.Proofs.Ytchhfojblmceiaa
open Go Go.Vc Go.RowKit
set_option maxRecDepth 100000
set_option maxHeartbeats 1000000
section
variable {x : Sl Int} (hn : x.n ≤ 20000) (hU : U8 x)
include hn hU
theorem ok_clients {s : Sl Int} {b : Bool} (hs : U8 s) (h0 : 0 ≤ g169_h0_1 x (g93_r3 x).1) (h1 : g169_h0_1 x (g93_r3 x).1 ≤ 300000000) (h : Rd x s b (g169_h0_1 x (g93_r3 x).1)) :
    Ok x s b (g169_h0_1 x (g93_r3 x).1) (g162_166pp_h2_0 s b nilSl) (g162_166pp_h2_1 s b nilSl) (g93_r6 x).1 16720351 (Good W137 255 (g162_166pp_h4_0 s b nilSl) (g93_r6 x).2) :=
  (ok_each W137 g162_166pp_l1 (g93_l14 x) g166pp_h2_0 g166pp_h2_1 (fun s b => (g166pp_h4_0 s b nilSl).at' 0) _ _ 65570 700000000000 (by omega) (fun _ _ _ _ _ => rfl) (fun _ _ _ _ => rfl)
    (fun s b a hs h0 h1 h => by
      obtain ⟨u, e1, _, k⟩ := ok_client hn hU hs h0 h1 h
      have e : (g166pp_h4_0 s b nilSl).at' 0 = u := by rw [e1]; rfl
      show Ok x s b a _ _ _ _ ((g166pp_h4_0 s b nilSl).at' 0 = _ ∧ W137 ((g166pp_h4_0 s b nilSl).at' 0))
      rw [e]; exact k) hn hU hs h0 (by omega) (by omega) h).weaken (by omega) id
end
theorem end_eq (ok : Bool) {x s : Sl Int} {b : Bool} {a : Int} (h : Rd x s b a) : g149 ok s b = g151 ok x a := by
  unfold g149 g151 g171
  cases b with
  | true =>
    rcases h with h | h
    · simp at h
    · rw [decide_eq_true (show a > (x.n : Int) by omega)]; rfl
  | false =>
    obtain ⟨r0, r1, r2, _⟩ := h.good
    rw [decide_eq_false (show ¬ (a > (x.n : Int)) by omega)]
    unfold g149_m1 g151_m1
    rw [show decide (((s.n : Nat) : Int) > 0) = decide (a < (x.n : Int)) from decide_eq_decide.mpr (by omega)]
noncomputable abbrev sA (x : Sl Int) : Sl Int := g161_h0_0 x false
noncomputable abbrev bA (x : Sl Int) : Bool := g161_h0_1 x false
noncomputable abbrev sB (x : Sl Int) : Sl Int := g162_163pp_h2_0 (sA x) (bA x) nilSl
noncomputable abbrev bB (x : Sl Int) : Bool := g162_163pp_h2_1 (sA x) (bA x) nilSl
noncomputable abbrev sC (x : Sl Int) : Sl Int := g161_h0_0 (sB x) (bB x)
noncomputable abbrev bC (x : Sl Int) : Bool := g161_h0_1 (sB x) (bB x)
noncomputable abbrev sD (x : Sl Int) : Sl Int := g162_166pp_h2_0 (sC x) (bC x) nilSl
noncomputable abbrev bD (x : Sl Int) : Bool := g162_166pp_h2_1 (sC x) (bC x) nilSl
theorem all27 (x : Sl Int) (hU : U8 x) (c : decide ((x.n : Int) > 20000) = false) :
    g149 true (sD x) (bD x) = g151 true x (g93_r6 x).1 ∧ (g149 true (sD x) (bD x) = 0 →
      g84 (g161 x false) (g162_163pp_h3_0 (sA x) (bA x) nilSl) (g161 (sB x) (bB x)) (g162_166pp_h4_0 (sC x) (bC x) nilSl) = g86 (g169 x 0) (g93_r3 x).2 (g169 x (g93_r3 x).1) (g93_r6 x).2 ∧
      g161 x false = g169 x 0 ∧ g162_163pp_h3_0 (sA x) (bA x) nilSl = (g93_r3 x).2 ∧ g161 (sB x) (bB x) = g169 x (g93_r3 x).1 ∧ g162_166pp_h4_0 (sC x) (bC x) nilSl = (g93_r6 x).2 ∧
      ((g93_r3 x).2.n ≤ 255 ∧ ∀ i, i < (g93_r3 x).2.n → W175 ((g93_r3 x).2.at' i)) ∧ ((g93_r6 x).2.n ≤ 255 ∧ ∀ i, i < (g93_r6 x).2.n → W137 ((g93_r6 x).2.at' i))) := by
  have hn : x.n ≤ 20000 := by have := of_decide_eq_false c; omega
  have q := q169 x 0 (by omega)
  have k1 := ok_word hn hU hU (Int.le_refl 0) (by omega) (Rd.start x)
  have b1 := k1.2.1; have c1 := k1.2.2.1
  have k2 := ok_entries hn hU k1.1 (by omega) (by omega) k1.2.2.2.1
  have b2 := k2.2.1; have c2 := k2.2.2.1
  have k3 := ok_word hn hU k2.1 (by omega) (by omega) k2.2.2.2.1
  have b3 := k3.2.1; have c3 := k3.2.2.1
  have k4 := ok_clients hn hU k3.1 (by omega) (by omega) k3.2.2.2.1
  have K := k1.trans (k2.trans (k3.trans k4))
  refine ⟨end_eq true K.2.2.2.1, fun z => ?_⟩
  have hb : bD x = false := by
    cases hb : bD x with
    | false => rfl
    | true =>
      rw [hb] at z
      unfold g149 at z
      simp at z
  obtain ⟨_, e1, ⟨e2, w2, n2, v2⟩, e3, e4, w4, n4, v4⟩ := K.2.2.2.2 hb
  rw [← e2, ← e4]
  refine ⟨?_, e1, rfl, e3, rfl, ⟨by omega, v2⟩, by omega, v4⟩
  rw [← e1, ← e3]
  exact g84_eq _ _ _ _ (Nat.le_trans (Int.ofNat_le.1 n2) (by decide)) v2 (Nat.le_trans (Int.ofNat_le.1 n4) (by decide)) v4
theorem e27_0 (x : Sl Int) (hU : U8 x) : g92_0_0 x = g93_0_0 x := by
  unfold g92_0_0 g93_0_0 g93_m7
  exact sel (fun c => ⟨(all27 x hU c).1, fun h0 => ⟨((all27 x hU c).2 h0).1, ((all27 x hU c).2 h0).2.1⟩⟩)
theorem e27_1 (x : Sl Int) (hU : U8 x) : g92_0_1 x = g93_0_1 x := by
  unfold g92_0_1 g93_0_1 g93_m7
  exact sel (fun c => ⟨(all27 x hU c).1, fun h0 => ⟨((all27 x hU c).2 h0).1, ((all27 x hU c).2 h0).2.2.1⟩⟩)
theorem e27_2 (x : Sl Int) (hU : U8 x) : g92_0_2 x = g93_0_2 x := by
  unfold g92_0_2 g93_0_2 g93_m7
  exact sel (fun c => ⟨(all27 x hU c).1, fun h0 => ⟨((all27 x hU c).2 h0).1, ((all27 x hU c).2 h0).2.2.2.1⟩⟩)
theorem e27_3 (x : Sl Int) (hU : U8 x) : g92_0_3 x = g93_0_3 x := by
  unfold g92_0_3 g93_0_3 g93_m7
  exact sel (fun c => ⟨(all27 x hU c).1, fun h0 => ⟨((all27 x hU c).2 h0).1, ((all27 x hU c).2 h0).2.2.2.2.1⟩⟩)
theorem e27_c (x : Sl Int) (hU : U8 x) : g92_1 x = g93_1 x := by
  unfold g92_1 g93_1 g93_m7
  exact selc (fun c => ⟨(all27 x hU c).1, fun h0 => ((all27 x hU c).2 h0).1⟩)
theorem fit {α : Type} [Inhabited α] {P : Sl α → Prop} {c : Bool} {m : Int} {v : Sl α} (h0 : P nilSl) (h : c = false → m = 0 → P v) : P (bif c then nilSl else bif m != 0 then nilSl else v) := by
  cases c with
  | true => exact h0
  | false =>
    by_cases z : m = 0
    · rw [z]; exact h rfl z
    · have : (m != 0) = true := by simp [z]
      rw [this]; exact h0
theorem m7z (x : Sl Int) (hU : U8 x) (c : decide ((x.n : Int) > 20000) = false) (h : g93_m7 x = 0) : g149 true (sD x) (bD x) = 0 := by
  rw [(all27 x hU c).1]
  unfold g93_m7 at h
  by_cases z : g151 true x (g93_r6 x).1 = 0
  · exact z
  · have : (g151 true x (g93_r6 x).1 == 0) = false := beq_eq_false_iff_ne.2 z
    rw [this] at h
    exact h
theorem law27 (x : Sl Int) (_ : Canon x) (_ : x.n ≤ 1048576) (hU : U8 x) : g27 x = true := by
  show g27_m1 x = true
  have wE : (g93_0_1 x).n ≤ 255 ∧ ∀ i, i < (g93_0_1 x).n → W175 ((g93_0_1 x).at' i) := by
    unfold g93_0_1
    exact fit (P := fun s => s.n ≤ 255 ∧ ∀ i, i < s.n → W175 (s.at' i)) ⟨Nat.zero_le _, fun i h => absurd h (Nat.not_lt_zero i)⟩ fun c z => ((all27 x hU c).2 (m7z x hU c z)).2.2.2.2.2.1
  have wC : (g93_0_3 x).n ≤ 255 ∧ ∀ i, i < (g93_0_3 x).n → W137 ((g93_0_3 x).at' i) := by
    unfold g93_0_3
    exact fit (P := fun s => s.n ≤ 255 ∧ ∀ i, i < s.n → W137 (s.at' i)) ⟨Nat.zero_le _, fun i h => absurd h (Nat.not_lt_zero i)⟩ fun c z => ((all27 x hU c).2 (m7z x hU c z)).2.2.2.2.2.2
  have s1 : SlE R175 (g93_0_1 x) (g93_0_1 x) := ⟨rfl, fun i hi => by
    obtain ⟨⟨_, a⟩, ⟨_, b⟩, _, c⟩ := wE.2 i hi
    exact ⟨⟨rfl, rfl, rfl, rfl, rfl⟩, ⟨SlE.rfl' (fun _ => rfl) _, SlE.rfl' (fun _ => rfl) _, SlE.rfl' (fun _ => rfl) _⟩, by omega, by omega, by omega⟩⟩
  have s3 : SlE R137 (g93_0_3 x) (g93_0_3 x) := ⟨rfl, fun i hi => by
    obtain ⟨_, a⟩ := wC.2 i hi
    exact ⟨⟨rfl, rfl, rfl, rfl, rfl, rfl⟩, SlE.rfl' (fun _ => rfl) _, by omega⟩⟩
  unfold g27_m1
  rw [show g82 x = x from rfl, e27_c x hU, e27_0 x hU, e27_1 x hU, e27_2 x hU, e27_3 x hU, t34 s1 (by have := wE.1; omega) s3 (by have := wC.1; omega)]
  simp
end Go.Proofs.Ytchhfojblmceiaa
