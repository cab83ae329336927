/-
  What is proved: a part of the laws of this seat, in plain Lean.
-/
import Derived.Test.YtchhfojblmceiaaP27b
import Derived.Test.YtchhfojblmceiaaPsm
namespace Go.Proofs.Ytchhfojblmceiaa
open Go Go.Vc Go.RowKit
set_option maxRecDepth 100000
abbrev Any {α : Type} : α → Prop := fun _ => True
section
variable {x : Sl Int} (hn : x.n ≤ 20000) (hU : U8 x)
include hn hU
theorem ok_texts {s : Sl Int} {b : Bool} {a : Int} (hs : U8 s) (h0 : 0 ≤ a) (h1 : a ≤ 900000000000) (h : Rd x s b a) :
    Ok x s b a (g168_h0_0 s b) (g168_h0_1 s b) (g174_h0_1 x a) 65281 (Good Any 255 (g168 s b) (g174 x a)) :=
  (ok_each Any g162_208pp_l1 (g174_l1 x a) g208pp_h2_0 g208pp_h2_1 g164 (g172_h0_1 x) (g172 x) 256 1000000000000 (by omega) (fun _ _ _ _ _ => rfl) (fun _ _ _ _ => rfl)
    (fun s b a hs h0 h1 h => (ok_text hn hU hs h0 (by omega) h).weaken (Int.le_refl _) fun e => ⟨e, trivial⟩) hn hU hs h0 (by omega) (by omega) h).weaken (by omega) id
theorem ok_206 (x1 : Int) {s : Sl Int} {b : Bool} (hs : U8 s) (h0 : 0 ≤ g169_h0_1 x (g172_h0_1 x (g170_h0_1 x1))) (h1 : g169_h0_1 x (g172_h0_1 x (g170_h0_1 x1)) ≤ 900000000000) (h : Rd x s b (g169_h0_1 x (g172_h0_1 x (g170_h0_1 x1)))) :
    Ok x s b (g169_h0_1 x (g172_h0_1 x (g170_h0_1 x1))) (g162_206pp_h2_0 s b nilSl) (g162_206pp_h2_1 s b nilSl) (g173_r3 x x1).1 130561 (Good Any 255 (g162_206pp_h3_0 s b nilSl) (g173_r3 x x1).2) :=
  (ok_each Any g162_206pp_l1 (g173_l1 x x1) g206pp_h2_0 g206pp_h2_1 (fun s b => (⟨g164 s b, g164 (g164_h0_0 s b) (g164_h0_1 s b)⟩ : T160)) (fun a => g172_h0_1 x (g172_h0_1 x a)) (fun a => ⟨g172 x a, g172 x (g172_h0_1 x a)⟩) 512 1000000000000 (by omega) (fun _ _ _ _ _ => rfl) (fun _ _ _ _ => rfl)
    (fun s b a hs h0 h1 h => by
      have k1 := ok_text hn hU hs h0 (by omega) h
      have k2 := ok_text hn hU k1.1 (by have := k1.2.1; omega) (by have := k1.2.2.1; omega) k1.2.2.2.1
      exact (k1.trans k2).weaken (by omega) fun ⟨e1, e2⟩ => ⟨by rw [e1, e2], trivial⟩) hn hU hs h0 (by omega) (by omega) h).weaken (by omega) id
theorem ok_207 (x1 : Int) {s : Sl Int} {b : Bool} (hs : U8 s) (h0 : 0 ≤ g174_h0_1 x (g173_r3 x x1).1) (h1 : g174_h0_1 x (g173_r3 x x1).1 ≤ 900000000000) (h : Rd x s b (g174_h0_1 x (g173_r3 x x1).1)) :
    Ok x s b (g174_h0_1 x (g173_r3 x x1).1) (g162_207pp_h2_0 s b nilSl) (g162_207pp_h2_1 s b nilSl) (g173_h0_1 x x1) 67321 (Good Any 255 (g162_207pp_h4_0 s b nilSl) (g173_5 x x1)) :=
  (ok_each Any g162_207pp_l1 (g173_l13 x x1) g207pp_h2_0 g207pp_h2_1 (fun s b => (⟨g164 s b, g161 (g164_h0_0 s b) (g164_h0_1 s b)⟩ : T164)) (fun a => g169_h0_1 x (g172_h0_1 x a)) (fun a => ⟨g172 x a, g169 x (g172_h0_1 x a)⟩) 264 1000000000000 (by omega) (fun _ _ _ _ _ => rfl) (fun _ _ _ _ => rfl)
    (fun s b a hs h0 h1 h => by
      have k1 := ok_text hn hU hs h0 (by omega) h
      have k2 := ok_word hn hU k1.1 (by have := k1.2.1; omega) (by have := k1.2.2.1; omega) k1.2.2.2.1
      exact (k1.trans k2).weaken (by omega) fun ⟨e1, e2⟩ => ⟨by rw [e1, e2], trivial⟩) hn hU hs h0 (by omega) (by omega) h).weaken (by omega) id
theorem ok_value {s : Sl Int} {b : Bool} {a : Int} (hs : U8 s) (h0 : 0 ≤ a) (h1 : a ≤ 800000000000) (h : Rd x s b a) :
    Ok x s b a (g165_h0_0 s b) (g165_h0_1 s b) (g173_h0_1 x a) 1000000 ((g165_0 s b = g173_0 x a ∧ g165_1 s b = g173_1 x a ∧ g165_2 s b = g173_2 x a) ∧ Good Any 255 (g165_3 s b) (g173_3 x a) ∧ Good Any 255 (g165_4 s b) (g173_4 x a) ∧ Good Any 255 (g165_5 s b) (g173_5 x a)) := by
  have k1 := ok_byte hn hs h0 (by omega) h
  have b1 := k1.2.1; have c1 := k1.2.2.1
  have k2 := ok_text hn hU k1.1 (by omega) (by omega) k1.2.2.2.1
  have b2 := k2.2.1; have c2 := k2.2.2.1
  have k3 := ok_word hn hU k2.1 (by omega) (by omega) k2.2.2.2.1
  have b3 := k3.2.1; have c3 := k3.2.2.1
  have k4 := ok_206 hn hU a k3.1 (by omega) (by omega) k3.2.2.2.1
  have b4 := k4.2.1; have c4 := k4.2.2.1
  have k5 := ok_texts hn hU k4.1 (by omega) (by omega) k4.2.2.2.1
  have b5 := k5.2.1; have c5 := k5.2.2.1
  have k6 := ok_207 hn hU a k5.1 (by omega) (by omega) k5.2.2.2.1
  have K := k1.trans (k2.trans (k3.trans (k4.trans (k5.trans k6))))
  exact K.weaken (by omega) fun ⟨e1, e2, e3, e4, e5, e6⟩ => ⟨⟨e1, e2, e3⟩, e4, e5, e6⟩
end
end Go.Proofs.Ytchhfojblmceiaa
