/-
  What is proved: a part of the laws of this seat, in plain Lean.
-/
import Derived.Test.YtchhfojblmceiaaP27
namespace Go.Proofs.Ytchhfojblmceiaa
open Go Go.Vc Go.RowKit
set_option maxRecDepth 100000
set_option maxHeartbeats 1000000
section
variable {x : Sl Int} (hn : x.n ≤ 20000) (hU : U8 x)
include hn hU
theorem ok_entry {s : Sl Int} {b : Bool} {a : Int} (hs : U8 s) (h0 : 0 ≤ a) (h1 : a ≤ 700000000000) (h : Rd x s b a) :
    Ok x s b a (g163pp_h2_0 s b) (g163pp_h2_1 s b) (g169_h0_1 x (g173_h0_1 x (g172_h0_1 x a))) 1000264
      ((⟨(g164 s b), (g165_0 (g164_h0_0 s b) (g164_h0_1 s b)), (g165_1 (g164_h0_0 s b) (g164_h0_1 s b)), (g165_2 (g164_h0_0 s b) (g164_h0_1 s b)), (g165_3 (g164_h0_0 s b) (g164_h0_1 s b)), (g165_4 (g164_h0_0 s b) (g164_h0_1 s b)), (g165_5 (g164_h0_0 s b) (g164_h0_1 s b)), (g161 (g165_h0_0 (g164_h0_0 s b) (g164_h0_1 s b)) (g165_h0_1 (g164_h0_0 s b) (g164_h0_1 s b)))⟩ : T175) =
        ⟨(g172 x a), (g173_0 x (g172_h0_1 x a)), (g173_1 x (g172_h0_1 x a)), (g173_2 x (g172_h0_1 x a)), (g173_3 x (g172_h0_1 x a)), (g173_4 x (g172_h0_1 x a)), (g173_5 x (g172_h0_1 x a)), (g169 x (g173_h0_1 x (g172_h0_1 x a)))⟩ ∧
       W175 (⟨(g164 s b), (g165_0 (g164_h0_0 s b) (g164_h0_1 s b)), (g165_1 (g164_h0_0 s b) (g164_h0_1 s b)), (g165_2 (g164_h0_0 s b) (g164_h0_1 s b)), (g165_3 (g164_h0_0 s b) (g164_h0_1 s b)), (g165_4 (g164_h0_0 s b) (g164_h0_1 s b)), (g165_5 (g164_h0_0 s b) (g164_h0_1 s b)), (g161 (g165_h0_0 (g164_h0_0 s b) (g164_h0_1 s b)) (g165_h0_1 (g164_h0_0 s b) (g164_h0_1 s b)))⟩ : T175)) := by
  have k1 := ok_text hn hU hs h0 (by omega) h
  have b1 := k1.2.1; have c1 := k1.2.2.1
  have k2 := ok_value hn hU k1.1 (by omega) (by omega) k1.2.2.2.1
  have b2 := k2.2.1; have c2 := k2.2.2.1
  have k3 := ok_word hn hU k2.1 (by omega) (by omega) k2.2.2.2.1
  refine (k1.trans (k2.trans k3)).weaken (by omega) fun ⟨e1, ⟨⟨v0, v1, v2⟩, ⟨v3, w3, n3, _⟩, ⟨v4, w4, n4, _⟩, v5, w5, n5, _⟩, e3⟩ => ?_
  refine ⟨?_, ⟨w3, ?_⟩, ⟨w4, ?_⟩, w5, ?_⟩
  · rw [e1, v0, v1, v2, v3, v4, v5, e3]
  · show (g165_3 _ _).n ≤ _; omega
  · show (g165_4 _ _).n ≤ _; omega
  · show (g165_5 _ _).n ≤ _; omega
theorem ok_entries {s : Sl Int} {b : Bool} (hs : U8 s) (h0 : 0 ≤ g169_h0_1 x 0) (h1 : g169_h0_1 x 0 ≤ 100) (h : Rd x s b (g169_h0_1 x 0)) :
    Ok x s b (g169_h0_1 x 0) (g162_163pp_h2_0 s b nilSl) (g162_163pp_h2_1 s b nilSl) (g93_r3 x).1 255067321 (Good W175 255 (g162_163pp_h3_0 s b nilSl) (g93_r3 x).2) :=
  (ok_each W175 g162_163pp_l1 (g93_l2 x) g163pp_h2_0 g163pp_h2_1 _ _ _ 1000264 700000000000 (by omega) (fun _ _ _ _ _ => rfl) (fun _ _ _ _ => rfl)
    (fun s b a hs h0 h1 h => ok_entry hn hU hs h0 h1 h) hn hU hs h0 (by omega) (by omega) h).weaken (by omega) id
theorem ok_client {s : Sl Int} {b : Bool} {a : Int} (hs : U8 s) (h0 : 0 ≤ a) (h1 : a ≤ 700000000000) (h : Rd x s b a) :
    ∃ u : T137, g166pp_h4_0 s b nilSl = Sl.app nilSl (Sl.lit [u]) ∧ (∀ l, g166pp_h4_0 s b l = Sl.app l (Sl.lit [u])) ∧
    Ok x s b a (g166pp_h2_0 s b) (g166pp_h2_1 s b) (g174_h0_1 x (g169_h0_1 x (g172_h0_1 x (g170_h0_1 (g169_h0_1 x (g169_h0_1 x (g169_h0_1 x a))))))) 65570
      (u = ⟨(g169 x a), (g169 x (g169_h0_1 x a)), (g169 x (g169_h0_1 x (g169_h0_1 x a))), (g170 x (g169_h0_1 x (g169_h0_1 x (g169_h0_1 x a)))), (g172 x (g170_h0_1 (g169_h0_1 x (g169_h0_1 x (g169_h0_1 x a))))), (g169 x (g172_h0_1 x (g170_h0_1 (g169_h0_1 x (g169_h0_1 x (g169_h0_1 x a)))))), (g174 x (g169_h0_1 x (g172_h0_1 x (g170_h0_1 (g169_h0_1 x (g169_h0_1 x (g169_h0_1 x a)))))))⟩ ∧ W137 u) := by
  have k1 := ok_word hn hU hs h0 (by omega) h
  have b1 := k1.2.1; have c1 := k1.2.2.1
  have k2 := ok_word hn hU k1.1 (by omega) (by omega) k1.2.2.2.1
  have b2 := k2.2.1; have c2 := k2.2.2.1
  have k3 := ok_word hn hU k2.1 (by omega) (by omega) k2.2.2.2.1
  have b3 := k3.2.1; have c3 := k3.2.2.1
  have k4 := ok_byte hn k3.1 (by omega) (by omega) k3.2.2.2.1
  have b4 := k4.2.1; have c4 := k4.2.2.1
  have k5 := ok_text hn hU k4.1 (by omega) (by omega) k4.2.2.2.1
  have b5 := k5.2.1; have c5 := k5.2.2.1
  have k6 := ok_word hn hU k5.1 (by omega) (by omega) k5.2.2.2.1
  have b6 := k6.2.1; have c6 := k6.2.2.1
  have k7 := ok_texts hn hU k6.1 (by omega) (by omega) k6.2.2.2.1
  refine ⟨_, rfl, fun _ => rfl, (k1.trans (k2.trans (k3.trans (k4.trans (k5.trans (k6.trans k7)))))).weaken (by omega) fun ⟨e1, e2, e3, e4, e5, e6, ⟨e7, w7, n7, _⟩⟩ => ?_⟩
  refine ⟨by rw [e1, e2, e3, e4, e5, e6, e7], w7, ?_⟩
  show (g168 _ _).n ≤ _; omega
end
end Go.Proofs.Ytchhfojblmceiaa
