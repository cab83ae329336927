/-
  The closed facts that all rows of this dump share: how the dump was made, and what it stops at.
-/
import Derived.Test.YtfbpilmhnpkfhaaGreatDoorRows
import Derived.ProofKit
import Derived.Test.YtfbpilmhnpkfhaaGreatDoorVcD
set_option linter.all false
namespace Go.Proofs.YtfbpilmhnpkfhaaGreatDoor
open Go Go.RowKit
set_option maxRecDepth 100000
def headSigns:List Char:=[Char.ofNat 104,Char.ofNat 97,Char.ofNat 114,Char.ofNat 110,Char.ofNat 101,Char.ofNat 115,Char.ofNat 115,Char.ofNat 32,Char.ofNat 100,Char.ofNat 101,Char.ofNat 102,Char.ofNat 50,Char.ofNat 102,Char.ofNat 48,Char.ofNat 56,Char.ofNat 100,Char.ofNat 54,Char.ofNat 99,Char.ofNat 51,Char.ofNat 57,Char.ofNat 49,Char.ofNat 56,Char.ofNat 53,Char.ofNat 100,Char.ofNat 97,Char.ofNat 51,Char.ofNat 99,Char.ofNat 56,Char.ofNat 97,Char.ofNat 49,Char.ofNat 50,Char.ofNat 54,Char.ofNat 98,Char.ofNat 98,Char.ofNat 102,Char.ofNat 56,Char.ofNat 48,Char.ofNat 54,Char.ofNat 97,Char.ofNat 101,Char.ofNat 55,Char.ofNat 52,Char.ofNat 98,Char.ofNat 51,Char.ofNat 99,Char.ofNat 57,Char.ofNat 101,Char.ofNat 50,Char.ofNat 99,Char.ofNat 48,Char.ofNat 97,Char.ofNat 54,Char.ofNat 54,Char.ofNat 48,Char.ofNat 49,Char.ofNat 48,Char.ofNat 49,Char.ofNat 48,Char.ofNat 99,Char.ofNat 56,Char.ofNat 52,Char.ofNat 48,Char.ofNat 57,Char.ofNat 101,Char.ofNat 100,Char.ofNat 99,Char.ofNat 99,Char.ofNat 99,Char.ofNat 49,Char.ofNat 100,Char.ofNat 56,Char.ofNat 97,Char.ofNat 32,Char.ofNat 99,Char.ofNat 117,Char.ofNat 116,Char.ofNat 32,Char.ofNat 97,Char.ofNat 116,Char.ofNat 32,Char.ofNat 114,Char.ofNat 111,Char.ofNat 115,Char.ofNat 116,Char.ofNat 114,Char.ofNat 117,Char.ofNat 109,Char.ofNat 47,Char.ofNat 114,Char.ofNat 111,Char.ofNat 115,Char.ofNat 116,Char.ofNat 114,Char.ofNat 117,Char.ofNat 109,Char.ofNat 108,Char.ofNat 97,Char.ofNat 119,Char.ofNat 46,Char.ofNat 67,Char.ofNat 108,Char.ofNat 105,Char.ofNat 101,Char.ofNat 110,Char.ofNat 116,Char.ofNat 68,Char.ofNat 111,Char.ofNat 101,Char.ofNat 115]
theorem head_lit:Tryz.prog.initOrder= "harness def2f08d6c39185da3c8a126bbf806ae74b3c9e2c0a6601010c8409edccc1d8a cut at rostrum/rostrumlaw.ClientDoes" :=by kernel_rfl
theorem lit_list:("harness def2f08d6c39185da3c8a126bbf806ae74b3c9e2c0a6601010c8409edccc1d8a cut at rostrum/rostrumlaw.ClientDoes" :String)=String.ofList [Char.ofNat 104,Char.ofNat 97,Char.ofNat 114,Char.ofNat 110,Char.ofNat 101,Char.ofNat 115,Char.ofNat 115,Char.ofNat 32,Char.ofNat 100,Char.ofNat 101,Char.ofNat 102,Char.ofNat 50,Char.ofNat 102,Char.ofNat 48,Char.ofNat 56,Char.ofNat 100,Char.ofNat 54,Char.ofNat 99,Char.ofNat 51,Char.ofNat 57,Char.ofNat 49,Char.ofNat 56,Char.ofNat 53,Char.ofNat 100,Char.ofNat 97,Char.ofNat 51,Char.ofNat 99,Char.ofNat 56,Char.ofNat 97,Char.ofNat 49,Char.ofNat 50,Char.ofNat 54,Char.ofNat 98,Char.ofNat 98,Char.ofNat 102,Char.ofNat 56,Char.ofNat 48,Char.ofNat 54,Char.ofNat 97,Char.ofNat 101,Char.ofNat 55,Char.ofNat 52,Char.ofNat 98,Char.ofNat 51,Char.ofNat 99,Char.ofNat 57,Char.ofNat 101,Char.ofNat 50,Char.ofNat 99,Char.ofNat 48,Char.ofNat 97,Char.ofNat 54,Char.ofNat 54,Char.ofNat 48,Char.ofNat 49,Char.ofNat 48,Char.ofNat 49,Char.ofNat 48,Char.ofNat 99,Char.ofNat 56,Char.ofNat 52,Char.ofNat 48,Char.ofNat 57,Char.ofNat 101,Char.ofNat 100,Char.ofNat 99,Char.ofNat 99,Char.ofNat 99,Char.ofNat 49,Char.ofNat 100,Char.ofNat 56,Char.ofNat 97,Char.ofNat 32,Char.ofNat 99,Char.ofNat 117,Char.ofNat 116,Char.ofNat 32,Char.ofNat 97,Char.ofNat 116,Char.ofNat 32,Char.ofNat 114,Char.ofNat 111,Char.ofNat 115,Char.ofNat 116,Char.ofNat 114,Char.ofNat 117,Char.ofNat 109,Char.ofNat 47,Char.ofNat 114,Char.ofNat 111,Char.ofNat 115,Char.ofNat 116,Char.ofNat 114,Char.ofNat 117,Char.ofNat 109,Char.ofNat 108,Char.ofNat 97,Char.ofNat 119,Char.ofNat 46,Char.ofNat 67,Char.ofNat 108,Char.ofNat 105,Char.ofNat 101,Char.ofNat 110,Char.ofNat 116,Char.ofNat 68,Char.ofNat 111,Char.ofNat 101,Char.ofNat 115]:=by kernel_rfl
theorem head_list:Tryz.prog.initOrder.toList=headSigns:=by rw[head_lit,lit_list,String.toList_ofList];rfl
theorem head_words:behindMainWord (wordsSigns headSigns)=[Char.ofNat 99,Char.ofNat 117,Char.ofNat 116]::(wordsSigns headSigns).drop 3:=by kernel_rfl
theorem head_behind:behindMainWord (wordsSigns Tryz.prog.initOrder.toList)=[Char.ofNat 99,Char.ofNat 117,Char.ofNat 116]::(wordsSigns headSigns).drop 3:=by rw[head_list];exact head_words
end Go.Proofs.YtfbpilmhnpkfhaaGreatDoor
namespace Go.Proofs.YtfbpilmhnpkfhaaGreatDoor
open Go Go.RowKit
set_option maxRecDepth 100000
theorem make_cut{P:Program}{r:List (List Char)}(h:behindMainWord (wordsSigns P.initOrder.toList)=[Char.ofNat 99,Char.ofNat 117,Char.ofNat 116]::r):P.make=some .cut:=by
 unfold Program.make;rw[h]
 rfl
theorem strip_cut(r:List (List Char)):stripLifts liftWords ([Char.ofNat 99,Char.ofNat 117,Char.ofNat 116]::r)=([],[Char.ofNat 99,Char.ofNat 117,Char.ofNat 116]::r):=by kernel_rfl
theorem lifts_cut{P:Program}{r:List (List Char)}(h:behindMainWord (wordsSigns P.initOrder.toList)=[Char.ofNat 99,Char.ofNat 117,Char.ofNat 116]::r):P.headLifts=[]:=by
 unfold Program.headLifts;rw[h,strip_cut]
 rfl
theorem final_cut{P:Program}{r:List (List Char)}(h:behindMainWord (wordsSigns P.initOrder.toList)=[Char.ofNat 99,Char.ofNat 117,Char.ofNat 116]::r):P.liftsFinal=false:=by
 unfold Program.liftsFinal;rw[lifts_cut h,h]
 rfl
theorem enter_cut{P:Program}{r:List (List Char)}(h:behindMainWord (wordsSigns P.initOrder.toList)=[Char.ofNat 99,Char.ofNat 117,Char.ofNat 116]::r)(h1:P.laysLater=false)(h2:P.bearsReflect=false)(h3:P.doorFits []=true):P.mayEnter=true:=by
 unfold Program.mayEnter;rw[h]
 simp only[strip_cut,h1,h2,h3]
 rfl
theorem Tryz.own:ownKnob Tryz.prog.godebug=none:=by kernel_rfl
theorem jf28:Tryz.prog.make=some .cut:=make_cut head_behind
theorem jf27:Tryz.prog.liftsFinal=false:=final_cut head_behind
theorem jf26:Tryz.prog.mayEnter=true:=enter_cut head_behind (by kernel_rfl) (by kernel_rfl) (by kernel_rfl)
theorem jf2:laidOutB Tryz.prog=true:=by kernel_rfl
theorem jf3:mapsRowed Tryz.prog=true:=by kernel_rfl
theorem jf7:(Tryz.prog.stops==[])=true:=by kernel_rfl
theorem jf9:(Tryz.prog.stopKnobs==[])=true:=by kernel_rfl
theorem jf23:Tryz.prog.plainKeys=true:=by kernel_rfl
theorem jf25:Tryz.prog.stopsHeard=true:=by kernel_rfl
end Go.Proofs.YtfbpilmhnpkfhaaGreatDoor
namespace Go.Proofs.YtfbpilmhnpkfhaaGreatDoor
open Go Go.Vc Go.RowKit
theorem bulk_part{H:Type}{d:DataW H}{l:List (DataW H)}(h:d∈l):Rows.uptoBulk d≤Rows.uptoBulkAll l:=by
 induction l with
 |nil=>cases h
 |cons x r ih=>
  simp only[Rows.uptoBulkAll]
  cases List.mem_cons.1 h with
  |inl e=>subst e;omega
  |inr e=>have:=ih e;omega
theorem bulk_one{H:Type}(d:DataW H):1≤Rows.uptoBulk d:=by
 cases d with
 |lit l=>cases l<;>simp [Rows.uptoBulk]
 |nil=>simp [Rows.uptoBulk]
 |ptr d=>simp [Rows.uptoBulk]
 |slice elems spare=>simp [Rows.uptoBulk]
 |agg parts=>simp [Rows.uptoBulk]
 |iface t d=>simp [Rows.uptoBulk]
 |map entries=>simp [Rows.uptoBulk]
 |held h=>simp [Rows.uptoBulk]
theorem bulk_length{H:Type}(l:List (DataW H)):l.length≤Rows.uptoBulkAll l:=by
 induction l with
 |nil=>simp [Rows.uptoBulkAll]
 |cons x r ih=>have:=bulk_one x;simp only[Rows.uptoBulkAll,List.length_cons];omega
theorem bulk_ok(H:Type):Bulk (Rows.uptoBulk (H:=H)):=by
 refine⟨fun l=> ?_,fun e r=> ?_,fun e r d hd=> ?_,fun e d hd=> ?_⟩
 ·simp [Rows.uptoBulk]
 ·have:=bulk_length e;simp only[Rows.uptoBulk];omega
 ·have:=bulk_part hd;simp only[Rows.uptoBulk];omega
 ·have:=bulk_part hd;simp only[Rows.uptoBulk];omega
theorem bulk_small{H:Type}{l:List (DataW H)}(hk:Rows.uptoSmall H l=true): ∀d∈l,Rows.uptoBulk d≤1048576:=fun d hd=>by
 have h:Rows.uptoBulkAll l≤1048576:=of_decide_eq_true hk
 have:=bulk_part hd
 omega
end Go.Proofs.YtfbpilmhnpkfhaaGreatDoor
