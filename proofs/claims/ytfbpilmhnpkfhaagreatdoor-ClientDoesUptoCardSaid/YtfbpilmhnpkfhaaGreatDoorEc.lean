/-
  The comparison of two strings, which the machine does.
-/
import Derived.Test.YtfbpilmhnpkfhaaGreatDoorTy
import Derived.Lib.Bytealg
import Derived.Laws.Externs
set_option linter.all false
namespace Go.Proofs.YtfbpilmhnpkfhaaGreatDoor
open Go Go.Vc Go.RowKit
set_option maxRecDepth 100000
def g200(x0 x1:ByteArray):Int:=Lib.compareBytes x0.data.toList x1.data.toList
theorem next226:Extern.findNext Tryz.f114=none:=by kernel_rfl
theorem find226:Extern.find Tryz.f114=some Extern.BytealgCompare.compare:=by kernel_rfl
theorem pc200(x0 x1:ByteArray):PureCall Tryz.prog 97 [.str x0,.str x1] (.int .i64 (g200 x0 x1)):=by
 refine pure_of_WP (E:=mkE []) (mkE_ok trivial) Tryz.func97 rfl _ _ ?_
 refine WP.step (mkE_ok trivial) ⟨[.str x0,.str x1,U,U,U,U,U,U],[]⟩ ((((x0:ByteArray)=x0)∧((x1:ByteArray)=x1)∧True)∧True∧true=true) (by kernel_rfl) ⟨⟨rfl,rfl,trivial⟩,trivial,rfl⟩ ?_
 refine WP.ext4 (x:=x0) (y:=x1) (k:= .i64) (r:=g200 x0 x1) rfl rfl rfl rfl rfl rfl rfl rfl rfl rfl rfl rfl rfl ⟨by decide,by decide⟩ ⟨by show 5<8;omega,by show 6<8;omega,by show 7<8;omega⟩ (fun ρ w hfn h0 h1=> ?_) ?_
 ·have hr:=Lib.run_compareString (P:=Tryz.prog) x0 x1 w
  have hf:Tryz.prog.funcs[114]? =some Tryz.f114:=Tryz.func114
  have hc:=run_callFunc_extern (P:=Tryz.prog) hf (by kernel_rfl) rfl next226 find226 #[.string x0,.string x1] w
  rw[hr]at hc
  simp [execOp,resolve,Deferred.ofValue,invoke,hfn,h0,h1]
  exact hc
 ·exact WP.retP (True∧((.int .i64 (g200 x0 x1):AV)= .int .i64 (g200 x0 x1))) (by kernel_rfl) ⟨trivial,rfl⟩
noncomputable def F200:Fq:=⟨[.v kS,.v kS],fun x0 x1=>⟨⟨none,.int .i64 (g200 x0 x1)⟩⟩⟩
theorem k200:XOk Tryz.prog 97 F200.ans:=Fq.ok ⟨_,_,Tryz.func97,rfl,by kernel_rfl⟩ fun x0 _ x1 _=>pc200 x0 x1
end Go.Proofs.YtfbpilmhnpkfhaaGreatDoor
