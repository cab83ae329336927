/-
  slices.Clone, at the types of the program: new memory with the same data.
-/
import Derived.Test.YtfbpilmhnpkfhaaGreatDoorTy
set_option linter.all false
namespace Go.Proofs.YtfbpilmhnpkfhaaGreatDoor
open Go Go.Vc Go.RowKit
set_option maxRecDepth 100000
theorem pc210(x0:Sl T160):PureCall Tryz.prog 49 [ofSl 2 e160 x0] (.blk false 2 x0.n (fun i=>e160 (x0.at' i))):=by
 refine PureCall.fine fun hf=> ?_
 have hf_x0:Fine (ofSl 2 e160 x0):=hf.1
 have hn_x0:x0.n≤549755813888:=hf_x0.len
 refine pure_of_WP (E:=mkE []) (mkE_ok trivial) Tryz.func49 rfl _ _ ?_
 refine WP.step (mkE_ok trivial) ⟨[ofSl 2 e160 x0,U,.nils,U,U,U,U,U],[]⟩ (((x0.n=x0.n∧ ∀i,i<x0.n→e160 (x0.at' i)=e160 (x0.at' i))∧((.nils:AV)= .nils)∧True)∧True∧true=true) (by kernel_rfl) ⟨⟨⟨rfl,fun _ _=>rfl⟩,rfl,trivial⟩,trivial,rfl⟩ ?_
 refine WP.joinB ⟨[ofSl 2 e160 x0,U,.nils,U,U,U,U,U],[]⟩ ?_ ?_
 ·refine WP.eqNil (T:=61) (mkE_ok (l:=[]) trivial) rfl rfl rfl rfl rfl rfl rfl rfl rfl (by show 3<8;omega) fun q hq=> ?_
  refine WP.condR q rfl (fun h=> ?_) (fun h=> ?_)
  ·refine WP.step (mkE_ok trivial) ⟨[ofSl 2 e160 x0,U,.nils,U,U,U,U,U],[]⟩ (((x0.n=x0.n∧ ∀i,i<x0.n→e160 (x0.at' i)=e160 (x0.at' i))∧((.nils:AV)= .nils)∧True)∧True∧true=true) (by kernel_rfl) ⟨⟨⟨rfl,fun _ _=>rfl⟩,rfl,trivial⟩,trivial,rfl⟩ ?_
   exact WP.retP (True∧(x0.n=0)) (by kernel_rfl) ⟨trivial,hq h⟩
  ·exact WP.skipP (((x0.n=x0.n∧ ∀i,i<x0.n→e160 (x0.at' i)=e160 (x0.at' i))∧((.nils:AV)= .nils)∧True)∧True∧true=true) (by kernel_rfl) ⟨⟨⟨rfl,fun _ _=>rfl⟩,rfl,trivial⟩,trivial,rfl⟩
 ·refine WP.step (mkE_ok trivial) ⟨[ofSl 2 e160 x0,U,.own 0 x0.n,U,U,U,U,U],[[.blk false 2 x0.n (fun i=>e160 (x0.at' i))]]⟩ (∃h:Nat→List AV,(∀i,i<0→nzL (([]:List (List AV)).getD i []) (h i))∧((0:Nat)=0)∧(0+x0.n≤549755813888)∧ ∃h':Nat→List AV,(∀i,i<0+x0.n→appF 0 h (fun i=>e160 (x0.at' i)) i=h' i)∧(((x0.n=x0.n∧ ∀i,i<x0.n→e160 (x0.at' i)=e160 (x0.at' i))∧((.own 0 (0+x0.n):AV)= .own 0 x0.n)∧True)∧(((0+x0.n=x0.n∧ ∀i,i<x0.n→nzL (h' i) (e160 (x0.at' i)))∧True)∧True)∧true=true)) (by kernel_rfl)
   ⟨fun _=>[],fun i h=>absurd h (Nat.not_lt_zero i),rfl,by omega,fun i=>e160 (x0.at' i),fun i _=>appNil _ _ i,⟨⟨rfl,fun _ _=>rfl⟩,(by rw[Nat.zero_add]),trivial⟩,⟨⟨⟨Nat.zero_add _,fun _ _=>nzL_refl _⟩,trivial⟩,trivial⟩,rfl⟩ ?_
  exact WP.retP (True∧((x0.n:Nat)=x0.n∧x0.n=x0.n∧ ∀i,i<x0.n→e160 (x0.at' i)=e160 (x0.at' i))) (by kernel_rfl) ⟨trivial,rfl,rfl,fun _ _=>rfl⟩
theorem pc211(x0:Sl ByteArray):PureCall Tryz.prog 35 [ofSl 1 e9 x0] (.blk false 1 x0.n (fun i=>e9 (x0.at' i))):=by
 refine PureCall.fine fun hf=> ?_
 have hf_x0:Fine (ofSl 1 e9 x0):=hf.1
 have hn_x0:x0.n≤549755813888:=hf_x0.len
 refine pure_of_WP (E:=mkE []) (mkE_ok trivial) Tryz.func35 rfl _ _ ?_
 refine WP.step (mkE_ok trivial) ⟨[ofSl 1 e9 x0,U,.nils,U,U,U,U,U],[]⟩ (((x0.n=x0.n∧ ∀i,i<x0.n→e9 (x0.at' i)=e9 (x0.at' i))∧((.nils:AV)= .nils)∧True)∧True∧true=true) (by kernel_rfl) ⟨⟨⟨rfl,fun _ _=>rfl⟩,rfl,trivial⟩,trivial,rfl⟩ ?_
 refine WP.joinB ⟨[ofSl 1 e9 x0,U,.nils,U,U,U,U,U],[]⟩ ?_ ?_
 ·refine WP.eqNil (T:=34) (mkE_ok (l:=[]) trivial) rfl rfl rfl rfl rfl rfl rfl rfl rfl (by show 3<8;omega) fun q hq=> ?_
  refine WP.condR q rfl (fun h=> ?_) (fun h=> ?_)
  ·refine WP.step (mkE_ok trivial) ⟨[ofSl 1 e9 x0,U,.nils,U,U,U,U,U],[]⟩ (((x0.n=x0.n∧ ∀i,i<x0.n→e9 (x0.at' i)=e9 (x0.at' i))∧((.nils:AV)= .nils)∧True)∧True∧true=true) (by kernel_rfl) ⟨⟨⟨rfl,fun _ _=>rfl⟩,rfl,trivial⟩,trivial,rfl⟩ ?_
   exact WP.retP (True∧(x0.n=0)) (by kernel_rfl) ⟨trivial,hq h⟩
  ·exact WP.skipP (((x0.n=x0.n∧ ∀i,i<x0.n→e9 (x0.at' i)=e9 (x0.at' i))∧((.nils:AV)= .nils)∧True)∧True∧true=true) (by kernel_rfl) ⟨⟨⟨rfl,fun _ _=>rfl⟩,rfl,trivial⟩,trivial,rfl⟩
 ·refine WP.step (mkE_ok trivial) ⟨[ofSl 1 e9 x0,U,.own 0 x0.n,U,U,U,U,U],[[.blk false 1 x0.n (fun i=>e9 (x0.at' i))]]⟩ (∃h:Nat→List AV,(∀i,i<0→nzL (([]:List (List AV)).getD i []) (h i))∧((0:Nat)=0)∧(0+x0.n≤549755813888)∧ ∃h':Nat→List AV,(∀i,i<0+x0.n→appF 0 h (fun i=>e9 (x0.at' i)) i=h' i)∧(((x0.n=x0.n∧ ∀i,i<x0.n→e9 (x0.at' i)=e9 (x0.at' i))∧((.own 0 (0+x0.n):AV)= .own 0 x0.n)∧True)∧(((0+x0.n=x0.n∧ ∀i,i<x0.n→nzL (h' i) (e9 (x0.at' i)))∧True)∧True)∧true=true)) (by kernel_rfl)
   ⟨fun _=>[],fun i h=>absurd h (Nat.not_lt_zero i),rfl,by omega,fun i=>e9 (x0.at' i),fun i _=>appNil _ _ i,⟨⟨rfl,fun _ _=>rfl⟩,(by rw[Nat.zero_add]),trivial⟩,⟨⟨⟨Nat.zero_add _,fun _ _=>nzL_refl _⟩,trivial⟩,trivial⟩,rfl⟩ ?_
  exact WP.retP (True∧((x0.n:Nat)=x0.n∧x0.n=x0.n∧ ∀i,i<x0.n→e9 (x0.at' i)=e9 (x0.at' i))) (by kernel_rfl) ⟨trivial,rfl,rfl,fun _ _=>rfl⟩
theorem pc212(x0:Sl T164):PureCall Tryz.prog 50 [ofSl 2 e164 x0] (.blk false 2 x0.n (fun i=>e164 (x0.at' i))):=by
 refine PureCall.fine fun hf=> ?_
 have hf_x0:Fine (ofSl 2 e164 x0):=hf.1
 have hn_x0:x0.n≤549755813888:=hf_x0.len
 refine pure_of_WP (E:=mkE []) (mkE_ok trivial) Tryz.func50 rfl _ _ ?_
 refine WP.step (mkE_ok trivial) ⟨[ofSl 2 e164 x0,U,.nils,U,U,U,U,U],[]⟩ (((x0.n=x0.n∧ ∀i,i<x0.n→e164 (x0.at' i)=e164 (x0.at' i))∧((.nils:AV)= .nils)∧True)∧True∧true=true) (by kernel_rfl) ⟨⟨⟨rfl,fun _ _=>rfl⟩,rfl,trivial⟩,trivial,rfl⟩ ?_
 refine WP.joinB ⟨[ofSl 2 e164 x0,U,.nils,U,U,U,U,U],[]⟩ ?_ ?_
 ·refine WP.eqNil (T:=62) (mkE_ok (l:=[]) trivial) rfl rfl rfl rfl rfl rfl rfl rfl rfl (by show 3<8;omega) fun q hq=> ?_
  refine WP.condR q rfl (fun h=> ?_) (fun h=> ?_)
  ·refine WP.step (mkE_ok trivial) ⟨[ofSl 2 e164 x0,U,.nils,U,U,U,U,U],[]⟩ (((x0.n=x0.n∧ ∀i,i<x0.n→e164 (x0.at' i)=e164 (x0.at' i))∧((.nils:AV)= .nils)∧True)∧True∧true=true) (by kernel_rfl) ⟨⟨⟨rfl,fun _ _=>rfl⟩,rfl,trivial⟩,trivial,rfl⟩ ?_
   exact WP.retP (True∧(x0.n=0)) (by kernel_rfl) ⟨trivial,hq h⟩
  ·exact WP.skipP (((x0.n=x0.n∧ ∀i,i<x0.n→e164 (x0.at' i)=e164 (x0.at' i))∧((.nils:AV)= .nils)∧True)∧True∧true=true) (by kernel_rfl) ⟨⟨⟨rfl,fun _ _=>rfl⟩,rfl,trivial⟩,trivial,rfl⟩
 ·refine WP.step (mkE_ok trivial) ⟨[ofSl 2 e164 x0,U,.own 0 x0.n,U,U,U,U,U],[[.blk false 2 x0.n (fun i=>e164 (x0.at' i))]]⟩ (∃h:Nat→List AV,(∀i,i<0→nzL (([]:List (List AV)).getD i []) (h i))∧((0:Nat)=0)∧(0+x0.n≤549755813888)∧ ∃h':Nat→List AV,(∀i,i<0+x0.n→appF 0 h (fun i=>e164 (x0.at' i)) i=h' i)∧(((x0.n=x0.n∧ ∀i,i<x0.n→e164 (x0.at' i)=e164 (x0.at' i))∧((.own 0 (0+x0.n):AV)= .own 0 x0.n)∧True)∧(((0+x0.n=x0.n∧ ∀i,i<x0.n→nzL (h' i) (e164 (x0.at' i)))∧True)∧True)∧true=true)) (by kernel_rfl)
   ⟨fun _=>[],fun i h=>absurd h (Nat.not_lt_zero i),rfl,by omega,fun i=>e164 (x0.at' i),fun i _=>appNil _ _ i,⟨⟨rfl,fun _ _=>rfl⟩,(by rw[Nat.zero_add]),trivial⟩,⟨⟨⟨Nat.zero_add _,fun _ _=>nzL_refl _⟩,trivial⟩,trivial⟩,rfl⟩ ?_
  exact WP.retP (True∧((x0.n:Nat)=x0.n∧x0.n=x0.n∧ ∀i,i<x0.n→e164 (x0.at' i)=e164 (x0.at' i))) (by kernel_rfl) ⟨trivial,rfl,rfl,fun _ _=>rfl⟩
noncomputable def F210:Fq:=⟨[.v (.sl E160)],fun x0=>⟨⟨none,(Kd.blk E160).av x0⟩⟩⟩
theorem k210:XOk Tryz.prog 49 F210.ans:=Fq.ok ⟨_,_,Tryz.func49,rfl,by kernel_rfl⟩ fun x0 _ _=>pc210 x0
noncomputable def F211:Fq:=⟨[.v (.sl E9)],fun x0=>⟨⟨none,(Kd.blk E9).av x0⟩⟩⟩
theorem k211:XOk Tryz.prog 35 F211.ans:=Fq.ok ⟨_,_,Tryz.func35,rfl,by kernel_rfl⟩ fun x0 _ _=>pc211 x0
noncomputable def F212:Fq:=⟨[.v (.sl E164)],fun x0=>⟨⟨none,(Kd.blk E164).av x0⟩⟩⟩
theorem k212:XOk Tryz.prog 50 F212.ans:=Fq.ok ⟨_,_,Tryz.func50,rfl,by kernel_rfl⟩ fun x0 _ _=>pc212 x0
end Go.Proofs.YtfbpilmhnpkfhaaGreatDoor
