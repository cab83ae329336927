/-
  slices.Insert and slices.Delete as what their callers lean on.
-/
import Derived.Test.YtfbpilmhnpkfhaaGreatDoorVcM
import Derived.Test.YtfbpilmhnpkfhaaGreatDoorVcG
set_option linter.all false
namespace Go.Vc
open Go Go.Proofs Go.Shelf Go.RowKit
variable {P:Program} {ρ:Ren}
theorem wrapu64{x:Int}(h1:0≤x)(h2:x≤18446744073709551615):IntKind.u64.wrap x=x:=by
 have h:IntKind.u64.wrap x=x%18446744073709551616:=by simp [IntKind.wrap,IntKind.bits,IntKind.signed]
 rw[h];omega
theorem half2(x:Int):x/2^(Int.toNat 1)=x/2:=rfl
noncomputable def Sl.ins{α:Type}(s:Sl α)(i:Nat)(x:α):Sl α:=⟨s.n+1,fun t=>bif Nat.blt t i then s.at' t else bif Nat.beq t i then x else s.at' (t-1)⟩
noncomputable def Sl.del{α:Type}(s:Sl α)(i j:Nat):Sl α:=⟨s.n- (j-i),fun t=>bif Nat.blt t i then s.at' t else s.at' (t+(j-i))⟩
noncomputable def insQ(E:El):Hq:=⟨[.o 0,.v (.int .i64),.o 1],[(.h 0 0,.blk E),(.h 1 0,.blk E)],[[.undef],[.undef]],
 fun(x1:Int) (x0 x2:Sl E.T)=>⟨⟨some (0≤x1∧x1≤((x0.n:Nat):Int)∧x0.n+1≤549755813888∧x2.n=1),[.own 0 (x0.n+1)],[[(Kd.blk E).av (Sl.ins x0 (Int.toNat x1) (x2.at' 0))],[(Kd.blk E).av x2]]⟩⟩⟩
noncomputable def delQ(E:El):Hq:=⟨[.o 0,.v (.int .i64),.v (.int .i64)],[(.h 0 0,.blk E)],[[.undef]],
 fun(x1 x2:Int) (x0:Sl E.T)=>⟨⟨some (0≤x1∧x1<x2∧x2≤((x0.n:Nat):Int)),[.own 1 (x0.n- (Int.toNat x2-Int.toNat x1))],[[deadB],[(Kd.blk E).av (Sl.del x0 (Int.toNat x1) (Int.toNat x2))]]⟩⟩⟩
theorem ins_X{E:El}{bytes:Nat}{z:Value}(L:InsF P ρ E.sz bytes z)(hc:Callable P (ρ.f 22))(hk0:0<E.sz)(hby:bytes≤255)(hzk: ∀m,(Builtin.zeroCells z.cells m).size=m*E.sz):XHOk P (ρ.f 22) (insQ E).ans:=
 Hq.ok hc rfl fun(x1:Int) (x0:Sl E.T) _ (x2:Sl E.T) _ (hp:0≤x1∧x1≤((x0.n:Nat):Int)∧x0.n+1≤549755813888∧x2.n=1)=>by
  have key: ∀(i m:Nat),x1=(i:Int)→x2.n=m→m=1→HCall P (ρ.f 22) [.own 0 x0.n,.int .i64 x1,.own 1 x2.n] [[.blk false E.sz x0.n fun t=>E.e (x0.at' t)],[.blk false E.sz x2.n fun t=>E.e (x2.at' t)]] [.own 0 (x0.n+1)]
    [[.blk false E.sz (x0.n+1) fun t=>E.e ((Sl.ins x0 (Int.toNat x1) (x2.at' 0)).at' t)],[.blk false E.sz x2.n fun t=>E.e (x2.at' t)]]:=by
   intro i m h1 h2 h3
   rw[h2,h3,h1]
   have h:=ins_H L hk0 hby hzk x0.n i (fun t=>E.e (x0.at' t)) (fun t=>E.e (x2.at' t)) (by omega) hp.2.2.1
   have e:insF (fun t=>E.e (x0.at' t)) i (fun t=>E.e (x2.at' t))=fun t=>E.e ((Sl.ins x0 i (x2.at' 0)).at' t):=by
    funext t
    unfold insF Sl.ins
    simp only
    cases Nat.blt t i with
    |true=>rfl
    |false=>cases Nat.beq t i<;>rfl
   rw[e]at h
   rw[Int.toNat_natCast]
   exact h
  exact key x1.toNat x2.n (by omega) rfl hp.2.2.2
theorem del_X{f:FuncId}{E:El}{z:Value}(hrun:DelRuns P f E.sz z)(hc:Callable P f)(hz: ∀m,(Builtin.zeroCells z.cells m).toList.length=m*E.sz∧ ∀v∈(Builtin.zeroCells z.cells m).toList,v.oneCell'=true):XHOk P f (delQ E).ans:=
 Hq.ok hc rfl fun(x1:Int) (x2:Int) (x0:Sl E.T) _ (hp:0≤x1∧x1<x2∧x2≤((x0.n:Nat):Int))=>by
  have key: ∀(i j:Nat),x1=(i:Int)→x2=(j:Int)→HCall P f [.own 0 x0.n,.int .i64 x1,.int .i64 x2] [[.blk false E.sz x0.n fun t=>E.e (x0.at' t)]] [.own 1 (x0.n- (Int.toNat x2-Int.toNat x1))]
    [[deadB],[.blk false E.sz (x0.n- (Int.toNat x2-Int.toNat x1)) fun t=>E.e ((Sl.del x0 (Int.toNat x1) (Int.toNat x2)).at' t)]]:=by
   intro i j h1 h2
   rw[h1,h2,Int.toNat_natCast,Int.toNat_natCast]
   have h:=del_H hrun hz x0.n i j (fun t=>E.e (x0.at' t)) (by omega) (by omega)
   have e:delF (fun t=>E.e (x0.at' t)) i j=fun t=>E.e ((Sl.del x0 i j).at' t):=by
    funext t
    unfold delF Sl.del
    simp only
    cases Nat.blt t i<;>rfl
   rw[e]at h
   exact h
  exact key x1.toNat x2.toNat (by omega) (by omega)
theorem size_of_info{P:Program}{T:TypeId}{z:Value}{k b:Nat}(h:(P.info? T).map (fun i=>(i.zero,i.size,i.bytes))=some (some z,k,b))(w:World):(Go.sizeOf T).run P w= .ok k w:=by
 obtain⟨i,h1,_,h3,_⟩:=info_parts h
 simp [sizeOf,typeInfo,h1,h3]
theorem zero_of_info{P:Program}{T:TypeId}{z:Value}{k b:Nat}(h:(P.info? T).map (fun i=>(i.zero,i.size,i.bytes))=some (some z,k,b))(w:World):(zeroValue T).run P w= .ok z w:=by
 obtain⟨i,h1,h2,_,_⟩:=info_parts h
 simp [zeroValue,typeInfo,h1,h2]
theorem zeros_one{z:Value}{k:Nat}(hk:z.cells.size=k)(h1:z.cells.all (fun v=>v.oneCell')=true)(m:Nat):(Builtin.zeroCells z.cells m).toList.length=m*k∧ ∀v∈(Builtin.zeroCells z.cells m).toList,v.oneCell'=true:=by
 subst hk
 refine⟨by simp [Builtin.zeroCells],fun v hv=> ?_⟩
 simp only[Builtin.zeroCells,Array.toList_map,List.mem_map,Array.mem_toList_iff,Array.mem_range]at hv
 obtain⟨i,hi,rfl⟩:=hv
 have hpos:0<z.cells.size:=by
  rcases Nat.eq_zero_or_pos z.cells.size with e|e
  ·rw[e]at hi;simp at hi
  ·exact e
 have hlt:=Nat.mod_lt i hpos
 rw[getElem!_pos z.cells _ hlt]
 exact Array.all_eq_true.1 h1 _ hlt
theorem delRuns_of{k b:Nat}{z:Value}(mixed:P.follows .mixedOrders=true)(F:Bears P (ρ.f 45) (SlBodyN.n45 ρ))(t22:P.underlying (ρ.t 22)=some (TypeDesc.slice (ρ.t 23)))(h:(P.info? (ρ.t 23)).map (fun i=>(i.zero,i.size,i.bytes))=some (some z,k,b)):DelRuns P (ρ.f 45) k z:=by
 obtain⟨i0,h1,h2,h3,_⟩:=info_parts h
 intro blk cap n i j w news zs a1 a2 a3 a4 a5 a6 a7 a8 a9 a10 a11
 exact del_k k mixed F t22 (size_of_info h) z (zero_of_info h) i0 h1 h3 blk cap n i j w news zs a1 a2 a3 a4 a5 a6 a7 a8 a9 a10 a11
end Go.Vc
/-
  A search by halves: where it ends.
-/
namespace Go.Vc
open Go
def bsG(p:Nat→Bool):Nat→Int→Int→Int
 |0,_,_=>default
 |k+1,i,j=>bif decide (i<j)then(bif p (Int.toNat (IntKind.i64.wrap ((IntKind.u64.wrap (IntKind.i64.wrap (i+j)))/2^(Int.toNat 1))))then bsG p k (IntKind.i64.wrap ((IntKind.i64.wrap ((IntKind.u64.wrap (IntKind.i64.wrap (i+j)))/2^(Int.toNat 1)))+1)) j
   else bsG p k i (IntKind.i64.wrap ((IntKind.u64.wrap (IntKind.i64.wrap (i+j)))/2^(Int.toNat 1))))else i
theorem bs_half{i j:Int}(hi:0≤i)(hij:i<j)(hj:j≤549755813888):(IntKind.i64.wrap ((IntKind.u64.wrap (IntKind.i64.wrap (i+j)))/2^(Int.toNat 1)))=(i+j)/2∧i≤(i+j)/2∧(i+j)/2<j:=by
 rw[wrap64 (x:=i+j) (by omega) (by omega),wrapu64 (x:=i+j) (by omega) (by omega),half2,wrap64 (by omega) (by omega)]
 omega
theorem bs_bounds{p:Nat→Bool}{n:Int}(hn:n≤549755813888): ∀(k:Nat) (i j:Int),0≤i→i≤j→j≤n→0≤bsG p k i j∧bsG p k i j≤n
 |0,_,_,h1,h2,h3=>⟨Int.le_refl _,by show(0:Int)≤n;omega⟩
 |k+1,i,j,h1,h2,h3=>by
  simp only[bsG]
  by_cases h:i<j
  ·obtain⟨e,e1,e2⟩:=bs_half h1 h (by omega)
   simp only[h,decide_true,cond_true,e]
   cases p (Int.toNat ((i+j)/2))with
   |true=>
    simp only[cond_true]
    rw[wrap64 (by omega) (by omega)]
    exact bs_bounds hn k _ _ (by omega) (by omega) h3
   |false=>
    simp only[cond_false]
    exact bs_bounds hn k _ _ h1 (by omega) (by omega)
  ·simp only[h,decide_false,cond_false]
   omega
theorem bs_at{p:Nat→Bool}{n t:Nat}(hn:n≤549755813888)(hp: ∀m,m<n→p m=decide (m<t))(ht:t≤n): ∀(k:Nat) (i j:Int),0≤i→i≤(t:Int)→(t:Int)≤j→j≤(n:Int)→(j-i).toNat<k→bsG p k i j=(t:Int)
 |0,_,_,_,_,_,_,h=>by omega
 |k+1,i,j,h1,h2,h3,h4,h5=>by
  simp only[bsG]
  by_cases h:i<j
  ·obtain⟨e,e1,e2⟩:=bs_half h1 h (by omega)
   simp only[h,decide_true,cond_true,e]
   rw[hp _ (by omega)]
   by_cases hm:((i+j)/2).toNat<t
   ·simp only[hm,decide_true,cond_true]
    rw[wrap64 (by omega) (by omega)]
    exact bs_at hn hp ht k _ _ (by omega) (by omega) h3 h4 (by omega)
   ·simp only[hm,decide_false,cond_false]
    exact bs_at hn hp ht k _ _ h1 h2 (by omega) (by omega) (by omega)
  ·simp only[h,decide_false,cond_false]
   omega
end Go.Vc
