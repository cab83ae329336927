/-
  slices.Delete at elements of several cells: in place.
-/
import Derived.Test.YtfbpilmhnpkfhaaGreatDoorVcL
import Derived.Shelf.SlBodiesN
import Derived.Shelf.SlGeneric
import Derived.Shelf.RegionOpenPlain
import Derived.WalkKit
import Derived.Deep.LoopGhost
import Derived.Deep.RegionLaw
import Derived.Lib.Walk
import Derived.Sort.WalkB12
import Derived.Lib.SliceRun
import Derived.Lib.SlicesDelete
set_option linter.all false
namespace Go.Vc
open Go Go.Proofs Go.Shelf Go.RowKit Go.Lib Go.Sort
variable {P:Program} {ρ:Ren}
set_option maxHeartbeats 4000000 in
set_option maxRecDepth 1000000 in
theorem del_k(k:Nat)(mixed:P.follows .mixedOrders=true)(F:Bears P (ρ.f 45) (SlBodyN.n45 ρ))
  (t22:P.underlying (ρ.t 22)=some (TypeDesc.slice (ρ.t 23)))
  (z23: ∀w,(Go.sizeOf (ρ.t 23)).run P w= .ok k w) (z:Value) (v23: ∀w,(zeroValue (ρ.t 23)).run P w= .ok z w) (i0:TypeInfo) (hi0:P.info? (ρ.t 23)=some i0) (hz1:i0.size=k)
  (blk cap n i j:Nat) (w:World) (news zs:List Value) (hz:(Builtin.zeroCells z.cells (j-i)).toList=zs) (hzl:zs.length=(j-i)*k) (hz1c: ∀v∈zs,v.oneCell'=true)
  (hlen:news.length=(n-j)*k) (h1c: ∀v∈news,v.oneCell'=true) (hnews: ∀t u,news[t]? =some u→w.cell? ⟨blk,j*k+t,none⟩=some u)
  (hsome: ∀t,t<n*k→(w.cell? ⟨blk,t,none⟩).isSome=true) (hfrz: ∀t,w.frozen? ⟨blk,t,none⟩=false)
  (hcap:n≤cap) (hij:i<j) (hj:j≤n):
  Calls P (ρ.f 45) #[.slice (some ⟨blk,0,none⟩) n cap,.int .i64 i,.int .i64 j] w fun e w'=>e= .returned (.slice (some ⟨blk,0,none⟩) (n- (j-i)) cap)∧w'=(w.drew.setCells blk (i*k) news).setCells blk ((i+(n-j))*k) zs:=by
 obtain⟨A,hA,hsrc⟩: ∃A:Addr,(if cap=j then some (⟨blk,0,none⟩:Addr)else some ⟨blk,j*k,none⟩)=some A∧Hid (∀t u,news[t]? =some u→w.drew.cell? (A.add t)=some u):=by
  by_cases h:cap=j
  ·refine⟨⟨blk,0,none⟩,by simp [h],fun t u hu=> ?_⟩
   have h0:news.length=0:=by rw[hlen,show n-j=0 by omega,Nat.zero_mul]
   rw[List.length_eq_zero_iff.1 h0]at hu
   simp at hu
  ·refine⟨⟨blk,j*k,none⟩,by simp [h],fun t u hu=> ?_⟩
   rw[Addr.add_lit]
   exact hnews t u hu
 have hnk:(n-j)*k≤n*k:=Nat.mul_le_mul_right k (by omega)
 have hik:i*k+(n-j)*k+(j-i)*k=n*k:=by rw[←Nat.add_mul,←Nat.add_mul];congr 1;omega
 have s1:Hid (news.length=(n-j)*k):=hlen
 have s2:Hid (∀u∈news,u.oneCell'=true):=h1c
 have s3:Hid (∀t,t<news.length→(w.drew.cell? ⟨blk,0+i*k+t,none⟩).isSome=true∧w.drew.frozen? ⟨blk,0+i*k+t,none⟩=false):=by
  intro t ht
  rw[hlen]at ht
  rw[Nat.zero_add]
  exact⟨hsome _ (by omega),hfrz _⟩
 obtain⟨W1,hW1⟩: ∃W1,W1=w.drew.setCells blk (0+i*k) news:=⟨_,rfl⟩
 have hs1: ∀t,t<n*k→(W1.cell? ⟨blk,t,none⟩).isSome=true:=fun t ht=>by
  rw[hW1,Nat.zero_add]
  by_cases hin:i*k≤t∧t<i*k+news.length
  ·have:=World.cell?_setCells_in blk news (i*k) w.drew (fun q hq=>hsome _ (by rw[hlen]at hq;omega)) (t-i*k) (by omega)
   rw[show i*k+(t-i*k)=t by omega]at this
   rw[this];rfl
  ·rw[World.cell?_setCells_out blk news (i*k) w.drew ⟨blk,t,none⟩ (fun _ _=>by show t<i*k∨i*k+news.length≤t;omega)]
   exact hsome t ht
 have hf1: ∀t,W1.frozen? ⟨blk,t,none⟩=false:=fun t=>by rw[hW1,World.frozen?_setCells];exact hfrz t
 have hn0:0<n- (i+(n-j)):=by omega
 have hcl: ∀ty c,(Builtin.clear_ #[ρ.t 22] ty #[.slice (some ⟨blk,(i+(n-j))*k,none⟩) (n- (i+(n-j))) c]).run P W1= .ok (.tuple #[]) (W1.setCells blk ((i+(n-j))*k) zs):=fun ty c=>
  run_clear_k W1 _ _ ty _ t22 v23 blk _ _ _ hn0 zs (by rw[show n- (i+(n-j))=j-i by omega];exact hz) hz1c (fun q hq=>hs1 _ (by rw[hzl]at hq;rw[Nat.add_mul];omega)) (fun q _=>hf1 _)
 have hW:Hid (W1=w.drew.setCells blk (0+i*k) news):=hW1
 have hic:i≤cap:=by omega
 have hjc:j≤cap:=by omega
 have hin:i≤n:=by omega
 have hne: ¬((i:Int)=(j:Int)):=by omega
 clear hW1 hnews hlen hz hzl hz1c h1c hs1 hf1 hsome
 obtain⟨_,_,FG⟩:=F
 go_enter FG,SlBodyN.n45_ntmps ρ
 go_wp2_with fail
 go_region_law_o (refine step_append_room rfl (.tmp 22) (.tmp 25) (ρ.t 22) rfl (ρ.t 23) i0 k t22 hi0 hz1 blk 0 i cap (by simp [Act.eval,Act.put]) A (n-j) (cap-j) news (by simp [Act.eval,Act.put]) s1.out hsrc.out s2.out (by omega) s3.out ?_;rw[←hW.out])
 go_wp2
 go_ret
 refine⟨by rw[show n- (j-i)=i+(n-j) by omega];rfl,?_⟩
 rw[hW.out,Nat.zero_add]
end Go.Vc
namespace Go.Vc
open Go Go.Proofs Go.Shelf Go.RowKit
variable {P:Program}
def delF(g:Nat→List AV)(i j t:Nat):List AV:=bif Nat.blt t i then g t else g (t+(j-i))
def DelRuns(P:Program)(f:FuncId)(k:Nat)(z:Value):Prop:= ∀(blk cap n i j:Nat) (w:World) (news zs:List Value) (_:(Builtin.zeroCells z.cells (j-i)).toList=zs) (_:zs.length=(j-i)*k) (_: ∀v∈zs,v.oneCell'=true)
    (_:news.length=(n-j)*k) (_: ∀v∈news,v.oneCell'=true) (_: ∀t u,news[t]? =some u→w.cell? ⟨blk,j*k+t,none⟩=some u)
    (_: ∀t,t<n*k→(w.cell? ⟨blk,t,none⟩).isSome=true) (_: ∀t,w.frozen? ⟨blk,t,none⟩=false)
    (_:n≤cap) (_:i<j) (_:j≤n),
    Calls P f #[.slice (some ⟨blk,0,none⟩) n cap,.int .i64 i,.int .i64 j] w fun e w'=>e= .returned (.slice (some ⟨blk,0,none⟩) (n- (j-i)) cap)∧w'=(w.drew.setCells blk (i*k) news).setCells blk ((i+(n-j))*k) zs
theorem del_H{f:FuncId}{sz:Nat}{z:Value}(hrun:DelRuns P f sz z)(hz: ∀m,(Builtin.zeroCells z.cells m).toList.length=m*sz∧ ∀v∈(Builtin.zeroCells z.cells m).toList,v.oneCell'=true)(n i j:Nat)(g:Nat→List AV)(hij:i<j)(hj:j≤n):
  HCall P f [.own 0 n,.int .i64 i,.int .i64 j] [[.blk false sz n g]] [.own 1 (n- (j-i))] [[deadB],[.blk false sz (n- (j-i)) (delF g i j)]]:=by
 intro S ι w vs hS hvl hs
 match vs,hvl with
 |[v0,v1,v2],_=>
 obtain⟨_,q0,r0⟩:=hs.tm 0 _ rfl
 obtain⟨_,q1,r1⟩:=hs.tm 1 _ rfl
 obtain⟨_,q2,r2⟩:=hs.tm 2 _ rfl
 simp only[List.getElem?_toArray,List.getElem?_cons_zero,List.getElem?_cons_succ,Option.some.injEq]at q0 q1 q2
 subst q0 q1 q2
 have r1:v1= .int .i64 i:=by
  have:FRel w (FZ S ι [[.blk false sz n g]] w) (.int .i64 i) v1:=r1
  cases this;rfl
 have r2:v2= .int .i64 j:=by
  have:FRel w (FZ S ι [[.blk false sz n g]] w) (.int .i64 j) v2:=r2
  cases this;rfl
 subst r1 r2
 obtain⟨hbig,⟨x,c,C,T,hx,rfl,hnc,hC,hCs,hcells⟩|⟨h0,_⟩⟩:=hs.ownGet (b:=0) (g:=g) (sz:=sz) rfl r0
 case inr=>omega
 have hnsz:n*sz≤C.size:=by rw[hCs];exact Nat.mul_le_mul_right sz hnc
 have hjn:j*sz+(n-j)*sz=n*sz:=by rw[←Nat.add_mul];congr 1;omega
 have hone: ∀t,t<n*sz→ ∃u,C[t]? =some u∧u.oneCell'=true:=fun t ht=>by
  have hsz:0<sz:=by
   rcases Nat.eq_zero_or_pos sz with e|e
   ·rw[e]at ht;omega
   ·exact e
  have h1:t/sz<n:=(Nat.div_lt_iff_lt_mul hsz).2 ht
  obtain⟨av,u,_,g2,g3⟩:=hcells (t/sz) (t%sz) h1 (Nat.mod_lt _ hsz)
  rw[Nat.mul_comm,Nat.div_add_mod]at g2
  exact⟨u,g2,g3.oneC⟩
 let news:List Value:=(C.toList.drop (j*sz)).take ((n-j)*sz)
 have hnl:news.length=(n-j)*sz:=by simp only[news,List.length_take,List.length_drop,Array.length_toList];omega
 have hnews: ∀t u,news[t]? =some u→C[j*sz+t]? =some u∧t<(n-j)*sz:=fun t u hu=>by
  have ht:t<news.length:=(List.getElem?_eq_some_iff.1 hu).1
  rw[hnl]at ht
  simp only[news]at hu
  rw[List.getElem?_take_of_lt ht,List.getElem?_drop,Array.getElem?_toList]at hu
  exact⟨hu,ht⟩
 have hnone: ∀v∈news,v.oneCell'=true:=fun v hv=>by
  obtain⟨t,ht⟩:=List.getElem?_of_mem hv
  obtain⟨h1,h2⟩:=hnews t v ht
  obtain⟨u,g1,g2⟩:=hone (j*sz+t) (by omega)
  rw[h1]at g1;cases g1;exact g2
 obtain⟨hzl,hz1⟩:=hz (j-i)
 have hij2:i*sz+(n-j)*sz+(j-i)*sz=n*sz:=by rw[←Nat.add_mul,←Nat.add_mul];congr 1;omega
 refine(hrun x c n i j w news _ rfl hzl hz1 hnl hnone (fun t u hu=>by rw[cell_row hC];exact(hnews t u hu).1) (fun t ht=>by
  rw[cell_row hC]
  obtain⟨u,g1,_⟩:=hone t ht
  rw[g1];rfl) (fun t=>frozen_row hC t) hnc hij hj).mono ?_
 rintro e w' ⟨rfl,rfl⟩
 have hC0:w.drew.heap[x]? =some (.cells C T (0,0)):=hC
 obtain⟨⟨C1,a1,a2,a3⟩,a4,a5,a6,a7,a8⟩:=heap_setCells x news (i*sz) w.drew C T (0,0) hC0
 obtain⟨⟨C2,b1,b2,b3⟩,b4,b5,b6,b7,b8⟩:=heap_setCells x (Builtin.zeroCells z.cells (j-i)).toList ((i+(n-j))*sz) (w.drew.setCells x (i*sz) news) C1 T (0,0) a1
 generalize (w.drew.setCells x (i*sz) news).setCells x ((i+(n-j))*sz) (Builtin.zeroCells z.cells (j-i)).toList=w' at*
 have hmul:(i+(n-j))*sz=i*sz+(n-j)*sz:=Nat.add_mul _ _ _
 obtain⟨ι',hs',hv'⟩:=Sim.turn (b:=0) (b2:=1) (f:=g) (f':=delF g i j) (n':=n- (j-i)) (c:=c) (w':=w') (C':=C2) hs rfl hx hC (by rw[b6,a6];rfl) (by rw[b7,a7];rfl) (by rw[b8,a8];rfl) (by rw[b4,a4];rfl)
  (fun k hk=>by rw[b5 k hk,a5 k hk];rfl) b1 (by rw[b2,a2];exact hCs) (by omega) (by omega) (fun p q hp hq=>by
   have hpq:=idx_lt hp hq
   have hnn:(n- (j-i))*sz=i*sz+(n-j)*sz:=by rw[←Nat.add_mul];congr 1;omega
   rw[b3,if_neg (by omega),a3]
   unfold delF
   by_cases hpi:p<i
   ·have hb:Nat.blt p i=true:=by simpa[Nat.blt_eq]using hpi
    have:=idx_lt hpi hq
    rw[if_neg (by omega),hb]
    exact hcells p q (by omega) hq
   ·have hb:Nat.blt p i=false:=by
     cases e:Nat.blt p i with
     |false=>rfl
     |true=>exact absurd (Nat.le_of_ble_eq_true e) (by omega)
    have h1:i*sz≤p*sz:=Nat.mul_le_mul_right sz (by omega)
    have h2:(p-i)*sz=p*sz-i*sz:=Nat.sub_mul _ _ _
    have h3:(p+(j-i))*sz=p*sz+(j-i)*sz:=Nat.add_mul _ _ _
    have h4:j*sz=i*sz+(j-i)*sz:=by rw[←Nat.add_mul];congr 1;omega
    rw[if_pos ⟨by omega,by omega,by omega⟩,hb]
    obtain⟨av,u,g1,g2,g3⟩:=hcells (p+(j-i)) q (by omega) hq
    refine⟨av,u,g1,?_,g3⟩
    have ht:p*sz+q-i*sz<(n-j)*sz:=by omega
    simp only[news]
    rw[List.getElem?_take_of_lt ht,List.getElem?_drop,Array.getElem?_toList,←g2]
    congr 1;omega) (.inr ⟨by simp,fun o=>by simp [hget],by
    cases e:ι 1 with
    |none=>rfl
    |some y=>have:=hs.dom 1 y e;simp at this⟩)
 have hT:turnH [[AV.blk false sz n g]] 0 1 (.blk false sz (n- (j-i)) (delF g i j))=[[deadB],[.blk false sz (n- (j-i)) (delF g i j)]]:=rfl
 rw[hT]at hs' hv'
 refine⟨[.slice (some ⟨x,0,none⟩) (n- (j-i)) c],ι',rfl,rfl,hs'.below,rfl,fun t av ht=> ?_,hs'.hp,hs'.inj,hs'.fresh,hs'.dom,hs'.hist⟩
 match t with
 |0=>cases ht;exact⟨_,rfl,hv'⟩
 |t+1=>simp at ht
end Go.Vc
