/-
  slices.Insert of one element of several cells.
-/
import Derived.Test.YtfbpilmhnpkfhaaGreatDoorVcL
import Derived.Shelf.Spec.SlicesInsertGrow
import Derived.Shelf.SlGeneric
import Derived.Test.YtfbpilmhnpkfhaaGreatDoorVcR
set_option linter.all false
namespace Go.Vc
open Go Go.Proofs Go.Shelf Go.RowKit Go.Lib
variable {P:Program} {ρ:Ren}
structure InsF (P:Program) (ρ:Ren) (k bytes:Nat) (z:Value):Prop where
 mixed:P.follows .mixedOrders=true
 F:Bears P (ρ.f 22) (Body2.n22 ρ)
 t3:P.underlying (ρ.t 3)=some (TypeDesc.int IntKind.i64)
 t24:P.underlying (ρ.t 24)=some (TypeDesc.slice (ρ.t 9))
 z9: ∀w,(Go.sizeOf (ρ.t 9)).run P w= .ok k w
 i9:(P.info? (ρ.t 9)).map (fun i=>(i.zero,i.size,i.bytes))=some (some z,k,bytes)
 ov: ∀(w:World) (vb b o m vc lb cb:Nat) (tA tB:TypeId) (kA kB:Nat),vb≠b→w.shape? vb=some (tA,kA)→w.shape? b=some (tB,kB)→kB≠0→w.frozen? ⟨vb,0,none⟩=false→w.frozen? ⟨vb,kA,none⟩=false→
  (callFunc (ρ.f 29) #[.slice (some ⟨vb,0,none⟩) m vc,.slice (some ⟨b,o,none⟩) lb cb]).run P w= .ok (.value (.bool false)) w
set_option maxHeartbeats 4000000 in
set_option maxRecDepth 100000 in
theorem ins_shift{k bytes:Nat}{z:Value}(L:InsF P ρ k bytes z)(b n c i vb vc:Nat)(cs vs:List Value)(w:World)(hi:i<n)(hroom:n+1≤c)(hn64:n≤549755813888)(hvb:vb≠b)
  (hcl:cs.length=n*k) (hvl:vs.length=k)
  (hcs: ∀j v,cs[j]? =some v→w.cell? ⟨b,j,none⟩=some v) (hsp: ∀j,j<(n+1)*k→(w.cell? ⟨b,j,none⟩).isSome=true) (hfz: ∀j,w.frozen? ⟨b,j,none⟩=false)
  (hvs: ∀j v,vs[j]? =some v→w.cell? ⟨vb,j,none⟩=some v) (h1c: ∀v∈cs,v.oneCell'=true) (h1v: ∀v∈vs,v.oneCell'=true)
  (tA tB:TypeId) (kA kB:Nat) (hsa:w.shape? vb=some (tA,kA)) (hsb:w.shape? b=some (tB,kB)) (hkB:kB≠0) (hfa: ∀j,w.frozen? ⟨vb,j,none⟩=false):
  Calls P (ρ.f 22) #[.slice (some ⟨b,0,none⟩) n c,.int .i64 i,.slice (some ⟨vb,0,none⟩) 1 vc] w fun e w'=>
   e= .returned (.slice (some ⟨b,0,none⟩) (n+1) c)∧w'=(w.drew.setCells b (i*k+k) (cs.drop (i*k))).setCells b (i*k) vs:=by
 have u3:=run_underlying L.t3;have u24:=run_underlying L.t24
 have mixed:=L.mixed;have t3:=L.t3;have t24:=L.t24;have z9:=L.z9
 have hz2: ¬((i:Int)=(n:Int)):=by omega
 obtain⟨i0,hi0,h0,hk,_⟩:=info_parts L.i9
 have hov: ∀lb cb,(callFunc (ρ.f 29) #[.slice (some ⟨vb,0,none⟩) 1 vc,.slice (some ⟨b,i*k+k,none⟩) lb cb]).run P w= .ok (.value (.bool false)) w:=fun lb cb=>L.ov w vb b _ 1 vc lb cb tA tB kA kB hvb hsa hsb hkB (hfa _) (hfa _)
 have hdl:(cs.drop (i*k)).length=(n-i)*k:=by rw[List.length_drop,hcl,Nat.sub_mul]
 have hw1:IntKind.i64.wrap ((i:Int)+1)=(i:Int)+1:=by rw[IntKind.wrap_i64];omega
 have hw2:IntKind.i64.wrap ((n:Int)+1)=(n:Int)+1:=by rw[IntKind.wrap_i64];omega
 have hb1:(0:Int)≤(i:Int)+1:=by omega
 have hin:i≤n:=by omega
 have htn:((i:Int)+1).toNat=i+1:=by omega
 have htm:((n:Int)+1).toNat=n+1:=by omega
 have hb2: ¬(c=i+1):=by omega
 have hb3:(i:Int)≤(n:Int)+1:=by omega
 have hb4: ¬(c=i):=by omega
 have hb5: ¬((c:Int)<(n:Int)+1):=by omega
 have hmul:(i+1)*k+(n-i)*k=(n+1)*k:=by rw[←Nat.add_mul];congr 1;omega
 have hik:(i+1)*k=i*k+k:=Nat.succ_mul _ _
 have hnk:(n+1)*k=n*k+k:=Nat.succ_mul _ _
 have hcp1: ∀ty dc sc,(Builtin.copy_ #[(ρ.t 24),(ρ.t 24)] ty #[.slice (some ⟨b,i*k+k,none⟩) (n-i) dc,.slice (some ⟨b,i*k,none⟩) (n+1-i) sc]).run P w.drew= .ok (goInt (Nat.min (n+1-i) (n-i))) (w.drew.setCells b (i*k+k) (cs.drop (i*k))):=fun ty dc sc=>
  run_copy_k w.drew _ _ ty (ρ.t 9) i0 b (i*k+k) (n-i) dc ⟨b,i*k,none⟩ (n+1-i) sc (cs.drop (i*k)) L.t24 hi0 (by rw[hdl,hk,show Nat.min (n+1-i) (n-i)=n-i by simp only[Nat.min_def];split<;>omega])
   (fun j v hj=>by rw[Addr.add_lit];exact hcs (i*k+j) v (by rwa [List.getElem?_drop]at hj))
   (fun j hj=>hsp _ (by rw[hdl]at hj;omega)) (fun j hj=>hfz _) (fun v hv=>h1c v (List.mem_of_mem_drop hv))
 obtain⟨W1,hW1⟩: ∃W1,W1=w.drew.setCells b (i*k+k) (cs.drop (i*k)):=⟨_,rfl⟩
 have hsp1: ∀t,t<(n+1)*k→(W1.cell? ⟨b,t,none⟩).isSome=true:=fun t ht=>by
  rw[hW1]
  exact isSome_setCells b (cs.drop (i*k)) (i*k+k) w.drew (fun j hj=>hsp _ (by rw[hdl]at hj;omega)) _ (hsp t ht)
 have hcp2: ∀(W:World),(∀x,W.cell? x=W1.cell? x)→(∀x,W.frozen? x=W1.frozen? x)→ ∀ty dc,(Builtin.copy_ #[(ρ.t 24),(ρ.t 24)] ty #[.slice (some ⟨b,i*k,none⟩) (n+1-i) dc,.slice (some ⟨vb,0,none⟩) 1 vc]).run P W= .ok (goInt (Nat.min 1 (n+1-i))) (W.setCells b (i*k) vs):=fun W hWc hWf ty dc=>
  run_copy_k W _ _ ty (ρ.t 9) i0 b (i*k) (n+1-i) dc ⟨vb,0,none⟩ 1 vc vs L.t24 hi0 (by rw[hvl,hk,show Nat.min 1 (n+1-i)=1 by simp only[Nat.min_def];split<;>omega,Nat.one_mul])
   (fun j v hj=>by
    rw[Addr.add_lit,Nat.zero_add,hWc,hW1,World.cell?_setCells_out b _ _ _ _ (fun h _=>absurd h hvb)]
    exact hvs j v hj)
   (fun j hj=>by rw[hWc];exact hsp1 _ (by
    have:(i+1)*k≤(n+1)*k:=Nat.mul_le_mul_right k (by omega)
    omega)) (fun j hj=>by rw[hWf,hW1,World.frozen?_setCells];exact hfz _) h1v
 rw[←hW1]at hcp1
 obtain⟨_,_,FG⟩:=L.F
 go_enter FG,Body2.n22_ntmps ρ
 go_wp2_with (simp only[hov])
 go_region_law_o (refine step_copy_runI rfl _ _ (ρ.t 24) (ρ.t 24) rfl _ _ (by simp [Act.eval,Act.put]) (by simp [Act.eval,Act.put]) (hcp1 _ _ _) ?_)
 go_wp2_with (at_builtin;refine wpList_copy_runI _ rfl _ _ (ρ.t 24) (ρ.t 24) rfl _ _ rfl rfl (hcp2 _ (fun _=>rfl) (fun _=>rfl) _ _) ?_)
 go_ret
 first|exact⟨rfl,rfl⟩|exact⟨rfl,by rw[hW1]⟩
set_option maxHeartbeats 4000000 in
set_option maxRecDepth 100000 in
theorem ins_end_room{k bytes:Nat}{z:Value}(L:InsF P ρ k bytes z)(b n c vb vc:Nat)(vs:List Value)(w:World)(hroom:n+1≤c)(hvl:vs.length=k)
  (hsp: ∀j,j<(n+1)*k→(w.cell? ⟨b,j,none⟩).isSome=true) (hfz: ∀j,w.frozen? ⟨b,j,none⟩=false) (hvs: ∀j v,vs[j]? =some v→w.cell? ⟨vb,j,none⟩=some v) (h1v: ∀v∈vs,v.oneCell'=true):
  Calls P (ρ.f 22) #[.slice (some ⟨b,0,none⟩) n c,.int .i64 n,.slice (some ⟨vb,0,none⟩) 1 vc] w fun e w'=>
   e= .returned (.slice (some ⟨b,0,none⟩) (n+1) c)∧w'=w.setCells b (n*k) vs:=by
 have u3:=run_underlying L.t3;have u24:=run_underlying L.t24
 have mixed:=L.mixed;have t3:=L.t3;have t24:=L.t24;have z9:=L.z9
 obtain⟨i0,hi0,h0,hk,_⟩:=info_parts L.i9
 have hsrc:Src P i0.size (ρ.t 24) (.slice (some ⟨vb,0,none⟩) 1 vc) 1 vs w:=Src.ofSlice w L.t24 ⟨vb,0,none⟩ 1 vc vs (by rw[hvl,hk,Nat.one_mul]) (fun j u hj=>by rw[Addr.add_lit,Nat.zero_add];exact hvs j u hj) h1v
 have hnk:(n+1)*k=n*k+k:=Nat.succ_mul _ _
 have hrun: ∀ty,(Builtin.append_ #[ρ.t 24,ρ.t 24] ty #[.slice (some ⟨b,0,none⟩) n c,.slice (some ⟨vb,0,none⟩) 1 vc]).run P w= .ok (.slice (some ⟨b,0,none⟩) (n+1) c) (w.setCells b (0+n*i0.size) vs):=fun ty=>
  run_append_room_src w (ρ.t 24) (ρ.t 24) ty (ρ.t 9) i0 L.t24 hi0 b 0 n c _ 1 vs hsrc hroom (fun j hj=>by rw[hk,Nat.zero_add];exact hsp _ (by omega)) (fun j hj=>hfz _)
 rw[hk,Nat.zero_add]at hrun
 obtain⟨_,_,FG⟩:=L.F
 go_enter FG,Body2.n22_ntmps ρ
 go_wp2_with (at_builtin;refine Lib.wpList_append_run _ rfl _ _ _ _ rfl _ _ rfl rfl _ _ (hrun _) ?_)
 go_ret
 exact⟨rfl,rfl⟩
set_option maxHeartbeats 4000000 in
set_option maxRecDepth 100000 in
theorem ins_end_grow{k bytes:Nat}{z:Value}(L:InsF P ρ k bytes z)(base:Option Addr)(n c vb vc:Nat)(cs vs:List Value)(w:World)(hnc:n≤c)(hroom:c<n+1)(hbig:(n+1)*bytes≤140737488355328)(hn64:n≤549755813888)
  (hcl:cs.length=n*k) (hvl:vs.length=k) (hnil:base=none→n=0)
  (hcs: ∀a,base=some a→ ∀j v,cs[j]? =some v→w.cell? (a.add j)=some v) (hvs: ∀j v,vs[j]? =some v→w.cell? ⟨vb,j,none⟩=some v) (h1v: ∀v∈vs,v.oneCell'=true):
  Calls P (ρ.f 22) #[.slice base n c,.int .i64 n,.slice (some ⟨vb,0,none⟩) 1 vc] w fun e w'=>
   e= .returned (.slice (some ⟨w.heap.size,0,none⟩) (n+1) (grownCap w (n+1) c (ρ.t 9)))∧
   w'=w.drew.alloc (.cells ((cs++vs).toArray++Builtin.zeroCells z.cells (grownCap w (n+1) c (ρ.t 9)- (n+1))) (ρ.t 9)):=by
 have u3:=run_underlying L.t3;have u24:=run_underlying L.t24
 have mixed:=L.mixed;have t3:=L.t3;have t24:=L.t24;have z9:=L.z9
 obtain⟨i0,hi0,h0,hk,hb0⟩:=info_parts L.i9
 have hsrc:Src P i0.size (ρ.t 24) (.slice (some ⟨vb,0,none⟩) 1 vc) 1 vs w:=Src.ofSlice w L.t24 ⟨vb,0,none⟩ 1 vc vs (by rw[hvl,hk,Nat.one_mul]) (fun j u hj=>by rw[Addr.add_lit,Nat.zero_add];exact hvs j u hj) h1v
 have hold:(Builtin.firstCells i0.size n (.slice base n c)).run P w.drew= .ok cs.toArray w.drew:=by
  rw[hk]
  cases base with
  |none=>
   have h0:=hnil rfl
   subst h0
   rw[Nat.zero_mul]at hcl
   rw[List.length_eq_zero_iff.1 hcl]
   exact run_firstCells_none w.drew k 0 0 c
  |some a=>exact run_firstCells_some w.drew k n a n c cs hcl (fun j v hj=>hcs a rfl j v hj)
 have hrun: ∀ty,(Builtin.append_ #[(ρ.t 24),(ρ.t 24)] ty #[.slice base n c,.slice (some ⟨vb,0,none⟩) 1 vc]).run P w=_:=fun ty=>
  run_append_grow_src w (ρ.t 24) (ρ.t 24) ty (ρ.t 9) i0 _ L.t24 hi0 h0 base n c cs hold _ 1 vs hsrc hroom (by omega) (by rw[hb0];exact growslice_fits hroom hbig)
 obtain⟨ROW,hROW⟩: ∃ROW:Array Value,ROW=(cs++vs).toArray++Builtin.zeroCells z.cells (grownCap w (n+1) c (ρ.t 9)- (n+1)):=⟨_,rfl⟩
 rw[←hROW]at hrun ⊢
 clear hROW
 obtain⟨_,_,FG⟩:=L.F
 go_enter FG,Body2.n22_ntmps ρ
 cases base with
 |none=>
  have h0:=hnil rfl
  subst h0
  go_wp2_with (at_builtin;refine Lib.wpList_append_run _ rfl _ _ _ _ rfl _ _ rfl rfl _ _ (hrun _) ?_)
  go_ret
  exact⟨rfl,rfl⟩
 |some a=>
  obtain⟨ab,ao,asp⟩:=a
  go_wp2_with (at_builtin;refine Lib.wpList_append_run _ rfl _ _ _ _ rfl _ _ rfl rfl _ _ (hrun _) ?_)
  all_goals (go_ret;exact⟨rfl,rfl⟩)
set_option maxHeartbeats 4000000 in
set_option maxRecDepth 100000 in
theorem ins_grow{k bytes:Nat}{z:Value}(L:InsF P ρ k bytes z)(hk0:0<k)(hzk: ∀m,(Builtin.zeroCells z.cells m).size=m*k)(b n c i vb vc:Nat)(cs vs:List Value)(w:World)(hi:i<n)(hnc:n≤c)(hroom:c<n+1)(hbig:(n+1)*bytes≤140737488355328)(hn64:n≤549755813888)
  (hcl:cs.length=n*k) (hvl:vs.length=k) (hcs: ∀j v,cs[j]? =some v→w.cell? ⟨b,j,none⟩=some v)
  (hvs: ∀j v,vs[j]? =some v→w.cell? ⟨vb,j,none⟩=some v) (h1c: ∀v∈cs,v.oneCell'=true) (h1v: ∀v∈vs,v.oneCell'=true):
  Calls P (ρ.f 22) #[.slice (some ⟨b,0,none⟩) n c,.int .i64 i,.slice (some ⟨vb,0,none⟩) 1 vc] w fun e w'=>
   e= .returned (.slice (some ⟨w.heap.size,0,none⟩) (n+1) (grownCap w (n+1) c (ρ.t 9)))∧
   w'=(((w.alloc (.cells ((cs.take (i*k)).toArray++Builtin.zeroCells z.cells (n+1-i)++Builtin.zeroCells z.cells (grownCap w (n+1) c (ρ.t 9)- (n+1))) (ρ.t 9))).drew.setCells w.heap.size (i*k) vs).drew).setCells w.heap.size (i*k+k) (cs.drop (i*k)):=by
 have u3:=run_underlying L.t3;have u24:=run_underlying L.t24
 have mixed:=L.mixed;have t3:=L.t3;have t24:=L.t24;have z9:=L.z9
 obtain⟨i0,hi0,hz0,hzs,hzb⟩:=info_parts L.i9
 have hz2: ¬((i:Int)=(n:Int)):=by omega
 have hz3:(c:Int)<(n:Int)+1:=by omega
 have hnk:(n+1)*k=n*k+k:=Nat.succ_mul _ _
 have hik0:i*k+(n-i)*k=n*k:=by rw[←Nat.add_mul];congr 1;omega
 have hpos:0<(n-i)*k:=Nat.mul_pos (by omega) hk0
 have hbw:b<w.heap.size:=block_lt_of_cell (hcs 0 _ (List.getElem?_eq_getElem (by omega)))
 have hvw:vb<w.heap.size:=block_lt_of_cell (hvs 0 _ (List.getElem?_eq_getElem (by omega)))
 have hkk:(n:Int)+1- (i:Int)=((n+1-i:Nat):Int):=by omega
 have hik:i+(n+1-i)=n+1:=by omega
 have hold:(Builtin.firstCells i0.size i (.slice (some ⟨b,0,none⟩) i c)).run P w.drew= .ok (cs.take (i*k)).toArray w.drew:=by
  rw[hzs]
  exact run_firstCells_some w.drew k i ⟨b,0,none⟩ i c (cs.take (i*k)) (by rw[List.length_take];omega) (fun j v hj=>by
   rw[Addr.add_lit,Nat.zero_add]
   rw[List.getElem?_take]at hj
   split at hj
   ·exact hcs j v hj
   ·cases hj)
 have hrz: ∀ty,(Builtin.append_ #[(ρ.t 24),(ρ.t 3)] ty #[.slice (some ⟨b,0,none⟩) i c,.int .i64 ((n:Int)+1- (i:Int))]).run P w=
   .ok (.slice (some ⟨w.heap.size,0,none⟩) (n+1) (grownCap w (n+1) c (ρ.t 9))) (w.drew.alloc (.cells ((cs.take (i*k)).toArray++Builtin.zeroCells z.cells (n+1-i)++Builtin.zeroCells z.cells (grownCap w (n+1) c (ρ.t 9)- (n+1))) (ρ.t 9))):=fun ty=>by
  have hle:(n+1-i)*bytes≤(n+1)*bytes:=Nat.mul_le_mul_right _ (by omega)
  have h:=Lib.run_append_grow_zeros w (ρ.t 24) (ρ.t 3) ty (ρ.t 9) i0 _ .i64 .i64 L.t24 L.t3 hi0 hz0 (some ⟨b,0,none⟩) i c (cs.take (i*k)) hold (n+1-i) (by omega) (by omega) (by omega) (by omega) (by rw[hzb];omega) (by rw[hzb,hik];exact growslice_fits hroom hbig)
  rw[hik]at h
  rw[hkk]
  exact h
 obtain⟨G,hG⟩: ∃G,G=grownCap w (n+1) c (ρ.t 9):=⟨_,rfl⟩
 obtain⟨ROW,hROW⟩: ∃ROW:Array Value,ROW=(cs.take (i*k)).toArray++Builtin.zeroCells z.cells (n+1-i)++Builtin.zeroCells z.cells (G- (n+1)):=⟨_,rfl⟩
 rw[←hG]at hrz ⊢
 rw[←hROW]at hrz ⊢
 have hRl:(n+1)*k≤ROW.size:=by
  rw[hROW]
  simp only[Array.size_append,List.size_toArray,List.length_take,hzk,hcl]
  have:(n+1-i)*k=(n-i)*k+k:=by rw[show n+1-i=n-i+1 by omega];exact Nat.succ_mul _ _
  omega
 obtain⟨W1,hW1⟩: ∃W1,W1=w.drew.alloc (.cells ROW (ρ.t 9)):=⟨_,rfl⟩
 rw[←hW1]at hrz
 have hN: ∀j,j<(n+1)*k→(W1.cell? ⟨w.heap.size,j,none⟩).isSome=true:=fun j hj=>by
  rw[hW1,World.cell?_alloc_at (w:=w.drew) ROW _ w.heap.size j rfl,Array.getElem?_eq_getElem (by omega)];rfl
 have hNf: ∀j,W1.frozen? ⟨w.heap.size,j,none⟩=false:=fun j=>by rw[hW1];exact World.frozen?_alloc_at (w:=w.drew) ROW _ w.heap.size j rfl
 have hOb: ∀j v,w.cell? ⟨b,j,none⟩=some v→W1.cell? ⟨b,j,none⟩=some v:=fun j v h=>by rw[hW1,World.cell?_alloc_past (w:=w.drew) _ b j hbw];exact h
 have hOv: ∀j v,w.cell? ⟨vb,j,none⟩=some v→W1.cell? ⟨vb,j,none⟩=some v:=fun j v h=>by rw[hW1,World.cell?_alloc_past (w:=w.drew) _ vb j hvw];exact h
 have hcpA: ∀(W:World),(∀x,W.cell? x=W1.cell? x)→(∀x,W.frozen? x=W1.frozen? x)→ ∀ty dc,(Builtin.copy_ #[(ρ.t 24),(ρ.t 24)] ty #[.slice (some ⟨w.heap.size,i*k,none⟩) (n+1-i) dc,.slice (some ⟨vb,0,none⟩) 1 vc]).run P W= .ok (goInt (Nat.min 1 (n+1-i))) (W.setCells w.heap.size (i*k) vs):=fun W hWc hWf ty dc=>
  run_copy_k W _ _ ty (ρ.t 9) i0 w.heap.size (i*k) (n+1-i) dc ⟨vb,0,none⟩ 1 vc vs L.t24 hi0 (by rw[hvl,hzs,show Nat.min 1 (n+1-i)=1 by simp only[Nat.min_def];split<;>omega,Nat.one_mul])
   (fun j v hj=>by rw[Addr.add_lit,hWc,Nat.zero_add];exact hOv _ v (hvs j v hj))
   (fun j hj=>by rw[hWc];exact hN _ (by omega)) (fun j hj=>by rw[hWf];exact hNf _) h1v
 have hGn:n+1≤G:=by rw[hG];exact grownCap_ge w _ _ _
 have hG63:G≤9223372036854775807:=by
  have:=grownCap_le_maxLen w (n+1) c (ρ.t 9) (by unfold maxLen;omega)
  rw[←hG]at this
  unfold maxLen at this
  omega
 have hGi: ¬(G=i):=by omega
 have hGim: ¬(G=i+1):=by omega
 have hci: ¬(c=i):=by omega
 have hbN:b≠w.heap.size:=by omega
 have hdl:(cs.drop (i*k)).length=(n-i)*k:=by rw[List.length_drop,hcl];omega
 have hcpB: ∀(W:World),(∀x,W.cell? x=(W1.setCells w.heap.size (i*k) vs).cell? x)→(∀x,W.frozen? x=(W1.setCells w.heap.size (i*k) vs).frozen? x)→ ∀ty dc sc,(Builtin.copy_ #[(ρ.t 24),(ρ.t 24)] ty #[.slice (some ⟨w.heap.size,i*k+k,none⟩) (n-i) dc,.slice (some ⟨b,i*k,none⟩) (n-i) sc]).run P W= .ok (goInt (Nat.min (n-i) (n-i))) (W.setCells w.heap.size (i*k+k) (cs.drop (i*k))):=fun W hWc hWf ty dc sc=>
  run_copy_k W _ _ ty (ρ.t 9) i0 w.heap.size (i*k+k) (n-i) dc ⟨b,i*k,none⟩ (n-i) sc (cs.drop (i*k)) L.t24 hi0 (by rw[hdl,hzs,show Nat.min (n-i) (n-i)=n-i by simp])
   (fun j v hj=>by
    rw[Addr.add_lit,hWc,World.cell?_setCells_out _ _ _ _ _ (fun h _=>absurd h hbN)]
    exact hOb _ v (hcs (i*k+j) v (by rwa [List.getElem?_drop]at hj)))
   (fun j hj=>by rw[hWc];exact isSome_setCells _ _ _ _ (fun t ht=>hN _ (by omega)) _ (hN _ (by rw[hdl]at hj;omega)))
   (fun j hj=>by rw[hWf,World.frozen?_setCells];exact hNf _) (fun v hv=>h1c v (List.mem_of_mem_drop hv))
 subst hW1
 have hE1: ∀x,((w.alloc (.cells ROW (ρ.t 9))).drew).cell? x=(w.drew.alloc (.cells ROW (ρ.t 9))).cell? x:=fun x=>rfl
 have hE2: ∀x,((w.alloc (.cells ROW (ρ.t 9))).drew).frozen? x=(w.drew.alloc (.cells ROW (ρ.t 9))).frozen? x:=fun x=>rfl
 have hF1: ∀x,(((w.alloc (.cells ROW (ρ.t 9))).drew.setCells w.heap.size (i*k) vs).drew).cell? x=((w.drew.alloc (.cells ROW (ρ.t 9))).setCells w.heap.size (i*k) vs).cell? x:=fun x=>rfl
 have hF2: ∀x,(((w.alloc (.cells ROW (ρ.t 9))).drew.setCells w.heap.size (i*k) vs).drew).frozen? x=((w.drew.alloc (.cells ROW (ρ.t 9))).setCells w.heap.size (i*k) vs).frozen? x:=fun x=>rfl
 have hw1:IntKind.i64.wrap ((i:Int)+1)=(i:Int)+1:=by rw[IntKind.wrap_i64];omega
 have hw2:IntKind.i64.wrap ((n:Int)+1)=(n:Int)+1:=by rw[IntKind.wrap_i64];omega
 have hw3:IntKind.i64.wrap ((n:Int)+1- (i:Int))=(n:Int)+1- (i:Int):=by rw[IntKind.wrap_i64];omega
 have hb1:(0:Int)≤(i:Int)+1:=by omega
 have hin:i≤n:=by omega
 have htn:((i:Int)+1).toNat=i+1:=by omega
 have hb3:(i:Int)≤(n:Int):=by omega
 clear hkk hik hold hROW hG hRl
 obtain⟨_,_,FG⟩:=L.F
 go_enter FG,Body2.n22_ntmps ρ
 go_wp2_with (first
  |(at_builtin;refine Lib.wpList_append_run _ rfl _ _ _ _ rfl _ _ rfl rfl _ _ (hrz _) ?_)
  |(at_builtin;refine wpList_copy_runI _ rfl _ _ (ρ.t 24) (ρ.t 24) rfl _ _ rfl rfl (hcpA _ hE1 hE2 _ _) ?_)
  |(at_builtin;refine wpList_copy_runI _ rfl _ _ (ρ.t 24) (ρ.t 24) rfl _ _ rfl rfl (hcpB _ (fun _=>rfl) (fun _=>rfl) _ _ _) ?_))
 go_region_law_o (refine step_copy_runI rfl _ _ (ρ.t 24) (ρ.t 24) rfl (.slice (some ⟨w.heap.size,i*k+k,none⟩) (n-i) (G- (i+1))) (.slice (some ⟨b,i*k,none⟩) (n-i) (c-i)) (by simp [Act.eval,Act.put,Nat.add_mul]) (by simp [Act.eval,Act.put]) (hcpB _ hF1 hF2 (ρ.t 3) (G- (i+1)) (c-i)) ?_)
 go_wp2
 go_ret
 exact⟨rfl,rfl⟩
end Go.Vc
namespace Go.Vc
open Go Go.Proofs Go.Shelf Go.RowKit
variable {P:Program} {ρ:Ren}
def insF(g:Nat→List AV)(i:Nat)(v:Nat→List AV)(t:Nat):List AV:=bif Nat.blt t i then g t else bif Nat.beq t i then v 0 else g (t-1)
theorem insF_lt{g v:Nat→List AV}{i t:Nat}(h:t<i):insF g i v t=g t:=by
 unfold insF
 rw[show Nat.blt t i=true by simpa[Nat.blt_eq]using h];rfl
theorem blt_ge{a b:Nat}(h:b≤a):Nat.blt a b=false:=by
 cases e:Nat.blt a b with
 |false=>rfl
 |true=>exact absurd (Nat.le_of_ble_eq_true e) (by omega)
theorem insF_eq{g v:Nat→List AV}{i:Nat} :insF g i v i=v 0:=by
 unfold insF
 rw[blt_ge (Nat.le_refl _),Nat.beq_refl];rfl
theorem insF_gt{g v:Nat→List AV}{i t:Nat}(h:i<t):insF g i v t=g (t-1):=by
 unfold insF
 rw[blt_ge (by omega),show Nat.beq t i=false by
  cases e:Nat.beq t i with
  |false=>rfl
  |true=>have:=Nat.eq_of_beq_eq_true e;omega];rfl
theorem Below.setCellsNew{B:Nat}{a w:World}(h:Below B a w){x:Nat}(hx:B≤x): ∀(vs:List Value) (o:Nat),Below B a (w.setCells x o vs)
 |vs,o=>by
  induction vs generalizing w o with
  |nil=>exact h
  |cons v vs ih=>
   rw[World.setCells]
   have h1:Below B w (w.setCell ⟨x,o,none⟩ v):=⟨rfl,rfl,rfl,by simp,fun k hk=>Below.heap_setCell w ⟨x,o,none⟩ v k (by show k≠x;omega)⟩
   exact ih (h.trans h1) _
theorem cells_list{w:World}{F:Nat→Prop}{n sz c:Nat}{g:Nat→List AV}{C:Array Value}(hnc:n≤c)(hCs:C.size=c*sz)(hcells: ∀i j,i<n→j<sz→ ∃av u,(g i)[j]? =some av∧C[i*sz+j]? =some u∧FRel w F av u):
  ∃cs:List Value,cs.length=n*sz∧(∀t u,cs[t]? =some u→C[t]? =some u∧t<n*sz)∧(∀v∈cs,v.oneCell'=true)∧ ∀i j,i<n→j<sz→ ∃av u,(g i)[j]? =some av∧cs[i*sz+j]? =some u∧FRel w F av u:=by
 have hnsz:n*sz≤C.size:=by rw[hCs];exact Nat.mul_le_mul_right sz hnc
 have hl:(C.toList.take (n*sz)).length=n*sz:=by simp only[List.length_take,Array.length_toList];omega
 have hg: ∀t,t<n*sz→(C.toList.take (n*sz))[t]? =C[t]? :=fun t ht=>by rw[List.getElem?_take_of_lt ht,Array.getElem?_toList]
 refine⟨C.toList.take (n*sz),hl,fun t u hu=> ?_,fun v hv=> ?_,fun i j hi hj=> ?_⟩
 ·have ht:t<n*sz:=by have:=(List.getElem?_eq_some_iff.1 hu).1;rwa [hl]at this
  rw[hg t ht]at hu
  exact⟨hu,ht⟩
 ·obtain⟨t,hu⟩:=List.getElem?_of_mem hv
  have ht:t<n*sz:=by have:=(List.getElem?_eq_some_iff.1 hu).1;rwa [hl]at this
  rw[hg t ht]at hu
  have hsz:0<sz:=by
   rcases Nat.eq_zero_or_pos sz with e|e
   ·rw[e]at ht;omega
   ·exact e
  obtain⟨av,u,_,g2,g3⟩:=hcells (t/sz) (t%sz) ((Nat.div_lt_iff_lt_mul hsz).2 ht) (Nat.mod_lt _ hsz)
  rw[Nat.mul_comm,Nat.div_add_mod]at g2
  rw[hu]at g2;cases g2
  exact g3.oneC
 ·obtain⟨av,u,g1,g2,g3⟩:=hcells i j hi hj
  exact⟨av,u,g1,by rw[hg _ (idx_lt hi hj)];exact g2,g3⟩
theorem ins_H{k bytes:Nat}{z:Value}(L:InsF P ρ k bytes z)(hk0:0<k)(hby:bytes≤255)(hzk: ∀m,(Builtin.zeroCells z.cells m).size=m*k)(n i:Nat)(g v:Nat→List AV)(hi:i≤n)(hn:n+1≤BIG):
  HCall P (ρ.f 22) [.own 0 n,.int .i64 i,.own 1 1] [[.blk false k n g],[.blk false k 1 v]] [.own 0 (n+1)] [[.blk false k (n+1) (insF g i v)],[.blk false k 1 v]]:=by
 intro S ι w vs hS hvl hs
 match vs,hvl with
 |[v0,v1,v2],_=>
 obtain⟨_,q0,r0⟩:=hs.tm 0 _ rfl
 obtain⟨_,q1,r1⟩:=hs.tm 1 _ rfl
 obtain⟨_,q2,r2⟩:=hs.tm 2 _ rfl
 simp only[List.getElem?_toArray,List.getElem?_cons_zero,List.getElem?_cons_succ,Option.some.injEq]at q0 q1 q2
 subst q0 q1 q2
 have r1:v1= .int .i64 i:=by
  have:FRel w (FZ S ι [[.blk false k n g],[.blk false k 1 v]] w) (.int .i64 i) v1:=r1
  cases this;rfl
 subst r1
 obtain⟨_,⟨y,c2,D,T2,hy,rfl,hnc2,hD,hDs,hDc⟩|⟨h0,_⟩⟩:=hs.ownGet (b:=1) (g:=v) (sz:=k) rfl r2
 case inr=>omega
 obtain⟨vl,e1,e2,e3,e4⟩:=cells_list hnc2 hDs hDc
 rw[Nat.one_mul]at e1
 have hbig2:(n+1)*bytes≤140737488355328:=by
  have:(n+1)*bytes≤549755813888*255:=Nat.mul_le_mul hn hby
  omega
 have hn64:n≤549755813888:=by have:BIG=549755813888:=rfl;omega
 have hvs: ∀j u,vl[j]? =some u→w.cell? ⟨y,j,none⟩=some u:=fun j u hu=>by rw[cell_row hD];exact(e2 j u hu).1
 have hv0: ∀j,j<k→ ∃av u,(v 0)[j]? =some av∧vl[j]? =some u∧FRel w (FZ S ι [[.blk false k n g],[.blk false k 1 v]] w) av u:=fun j hj=>by
  have:=e4 0 j (by omega) hj
  rwa [Nat.zero_mul,Nat.zero_add]at this
 have hik1:(i+1)*k=i*k+k:=Nat.succ_mul _ _
 have hnk1:(n+1)*k=n*k+k:=Nat.succ_mul _ _
 have fin: ∀(w':World) (ι':Nat→Option Nat) (u:Value) (H':Heap),H'=[[.blk false k (n+1) (insF g i v)],[.blk false k 1 v]]→Sim S ι' ⟨[.own 0 n,.int .i64 i,.own 1 1],H'⟩ {tmps:= #[v0,.int .i64 i,.slice (some ⟨y,0,none⟩) 1 c2],defers:=[]} w'→CRel ι' H' w' (FZ S ι' H' w') (.own 0 (n+1)) u→
   ∃us ι',Ending.returned u= .returned (pack us)∧us.length=1∧Sim S ι' ⟨[.own 0 (n+1)],[[.blk false k (n+1) (insF g i v)],[.blk false k 1 v]]⟩ {tmps:=us.toArray,defers:=[]} w':=fun w' ι' u H' e hs' hu=>by
  subst e
  refine⟨[u],ι',rfl,rfl,hs'.below,rfl,fun t av ht=> ?_,hs'.hp,hs'.inj,hs'.fresh,hs'.dom,hs'.hist⟩
  match t with
  |0=>cases ht;exact⟨_,rfl,hu⟩
  |t+1=>simp at ht
 have place: ∀(x c:Nat) (C C':Array Value) (T:TypeId) (w':World),ι 0=some x→n+1≤c→w.heap[x]? =some (.cells C T (0,0))→C.size=c*k→w'.os=w.os→w'.tape=w.tape→w'.output=w.output→w'.heap.size=w.heap.size→(∀q,q≠x→w'.heap[q]? =w.heap[q]?)→
   w'.heap[x]? =some (.cells C' T (0,0))→C'.size=C.size→(∀p q,p<n+1→q<k→ ∃av u,(insF g i v p)[q]? =some av∧C'[p*k+q]? =some u∧FRel w (FZ S ι [[.blk false k n g],[.blk false k 1 v]] w) av u)→
   ∃us ι',Ending.returned (.slice (some ⟨x,0,none⟩) (n+1) c)= .returned (pack us)∧us.length=1∧Sim S ι' ⟨[.own 0 (n+1)],[[.blk false k (n+1) (insF g i v)],[.blk false k 1 v]]⟩ {tmps:=us.toArray,defers:=[]} w':=fun x c C C' T w' hx hc hC hCs h1 h2 h3 h4 h5 h6 h7 h8=>by
  obtain⟨ι',hs',hv'⟩:=Sim.turn (b:=0) (b2:=0) (f:=g) (f':=insF g i v) (n':=n+1) (c:=c) (w':=w') (C':=C') hs rfl hx hC h1 h2 h3 h4 h5 h6 (by rw[h7];exact hCs) hn hc h8 (.inl ⟨rfl,.inl (by omega)⟩)
  exact fin w' ι' _ _ rfl hs' hv'
 have fresh: ∀(G:Nat) (R:Array Value) (T:TypeId) (w':World),n+1≤G→Below w.heap.size w w'→w.heap.size<w'.heap.size→w'.heap[w.heap.size]? =some (.cells R T (0,0))→R.size=G*k→
   (∀p q,p<n+1→q<k→ ∃av u,(insF g i v p)[q]? =some av∧R[p*k+q]? =some u∧FRel w (FZ S ι [[.blk false k n g],[.blk false k 1 v]] w) av u)→
   ∃us ι',Ending.returned (.slice (some ⟨w.heap.size,0,none⟩) (n+1) G)= .returned (pack us)∧us.length=1∧Sim S ι' ⟨[.own 0 (n+1)],[[.blk false k (n+1) (insF g i v)],[.blk false k 1 v]]⟩ {tmps:=us.toArray,defers:=[]} w':=fun G R T w' hG hB hlt hR hRs h8=>by
  obtain⟨hs',hv'⟩:=Sim.putBlk hs hB (b:=0) (x:=w.heap.size) (Nat.le_refl _) hlt (sz:=k) (n:=n+1) (c:=G) (f:=insF g i v) (C:=R) (T:=T) hn hG hR hRs (F':=FZ S ι [[.blk false k n g],[.blk false k 1 v]] w) (fun _ h=> .inl h)
   (fun p q hp hq=>by
    obtain⟨av,u,a1,a2,a3⟩:=h8 p q hp hq
    exact⟨av,u,a1,a2,a3.mono (fun _ h=>h) fun y' o hy'=>hB.cell hy'.2.1⟩) (.inr ⟨n,g,rfl,by omega⟩)
  exact fin w' _ _ _ rfl hs' hv'
 obtain⟨_,⟨x,c,C,T,hx,rfl,hnc,hC,hCs,hcells⟩|⟨h0,hι0,rfl⟩⟩:=hs.ownGet (b:=0) (g:=g) (sz:=k) rfl r0
 ·obtain⟨cs,f1,f2,f3,f4⟩:=cells_list hnc hCs hcells
  have hyx:y≠x:=fun e=>by have:=hs.inj 0 1 x hx (by rw[←e];exact hy);omega
  have hcs: ∀j u,cs[j]? =some u→w.cell? ⟨x,j,none⟩=some u:=fun j u hu=>by rw[cell_row hC];exact(f2 j u hu).1
  have hcsC: ∀j,j<n*k→cs[j]? =C[j]? :=fun j hj=>by
   have h1:cs[j]? =some (cs[j]'(by omega)):=List.getElem?_eq_getElem (by omega)
   rw[h1,(f2 j _ h1).1]
  have hck:(n+1)≤c→(n+1)*k≤C.size:=fun h=>by rw[hCs];exact Nat.mul_le_mul_right k h
  have hsp:n+1≤c→ ∀j,j<(n+1)*k→(w.cell? ⟨x,j,none⟩).isSome=true:=fun h j hj=>by
   have:=hck h
   rw[cell_row hC,Array.getElem?_eq_getElem (by omega)];rfl
  by_cases hin:i=n
  ·subst hin
   by_cases hr:i+1≤c
   ·refine(ins_end_room L x i c y c2 vl w hr e1 (hsp hr) (fun j=>frozen_row hC j) hvs e3).mono ?_
    rintro e w' ⟨rfl,rfl⟩
    obtain⟨⟨C1,a1,a2,a3⟩,a4,a5,a6,a7,a8⟩:=heap_setCells x vl (i*k) w C T (0,0) hC
    refine place x c C C1 T _ hx hr hC hCs a6 a7 a8 a4 a5 a1 a2 fun p q hp hq=> ?_
    have:=hck hr
    by_cases hpi:p<i
    ·have:=idx_lt hpi hq
     rw[insF_lt hpi,a3,if_neg (by omega)]
     exact hcells p q hpi hq
    ·have hpi:p=i:=by omega
     subst hpi
     rw[insF_eq,a3,if_pos ⟨by omega,by omega,by omega⟩,show p*k+q-p*k=q by omega]
     exact hv0 q hq
   ·refine(ins_end_grow L (some ⟨x,0,none⟩) i c y c2 cs vl w hnc (by omega) hbig2 hn64 f1 e1 (fun h=>by cases h) (fun a ha j u hj=>by cases ha;rw[Addr.add_lit,Nat.zero_add];exact hcs j u hj) hvs e3).mono ?_
    rintro e w' ⟨rfl,rfl⟩
    have hG:=grownCap_ge w (i+1) c (ρ.t 9)
    generalize grownCap w (i+1) c (ρ.t 9)=G at*
    refine fresh G _ (ρ.t 9) _ hG ((Below.drew (Below.refl _ w)).alloc (Nat.le_refl _) _) (by simp) (heap_alloc_new w.drew _) (by
     simp only[Array.size_append,List.size_toArray,List.length_append,hzk,f1,e1]
     have:(G- (i+1))*k+(i+1)*k=G*k:=by rw[←Nat.add_mul];congr 1;omega
     omega) fun p q hp hq=> ?_
    have hpq:=idx_lt hp hq
    rw[Array.getElem?_append_left (by simp only[List.size_toArray,List.length_append,f1,e1];omega)]
    simp only[List.getElem?_toArray]
    by_cases hpi:p<i
    ·have:=idx_lt hpi hq
     rw[insF_lt hpi,List.getElem?_append_left (by omega)]
     exact f4 p q hpi hq
    ·have hpi:p=i:=by omega
     subst hpi
     rw[insF_eq,List.getElem?_append_right (by omega),f1,show p*k+q-p*k=q by omega]
     exact hv0 q hq
  ·have hlt:i<n:=by omega
   have hni:(n-i)*k+i*k=n*k:=by rw[←Nat.add_mul];congr 1;omega
   have hdl:(cs.drop (i*k)).length=(n-i)*k:=by rw[List.length_drop,f1];omega
   by_cases hr:n+1≤c
   ·have hC0:C.size≠0:=by have:=hck hr;have:0<(n+1)*k:=Nat.mul_pos (by omega) hk0;omega
    refine(ins_shift L x n c i y c2 cs vl w hlt hr hn64 hyx f1 e1 hcs (hsp hr) (fun j=>frozen_row hC j) hvs f3 e3 T2 T D.size C.size (by simp [World.shape?,hD]) (by simp [World.shape?,hC]) hC0 (fun j=>frozen_row hD j)).mono ?_
    rintro e w' ⟨rfl,rfl⟩
    have hC1:w.drew.heap[x]? =some (.cells C T (0,0)):=hC
    obtain⟨⟨C1,a1,a2,a3⟩,a4,a5,a6,a7,a8⟩:=heap_setCells x (cs.drop (i*k)) (i*k+k) w.drew C T (0,0) hC1
    obtain⟨⟨C2,b1,b2,b3⟩,b4,b5,b6,b7,b8⟩:=heap_setCells x vl (i*k) (w.drew.setCells x (i*k+k) (cs.drop (i*k))) C1 T (0,0) a1
    refine place x c C C2 T _ hx hr hC hCs (by rw[b6,a6];rfl) (by rw[b7,a7];rfl) (by rw[b8,a8];rfl) (by rw[b4,a4];rfl) (fun q hq=>by rw[b5 q hq,a5 q hq];rfl) b1 (by rw[b2,a2]) fun p q hp hq=> ?_
    have hck:=hck hr
    have hpq:=idx_lt hp hq
    rw[b3]
    by_cases hpi:p<i
    ·have:=idx_lt hpi hq
     rw[insF_lt hpi,if_neg (by omega),a3,if_neg (by omega)]
     exact hcells p q (by omega) hq
    ·by_cases hpe:p=i
     ·subst hpe
      rw[insF_eq,if_pos ⟨by omega,by omega,by omega⟩,show p*k+q-p*k=q by omega]
      exact hv0 q hq
     ·have h1:(i+1)*k≤p*k:=Nat.mul_le_mul_right k (by omega)
      have h2:(p-1)*k+k=p*k:=by rw[←Nat.succ_mul];congr 1;omega
      rw[insF_gt (by omega),if_neg (by omega),a3,if_pos ⟨by omega,by omega,by omega⟩,List.getElem?_drop,show i*k+(p*k+q- (i*k+k))=(p-1)*k+q by omega]
      exact f4 (p-1) q (by omega) hq
   ·refine(ins_grow L hk0 hzk x n c i y c2 cs vl w hlt hnc (by omega) hbig2 hn64 f1 e1 hcs hvs f3 e3).mono ?_
    rintro e w' ⟨rfl,rfl⟩
    have hG:=grownCap_ge w (n+1) c (ρ.t 9)
    generalize grownCap w (n+1) c (ρ.t 9)=G at*
    have hGk:(G- (n+1))*k+(n+1)*k=G*k:=by rw[←Nat.add_mul];congr 1;omega
    have hnik:(n+1-i)*k+i*k=(n+1)*k:=by rw[←Nat.add_mul];congr 1;omega
    generalize hROW:(cs.take (i*k)).toArray++Builtin.zeroCells z.cells (n+1-i)++Builtin.zeroCells z.cells (G- (n+1))=ROW
    have hRs:ROW.size=G*k:=by
     rw[←hROW]
     simp only[Array.size_append,List.size_toArray,List.length_take,hzk,f1]
     omega
    have hR0:(w.alloc (.cells ROW (ρ.t 9))).drew.heap[w.heap.size]? =some (.cells ROW (ρ.t 9) (0,0)):=heap_alloc_new w _
    obtain⟨⟨C1,a1,a2,a3⟩,a4,a5,a6,a7,a8⟩:=heap_setCells w.heap.size vl (i*k) (w.alloc (.cells ROW (ρ.t 9))).drew ROW (ρ.t 9) (0,0) hR0
    have a1':((w.alloc (.cells ROW (ρ.t 9))).drew.setCells w.heap.size (i*k) vl).drew.heap[w.heap.size]? =some (.cells C1 (ρ.t 9) (0,0)):=a1
    obtain⟨⟨C2,b1,b2,b3⟩,b4,b5,b6,b7,b8⟩:=heap_setCells w.heap.size (cs.drop (i*k)) (i*k+k) ((w.alloc (.cells ROW (ρ.t 9))).drew.setCells w.heap.size (i*k) vl).drew C1 (ρ.t 9) (0,0) a1'
    refine fresh G C2 (ρ.t 9) _ hG ?_ (by rw[b4];show w.heap.size<((w.alloc (.cells ROW (ρ.t 9))).drew.setCells w.heap.size (i*k) vl).heap.size;rw[a4];show w.heap.size<(w.alloc (.cells ROW (ρ.t 9))).heap.size;simp) b1 (by rw[b2,a2,hRs]) fun p q hp hq=> ?_
    ·exact Below.setCellsNew (Below.drew (Below.setCellsNew (Below.drew ((Below.refl _ w).alloc (Nat.le_refl _) _)) (Nat.le_refl _) _ _)) (Nat.le_refl _) _ _
    have hpq:=idx_lt hp hq
    rw[b3]
    by_cases hpi:p<i
    ·have:=idx_lt hpi hq
     rw[insF_lt hpi,if_neg (by omega),a3,if_neg (by omega),←hROW,Array.getElem?_append_left (by simp only[Array.size_append,List.size_toArray,List.length_take,hzk,f1];omega),Array.getElem?_append_left (by simp only[List.size_toArray,List.length_take,f1];omega)]
     simp only[List.getElem?_toArray]
     rw[List.getElem?_take_of_lt (by omega)]
     exact f4 p q (by omega) hq
    ·by_cases hpe:p=i
     ·subst hpe
      rw[insF_eq,if_neg (by omega),a3,if_pos ⟨by omega,by omega,by omega⟩,show p*k+q-p*k=q by omega]
      exact hv0 q hq
     ·have h1:(i+1)*k≤p*k:=Nat.mul_le_mul_right k (by omega)
      have h2:(p-1)*k+k=p*k:=by rw[←Nat.succ_mul];congr 1;omega
      have h3:=idx_lt (show p-1<n by omega) hq
      rw[insF_gt (by omega),if_pos ⟨by omega,by omega,by rw[a2,hRs];have:(n+1)*k≤G*k:=Nat.mul_le_mul_right k hG;omega⟩,List.getElem?_drop,show i*k+(p*k+q- (i*k+k))=(p-1)*k+q by omega]
      exact f4 (p-1) q (by omega) hq
 ·subst h0
  have hi0:i=0:=by omega
  subst hi0
  refine(ins_end_grow L none 0 0 y c2 [] vl w (Nat.le_refl _) (by omega) hbig2 hn64 (by simp) e1 (fun _=>rfl) (fun a ha=>by cases ha) hvs e3).mono ?_
  rintro e w' ⟨rfl,rfl⟩
  have hG:=grownCap_ge w (0+1) 0 (ρ.t 9)
  generalize grownCap w (0+1) 0 (ρ.t 9)=G at*
  refine fresh G _ (ρ.t 9) _ hG ((Below.drew (Below.refl _ w)).alloc (Nat.le_refl _) _) (by simp) (heap_alloc_new w.drew _) (by
   simp only[List.nil_append,Array.size_append,List.size_toArray,hzk,e1]
   have:(G- (0+1))*k+(0+1)*k=G*k:=by rw[←Nat.add_mul];congr 1;omega
   omega) fun p q hp hq=> ?_
  have hp0:p=0:=by omega
  subst hp0
  rw[insF_eq,List.nil_append,Array.getElem?_append_left (by simp only[List.size_toArray,e1];omega)]
  simp only[List.getElem?_toArray,Nat.zero_mul,Nat.zero_add]
  exact hv0 q hq
end Go.Vc
