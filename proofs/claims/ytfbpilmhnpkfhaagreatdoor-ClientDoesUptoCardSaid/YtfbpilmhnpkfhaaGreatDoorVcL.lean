/-
  What is proved: a part of the laws of this seat, in plain Lean.
-/
import Derived.Test.YtfbpilmhnpkfhaaGreatDoorVcK
import Derived.Laws.IdiomCopy
import Derived.Deep.AppendSrc
set_option linter.all false
namespace Go.Vc
open Go Go.RowKit
variable {P:Program}
/-! copy and clear, of elements of several cells. -/
theorem run_copy_k(w:World)(dT sT ty elem:TypeId)(i:TypeInfo)(b o dLen dCap:Nat)(a:Addr)(sLen sCap:Nat)(cs:List Value)
  (hu:P.underlying dT=some (.slice elem)) (hi:P.info? elem=some i) (hn:cs.length=Nat.min sLen dLen*i.size)
  (hsrc: ∀j v,cs[j]? =some v→w.cell? (a.add j)=some v) (hc: ∀j,j<cs.length→(w.cell? ⟨b,o+j,none⟩).isSome=true) (hf: ∀j,j<cs.length→w.frozen? ⟨b,o+j,none⟩=false) (h1: ∀v∈cs,v.oneCell'=true):
  (Builtin.copy_ #[dT,sT] ty #[.slice (some ⟨b,o,none⟩) dLen dCap,.slice (some a) sLen sCap]).run P w= .ok (goInt (Nat.min sLen dLen)) (w.setCells b o cs):=by
 have hl:=run_loadCells_list (P:=P) w a cs hsrc
 have hst:=run_storeCells_cells (P:=P) b o cs 0 w (by simpa using hc) (by simpa using hf) h1
 simp [Builtin.copy_,run_underlying hu,Builtin.lenOf,Builtin.firstCells,sizeOf,typeInfo,hi,←hn,hl,hst]
theorem run_clear_k(w:World)(t e ty:TypeId)(z:Value)(ht:P.underlying t=some (.slice e))(hv: ∀w,(zeroValue e).run P w= .ok z w)(b o n c:Nat)(hn:0<n)(zs:List Value)(hz:(Builtin.zeroCells z.cells n).toList=zs)(h1: ∀v∈zs,v.oneCell'=true)
  (hc: ∀j,j<zs.length→(w.cell? ⟨b,o+j,none⟩).isSome=true) (hf: ∀j,j<zs.length→w.frozen? ⟨b,o+j,none⟩=false):
  (Builtin.clear_ #[t] ty #[.slice (some ⟨b,o,none⟩) n c]).run P w= .ok (.tuple #[]) (w.setCells b o zs):=by
 have hst:=run_storeCells_cells (P:=P) b o zs 0 w (by simpa using hc) (by simpa using hf) h1
 simp only[Nat.add_zero]at hst
 obtain⟨m,rfl⟩: ∃m,n=m+1:=⟨n-1,by omega⟩
 simp [Builtin.clear_,run_underlying ht,hv,hz,hst]
end Go.Vc
namespace Go.Vc
open Go Go.RowKit
section
variable {S:Base} {ι:Nat→Option Nat} {st:St} {a:Act} {w:World}
def turnH(H:Heap)(b b2:Nat)(x:AV):Heap:=hset (hset H b 0 deadB) b2 0 x
theorem Sim.turn(h:Sim S ι st a w){w':World}{b b2 x sz n n' c:Nat}{f f':Nat→List AV}{C C':Array Value}{T:TypeId}
  (hblk:hget st.hp b 0= .blk false sz n f) (hx:ι b=some x) (hC:w.heap[x]? =some (.cells C T (0,0)))
  (hos:w'.os=w.os) (hta:w'.tape=w.tape) (hou:w'.output=w.output) (hsz:w'.heap.size=w.heap.size) (hoth: ∀k,k≠x→w'.heap[k]? =w.heap[k]?)
  (hC':w'.heap[x]? =some (.cells C' T (0,0))) (hCs:C'.size=c*sz) (hbig:n'≤BIG) (hcap:n'≤c)
  (hv: ∀i j,i<n'→j<sz→ ∃av u,(f' i)[j]? =some av∧C'[i*sz+j]? =some u∧FRel w (FZ S ι st.hp w) av u)
  (h2:(b2=b∧(n<n'∨(n=n'∧C'.size=C.size)))∨(b2≠b∧(∀o,hget st.hp b2 o= .undef)∧ι b2=none)):
  ∃ι',Sim S ι' ⟨st.tm,turnH st.hp b b2 (.blk false sz n' f')⟩ a w'∧CRel ι' (turnH st.hp b b2 (.blk false sz n' f')) w' (FZ S ι' (turnH st.hp b b2 (.blk false sz n' f')) w') (.own b2 n') (.slice (some ⟨x,0,none⟩) n' c):=by
 have hnB:n≤BIG:=by
  have hl:=h.hp b 0
  rw[hblk]at hl
  rcases hl.2 with hd|hd
  ·cases hd.1
  ·exact hd.1
 generalize hH:turnH st.hp b b2 (.blk false sz n' f')=H'
 have g2:hget H' b2 0= .blk false sz n' f':=by rw[←hH];unfold turnH;rw[hget_hset,if_pos ⟨rfl,rfl⟩]
 have gb:b2≠b→hget H' b 0=deadB:=fun e=>by rw[←hH];unfold turnH;rw[hget_hset,if_neg (fun g=>e g.1.symm),hget_hset,if_pos ⟨rfl,rfl⟩]
 have go: ∀k o,(k≠b∧k≠b2)∨o≠0→hget H' k o=hget st.hp k o:=fun k o g=>by
  rw[←hH];unfold turnH
  rw[hget_hset,if_neg (fun e=>g.elim (fun g=>g.2 e.1) fun g=>g e.2),hget_hset,if_neg (fun e=>g.elim (fun g=>g.1 e.1) fun g=>g e.2)]
 have hlen:st.hp.length≤H'.length∧b2<H'.length:=by
  rw[←hH];unfold turnH
  exact⟨Nat.le_trans (length_hset _ _ _ _).1 (length_hset _ _ _ _).1,(length_hset _ _ _ _).2⟩
 have hbu: ∀o,o≠0→hget st.hp b o= .undef:=fun o ho=>by
  have hl:=h.hp b o
  cases e:hget st.hp b o<;>rw[e]at hl<;>first|rfl|(have:=hl.1;rw[hblk]at this;cases this;done)|exact absurd hl.1 ho
 have hb2u: ∀o,o≠0→hget st.hp b2 o= .undef:=fun o ho=>by
  rcases h2 with⟨e,_⟩|⟨_,e,_⟩
  ·rw[e];exact hbu o ho
  ·exact e o
 let ι':Nat→Option Nat:=fun k=>if k=b2 then some x else if k=b then none else ι k
 have i2:ι' b2=some x:=if_pos rfl
 have ib:b2≠b→ι' b=none:=fun e=>by simp only[ι'];rw[if_neg (fun g=>e g.symm)];simp
 have io: ∀k,k≠b→k≠b2→ι' k=ι k:=fun k g1 g2=>by simp only[ι'];rw[if_neg g2,if_neg g1]
 have isome: ∀k y,ι' k=some y→(k=b2∧y=x)∨(k≠b∧k≠b2∧ι k=some y):=fun k y hy=>by
  by_cases e2:k=b2
  ·subst e2;rw[i2]at hy;cases hy;exact .inl ⟨rfl,rfl⟩
  ·by_cases e1:k=b
   ·rw[e1,ib (fun g=>e2 (by rw[g,e1]))]at hy;cases hy
   ·rw[io k e1 e2]at hy;exact .inr ⟨e1,e2,hy⟩
 have hrw:rwLive st.hp b:= .inl ⟨by rw[hblk];rfl,by rw[hblk];rfl⟩
 have hnx: ∀k y,ι k=some y→k≠b→y≠x:=fun k y hy hne e=>hne (h.inj _ _ _ hy (by rw[e];exact hx))
 have hcell: ∀y p,y≠x→w'.cell? ⟨y,p,none⟩=w.cell? ⟨y,p,none⟩:=fun y p hy=>World.cell?_of_block (hoth y hy)
 have hF: ∀y,FZ S ι st.hp w y→FZ S ι' H' w' y:=fun y ⟨q1,q2,q3⟩=>⟨q1,by rw[hsz];exact q2,fun k hl hy=>by
  rcases isome k y hy with⟨rfl,rfl⟩|⟨e1,e2,hy⟩
  ·exact q3 b hrw hx
  ·exact q3 k (rwLive_congr (fun o=>go k o (.inl ⟨e1,e2⟩)) hl) hy⟩
 have hs:Stp ι st.hp w (FZ S ι st.hp w) ι' H' w' (FZ S ι' H' w'):=by
  refine⟨hF,fun y o ⟨_,_,q3⟩=>hcell y o fun e=>q3 b hrw (by rw[e];exact hx),fun k z hz hk=> ?_,fun k ro0 sz0 n0 f0 hk=> ?_⟩
  ·have e1:k≠b:=fun e=>by rw[e,hblk]at hk;cases hk
   have e2:k≠b2:=fun e=>by
    rcases h2 with⟨e',_⟩|⟨_,_,e'⟩
    ·exact e1 (e.trans e')
    ·rw[e,e']at hz;cases hz
   exact⟨by rw[io k e1 e2];exact hz,by rw[go k 0 (.inl ⟨e1,e2⟩)];exact hk⟩
  ·by_cases e1:k=b
   ·subst e1
    rw[hblk]at hk;cases hk
    rcases h2 with⟨e,hlt⟩|⟨e,_,_⟩
    ·subst e
     refine⟨false,_,n',f',g2,by rcases hlt with h|⟨h,_⟩<;>omega,fun e=> ?_⟩
     rcases hlt with hlt|⟨_,hsz'⟩
     ·omega
     ·refine⟨rfl,by rw[i2,hx],fun y D T' hy hD=> ?_⟩
      rw[hx]at hy;cases hy
      rw[hC]at hD;cases hD
      exact⟨C',hC',hsz'⟩
    ·exact⟨true,0,BIG+1,fun _=>[],gb e,by omega,fun e=>by omega⟩
   ·have e2:k≠b2:=fun e=>by
     rcases h2 with⟨e',_⟩|⟨_,e',_⟩
     ·exact e1 (e.trans e')
     ·rw[e,e']at hk;cases hk
    refine⟨ro0,sz0,n0,f0,by rw[go k 0 (.inl ⟨e1,e2⟩)];exact hk,Nat.le_refl _,fun _=>⟨rfl,io k e1 e2,fun y D T' hy hD=>⟨D,?_,rfl⟩⟩⟩
    rw[hoth y (hnx _ _ hy e1)];exact hD
 refine⟨ι',⟨h.below.then ⟨hos,hta,hou,by rw[hsz];exact Nat.le_refl _,fun k hk hn=>hoth k fun e=> ?_⟩,h.defers,fun t av ht=> ?_,fun k o=> ?_,fun k1 k2 y h1 h3=> ?_,fun k y hy=> ?_,fun k y hy=> ?_,h.hist.trans hs⟩,rfl,false,sz,n',f',g2,Nat.le_refl _,fun _=> .inl ⟨x,c,C',T,i2,rfl,hcap,hC',hCs⟩⟩
 ·rcases(h.fresh b x hx).1 with g|g
  ·omega
  ·exact hn (by rw[e];exact g)
 ·obtain⟨v,q1,q2⟩:=h.tm t av ht
  exact⟨v,q1,q2.step hs⟩
 ·show LRel ι' H' w' (FZ S ι' H' w') k o (hget H' k o)
  by_cases e2:k=b2
  ·subst e2
   by_cases eo:o=0
   ·subst eo
    rw[g2]
    refine⟨rfl,.inr ⟨hbig,.inr ⟨x,C',T,i2,hC',fun i j hi hj=> ?_⟩⟩⟩
    obtain⟨av,u,q1,q2,q3⟩:=hv i j hi hj
    exact⟨av,u,q1,q2,q3.mono hF hs.cell⟩
   ·rw[go k o (.inr eo),hb2u o eo];trivial
  ·by_cases e1:k=b
   ·subst e1
    by_cases eo:o=0
    ·subst eo;rw[gb (fun g=>e2 g.symm)];exact⟨rfl,.inl ⟨rfl,rfl,ib (fun g=>e2 g.symm)⟩⟩
    ·rw[go k o (.inr eo),hbu o eo];trivial
   ·rw[go k o (.inl ⟨e1,e2⟩)]
    exact(h.hp k o).step hs (fun _=>io k e1 e2) (fun y hy _=>⟨hcell y o (hnx _ _ hy e1),World.frozen?_of_block (hoth y (hnx _ _ hy e1))⟩) (fun _=>⟨io k e1 e2,fun y hy=>hoth y (hnx _ _ hy e1)⟩)
 ·rcases isome k1 y h1 with⟨rfl,rfl⟩|⟨a1,a2,a3⟩<;>rcases isome k2 y h3 with⟨rfl,q⟩|⟨c1,c2,c3⟩
  ·rfl
  ·exact absurd rfl (hnx _ _ c3 c1)
  ·subst q;exact absurd rfl (hnx _ _ a3 a1)
  ·exact h.inj k1 k2 y a3 c3
 ·rw[hsz]
  rcases isome k y hy with⟨rfl,rfl⟩|⟨a1,a2,a3⟩
  ·exact h.fresh b _ hx
  ·exact h.fresh k y a3
 ·rcases isome k y hy with⟨rfl,rfl⟩|⟨a1,a2,a3⟩
  ·exact hlen.2
  ·exact Nat.lt_of_lt_of_le (h.dom k y a3) hlen.1
end
theorem cell_row{w:World}{x:Nat}{C:Array Value}{T:TypeId}{z:Nat×Nat}(h:w.heap[x]? =some (.cells C T z))(o:Nat):w.cell? ⟨x,o,none⟩=C[o]? :=by
 simp [World.cell?,h]
theorem frozen_row{w:World}{x:Nat}{C:Array Value}{T:TypeId}(h:w.heap[x]? =some (.cells C T (0,0)))(o:Nat):w.frozen? ⟨x,o,none⟩=false:=by
 simp [World.frozen?,h]
theorem Sim.ownGet{S:Base}{ι:Nat→Option Nat}{st:St}{a:Act}{w:World}(h:Sim S ι st a w){b n sz:Nat}{g:Nat→List AV}{v:Value}(hb:hget st.hp b 0= .blk false sz n g)(hv:CR S ι st.hp w (.own b n) v):
  n≤BIG∧((∃x c C T,ι b=some x∧v= .slice (some ⟨x,0,none⟩) n c∧n≤c∧w.heap[x]? =some (.cells C T (0,0))∧C.size=c*sz∧ ∀i j,i<n→j<sz→ ∃av u,(g i)[j]? =some av∧C[i*sz+j]? =some u∧FRel w (FZ S ι st.hp w) av u)∨
   (n=0∧ι b=none∧v= .slice none 0 0)):=by
 obtain⟨_,ro,sz',n',g',h1,_,h3⟩:=hv
 rw[hb]at h1;cases h1
 have hl:=h.hp b 0
 rw[hb]at hl
 obtain⟨_,hd|⟨hbig,hl⟩⟩:=hl
 ·cases hd.1
 refine⟨hbig,?_⟩
 rcases h3 rfl with⟨x,c,C,T,hx,hv,hnc,hC,hCs⟩|⟨h0,hn,hv⟩
 ·rcases hl with hl|⟨x',C',T',hx',hC',hcells⟩
  ·rw[hx]at hl;cases hl.2
  ·rw[hx]at hx';cases hx'
   rw[hC]at hC';cases hC'
   exact .inl ⟨x,c,C,T,hx,hv,hnc,hC,hCs,hcells⟩
 ·exact .inr ⟨h0,hn,hv⟩
theorem FRel.oneC{w:World}{F:Nat→Prop}{av:AV}{v:Value}(h:FRel w F av v):v.oneCell'=true:=one_cell h.one
theorem idx_lt{i j sz n:Nat}(hi:i<n)(hj:j<sz):i*sz+j<n*sz:=by
 have:(i+1)*sz≤n*sz:=Nat.mul_le_mul_right sz hi
 rw[Nat.succ_mul]at this;omega
end Go.Vc
