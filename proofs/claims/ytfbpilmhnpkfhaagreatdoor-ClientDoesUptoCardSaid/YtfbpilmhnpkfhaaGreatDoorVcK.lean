/-
  A GENERATOR OF CONDITIONS over the model's code, proved sound once: what it asks of a function's body gives the run of that body. By an AI agent; no person has read it. Part 3: slices of the call's own: appended to, handed on, handed back.
-/
import Derived.Test.YtfbpilmhnpkfhaaGreatDoorVcB
import Derived.Deep.AppendSrc
import Derived.Great.FillDense
import Derived.Laws.BytesString
import Derived.Laws.IdiomStrings
import Derived.Great.BuildSlice
import Derived.Laws.Slices
import Derived.Laws.Small
import Derived.Laws.MakeOwn
set_option linter.all false
namespace Go.Vc
open Go Go.RowKit
section
variable {E:Env} {S:Base} {ι:Nat→Option Nat} {st:St} {a:Act} {w:World}
theorem hwr_one(H:Heap)(b:Nat)(c:AV):hwr H [(b,0,c)]=hset H b 0 c:=rfl
theorem Sim.putBlk(h:Sim S ι st a w){w':World}(hb:Below w.heap.size w w'){b x:Nat}(hx1:w.heap.size≤x)(hx2:x<w'.heap.size){sz n c:Nat}{f:Nat→List AV}{C:Array Value}{T:TypeId}
  (hbig:n≤BIG) (hcap:n≤c) (hC:w'.heap[x]? =some (.cells C T (0,0))) (hCs:C.size=c*sz) {F':Nat→Prop} (hF': ∀y,F' y→FZ S ι st.hp w y∨(w.heap.size≤y∧y<w'.heap.size∧y≠x))
  (hv: ∀i j,i<n→j<sz→ ∃av u,(f i)[j]? =some av∧C[i*sz+j]? =some u∧FRel w' F' av u)
  (hbb:((∀o,hget st.hp b o= .undef)∧ι b=none)∨ ∃n0 f0,hget st.hp b 0= .blk false sz n0 f0∧n0<n):
  Sim S (upd ι b x) ⟨st.tm,hset st.hp b 0 (.blk false sz n f)⟩ a w'∧CRel (upd ι b x) (hset st.hp b 0 (.blk false sz n f)) w' (FZ S (upd ι b x) (hset st.hp b 0 (.blk false sz n f)) w') (.own b n) (.slice (some ⟨x,0,none⟩) n c):=by
 have hget': ∀b' o,b'≠b→hget (hset st.hp b 0 (.blk false sz n f)) b' o=hget st.hp b' o:=fun b' o hn=>by rw[hget_hset,if_neg (fun e=>hn e.1)]
 have hgb:hget (hset st.hp b 0 (.blk false sz n f)) b 0= .blk false sz n f:=by rw[hget_hset,if_pos ⟨rfl,rfl⟩]
 have hnb: ∀z,ι b=some z→isBlk (hget st.hp b 0)=true:=fun z hz=>by
  rcases hbb with⟨_,h2⟩|⟨n0,f0,h1,_⟩
  ·rw[h2]at hz;cases hz
  ·rw[h1];rfl
 have hs:Stp ι st.hp w (FZ S ι st.hp w) (upd ι b x) (hset st.hp b 0 (.blk false sz n f)) w' (FZ S (upd ι b x) (hset st.hp b 0 (.blk false sz n f)) w'):=by
  refine⟨fun y ⟨h1,h2,h3⟩=>⟨h1,Nat.lt_of_lt_of_le h2 hb.size,fun b' hb'=> ?_⟩,fun y o ⟨_,h2,_⟩=>hb.cell h2,fun b' z hz hk=> ?_,fun b' ro sz' n' f' hk=> ?_⟩
  ·unfold upd
   by_cases e:b'=b
   ·simp only[e,if_true];intro he;simp at he;omega
   ·simp only[e,if_false]
    exact h3 b' (rwLive_congr (fun o=>hget' b' o e) hb')
  ·have e:b'≠b:=fun e=>by rw[e]at hz hk;rw[hnb z hz]at hk;cases hk
   exact⟨by simp [upd,e,hz],by rw[hget' _ _ e];exact hk⟩
  ·by_cases e:b'=b
   ·subst e
    rcases hbb with⟨h1,_⟩|⟨n0,f0,h1,h2⟩
    ·rw[h1]at hk;cases hk
    ·rw[h1]at hk;cases hk
     exact⟨false,_,n,f,hgb,by omega,fun e=>by omega⟩
   ·refine⟨ro,_,n',f',by rw[hget' _ _ e];exact hk,Nat.le_refl _,fun _=>⟨rfl,by simp [upd,e],fun y C T' hy hC=>⟨C,?_,rfl⟩⟩⟩
    rw[hb.block y (h.fresh _ _ hy).2];exact hC
 have hF2: ∀y,F' y→FZ S (upd ι b x) (hset st.hp b 0 (.blk false sz n f)) w' y:=fun y hy=>by
  rcases hF' y hy with hy|⟨h1,h2,h3⟩
  ·exact hs.fz y hy
  ·refine⟨.inr (Nat.le_trans h.below.size h1),h2,fun b' _ he=> ?_⟩
   unfold upd at he
   by_cases e:b'=b<;>simp only[e,if_true,if_false]at he
   ·simp at he;exact h3 he.symm
   ·have:=(h.fresh _ _ he).2;omega
 refine⟨⟨h.below.trans (hb.mono h.below.size),h.defers,fun t av ht=> ?_,fun b' o=> ?_,fun b1 b2 y h1 h2=> ?_,fun b' y hy=> ?_,fun b' y hy=> ?_,h.hist.trans hs⟩,?_⟩
 ·obtain⟨v,h1,h2⟩:=h.tm t av ht
  exact⟨v,h1,h2.step hs⟩
 ·by_cases e:b'=b
  ·subst e
   by_cases eo:o=0
   ·subst eo
    show LRel _ _ _ _ _ _ (hget (hset st.hp b' 0 (.blk false sz n f)) b' 0)
    rw[hgb]
    refine⟨rfl,.inr ⟨hbig,.inr ⟨x,C,T,by simp [upd],hC,fun i j hi hj=> ?_⟩⟩⟩
    obtain⟨av,u,k1,k2,k3⟩:=hv i j hi hj
    exact⟨av,u,k1,k2,k3.mono hF2 fun _ _ _=>rfl⟩
   ·show LRel _ _ _ _ _ _ (hget (hset st.hp b' 0 (.blk false sz n f)) b' o)
    rw[hget_hset,if_neg (fun e=>eo e.2)]
    have hu:hget st.hp b' o= .undef:=by
     rcases hbb with⟨h1,_⟩|⟨n0,f0,h1,_⟩
     ·exact h1 o
     ·have hl:=h.hp b' o
      cases e:hget st.hp b' o<;>rw[e]at hl<;>first|rfl|(have:=hl.1;rw[h1]at this;cases this;done)|exact absurd hl.1 eo
    rw[hu];trivial
  ·show LRel _ _ _ _ _ _ (hget (hset st.hp b 0 (.blk false sz n f)) b' o)
   rw[hget' _ _ e]
   exact(h.hp b' o).step hs (fun _=>by simp [upd,e]) (fun y hy _=>⟨hb.cell (h.fresh _ _ hy).2,hb.frozen (h.fresh _ _ hy).2⟩) (fun _=>⟨by simp [upd,e],fun y hy=>hb.block y (h.fresh _ _ hy).2⟩)
 ·unfold upd at h1 h2
  by_cases e1:b1=b<;>by_cases e2:b2=b<;>simp only[e1,e2,if_true,if_false]at h1 h2
  ·omega
  ·simp at h1;have:=(h.fresh _ _ h2).2;omega
  ·simp at h2;have:=(h.fresh _ _ h1).2;omega
  ·exact h.inj _ _ _ h1 h2
 ·unfold upd at hy
  by_cases e:b'=b<;>simp only[e,if_true,if_false]at hy
  ·simp at hy;subst hy;exact⟨.inl (Nat.le_trans h.below.size hx1),hx2⟩
  ·have:=h.fresh _ _ hy;exact⟨this.1,Nat.lt_of_lt_of_le this.2 hb.size⟩
 ·unfold upd at hy
  by_cases e:b'=b
  ·rw[e];exact(length_setAt _ _ _ _).2
  ·simp only[e,if_false]at hy
   exact Nat.lt_of_lt_of_le (h.dom _ _ hy) (length_setAt _ _ _ _).1
 ·exact⟨rfl,false,sz,n,f,hgb,Nat.le_refl _,fun _=> .inl ⟨x,c,C,T,by simp [upd],rfl,hcap,hC,hCs⟩⟩
theorem Sim.nilOwn(h:Sim S ι st a w){b:Nat}(hb: ∀o,hget st.hp b o= .undef)(hι:ι b=none)(sz:Nat)(f:Nat→List AV):
  Sim S ι ⟨st.tm,hset st.hp b 0 (.blk false sz 0 f)⟩ a w∧Stp ι st.hp w (FZ S ι st.hp w) ι (hset st.hp b 0 (.blk false sz 0 f)) w (FZ S ι (hset st.hp b 0 (.blk false sz 0 f)) w)∧
  ∀F,CRel ι (hset st.hp b 0 (.blk false sz 0 f)) w F (.own b 0) (.slice none 0 0):=by
 have hget': ∀b' o,b'≠b→hget (hset st.hp b 0 (.blk false sz 0 f)) b' o=hget st.hp b' o:=fun b' o hn=>by rw[hget_hset,if_neg (fun e=>hn e.1)]
 have hgb:hget (hset st.hp b 0 (.blk false sz 0 f)) b 0= .blk false sz 0 f:=by rw[hget_hset,if_pos ⟨rfl,rfl⟩]
 have hne: ∀b' x,ι b'=some x→b'≠b:=fun b' x hx e=>by rw[e,hι]at hx;cases hx
 have hs:Stp ι st.hp w (FZ S ι st.hp w) ι (hset st.hp b 0 (.blk false sz 0 f)) w (FZ S ι (hset st.hp b 0 (.blk false sz 0 f)) w):=by
  refine⟨fun y ⟨h1,h2,h3⟩=>⟨h1,h2,fun b' hb' he=> ?_⟩,fun y o _=>rfl,fun b' z hz hk=>⟨hz,by rw[hget' _ _ (hne _ _ hz)];exact hk⟩,fun b' ro sz' n' f' hk=> ?_⟩
  ·exact h3 b' (rwLive_congr (fun o=>hget' b' o (hne _ _ he)) hb') he
  ·have e:b'≠b:=fun e=>by rw[e,hb]at hk;cases hk
   exact⟨ro,_,n',f',by rw[hget' _ _ e];exact hk,Nat.le_refl _,fun _=>⟨rfl,rfl,fun y C T' _ hC=>⟨C,hC,rfl⟩⟩⟩
 refine⟨⟨h.below,h.defers,fun t av ht=> ?_,fun b' o=> ?_,h.inj,h.fresh,fun b' y hy=>Nat.lt_of_lt_of_le (h.dom _ _ hy) (length_setAt _ _ _ _).1,h.hist.trans hs⟩,hs,fun F=>⟨rfl,false,sz,0,f,hgb,Nat.le_refl _,fun _=> .inr ⟨rfl,hι,rfl⟩⟩⟩
 ·obtain⟨v,h1,h2⟩:=h.tm t av ht
  exact⟨v,h1,h2.step hs⟩
 ·show LRel _ _ _ _ _ _ (hget (hset st.hp b 0 (.blk false sz 0 f)) b' o)
  by_cases e:b'=b
  ·subst e
   by_cases eo:o=0
   ·subst eo;rw[hgb];exact⟨rfl,.inr ⟨Nat.zero_le _,.inl ⟨rfl,hι⟩⟩⟩
   ·rw[hget_hset,if_neg (fun e=>eo e.2),hb];trivial
  ·rw[hget' _ _ e]
   exact(h.hp b' o).step hs (fun _=>rfl) (fun _ _ _=>⟨rfl,rfl⟩) (fun _=>⟨rfl,fun _ _=>rfl⟩)
theorem heap_setCells(b:Nat): ∀(vs:List Value) (o:Nat) (w:World) (C:Array Value) (T:TypeId) (z:Nat×Nat),w.heap[b]? =some (.cells C T z)→
  (∃C':Array Value,(w.setCells b o vs).heap[b]? =some (.cells C' T z)∧C'.size=C.size∧ ∀k,C'[k]? =if o≤k∧k<o+vs.length∧k<C.size then vs[k-o]? else C[k]?)∧
  (w.setCells b o vs).heap.size=w.heap.size∧(∀k,k≠b→(w.setCells b o vs).heap[k]? =w.heap[k]?)∧(w.setCells b o vs).os=w.os∧(w.setCells b o vs).tape=w.tape∧(w.setCells b o vs).output=w.output
 |[],o,w,C,T,z,h=>by
  refine⟨⟨C,h,rfl,fun k=> ?_⟩,rfl,fun _ _=>rfl,rfl,rfl,rfl⟩
  rw[if_neg (by simp;omega)]
 |v::vs,o,w,C,T,z,h=>by
  have h1:(w.setCell ⟨b,o,none⟩ v).heap[b]? =some (.cells (C.setIfInBounds o v) T z):=by
   simp only[World.setCell,Array.getElem?_modify]
   rw[h];simp
  obtain⟨⟨C',g1,g2,g3⟩,g4,g5,g6,g7,g8⟩:=heap_setCells b vs (o+1) (w.setCell ⟨b,o,none⟩ v) _ T z h1
  simp only[World.setCells]
  refine⟨⟨C',g1,by simpa using g2,fun k=> ?_⟩,by simpa using g4,fun k hk=>by rw[g5 k hk,Below.heap_setCell _ _ _ _ hk],by rw[g6];rfl,by rw[g7];rfl,by rw[g8];rfl⟩
  rw[g3]
  simp only[Array.size_setIfInBounds,List.length_cons]
  by_cases e:k=o
  ·subst e
   rw[if_neg (by omega)]
   by_cases hk:k<C.size
   ·rw[if_pos ⟨Nat.le_refl _,by omega,hk⟩];simp [hk]
   ·rw[if_neg (by omega)];simp [hk]
  ·by_cases hk:o+1≤k∧k<o+1+vs.length∧k<C.size
   ·rw[if_pos hk,if_pos ⟨by omega,by omega,hk.2.2⟩,show k-o=(k- (o+1))+1 by omega];simp
   ·rw[if_neg hk,if_neg (by omega)]
    rw[Array.getElem?_setIfInBounds_ne (fun h=>e h.symm)]
theorem Sim.roomBlk(h:Sim S ι st a w){b x sz n m c:Nat}{f g hh:Nat→List AV}(hh': ∀i,i<n+m→appF n f g i=hh i){C:Array Value}{T:TypeId}(hblk:hget st.hp b 0= .blk false sz n f)(hx:ι b=some x)(hC:w.heap[x]? =some (.cells C T (0,0)))(hCs:C.size=c*sz)
  (hroom:n+m≤c) (hbig:n+m≤BIG) (news:List Value) (hl:news.length=m*sz) (hv: ∀i j,i<m→j<sz→ ∃av u,(g i)[j]? =some av∧news[i*sz+j]? =some u∧FRel w (FZ S ι st.hp w) av u):
  Sim S ι ⟨st.tm,hset st.hp b 0 (.blk false sz (n+m) hh)⟩ a (w.setCells x (n*sz) news)∧
  CRel ι (hset st.hp b 0 (.blk false sz (n+m) hh)) (w.setCells x (n*sz) news) (FZ S ι (hset st.hp b 0 (.blk false sz (n+m) hh)) (w.setCells x (n*sz) news)) (.own b (n+m)) (.slice (some ⟨x,0,none⟩) (n+m) c):=by
 obtain⟨⟨C',c1,c2,c3⟩,c4,c5,c6,c7,c8⟩:=heap_setCells x news (n*sz) w C T (0,0) hC
 generalize hw':w.setCells x (n*sz) news=w' at*
 have hget': ∀b' o,b'≠b→hget (hset st.hp b 0 (.blk false sz (n+m) hh)) b' o=hget st.hp b' o:=fun b' o hn=>by rw[hget_hset,if_neg (fun e=>hn e.1)]
 have hgb:hget (hset st.hp b 0 (.blk false sz (n+m) hh)) b 0= .blk false sz (n+m) hh:=by rw[hget_hset,if_pos ⟨rfl,rfl⟩]
 have hrw:rwLive st.hp b:= .inl ⟨by rw[hblk];rfl,by rw[hblk];rfl⟩
 have hcell: ∀y p,y≠x→w'.cell? ⟨y,p,none⟩=w.cell? ⟨y,p,none⟩:=fun y p hy=>World.cell?_of_block (c5 y hy)
 have hnx: ∀b' y,ι b'=some y→b'≠b→y≠x:=fun b' y hy hne e=>hne (h.inj _ _ _ hy (by rw[e];exact hx))
 have hs:Stp ι st.hp w (FZ S ι st.hp w) ι (hset st.hp b 0 (.blk false sz (n+m) hh)) w' (FZ S ι (hset st.hp b 0 (.blk false sz (n+m) hh)) w'):=by
  refine⟨fun y ⟨h1,h2,h3⟩=>⟨h1,by rw[c4];exact h2,fun b' hb'=> ?_⟩,fun y o ⟨_,h2,h3⟩=>hcell y o (fun e=>h3 b hrw (by rw[e];exact hx)),fun b' z hz hk=> ?_,fun b' ro sz' n' f' hk=> ?_⟩
  ·by_cases e:b'=b
   ·rw[e];exact h3 b hrw
   ·exact h3 b' (rwLive_congr (fun o=>hget' b' o e) hb')
  ·have e:b'≠b:=fun e=>by rw[e,hblk]at hk;cases hk
   exact⟨hz,by rw[hget' _ _ e];exact hk⟩
  ·by_cases e:b'=b
   ·subst e
    rw[hblk]at hk;cases hk
    refine⟨false,_,n+m,_,hgb,by omega,fun _=>⟨rfl,rfl,fun y D T' hy hD=> ?_⟩⟩
    rw[hx]at hy;cases hy
    rw[hC]at hD;cases hD
    exact⟨C',c1,c2⟩
   ·refine⟨ro,_,n',f',by rw[hget' _ _ e];exact hk,Nat.le_refl _,fun _=>⟨rfl,rfl,fun y D T' hy hD=>⟨D,?_,rfl⟩⟩⟩
    rw[c5 y (hnx _ _ hy e)];exact hD
 refine⟨⟨h.below.then ⟨c6,c7,c8,by rw[c4];exact Nat.le_refl _,fun k hk hn=>c5 k (fun e=>(h.fresh _ _ hx).1.elim (fun g=>by omega) fun g=>hn (by rw[e];exact g))⟩,h.defers,fun t av ht=> ?_,fun b' o=> ?_,h.inj,fun b' y hy=>⟨(h.fresh _ _ hy).1,by rw[c4];exact(h.fresh _ _ hy).2⟩,fun b' y hy=>Nat.lt_of_lt_of_le (h.dom _ _ hy) (length_setAt _ _ _ _).1,h.hist.trans hs⟩,?_⟩
 ·obtain⟨v,h1,h2⟩:=h.tm t av ht
  exact⟨v,h1,h2.step hs⟩
 ·show LRel _ _ _ _ _ _ (hget (hset st.hp b 0 (.blk false sz (n+m) hh)) b' o)
  by_cases e:b'=b
  ·subst e
   by_cases eo:o=0
   ·subst eo
    rw[hgb]
    refine⟨rfl,.inr ⟨hbig,.inr ⟨x,C',T,hx,c1,fun i j hi hj=> ?_⟩⟩⟩
    have hlb:=h.hp b' 0
    rw[hblk]at hlb
    have hij:i*sz+j<(n+m)*sz:=by
     have:(i+1)*sz≤(n+m)*sz:=Nat.mul_le_mul_right sz hi
     rw[Nat.succ_mul]at this;omega
    have hmul:(n+m)*sz≤c*sz:=Nat.mul_le_mul_right sz hroom
    have hadd:(n+m)*sz=n*sz+m*sz:=Nat.add_mul _ _ _
    by_cases hin:i<n
    ·obtain⟨_,hd|⟨_,hlb|⟨x2,C2,T2,q1,q2,q3⟩⟩⟩:=hlb
     ·cases hd.1
     ·omega
     ·rw[hx]at q1;cases q1
      rw[hC]at q2;cases q2
      obtain⟨av,u,k1,k2,k3⟩:=q3 i j hin hj
      have hlt:i*sz+j<n*sz:=by
       have:(i+1)*sz≤n*sz:=Nat.mul_le_mul_right sz hin
       rw[Nat.succ_mul]at this;omega
      refine⟨av,u,?_,?_,k3.mono hs.fz hs.cell⟩
      ·have:Nat.blt i n=true:=by simpa[Nat.blt_eq]using hin
       rw[←hh' i hi];simp only[appF,this,cond_true];exact k1
      ·rw[c3,if_neg (by omega)];exact k2
    ·obtain⟨av,u,k1,k2,k3⟩:=hv (i-n) j (by omega) hj
     have hsub:(i-n)*sz=i*sz-n*sz:=Nat.sub_mul _ _ _
     have hge:n*sz≤i*sz:=Nat.mul_le_mul_right sz (by omega)
     refine⟨av,u,?_,?_,k3.mono hs.fz hs.cell⟩
     ·have:Nat.blt i n=false:=by
       cases e:Nat.blt i n with
       |false=>rfl
       |true=>exact absurd (Nat.le_of_ble_eq_true e) (by omega)
      rw[←hh' i hi];simp only[appF,this,cond_false];exact k1
     ·rw[c3,if_pos ⟨by omega,by omega,by omega⟩]
      rw[hsub]at k2
      rw[show i*sz+j-n*sz=i*sz-n*sz+j by omega];exact k2
   ·rw[hget_hset,if_neg (fun e=>eo e.2)]
    have hu:hget st.hp b' o= .undef:=by
     have hl:=h.hp b' o
     cases e:hget st.hp b' o<;>rw[e]at hl<;>first|rfl|(have:=hl.1;rw[hblk]at this;cases this;done)|exact absurd hl.1 eo
    rw[hu];trivial
  ·rw[hget' _ _ e]
   exact(h.hp b' o).step hs (fun _=>rfl) (fun y hy _=>⟨hcell y o (hnx _ _ hy e),World.frozen?_of_block (c5 y (hnx _ _ hy e))⟩) (fun _=>⟨rfl,fun y hy=>c5 y (hnx _ _ hy e)⟩)
 ·exact⟨rfl,false,sz,n+m,_,hgb,Nat.le_refl _,fun _=> .inl ⟨x,c,C',T,hx,rfl,hroom,c1,by rw[c2];exact hCs⟩⟩
theorem Sim.freeze(h:Sim S ι st a w){H':Heap}(hH: ∀b o,hget H' b o=hget st.hp b o∨(o=0∧ ∃ro sz n f,hget st.hp b 0= .blk ro sz n f∧hget H' b 0= .blk true sz n f))(hlen:st.hp.length≤H'.length):
  Sim S ι ⟨st.tm,H'⟩ a w∧Stp ι st.hp w (FZ S ι st.hp w) ι H' w (FZ S ι H' w):=by
 have hblk: ∀b,isBlk (hget H' b 0)=isBlk (hget st.hp b 0):=fun b=>by
  rcases hH b 0 with h1|⟨_,ro,sz,n,f,h1,h2⟩
  ·rw[h1]
  ·rw[h1,h2];rfl
 have hs:Stp ι st.hp w (FZ S ι st.hp w) ι H' w (FZ S ι H' w):=by
  refine⟨fun y ⟨h1,h2,h3⟩=>⟨h1,h2,fun b hb=>h3 b ?_⟩,fun _ _ _=>rfl,fun b z hz hk=>⟨hz,by rw[hblk];exact hk⟩,fun b ro sz n f hk=> ?_⟩
  ·rcases hb with⟨g1,g2⟩|⟨g1,o,g2⟩
   ·rcases hH b 0 with h1|⟨_,ro,sz,n,f,_,h2⟩
    ·rw[h1]at g1 g2;exact .inl ⟨g1,g2⟩
    ·rw[h2]at g2;cases g2
   ·rw[hblk]at g1
    rcases hH b o with h1|⟨_,ro,sz,n,f,h1,_⟩
    ·rw[h1]at g2;exact .inr ⟨g1,o,g2⟩
    ·rw[h1]at g1;cases g1
  ·rcases hH b 0 with h1|⟨_,ro',sz',n',f',h1,h2⟩
   ·exact⟨ro,_,n,f,by rw[h1];exact hk,Nat.le_refl _,fun _=>⟨rfl,rfl,fun x C T _ hC=>⟨C,hC,rfl⟩⟩⟩
   ·rw[hk]at h1;cases h1
    exact⟨true,_,n,f,h2,Nat.le_refl _,fun _=>⟨rfl,rfl,fun x C T _ hC=>⟨C,hC,rfl⟩⟩⟩
 refine⟨⟨h.below,h.defers,fun t av ht=> ?_,fun b o=> ?_,h.inj,h.fresh,fun b x hx=>Nat.lt_of_lt_of_le (h.dom _ _ hx) hlen,h.hist.trans hs⟩,hs⟩
 ·obtain⟨v,h1,h2⟩:=h.tm t av ht
  exact⟨v,h1,h2.step hs⟩
 ·show LRel ι H' w _ b o (hget H' b o)
  rcases hH b o with h1|⟨rfl,ro,sz,n,f,h1,h2⟩
  ·rw[h1]
   exact(h.hp b o).step hs (fun _=>rfl) (fun _ _ _=>⟨rfl,rfl⟩) (fun _=>⟨rfl,fun _ _=>rfl⟩)
  ·rw[h2]
   have hl:=h.hp b 0
   rw[h1]at hl
   obtain⟨k0,kd|kk⟩:=hl.step hs (fun _=>rfl) (fun _ _ _=>⟨rfl,rfl⟩) (fun _=>⟨rfl,fun _ _=>rfl⟩)
   ·exact⟨k0,.inl ⟨rfl,kd.2⟩⟩
   ·exact⟨k0,.inr kk⟩
theorem own_frz(h:Sim S ι st a w){b k:Nat}{v:Value}{sz n:Nat}{f:Nat→List AV}(hblk:hget st.hp b 0= .blk true sz n f)(hk:k=n)(hx:CR S ι st.hp w (.own b k) v):FRel w (FZ S ι st.hp w) (.arr sz n f) v:=by
 obtain⟨_,ro,sz',n',f',h1,h2,h3⟩:=hx
 rw[hblk]at h1;cases h1
 subst hk
 rcases h3 rfl with⟨q,c,C,T',hq,hv,hnc,hC,hCs⟩|⟨rfl,_,hv⟩
 ·have hl:=h.hp b 0
  rw[hblk]at hl
  obtain⟨_,hd|⟨hbig,hl|⟨q',C',T2,hq',hC',hcells⟩⟩⟩:=hl
  ·rw[hq]at hd;cases hd.2.2
  ·rw[hq]at hl;cases hl.2
  ·rw[hq]at hq';cases hq'
   rw[hC]at hC';cases hC'
   have hf:=h.fresh b q hq
   have hFq:FZ S ι st.hp w q:=⟨h.own hq,hf.2,fun b' hb' he=>by
    have:=h.inj _ _ _ he hq
    subst this
    rcases hb' with⟨_,g⟩|⟨g,_⟩
    ·rw[hblk]at g;cases g
    ·rw[hblk]at g;cases g⟩
   rw[hv]
   refine .arr sz k f q 0 c (fun i j=>((f i)[j]?).getD .undef) (fun i j=>(C[i*sz+j]?).getD undef) hnc hbig (fun _=>hFq) (fun i j hi hj=> ?_) (fun i j hi hj=> ?_) (fun i j hi hj=> ?_)
   ·obtain⟨av,u,g1,g2,g3⟩:=hcells i j hi hj
    rw[g1];rfl
   ·obtain⟨av,u,g1,g2,g3⟩:=hcells i j hi hj
    rw[cell_of_row w q _ C T' (0,0) hC,Nat.zero_add,g2];rfl
   ·obtain⟨av,u,g1,g2,g3⟩:=hcells i j hi hj
    simp only[g1,g2,Option.getD_some];exact g3
 ·rw[hv];exact .nil sz f
end
end Go.Vc
namespace Go.Vc
open Go Go.RowKit
section
variable {E:Env} {S:Base} {ι:Nat→Option Nat} {st:St} {a:Act} {w:World}
theorem hwr_append: ∀(ws ws':Ws) (H:Heap),hwr H (ws++ws')=hwr (hwr H ws) ws'
 |[],_,_=>rfl
 |(_,_,_)::ws,ws',H=>hwr_append ws ws' _
theorem hwr_len: ∀(ws:Ws) (H:Heap),H.length≤(hwr H ws).length
 |[],_=>Nat.le_refl _
 |(b,p,c)::ws,H=>Nat.le_trans (length_hset H b p c).1 (hwr_len ws _)
theorem hwr_either: ∀(ws:Ws) (H:Heap) (b o:Nat),hget (hwr H ws) b o=hget H b o∨ ∃c,(b,o,c)∈ws∧hget (hwr H ws) b o=c
 |[],_,_,_=> .inl rfl
 |(b',o',c')::ws,H,b,o=>by
  rcases hwr_either ws (hset H b' o' c') b o with h|⟨c,h1,h2⟩
  ·rw[hwr,h,hget_hset]
   by_cases e:b=b'∧o=o'
   ·rw[if_pos e];exact .inr ⟨c',by rw[e.1,e.2];simp,rfl⟩
   ·rw[if_neg e];exact .inl rfl
  ·exact .inr ⟨c,by simp [h1],h2⟩
theorem hwr_mem: ∀(ws:Ws) (H:Heap) (b o:Nat) (c0:AV),(b,o,c0)∈ws→ ∃c,(b,o,c)∈ws∧hget (hwr H ws) b o=c
 |[],_,_,_,_,h=>by cases h
 |(b',o',c')::ws,H,b,o,c0,h=>by
  rcases hwr_either ws (hset H b' o' c') b o with h1|⟨c,h1,h2⟩
  ·by_cases e:b=b'∧o=o'
   ·refine⟨c',by rw[e.1,e.2];simp,?_⟩
    rw[hwr,h1,hget_hset,if_pos e]
   ·rcases List.mem_cons.1 h with h|h
    ·cases h;exact absurd ⟨rfl,rfl⟩ e
    ·obtain⟨c,g1,g2⟩:=hwr_mem ws (hset H b' o' c') b o c0 h
     exact⟨c,by simp [g1],g2⟩
  ·exact⟨c,by simp [h1],h2⟩
def ownB:AV→List Nat
 | .own b _=>[b]
 |_=>[]
def ownBA:AV→List Nat
 | .agg cs=>cs.flatMap ownB
 |av=>ownB av
theorem ro1_spec{H:Heap}{x:AV}{b o:Nat}{c:AV}(h:(b,o,c)∈ro1 H x):o=0∧ ∃ro sz n f,hget H b 0= .blk ro sz n f∧c= .blk true sz n f:=by
 cases x<;>simp only[ro1]at h<;>try (cases h;done)
 rename_i b' k
 cases e:hget H b' 0<;>rw[e]at h<;>simp only at h<;>try (cases h;done)
 simp only[List.mem_singleton,Prod.mk.injEq]at h
 obtain⟨rfl,rfl,rfl⟩:=h
 exact⟨rfl,_,_,_,_,e,rfl⟩
theorem roAs_spec{H:Heap}{l:List AV}{b o:Nat}{c:AV}(h:(b,o,c)∈roAs H l):o=0∧ ∃ro sz n f,hget H b 0= .blk ro sz n f∧c= .blk true sz n f:=by
 obtain⟨x,_,h⟩:=List.mem_flatMap.1 h
 cases x
 case agg cs=>
  obtain⟨y,_,h⟩:=List.mem_flatMap.1 h
  exact ro1_spec h
 all_goals
  simp only[roA]at h
  exact ro1_spec h
theorem ro1_has{H:Heap}{x:AV}{b:Nat}(h:b∈ownB x){ro sz n f}(hb:hget H b 0= .blk ro sz n f):(b,0,.blk true sz n f)∈ro1 H x:=by
 cases x<;>simp only[ownB]at h<;>try (cases h;done)
 simp only[List.mem_singleton]at h
 subst h
 simp [ro1,hb]
theorem roAs_has{H:Heap}{l:List AV}{b:Nat}(h:b∈l.flatMap ownBA){ro sz n f}(hb:hget H b 0= .blk ro sz n f):(b,0,.blk true sz n f)∈roAs H l:=by
 obtain⟨x,hx,h⟩:=List.mem_flatMap.1 h
 refine List.mem_flatMap.2 ⟨x,hx,?_⟩
 cases x
 case agg cs=>
  obtain⟨y,hy,h⟩:=List.mem_flatMap.1 h
  exact List.mem_flatMap.2 ⟨y,hy,ro1_has h hb⟩
 all_goals
  simp only[ownBA]at h
  simp only[roA]
  exact ro1_has h hb
theorem roAs_get{H:Heap}(l:List AV)(b o:Nat):hget (hwr H (roAs H l)) b o=hget H b o∨(o=0∧ ∃ro sz n f,hget H b 0= .blk ro sz n f∧hget (hwr H (roAs H l)) b 0= .blk true sz n f):=by
 rcases hwr_either (roAs H l) H b o with h|⟨c,h1,h2⟩
 ·exact .inl h
 ·obtain⟨rfl,ro,sz,n,f,h3,h4⟩:=roAs_spec h1
  exact .inr ⟨rfl,ro,sz,n,f,h3,by rw[h2,h4]⟩
theorem roAs_own{H:Heap}{l:List AV}{b:Nat}(h:b∈l.flatMap ownBA){ro sz n f}(hb:hget H b 0= .blk ro sz n f):hget (hwr H (roAs H l)) b 0= .blk true sz n f:=by
 obtain⟨c,h1,h2⟩:=hwr_mem (roAs H l) H b 0 _ (roAs_has h hb)
 obtain⟨_,ro',sz',n',f',h3,h4⟩:=roAs_spec h1
 rw[hb]at h3;cases h3
 rw[h2,h4]
theorem frz1R{H:Heap}(h:Sim S ι st a w){x:AV}{v:Value}(hH: ∀b∈ownB x,∀ro sz n f,hget H b 0= .blk ro sz n f→hget st.hp b 0= .blk true sz n f)(hx:CR S ι st.hp w x v){K:AV→Prop}(hk:frz1 H x K): ∃y,K y∧FRel w (FZ S ι st.hp w) y v:=by
 have triv:chk (frzOk1 x) (K x)→ ∃y,K y∧FRel w (FZ S ι st.hp w) y v:=fun hc=>(fun⟨h1,h2⟩=>⟨x,h2,CRel.frz hx h1⟩) (chk_iff.1 hc)
 cases x
 case own b k=>
  simp only[frz1]at hk
  cases e:hget H b 0<;>rw[e]at hk<;>simp only at hk
  exact⟨_,hk.2,own_frz h (hH b (by simp [ownB]) _ _ _ _ e) hk.1 hx⟩
 case lit b=>
  have hx':FRel w (FZ S ι st.hp w) (.lit b) v:=hx
  cases hx'
  exact⟨_,hk,.bool b⟩
 all_goals exact triv hk
theorem frzLR{H:Heap}(h:Sim S ι st a w): ∀(cs:List AV) (vs:List Value) (K:List AV→Prop),(∀b∈cs.flatMap ownB,∀ro sz n f,hget H b 0= .blk ro sz n f→hget st.hp b 0= .blk true sz n f)→All2 (CR S ι st.hp w) cs vs→frzL H cs K→ ∃ys,K ys∧All2 (FRel w (FZ S ι st.hp w)) ys vs
 |[],[],K,_,_,hk=>⟨[],hk,trivial⟩
 |[],_::_,_,_,hr,_=>hr.elim
 |_::_,[],_,_,hr,_=>hr.elim
 |c::cs,v::vs,K,hH,hr,hk=>by
  obtain⟨y,hk,h1⟩:=frz1R h (fun b hb=>hH b (by simp [hb])) hr.1 hk
  obtain⟨ys,hk,h2⟩:=frzLR h cs vs _ (fun b hb=>hH b (by simp only[List.flatMap_cons,List.mem_append];exact .inr hb)) hr.2 hk
  exact⟨y::ys,hk,h1,h2⟩
theorem frzAR{H:Heap}(h:Sim S ι st a w){x:AV}{v:Value}(hH: ∀b∈ownBA x,∀ro sz n f,hget H b 0= .blk ro sz n f→hget st.hp b 0= .blk true sz n f)(hx:VR S ι st.hp w x v){K:AV→Prop}(hk:frzA H x K): ∃y,K y∧ARel w (FZ S ι st.hp w) y v:=by
 have lift: ∀y,FRel w (FZ S ι st.hp w) y v→ARel w (FZ S ι st.hp w) y v:=fun y hy=>by cases hy<;>first|exact .int _ _|exact .bool _|exact .str _ (by assumption)|exact .nils|exact .nil _ _|exact .mt _ _ _ _|(constructor<;>assumption)
 cases x
 case agg cs=>
  obtain⟨vs,rfl,hr⟩:=hx
  obtain⟨ys,h1,h2⟩:=frzLR h cs vs _ hH hr hk
  exact⟨.agg ys,h1,vs,rfl,h2⟩
 case undef=>exact hk.elim
 case gone=>exact hk.elim
 case tup=>exact hk.elim
 case blk=>exact hk.elim
 all_goals
  simp only[VR,VRel,VRel1]at hx
  simp only[ownBA]at hH
  obtain⟨y,h1,h2⟩:=frz1R h hH hx hk
  exact⟨y,h1,lift y h2⟩
theorem frzAsR{H:Heap}(h:Sim S ι st a w): ∀(xs:List AV) (vs:List Value) (K:List AV→Prop),(∀b∈xs.flatMap ownBA,∀ro sz n f,hget H b 0= .blk ro sz n f→hget st.hp b 0= .blk true sz n f)→All2 (VR S ι st.hp w) xs vs→frzAs H xs K→ ∃ys,K ys∧All2 (ARel w (FZ S ι st.hp w)) ys vs
 |[],[],K,_,_,hk=>⟨[],hk,trivial⟩
 |[],_::_,_,_,hr,_=>hr.elim
 |_::_,[],_,_,hr,_=>hr.elim
 |c::cs,v::vs,K,hH,hr,hk=>by
  obtain⟨y,hk,h1⟩:=frzAR h (fun b hb=>hH b (by simp [hb])) hr.1 hk
  obtain⟨ys,hk,h2⟩:=frzAsR h cs vs _ (fun b hb=>hH b (by simp only[List.flatMap_cons,List.mem_append];exact .inr hb)) hr.2 hk
  exact⟨y::ys,hk,h1,h2⟩
theorem scalT_RRel{n0:Nat}{F:Nat→Prop}{r:AV}{v:Value}(hs:scalT r=true)(h:RRel n0 w F r v):TRel w F r v:=by
 cases r<;>first|exact h|(cases hs;done)
theorem resA_sound{ws:Ws}(h:Sim S ι ⟨st.tm,hwr st.hp ws⟩ a w){w':World}(hb:Below w.heap.size w w'){F:Nat→Prop}{r:AV}{v:Value}(hr:RRel w.heap.size w' F r v)
  (hF: ∀y,F y→FZ S ι (hwr st.hp ws) w y∨(w.heap.size≤y∧y<w'.heap.size)) {nb:Nat} (hn: ∀o,hget (hwr st.hp ws) nb o= .undef) (hι:ι nb=none) {K:AV→Ws→Prop} (hk:resA nb r ws K):
  ∃ι' av ws',K av ws'∧Sim S ι' ⟨st.tm,hwr st.hp ws'⟩ a w'∧VR S ι' (hwr st.hp ws') w' av v∧ ∀b,ι' b≠none→ι b≠none∨ ∃p c,(b,p,c)∈ws':=by
 have quiet:TRel w' F r v→K r ws→ ∃ι' av ws',K av ws'∧Sim S ι' ⟨st.tm,hwr st.hp ws'⟩ a w'∧VR S ι' (hwr st.hp ws') w' av v∧ ∀b,ι' b≠none→ι b≠none∨ ∃p c,(b,p,c)∈ws':=fun ht hK=>by
  obtain⟨h1,h2⟩:=h.world hb
  refine⟨ι,r,ws,hK,h1,VRel.of_TRel (TRel.mono (fun y hy=> ?_) (fun _ _ _=>rfl) ht),fun b hb=> .inl hb⟩
  rcases hF y hy with hy|⟨hy1,hy2⟩
  ·exact h2.fz y hy
  ·exact⟨.inr (Nat.le_trans h.below.size hy1),hy2,fun b _ e=>by have:=(h.fresh b y e).2;omega⟩
 cases r
 case blk ro sz n f=>
  simp only[resA]at hk
  rcases hr with⟨rfl,rfl⟩|⟨x,c,C,T,hx1,hx2,rfl,hcap,hbig,hC,hCs,hv⟩
  ·obtain⟨h1,_⟩:=h.world hb
   obtain⟨h3,_,h4⟩:=h1.nilOwn hn hι sz f
   refine⟨ι,.own nb 0,ws++[(nb,0,.blk false sz 0 f)],hk,?_,?_,fun b hb=> .inl hb⟩
   ·rw[hwr_append,hwr_one];exact h3
   ·rw[hwr_append,hwr_one];exact h4 (FZ S ι (hset (hwr st.hp ws) nb 0 (.blk false sz 0 f)) w')
  ·obtain⟨h1,h2⟩:=h.putBlk hb (b:=nb) hx1 hx2 hbig hcap hC hCs (F':=fun y=>F y∧y≠x) (fun y hy=>(hF y hy.1).imp id fun g=>⟨g.1,g.2,hy.2⟩) hv (.inl ⟨hn,hι⟩)
   refine⟨upd ι nb x,.own nb n,ws++[(nb,0,.blk false sz n f)],hk,?_,?_,fun b hb=>(upd_some _ _ _ b hb).imp id fun e=>⟨0,.blk false sz n f,by subst e;simp⟩⟩
   ·rw[hwr_append,hwr_one];exact h1
   ·rw[hwr_append,hwr_one];exact h2
 all_goals exact quiet hr hk
theorem fn_eval(h:Sim S ι st a w){x:Operand}{f:FuncId}{caps:List AV}(hx:evalA st.tm x= .fn f caps)(hc:caps.all capOk=true): ∃vs:List Value,a.eval x= .func (.func f) #[] vs.toArray∧All2 (VR S ι st.hp w) caps vs:=by
 have:=h.eval x
 rw[hx]at this
 obtain⟨vs,h1,h2⟩:=(show CR S ι st.hp w (.fn f caps) _ from this)
 refine⟨vs,h1,All2.mk h2.length fun i p q hp hq=> ?_⟩
 obtain⟨q',hq',hr⟩:=h2.get i p hp
 rw[hq]at hq';cases hq'
 have h7:=List.all_eq_true.1 hc p (List.mem_of_getElem? hp)
 cases p<;>first|(cases h7;done)|exact hr
theorem call_sound(hE:E.Ok){o:Oper}{c:Go.Call}{x0:Operand}{f:FuncId}{caps:List AV}(ho:o.op= .call c)(hc:c.callee= .value x0)(hx0:evalA st.tm x0= .fn f caps)(hcaps:caps.all capOk=true)(h:Sim S ι st a w){nb:Nat}(hnb: ∀o,hget st.hp nb o= .undef)(hιn:ι nb=none)
  {K:AV→Ws→Prop} (hk:callA E st.hp nb f (c.args.toList.map (evalA st.tm)++caps) K) {next:Act→World→Prop} {Q:Exit→Act→World→Prop}
  (hnext: ∀ι' av ws v w',K av ws→Sim S ι' ⟨st.tm,hwr st.hp ws⟩ a w'→VR S ι' (hwr st.hp ws) w' av v→(∀b,ι' b≠none→ι b≠none∨ ∃p c,(b,p,c)∈ws)→next (a.put o.dst v) w'):o.wp E.P a w next Q:=by
 obtain⟨cv,hfv,hcv⟩:=fn_eval h hx0 hcaps
 have hargs0:All2 (VR S ι st.hp w) ((c.args.toList.map (evalA st.tm)).map normA) (c.args.toList.map a.eval):=by
  refine All2.mk (by simp) fun i x y hx hy=> ?_
  simp only[List.getElem?_map,Option.map_eq_some_iff]at hx hy
  obtain⟨x1,⟨o1,e1,rfl⟩,rfl⟩:=hx
  obtain⟨o2,e2,rfl⟩:=hy
  rw[e1]at e2;cases e2
  exact normA_rel (h.eval o1)
 have hargs:All2 (VR S ι st.hp w) ((c.args.toList.map (evalA st.tm)++caps).map normA) (c.args.toList.map a.eval++cv):=by
  rw[List.map_append]
  refine All2.append hargs0 (All2.mk (by simpa using hcv.length) fun i x y hx hy=> ?_)
  simp only[List.getElem?_map,Option.map_eq_some_iff]at hx
  obtain⟨x1,e1,rfl⟩:=hx
  obtain⟨y',hy',hr⟩:=hcv.get i x1 e1
  rw[hy]at hy';cases hy'
  exact normA_rel hr
 unfold callA at hk
 generalize (c.args.toList.map (evalA st.tm)++caps).map normA=as at hk hargs
 have go: ∀(F:Nat→Prop) (args':List AV) (r:AV) (pre:Option Prop),E.spec f args'=some (pre,r)→preP pre True→FOk w F→All2 (ARel w F) args' (c.args.toList.map a.eval++cv)→
   (∀w' v,Below w.heap.size w w'→RRel w.heap.size w' (fun x=>F x∨(w.heap.size≤x∧x<w'.heap.size)) r v→next (a.put o.dst v) w')→o.wp E.P a w next Q:=fun F args' r pre hs hp hF ha hn=>by
  obtain⟨⟨fn,cd,hfn,hbody,hname⟩,hpure⟩:=hE.spec f args' pre r hs
  have hcall:=hpure hp w F _ hF ha
  have hrun:(execOp a.eval o).run E.P w= .ok (.enter f (c.args.toList.map a.eval++cv).toArray) w:=by
   have hnm:fn.name≠ "runtime.NumGoroutine" :=by simpa using hname
   have harr:(c.args.toList.map a.eval++cv).toArray=c.args.map a.eval++cv.toArray:=by apply Array.ext';simp
   rw[harr]
   simp [execOp,ho,resolve,hc,hfv,Deferred.ofValue,invoke,callFunc,hfn,hbody,hnm]
  unfold Oper.wp
  rw[hrun]
  refine hcall.mono fun e w' ⟨v,he,hv,hb⟩=> ?_
  subst he
  exact hn w' v hb hv
 by_cases hfz:as.all frzOk=true
 ·have hk:=frzAs_id hfz hk
  cases hs:E.spec f as with
  |none=>rw[hs]at hk;exact hk.elim
  |some q=>
   obtain⟨pre,r⟩:=q
   rw[hs]at hk
   obtain⟨hp,hK⟩:=preP_iff.1 hk
   have hw:roWs st.hp r as=[]:=by simp [roWs,hfz]
   rw[hw]at hK
   refine go (FZ S ι st.hp w) _ r pre hs hp h.fok (All2.mk hargs.length fun i x y hx hy=> ?_) fun w' v hb hv=> ?_
   ·obtain⟨y',hy',hr⟩:=hargs.get i x hx
    rw[hy]at hy';cases hy'
    exact hr.frz (List.all_eq_true.1 hfz _ (List.mem_of_getElem? hx))
   ·obtain⟨ι',av,ws',g1,g2,g3,g4⟩:=resA_sound (st:=st) (ws:=[]) h hb hv (fun y hy=>hy) hnb hιn hK
    exact hnext ι' av ws' v w' g1 g2 g3 g4
 ·obtain⟨args0,hk0,ha0⟩:=frzAs_sound h _ _ _ hargs hk
  cases hs:E.spec f args0 with
  |none=>rw[hs]at hk0;exact hk0.elim
  |some q=>
   obtain⟨pre,r⟩:=q
   rw[hs]at hk0
   obtain⟨hp,hK⟩:=preP_iff.1 hk0
   by_cases hsr:scalT r=true
   ·have hw:roWs st.hp r as=[]:=by simp [roWs,hsr]
    rw[hw]at hK
    refine go (FEnd S w) args0 r pre hs hp ⟨fun x hx=>hx.elim (fun h'=>Nat.lt_of_lt_of_le (S.lt x h') h.below.size) fun h'=>h'.2,fun g=>(h.gl g).imp id fun k=>k.mono (fun x hx=>hx.1.elim .inl fun h'=> .inr ⟨h',hx.2.1⟩) fun _ _ _=>rfl⟩ ha0 fun w' v hb hv=> ?_
    obtain⟨h1,h2⟩:=h.world hb
    have hK':K r []:=by cases r<;>first|exact hK|(cases hsr;done)
    exact hnext ι r [] v w' hK' h1 (VRel.of_TRel (scalT_rel hsr (scalT_RRel hsr hv))) fun b hb=> .inl hb
   ·
    obtain⟨h1,hst⟩:=h.freeze (H':=hwr st.hp (roAs st.hp as)) (roAs_get as) (hwr_len _ _)
    have hargs':All2 (VR S ι (hwr st.hp (roAs st.hp as)) w) as (c.args.toList.map a.eval++cv):=hargs.imp fun _ _ hv=>hv.step hst
    obtain⟨args1,hk1,ha1⟩:=frzAsR (H:=st.hp) h1 as _ _ (fun b hb ro sz n f he=>roAs_own hb he) hargs' hk
    cases hs1:E.spec f args1 with
    |none=>rw[hs1]at hk1;exact hk1.elim
    |some q1=>
     obtain⟨pre1,r1⟩:=q1
     rw[hs1]at hk1
     obtain⟨hp1,hK1⟩:=preP_iff.1 hk1
     by_cases hsr1:scalT r1=true
     ·have hw:roWs st.hp r1 as=[]:=by simp [roWs,hsr1]
      rw[hw]at hK1
      refine go (FZ S ι (hwr st.hp (roAs st.hp as)) w) args1 r1 pre1 hs1 hp1 h1.fok ha1 fun w' v hb hv=> ?_
      obtain⟨h3,h4⟩:=h.world hb
      have hK':K r1 []:=by cases r1<;>first|exact hK1|(cases hsr1;done)
      exact hnext ι r1 [] v w' hK' h3 (VRel.of_TRel (scalT_rel hsr1 (scalT_RRel hsr1 hv))) fun b hb=> .inl hb
     ·have hw:roWs st.hp r1 as=roAs st.hp as:=by
       have e1:scalT r1=false:=by simpa using hsr1
       have e2:as.all frzOk=false:=by simpa using hfz
       simp only[roWs,e1,e2,Bool.or_self]
      rw[hw]at hK1
      refine go (FZ S ι (hwr st.hp (roAs st.hp as)) w) args1 r1 pre1 hs1 hp1 h1.fok ha1 fun w' v hb hv=> ?_
      have hn': ∀o,hget (hwr st.hp (roAs st.hp as)) nb o= .undef:=fun o=>by
       rcases roAs_get (H:=st.hp) as nb o with g|⟨_,ro,sz,n,f,g,_⟩
       ·rw[g];exact hnb o
       ·rw[hnb 0]at g;cases g
      obtain⟨ι',av,ws',g1,g2,g3,g4⟩:=resA_sound (st:=st) (ws:=roAs st.hp as) h1 hb hv (fun y hy=>hy) hn' hιn hK1
      exact hnext ι' av ws' v w' g1 g2 g3 g4
end
end Go.Vc
namespace Go.Vc
open Go Go.RowKit
section
variable {E:Env} {S:Base} {ι:Nat→Option Nat} {st:St} {a:Act} {w:World}
theorem one_cell{v:Value}(h:one v=true):v.oneCell'=true:=by cases v<;>first|rfl|(cases h;done)
def flatV(sz n:Nat)(u:Nat→Nat→Value):List Value:=(List.range (n*sz)).map fun k=>u (k/sz) (k%sz)
theorem flatV_len(sz n:Nat)(u:Nat→Nat→Value):(flatV sz n u).length=n*sz:=by simp [flatV]
theorem flatV_get{sz n:Nat}{u:Nat→Nat→Value}{i j:Nat}(hi:i<n)(hj:j<sz):(flatV sz n u)[i*sz+j]? =some (u i j):=by
 have hlt:i*sz+j<n*sz:=by
  have:(i+1)*sz≤n*sz:=Nat.mul_le_mul_right sz hi
  rw[Nat.succ_mul]at this;omega
 have h1:(i*sz+j)/sz=i:=by
  rw[Nat.mul_comm,Nat.mul_add_div (by omega),Nat.div_eq_of_lt hj];omega
 have h2:(i*sz+j)%sz=j:=by
  rw[Nat.mul_comm,Nat.mul_add_mod,Nat.mod_eq_of_lt hj]
 simp [flatV,List.getElem?_range hlt,h1,h2]
theorem flatV_at{sz n:Nat}{u:Nat→Nat→Value}{k:Nat}{v:Value}(h:(flatV sz n u)[k]? =some v): ∃i j,i<n∧j<sz∧k=i*sz+j∧v=u i j:=by
 have hk:k<n*sz:=by
  have:=(List.getElem?_eq_some_iff.1 h).1
  simpa[flatV]using this
 have hsz:0<sz:=by
  rcases Nat.eq_zero_or_pos sz with e|e
  ·subst e;omega
  ·exact e
 have h1:k/sz<n:=(Nat.div_lt_iff_lt_mul hsz).2 hk
 have h2:k%sz<sz:=Nat.mod_lt _ hsz
 have h3:k=k/sz*sz+k%sz:=by rw[Nat.mul_comm];exact(Nat.div_add_mod k sz).symm
 have h4:=flatV_get (u:=u) h1 h2
 rw[←h3,h]at h4
 cases h4
 exact⟨_,_,h1,h2,h3,rfl⟩
theorem src_sound{T2:TypeId}{str:Bool}(h:Sim S ι st a w)(hT2:if str then E.P.underlying T2=some .string else∃e,E.P.underlying T2=some (.slice e)){esz:Nat}{y:AV}{v:Value}(hy:VR S ι st.hp w y v){K:Nat→(Nat→List AV)→Prop}(hk:srcA st.hp str esz y K):
  ∃m g news,K m g∧m≤BIG∧Src E.P esz T2 v m news w∧ ∀i j,i<m→j<esz→ ∃av u,(g i)[j]? =some av∧news[i*esz+j]? =some u∧FRel w (FZ S ι st.hp w) av u:=by
 have fin: ∀(sz m:Nat) (g:Nat→List AV) (x p c:Nat) (u:Nat→Nat→Value) (q:Nat→Nat→AV),str=false→sz=esz→v= .slice (some ⟨x,p,none⟩) m c→m≤BIG→K m g→(∀i j,i<m→j<sz→(g i)[j]? =some (q i j))→(∀i j,i<m→j<sz→w.cell? ⟨x,p+(i*sz+j),none⟩=some (u i j))→
   (∀i j,i<m→j<sz→FRel w (FZ S ι st.hp w) (q i j) (u i j))→ ∃m g news,K m g∧m≤BIG∧Src E.P esz T2 v m news w∧ ∀i j,i<m→j<esz→ ∃av u,(g i)[j]? =some av∧news[i*esz+j]? =some u∧FRel w (FZ S ι st.hp w) av u:=by
  intro sz m g x p c u q hs hsz hv hm hK h1 h2 h3
  subst hsz
  subst hv
  rw[hs]at hT2
  obtain⟨e,he⟩:=hT2
  refine⟨m,g,flatV sz m u,hK,hm,Src.ofSlice w he _ m c _ (flatV_len _ _ _) (fun j v hj=> ?_) (fun v hv=> ?_),fun i j hi hj=>⟨_,_,h1 i j hi hj,flatV_get hi hj,h3 i j hi hj⟩⟩
  ·obtain⟨i,j',hi,hj',e1,e2⟩:=flatV_at hj
   rw[Addr.add_lit,e1,e2]
   exact h2 i j' hi hj'
  ·obtain⟨k,hk⟩:=List.getElem?_of_mem hv
   obtain⟨i,j',hi,hj',e1,e2⟩:=flatV_at hk
   rw[e2]
   exact one_cell (h3 i j' hi hj').one
 have none:str=false→K 0 (fun _=>[])→(∃c,v= .slice Option.none 0 c)→ ∃m g news,K m g∧m≤BIG∧Src E.P esz T2 v m news w∧ ∀i j,i<m→j<esz→ ∃av u,(g i)[j]? =some av∧news[i*esz+j]? =some u∧FRel w (FZ S ι st.hp w) av u:=by
  rintro hs hK ⟨c,rfl⟩
  rw[hs]at hT2
  obtain⟨e,he⟩:=hT2
  exact⟨0,_,[],hK,Nat.zero_le _,Src.ofNil w he c,fun i j hi=>by omega⟩
 have empty: ∀(g:Nat→List AV),str=false→K 0 g→(∃a c,v= .slice a 0 c)→ ∃m g news,K m g∧m≤BIG∧Src E.P esz T2 v m news w∧ ∀i j,i<m→j<esz→ ∃av u,(g i)[j]? =some av∧news[i*esz+j]? =some u∧FRel w (FZ S ι st.hp w) av u:=by
  rintro g hs hK ⟨a',c,rfl⟩
  rw[hs]at hT2
  obtain⟨e,he⟩:=hT2
  refine⟨0,g,[],hK,Nat.zero_le _,?_,fun i j hi=>by omega⟩
  cases a' with
  |none=>exact Src.ofNil w he c
  |some a'=>exact Src.ofSlice w he a' 0 c [] (by simp) (fun j u hj=>by simp at hj) (fun u hu=>by cases hu)
 cases y<;>simp only[srcA]at hk<;>try exact hk.elim
 case nils=>
  obtain⟨h1,hK⟩:=chk_iff.1 hk
  have hy':FRel w (FZ S ι st.hp w) .nils v:=hy
  cases hy'
  exact none (by simpa using h1) hK ⟨0,rfl⟩
 case str s=>
  obtain⟨h1,hK⟩:=chk_iff.1 hk
  simp only[Bool.and_eq_true,decide_eq_true_eq]at h1
  obtain⟨h1,rfl⟩:=h1
  subst h1
  have hT2:E.P.underlying T2=some .string:=hT2
  have hb:=VR.strBig hy
  have hv:=VR.str hy
  subst hv
  refine⟨s.size,bytesF s,byteCells s,hK,hb,Src.ofString w hT2 s,fun i j hi hj=> ?_⟩
  have hj0:j=0:=by omega
  subst hj0
  have hi':i<s.data.toList.length:=by simpa using hi
  refine⟨_,.int .u8 ((s.data.toList.getD i 0).toNat:Int),rfl,?_,.int _ _⟩
  simp only[byteCells,Nat.mul_one,Nat.add_zero,List.getElem?_map,List.getElem?_eq_getElem hi',Option.map_some,List.getD,Option.getD_some]
 case arr sz n f=>
  obtain⟨h1,hK⟩:=chk_iff.1 hk
  simp only[Bool.and_eq_true,Bool.not_eq_true',decide_eq_true_eq]at h1
  obtain⟨h1,rfl⟩:=h1
  have hy':FRel w (FZ S ι st.hp w) (.arr sz n f) v:=hy
  cases hy' with
  |nil=>exact empty _ h1 hK ⟨_,_,rfl⟩
  |mt=>exact empty _ h1 hK ⟨_,_,rfl⟩
  |arr _ _ _ b p c g u hn hbg hF g1 g2 g3=>exact fin sz n f b p c u g h1 rfl rfl hbg hK g1 (fun i j hi hj=>by rw[←Nat.add_assoc];exact g2 i j hi hj) g3
 case own b k=>
  cases e:hget st.hp b 0<;>rw[e]at hk<;>simp only at hk
  rename_i ro sz n f
  obtain⟨h1,rfl,hK⟩:=chk_iff.1 hk
  simp only[Bool.and_eq_true,Bool.not_eq_true',decide_eq_true_eq]at h1
  obtain⟨h1,rfl⟩:=h1
  obtain⟨_,ro',sz',n',f',e2,_,h3⟩:=(show CR S ι st.hp w (.own b k) v from hy)
  rw[e]at e2;cases e2
  rcases h3 rfl with⟨q,c,C,T',hq,hv,hnc,hC,hCs⟩|⟨rfl,_,hv⟩
  ·have hl:=h.hp b 0
   rw[e]at hl
   obtain⟨_,hd|⟨hbig,hl|⟨q',C',T2',hq',hC',hcells⟩⟩⟩:=hl
   ·rw[hq]at hd;cases hd.2.2
   ·rw[hq]at hl;cases hl.2
   ·rw[hq]at hq';cases hq'
    rw[hC]at hC';cases hC'
    refine fin sz k f q 0 c (fun i j=>(C[i*sz+j]?).getD undef) (fun i j=>((f i)[j]?).getD .undef) h1 rfl hv hbig hK (fun i j hi hj=> ?_) (fun i j hi hj=> ?_) (fun i j hi hj=> ?_)
    ·obtain⟨av,u,g1,g2,g3⟩:=hcells i j hi hj
     rw[g1];rfl
    ·obtain⟨av,u,g1,g2,g3⟩:=hcells i j hi hj
     rw[cell_of_row w q _ C T' (0,0) hC,Nat.zero_add,g2];rfl
    ·obtain⟨av,u,g1,g2,g3⟩:=hcells i j hi hj
     simp only[g1,g2,Option.getD_some];exact g3
  ·exact empty _ h1 hK ⟨_,_,hv⟩
theorem append_own(h:Sim S ι st a w){T T2 ty e:TypeId}{i:TypeInfo}{z:Value}(hT:E.P.underlying T=some (.slice e))(hi:E.P.info? e=some i)(hz:i.zero=some z)(hby:i.bytes≤256)(hzs:z.cells.size=i.size)
  {b k n m:Nat} {f g hh:Nat→List AV} (hh': ∀i,i<n+m→appF n f g i=hh i) {v x:Value} {news:List Value} (hblk:hget st.hp b 0= .blk false i.size n f) (hkn:k=n) (hv:CR S ι st.hp w (.own b k) v) (hbig:n+m≤BIG) (hs:Src E.P i.size T2 x m news w)
  (hnews: ∀i' j,i'<m→j<i.size→ ∃av u,(g i')[j]? =some av∧news[i'*i.size+j]? =some u∧FRel w (FZ S ι st.hp w) av u):
  ∃ι' w' u,(Builtin.append_ #[T,T2] ty #[v,x]).run E.P w= .ok u w'∧(∀b',ι' b'≠none→ι b'≠none∨b'=b)∧Sim S ι' ⟨st.tm,hset st.hp b 0 (.blk false i.size (n+m) hh)⟩ a w'∧
   CR S ι' (hset st.hp b 0 (.blk false i.size (n+m) hh)) w' (.own b (n+m)) u:=by
 obtain⟨_,ro',sz',n',f',e2,_,h3⟩:=hv
 rw[hblk]at e2;cases e2
 have hB:BIG=549755813888:=rfl
 have hbytes:(n+m)*i.bytes≤140737488355328:=Nat.le_trans (Nat.mul_le_mul (by omega:n+m≤549755813888) hby) (by decide)
 have hl:=h.hp b 0
 rw[hblk]at hl
 have grow: ∀(base:Option Addr) (c:Nat) (olds:List Value),(Builtin.firstCells i.size n (.slice base n c)).run E.P w.drew= .ok olds.toArray w.drew→olds.length=n*i.size→(∀i' j,i'<n→j<i.size→ ∃av u,(f i')[j]? =some av∧olds[i'*i.size+j]? =some u∧FRel w (FZ S ι st.hp w) av u)→
   c<n+m→v= .slice base n c→n<n+m→ ∃ι' w' u,(Builtin.append_ #[T,T2] ty #[v,x]).run E.P w= .ok u w'∧(∀b',ι' b'≠none→ι b'≠none∨b'=b)∧Sim S ι' ⟨st.tm,hset st.hp b 0 (.blk false i.size (n+m) hh)⟩ a w'∧
   CR S ι' (hset st.hp b 0 (.blk false i.size (n+m) hh)) w' (.own b (n+m)) u:=by
  intro base c olds hold hol hov hc hve hlt
  have hrun:=run_append_grow_src (P:=E.P) w T T2 ty e i z hT hi hz base n c olds hold x m news hs hc (by omega) (growslice_fits hc hbytes)
  have hge:=grownCap_ge w (n+m) c e
  generalize grownCap w (n+m) c e=cap at hrun hge
  have hbel:Below w.heap.size w (w.drew.alloc (.cells ((olds++news).toArray++Builtin.zeroCells z.cells (cap- (n+m))) e)):=(Below.drew (Below.refl _ w)).alloc (Nat.le_refl _) _
  have hcont: ∀i' j,i'<n+m→j<i.size→ ∃av u,(hh i')[j]? =some av∧((olds++news).toArray++Builtin.zeroCells z.cells (cap- (n+m)))[i'*i.size+j]? =some u∧FRel (w.drew.alloc (.cells ((olds++news).toArray++Builtin.zeroCells z.cells (cap- (n+m))) e)) (FZ S ι st.hp w) av u:=fun i' j hi' hj=>by
   have hmono: ∀{av:AV} {u:Value},FRel w (FZ S ι st.hp w) av u→FRel (w.drew.alloc (.cells ((olds++news).toArray++Builtin.zeroCells z.cells (cap- (n+m))) e)) (FZ S ι st.hp w) av u:=fun hr=>hr.mono (fun _ h=>h) fun y o hy=>hbel.cell hy.2.1
   have hmul:(n+m)*i.size=n*i.size+m*i.size:=Nat.add_mul _ _ _
   by_cases hin:i'<n
   ·obtain⟨av,u,k1,k2,k3⟩:=hov i' j hin hj
    have hlt':i'*i.size+j<n*i.size:=by
     have:(i'+1)*i.size≤n*i.size:=Nat.mul_le_mul_right _ hin
     rw[Nat.succ_mul]at this;omega
    refine⟨av,u,?_,?_,hmono k3⟩
    ·have:Nat.blt i' n=true:=by simpa[Nat.blt_eq]using hin
     rw[←hh' i' hi'];simp only[appF,this,cond_true];exact k1
    ·rw[Array.getElem?_append_left (by simp [hol,hs.newsLen];omega)]
     simp only[List.getElem?_toArray]
     rw[List.getElem?_append_left (by omega)];exact k2
   ·obtain⟨av,u,k1,k2,k3⟩:=hnews (i'-n) j (by omega) hj
    have hsub:(i'-n)*i.size=i'*i.size-n*i.size:=Nat.sub_mul _ _ _
    have hgei:n*i.size≤i'*i.size:=Nat.mul_le_mul_right _ (by omega)
    have hlt':i'*i.size+j<(n+m)*i.size:=by
     have:(i'+1)*i.size≤(n+m)*i.size:=Nat.mul_le_mul_right _ hi'
     rw[Nat.succ_mul]at this;omega
    refine⟨av,u,?_,?_,hmono k3⟩
    ·have:Nat.blt i' n=false:=by
      cases e:Nat.blt i' n with
      |false=>rfl
      |true=>exact absurd (Nat.le_of_ble_eq_true e) (by omega)
     rw[←hh' i' hi'];simp only[appF,this,cond_false];exact k1
    ·rw[Array.getElem?_append_left (by simp [hol,hs.newsLen];omega)]
     simp only[List.getElem?_toArray]
     rw[List.getElem?_append_right (by omega),hol]
     rw[hsub]at k2
     rw[show i'*i.size+j-n*i.size=i'*i.size-n*i.size+j by omega];exact k2
  obtain⟨h1,h2⟩:=h.putBlk hbel (b:=b) (x:=w.heap.size) (Nat.le_refl _) (by simp) (f:=hh) (n:=n+m) (sz:=i.size) (c:=cap) hbig hge (heap_alloc_new w.drew _) (by
   simp only[Array.size_append,List.size_toArray,List.length_append,size_zeroCells,hzs,hol,hs.newsLen,←Nat.add_mul]
   congr 1;omega) (F':=FZ S ι st.hp w) (fun y hy=> .inl hy) hcont (.inr ⟨n,f,hblk,hlt⟩)
  subst hve
  exact⟨_,_,_,hrun,upd_some _ _ _,h1,h2⟩
 rcases h3 hkn with⟨q,c,C,T',hq,hve,hnc,hC,hCs⟩|⟨hn0,hιb,hve⟩
 ·obtain⟨_,hd|⟨_,hl|⟨q',C',T2',hq',hC',hcells⟩⟩⟩:=hl
  ·rw[hq]at hd;cases hd.2.2
  ·rw[hq]at hl;cases hl.2
  rw[hq]at hq';cases hq'
  rw[hC]at hC';cases hC'
  by_cases hr:n+m≤c
  ·have hmul:(n+m)*i.size≤c*i.size:=Nat.mul_le_mul_right _ hr
   have hadd:(n+m)*i.size=n*i.size+m*i.size:=Nat.add_mul _ _ _
   have hrun:=run_append_room_src (P:=E.P) w T T2 ty e i hT hi q 0 n c x m news hs hr (fun j hj=>by
    rw[cell_of_row w q _ C T' (0,0) hC,Nat.zero_add]
    rw[hs.newsLen]at hj
    rw[Array.getElem?_eq_getElem (by omega)];rfl) (fun j hj=>by
    rw[hs.newsLen]at hj
    unfold World.frozen?
    rw[hC];simp)
   rw[Nat.zero_add]at hrun
   obtain⟨h1,h2⟩:=h.roomBlk (g:=g) hh' hblk hq hC hCs hr hbig news hs.newsLen hnews
   subst hve
   exact⟨ι,_,_,hrun,fun b' hb'=> .inl hb',h1,h2⟩
  ·refine grow _ c (flatV i.size n fun i' j=>(C[i'*i.size+j]?).getD undef) ?_ (flatV_len _ _ _) (fun i' j hi' hj=> ?_) (by omega) hve (by omega)
   ·refine run_firstCells_some (P:=E.P) w.drew i.size n ⟨q,0,none⟩ n c _ (flatV_len _ _ _) fun j u hj=> ?_
    obtain⟨i',j',hi',hj',e1,e2⟩:=flatV_at hj
    rw[Addr.add_lit,e1,e2]
    obtain⟨av,u,g1,g2,g3⟩:=hcells i' j' hi' hj'
    rw[cell_of_row w.drew q _ C T' (0,0) hC,Nat.zero_add,g2];rfl
   ·obtain⟨av,u,g1,g2,g3⟩:=hcells i' j hi' hj
    exact⟨av,u,g1,by rw[flatV_get hi' hj,g2];rfl,g3⟩
 ·subst hn0
  by_cases hm:m=0
  ·subst hm
   have hnn:news=[]:=List.eq_nil_of_length_eq_zero (by rw[hs.newsLen];simp)
   have hrun:(Builtin.append_ #[T,T2] ty #[v,x]).run E.P w= .ok (.slice none 0 0) w:=by
    subst hve
    rcases hs.kind with⟨e',hk⟩|hk<;>simp [Builtin.append_,run_underlying hT,run_underlying hk,sizeOf,typeInfo,hi,hs.len,hs.cells]
   have hH: ∀b' o,hget (hset st.hp b 0 (.blk false i.size (0+0) hh)) b' o=if b'=b∧o=0 then .blk false i.size 0 hh else hget st.hp b' o:=fun b' o=>hget_hset _ _ _ _ _ _
   have hgb:hget (hset st.hp b 0 (.blk false i.size (0+0) hh)) b 0= .blk false i.size 0 hh:=by rw[hH,if_pos ⟨rfl,rfl⟩]
   have hss:Stp ι st.hp w (FZ S ι st.hp w) ι (hset st.hp b 0 (.blk false i.size (0+0) hh)) w (FZ S ι (hset st.hp b 0 (.blk false i.size (0+0) hh)) w):=by
    refine⟨fun y ⟨h1,h2,h3⟩=>⟨h1,h2,fun b' hb' he=> ?_⟩,fun _ _ _=>rfl,fun b' z hz hk=>⟨hz,?_⟩,fun b' ro sz' n' f' hk=> ?_⟩
    ·have e:b'≠b:=fun e=>by rw[e,hιb]at he;cases he
     exact h3 b' (rwLive_congr (fun o=>by rw[hH,if_neg (fun e'=>e e'.1)]) hb') he
    ·have e:b'≠b:=fun e=>by rw[e,hblk]at hk;cases hk
     rw[hH,if_neg (fun e'=>e e'.1)];exact hk
    ·by_cases e:b'=b
     ·subst e
      rw[hblk]at hk;cases hk
      exact⟨false,_,0,_,hgb,Nat.le_refl _,fun _=>⟨rfl,rfl,fun y D T' hy hD=>by rw[hιb]at hy;cases hy⟩⟩
     ·exact⟨ro,_,n',f',by rw[hH,if_neg (fun e'=>e e'.1)];exact hk,Nat.le_refl _,fun _=>⟨rfl,rfl,fun y D T' hy hD=>⟨D,hD,rfl⟩⟩⟩
   refine⟨ι,w,_,hrun,fun b' hb'=> .inl hb',⟨h.below,h.defers,fun t av ht=> ?_,fun b' o=> ?_,h.inj,h.fresh,fun b' y hy=>Nat.lt_of_lt_of_le (h.dom _ _ hy) (length_setAt _ _ _ _).1,h.hist.trans hss⟩,?_⟩
   ·obtain⟨v,h1,h2⟩:=h.tm t av ht
    exact⟨v,h1,h2.step hss⟩
   ·show LRel _ _ _ _ _ _ (hget (hset st.hp b 0 (.blk false i.size (0+0) hh)) b' o)
    rw[hH]
    by_cases e:b'=b∧o=0
    ·rw[if_pos e]
     exact⟨e.2,.inr ⟨Nat.zero_le _,.inl ⟨rfl,by rw[e.1];exact hιb⟩⟩⟩
    ·rw[if_neg e]
     exact(h.hp b' o).step hss (fun _=>rfl) (fun _ _ _=>⟨rfl,rfl⟩) (fun _=>⟨rfl,fun _ _=>rfl⟩)
   ·exact⟨rfl,false,i.size,0,_,hgb,Nat.le_refl _,fun _=> .inr ⟨rfl,hιb,rfl⟩⟩
  ·exact grow none 0 [] (run_firstCells_none w.drew i.size 0 0 0) (by simp) (fun i' j hi'=>by omega) (by omega) hve (by omega)
theorem append_cap(h:Sim S ι st a w){T T2 ty e:TypeId}{i:TypeInfo}{z:Value}(hT:E.P.underlying T=some (.slice e))(hi:E.P.info? e=some i)(hz:i.zero=some z)(hby:i.bytes≤256)(hzs:z.cells.size=i.size)
  {nb n m:Nat} {f g hh:Nat→List AV} (hh': ∀i,i<n+m→appF n f g i=hh i) {v x:Value} {news:List Value} (hnb: ∀o,hget st.hp nb o= .undef) (hιn:ι nb=none) (hv:FRel w (FZ S ι st.hp w) (.capd i.size n f) v) (hm:0<m) (hbig:n+m≤BIG) (hs:Src E.P i.size T2 x m news w)
  (hnews: ∀i' j,i'<m→j<i.size→ ∃av u,(g i')[j]? =some av∧news[i'*i.size+j]? =some u∧FRel w (FZ S ι st.hp w) av u):
  ∃ι' w' u,(Builtin.append_ #[T,T2] ty #[v,x]).run E.P w= .ok u w'∧(∀b',ι' b'≠none→ι b'≠none∨b'=nb)∧Sim S ι' ⟨st.tm,hset st.hp nb 0 (.blk false i.size (n+m) hh)⟩ a w'∧
   CR S ι' (hset st.hp nb 0 (.blk false i.size (n+m) hh)) w' (.own nb (n+m)) u:=by
 have hB:BIG=549755813888:=rfl
 have hbytes:(n+m)*i.bytes≤140737488355328:=Nat.le_trans (Nat.mul_le_mul (by omega:n+m≤549755813888) hby) (by decide)
 have grow: ∀(base:Option Addr) (c:Nat) (olds:List Value),(Builtin.firstCells i.size n (.slice base n c)).run E.P w.drew= .ok olds.toArray w.drew→olds.length=n*i.size→(∀i' j,i'<n→j<i.size→ ∃av u,(f i')[j]? =some av∧olds[i'*i.size+j]? =some u∧FRel w (FZ S ι st.hp w) av u)→
   c<n+m→v= .slice base n c→ ∃ι' w' u,(Builtin.append_ #[T,T2] ty #[v,x]).run E.P w= .ok u w'∧(∀b',ι' b'≠none→ι b'≠none∨b'=nb)∧Sim S ι' ⟨st.tm,hset st.hp nb 0 (.blk false i.size (n+m) hh)⟩ a w'∧
   CR S ι' (hset st.hp nb 0 (.blk false i.size (n+m) hh)) w' (.own nb (n+m)) u:=by
  intro base c olds hold hol hov hc hve
  have hrun:=run_append_grow_src (P:=E.P) w T T2 ty e i z hT hi hz base n c olds hold x m news hs hc (by omega) (growslice_fits hc hbytes)
  have hge:=grownCap_ge w (n+m) c e
  generalize grownCap w (n+m) c e=cap at hrun hge
  have hbel:Below w.heap.size w (w.drew.alloc (.cells ((olds++news).toArray++Builtin.zeroCells z.cells (cap- (n+m))) e)):=(Below.drew (Below.refl _ w)).alloc (Nat.le_refl _) _
  have hcont: ∀i' j,i'<n+m→j<i.size→ ∃av u,(hh i')[j]? =some av∧((olds++news).toArray++Builtin.zeroCells z.cells (cap- (n+m)))[i'*i.size+j]? =some u∧FRel (w.drew.alloc (.cells ((olds++news).toArray++Builtin.zeroCells z.cells (cap- (n+m))) e)) (FZ S ι st.hp w) av u:=fun i' j hi' hj=>by
   have hmono: ∀{av:AV} {u:Value},FRel w (FZ S ι st.hp w) av u→FRel (w.drew.alloc (.cells ((olds++news).toArray++Builtin.zeroCells z.cells (cap- (n+m))) e)) (FZ S ι st.hp w) av u:=fun hr=>hr.mono (fun _ h=>h) fun y o hy=>hbel.cell hy.2.1
   have hmul:(n+m)*i.size=n*i.size+m*i.size:=Nat.add_mul _ _ _
   by_cases hin:i'<n
   ·obtain⟨av,u,k1,k2,k3⟩:=hov i' j hin hj
    have hlt':i'*i.size+j<n*i.size:=by
     have:(i'+1)*i.size≤n*i.size:=Nat.mul_le_mul_right _ hin
     rw[Nat.succ_mul]at this;omega
    refine⟨av,u,?_,?_,hmono k3⟩
    ·have:Nat.blt i' n=true:=by simpa[Nat.blt_eq]using hin
     rw[←hh' i' hi'];simp only[appF,this,cond_true];exact k1
    ·rw[Array.getElem?_append_left (by simp [hol,hs.newsLen];omega)]
     simp only[List.getElem?_toArray]
     rw[List.getElem?_append_left (by omega)];exact k2
   ·obtain⟨av,u,k1,k2,k3⟩:=hnews (i'-n) j (by omega) hj
    have hsub:(i'-n)*i.size=i'*i.size-n*i.size:=Nat.sub_mul _ _ _
    have hgei:n*i.size≤i'*i.size:=Nat.mul_le_mul_right _ (by omega)
    have hlt':i'*i.size+j<(n+m)*i.size:=by
     have:(i'+1)*i.size≤(n+m)*i.size:=Nat.mul_le_mul_right _ hi'
     rw[Nat.succ_mul]at this;omega
    refine⟨av,u,?_,?_,hmono k3⟩
    ·have:Nat.blt i' n=false:=by
      cases e:Nat.blt i' n with
      |false=>rfl
      |true=>exact absurd (Nat.le_of_ble_eq_true e) (by omega)
     rw[←hh' i' hi'];simp only[appF,this,cond_false];exact k1
    ·rw[Array.getElem?_append_left (by simp [hol,hs.newsLen];omega)]
     simp only[List.getElem?_toArray]
     rw[List.getElem?_append_right (by omega),hol]
     rw[hsub]at k2
     rw[show i'*i.size+j-n*i.size=i'*i.size-n*i.size+j by omega];exact k2
  obtain⟨h1,h2⟩:=h.putBlk hbel (b:=nb) (x:=w.heap.size) (Nat.le_refl _) (by simp) (f:=hh) (n:=n+m) (sz:=i.size) (c:=cap) hbig hge (heap_alloc_new w.drew _) (by
   simp only[Array.size_append,List.size_toArray,List.length_append,size_zeroCells,hzs,hol,hs.newsLen,←Nat.add_mul]
   congr 1;omega) (F':=FZ S ι st.hp w) (fun y hy=> .inl hy) hcont (.inl ⟨hnb,hιn⟩)
  subst hve
  exact⟨_,_,_,hrun,upd_some _ _ _,h1,h2⟩
 cases hv with
 |capd _ _ _ p c h0 hc=>
  subst hc
  cases h0 with
  |nil=>exact grow none 0 [] (run_firstCells_none w.drew i.size 0 0 0) (by simp) (fun i' j hi'=>by omega) (by omega) rfl
  |mt _ _ ad c=>exact grow (some ad) 0 [] (run_firstCells_some (P:=E.P) w.drew i.size 0 ad 0 0 [] (by simp) fun j u hj=>by simp at hj) (by simp) (fun i' j hi'=>by omega) (by omega) rfl
  |arr _ _ _ q o _ gg vs hn hb hF g1 g2 g3=>
   refine grow (some ⟨q,o,none⟩) _ (flatV i.size _ vs) ?_ (flatV_len _ _ _) (fun i' j hi' hj=>⟨_,_,g1 i' j hi' hj,flatV_get hi' hj,g3 i' j hi' hj⟩) (by omega) rfl
   refine run_firstCells_some (P:=E.P) w.drew i.size _ ⟨q,o,none⟩ _ _ _ (flatV_len _ _ _) fun j u hj=> ?_
   obtain⟨i',j',hi',hj',e1,e2⟩:=flatV_at hj
   rw[Addr.add_lit,e1,e2,←Nat.add_assoc]
   exact g2 i' j' hi' hj'
theorem append_sound{o:Oper}{c:Go.Call}{x y:Operand}{T T2:TypeId}{t:Ty}{str:Bool}(ho:o.op= .call c)(hc:c.callee= .builtin .append)(hargs:c.args= #[x,y])(hty:c.argTypes= #[T,T2])(hT:TyOk E.P T t)
  (hT2:if str then E.P.underlying T2=some .string else∃e,E.P.underlying T2=some (.slice e)) (h:Sim S ι st a w) {nb:Nat} (hnb: ∀o,hget st.hp nb o= .undef) (hιn:ι nb=none) {K:AV→Ws→Prop}
  (hk:appendA t str st.hp nb (evalA st.tm x) (evalA st.tm y) K) {next:Act→World→Prop} {Q:Exit→Act→World→Prop}
  (hnext: ∀ι' av ws v w',K av ws→Sim S ι' ⟨st.tm,hwr st.hp ws⟩ a w'→VR S ι' (hwr st.hp ws) w' av v→(∀b,ι' b≠none→ι b≠none∨ ∃p c,(b,p,c)∈ws)→next (a.put o.dst v) w'):o.wp E.P a w next Q:=by
 have hx:=h.eval x
 have hy:=h.eval y
 have hd:=hT.d
 unfold appendA at hk
 cases ed:t.d<;>rw[ed]at hk<;>simp only at hk<;>try exact hk.elim
 rename_i e esz eb
 rw[ed]at hd
 obtain⟨hu,i,hi1,hi2,hi3,hi4⟩:=hd
 subst hi2
 subst hi3
 obtain⟨hchk,hk⟩:=chk_iff.1 hk
 simp only[Bool.and_eq_true,Nat.blt_eq]at hchk
 have hby:i.bytes≤256:=Nat.le_of_ble_eq_true hchk.1
 obtain⟨z,hz⟩:=Option.isSome_iff_exists.1 hi4.1
 have hzs:z.cells.size=i.size:=hi4.2 z hz
 have hrun: ∀u w',(Builtin.append_ #[T,T2] o.type #[a.eval x,a.eval y]).run E.P w= .ok u w'→(execOp a.eval o).run E.P w= .ok (.value u) w':=fun u w' hv=>by
  simp [execOp,ho,resolve,hc,hargs,hty,invoke,builtin,hv]
 obtain⟨m,g,news,hk,hm,hsrc,hnews⟩:=src_sound h hT2 hy hk
 cases ex:evalA st.tm x<;>rw[ex]at hk hx<;>simp only at hk<;>try exact hk.elim
 ·have hx':FRel w (FZ S ι st.hp w) .nils (a.eval x):=hx
  have hxv:a.eval x= .slice none 0 0:=by
   generalize a.eval x=v at hx'
   cases hx';rfl
  obtain⟨h1,h2,h3⟩:=h.nilOwn hnb hιn i.size (fun _=>[])
  have hblk:hget (hset st.hp nb 0 (.blk false i.size 0 fun _=>[])) nb 0= .blk false i.size 0 (fun _=>[]):=by rw[hget_hset,if_pos ⟨rfl,rfl⟩]
  obtain⟨ι',w',u,r1,r2,r3,r4⟩:=append_own (g:=g) (hh:=appF 0 (fun _=>[]) g) (ty:=o.type) h1 hu hi1 hz hby hzs (fun _ _=>rfl) hblk rfl (h3 _) (by simpa using hk.1) (x:=a.eval y) hsrc (fun i' j hi' hj=>by
   obtain⟨av,u,k1,k2,k3⟩:=hnews i' j hi' hj
   exact⟨av,u,k1,k2,k3.mono h2.fz h2.cell⟩)
  rw[←hxv]at r1
  have hf:appF 0 (fun _=>[]) g=g:=by
   funext j
   have h0:Nat.blt j 0=false:=by cases j<;>rfl
   simp only[appF,h0,cond_false,Nat.sub_zero]
  have hH:hset (hset st.hp nb 0 (.blk false i.size 0 fun _=>[])) nb 0 (.blk false i.size (0+m) (appF 0 (fun _=>[]) g))=hset st.hp nb 0 (.blk false i.size m g):=by
   rw[hf,Nat.zero_add]
   simp only[hset]
   have: ∀{α:Type} (d:α) (l:List α) (k:Nat) (p q:α),setAt d (setAt d l k p) k q=setAt d l k q:=fun {α} d l k p q=>by
    induction l generalizing k with
    |nil=>induction k with
     |zero=>rfl
     |succ k ih=>simp [setAt,ih]
    |cons y l ih=>cases k with
     |zero=>rfl
     |succ k=>simp [setAt,ih]
   have h0:(setAt [] st.hp nb (setAt .undef (st.hp.getD nb []) 0 (.blk false i.size 0 fun _=>[]))).getD nb []=setAt .undef (st.hp.getD nb []) 0 (.blk false i.size 0 fun _=>[]):=by rw[getD_setAt,if_pos rfl]
   rw[h0,this,this]
  simp only at r3 r4
  rw[hH]at r3 r4
  rw[Nat.zero_add]at r4
  exact wp_value (hrun _ _ r1) (hnext ι' _ _ u w' hk.2 r3 r4 fun b hb=>(r2 b hb).imp id fun e=>⟨0,.blk false i.size m g,by subst e;simp⟩)
 ·rename_i b k
  cases e:hget st.hp b 0<;>rw[e]at hk<;>simp only at hk
  rename_i ro sz n f
  obtain⟨hc1,hkn,hbig,hh,hh',hK⟩:=chk_iff.1 hk
  simp only[Bool.and_eq_true,Bool.not_eq_true',decide_eq_true_eq]at hc1
  obtain⟨rfl,rfl⟩:=hc1
  obtain⟨ι',w',u,r1,r2,r3,r4⟩:=append_own (g:=g) (hh:=hh) (ty:=o.type) h hu hi1 hz hby hzs hh' e hkn hx hbig (x:=a.eval y) hsrc hnews
  exact wp_value (hrun _ _ r1) (hnext ι' _ _ u w' hK r3 r4 fun b' hb=>(r2 b' hb).imp id fun e=>⟨0,.blk false i.size (n+m) hh,by subst e;simp⟩)
 ·rename_i sz n f
  obtain⟨hc1,hm0,hbig,hh,hh',hK⟩:=chk_iff.1 hk
  have hc1:=of_decide_eq_true hc1
  subst hc1
  obtain⟨ι',w',u,r1,r2,r3,r4⟩:=append_cap (g:=g) (hh:=hh) (ty:=o.type) h hu hi1 hz hby hzs hh' hnb hιn hx hm0 hbig (x:=a.eval y) hsrc hnews
  exact wp_value (hrun _ _ r1) (hnext ι' _ _ u w' hK r3 r4 fun b' hb=>(r2 b' hb).imp id fun e=>⟨0,.blk false i.size (n+m) hh,by subst e;simp⟩)
end
end Go.Vc
namespace Go.Vc
open Go Go.RowKit
section
variable {E:Env} {S:Base} {ι:Nat→Option Nat} {st:St} {a:Act} {w:World}
theorem partsA_vals(h:Sim S ι st a w){esz:Nat} : ∀(ps:List (Nat×Operand)) (k:Nat) (l:List (List AV)),partsA esz st.tm ps k=some l→
  l.length=ps.length∧(ps.map fun p=>(p.1,a.eval p.2))=((ps.map fun p=>a.eval p.2).zipIdx k).map (fun x=>(x.2,x.1))∧(∀v∈ps.map (fun p=>a.eval p.2),v.cells.size=esz)∧
  All2 (fun cs v=>All2 (CR S ι st.hp w) cs v.cells.toList) l (ps.map fun p=>a.eval p.2)
 |[],k,l,h1=>by
  simp only[partsA,Option.some.injEq]at h1
  subst h1
  exact⟨rfl,rfl,fun v hv=>by simp at hv,trivial⟩
 |(i,x)::r,k,l,h1=>by
  simp only[partsA]at h1
  split at h1
  ·rename_i hc
   simp only[Bool.and_eq_true]at hc
   obtain⟨hik,⟨hok,hlen⟩,hfr⟩:=hc
   have hik:i=k:=Nat.eq_of_beq_eq_true hik
   subst hik
   have hlen:(cellsOf (normA (evalA st.tm x))).length=esz:=Nat.eq_of_beq_eq_true hlen
   split at h1
   ·rename_i l' hl'
    simp only[Option.some.injEq]at h1
    subst h1
    obtain⟨g1,g2,g3,g4⟩:=partsA_vals h r (i+1) l' hl'
    have hcells:=VRel.cells (normA_rel (h.eval x)) hok
    have hsz:(a.eval x).cells.size=esz:=by rw[←hlen,hcells.length];simp
    refine⟨by simp [g1],by simp [List.zipIdx_cons,g2],fun v hv=> ?_,hcells,g4⟩
    simp only[List.map_cons,List.mem_cons]at hv
    rcases hv with rfl|hv
    ·exact hsz
    ·exact g3 v hv
   ·cases h1
  ·cases h1
theorem frzLsR{H:Heap}(h:Sim S ι st a w): ∀(ls:List (List AV)) (us:List Value) (K:List (List AV)→Prop),(∀b∈ls.flatten.flatMap ownB,∀ro sz n f,hget H b 0= .blk ro sz n f→hget st.hp b 0= .blk true sz n f)→All2 (fun cs (v:Value)=>All2 (CR S ι st.hp w) cs v.cells.toList) ls us→frzLs H ls K→ ∃ys,K ys∧All2 (fun cs (v:Value)=>All2 (FRel w (FZ S ι st.hp w)) cs v.cells.toList) ys us
 |[],[],K,_,_,hk=>⟨[],hk,trivial⟩
 |l::ls,u::us,K,hH,hr,hk=>by
  simp only[frzLs]at hk
  obtain⟨y,hk,h1⟩:=frzLR h l _ _ (fun b hb=>hH b (by simp only[List.flatten_cons,List.flatMap_append,List.mem_append];exact .inl hb)) hr.1 hk
  obtain⟨ys,hk,h2⟩:=frzLsR h ls us _ (fun b hb=>hH b (by simp only[List.flatten_cons,List.flatMap_append,List.mem_append];exact .inr hb)) hr.2 hk
  exact⟨y::ys,hk,h1,h2⟩
 |[],_::_,_,_,hr,_=>hr.elim
 |_::_,[],_,_,hr,_=>hr.elim
theorem ownB_BA{c:AV}{b:Nat}(h:b∈ownB c):b∈ownBA c:=by
 cases c<;>simp only[ownB,ownBA]at h ⊢ <;>first|exact h|(cases h;done)
theorem buildSlice_sound{o:Oper}{T:TypeId}{t:Ty}{len:Nat}{ps:Array (Nat×Operand)}(ho:o.op= .buildSlice T len ps)(hT:TyOk E.P T t)(h:Sim S ι st a w){nb:Nat}(hnb: ∀o,hget st.hp nb o= .undef)(hιn:ι nb=none){K:AV→Ws→Prop}
  (hk:buildSliceA t st.tm st.hp nb len ps.toList K) {next:Act→World→Prop} {Q:Exit→Act→World→Prop}
  (hnext: ∀ι' av ws v w',K av ws→Sim S ι' ⟨st.tm,hwr st.hp ws⟩ a w'→VR S ι' (hwr st.hp ws) w' av v→(∀b,ι' b≠none→ι b≠none∨ ∃p c,(b,p,c)∈ws)→next (a.put o.dst v) w'):o.wp E.P a w next Q:=by
 have hd:=hT.d
 unfold buildSliceA at hk
 cases ed:t.d<;>rw[ed]at hk<;>simp only at hk<;>try exact hk.elim
 rename_i e esz eb
 rw[ed]at hd
 obtain⟨hu,i,hi1,hi2,hi3,hi4,hi5⟩:=hd
 subst hi2
 obtain⟨z,hz⟩:=Option.isSome_iff_exists.1 hi4
 cases hp:partsA i.size st.tm ps.toList 0 with
 |none=>rw[hp]at hk;exact hk.elim
 |some l=>
  rw[hp]at hk
  obtain⟨hc,hk⟩:=chk_iff.1 hk
  simp only[Bool.and_eq_true,Nat.blt_eq]at hc
  obtain⟨⟨⟨hl,hle⟩,hes⟩,hpos⟩:=hc
  have hl:l.length=len:=Nat.eq_of_beq_eq_true hl
  have hle:len≤4096:=Nat.le_of_ble_eq_true hle
  have hes:i.size≤4096:=Nat.le_of_ble_eq_true hes
  obtain⟨g1,g2,g3,g4⟩:=partsA_vals h _ _ _ hp
  have hvl:(ps.toList.map fun p=>a.eval p.2).length=len:=by rw[List.length_map];omega
  obtain⟨hf,hst⟩:=h.freeze (H':=hwr st.hp (roAs st.hp l.flatten)) (roAs_get _) (hwr_len _ _)
  obtain⟨yss,⟨hh,hh',hK⟩,hy⟩:=frzLsR (H:=st.hp) hf l _ _ (fun b hb ro sz n f he=>roAs_own (by
   obtain⟨c,hc1,hc2⟩:=List.mem_flatMap.1 hb
   exact List.mem_flatMap.2 ⟨c,hc1,ownB_BA hc2⟩) he) (g4.imp fun _ _ q=>q.imp fun _ _ hv=>hv.step hst) hk
  have hn': ∀o,hget (hwr st.hp (roAs st.hp l.flatten)) nb o= .undef:=fun o=>by
   rcases roAs_get (H:=st.hp) l.flatten nb o with g|⟨_,ro,sz,n,f,g,_⟩
   ·rw[g];exact hnb o
   ·rw[hnb 0]at g;cases g
  have fin: ∀C:Array Value,(Instr.buildSlice T len (ps.map fun(i,x)=>(i,a.eval x))).run E.P w= .ok (.slice (some ⟨w.heap.size,0,none⟩) len len) (w.alloc (.cells C e))→C.size=len*i.size→
    (∀i' j,i'<len→j<i.size→C[i'*i.size+j]? =((ps.toList.map fun p=>a.eval p.2)[i']?).bind fun v=>v.cells[j]?)→o.wp E.P a w next Q:=fun C hrun hCs hC=>by
   have hbel:Below w.heap.size w (w.alloc (.cells C e)):=(Below.refl _ w).alloc (Nat.le_refl _) _
   have hr:RRel w.heap.size (w.alloc (.cells C e)) (FZ S ι (hwr st.hp (roAs st.hp l.flatten)) w) (.blk false i.size len hh) (.slice (some ⟨w.heap.size,0,none⟩) len len):=by
    refine .inr ⟨w.heap.size,len,C,e,Nat.le_refl _,by simp,rfl,Nat.le_refl _,by have hB:BIG=549755813888:=rfl;omega,heap_alloc_new w _,hCs,fun i' j hi' hj=> ?_⟩
    have hyl:yss.length=len:=by rw[hy.length];exact hvl
    obtain⟨row,hrow⟩: ∃row,yss[i']? =some row:=⟨_,List.getElem?_eq_getElem (show i'<yss.length by omega)⟩
    obtain⟨v,k1,k2⟩:=hy.get i' row hrow
    have hvs:v.cells.size=i.size:=g3 v (List.mem_of_getElem? k1)
    have hlen:row.length=i.size:=by rw[k2.length];simpa using hvs
    obtain⟨c,hc⟩: ∃c,row[j]? =some c:=⟨_,List.getElem?_eq_getElem (show j<row.length by omega)⟩
    obtain⟨u,k3,k4⟩:=k2.get j c hc
    have hnz:=hh' i' hi'
    rw[List.getD,hrow]at hnz
    obtain⟨c2,hc2,hn2⟩:=nzL_get j c hnz hc
    refine⟨c2,u,hc2,?_,nz1_rel hn2 (k4.mono (fun y hy=>⟨hy,fun e=> ?_⟩) fun y o hy=>hbel.cell hy.2.1)⟩
    ·rw[hC i' j hi' hj,k1];simpa using k3
    ·subst e;exact absurd hy.2.1 (Nat.lt_irrefl _)
   obtain⟨ι',av,ws',q1,q2,q3,q4⟩:=resA_sound (st:=st) (ws:=roAs st.hp l.flatten) hf hbel hr (fun y hy=> .inl hy) hn' hιn hK
   refine wp_value (v:= .slice (some ⟨w.heap.size,0,none⟩) len len) (w':=w.alloc (.cells C e)) ?_ (hnext _ _ _ _ _ q1 q2 q3 q4)
   simp only[execOp,ho]
   rw[Sem.run_bind,hrun];rfl
  have hparts:(ps.map fun(i,x)=>(i,a.eval x)).toList=((ps.toList.map fun p=>a.eval p.2).zipIdx 0).map (fun x=>(x.2,x.1)):=by rw[←g2];simp
  by_cases h0:len=0
  ·subst h0
   refine fin #[] ?_ (by simp) (fun i' j hi'=>by omega)
   have hps:ps.toList=[]:=by
    have:ps.toList.length=0:=by omega
    exact List.eq_nil_of_length_eq_zero this
   have hp0:ps= #[]:=Array.ext' (by simpa using hps)
   have hr0:(Array.range 0)= #[]:=rfl
   simp [hr0,Instr.buildSlice,run_underlying hu,sizeOf,typeInfo,hi1,hp0,Instr.fill,newRow]
  ·obtain⟨C,r1,r2,r3⟩:=Great.fill_dense hpos (ps.toList.map fun p=>a.eval p.2) 0 ((Array.range (len*i.size)).map (z.cells[· %z.cells.size]!)) g3 (by rw[hvl];simp)
   have hmul:len*i.size≤16777216:=Nat.mul_le_mul hle hes
   refine fin C (run_buildSlice w T e len _ C i z hu hi1 hz (by omega) (fun h=>by rcases Nat.mul_eq_zero.1 h with h|h<;>omega) (by rw[hparts];exact r1)) (by rw[r2];simp) (fun i' j hi' hj=> ?_)
   have hlt:i'*i.size+j<len*i.size:=by
    have:(i'+1)*i.size≤len*i.size:=Nat.mul_le_mul_right _ hi'
    rw[Nat.succ_mul]at this;omega
   have e1:(i'*i.size+j)/i.size=i':=by
    rw[Nat.mul_comm,Nat.mul_add_div (by omega),Nat.div_eq_of_lt hj];omega
   have e2:(i'*i.size+j)%i.size=j:=by
    rw[Nat.mul_comm,Nat.mul_add_mod,Nat.mod_eq_of_lt hj]
   rw[r3,hvl,if_pos ⟨by simp,by rw[Nat.zero_add];exact hlt⟩,e1,e2,Nat.sub_zero]
theorem bound_eval(h:Sim S ι st a w){x:Operand}{k:IntKind}{z:Int}(hx:evalA st.tm x= .int k z):a.eval x= .int k z:=by
 have:=h.eval x
 rw[hx]at this
 exact VR.int this
def mxOf(m:Option Operand)(c:Nat)(mx:Int):Nat:=
 match m with
 |none=>c
 |some _=>mx.toNat
theorem bounds_run(h:Sim S ι st a w)(isS:Bool)(len cap:Nat)(l hh m:Option Operand){K:Int→Int→Int→Prop}(hk:boundA st.tm 0 l fun lo=>boundA st.tm len hh fun hi=>boundA st.tm hi m fun mx=>(0≤lo∧lo≤hi∧hi≤mx∧mx≤len)∧K lo hi mx)(hcap:len≤cap)(hmh:hh=none→m=none):
  ∃lo hi mx:Int,(0≤lo∧lo≤hi∧hi≤mx∧mx≤len)∧K lo hi mx∧(m=none→mx=hi)∧(Instr.sliceBounds isS len cap (l.map a.eval) (hh.map a.eval) (m.map a.eval)).run E.P w= .ok (lo.toNat,hi.toNat,mxOf m cap mx) w:=by
 have hev: ∀{x:Operand} {K':Int→Prop} (d:Int),boundA st.tm d (some x) K'→ ∃k z,a.eval x= .int k z∧K' z:=fun {x K'} d hk=>by
  simp only[boundA]at hk
  cases e:evalA st.tm x<;>rw[e]at hk<;>simp only at hk<;>try exact hk.elim
  exact⟨_,_,bound_eval h e,hk⟩
 cases l with
 |none=>
  simp only[boundA]at hk
  cases hh with
  |none=>
   have:=hmh rfl
   subst this
   simp only[boundA]at hk
   refine⟨_,_,_,hk.1,hk.2,fun _=>rfl,?_⟩
   simp [mxOf,Instr.sliceBounds]
  |some xh=>
   obtain⟨kh,zh,eh,hk⟩:=hev 0 hk
   cases m with
   |none=>
    simp only[boundA]at hk
    refine⟨_,_,_,hk.1,hk.2,fun _=>rfl,?_⟩
    simp [mxOf,Instr.sliceBounds,eh,run_sliceBound w kh zh cap _ (by omega) (by omega)]
   |some xm=>
    obtain⟨km,zm,em,hk⟩:=hev 0 hk
    refine⟨_,_,_,hk.1,hk.2,fun h=>(by cases h),?_⟩
    have e1:(zm.toNat:Int)=zm:=Int.toNat_of_nonneg (by omega)
    simp [mxOf,Instr.sliceBounds,eh,em,run_sliceBound w km zm cap _ (by omega) (by omega),run_sliceBound w kh zh zm.toNat _ (by omega) (by omega)]
 |some xl=>
  obtain⟨kl,zl,el,hk⟩:=hev 0 hk
  cases hh with
  |none=>
   have:=hmh rfl
   subst this
   simp only[boundA]at hk
   refine⟨_,_,_,hk.1,hk.2,fun _=>rfl,?_⟩
   simp [mxOf,Instr.sliceBounds,el,run_sliceBound w kl zl len _ (by omega) (by omega)]
  |some xh=>
   obtain⟨kh,zh,eh,hk⟩:=hev 0 hk
   cases m with
   |none=>
    simp only[boundA]at hk
    refine⟨_,_,_,hk.1,hk.2,fun _=>rfl,?_⟩
    have e1:(zh.toNat:Int)=zh:=Int.toNat_of_nonneg (by omega)
    simp [mxOf,Instr.sliceBounds,el,eh,run_sliceBound w kh zh cap _ (by omega) (by omega),run_sliceBound w kl zl zh.toNat _ (by omega) (by omega)]
   |some xm=>
    obtain⟨km,zm,em,hk⟩:=hev 0 hk
    refine⟨_,_,_,hk.1,hk.2,fun h=>(by cases h),?_⟩
    have e1:(zm.toNat:Int)=zm:=Int.toNat_of_nonneg (by omega)
    have e2:(zh.toNat:Int)=zh:=Int.toNat_of_nonneg (by omega)
    simp [mxOf,Instr.sliceBounds,el,eh,em,run_sliceBound w km zm cap _ (by omega) (by omega),run_sliceBound w kh zh zm.toNat _ (by omega) (by omega),run_sliceBound w kl zl zh.toNat _ (by omega) (by omega)]
end
end Go.Vc
namespace Go.Vc
open Go Go.RowKit
section
variable {E:Env} {S:Base} {ι:Nat→Option Nat} {st:St} {a:Act} {w:World}
theorem FRel.part{F:Nat→Prop}{sz n c m l hh esz:Nat}{f:Nat→List AV}{ad:Option Addr}(hsz:sz=esz)(h:FRel w F (.arr sz n f) (.slice ad n c))(h1:l≤hh)(h2:hh≤n)(h3:hh≤m)(hm0:n=0→ad=none→m=0):
  FRel w F (.arr sz (hh-l) fun i=>f (l+i)) (.slice (if m=l then ad else ad.map (·.add (l*esz))) (hh-l) (m-l)):=by
 subst hsz
 by_cases h0:hh-l=0
 ·rw[h0]
  cases ad with
  |none=>
   cases h with
   |nil=>
    have hm:=hm0 rfl rfl
    have hl:l=0:=by omega
    subst hm
    subst hl
    exact .nil _ _
  |some ad=>
   by_cases e:m=l
   ·rw[if_pos e];exact .mt _ _ _ _
   ·rw[if_neg e];exact .mt _ _ _ _
 ·have e:m≠l:=by omega
  rw[if_neg e]
  cases h with
  |nil=>omega
  |mt=>omega
  |arr _ _ _ b o c g vs hn hb hF g1 g2 g3=>
   simp only[Option.map_some,Addr.add_lit]
   refine .arr sz (hh-l) _ b (o+l*sz) (m-l) (fun i=>g (l+i)) (fun i=>vs (l+i)) (by omega) (by omega) (fun _=>hF (by omega)) (fun i j hi hj=>g1 _ _ (by omega) hj) (fun i j hi hj=> ?_) (fun i j hi hj=>g3 _ _ (by omega) hj)
   have:=g2 (l+i) j (by omega) hj
   rw[←this,Nat.add_mul]
   congr 2;omega
theorem slice_sound{o:Oper}{T:TypeId}{t:Ty}{x:Operand}{l hh m:Option Operand}(ho:o.op= .slice T x l hh m)(hT:TyOk E.P T t)(h:Sim S ι st a w){K:AV→Ws→Prop}(hk:sliceA t st.hp st.tm (evalA st.tm x) l hh m K){next:Act→World→Prop}{Q:Exit→Act→World→Prop}
  (hnext: ∀av ws v,K av ws→Sim S ι ⟨st.tm,hwr st.hp ws⟩ a w→VR S ι (hwr st.hp ws) w av v→next (a.put o.dst v) w):o.wp E.P a w next Q:=by
 have hx:=h.eval x
 have hd:=hT.d
 unfold sliceA at hk
 obtain⟨hmh,hk⟩:=chk_iff.1 hk
 have hmh:hh=none→m=none:=fun e=>by
  subst e
  cases m with
  |none=>rfl
  |some _=>simp at hmh
 cases ed:t.d<;>rw[ed]at hk hd<;>simp only at hk<;>try exact hk.elim
 ·
  cases ex:evalA st.tm x<;>rw[ex]at hk hx<;>simp only at hk<;>try exact hk.elim
  rename_i s
  cases m with
  |some _=>exact hk.elim
  |none=>
   have hk':boundA st.tm 0 l fun lo=>boundA st.tm s.size hh fun hi=>boundA st.tm hi none fun mx=>(0≤lo∧lo≤hi∧hi≤mx∧mx≤s.size)∧K (.str (s.extract lo.toNat hi.toNat)) []:=by
    have mono: ∀{d:Int} {o:Option Operand} {K1 K2:Int→Prop},(∀z,K1 z→K2 z)→boundA st.tm d o K1→boundA st.tm d o K2:=fun {d o K1 K2} hK hb=>by
     cases o with
     |none=>exact hK _ hb
     |some x=>
      simp only[boundA]at hb ⊢
      cases e:evalA st.tm x<;>rw[e]at hb<;>simp only at hb ⊢ <;>first|exact hb.elim|exact hK _ hb
    refine mono (fun lo hb=>mono (fun hi hc=> ?_) hb) hk
    simp only[boundA]
    exact⟨⟨hc.1.1,hc.1.2.1,Int.le_refl _,hc.1.2.2⟩,hc.2⟩
   obtain⟨lo,hi,mx,hb,hK,_,hrun⟩:=bounds_run (E:=E) h false s.size s.size l hh none (K:=fun lo hi mx=>K (.str (s.extract lo.toNat hi.toNat)) []) hk' (Nat.le_refl _) (fun _=>rfl)
   have hv:=VR.str hx
   have hbig:=VR.strBig hx
   refine wp_value (v:= .string (s.extract lo.toNat hi.toNat)) (w':=w) ?_ (hnext _ _ _ hK h (VR.mkStr _ (by rw[ByteArray.size_extract];omega)))
   simp only[Option.map_none]at hrun
   simp [execOp,ho,hv,Instr.sliceAt,run_underlying hd,Instr.slice]
   rw[hrun];rfl
 ·rename_i e esz eb
  obtain⟨hu,i,hi1,hi2,_⟩:=hd
  have fin: ∀(ad:Option Addr) (n c:Nat) (lo hi mx:Int),a.eval x= .slice ad n c→(Instr.sliceBounds true n c (l.map a.eval) (hh.map a.eval) (m.map a.eval)).run E.P w= .ok (lo.toNat,hi.toNat,(mxOf m c mx)) w→
    (execOp a.eval o).run E.P w= .ok (.value (.slice (if(mxOf m c mx)=lo.toNat then ad else ad.map (·.add (lo.toNat*esz))) (hi.toNat-lo.toNat) ((mxOf m c mx)-lo.toNat))) w:=fun ad n c lo hi mx hv hrun=>by
   generalize mxOf m c mx=mm at hrun ⊢
   simp [execOp,ho,hv,Instr.sliceAt,run_underlying hu,Instr.slice,hrun,sizeOf,typeInfo,hi1,hi2]
  have arr: ∀(H':Heap) (ws:Ws) (sz n:Nat) (f:Nat→List AV),H'=hwr st.hp ws→Sim S ι ⟨st.tm,H'⟩ a w→sz=esz→FRel w (FZ S ι H' w) (.arr sz n f) (a.eval x)→(boundA st.tm 0 l fun lo=>boundA st.tm n hh fun hi=>boundA st.tm hi m fun mx=>((0≤lo∧lo≤hi∧hi≤mx∧mx≤n)∧(capB m sz=true→hi=mx))∧K (partV (capB m sz) sz (hi-lo).toNat fun i=>f (lo.toNat+i)) ws)→o.wp E.P a w next Q:=fun H' ws sz n f hH hs hsz hr hk=>by
   have mono: ∀{d:Int} {o:Option Operand} {K1 K2:Int→Prop},(∀z,K1 z→K2 z)→boundA st.tm d o K1→boundA st.tm d o K2:=fun {d o K1 K2} hK hb=>by
    cases o with
    |none=>exact hK _ hb
    |some x=>
     simp only[boundA]at hb ⊢
     cases e:evalA st.tm x<;>rw[e]at hb<;>simp only at hb ⊢ <;>first|exact hb.elim|exact hK _ hb
   have hk:=mono (K2:=fun lo=>boundA st.tm n hh fun hi=>boundA st.tm hi m fun mx=>(0≤lo∧lo≤hi∧hi≤mx∧mx≤n)∧((capB m sz=true→hi=mx)∧K (partV (capB m sz) sz (hi-lo).toNat fun i=>f (lo.toNat+i)) ws)) (fun lo hb=>mono (fun hi hc=>mono (fun mx hd=>⟨hd.1.1,hd.1.2,hd.2⟩) hc) hb) hk
   have hvc: ∃ad c,a.eval x= .slice ad n c∧n≤c∧(ad=none→c=0):=by
    generalize a.eval x=v at hr
    cases hr with
    |nil=>exact⟨none,0,rfl,Nat.le_refl _,fun _=>rfl⟩
    |mt _ _ ad c=>exact⟨some ad,c,rfl,Nat.zero_le _,fun h=>by cases h⟩
    |arr _ _ _ b o c g vs hn=>exact⟨_,c,rfl,hn,fun h=>by cases h⟩
   obtain⟨ad,c,hv,hnc,had⟩:=hvc
   obtain⟨lo,hi,mx,⟨b1,b2,b3,b4⟩,⟨hcap,hK⟩,hmx,hrun⟩:=bounds_run (E:=E) h true n c l hh m (K:=fun lo hi mx=>(capB m sz=true→hi=mx)∧K (partV (capB m sz) sz (hi-lo).toNat fun i=>f (lo.toNat+i)) ws) hk hnc hmh
   have hr':=hr
   rw[hv]at hr'
   have hp:=FRel.part (m:=(mxOf m c mx)) (l:=lo.toNat) (hh:=hi.toNat) hsz hr' (by omega) (by omega) (by cases m<;>simp only[mxOf]<;>omega) (fun hn ha=>by
    cases m with
    |none=>exact had ha
    |some _=>simp only[mxOf];omega)
   refine wp_value (fin ad n c lo hi mx hv hrun) (hnext _ _ _ hK (by rw[←hH];exact hs) ?_)
   rw[←hH]
   have e1:(hi-lo).toNat=hi.toNat-lo.toNat:=by omega
   rw[e1]
   cases ec:capB m sz with
   |false=>exact hp
   |true=>
    have e2:=hcap ec
    refine FRel.capd _ _ _ _ _ hp ?_
    cases m with
    |none=>cases ec
    |some _=>simp only[mxOf];omega
  cases ex:evalA st.tm x<;>rw[ex]at hk hx<;>simp only at hk<;>try exact hk.elim
  ·
   have mono: ∀{d:Int} {o:Option Operand} {K1 K2:Int→Prop},(∀z,K1 z→K2 z)→boundA st.tm d o K1→boundA st.tm d o K2:=fun {d o K1 K2} hK hb=>by
    cases o with
    |none=>exact hK _ hb
    |some x=>
     simp only[boundA]at hb ⊢
     cases e:evalA st.tm x<;>rw[e]at hb<;>simp only at hb ⊢ <;>first|exact hb.elim|exact hK _ hb
   have hx':FRel w (FZ S ι st.hp w) .nils (a.eval x):=hx
   have hv:a.eval x= .slice none 0 0:=by
    generalize a.eval x=v at hx'
    cases hx';rfl
   obtain⟨lo,hi,mx,⟨b1,b2,b3,b4⟩,hK,_,hrun⟩:=bounds_run (E:=E) h true 0 0 l hh m (K:=fun _ _ _=>K .nils []) (mono (fun lo hb=>mono (fun hi hc=>mono (fun mx hd=>⟨by omega,hd.2⟩) hc) hb) hk) (Nat.le_refl _) hmh
   refine wp_value (fin none 0 0 lo hi mx hv hrun) (hnext _ _ _ hK h ?_)
   have e1:lo=0:=by omega
   have e2:hi=0:=by omega
   have e3:mx=0:=by omega
   subst e1 e2 e3
   cases m<;>simp [mxOf]<;>exact FRel.nils
  ·rename_i sz n f
   obtain⟨hsz,hk⟩:=chk_iff.1 hk
   exact arr st.hp [] sz n f rfl h (of_decide_eq_true hsz) hx hk
  ·rename_i b k
   cases eb':hget st.hp b 0<;>rw[eb']at hk<;>simp only at hk
   rename_i ro sz n f
   obtain⟨hsz,hkn,hk⟩:=chk_iff.1 hk
   obtain⟨h1,hst⟩:=h.freeze (H':=hwr st.hp [(b,0,.blk true sz n f)]) (fun b' o'=>by
    rw[hwr_one,hget_hset]
    by_cases e:b'=b∧o'=0
    ·obtain⟨rfl,rfl⟩:=e
     rw[if_pos ⟨rfl,rfl⟩]
     exact .inr ⟨rfl,ro,sz,n,f,eb',by rw[hget_hset,if_pos ⟨rfl,rfl⟩]⟩
    ·rw[if_neg e];exact .inl rfl) (hwr_len _ _)
   refine arr _ _ sz n f rfl h1 (of_decide_eq_true hsz) (own_frz h1 (by rw[hwr_one,hget_hset,if_pos ⟨rfl,rfl⟩]) hkn (CRel.step hst hx)) hk
theorem foldl_push: ∀(l:List Int) (r:ByteArray),l.foldl (fun r n=>r.push (UInt8.ofNat n.toNat)) r=⟨r.data++(l.map fun n=>UInt8.ofNat n.toNat).toArray⟩
 |[],r=>by simp
 |n::l,r=>by
  simp only[List.foldl_cons,foldl_push l,List.map_cons]
  simp [ByteArray.push]
theorem conv_bytes{Ts Td e:TypeId}(hs:E.P.underlying Ts=some (.slice e))(he:E.P.underlying e=some (.int .u8))(hd:E.P.underlying Td=some .string){n x p c:Nat}{f:Nat→List AV}{u:Nat→Value}{F:Nat→Prop}
  (hu: ∀i,i<n→isU8 ((f i).getD 0 .undef)=true) (hc: ∀i,i<n→w.cell? ⟨x,p+i,none⟩=some (u i)∧FRel w F ((f i).getD 0 .undef) (u i)):
  (convert Ts Td (.slice (some ⟨x,p,none⟩) n c)).run E.P w= .ok (.string (bytesOf n f)) w:=by
 rw[run_convert_bytes_string w Ts Td e _ n c hs he hd]
 have hz: ∀i,i<n→u i= .int .u8 ((u8N ((f i).getD 0 .undef):Nat):Int)∨ ∃z,(f i).getD 0 .undef= .int .u8 z∧u i= .int .u8 z:=fun i hi=>by
  have h1:=hu i hi
  have h2:=(hc i hi).2
  generalize (f i).getD 0 .undef=av at h1 h2
  generalize u i=v at h2
  cases h2<;>first|(cases h1;done)|skip
  rename_i k z
  cases k<;>first|(cases h1;done)|exact .inr ⟨z,rfl,rfl⟩
 let ns:List Int:=(List.range n).map fun i=>match u i with| .int _ z=>z|_=>0
 have hl:=run_loadCells_list (P:=E.P) w ⟨x,p,none⟩ (ns.map (Value.int .u8)) (fun j v hj=>by
  have hj':j<n:=by
   have:=(List.getElem?_eq_some_iff.1 hj).1
   simpa[ns]using this
  rw[Addr.add_lit,(hc j hj').1]
  simp [ns,List.getElem?_range hj']at hj
  rcases hz j hj' with h|⟨z,_,h⟩<;>rw[h]at hj ⊢ <;>simp only at hj<;>rw[←hj]<;>simp)
 have hlen:(ns.map (Value.int .u8)).length=n:=by simp [ns]
 rw[hlen]at hl
 rw[run_bytesToString w ⟨x,p,none⟩ n c ns hl,foldl_push]
 have he0:ByteArray.empty.data= #[]:=rfl
 rw[he0]
 congr 2
 unfold bytesOf
 congr 1
 simp only[Array.empty_append,ns,List.map_map]
 congr 1
 apply List.map_congr_left
 intro i hi
 have hi':i<n:=List.mem_range.1 hi
 simp only[Function.comp]
 have h1:=hu i hi'
 have h2:=(hc i hi').2
 generalize (f i).getD 0 .undef=av at h1 h2
 generalize u i=v at h2
 cases h2<;>first|(cases h1;done)|rfl
end
end Go.Vc
namespace Go.Vc
open Go Go.RowKit
section
variable {E:Env} {S:Base} {ι:Nat→Option Nat} {st:St} {a:Act} {w:World}
theorem bytesOf_size(n:Nat)(f:Nat→List AV):(bytesOf n f).size=n:=by simp [bytesOf,ByteArray.size]
def elemTy(E:Env)(t u:Ty):Option Ty:=
 match u.d with
 | .slice e _ _=>E.ty e
 |_=>match t.d with
  | .slice e _ _=>E.ty e
  |_=>none
theorem byteTy_ok(hE:E.Ok){T:TypeId}{t:Ty}{eu:Option Ty}(hT:TyOk E.P T t)(heu: ∀e esz eb,t.d= .slice e esz eb→eu=E.ty e)(h:byteTy t eu=true): ∃e,E.P.underlying T=some (.slice e)∧E.P.underlying e=some (.int .u8):=by
 have hd:=hT.d
 unfold byteTy at h
 cases et:t.d<;>rw[et]at h hd<;>simp only at h<;>try (cases h;done)
 rename_i e esz eb
 rw[heu e esz eb et]at h
 simp only[Bool.and_eq_true]at h
 cases ee:E.ty e with
 |none=>rw[ee]at h;cases h.2
 |some te=>
  rw[ee]at h
  have hte:=(hE.ty e te ee).d
  have h2:=h.2
  cases ed:te.d<;>rw[ed]at hte<;>simp only[ed]at h2<;>try (cases h2;done)
  rename_i k
  cases k<;>first|(cases h2;done)|exact⟨e,hd.1,hte⟩
theorem conv_sound(hE:E.Ok){o:Oper}{Ts Td:TypeId}{t u:Ty}{x:Operand}(ho:o.op= .convert Ts Td x)(hT:TyOk E.P Ts t)(hU:TyOk E.P Td u)
  (h:Sim S ι st a w) {K:AV→Prop} (hk:convA t u (elemTy E t u) st.hp (evalA st.tm x) K) {next:Act→World→Prop} {Q:Exit→Act→World→Prop}
  (hnext: ∀av v w',K av→Sim S ι st a w'→VR S ι st.hp w' av v→next (a.put o.dst v) w'):o.wp E.P a w next Q:=by
 have hx:=h.eval x
 have hTd:=hT.d
 have hUd:=hU.d
 have hrun: ∀v w',(convert Ts Td (a.eval x)).run E.P w= .ok v w'→(execOp a.eval o).run E.P w= .ok (.value v) w':=fun v w' hv=>by
  simp only[execOp,ho]
  rw[Sem.run_bind,hv];rfl
 have hstr:u.d.isStr=true→E.P.underlying Td=some .string:=fun e=>by
  cases eu':u.d<;>rw[eu']at e hUd<;>first|exact hUd|(cases e;done)
 have hel:u.d.isStr=true→ ∀e esz eb,t.d= .slice e esz eb→elemTy E t u=E.ty e:=fun hs e esz eb et=>by
  unfold elemTy
  cases eu':u.d<;>rw[eu']at hs<;>first|(cases hs;done)|simp only[et]
 have core: ∀(n:Nat) (f:Nat→List AV),n≤BIG→u.d.isStr=true→byteTy t (elemTy E t u)=true→(∀i,i<n→isU8 ((f i).getD 0 .undef)=true)→K (.str (bytesOf n f))→(∃ad c,a.eval x= .slice ad n c∧(ad=none→n=0)∧(n=0∨ ∃(q p:Nat) (u:Nat→Value),ad=some ⟨q,p,none⟩∧ ∀i,i<n→w.cell? ⟨q,p+i,none⟩=some (u i)∧FRel w (FZ S ι st.hp w) ((f i).getD 0 .undef) (u i)))→o.wp E.P a w next Q:=by
  intro n f hbig hs hb hu8 hK ⟨ad,c,hv,had,hc⟩
  obtain⟨e,he1,he2⟩:=byteTy_ok hE hT (hel hs) hb
  refine wp_value (hrun _ w ?_) (hnext _ _ _ hK h (VR.mkStr _ (by rw[bytesOf_size];exact hbig)))
  rcases hc with rfl|⟨q,p,u,rfl,hc⟩
  ·rw[hv]
   have hb0:bytesOf 0 f=⟨#[]⟩:=rfl
   rw[hb0,run_convert_bytes_string w Ts Td e ad 0 c he1 he2 (hstr hs)]
   cases ad with
   |none=>simp [Conv.bytesToString];rfl
   |some ad=>
    have hl:=run_loadCells_list (P:=E.P) w ad [] (fun j v hj=>by simp at hj)
    have:=run_bytesToString (P:=E.P) w ad 0 c [] (by simpa using hl)
    rw[this];rfl
  ·rw[hv]
   exact conv_bytes he1 he2 (hstr hs) hu8 hc
 cases ex:evalA st.tm x<;>rw[ex]at hk hx<;>simp only[convA]at hk<;>try exact hk.elim
 case int k z=>
  cases eu':u.d<;>rw[eu']at hk hUd<;>simp only at hk<;>try exact hk.elim
  rename_i k'
  cases et:t.d<;>rw[et]at hk hTd<;>simp only at hk<;>try exact hk.elim
  refine wp_value (hrun _ w ?_) (hnext _ _ _ hk h (VR.mkInt _ _))
  rw[VR.int hx]
  simp [convert,run_underlying hTd,run_underlying hUd,Conv.intToInt]
 case str s=>
  have hbig:=VR.strBig hx
  cases et:t.d<;>rw[et]at hk hTd<;>simp only at hk<;>try exact hk.elim
  have sl:chk (byteTy u (elemTy E t u)) (K (.arr 1 s.size (bytesF s)))→o.wp E.P a w next Q:=fun hk=>by
   obtain⟨hb,hK⟩:=chk_iff.1 hk
   obtain⟨e,he1,he2⟩:=byteTy_ok hE hU (fun e esz eb e1=>by simp [elemTy,e1]) hb
   have hr:=run_bytes_of_string (P:=E.P) w Ts Td e s hTd he1 he2
   generalize hcap:grownCap w s.size 0 e=cap at hr
   have hge:s.size≤cap:=by
    have:=grownCap_ge w s.size 0 e
    rw[hcap]at this;exact this
   have hbel:Below w.heap.size w (w.drew.alloc (.cells (bytesRow s cap) e ((bytesRow s cap).size,(bytesRow s cap).size+1))):=(Below.drew (Below.refl _ w)).alloc (Nat.le_refl _) _
   obtain⟨h1,h2⟩:=h.world hbel
   rw[←VR.str hx]at hr
   refine wp_value (hrun _ _ hr) (hnext _ _ _ hK h1 ?_)
   have hnew:FZ S ι st.hp (w.drew.alloc (.cells (bytesRow s cap) e ((bytesRow s cap).size,(bytesRow s cap).size+1))) w.heap.size:=⟨.inr h.below.size,by simp,fun b _ e=>by have:=(h.fresh b _ e).2;omega⟩
   have hcell: ∀i,i<s.size→(w.drew.alloc (.cells (bytesRow s cap) e ((bytesRow s cap).size,(bytesRow s cap).size+1))).cell? ⟨w.heap.size,0+i*1+0,none⟩=some (.int .u8 ((s.data.toList.getD i 0).toNat:Int)):=fun i hi=>by
    have hob:(w.drew.alloc (.cells (bytesRow s cap) e ((bytesRow s cap).size,(bytesRow s cap).size+1))).heap[w.heap.size]? =some (.cells (bytesRow s cap) e ((bytesRow s cap).size,(bytesRow s cap).size+1)):=heap_alloc_new w.drew _
    rw[cell_of_row _ w.heap.size _ _ e _ hob]
    have hi2:i<s.data.size:=hi
    have hi3:i<(s.data.map (fun b=>Value.int .u8 b.toNat)).size:=by simpa using hi2
    simp only[Nat.zero_add,Nat.mul_one,Nat.add_zero]
    unfold bytesRow
    rw[Array.getElem?_append_left hi3]
    have h3:s.data.toList.getD i 0=s.data[i]:=by simp [List.getD,Array.getElem?_eq_getElem hi2]
    rw[h3,Array.getElem?_map,Array.getElem?_eq_getElem hi2];rfl
   exact FRel.arr 1 s.size (bytesF s) w.heap.size 0 cap (fun i _=> .int .u8 ((s.data.toList.getD i 0).toNat:Int)) (fun i _=> .int .u8 ((s.data.toList.getD i 0).toNat:Int)) hge hbig (fun _=>hnew)
    (fun i j hi hj=>by have:j=0:=by omega
                       subst this;rfl) (fun i j hi hj=>by
     have:j=0:=by omega
     subst this;exact hcell i hi) (fun i j hi hj=> .int _ _)
  cases eu':u.d<;>rw[eu']at hk hUd<;>simp only at hk<;>first|exact sl hk|skip
  ·refine wp_value (hrun _ w ?_) (hnext _ _ _ hk h (VR.mkStr _ hbig))
   rw[VR.str hx]
   simp [convert,run_underlying hTd,run_underlying hUd]
 case nils=>
  obtain⟨hc,hK⟩:=chk_iff.1 hk
  simp only[Bool.and_eq_true]at hc
  have hx':FRel w (FZ S ι st.hp w) .nils (a.eval x):=hx
  have hv:a.eval x= .slice none 0 0:=by
   generalize a.eval x=v at hx'
   cases hx';rfl
  exact core 0 (fun _=>[]) (Nat.zero_le _) hc.1 hc.2 (fun i hi=>by omega) hK ⟨none,0,hv,fun _=>rfl,.inl rfl⟩
 case arr sz n f=>
  obtain⟨hc,hu8,hK⟩:=chk_iff.1 hk
  simp only[Bool.and_eq_true]at hc
  have hsz:sz=1:=Nat.eq_of_beq_eq_true hc.2
  subst hsz
  have hx':FRel w (FZ S ι st.hp w) (.arr 1 n f) (a.eval x):=hx
  refine core n f ?_ hc.1.1 hc.1.2 hu8 hK ?_
  ·generalize a.eval x=v at hx'
   cases hx'<;>first|exact Nat.zero_le _|assumption
  ·generalize a.eval x=v at hx'
   cases hx' with
   |nil=>exact⟨none,0,rfl,fun _=>rfl,.inl rfl⟩
   |mt _ _ ad c=>exact⟨_,c,rfl,(fun h=>by cases h),.inl rfl⟩
   |arr _ _ _ b o c g vs hn hb hF g1 g2 g3=>
    refine⟨_,c,rfl,(fun h=>by cases h),.inr ⟨b,o,fun i=>vs i 0,rfl,fun i hi=>⟨?_,?_⟩⟩⟩
    ·have:=g2 i 0 hi (by omega)
     simpa using this
    ·have h1:=g1 i 0 hi (by omega)
     have:(f i).getD 0 .undef=g i 0:=by simp [List.getD,h1]
     rw[this];exact g3 i 0 hi (by omega)
 case own b k=>
  cases e:hget st.hp b 0<;>rw[e]at hk<;>simp only at hk
  rename_i ro sz n f
  obtain⟨hc,rfl,hu8,hK⟩:=chk_iff.1 hk
  simp only[Bool.and_eq_true]at hc
  have hsz:sz=1:=Nat.eq_of_beq_eq_true hc.2
  subst hsz
  obtain⟨_,ro',sz',n',f',e2,_,h3⟩:=(show CR S ι st.hp w (.own b k) (a.eval x)from hx)
  rw[e]at e2;cases e2
  have hl:=h.hp b 0
  rw[e]at hl
  rcases hl.2 with hd|⟨hbig,hl⟩
  ·cases hd.2.1
  refine core k f hbig hc.1.1 hc.1.2 hu8 hK ?_
  rcases h3 rfl with⟨q,c,C,T',hq,hv,hnc,hC,hCs⟩|⟨rfl,_,hv⟩
  ·refine⟨_,c,hv,(fun h=>by cases h),.inr ⟨q,0,fun i=>(C[i]?).getD undef,rfl,fun i hi=> ?_⟩⟩
   rcases hl with hl|⟨q',C',T2,hq',hC',hcells⟩
   ·rw[hq]at hl;cases hl.2
   ·rw[hq]at hq';cases hq'
    rw[hC]at hC';cases hC'
    obtain⟨av,u,g1,g2,g3⟩:=hcells i 0 hi (by omega)
    have g2:C[i]? =some u:=by simpa using g2
    have g4:(C[i]?).getD undef=u:=by rw[g2];rfl
    refine⟨?_,?_⟩
    ·rw[cell_of_row w q _ C T' (0,0) hC,Nat.zero_add,g2];simp only[g2];rfl
    ·have:(f i).getD 0 .undef=av:=by simp [List.getD,g1]
     rw[this];simp only[g4];exact g3
  ·exact⟨none,0,hv,fun _=>rfl,.inl rfl⟩
theorem min_sound{o:Oper}{c:Go.Call}{x y:Operand}(ho:o.op= .call c)(hc:c.callee= .builtin .min)(hargs:c.args= #[x,y])(h:Sim S ι st a w){K:AV→Prop}(hk:minA (evalA st.tm x) (evalA st.tm y) K){next:Act→World→Prop}{Q:Exit→Act→World→Prop}
  (hnext: ∀av v,K av→VR S ι st.hp w av v→next (a.put o.dst v) w):o.wp E.P a w next Q:=by
 have hx:=h.eval x
 have hy:=h.eval y
 cases ex:evalA st.tm x<;>cases ey:evalA st.tm y<;>rw[ex,ey]at hk<;>rw[ex]at hx<;>rw[ey]at hy<;>simp only[minA]at hk<;>try exact hk.elim
 rename_i k p k' q
 obtain⟨_,hK⟩:=chk_iff.1 hk
 refine wp_value (v:= .int k (bif decide (q<p)then q else p)) (w':=w) ?_ (hnext _ _ hK (VR.mkInt _ _))
 have:(bif decide (q<p)then q else p)=if q<p then q else p:=by by_cases h:q<p<;>simp [h]
 rw[this]
 simp [execOp,ho,resolve,hc,hargs,invoke,builtin,VR.int hx,VR.int hy,run_min_int2]
theorem max_sound{o:Oper}{c:Go.Call}{x y:Operand}(ho:o.op= .call c)(hc:c.callee= .builtin .max)(hargs:c.args= #[x,y])(h:Sim S ι st a w){K:AV→Prop}(hk:maxA (evalA st.tm x) (evalA st.tm y) K){next:Act→World→Prop}{Q:Exit→Act→World→Prop}
  (hnext: ∀av v,K av→VR S ι st.hp w av v→next (a.put o.dst v) w):o.wp E.P a w next Q:=by
 have hx:=h.eval x
 have hy:=h.eval y
 cases ex:evalA st.tm x<;>cases ey:evalA st.tm y<;>rw[ex,ey]at hk<;>rw[ex]at hx<;>rw[ey]at hy<;>simp only[maxA]at hk<;>try exact hk.elim
 rename_i k p k' q
 obtain⟨_,hK⟩:=chk_iff.1 hk
 refine wp_value (v:= .int k (bif decide (q>p)then q else p)) (w':=w) ?_ (hnext _ _ hK (VR.mkInt _ _))
 have:(bif decide (q>p)then q else p)=if q>p then q else p:=by by_cases h:q>p<;>simp [h]
 rw[this]
 simp [execOp,ho,resolve,hc,hargs,invoke,builtin,VR.int hx,VR.int hy,run_max_int2]
end
end Go.Vc
namespace Go.Vc
open Go Go.RowKit
section
variable {E:Env} {S:Base} {ι:Nat→Option Nat} {st:St} {a:Act} {w:World}
theorem zplain{F:Nat→Prop}{c:AV}{v:Value}(hp:plain1 c=true)(h:ZRel c v):FRel w F c v:=by
 cases c<;>simp only[plain1]at hp<;>first|(cases hp;done)|skip
 ·have h:v=_:=h;subst h;exact .int _ _
 ·have h:v=_:=h;subst h;exact .bool _
 ·obtain⟨h,h2⟩:=(show v=_∧_ from h);subst h;exact .str _ (by rw[h2];exact Nat.zero_le _)
theorem makeSlice_sound(hE:E.Ok){o:Oper}{T:TypeId}{t:Ty}{l c:Operand}(ho:o.op= .makeSlice T l c)(hT:TyOk E.P T t)(h:Sim S ι st a w){nb:Nat}(hnb: ∀o,hget st.hp nb o= .undef)(hιn:ι nb=none){K:AV→Ws→Prop}
  (hk:makeSliceA E t st.tm nb l c K) {next:Act→World→Prop} {Q:Exit→Act→World→Prop}
  (hnext: ∀ι' av ws v w',K av ws→Sim S ι' ⟨st.tm,hwr st.hp ws⟩ a w'→VR S ι' (hwr st.hp ws) w' av v→(∀b,ι' b≠none→ι b≠none∨ ∃p c,(b,p,c)∈ws)→next (a.put o.dst v) w'):o.wp E.P a w next Q:=by
 have hd:=hT.d
 unfold makeSliceA at hk
 cases ed:t.d<;>rw[ed]at hk<;>simp only at hk<;>try exact hk.elim
 rename_i e esz eb
 rw[ed]at hd
 obtain⟨hu,i,hi1,hi2,hi3,hi4,hi5⟩:=hd
 cases ety:E.ty e with
 |none=>rw[ety]at hk;exact hk.elim
 |some te=>
 rw[ety]at hk
 simp only at hk
 have hl:=h.eval l
 have hc:=h.eval c
 cases el:evalA st.tm l<;>rw[el]at hk hl<;>simp only at hk<;>try exact hk.elim
 rename_i kl z
 cases ec:evalA st.tm c<;>rw[ec]at hk hc<;>simp only at hk<;>try exact hk.elim
 rename_i kc z'
 obtain⟨hcd,⟨rfl,h0,h1⟩,hK⟩:=chk_iff.1 hk
 simp only[Bool.and_eq_true]at hcd
 obtain⟨⟨⟨⟨hpl,hlen⟩,hes⟩,heb⟩,hpos⟩:=hcd
 have hlen:=Nat.eq_of_beq_eq_true hlen
 have hes:=Nat.le_of_ble_eq_true hes
 have heb:=Nat.le_of_ble_eq_true heb
 have hpos:0<esz:=Nat.le_of_ble_eq_true hpos
 obtain⟨i',zv,g1,g2,g3,g4,g5⟩:=(hE.ty e te ety).info
 rw[hi1]at g1;cases g1
 have hbytes:(i.bytes:Int)*z≤281474976710656:=by
  have e1:(i.bytes:Int)≤4096:=by omega
  calc (i.bytes:Int)*z≤4096*4096:=Int.mul_le_mul e1 h1 h0 (by omega)
   _≤_:=by omega
 have hrun:=run_make (P:=E.P) w T e i zv hu hi1 g3 kl kc z z h0 (Int.le_refl _) hbytes (by omega)
 have hzl:te.zero.length=zv.cells.size:=by rw[g5.length];simp
 have hzs:zv.cells.size=esz:=by omega
 have hbel:Below w.heap.size w (w.alloc (.cells (madeCells zv.cells (z.toNat*i.size)) e)):=(Below.refl _ w).alloc (Nat.le_refl _) _
 obtain⟨k1,k2⟩:=h.putBlk hbel (b:=nb) (x:=w.heap.size) (Nat.le_refl _) (by simp) (f:=fun _=>te.zero) (n:=z.toNat) (sz:=esz) (c:=z.toNat) (by have hB:BIG=549755813888:=rfl;omega) (Nat.le_refl _) (heap_alloc_new w _) (by rw[size_madeCells,hi2])
  (F':=FZ S ι st.hp w) (fun y hy=> .inl hy) (fun p j hp hj=>by
   obtain⟨v,hv,hr⟩:=g5.get j _ (List.getElem?_eq_getElem (by omega))
   refine⟨te.zero[j]'(by omega),v,List.getElem?_eq_getElem (by omega),?_,zplain (List.all_eq_true.1 hpl _ (List.getElem_mem _)) hr⟩
   have hlt:p*esz+j<z.toNat*i.size:=by
    have:(p+1)*esz≤z.toNat*esz:=Nat.mul_le_mul_right esz hp
    rw[Nat.succ_mul]at this;rw[hi2];omega
   have hmod:(p*esz+j)%zv.cells.size=j:=by
    rw[hzs,Nat.add_comm,Nat.add_mul_mod_self_right,Nat.mod_eq_of_lt hj]
   have hj2:j<zv.cells.size:=by omega
   have hv':zv.cells[j]? =some v:=by simpa using hv
   simp only[madeCells,Array.getElem?_map,Array.getElem?_range,hlt,if_true,Option.map_some]
   rw[hmod,getElem!_pos zv.cells j hj2]
   rw[Array.getElem?_eq_getElem hj2]at hv'
   exact hv') (.inl ⟨hnb,hιn⟩)
 refine wp_value (v:= .slice (some ⟨w.heap.size,0,none⟩) z.toNat z.toNat) (w':=w.alloc (.cells (madeCells zv.cells (z.toNat*i.size)) e)) ?_ (hnext _ _ _ _ _ hK k1 k2 fun b hb=>(upd_some _ _ _ b hb).imp id fun e=>⟨0,.blk false esz z.toNat fun _=>te.zero,by subst e;simp⟩)
 have el':a.eval l= .int kl z:=hl.int
 have ec':a.eval c= .int kc z:=hc.int
 simp only[execOp,ho]
 rw[Sem.run_bind,el',ec',hrun];rfl
end
end Go.Vc
namespace Go.Vc
open Go Go.RowKit
/-! Calls that are handed boxes. -/
def ren0(ρ:Nat→Nat):AV→AV
 | .ptr b o=> .ptr (ρ b) o
 |x=>x
def ren1(ρ:Nat→Nat):AV→AV
 | .own b k=> .own (ρ b) k
 | .ptr b o=> .ptr (ρ b) o
 | .eptr b k i o=> .eptr (ρ b) k i o
 | .fn f caps=> .fn f (caps.map (ren0 ρ))
 |x=>x
def renA(ρ:Nat→Nat):AV→AV
 | .agg cs=> .agg (cs.map (ren1 ρ))
 |x=>ren1 ρ x
def dom0(D:Nat→Bool):AV→Bool
 | .ptr b _=>D b
 |x=>capOk x
def dom1(D:Nat→Bool):AV→Bool
 | .own b _=>D b
 | .ptr b _=>D b
 | .eptr b _ _ _=>D b
 | .fn _ caps=>caps.all (dom0 D)
 |_=>true
def domA(D:Nat→Bool):AV→Bool
 | .agg cs=>cs.all (dom1 D)
 | .tup _=>false
 | .gone=>false
 |x=>dom1 D x
def pos:List Nat→Nat→Nat
 |[],_=>0
 |x::l,b=>match Nat.beq x b with
  |true=>0
  |false=>pos l b+1
def mem(l:List Nat)(b:Nat):Bool:=l.any fun x=>Nat.beq x b
def dedup:List Nat→List Nat
 |[]=>[]
 |x::l=>match mem l x with
  |true=>dedup l
  |false=>x::dedup l
def ptrs0:AV→List Nat
 | .ptr b _=>[b]
 |_=>[]
def ptrs1:AV→List Nat
 | .ptr b _=>[b]
 | .fn _ caps=>caps.flatMap ptrs0
 |_=>[]
def ptrsA:AV→List Nat
 | .agg cs=>cs.flatMap ptrs1
 |x=>ptrs1 x
def owns0:AV→List Nat
 | .own b _=>[b]
 |_=>[]
def boxesOf(as:List AV):List Nat:=dedup (as.flatMap ptrsA)
def boxes2(H:Heap)(as:List AV):List Nat:=dedup (boxesOf as++(boxesOf as).flatMap fun b=>(H.getD b []).flatMap ptrs0)
def ownsOf:AV→List Nat
 | .agg cs=>cs.flatMap owns0
 |x=>owns0 x
def blksOf(H:Heap)(as:List AV):List Nat:=boxes2 H as++dedup (((boxes2 H as).flatMap fun b=>(H.getD b []).flatMap owns0)++as.flatMap ownsOf)
def nodup:List Nat→Bool
 |[]=>true
 |x::l=> !(mem l x)&&nodup l
def liveB(l:List AV):Bool:=
 match l with
 |[]=>false
 |x::r=>match x with
  | .blk ro _ _ _=> !ro&&r.isEmpty
  |x=>(x::r).all (fun c=> !(isBlk c))&&(x::r).any writable
def sameLen:List Nat→Heap→Heap→Bool
 |[],_,ys=>ys.all fun y=> !(y.isEmpty)
 |b::l,H,ys=>match ys with
  |[]=>false
  |y::ys=>Nat.beq (H.getD b []).length y.length&&sameLen l H ys
def backWs(σ:Nat→Nat):Nat→Heap→Ws
 |_,[]=>[]
 |i,l::r=>cellsW (σ i) (l.map (ren1 σ)) 0++backWs σ (i+1) r
def deadB:AV:= .blk true 0 (BIG+1) fun _=>[]
def sgm(L:List Nat)(nb i:Nat):Nat:=L.getD i (nb+(i-L.length))
def tupR:List AV→AV
 |[x]=>x
 |vs=> .tup vs
def ltB(n:Nat)(b:Nat):Bool:=Nat.blt b n
def hasPtr(as:List AV):Bool:= !((as.flatMap ptrsA).isEmpty)
def hcallA(E:Env)(H:Heap)(nb:Nat)(f:FuncId)(as:List AV)(K:AV→Ws→Prop):Prop:=
 chk (nodup (blksOf H as)&&(blksOf H as).all (fun b=>liveB (H.getD b [])&&(H.getD b []).all (dom1 (mem (blksOf H as))))&&as.all (domA (mem (blksOf H as))))
  (match E.hspec f (as.map (renA (pos (blksOf H as)))) ((blksOf H as).map fun b=>(H.getD b []).map (ren1 (pos (blksOf H as))))with
  |some (pre,rs,H')=>preP pre (chk (!(H'.isEmpty)&&sameLen (blksOf H as) H H'&&H'.all (fun l=>l.all (dom1 (ltB H'.length)))&&rs.all (fun r=>domA (ltB H'.length) r&&valOk r))
    (K (tupR (rs.map (renA (sgm (blksOf H as) nb)))) (backWs (sgm (blksOf H as) nb) 0 H')))
  |none=>False)
end Go.Vc
namespace Go.Vc
open Go Go.RowKit
theorem mem_iff{l:List Nat}{b:Nat} :mem l b=true↔b∈l:=by
 simp only[mem,List.any_eq_true]
 constructor
 ·rintro⟨x,hx,h⟩
  rw[Nat.eq_of_beq_eq_true h]at hx;exact hx
 ·intro h;exact⟨b,h,by simp⟩
theorem pos_get: ∀{l:List Nat} {b:Nat},b∈l→l[pos l b]? =some b
 |[],_,h=>by cases h
 |x::l,b,h=>by
  unfold pos
  cases e:Nat.beq x b with
  |true=>simp [Nat.eq_of_beq_eq_true e]
  |false=>
   rcases List.mem_cons.1 h with h|h
   ·subst h;simp at e
   ·simpa using pos_get h
theorem get_pos: ∀{l:List Nat} {i b:Nat},nodup l=true→l[i]? =some b→pos l b=i
 |[],i,b,_,h=>by simp at h
 |x::l,0,b,_,h=>by
  simp at h;subst h
  simp [pos]
 |x::l,i+1,b,hn,h=>by
  simp only[nodup,Bool.and_eq_true,Bool.not_eq_true']at hn
  have h:l[i]? =some b:=by simpa using h
  have hb:b∈l:=List.mem_of_getElem? h
  have e:Nat.beq x b=false:=by
   cases e:Nat.beq x b with
   |false=>rfl
   |true=>
    rw[Nat.eq_of_beq_eq_true e]at hn
    rw[mem_iff.2 hb]at hn;cases hn.1
  simp only[pos,e]
  rw[get_pos hn.2 h]
section
variable {ι1 ι2:Nat→Option Nat} {H1 H2:Heap} {w:World} {F1 F2:Nat→Prop} {ρ:Nat→Nat} {D:Nat→Bool}
theorem ren1_blk{c:AV} :isBlk (ren1 ρ c)=isBlk c:=by cases c<;>rfl
theorem ren1_writable{c:AV} :writable (ren1 ρ c)=writable c:=by cases c<;>rfl
theorem SRel.ren(hι: ∀b,D b=true→ι2 (ρ b)=ι1 b)(hH: ∀b o,D b=true→hget H2 (ρ b) o=ren1 ρ (hget H1 b o))(hF: ∀x,F1 x→F2 x){c:AV}{v:Value}(hd:dom0 D c=true)(k:SRel ι1 H1 w F1 c v):SRel ι2 H2 w F2 (ren0 ρ c) v:=by
 cases c<;>simp only[dom0]at hd<;>try (cases hd;done)
 case ptr b o=>
  obtain⟨k1,x,k2,k3⟩:=k
  exact⟨by rw[hH _ _ hd,ren1_blk];exact k1,x,by rw[hι _ hd];exact k2,k3⟩
 all_goals first|(cases hd;done)|exact FRel.mono hF (fun _ _ _=>rfl) k
theorem CRel.ren(hι: ∀b,D b=true→ι2 (ρ b)=ι1 b)(hH: ∀b o,D b=true→hget H2 (ρ b) o=ren1 ρ (hget H1 b o))(hF: ∀x,F1 x→F2 x){c:AV}{v:Value}(hd:dom1 D c=true)(k:CRel ι1 H1 w F1 c v):CRel ι2 H2 w F2 (ren1 ρ c) v:=by
 cases c<;>simp only[dom1]at hd
 case undef=>exact k
 case gone=>exact k
 case own b n=>
  obtain⟨k0,ro,sz,n',f,k1,k2,k3⟩:=k
  refine⟨k0,ro,sz,n',f,by rw[hH _ _ hd,k1];rfl,k2,fun e=> ?_⟩
  rw[hι _ hd]
  exact k3 e
 case ptr b o=>
  obtain⟨k1,x,k2,k3⟩:=k
  exact⟨by rw[hH _ _ hd,ren1_blk];exact k1,x,by rw[hι _ hd];exact k2,k3⟩
 case eptr b n i o=>
  obtain⟨k0,ro,sz,n',f,k1,k2,k3⟩:=k
  refine⟨k0,ro,sz,n',f,by rw[hH _ _ hd,k1];rfl,k2,fun e=> ?_⟩
  rw[hι _ hd]
  exact k3 e
 case fn f caps=>
  obtain⟨vs,rfl,k⟩:=k
  refine⟨vs,rfl,All2.mk (by simpa using k.length) fun i p q hp hq=> ?_⟩
  simp only[List.getElem?_map,Option.map_eq_some_iff]at hp
  obtain⟨c,hc,rfl⟩:=hp
  obtain⟨q',hq',hr⟩:=k.get i c hc
  rw[hq]at hq';cases hq'
  exact SRel.ren hι hH hF (List.all_eq_true.1 hd c (List.mem_of_getElem? hc)) hr
 case agg=>exact k.elim
 case tup=>exact k.elim
 case blk=>exact k.elim
 all_goals exact FRel.mono hF (fun _ _ _=>rfl) k
theorem VRel1.ren(hι: ∀b,D b=true→ι2 (ρ b)=ι1 b)(hH: ∀b o,D b=true→hget H2 (ρ b) o=ren1 ρ (hget H1 b o))(hF: ∀x,F1 x→F2 x){c:AV}{v:Value}(hd:domA D c=true)(k:VRel1 ι1 H1 w F1 c v):VRel1 ι2 H2 w F2 (renA ρ c) v:=by
 cases c
 case agg cs=>
  obtain⟨vs,rfl,k⟩:=k
  refine⟨vs,rfl,All2.mk (by simpa using k.length) fun i p q hp hq=> ?_⟩
  simp only[List.getElem?_map,Option.map_eq_some_iff]at hp
  obtain⟨c,hc,rfl⟩:=hp
  obtain⟨q',hq',hr⟩:=k.get i c hc
  rw[hq]at hq';cases hq'
  exact CRel.ren hι hH hF (List.all_eq_true.1 hd c (List.mem_of_getElem? hc)) hr
 case tup=>cases hd
 case gone=>cases hd
 all_goals
  simp only[VRel1,domA,renA]at k hd ⊢
  exact CRel.ren hι hH hF hd k
theorem VRel.ren(hι: ∀b,D b=true→ι2 (ρ b)=ι1 b)(hH: ∀b o,D b=true→hget H2 (ρ b) o=ren1 ρ (hget H1 b o))(hF: ∀x,F1 x→F2 x){c:AV}{v:Value}(hd:domA D c=true)(k:VRel ι1 H1 w F1 c v):VRel ι2 H2 w F2 (renA ρ c) v:=by
 cases c
 case undef=>trivial
 case tup=>cases hd
 case gone=>cases hd
 case agg cs=>exact VRel1.ren (c:= .agg cs) hι hH hF hd k
 all_goals
  simp only[VRel]at k
  have k:=VRel1.ren hι hH hF hd k
  simp only[renA,ren1]at k ⊢
  exact k
theorem LRel.ren(hι: ∀b,D b=true→ι2 (ρ b)=ι1 b)(hH: ∀b o,D b=true→hget H2 (ρ b) o=ren1 ρ (hget H1 b o))(hF: ∀x,F1 x→F2 x){b o:Nat}{c:AV}(hb:D b=true)(hd:dom1 D c=true)(k:LRel ι1 H1 w F1 b o c):LRel ι2 H2 w F2 (ρ b) o (ren1 ρ c):=by
 have hbk:isBlk (hget H2 (ρ b) 0)=isBlk (hget H1 b 0):=by rw[hH _ _ hb,ren1_blk]
 cases c
 case undef=>trivial
 case blk ro sz n f=>
  obtain⟨k1,kd|⟨k2,k3⟩⟩:=k
  ·exact⟨k1,.inl ⟨kd.1,kd.2.1,by rw[hι _ hb];exact kd.2.2⟩⟩
  refine⟨k1,.inr ⟨k2,?_⟩⟩
  rw[hι _ hb]
  exact k3.imp id fun⟨x,C,T,g1,g2,g3⟩=>⟨x,C,T,g1,g2,fun i j hi hj=>by
   obtain⟨av,v,m1,m2,m3⟩:=g3 i j hi hj
   exact⟨av,v,m1,m2,m3.mono hF fun _ _ _=>rfl⟩⟩
 all_goals
  obtain⟨k0,x,v,k1,k2,k3,k4⟩:=k
  have k5:=CRel.ren hι hH hF hd k4
  exact⟨by rw[hbk];exact k0,x,v,by rw[hι _ hb];exact k1,k2,k3,k5⟩
end
theorem liveB_spec{H:Heap}{b:Nat}(h:liveB (H.getD b [])=true):rwLive H b∧(∃z zs,H.getD b []=z::zs):=by
 unfold liveB at h
 cases e:H.getD b []with
 |nil=>rw[e]at h;cases h
 |cons x r=>
  rw[e]at h
  refine⟨?_,x,r,rfl⟩
  have h0:hget H b 0=x:=by unfold hget;rw[e];rfl
  cases hx:isBlk x with
  |true=>
   obtain⟨ro,sz,n,f,rfl⟩:=isBlk_eq hx
   simp only[Bool.and_eq_true,Bool.not_eq_true']at h
   exact .inl ⟨by rw[h0];rfl,by rw[h0];simp [writable,h.1]⟩
  |false=>
   have h':((x::r).all (fun c=> !(isBlk c))&&(x::r).any writable)=true:=by cases x<;>first|exact h|(cases hx;done)
   simp only[Bool.and_eq_true]at h'
   obtain⟨c,hc,hw⟩:=List.any_eq_true.1 h'.2
   obtain⟨o,ho⟩:=List.getElem?_of_mem hc
   refine .inr ⟨by rw[h0];exact hx,o,?_⟩
   unfold hget
   rw[e,List.getD,ho];exact hw
theorem getD_lt{H:Heap}{b:Nat}{z:AV}{zs:List AV}(h:H.getD b []=z::zs):b<H.length:=by
 rcases Nat.lt_or_ge b H.length with h'|h'
 ·exact h'
 ·simp [List.getD,List.getElem?_eq_none h']at h
theorem backWs_mem{σ:Nat→Nat}{b p:Nat}{c:AV} : ∀(ys:Heap) (i:Nat),(b,p,c)∈backWs σ i ys→ ∃j l,ys[j]? =some l∧b=σ (i+j)∧p<l.length∧c=ren1 σ (l.getD p .undef)
 |[],_,h=>by cases h
 |l::ys,i,h=>by
  simp only[backWs,List.mem_append]at h
  rcases h with h|h
  ·have key: ∀(cs:List AV) (o:Nat),(b,p,c)∈cellsW (σ i) cs o→b=σ i∧ ∃q,q<cs.length∧p=o+q∧c=cs.getD q .undef:=by
    intro cs
    induction cs with
    |nil=>intro o h;cases h
    |cons x cs ih=>
     intro o h
     rcases List.mem_cons.1 h with h|h
     ·cases h;exact⟨rfl,0,by simp,rfl,rfl⟩
     ·obtain⟨h1,q,h2,h3,h4⟩:=ih (o+1) h
      exact⟨h1,q+1,by simpa using h2,by omega,by simpa using h4⟩
   obtain⟨h1,q,h2,h3,h4⟩:=key _ _ h
   have h2:q<l.length:=by simpa using h2
   refine⟨0,l,rfl,by simpa using h1,by omega,?_⟩
   rw[h4,h3,Nat.zero_add,List.getD,List.getD,List.getElem?_map,List.getElem?_eq_getElem h2];rfl
  ·obtain⟨j,l',h1,h2,h3⟩:=backWs_mem ys (i+1) h
   exact⟨j+1,l',by simpa using h1,by rw[h2];congr 1;omega,h3⟩
theorem backWs_has{σ:Nat→Nat} : ∀(ys:Heap) (i j p:Nat) (l:List AV),ys[j]? =some l→p<l.length→(σ (i+j),p,ren1 σ (l.getD p .undef))∈backWs σ i ys
 |[],_,_,_,_,h,_=>by simp at h
 |y::ys,i,0,p,l,h,hp=>by
  simp at h;subst h
  simp only[backWs,List.mem_append]
  left
  have key: ∀(cs:List AV) (o q:Nat),q<cs.length→(σ i,o+q,cs.getD q .undef)∈cellsW (σ i) cs o:=by
   intro cs
   induction cs with
   |nil=>intro o q h;simp at h
   |cons x cs ih=>
    intro o q h
    cases q with
    |zero=>exact List.mem_cons.2 (.inl rfl)
    |succ q=>
     have:=ih (o+1) q (by simpa using h)
     rw[show o+1+q=o+(q+1) by omega]at this
     exact List.mem_cons.2 (.inr (by simpa using this))
  have:=key (y.map (ren1 σ)) 0 p (by simpa using hp)
  rw[List.getD,List.getElem?_map,List.getElem?_eq_getElem hp]at this
  rw[List.getD,List.getElem?_eq_getElem hp]
  simpa using this
 |y::ys,i,j+1,p,l,h,hp=>by
  have:=backWs_has (σ:=σ) ys (i+1) j p l (by simpa using h) hp
  rw[show i+1+j=i+(j+1) by omega]at this
  exact List.mem_append.2 (.inr this)
end Go.Vc
namespace Go.Vc
open Go Go.RowKit
section
variable {E:Env} {S:Base} {ι:Nat→Option Nat} {st:St} {a:Act} {w:World}
theorem SRel.toC{H:Heap}{F:Nat→Prop}{c:AV}{v:Value}(k:SRel ι H w F c v):CRel ι H w F c v:=by
 cases c
 case ptr=>exact k
 case fn f caps=>
  have k':FRel w F (.fn f caps) v:=k
  cases k' with
  |fn _ _ vs g u hl h1 h2 h3=>
   refine⟨vs,rfl,All2.mk hl.symm fun i p q hp hq=> ?_⟩
   have hi:i<caps.length:=(List.getElem?_eq_some_iff.1 hp).1
   have e1:=h1 i hi
   have e2:=h2 i hi
   rw[hp]at e1;cases e1
   rw[hq]at e2;cases e2
   have e3:=h3 i hi
   generalize g i=x at e3
   cases x<;>first|exact e3|(cases e3;done)
 all_goals
  simp only[SRel]at k
  first|exact k|(cases k;done)
def subH(H:Heap)(L:List Nat):Heap:=L.map fun b=>(H.getD b []).map (ren1 (pos L))
def subI(ι:Nat→Option Nat)(L:List Nat)(i:Nat):Option Nat:=(L[i]?).bind ι
theorem subI_pos{L:List Nat}{b:Nat}(hb:b∈L):subI ι L (pos L b)=ι b:=by simp [subI,pos_get hb]
theorem subH_pos{H:Heap}{L:List Nat}{b:Nat}(hb:b∈L)(o:Nat):hget (subH H L) (pos L b) o=ren1 (pos L) (hget H b o):=by
 have e:(subH H L).getD (pos L b) []=(H.getD b []).map (ren1 (pos L)):=by
  unfold subH
  rw[List.getD,List.getElem?_map,pos_get hb];rfl
 unfold hget
 rw[e]
 generalize H.getD b []=l
 rw[List.getD,List.getElem?_map,List.getD]
 cases l[o]? <;>rfl
theorem subH_none{H:Heap}{L:List Nat}{i:Nat}(hi:L.length≤i)(o:Nat):hget (subH H L) i o= .undef:=hget_ge (by simpa[subH]using hi) o
theorem rwLive_ren{ρ:Nat→Nat}{H H':Heap}{b b':Nat}(h: ∀o,hget H' b' o=ren1 ρ (hget H b o))(k:rwLive H' b'):rwLive H b:=by
 unfold rwLive at*
 simpa only[h,ren1_blk,ren1_writable]using k
theorem hcall_sound(hE:E.Ok){o:Oper}{c:Go.Call}{x0:Operand}{f:FuncId}{caps:List AV}(ho:o.op= .call c)(hc:c.callee= .value x0)(hx0:evalA st.tm x0= .fn f caps)(h:Sim S ι st a w){nb:Nat}{Nw:Nat→Prop}(hN0:Nw nb)(hN: ∀b,Nw b→(∀p,hget st.hp b p= .undef)∧ι b=none)
  {K:AV→Ws→Prop} (hKn: ∀av ws,K av ws→ ∀b p c,(b,p,c)∈ws→nb<b→Nw b) (hk:hcallA E st.hp nb f (c.args.toList.map (evalA st.tm)++caps) K) {next:Act→World→Prop} {Q:Exit→Act→World→Prop}
  (hnext: ∀ι' av ws v w',K av ws→Sim S ι' ⟨st.tm,hwr st.hp ws⟩ a w'→VR S ι' (hwr st.hp ws) w' av v→(∀b,ι' b≠none→ι b≠none∨ ∃p c,(b,p,c)∈ws)→next (a.put o.dst v) w'):o.wp E.P a w next Q:=by
 have hfn:=h.eval x0
 rw[hx0]at hfn
 obtain⟨cv,hfv,hcv⟩:=(show CR S ι st.hp w (.fn f caps) _ from hfn)
 have hargs:All2 (VR S ι st.hp w) (c.args.toList.map (evalA st.tm)++caps) (c.args.toList.map a.eval++cv):=by
  refine All2.append (All2.mk (by simp) fun i x y hx hy=> ?_) (hcv.imp fun _ _ k=>VRel.of_VRel1 (by
   have k2:=SRel.toC k
   rename_i p q
   cases p<;>first|exact k2|exact k2.elim|exact(FRel.noGone k).elim))
  simp only[List.getElem?_map,Option.map_eq_some_iff]at hx hy
  obtain⟨o1,e1,rfl⟩:=hx
  obtain⟨o2,e2,rfl⟩:=hy
  rw[e1]at e2;cases e2
  exact h.eval o1
 generalize hvs:c.args.toList.map a.eval++cv=vs at hargs
 generalize c.args.toList.map (evalA st.tm)++caps=as at hk hargs
 unfold hcallA at hk
 generalize blksOf st.hp as=L at hk
 obtain⟨hcond,hk⟩:=chk_iff.1 hk
 simp only[Bool.and_eq_true]at hcond
 obtain⟨⟨hnd,hlv⟩,hdom⟩:=hcond
 have hlive: ∀b,b∈L→liveB (st.hp.getD b [])=true:=fun b hb=>by
  have:=List.all_eq_true.1 hlv b hb
  simp only[Bool.and_eq_true]at this;exact this.1
 have hdc: ∀b,b∈L→ ∀o,dom1 (mem L) (hget st.hp b o)=true:=fun b hb o=>by
  have:=List.all_eq_true.1 hlv b hb
  simp only[Bool.and_eq_true]at this
  unfold hget
  rw[List.getD]
  cases e:(st.hp.getD b [])[o]? with
  |none=>rfl
  |some x=>exact List.all_eq_true.1 this.2 x (List.mem_of_getElem? e)
 have hNL: ∀b,Nw b→b∉L:=fun b hb hm=>by
  have hr:=(liveB_spec (hlive b hm)).1
  have hu:=(hN b hb).1
  rcases hr with⟨g,_⟩|⟨_,o,g⟩<;>rw[hu]at g<;>cases g
 cases hs:E.hspec f (as.map (renA (pos L))) (subH st.hp L)with
 |none=>rw[show(L.map fun b=>(st.hp.getD b []).map (ren1 (pos L)))=subH st.hp L from rfl,hs]at hk;exact hk.elim
 |some q=>
  obtain⟨pre,rs,H'⟩:=q
  rw[show(L.map fun b=>(st.hp.getD b []).map (ren1 (pos L)))=subH st.hp L from rfl,hs]at hk
  obtain⟨hp,hk⟩:=preP_iff.1 hk
  obtain⟨hcond2,hK⟩:=chk_iff.1 hk
  simp only[Bool.and_eq_true]at hcond2
  obtain⟨⟨⟨_,hlen⟩,hdomH⟩,hdomR⟩:=hcond2
  obtain⟨⟨fn,cd,hfn',hbody,hname⟩,hcall⟩:=hE.hspec _ _ _ _ _ _ hs
  have hcall:=hcall hp
  let Pd:Nat→Prop:=fun x=> ∃b,b∈L∧ι b=some x
  have hPd: ∀x,Pd x→x<w.heap.size:=fun x ⟨b,_,hb⟩=>(h.fresh b x hb).2
  let F1:Nat→Prop:=fun x=>FZ S ι st.hp w x∨Pd x
  have hsub0: ∀i x,subI ι L i=some x→ ∃b,b∈L∧pos L b=i∧ι b=some x:=fun i x hi=>by
   unfold subI at hi
   cases e:L[i]? with
   |none=>rw[e]at hi;cases hi
   |some b=>rw[e]at hi;exact⟨b,List.mem_of_getElem? e,get_pos hnd e,hi⟩
  have hFc0: ∀x,FZ S ι st.hp w x→Fz F1 w.heap.size (subI ι L) (subH st.hp L) w x:=fun x hx=>⟨.inl (.inl hx),hx.2.1,fun i hi he=>by
   obtain⟨b,hb,rfl,hb2⟩:=hsub0 i x he
   exact hx.2.2 b (rwLive_ren (subH_pos hb) hi) hb2⟩
  let S1:Base:=⟨F1,w,fun x hx=>hx.elim (fun g=>g.2.1) (hPd x),Pd,fun x hx=> .inr hx,subI ι L,subH st.hp L,Fz F1 w.heap.size (subI ι L) (subH st.hp L) w,fun b x hb=>by
   unfold subI at hb
   cases e:L[b]? with
   |none=>rw[e]at hb;cases hb
   |some y=>simpa[subH]using(List.getElem?_eq_some_iff.1 e).1,fun g=>(h.gl g).imp id fun k=>k.mono hFc0 fun _ _ _=>rfl⟩
  have hsub: ∀i x,subI ι L i=some x→ ∃b,b∈L∧pos L b=i∧ι b=some x:=fun i x hi=>by
   unfold subI at hi
   cases e:L[i]? with
   |none=>rw[e]at hi;cases hi
   |some b=>rw[e]at hi;exact⟨b,List.mem_of_getElem? e,get_pos hnd e,hi⟩
  have hFc: ∀x,FZ S ι st.hp w x→FZ S1 (subI ι L) (subH st.hp L) w x:=fun x hx=>⟨.inl (.inl hx),hx.2.1,fun i hi he=>by
   obtain⟨b,hb,rfl,hb2⟩:=hsub i x he
   exact hx.2.2 b (rwLive_ren (subH_pos hb) hi) hb2⟩
  have hι1: ∀b,mem L b=true→subI ι L (pos L b)=ι b:=fun b hb=>subI_pos (mem_iff.1 hb)
  have hH1: ∀b o,mem L b=true→hget (subH st.hp L) (pos L b) o=ren1 (pos L) (hget st.hp b o):=fun b o hb=>subH_pos (mem_iff.1 hb) o
  have hsim1:Sim S1 (subI ι L) ⟨as.map (renA (pos L)),subH st.hp L⟩ {tmps:=vs.toArray,defers:=[]} w:=by
   refine⟨Bel.refl _ _ _,rfl,fun t av ht=> ?_,fun i o=> ?_,fun i j x h1 h2=> ?_,fun i x hi=> ?_,fun i x hi=>S1.dom0 i x hi,Stp.refl⟩
   ·simp only[List.getElem?_map,Option.map_eq_some_iff]at ht
    obtain⟨x,hx,rfl⟩:=ht
    obtain⟨v,hv,hr⟩:=hargs.get t x hx
    exact⟨v,by simpa using hv,VRel.ren hι1 hH1 hFc (List.all_eq_true.1 hdom x (List.mem_of_getElem? hx)) hr⟩
   ·show LRel _ _ _ _ i o (hget (subH st.hp L) i o)
    rcases Nat.lt_or_ge i L.length with hi|hi
    ·have hb:L[i]? =some L[i]:=List.getElem?_eq_getElem hi
     have hm:L[i]∈L:=List.mem_of_getElem? hb
     have e:=get_pos hnd hb
     have k:=LRel.ren (ρ:=pos L) (D:=mem L) hι1 hH1 hFc (mem_iff.2 hm) (hdc _ hm o) (h.hp L[i] o)
     rw[e]at k
     have e2:=subH_pos (H:=st.hp) hm o
     rw[e]at e2
     rw[e2];exact k
    ·rw[subH_none hi];trivial
   ·obtain⟨b1,m1,rfl,k1⟩:=hsub i x h1
    obtain⟨b2,m2,rfl,k2⟩:=hsub j x h2
    rw[h.inj b1 b2 x k1 k2]
   ·obtain⟨b,m,rfl,k⟩:=hsub i x hi
    exact⟨.inr ⟨b,m,k⟩,(h.fresh b x k).2⟩
  have hrun:(execOp a.eval o).run E.P w= .ok (.enter f vs.toArray) w:=by
   have hnm:fn.name≠ "runtime.NumGoroutine" :=by simpa using hname
   have harr:vs.toArray=c.args.map a.eval++cv.toArray:=by rw[←hvs];apply Array.ext';simp
   rw[harr]
   simp [execOp,ho,resolve,hc,hfv,Deferred.ofValue,invoke,callFunc,hfn',hbody,hnm]
  unfold Oper.wp
  rw[hrun]
  refine(hcall S1 (subI ι L) w vs (Nat.le_refl _) (by simpa using hargs.length.symm) hsim1).mono fun e w' ⟨us,ι',he,hul,hs'⟩=> ?_
  subst he
  let σ:Nat→Nat:=sgm L nb
  let ws:Ws:=backWs σ 0 H'
  have hσn: ∀i,L.length≤i→σ i=nb+(i-L.length):=fun i hi=>by simp [σ,sgm,List.getD,List.getElem?_eq_none hi]
  let NB:Nat→Prop:=fun b=>nb≤b∧b<nb+(H'.length-L.length)
  have hNB: ∀b,NB b→ ∃i,L.length≤i∧i<H'.length∧σ i=b:=fun b hb=>⟨L.length+(b-nb),by omega,by have:=hb.1;have:=hb.2;omega,by rw[hσn _ (by omega)];have:=hb.1;omega⟩
  have hBN: ∀i,L.length≤i→i<H'.length→NB (σ i):=fun i h1 h2=>by
   rw[hσn i h1]
   exact⟨by omega,by omega⟩
  let ι2:Nat→Option Nat:=fun b=>if mem L b then ι' (pos L b)else if nb≤b∧b<nb+(H'.length-L.length)then ι' (L.length+(b-nb))else ι b
  have hι2L: ∀b,b∈L→ι2 b=ι' (pos L b):=fun b hb=>by simp [ι2,mem_iff.2 hb]
  have hmem': ∀b,b∉L→mem L b=false:=fun b hb=>by
   cases e:mem L b with
   |false=>rfl
   |true=>exact absurd (mem_iff.1 e) hb
  have hι2o: ∀b,b∉L→ ¬NB b→ι2 b=ι b:=fun b hb hn=>by
   simp only[ι2,hmem' b hb]
   rw[if_neg (by simp),if_neg hn]
  have hsl: ∀(l:List Nat) (ys:Heap),sameLen l st.hp ys=true→(∀(i b:Nat),l[i]? =some b→ ∃y,ys[i]? =some y∧(st.hp.getD b []).length=y.length)∧l.length≤ys.length∧ ∀(i:Nat) y,l.length≤i→ys[i]? =some y→y≠[]:=by
   intro l
   induction l with
   |nil=>
    intro ys hl
    refine⟨fun i b hb=>by simp at hb,Nat.zero_le _,fun i y _ hy e=> ?_⟩
    unfold sameLen at hl
    have:=List.all_eq_true.1 hl y (List.mem_of_getElem? hy)
    rw[e]at this;cases this
   |cons b l ih=>
    intro ys hl
    unfold sameLen at hl
    cases ys with
    |nil=>cases hl
    |cons y ys=>
     simp only[Bool.and_eq_true]at hl
     obtain⟨g1,g2,g4⟩:=ih ys hl.2
     refine⟨fun i b' hb=> ?_,by simpa using g2,fun i y' hi hy=> ?_⟩
     ·cases i with
      |zero=>simp at hb;subst hb;exact⟨y,rfl,Nat.eq_of_beq_eq_true hl.1⟩
      |succ i=>simpa using g1 i b' (by simpa using hb)
     ·cases i with
      |zero=>simp at hi
      |succ i=>exact g4 i y' (by simpa using hi) (by simpa using hy)
  obtain⟨hsl1,hsl2,hsl4⟩:=hsl L H' hlen
  have hσ: ∀b,b∈L→σ (pos L b)=b:=fun b hb=>by simp [σ,sgm,List.getD,pos_get hb]
  have hσL: ∀i,i<L.length→σ i∈L∧pos L (σ i)=i:=fun i hi=>by
   have hb:L[i]? =some L[i]:=List.getElem?_eq_getElem hi
   have e:σ i=L[i]:=by simp [σ,sgm,List.getD,hb]
   rw[e];exact⟨List.mem_of_getElem? hb,get_pos hnd hb⟩
  have hNw: ∀i,L.length≤i→i<H'.length→Nw (σ i):=fun i h1 h2=>by
   by_cases e:i=L.length
   ·rw[hσn i h1,e,Nat.sub_self,Nat.add_zero];exact hN0
   ·have hy:H'[i]? =some H'[i]:=List.getElem?_eq_getElem h2
    have hm:=backWs_has (σ:=σ) H' 0 i 0 _ hy (List.length_pos_iff.2 (hsl4 i _ h1 hy))
    rw[Nat.zero_add]at hm
    exact hKn _ _ hK _ _ _ hm (by rw[hσn i h1];omega)
  have hNBw: ∀b,NB b→Nw b:=fun b hb=>by
   obtain⟨i,h1,h2,rfl⟩:=hNB b hb
   exact hNw i h1 h2
  have hNBL: ∀b,NB b→b∉L:=fun b hb=>hNL b (hNBw b hb)
  have hι2n: ∀i,L.length≤i→i<H'.length→ι2 (σ i)=ι' i:=fun i h1 h2=>by
   have hb:=hBN i h1 h2
   simp only[ι2,hmem' _ (hNBL _ hb)]
   rw[if_neg (by simp),if_pos hb,hσn i h1]
   congr 1;omega
  have hσi: ∀i j,i<H'.length→j<H'.length→σ i=σ j→i=j:=fun i j hi hj e=>by
   rcases Nat.lt_or_ge i L.length with hi1|hi1<;>rcases Nat.lt_or_ge j L.length with hj1|hj1
   ·rw[←(hσL i hi1).2,←(hσL j hj1).2,e]
   ·exact absurd (by rw[←e];exact(hσL i hi1).1) (hNBL _ (hBN j hj1 hj))
   ·exact absurd (by rw[e];exact(hσL j hj1).1) (hNBL _ (hBN i hi1 hi))
   ·rw[hσn i hi1,hσn j hj1]at e;omega
  have hgL: ∀i o,i<H'.length→hget (hwr st.hp ws) (σ i) o=ren1 σ (hget H' i o):=fun i o hi=>by
   have hy:H'[i]? =some H'[i]:=List.getElem?_eq_getElem hi
   have hgi:hget H' i o=(H'[i]).getD o .undef:=by simp [hget,List.getD,hy]
   rcases Nat.lt_or_ge o (H'[i]).length with ho|ho
   ·have hm:=backWs_has (σ:=σ) H' 0 i o _ hy ho
    rw[Nat.zero_add]at hm
    obtain⟨c',h1,h2⟩:=hwr_mem ws st.hp (σ i) o _ hm
    obtain⟨j,l,g1,g2,g3,g4⟩:=backWs_mem H' 0 h1
    rw[Nat.zero_add]at g2
    have hj:j<H'.length:=(List.getElem?_eq_some_iff.1 g1).1
    have hij:i=j:=hσi i j hi hj g2
    subst hij
    rw[hy]at g1;cases g1
    rw[h2,g4,hgi]
   ·have hu:hget H' i o= .undef:=by rw[hgi,List.getD,List.getElem?_eq_none ho];rfl
    rw[hu]
    rcases hwr_either ws st.hp (σ i) o with h1|⟨c',h1,h2⟩
    ·rw[h1]
     rcases Nat.lt_or_ge i L.length with hi1|hi1
     ·have hb:L[i]? =some L[i]:=List.getElem?_eq_getElem hi1
      obtain⟨y,g1,g2⟩:=hsl1 i _ hb
      rw[hy]at g1;cases g1
      have e:σ i=L[i]:=by simp [σ,sgm,List.getD,hb]
      rw[e]
      unfold hget
      rw[List.getD,List.getElem?_eq_none (by rw[g2];exact ho)];rfl
     ·exact(hN _ (hNw i hi1 hi)).1 o
    ·obtain⟨j,l,g1,g2,g3,g4⟩:=backWs_mem H' 0 h1
     rw[Nat.zero_add]at g2
     have hj:j<H'.length:=(List.getElem?_eq_some_iff.1 g1).1
     have hij:i=j:=hσi i j hi hj g2
     subst hij
     rw[hy]at g1;cases g1
     omega
  have hgo: ∀b o,b∉L→ ¬NB b→hget (hwr st.hp ws) b o=hget st.hp b o:=fun b o hb hn=>by
   rcases hwr_either ws st.hp b o with h1|⟨c',h1,h2⟩
   ·exact h1
   ·obtain⟨j,l,g1,g2,g3,g4⟩:=backWs_mem H' 0 h1
    rw[Nat.zero_add]at g2
    have hj:j<H'.length:=(List.getElem?_eq_some_iff.1 g1).1
    rcases Nat.lt_or_ge j L.length with hj1|hj1
    ·exact absurd (by rw[g2];exact(hσL j hj1).1) hb
    ·exact absurd (by rw[g2];exact hBN j hj1 hj) hn
  have hgB: ∀b o,b∈L→hget (hwr st.hp ws) b o=ren1 σ (hget H' (pos L b) o):=fun b o hb=>by
   have hp:=(List.getElem?_eq_some_iff.1 (pos_get hb)).1
   have:=hgL (pos L b) o (by omega)
   rwa [hσ b hb]at this
  have notPd: ∀x,FZ S ι st.hp w x→ ¬Pd x:=fun x hx ⟨b,hb,he⟩=>hx.2.2 b (liveB_spec (hlive b hb)).1 he
  have hF2: ∀x,FZ S1 ι' H' w' x→FZ S ι2 (hwr st.hp ws) w' x:=fun x hx=>by
   have hin:S.F0 x∨S.w0.heap.size≤x:=by
    rcases hx.1 with(g|⟨b,_,g⟩)|g
    ·exact g.1
    ·exact h.own g
    ·exact .inr (Nat.le_trans h.below.size g)
   refine⟨hin,hx.2.1,fun b hb he=> ?_⟩
   by_cases hbL:b∈L
   ·rw[hι2L b hbL]at he
    exact hx.2.2 _ (rwLive_ren (fun o=>hgB b o hbL) hb) he
   ·by_cases hbn:NB b
    ·obtain⟨i,i1,i2,rfl⟩:=hNB b hbn
     rw[hι2n i i1 i2]at he
     exact hx.2.2 _ (rwLive_ren (fun o=>hgL i o i2) hb) he
    ·rw[hι2o b hbL hbn]at he
     have hlb:=rwLive_congr (H:=st.hp) (fun o=>hgo b o hbL hbn) hb
     rcases hx.1 with(g|⟨b',hb',g⟩)|g
     ·exact g.2.2 b hlb he
     ·exact hbL (by rw[h.inj b b' x he g];exact hb')
     ·have:=(h.fresh b x he).2
      have g:w.heap.size≤x:=g
      omega
  have hhist:Stp (subI ι L) (subH st.hp L) w (FZ S1 (subI ι L) (subH st.hp L) w) ι' H' w' (FZ S1 ι' H' w'):=hs'.hist
  have hsame: ∀b x,b∉L→ι b=some x→w'.heap[x]? =w.heap[x]? :=fun b x hb hx=>hs'.below.block x (h.fresh b x hx).2 fun⟨b',hb',g⟩=>hb (by rw[h.inj b b' x hx g];exact hb')
  have hstp:Stp ι st.hp w (FZ S ι st.hp w) ι2 (hwr st.hp ws) w' (FZ S ι2 (hwr st.hp ws) w'):=by
   refine⟨fun x hx=>hF2 x (hhist.fz x (hFc x hx)),fun x o hx=>hhist.cell x o (hFc x hx),fun b x hx hb=> ?_,fun b ro sz n f hb=> ?_⟩
   ·by_cases hbL:b∈L
    ·obtain⟨g1,g2⟩:=hhist.box (pos L b) x (by rw[subI_pos hbL];exact hx) (by rw[subH_pos hbL,ren1_blk];exact hb)
     exact⟨by rw[hι2L b hbL];exact g1,by rw[hgB b 0 hbL,ren1_blk];exact g2⟩
    ·have hbn: ¬NB b:=fun e=>by rw[(hN b (hNBw b e)).2]at hx;cases hx
     exact⟨by rw[hι2o b hbL hbn];exact hx,by rw[hgo b 0 hbL hbn];exact hb⟩
   ·by_cases hbL:b∈L
    ·obtain⟨ro',sz',n',f',g1,g2,g3⟩:=hhist.arr (pos L b) ro sz n f (by rw[subH_pos hbL,hb];rfl)
     refine⟨ro',sz',n',f',by rw[hgB b 0 hbL,g1];rfl,g2,fun e=> ?_⟩
     obtain⟨k0,k1,k2⟩:=g3 e
     rw[hι2L b hbL,k1,subI_pos hbL]
     refine⟨k0,rfl,fun x C T hx hC=>k2 x C T (by rw[subI_pos hbL];exact hx) hC⟩
    ·have hbn: ¬NB b:=fun e=>by rw[(hN b (hNBw b e)).1]at hb;cases hb
     refine⟨ro,_,n,f,by rw[hgo b 0 hbL hbn];exact hb,Nat.le_refl _,fun _=>⟨rfl,hι2o b hbL hbn,fun x C T hx hC=>⟨C,by rw[hsame b x hbL hx];exact hC,rfl⟩⟩⟩
  have hι3: ∀i,ltB H'.length i=true→ι2 (σ i)=ι' i:=fun i hi=>by
   have hi:i<H'.length:=Nat.le_of_ble_eq_true hi
   rcases Nat.lt_or_ge i L.length with hi1|hi1
   ·rw[hι2L _ (hσL i hi1).1,(hσL i hi1).2]
   ·exact hι2n i hi1 hi
  have hH3: ∀i o,ltB H'.length i=true→hget (hwr st.hp ws) (σ i) o=ren1 σ (hget H' i o):=fun i o hi=>hgL i o (Nat.le_of_ble_eq_true hi)
  have hdH: ∀i o,dom1 (ltB H'.length) (hget H' i o)=true:=fun i o=>by
   unfold hget
   rw[List.getD,List.getD]
   cases e:H'[i]? with
   |none=>rfl
   |some l=>
    simp only[Option.getD_some]
    cases e2:l[o]? with
    |none=>rfl
    |some x=>exact List.all_eq_true.1 (List.all_eq_true.1 hdomH l (List.mem_of_getElem? e)) x (List.mem_of_getElem? e2)
  have hsim2:Sim S ι2 ⟨st.tm,hwr st.hp ws⟩ a w':=by
   refine⟨h.below.then ⟨hs'.below.os,hs'.below.tape,hs'.below.output,hs'.below.size,fun k hk hn=>hs'.below.block k (Nat.lt_of_lt_of_le hk h.below.size) fun⟨b,_,g⟩=> ?_⟩,h.defers,fun t av ht=> ?_,fun b o=> ?_,fun b1 b2 x h1 h2=> ?_,fun b x hx=> ?_,fun b x hx=> ?_,h.hist.trans hstp⟩
   ·rcases(h.fresh b k g).1 with g1|g1
    ·omega
    ·exact hn g1
   ·obtain⟨v,h1,h2⟩:=h.tm t av ht
    exact⟨v,h1,h2.step hstp⟩
   ·show LRel _ _ _ _ b o (hget (hwr st.hp ws) b o)
    by_cases hbL:b∈L
    ·have hp:=(List.getElem?_eq_some_iff.1 (pos_get hbL)).1
     have k:=LRel.ren (ρ:=σ) (D:=ltB H'.length) hι3 hH3 hF2 (b:=pos L b) (o:=o) (by simp only[ltB,Nat.blt_eq];omega) (hdH _ o) (hs'.hp (pos L b) o)
     rw[hσ b hbL]at k
     rw[hgB b o hbL];exact k
    ·by_cases hbn:NB b
     ·obtain⟨i,i1,i2,rfl⟩:=hNB b hbn
      have k:=LRel.ren (ρ:=σ) (D:=ltB H'.length) hι3 hH3 hF2 (b:=i) (o:=o) (by simp only[ltB,Nat.blt_eq];omega) (hdH _ o) (hs'.hp i o)
      rw[hgL i o i2];exact k
     ·rw[hgo b o hbL hbn]
      exact(h.hp b o).step hstp (fun _=>hι2o b hbL hbn) (fun x hx _=>⟨World.cell?_of_block (hsame b x hbL hx),World.frozen?_of_block (hsame b x hbL hx)⟩) (fun _=>⟨hι2o b hbL hbn,fun x hx=>hsame b x hbL hx⟩)
   ·have key: ∀b x,ι2 b=some x→(∃i,σ i=b∧ι' i=some x)∨(b∉L∧ ¬NB b∧ι b=some x):=fun b x hx=>by
     by_cases hbL:b∈L
     ·exact .inl ⟨pos L b,hσ b hbL,by rw[←hι2L b hbL];exact hx⟩
     ·by_cases hbn:NB b
      ·obtain⟨i,i1,i2,rfl⟩:=hNB b hbn
       exact .inl ⟨i,rfl,by rw[←hι2n i i1 i2];exact hx⟩
      ·exact .inr ⟨hbL,hbn,by rw[←hι2o b hbL hbn];exact hx⟩
    have clash: ∀i b x,ι' i=some x→b∉L→ι b=some x→False:=fun i b x h1 h2 h3=>by
     rcases(hs'.fresh i x h1).1 with g|⟨b',hb',g⟩
     ·have:=(h.fresh b x h3).2
      have g:w.heap.size≤x:=g
      omega
     ·exact h2 (by rw[h.inj b b' x h3 g];exact hb')
    rcases key b1 x h1 with⟨i,e1,g1⟩|⟨m1,n1,g1⟩<;>rcases key b2 x h2 with⟨j,e2,g2⟩|⟨m2,n2,g2⟩
    ·rw[←e1,←e2,hs'.inj i j x g1 g2]
    ·exact(clash i b2 x g1 m2 g2).elim
    ·exact(clash j b1 x g2 m1 g1).elim
    ·exact h.inj b1 b2 x g1 g2
   ·have conv: ∀i,ι' i=some x→(S.w0.heap.size≤x∨S.Pd x)∧x<w'.heap.size:=fun i hi=>by
     obtain⟨g1,g2⟩:=hs'.fresh i x hi
     refine⟨?_,g2⟩
     rcases g1 with g1|⟨b',_,g⟩
     ·exact .inl (Nat.le_trans h.below.size g1)
     ·exact(h.fresh b' x g).1
    by_cases hbL:b∈L
    ·exact conv _ (by rw[←hι2L b hbL];exact hx)
    ·by_cases hbn:NB b
     ·obtain⟨i,i1,i2,rfl⟩:=hNB b hbn
      exact conv i (by rw[←hι2n i i1 i2];exact hx)
     ·rw[hι2o b hbL hbn]at hx
      exact⟨(h.fresh b x hx).1,Nat.lt_of_lt_of_le (h.fresh b x hx).2 hs'.below.size⟩
   ·show b<(hwr st.hp ws).length
    by_cases hbL:b∈L
    ·obtain⟨_,z,zs,hz⟩:=liveB_spec (hlive b hbL)
     exact Nat.lt_of_lt_of_le (getD_lt hz) (hwr_len _ _)
    ·by_cases hbn:NB b
     ·obtain⟨i,i1,i2,rfl⟩:=hNB b hbn
      have hy:H'[i]? =some H'[i]:=List.getElem?_eq_getElem i2
      have hm:=backWs_has (σ:=σ) H' 0 i 0 _ hy (List.length_pos_iff.2 (hsl4 i _ i1 hy))
      rw[Nat.zero_add]at hm
      have key: ∀(l:Ws) (H:Heap) b p c,(b,p,c)∈l→b<(hwr H l).length:=by
       intro l
       induction l with
       |nil=>intro H b p c h;cases h
       |cons q l ih=>
        intro H b p c h
        obtain⟨b1,p1,c1⟩:=q
        rcases List.mem_cons.1 h with h|h
        ·cases h
         exact Nat.lt_of_lt_of_le (length_hset H b p c).2 (hwr_len _ _)
        ·exact ih _ b p c h
      exact key _ _ _ _ _ hm
     ·rw[hι2o b hbL hbn]at hx
      exact Nat.lt_of_lt_of_le (h.dom b x hx) (hwr_len _ _)
  have hvals:All2 (VRel1 ι2 (hwr st.hp ws) w' (FZ S ι2 (hwr st.hp ws) w')) (rs.map (renA σ)) us:=by
   refine All2.mk (by simpa using hul.symm) fun i p q hp hq=> ?_
   simp only[List.getElem?_map,Option.map_eq_some_iff]at hp
   obtain⟨r,hr,rfl⟩:=hp
   have hc:=List.all_eq_true.1 hdomR r (List.mem_of_getElem? hr)
   simp only[Bool.and_eq_true]at hc
   obtain⟨v,h1,h2⟩:=hs'.tm i r hr
   have h1:us[i]? =some v:=by simpa using h1
   rw[hq]at h1;cases h1
   have hv1:VRel1 ι' H' w' (FZ S1 ι' H' w') r q:=by
    cases r<;>first|exact h2|(cases hc.2;done)
   exact VRel1.ren hι3 hH3 hF2 hc.1 hv1
  have hvalR:VR S ι2 (hwr st.hp ws) w' (tupR (rs.map (renA σ))) (pack us):=by
   unfold pack
   match hr:rs.map (renA σ),us,hvals with
   |[],[],_=>exact⟨[],rfl,trivial⟩
   |[r],[u],hv=>
    simp only[tupR]
    have:=hv.1
    exact VRel.of_VRel1 this
   |r::r'::l,u::u'::us,hv=>
    rw[dif_neg (by simp)]
    exact⟨_,rfl,hv⟩
  refine hnext ι2 _ ws (pack us) w' hK hsim2 hvalR fun b hb=> ?_
  have hmem: ∀i,i<H'.length→(∃y,H'[i]? =some y∧y≠[])→ ∃p c,(σ i,p,c)∈ws:=fun i _ ⟨y,hy,hne⟩=>by
   have:=backWs_has (σ:=σ) H' 0 i 0 y hy (List.length_pos_iff.2 hne)
   rw[Nat.zero_add]at this
   exact⟨0,_,this⟩
  by_cases hbL:b∈L
  ·right
   obtain⟨y,hy,hl⟩:=hsl1 _ _ (pos_get hbL)
   obtain⟨_,z,zs,hz⟩:=liveB_spec (hlive b hbL)
   have:=hmem (pos L b) (List.getElem?_eq_some_iff.1 hy).1 ⟨y,hy,fun e=>by rw[hz,e]at hl;simp at hl⟩
   rwa [hσ b hbL]at this
  ·by_cases hbn:NB b
   ·right
    obtain⟨i,i1,i2,rfl⟩:=hNB b hbn
    have hy:H'[i]? =some H'[i]:=List.getElem?_eq_getElem i2
    exact hmem i i2 ⟨_,hy,hsl4 i _ i1 hy⟩
   ·left
    rw[hι2o b hbL hbn]at hb;exact hb
end
end Go.Vc
