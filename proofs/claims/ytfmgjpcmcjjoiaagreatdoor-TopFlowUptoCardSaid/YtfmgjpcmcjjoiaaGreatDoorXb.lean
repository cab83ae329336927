/- Part of a proof: the executor and its soundness. -/
import Derived.Test.YtfmgjpcmcjjoiaaGreatDoorXa
import Derived.Deep.AppendSrc
import Derived.Great.FillDense
import Derived.Laws.BytesString
import Derived.Laws.IdiomStrings
import Derived.Laws.MakeOwn
import Derived.Laws.Slices
import Derived.Laws.Small
import Derived.Great.BuildSlice
import Derived.ProofKit
import Derived.ChangeSame
import Derived.ChangeArms
import Derived.Carry
import Derived.Laws.StructEq
import Derived.LoopN
import Derived.Laws.IdiomCopy
import Derived.Shelf.Spec.SlicesInsertGrow
import Derived.Shelf.SlGeneric
import Derived.Shelf.SlBodiesN
import Derived.Shelf.RegionOpenPlain
import Derived.WalkKit
import Derived.Deep.LoopGhost
import Derived.Deep.RegionLaw
import Derived.Lib.Walk
import Derived.Sort.WalkB12
import Derived.Lib.SliceRun
import Derived.Lib.SlicesDelete
open Go.IntKind (i64 u64 u8)
open Int (toNat)
set_option maxRecDepth 100000
set_option maxHeartbeats 4000000
set_option linter.all false
noncomputable section
namespace Go.Vc
open Go Go.RowKit
section
variable {E:Env} {S:dF} {ι:Nat→Option Nat} {st:St} {a:Act} {w:World}
theorem Dw(H:Heap)(b:Nat)(c:AV):bm H [(b,0,c)]=bl H b 0 c:=rfl
theorem aP.I5(h:aP S ι st a w){w':World}(hb:Below w.heap.size w w'){b x:Nat}(pc:w.heap.size≤x)(WC:x<w'.heap.size){sz n c:Nat}{f:Nat→List AV}{C:Array Value}{T:TypeId}
  (dK:n≤dg) (pU:n≤c) (hC:w'.heap[x]? =some (.cells C T (0,0))) (eZ:C.size=c*sz) {F':Nat→Prop} (hF': ∀y,F' y→FZ S ι st.hp w y∨(w.heap.size≤y∧y<w'.heap.size∧y≠x))
  (hv: ∀i j,i<n→j<sz→ ∃av u,(f i)[j]? =some av∧C[i*sz+j]? =some u∧aR w' F' av u)
  (fG:((∀o,aj st.hp b o= .undef)∧ι b=none)∨ ∃n0 f0,aj st.hp b 0= .ah false sz n0 f0∧n0<n):
  aP S (cp ι b x) ⟨st.tm,bl st.hp b 0 (.ah false sz n f)⟩ a w'∧bV (cp ι b x) (bl st.hp b 0 (.ah false sz n f)) w' (FZ S (cp ι b x) (bl st.hp b 0 (.ah false sz n f)) w') (.own b n) (.slice (some ⟨x,0,none⟩) n c):=by
 have iX: ∀b' o,b'≠b→aj (bl st.hp b 0 (.ah false sz n f)) b' o=aj st.hp b' o:=fun b' o hn=>by rw[e_,aCM (fun e=>hn e.1)]
 have mF:aj (bl st.hp b 0 (.ah false sz n f)) b 0= .ah false sz n f:=by rw[e_,aCL ⟨rfl,rfl⟩]
 have fZ: ∀z,ι b=some z→bW (aj st.hp b 0)=true:=fun z hz=>by
  rcases fG with⟨_,h2⟩|⟨n0,f0,h1,_⟩
  ·rw[h2]at hz;cases hz
  ·rw[h1];rfl
 have hs:dV ι st.hp w (FZ S ι st.hp w) (cp ι b x) (bl st.hp b 0 (.ah false sz n f)) w' (FZ S (cp ι b x) (bl st.hp b 0 (.ah false sz n f)) w'):=by
  refine⟨fun y ⟨h1,h2,h3⟩=>⟨h1,aC0 h2 hb.size,fun b' eA=> ?_⟩,fun y o ⟨_,h2,_⟩=>hb.cell h2,fun b' z hz hk=> ?_,fun b' ro fe n' f' hk=> ?_⟩
  ·unfold cp
   by_cases e:b'=b
   ·simp only[e,aDg];intro he;simp at he;omega
   ·simp only[e,aDn];exact h3 b' (oG (fun o=>iX b' o e) eA)
  ·have e:b'≠b:=fun e=>by rw[e]at hz hk;rw[fZ z hz]at hk;cases hk
   exact⟨by simp [cp,e,hz],by rw[iX _ _ e];exact hk⟩
  ·by_cases e:b'=b
   ·subst e;rcases fG with⟨h1,_⟩|⟨n0,f0,h1,h2⟩
    ·rw[h1]at hk;cases hk
    ·rw[h1]at hk;cases hk;exact⟨false,_,n,f,mF,by omega,fun e=>by omega⟩
   ·refine⟨ro,_,n',f',by rw[iX _ _ e];exact hk,aCK _,fun _=>⟨rfl,by simp [cp,e],fun y C T' hy hC=>⟨C,?_,rfl⟩⟩⟩;rw[hb.block y (h.fresh _ _ hy).2];exact hC
 have wa: ∀y,F' y→FZ S (cp ι b x) (bl st.hp b 0 (.ah false sz n f)) w' y:=fun y hy=>by
  rcases hF' y hy with hy|⟨h1,h2,h3⟩
  ·exact hs.fz y hy
  ·refine⟨.inr (aCX h.below.size h1),h2,fun b' _ he=> ?_⟩;unfold cp at he
   by_cases e:b'=b<;>simp only[e,aDg,aDn]at he
   ·simp at he;exact h3 he.symm
   ·have:=(h.fresh _ _ he).2;omega
 refine⟨⟨h.below.trans (hb.mono h.below.size),h.defers,fun t av ht=> ?_,fun b' o=> ?_,fun b1 b2 y h1 h2=> ?_,fun b' y hy=> ?_,fun b' y hy=> ?_,h.gK.trans hs⟩,?_⟩
 ·obtain⟨v,h1,h2⟩:=h.tm t av ht;exact⟨v,h1,h2.step hs⟩
 ·by_cases e:b'=b
  ·subst e
   by_cases eo:o=0
   ·subst eo;show fc _ _ _ _ _ _ (aj (bl st.hp b' 0 (.ah false sz n f)) b' 0);rw[mF];refine⟨rfl,.inr ⟨dK,.inr ⟨x,C,T,by simp [cp],hC,fun i j hi hj=> ?_⟩⟩⟩;obtain⟨av,u,k1,k2,k3⟩:=hv i j hi hj;exact⟨av,u,k1,k2,k3.mono wa fun _ _ _=>rfl⟩
   ·show fc _ _ _ _ _ _ (aj (bl st.hp b' 0 (.ah false sz n f)) b' o);rw[e_,aCM (fun e=>eo e.2)];have hu:aj st.hp b' o= .undef:=by
     rcases fG with⟨h1,_⟩|⟨n0,f0,h1,_⟩
     ·exact h1 o
     ·have hl:=h.hp b' o
      cases e:aj st.hp b' o<;>rw[e]at hl<;>first|rfl|(have:=hl.1;rw[h1]at this;cases this;done)|exact absurd hl.1 eo
    rw[hu];trivial
  ·show fc _ _ _ _ _ _ (aj (bl st.hp b 0 (.ah false sz n f)) b' o);rw[iX _ _ e];exact(h.hp b' o).step hs (fun _=>by simp [cp,e]) (fun y hy _=>⟨hb.cell (h.fresh _ _ hy).2,hb.frozen (h.fresh _ _ hy).2⟩) (fun _=>⟨by simp [cp,e],fun y hy=>hb.block y (h.fresh _ _ hy).2⟩)
 ·unfold cp at h1 h2
  by_cases e1:b1=b<;>by_cases e2:b2=b<;>simp only[e1,e2,aDg,aDn]at h1 h2
  ·omega
  ·simp at h1;have:=(h.fresh _ _ h2).2;omega
  ·simp at h2;have:=(h.fresh _ _ h1).2;omega
  ·exact h.inj _ _ _ h1 h2
 ·unfold cp at hy
  by_cases e:b'=b<;>simp only[e,aDg,aDn]at hy
  ·simp at hy;subst hy;exact⟨.inl (aCX h.below.size pc),WC⟩
  ·have:=h.fresh _ _ hy;exact⟨this.1,aC0 this.2 hb.size⟩
 ·unfold cp at hy
  by_cases e:b'=b
  ·rw[e];exact(mJ _ _ _ _).2
  ·simp only[e,aDn]at hy;exact aC0 (h.gH _ _ hy) (mJ _ _ _ _).1
 ·exact⟨rfl,false,sz,n,f,mF,aCK _,fun _=> .inl ⟨x,c,C,T,by simp [cp],rfl,pU,hC,eZ⟩⟩
theorem aP.Oz(h:aP S ι st a w){b:Nat}(hb: ∀o,aj st.hp b o= .undef)(cL:ι b=none)(sz:Nat)(f:Nat→List AV):
  aP S ι ⟨st.tm,bl st.hp b 0 (.ah false sz 0 f)⟩ a w∧dV ι st.hp w (FZ S ι st.hp w) ι (bl st.hp b 0 (.ah false sz 0 f)) w (FZ S ι (bl st.hp b 0 (.ah false sz 0 f)) w)∧
  ∀F,bV ι (bl st.hp b 0 (.ah false sz 0 f)) w F (.own b 0) (.slice none 0 0):=by
 have iX: ∀b' o,b'≠b→aj (bl st.hp b 0 (.ah false sz 0 f)) b' o=aj st.hp b' o:=fun b' o hn=>by rw[e_,aCM (fun e=>hn e.1)]
 have mF:aj (bl st.hp b 0 (.ah false sz 0 f)) b 0= .ah false sz 0 f:=by rw[e_,aCL ⟨rfl,rfl⟩]
 have db: ∀b' x,ι b'=some x→b'≠b:=fun b' x hx e=>by rw[e,cL]at hx;cases hx
 have hs:dV ι st.hp w (FZ S ι st.hp w) ι (bl st.hp b 0 (.ah false sz 0 f)) w (FZ S ι (bl st.hp b 0 (.ah false sz 0 f)) w):=by
  refine⟨fun y ⟨h1,h2,h3⟩=>⟨h1,h2,fun b' eA he=> ?_⟩,fun y o _=>rfl,fun b' z hz hk=>⟨hz,by rw[iX _ _ (db _ _ hz)];exact hk⟩,fun b' ro fe n' f' hk=> ?_⟩
  ·exact h3 b' (oG (fun o=>iX b' o (db _ _ he)) eA) he
  ·have e:b'≠b:=fun e=>by rw[e,hb]at hk;cases hk
   exact⟨ro,_,n',f',by rw[iX _ _ e];exact hk,aCK _,fun _=>⟨rfl,rfl,fun y C T' _ hC=>⟨C,hC,rfl⟩⟩⟩
 refine⟨⟨h.below,h.defers,fun t av ht=> ?_,fun b' o=> ?_,h.inj,h.fresh,fun b' y hy=>aC0 (h.gH _ _ hy) (mJ _ _ _ _).1,h.gK.trans hs⟩,hs,fun F=>⟨rfl,false,sz,0,f,mF,aCK _,fun _=> .inr ⟨rfl,cL,rfl⟩⟩⟩
 ·obtain⟨v,h1,h2⟩:=h.tm t av ht;exact⟨v,h1,h2.step hs⟩
 ·show fc _ _ _ _ _ _ (aj (bl st.hp b 0 (.ah false sz 0 f)) b' o)
  by_cases e:b'=b
  ·subst e
   by_cases eo:o=0
   ·subst eo;rw[mF];exact⟨rfl,.inr ⟨aCQ _,.inl ⟨rfl,cL⟩⟩⟩
   ·rw[e_,aCM (fun e=>eo e.2),hb];trivial
  ·rw[iX _ _ e];exact(h.hp b' o).step hs (fun _=>rfl) (fun _ _ _=>⟨rfl,rfl⟩) (fun _=>⟨rfl,fun _ _=>rfl⟩)
theorem rJ(b:Nat): ∀(vs:List Value) (o:Nat) (w:World) (C:Array Value) (T:TypeId) (z:Nat×Nat),w.heap[b]? =some (.cells C T z)→
  (∃C':Array Value,(w.setCells b o vs).heap[b]? =some (.cells C' T z)∧C'.size=C.size∧ ∀k,C'[k]? =if o≤k∧k<o+vs.length∧k<C.size then vs[k-o]? else C[k]?)∧
  (w.setCells b o vs).heap.size=w.heap.size∧(∀k,k≠b→(w.setCells b o vs).heap[k]? =w.heap[k]?)∧(w.setCells b o vs).os=w.os∧(w.setCells b o vs).tape=w.tape∧(w.setCells b o vs).output=w.output
 |[],o,w,C,T,z,h=>by
  refine⟨⟨C,h,rfl,fun k=> ?_⟩,rfl,fun _ _=>rfl,rfl,rfl,rfl⟩;rw[aCM (by simp;omega)]
 |v::vs,o,w,C,T,z,h=>by
  have h1:(w.setCell ⟨b,o,none⟩ v).heap[b]? =some (.cells (C.setIfInBounds o v) T z):=by
   simp only[World.setCell,Array.getElem?_modify];rw[h];simp
  obtain⟨⟨C',g1,g2,g3⟩,g4,g5,g6,g7,g8⟩:=rJ b vs (o+1) (w.setCell ⟨b,o,none⟩ v) _ T z h1;simp only[World.setCells];refine⟨⟨C',g1,by simpa using g2,fun k=> ?_⟩,by simpa using g4,fun k hk=>by rw[g5 k hk,Below.heap_setCell _ _ _ _ hk],by rw[g6];rfl,by rw[g7];rfl,by rw[g8];rfl⟩;rw[g3];simp only[Array.size_setIfInBounds,aC7]
  by_cases e:k=o
  ·subst e;rw[aCM (by omega)]
   by_cases hk:k<C.size
   ·rw[aCL ⟨aCK _,by omega,hk⟩];simp [hk]
   ·rw[aCM (by omega)];simp [hk]
  ·by_cases hk:o+1≤k∧k<o+1+vs.length∧k<C.size
   ·rw[aCL hk,aCL ⟨by omega,by omega,hk.2.2⟩,show k-o=(k- (o+1))+1 by omega];simp
   ·rw[aCM hk,aCM (by omega)];rw[aEi (fun h=>e h.symm)]
theorem aP.aAj(h:aP S ι st a w){b x sz n m c:Nat}{f g hh:Nat→List AV}(mG: ∀i,i<n+m→ix n f g i=hh i){C:Array Value}{T:TypeId}(eM:aj st.hp b 0= .ah false sz n f)(hx:ι b=some x)(hC:w.heap[x]? =some (.cells C T (0,0)))(eZ:C.size=c*sz)
  (rP:n+m≤c) (dK:n+m≤dg) (news:List Value) (hl:news.length=m*sz) (hv: ∀i j,i<m→j<sz→ ∃av u,(g i)[j]? =some av∧news[i*sz+j]? =some u∧aR w (FZ S ι st.hp w) av u):
  aP S ι ⟨st.tm,bl st.hp b 0 (.ah false sz (n+m) hh)⟩ a (w.setCells x (n*sz) news)∧
  bV ι (bl st.hp b 0 (.ah false sz (n+m) hh)) (w.setCells x (n*sz) news) (FZ S ι (bl st.hp b 0 (.ah false sz (n+m) hh)) (w.setCells x (n*sz) news)) (.own b (n+m)) (.slice (some ⟨x,0,none⟩) (n+m) c):=by
 obtain⟨⟨C',c1,c2,c3⟩,c4,c5,c6,c7,c8⟩:=rJ x news (n*sz) w C T (0,0) hC;generalize NK:w.setCells x (n*sz) news=w' at*
 have iX: ∀b' o,b'≠b→aj (bl st.hp b 0 (.ah false sz (n+m) hh)) b' o=aj st.hp b' o:=fun b' o hn=>by rw[e_,aCM (fun e=>hn e.1)]
 have mF:aj (bl st.hp b 0 (.ah false sz (n+m) hh)) b 0= .ah false sz (n+m) hh:=by rw[e_,aCL ⟨rfl,rfl⟩]
 have p7:nD st.hp b:= .inl ⟨by rw[eM];rfl,by rw[eM];rfl⟩;have pV: ∀y p,y≠x→w'.cell? ⟨y,p,none⟩=w.cell? ⟨y,p,none⟩:=fun y p hy=>World.cell?_of_block (c5 y hy);have p6: ∀b' y,ι b'=some y→b'≠b→y≠x:=fun b' y hy db e=>db (h.inj _ _ _ hy (by rw[e];exact hx));have hs:dV ι st.hp w (FZ S ι st.hp w) ι (bl st.hp b 0 (.ah false sz (n+m) hh)) w' (FZ S ι (bl st.hp b 0 (.ah false sz (n+m) hh)) w'):=by
  refine⟨fun y ⟨h1,h2,h3⟩=>⟨h1,by rw[c4];exact h2,fun b' eA=> ?_⟩,fun y o ⟨_,h2,h3⟩=>pV y o (fun e=>h3 b p7 (by rw[e];exact hx)),fun b' z hz hk=> ?_,fun b' ro fe n' f' hk=> ?_⟩
  ·by_cases e:b'=b
   ·rw[e];exact h3 b p7
   ·exact h3 b' (oG (fun o=>iX b' o e) eA)
  ·have e:b'≠b:=fun e=>by rw[e,eM]at hk;cases hk
   exact⟨hz,by rw[iX _ _ e];exact hk⟩
  ·by_cases e:b'=b
   ·subst e;rw[eM]at hk;cases hk;refine⟨false,_,n+m,_,mF,by omega,fun _=>⟨rfl,rfl,fun y D T' hy hD=> ?_⟩⟩;rw[hx]at hy;cases hy;rw[hC]at hD;cases hD;exact⟨C',c1,c2⟩
   ·refine⟨ro,_,n',f',by rw[iX _ _ e];exact hk,aCK _,fun _=>⟨rfl,rfl,fun y D T' hy hD=>⟨D,?_,rfl⟩⟩⟩;rw[c5 y (p6 _ _ hy e)];exact hD
 refine⟨⟨h.below.then ⟨c6,c7,c8,by rw[c4];exact aCK _,fun k hk hn=>c5 k (fun e=>(h.fresh _ _ hx).1.elim (fun g=>by omega) fun g=>hn (by rw[e];exact g))⟩,h.defers,fun t av ht=> ?_,fun b' o=> ?_,h.inj,fun b' y hy=>⟨(h.fresh _ _ hy).1,by rw[c4];exact(h.fresh _ _ hy).2⟩,fun b' y hy=>aC0 (h.gH _ _ hy) (mJ _ _ _ _).1,h.gK.trans hs⟩,?_⟩
 ·obtain⟨v,h1,h2⟩:=h.tm t av ht;exact⟨v,h1,h2.step hs⟩
 ·show fc _ _ _ _ _ _ (aj (bl st.hp b 0 (.ah false sz (n+m) hh)) b' o)
  by_cases e:b'=b
  ·subst e
   by_cases eo:o=0
   ·subst eo;rw[mF];refine⟨rfl,.inr ⟨dK,.inr ⟨x,C',T,hx,c1,fun i j hi hj=> ?_⟩⟩⟩;have HF:=h.hp b' 0;rw[eM]at HF;have iY:i*sz+j<(n+m)*sz:=by
     have:(i+1)*sz≤(n+m)*sz:=aC2 sz hi;rw[aDb]at this;omega
    have hmul:(n+m)*sz≤c*sz:=aC2 sz rP;have VA:(n+m)*sz=n*sz+m*sz:=aC6 _ _ _
    by_cases gS:i<n
    ·obtain⟨_,hd|⟨_,HF|⟨x2,C2,T2,q1,q2,q3⟩⟩⟩:=HF
     ·cases hd.1
     ·omega
     ·rw[hx]at q1;cases q1;rw[hC]at q2;cases q2;obtain⟨av,u,k1,k2,k3⟩:=q3 i j gS hj;have cI:i*sz+j<n*sz:=by
       have:(i+1)*sz≤n*sz:=aC2 sz gS;rw[aDb]at this;omega
      refine⟨av,u,?_,?_,k3.mono hs.fz hs.cell⟩
      ·have:Nat.blt i n=true:=by simpa[aC9]using gS
       rw[←mG i hi];simp only[ix,this,aCJ];exact k1
      ·rw[c3,aCM (by omega)];exact k2
    ·obtain⟨av,u,k1,k2,k3⟩:=hv (i-n) j (by omega) hj;have rQ:(i-n)*sz=i*sz-n*sz:=aD3 _ _ _;have ox:n*sz≤i*sz:=aC2 sz (by omega);refine⟨av,u,?_,?_,k3.mono hs.fz hs.cell⟩
     ·have:Nat.blt i n=false:=by
       cases e:Nat.blt i n with
       |false=>rfl
       |true=>exact absurd (aC1 e) (by omega)
      rw[←mG i hi];simp only[ix,this,aCI];exact k1
     ·rw[c3,aCL ⟨by omega,by omega,by omega⟩];rw[rQ]at k2;rw[show i*sz+j-n*sz=i*sz-n*sz+j by omega];exact k2
   ·rw[e_,aCM (fun e=>eo e.2)];have hu:aj st.hp b' o= .undef:=by
     have hl:=h.hp b' o
     cases e:aj st.hp b' o<;>rw[e]at hl<;>first|rfl|(have:=hl.1;rw[eM]at this;cases this;done)|exact absurd hl.1 eo
    rw[hu];trivial
  ·rw[iX _ _ e];exact(h.hp b' o).step hs (fun _=>rfl) (fun y hy _=>⟨pV y o (p6 _ _ hy e),World.frozen?_of_block (c5 y (p6 _ _ hy e))⟩) (fun _=>⟨rfl,fun y hy=>c5 y (p6 _ _ hy e)⟩)
 ·exact⟨rfl,false,sz,n+m,_,mF,aCK _,fun _=> .inl ⟨x,c,C',T,hx,rfl,rP,c1,by rw[c2];exact eZ⟩⟩
theorem aP.freeze(h:aP S ι st a w){H':Heap}(hH: ∀b o,aj H' b o=aj st.hp b o∨(o=0∧ ∃ro sz n f,aj st.hp b 0= .ah ro sz n f∧aj H' b 0= .ah true sz n f))(hlen:st.hp.length≤H'.length):
  aP S ι ⟨st.tm,H'⟩ a w∧dV ι st.hp w (FZ S ι st.hp w) ι H' w (FZ S ι H' w):=by
 have eM: ∀b,bW (aj H' b 0)=bW (aj st.hp b 0):=fun b=>by
  rcases hH b 0 with h1|⟨_,ro,sz,n,f,h1,h2⟩
  ·rw[h1]
  ·rw[h1,h2];rfl
 have hs:dV ι st.hp w (FZ S ι st.hp w) ι H' w (FZ S ι H' w):=by
  refine⟨fun y ⟨h1,h2,h3⟩=>⟨h1,h2,fun b hb=>h3 b ?_⟩,fun _ _ _=>rfl,fun b z hz hk=>⟨hz,by rw[eM];exact hk⟩,fun b ro sz n f hk=> ?_⟩
  ·rcases hb with⟨g1,g2⟩|⟨g1,o,g2⟩
   ·rcases hH b 0 with h1|⟨_,ro,sz,n,f,_,h2⟩
    ·rw[h1]at g1 g2;exact .inl ⟨g1,g2⟩
    ·rw[h2]at g2;cases g2
   ·rw[eM]at g1;rcases hH b o with h1|⟨_,ro,sz,n,f,h1,_⟩
    ·rw[h1]at g2;exact .inr ⟨g1,o,g2⟩
    ·rw[h1]at g1;cases g1
  ·rcases hH b 0 with h1|⟨_,iq,fe,n',f',h1,h2⟩
   ·exact⟨ro,_,n,f,by rw[h1];exact hk,aCK _,fun _=>⟨rfl,rfl,fun x C T _ hC=>⟨C,hC,rfl⟩⟩⟩
   ·rw[hk]at h1;cases h1;exact⟨true,_,n,f,h2,aCK _,fun _=>⟨rfl,rfl,fun x C T _ hC=>⟨C,hC,rfl⟩⟩⟩
 refine⟨⟨h.below,h.defers,fun t av ht=> ?_,fun b o=> ?_,h.inj,h.fresh,fun b x hx=>aC0 (h.gH _ _ hx) hlen,h.gK.trans hs⟩,hs⟩
 ·obtain⟨v,h1,h2⟩:=h.tm t av ht;exact⟨v,h1,h2.step hs⟩
 ·show fc ι H' w _ b o (aj H' b o);rcases hH b o with h1|⟨rfl,ro,sz,n,f,h1,h2⟩
  ·rw[h1];exact(h.hp b o).step hs (fun _=>rfl) (fun _ _ _=>⟨rfl,rfl⟩) (fun _=>⟨rfl,fun _ _=>rfl⟩)
  ·rw[h2];have hl:=h.hp b 0;rw[h1]at hl;obtain⟨k0,kd|kk⟩:=hl.step hs (fun _=>rfl) (fun _ _ _=>⟨rfl,rfl⟩) (fun _=>⟨rfl,fun _ _=>rfl⟩)
   ·exact⟨k0,.inl ⟨rfl,kd.2⟩⟩
   ·exact⟨k0,.inr kk⟩
theorem OL(h:aP S ι st a w){b k:Nat}{v:Value}{sz n:Nat}{f:Nat→List AV}(eM:aj st.hp b 0= .ah true sz n f)(hk:k=n)(hx:CR S ι st.hp w (.own b k) v):aR w (FZ S ι st.hp w) (.arr sz n f) v:=by
 obtain⟨_,ro,fe,n',f',h1,h2,h3⟩:=hx;rw[eM]at h1;cases h1;subst hk;rcases h3 rfl with⟨q,c,C,T',hq,hv,gL,hC,eZ⟩|⟨rfl,_,hv⟩
 ·have hl:=h.hp b 0;rw[eM]at hl;obtain⟨_,hd|⟨dK,hl|⟨q',C',T2,dn,iD,eB⟩⟩⟩:=hl
  ·rw[hq]at hd;cases hd.2.2
  ·rw[hq]at hl;cases hl.2
  ·rw[hq]at dn;cases dn;rw[hC]at iD;cases iD;have hf:=h.fresh b q hq;have hFq:FZ S ι st.hp w q:=⟨h.own hq,hf.2,fun b' eA he=>by
    have:=h.inj _ _ _ he hq;subst this;rcases eA with⟨_,g⟩|⟨g,_⟩
    ·rw[eM]at g;cases g
    ·rw[eM]at g;cases g⟩
   rw[hv];refine .arr sz k f q 0 c (fun i j=>((f i)[j]?).getD .undef) (fun i j=>(C[i*sz+j]?).getD undef) gL dK (fun _=>hFq) (fun i j hi hj=> ?_) (fun i j hi hj=> ?_) (fun i j hi hj=> ?_)
   ·obtain⟨av,u,g1,g2,g3⟩:=eB i j hi hj;rw[g1];rfl
   ·obtain⟨av,u,g1,g2,g3⟩:=eB i j hi hj;rw[aDN w q _ C T' (0,0) hC,aCO,g2];rfl
   ·obtain⟨av,u,g1,g2,g3⟩:=eB i j hi hj;simp only[g1,g2,aDk];exact g3
 ·rw[hv];exact .nil sz f
end
section
variable {E:Env} {S:dF} {ι:Nat→Option Nat} {st:St} {a:Act} {w:World}
theorem Ic: ∀(ws jv:Ws) (H:Heap),bm H (ws++jv)=bm (bm H ws) jv
 |[],_,_=>rfl
 |(_,_,_)::ws,jv,H=>Ic ws jv _
theorem rS: ∀(ws:Ws) (H:Heap),H.length≤(bm H ws).length
 |[],_=>aCK _
 |(b,p,c)::ws,H=>aCX (wE H b p c).1 (rS ws _)
theorem Ie: ∀(ws:Ws) (H:Heap) (b o:Nat),aj (bm H ws) b o=aj H b o∨ ∃c,(b,o,c)∈ws∧aj (bm H ws) b o=c
 |[],_,_,_=> .inl rfl
 |(b',o',c')::ws,H,b,o=>by
  rcases Ie ws (bl H b' o' c') b o with h|⟨c,h1,h2⟩
  ·rw[bm,h,e_]
   by_cases e:b=b'∧o=o'
   ·rw[aCL e];exact .inr ⟨c',by rw[e.1,e.2];simp,rfl⟩
   ·rw[aCM e];exact .inl rfl
  ·exact .inr ⟨c,by simp [h1],h2⟩
theorem Wz: ∀(ws:Ws) (H:Heap) (b o:Nat) (c0:AV),(b,o,c0)∈ws→ ∃c,(b,o,c)∈ws∧aj (bm H ws) b o=c
 |[],_,_,_,_,h=>by cases h
 |(b',o',c')::ws,H,b,o,c0,h=>by
  rcases Ie ws (bl H b' o' c') b o with h1|⟨c,h1,h2⟩
  ·by_cases e:b=b'∧o=o'
   ·refine⟨c',by rw[e.1,e.2];simp,?_⟩;rw[bm,h1,e_,aCL e]
   ·rcases aDa.1 h with h|h
    ·cases h;exact absurd ⟨rfl,rfl⟩ e
    ·obtain⟨c,g1,g2⟩:=Wz ws (bl H b' o' c') b o c0 h;exact⟨c,by simp [g1],g2⟩
  ·exact⟨c,by simp [h1],h2⟩
def pj:AV→List Nat
 | .own b _=>[b]
 |_=>[]
def sd:AV→List Nat
 | .agg cs=>cs.flatMap pj
 |av=>pj av
theorem ajl{H:Heap}{x:AV}{b o:Nat}{c:AV}(h:(b,o,c)∈uR H x):o=0∧ ∃ro sz n f,aj H b 0= .ah ro sz n f∧c= .ah true sz n f:=by
 cases x<;>simp only[uR]at h<;>try (cases h;done)
 rename_i b' k
 cases e:aj H b' 0<;>rw[e]at h<;>simp only at h<;>try (cases h;done)
 simp only[List.mem_singleton,aDL]at h;obtain⟨rfl,rfl,rfl⟩:=h;exact⟨rfl,_,_,_,_,e,rfl⟩
theorem ajm{H:Heap}{l:List AV}{b o:Nat}{c:AV}(h:(b,o,c)∈eI H l):o=0∧ ∃ro sz n f,aj H b 0= .ah ro sz n f∧c= .ah true sz n f:=by
 obtain⟨x,_,h⟩:=aDh.1 h
 cases x
 case agg cs=>
  obtain⟨y,_,h⟩:=aDh.1 h;exact ajl h
 all_goals
  simp only[D3]at h;exact ajl h
theorem ajk{H:Heap}{x:AV}{b:Nat}(h:b∈pj x){ro sz n f}(hb:aj H b 0= .ah ro sz n f):(b,0,.ah true sz n f)∈uR H x:=by
 cases x<;>simp only[pj]at h<;>try (cases h;done)
 simp only[List.mem_singleton]at h;subst h;simp [uR,hb]
theorem aAh{H:Heap}{l:List AV}{b:Nat}(h:b∈l.flatMap sd){ro sz n f}(hb:aj H b 0= .ah ro sz n f):(b,0,.ah true sz n f)∈eI H l:=by
 obtain⟨x,hx,h⟩:=aDh.1 h;refine aDh.2 ⟨x,hx,?_⟩
 cases x
 case agg cs=>
  obtain⟨y,hy,h⟩:=aDh.1 h;exact aDh.2 ⟨y,hy,ajk h hb⟩
 all_goals
  simp only[sd]at h;simp only[D3];exact ajk h hb
theorem wK{H:Heap}(l:List AV)(b o:Nat):aj (bm H (eI H l)) b o=aj H b o∨(o=0∧ ∃ro sz n f,aj H b 0= .ah ro sz n f∧aj (bm H (eI H l)) b 0= .ah true sz n f):=by
 rcases Ie (eI H l) H b o with h|⟨c,h1,h2⟩
 ·exact .inl h
 ·obtain⟨rfl,ro,sz,n,f,h3,h4⟩:=ajm h1;exact .inr ⟨rfl,ro,sz,n,f,h3,by rw[h2,h4]⟩
theorem I7{H:Heap}{l:List AV}{b:Nat}(h:b∈l.flatMap sd){ro sz n f}(hb:aj H b 0= .ah ro sz n f):aj (bm H (eI H l)) b 0= .ah true sz n f:=by
 obtain⟨c,h1,h2⟩:=Wz (eI H l) H b 0 _ (aAh h hb);obtain⟨_,iq,fe,n',f',h3,h4⟩:=ajm h1;rw[hb]at h3;cases h3;rw[h2,h4]
theorem ab8{H:Heap}(h:aP S ι st a w){x:AV}{v:Value}(hH: ∀b∈pj x,∀ro sz n f,aj H b 0= .ah ro sz n f→aj st.hp b 0= .ah true sz n f)(hx:CR S ι st.hp w x v){K:AV→Prop}(hk:ji H x K): ∃y,K y∧aR w (FZ S ι st.hp w) y v:=by
 have Zn:cT (oN x) (K x)→ ∃y,K y∧aR w (FZ S ι st.hp w) y v:=fun hc=>(fun⟨h1,h2⟩=>⟨x,h2,bV.qQ hx h1⟩) (aD.1 hc)
 cases x
 case own b k=>
  simp only[ji]at hk
  cases e:aj H b 0<;>rw[e]at hk<;>simp only at hk
  exact⟨_,hk.2,OL h (hH b (by simp [pj]) _ _ _ _ e) hk.1 hx⟩
 case lit b=>
  have cQ:aR w (FZ S ι st.hp w) (.lit b) v:=hx
  cases cQ
  exact⟨_,hk,.bool b⟩
 all_goals exact Zn hk
theorem SV{H:Heap}(h:aP S ι st a w): ∀(cs:List AV) (vs:List Value) (K:List AV→Prop),(∀b∈cs.flatMap pj,∀ro sz n f,aj H b 0= .ah ro sz n f→aj st.hp b 0= .ah true sz n f)→aT (CR S ι st.hp w) cs vs→mr H cs K→ ∃ys,K ys∧aT (aR w (FZ S ι st.hp w)) ys vs
 |[],[],K,_,_,hk=>⟨[],hk,trivial⟩
 |[],_::_,_,_,hr,_=>hr.elim
 |_::_,[],_,_,hr,_=>hr.elim
 |c::cs,v::vs,K,hH,hr,hk=>by
  obtain⟨y,hk,h1⟩:=ab8 h (fun b hb=>hH b (by simp [hb])) hr.1 hk;obtain⟨ys,hk,h2⟩:=SV h cs vs _ (fun b hb=>hH b (by simp only[aDj,aC5];exact .inr hb)) hr.2 hk;exact⟨y::ys,hk,h1,h2⟩
theorem apB{H:Heap}(h:aP S ι st a w){x:AV}{v:Value}(hH: ∀b∈sd x,∀ro sz n f,aj H b 0= .ah ro sz n f→aj st.hp b 0= .ah true sz n f)(hx:VR S ι st.hp w x v){K:AV→Prop}(hk:lx H x K): ∃y,K y∧fD w (FZ S ι st.hp w) y v:=by
 have lift: ∀y,aR w (FZ S ι st.hp w) y v→fD w (FZ S ι st.hp w) y v:=fun y hy=>by cases hy<;>first|exact .int _ _|exact .bool _|exact .str _ (by assumption)|exact .aE|exact .nil _ _|exact .mt _ _ _ _|(constructor<;>assumption)
 cases x
 case agg cs=>
  obtain⟨vs,rfl,hr⟩:=hx;obtain⟨ys,h1,h2⟩:=SV h cs vs _ hH hr hk;exact⟨.agg ys,h1,vs,rfl,h2⟩
 case undef=>exact hk.elim
 case gone=>exact hk.elim
 case cU=>exact hk.elim
 case ah=>exact hk.elim
 all_goals
  simp only[VR,dZ,gm]at hx;simp only[sd]at hH;obtain⟨y,h1,h2⟩:=ab8 h hH hx hk;exact⟨y,h1,lift y h2⟩
theorem SU{H:Heap}(h:aP S ι st a w): ∀(xs:List AV) (vs:List Value) (K:List AV→Prop),(∀b∈xs.flatMap sd,∀ro sz n f,aj H b 0= .ah ro sz n f→aj st.hp b 0= .ah true sz n f)→aT (VR S ι st.hp w) xs vs→mW H xs K→ ∃ys,K ys∧aT (fD w (FZ S ι st.hp w)) ys vs
 |[],[],K,_,_,hk=>⟨[],hk,trivial⟩
 |[],_::_,_,_,hr,_=>hr.elim
 |_::_,[],_,_,hr,_=>hr.elim
 |c::cs,v::vs,K,hH,hr,hk=>by
  obtain⟨y,hk,h1⟩:=apB h (fun b hb=>hH b (by simp [hb])) hr.1 hk;obtain⟨ys,hk,h2⟩:=SU h cs vs _ (fun b hb=>hH b (by simp only[aDj,aC5];exact .inr hb)) hr.2 hk;exact⟨y::ys,hk,h1,h2⟩
theorem ajz{n0:Nat}{F:Nat→Prop}{r:AV}{v:Value}(hs:D4 r=true)(h:qJ n0 w F r v):kH w F r v:=by
 cases r<;>first|exact h|(cases hs;done)
theorem YM{ws:Ws}(h:aP S ι ⟨st.tm,bm st.hp ws⟩ a w){w':World}(hb:Below w.heap.size w w'){F:Nat→Prop}{r:AV}{v:Value}(hr:qJ w.heap.size w' F r v)
  (hF: ∀y,F y→FZ S ι (bm st.hp ws) w y∨(w.heap.size≤y∧y<w'.heap.size)) {nb:Nat} (hn: ∀o,aj (bm st.hp ws) nb o= .undef) (cL:ι nb=none) {K:AV→Ws→Prop} (hk:uQ nb r ws K):
  ∃aA av jv,K av jv∧aP S aA ⟨st.tm,bm st.hp jv⟩ a w'∧VR S aA (bm st.hp jv) w' av v∧ ∀b,aA b≠none→ι b≠none∨ ∃p c,(b,p,c)∈jv:=by
 have quiet:kH w' F r v→K r ws→ ∃aA av jv,K av jv∧aP S aA ⟨st.tm,bm st.hp jv⟩ a w'∧VR S aA (bm st.hp jv) w' av v∧ ∀b,aA b≠none→ι b≠none∨ ∃p c,(b,p,c)∈jv:=fun ht hK=>by
  obtain⟨h1,h2⟩:=h.world hb;refine⟨ι,r,ws,hK,h1,dZ.XX (kH.mono (fun y hy=> ?_) (fun _ _ _=>rfl) ht),fun b hb=> .inl hb⟩;rcases hF y hy with hy|⟨hy1,hy2⟩
  ·exact h2.fz y hy
  ·exact⟨.inr (aCX h.below.size hy1),hy2,fun b _ e=>by have:=(h.fresh b y e).2;omega⟩
 cases r
 case ah ro sz n f=>
  simp only[uQ]at hk;rcases hr with⟨rfl,rfl⟩|⟨x,c,C,T,pc,WC,rfl,pU,dK,hC,eZ,hv⟩
  ·obtain⟨h1,_⟩:=h.world hb;obtain⟨h3,_,h4⟩:=h1.Oz hn cL sz f;refine⟨ι,.own nb 0,ws++[(nb,0,.ah false sz 0 f)],hk,?_,?_,fun b hb=> .inl hb⟩
   ·rw[Ic,Dw];exact h3
   ·rw[Ic,Dw];exact h4 (FZ S ι (bl (bm st.hp ws) nb 0 (.ah false sz 0 f)) w')
  ·obtain⟨h1,h2⟩:=h.I5 hb (b:=nb) pc WC dK pU hC eZ (F':=fun y=>F y∧y≠x) (fun y hy=>(hF y hy.1).imp id fun g=>⟨g.1,g.2,hy.2⟩) hv (.inl ⟨hn,cL⟩);refine⟨cp ι nb x,.own nb n,ws++[(nb,0,.ah false sz n f)],hk,?_,?_,fun b hb=>(Ea _ _ _ b hb).imp id fun e=>⟨0,.ah false sz n f,by subst e;simp⟩⟩
   ·rw[Ic,Dw];exact h1
   ·rw[Ic,Dw];exact h2
 all_goals exact quiet hr hk
theorem apv(h:aP S ι st a w){x:Operand}{f:FuncId}{bp:List AV}(hx:aC st.tm x= .fn f bp)(hc:bp.all nK=true): ∃vs:List Value,a.eval x= .func (.func f) #[] vs.toArray∧aT (VR S ι st.hp w) bp vs:=by
 have:=h.eval x;rw[hx]at this;obtain⟨vs,h1,h2⟩:=(show CR S ι st.hp w (.fn f bp) _ from this);refine⟨vs,h1,aT.mk h2.length fun i p q hp hq=> ?_⟩;obtain⟨q',dn,hr⟩:=h2.get i p hp;rw[hq]at dn;cases dn;have h7:=aCR.1 hc p (aCV hp)
 cases p<;>first|(cases h7;done)|exact hr
theorem an5(hE:E.Ok){o:Oper}{c:Go.Call}{x0:Operand}{f:FuncId}{bp:List AV}(ho:o.op= .call c)(hc:c.callee= .value x0)(WB:aC st.tm x0= .fn f bp)(C9:bp.all nK=true)(h:aP S ι st a w){nb:Nat}(fZ: ∀o,aj st.hp nb o= .undef)(qc:ι nb=none)
  {K:AV→Ws→Prop} (hk:vh E st.hp nb f (c.args.toList.map (aC st.tm)++bp) K) {next:Act→World→Prop} {Q:Exit→Act→World→Prop}
  (bQ: ∀aA av ws v w',K av ws→aP S aA ⟨st.tm,bm st.hp ws⟩ a w'→VR S aA (bm st.hp ws) w' av v→(∀b,aA b≠none→ι b≠none∨ ∃p c,(b,p,c)∈ws)→next (a.put o.dst v) w'):o.wp E.P a w next Q:=by
 obtain⟨cv,VU,Da⟩:=apv h WB C9;have asO:aT (VR S ι st.hp w) ((c.args.toList.map (aC st.tm)).map eR) (c.args.toList.map a.eval):=by
  refine aT.mk (by simp) fun i x y hx hy=> ?_;simp only[aC4,aDo]at hx hy;obtain⟨x1,⟨o1,e1,rfl⟩,rfl⟩:=hx;obtain⟨o2,e2,rfl⟩:=hy;rw[e1]at e2;cases e2;exact DO (h.eval o1)
 have eK:aT (VR S ι st.hp w) ((c.args.toList.map (aC st.tm)++bp).map eR) (c.args.toList.map a.eval++cv):=by
  rw[List.map_append];refine aT.append asO (aT.mk (by simpa using Da.length) fun i x y hx hy=> ?_);simp only[aC4,aDo]at hx;obtain⟨x1,e1,rfl⟩:=hx;obtain⟨y',jo,hr⟩:=Da.get i x1 e1;rw[hy]at jo;cases jo;exact DO hr
 unfold vh at hk;generalize (c.args.toList.map (aC st.tm)++bp).map eR=aa at hk eK;have go: ∀(F:Nat→Prop) (AQ:List AV) (r:AV) (pre:Option Prop),E.spec f AQ=some (pre,r)→oD pre True→Ee w F→aT (fD w F) AQ (c.args.toList.map a.eval++cv)→
   (∀w' v,Below w.heap.size w w'→qJ w.heap.size w' (fun x=>F x∨(w.heap.size≤x∧x<w'.heap.size)) r v→next (a.put o.dst v) w')→o.wp E.P a w next Q:=fun F AQ r pre hs hp hF ha hn=>by
  obtain⟨⟨fn,cd,wg,Hy,V5⟩,We⟩:=hE.spec f AQ pre r hs;have lH:=We hp w F _ hF ha;have b_:(execOp a.eval o).run E.P w= .ok (.enter f (c.args.toList.map a.eval++cv).toArray) w:=by
   have V8:fn.name≠ "runtime.NumGoroutine" :=by simpa using V5
   have VC:(c.args.toList.map a.eval++cv).toArray=c.args.map a.eval++cv.toArray:=by apply aDr;simp
   rw[VC];simp [execOp,ho,resolve,hc,VU,Deferred.ofValue,invoke,callFunc,wg,Hy,V8]
  unfold Oper.wp;rw[b_];refine lH.mono fun e w' ⟨v,he,hv,hb⟩=> ?_;subst he;exact hn w' v hb hv
 by_cases nk:aa.all Bj=true
 ·have hk:=ace nk hk
  cases hs:E.spec f aa with
  |none=>rw[hs]at hk;exact hk.elim
  |some q=>
   obtain⟨pre,r⟩:=q;rw[hs]at hk;obtain⟨hp,hK⟩:=qv.1 hk;have hw:oF st.hp r aa=[]:=by simp [oF,nk]
   rw[hw]at hK;refine go (FZ S ι st.hp w) _ r pre hs hp h.SO (aT.mk eK.length fun i x y hx hy=> ?_) fun w' v hb hv=> ?_
   ·obtain⟨y',jo,hr⟩:=eK.get i x hx;rw[hy]at jo;cases jo;exact hr.qQ (aCR.1 nk _ (aCV hx))
   ·obtain⟨aA,av,jv,g1,g2,g3,g4⟩:=YM (st:=st) (ws:=[]) h hb hv (fun y hy=>hy) fZ qc hK;exact bQ aA av jv v w' g1 g2 g3 g4
 ·obtain⟨aaR,p5,ha0⟩:=acf h _ _ _ eK hk
  cases hs:E.spec f aaR with
  |none=>rw[hs]at p5;exact p5.elim
  |some q=>
   obtain⟨pre,r⟩:=q;rw[hs]at p5;obtain⟨hp,hK⟩:=qv.1 p5
   by_cases NH:D4 r=true
   ·have hw:oF st.hp r aa=[]:=by simp [oF,NH]
    rw[hw]at hK;refine go (lT S w) aaR r pre hs hp ⟨fun x hx=>hx.elim (fun h'=>aC0 (S.lt x h') h.below.size) fun h'=>h'.2,fun g=>(h.gl g).imp id fun k=>k.mono (fun x hx=>hx.1.elim .inl fun h'=> .inr ⟨h',hx.2.1⟩) fun _ _ _=>rfl⟩ ha0 fun w' v hb hv=> ?_;obtain⟨h1,h2⟩:=h.world hb;have Vv:K r []:=by cases r<;>first|exact hK|(cases NH;done)
    exact bQ ι r [] v w' Vv h1 (dZ.XX (ajA NH (ajz NH hv))) fun b hb=> .inl hb
   ·
    obtain⟨h1,fQ⟩:=h.freeze (H':=bm st.hp (eI st.hp aa)) (wK aa) (rS _ _);have asN:aT (VR S ι (bm st.hp (eI st.hp aa)) w) aa (c.args.toList.map a.eval++cv):=eK.imp fun _ _ hv=>hv.step fQ;obtain⟨RM,uf,Vz⟩:=SU (H:=st.hp) h1 aa _ _ (fun b hb ro sz n f he=>I7 hb he) asN hk
    cases kv:E.spec f RM with
    |none=>rw[kv]at uf;exact uf.elim
    |some q1=>
     obtain⟨aiY,r1⟩:=q1;rw[kv]at uf;obtain⟨hp1,MW⟩:=qv.1 uf
     by_cases HY:D4 r1=true
     ·have hw:oF st.hp r1 aa=[]:=by simp [oF,HY]
      rw[hw]at MW;refine go (FZ S ι (bm st.hp (eI st.hp aa)) w) RM r1 aiY kv hp1 h1.SO Vz fun w' v hb hv=> ?_;obtain⟨h3,h4⟩:=h.world hb;have Vv:K r1 []:=by cases r1<;>first|exact MW|(cases HY;done)
      exact bQ ι r1 [] v w' Vv h3 (dZ.XX (ajA HY (ajz HY hv))) fun b hb=> .inl hb
     ·have hw:oF st.hp r1 aa=eI st.hp aa:=by
       have e1:D4 r1=false:=by simpa using HY
       have e2:aa.all Bj=false:=by simpa using nk
       simp only[oF,e1,e2,Bool.or_self]
      rw[hw]at MW;refine go (FZ S ι (bm st.hp (eI st.hp aa)) w) RM r1 aiY kv hp1 h1.SO Vz fun w' v hb hv=> ?_;have Di: ∀o,aj (bm st.hp (eI st.hp aa)) nb o= .undef:=fun o=>by
       rcases wK (H:=st.hp) aa nb o with g|⟨_,ro,sz,n,f,g,_⟩
       ·rw[g];exact fZ o
       ·rw[fZ 0]at g;cases g
      obtain⟨aA,av,jv,g1,g2,g3,g4⟩:=YM (st:=st) (ws:=eI st.hp aa) h1 hb hv (fun y hy=>hy) Di qc MW;exact bQ aA av jv v w' g1 g2 g3 g4
end
section
variable {E:Env} {S:dF} {ι:Nat→Option Nat} {st:St} {a:Act} {w:World}
theorem aiD{v:Value}(h:one v=true):v.oneCell'=true:=by cases v<;>first|rfl|(cases h;done)
def tc(sz n:Nat)(u:Nat→Nat→Value):List Value:=(List.range (n*sz)).map fun k=>u (k/sz) (k%sz)
theorem Fs(sz n:Nat)(u:Nat→Nat→Value):(tc sz n u).length=n*sz:=by simp [tc]
theorem Kk{sz n:Nat}{u:Nat→Nat→Value}{i j:Nat}(hi:i<n)(hj:j<sz):(tc sz n u)[i*sz+j]? =some (u i j):=by
 have cI:i*sz+j<n*sz:=by
  have:(i+1)*sz≤n*sz:=aC2 sz hi;rw[aDb]at this;omega
 have h1:(i*sz+j)/sz=i:=by
  rw[aDM,Nat.mul_add_div (by omega),aEw hj];omega
 have h2:(i*sz+j)%sz=j:=by
  rw[aDM,Nat.mul_add_mod,aEx hj]
 simp [tc,aD8 cI,h1,h2]
theorem J_{sz n:Nat}{u:Nat→Nat→Value}{k:Nat}{v:Value}(h:(tc sz n u)[k]? =some v): ∃i j,i<n∧j<sz∧k=i*sz+j∧v=u i j:=by
 have hk:k<n*sz:=by
  have:=(aDc.1 h).1;simpa[tc]using this
 have dw:0<sz:=by
  rcases aDW sz with e|e
  ·subst e;omega
  ·exact e
 have h1:k/sz<n:=(Nat.div_lt_iff_lt_mul dw).2 hk;have h2:k%sz<sz:=Nat.mod_lt _ dw;have h3:k=k/sz*sz+k%sz:=by rw[aDM];exact(Nat.div_add_mod k sz).symm
 have h4:=Kk (u:=u) h1 h2;rw[←h3,h]at h4
 cases h4
 exact⟨_,_,h1,h2,h3,rfl⟩
theorem aAL{T2:TypeId}{str:Bool}(h:aP S ι st a w)(oo:if str then E.P.underlying T2=some .string else∃e,E.P.underlying T2=some (.slice e)){aO:Nat}{y:AV}{v:Value}(hy:VR S ι st.hp w y v){K:Nat→(Nat→List AV)→Prop}(hk:nE st.hp str aO y K):
  ∃m g news,K m g∧m≤dg∧Src E.P aO T2 v m news w∧ ∀i j,i<m→j<aO→ ∃av u,(g i)[j]? =some av∧news[i*aO+j]? =some u∧aR w (FZ S ι st.hp w) av u:=by
 have fin: ∀(sz m:Nat) (g:Nat→List AV) (x p c:Nat) (u:Nat→Nat→Value) (q:Nat→Nat→AV),str=false→sz=aO→v= .slice (some ⟨x,p,none⟩) m c→m≤dg→K m g→(∀i j,i<m→j<sz→(g i)[j]? =some (q i j))→(∀i j,i<m→j<sz→w.cell? ⟨x,p+(i*sz+j),none⟩=some (u i j))→
   (∀i j,i<m→j<sz→aR w (FZ S ι st.hp w) (q i j) (u i j))→ ∃m g news,K m g∧m≤dg∧Src E.P aO T2 v m news w∧ ∀i j,i<m→j<aO→ ∃av u,(g i)[j]? =some av∧news[i*aO+j]? =some u∧aR w (FZ S ι st.hp w) av u:=by
  intro sz m g x p c u q hs dw hv hm hK h1 h2 h3;subst dw;subst hv;rw[hs]at oo;obtain⟨e,he⟩:=oo;refine⟨m,g,tc sz m u,hK,hm,Src.ofSlice w he _ m c _ (Fs _ _ _) (fun j v hj=> ?_) (fun v hv=> ?_),fun i j hi hj=>⟨_,_,h1 i j hi hj,Kk hi hj,h3 i j hi hj⟩⟩
  ·obtain⟨i,j',hi,nn,e1,e2⟩:=J_ hj;rw[Addr.add_lit,e1,e2];exact h2 i j' hi nn
  ·obtain⟨k,hk⟩:=aDJ hv;obtain⟨i,j',hi,nn,e1,e2⟩:=J_ hk;rw[e2];exact aiD (h3 i j' hi nn).one
 have none:str=false→K 0 (fun _=>[])→(∃c,v= .slice Option.none 0 c)→ ∃m g news,K m g∧m≤dg∧Src E.P aO T2 v m news w∧ ∀i j,i<m→j<aO→ ∃av u,(g i)[j]? =some av∧news[i*aO+j]? =some u∧aR w (FZ S ι st.hp w) av u:=by
  rintro hs hK ⟨c,rfl⟩
  rw[hs]at oo;obtain⟨e,he⟩:=oo;exact⟨0,_,[],hK,aCQ _,Src.ofNil w he c,fun i j hi=>by omega⟩
 have empty: ∀(g:Nat→List AV),str=false→K 0 g→(∃a c,v= .slice a 0 c)→ ∃m g news,K m g∧m≤dg∧Src E.P aO T2 v m news w∧ ∀i j,i<m→j<aO→ ∃av u,(g i)[j]? =some av∧news[i*aO+j]? =some u∧aR w (FZ S ι st.hp w) av u:=by
  rintro g hs hK ⟨a',c,rfl⟩
  rw[hs]at oo;obtain⟨e,he⟩:=oo;refine⟨0,g,[],hK,aCQ _,?_,fun i j hi=>by omega⟩
  cases a' with
  |none=>exact Src.ofNil w he c
  |some a'=>exact Src.ofSlice w he a' 0 c [] (by simp) (fun j u hj=>by simp at hj) (fun u hu=>by cases hu)
 cases y<;>simp only[nE]at hk<;>try exact hk.elim
 case aE=>
  obtain⟨h1,hK⟩:=aD.1 hk;have jo:aR w (FZ S ι st.hp w) .aE v:=hy
  cases jo
  exact none (by simpa using h1) hK ⟨0,rfl⟩
 case str s=>
  obtain⟨h1,hK⟩:=aD.1 hk;simp only[aCN,aDd]at h1;obtain⟨h1,rfl⟩:=h1;subst h1;have oo:E.P.underlying T2=some .string:=oo;have hb:=VR.Zf hy;have hv:=VR.str hy;subst hv;refine⟨s.size,wZ s,byteCells s,hK,hb,Src.ofString w oo s,fun i j hi hj=> ?_⟩;have hj0:j=0:=by omega
  subst hj0;have eO:i<s.data.toList.length:=by simpa using hi
  refine⟨_,.int .u8 ((s.data.toList.getD i 0).toNat:Int),rfl,?_,.int _ _⟩;simp only[byteCells,Nat.mul_one,aDl,aC4,aCP eO,aDC,List.getD,aDk]
 case arr sz n f=>
  obtain⟨h1,hK⟩:=aD.1 hk;simp only[aCN,aC_,aDd]at h1;obtain⟨h1,rfl⟩:=h1;have jo:aR w (FZ S ι st.hp w) (.arr sz n f) v:=hy
  cases jo with
  |nil=>exact empty _ h1 hK ⟨_,_,rfl⟩
  |mt=>exact empty _ h1 hK ⟨_,_,rfl⟩
  |arr _ _ _ b p c g u hn C7 hF g1 g2 g3=>exact fin sz n f b p c u g h1 rfl rfl C7 hK g1 (fun i j hi hj=>by rw[←aDF];exact g2 i j hi hj) g3
 case own b k=>
  cases e:aj st.hp b 0<;>rw[e]at hk<;>simp only at hk
  rename_i ro sz n f;obtain⟨h1,rfl,hK⟩:=aD.1 hk;simp only[aCN,aC_,aDd]at h1;obtain⟨h1,rfl⟩:=h1;obtain⟨_,iq,fe,n',f',e2,_,h3⟩:=(show CR S ι st.hp w (.own b k) v from hy);rw[e]at e2;cases e2;rcases h3 rfl with⟨q,c,C,T',hq,hv,gL,hC,eZ⟩|⟨rfl,_,hv⟩
  ·have hl:=h.hp b 0;rw[e]at hl;obtain⟨_,hd|⟨dK,hl|⟨q',C',T2',dn,iD,eB⟩⟩⟩:=hl
   ·rw[hq]at hd;cases hd.2.2
   ·rw[hq]at hl;cases hl.2
   ·rw[hq]at dn;cases dn;rw[hC]at iD;cases iD;refine fin sz k f q 0 c (fun i j=>(C[i*sz+j]?).getD undef) (fun i j=>((f i)[j]?).getD .undef) h1 rfl hv dK hK (fun i j hi hj=> ?_) (fun i j hi hj=> ?_) (fun i j hi hj=> ?_)
    ·obtain⟨av,u,g1,g2,g3⟩:=eB i j hi hj;rw[g1];rfl
    ·obtain⟨av,u,g1,g2,g3⟩:=eB i j hi hj;rw[aDN w q _ C T' (0,0) hC,aCO,g2];rfl
    ·obtain⟨av,u,g1,g2,g3⟩:=eB i j hi hj;simp only[g1,g2,aDk];exact g3
  ·exact empty _ h1 hK ⟨_,_,hv⟩
theorem aaP(h:aP S ι st a w){T T2 ty e:TypeId}{i:TypeInfo}{z:Value}(hT:E.P.underlying T=some (.slice e))(hi:E.P.info? e=some i)(hz:i.zero=some z)(pT:i.bytes≤256)(jW:z.cells.size=i.size)
  {b k n m:Nat} {f g hh:Nat→List AV} (mG: ∀i,i<n+m→ix n f g i=hh i) {v x:Value} {news:List Value} (eM:aj st.hp b 0= .ah false i.size n f) (zF:k=n) (hv:CR S ι st.hp w (.own b k) v) (dK:n+m≤dg) (hs:Src E.P i.size T2 x m news w)
  (nq: ∀i' j,i'<m→j<i.size→ ∃av u,(g i')[j]? =some av∧news[i'*i.size+j]? =some u∧aR w (FZ S ι st.hp w) av u):
  ∃aA w' u,(Builtin.append_ #[T,T2] ty #[v,x]).run E.P w= .ok u w'∧(∀b',aA b'≠none→ι b'≠none∨b'=b)∧aP S aA ⟨st.tm,bl st.hp b 0 (.ah false i.size (n+m) hh)⟩ a w'∧
   CR S aA (bl st.hp b 0 (.ah false i.size (n+m) hh)) w' (.own b (n+m)) u:=by
 obtain⟨_,iq,fe,n',f',e2,_,h3⟩:=hv;rw[eM]at e2;cases e2;have hB:dg=549755813888:=rfl;have Hz:(n+m)*i.bytes≤140737488355328:=aCX (Nat.mul_le_mul (by omega:n+m≤549755813888) pT) (by decide);have hl:=h.hp b 0;rw[eM]at hl;have grow: ∀(base:Option Addr) (c:Nat) (kx:List Value),(Builtin.firstCells i.size n (.slice base n c)).run E.P w.drew= .ok kx.toArray w.drew→kx.length=n*i.size→(∀i' j,i'<n→j<i.size→ ∃av u,(f i')[j]? =some av∧kx[i'*i.size+j]? =some u∧aR w (FZ S ι st.hp w) av u)→
   c<n+m→v= .slice base n c→n<n+m→ ∃aA w' u,(Builtin.append_ #[T,T2] ty #[v,x]).run E.P w= .ok u w'∧(∀b',aA b'≠none→ι b'≠none∨b'=b)∧aP S aA ⟨st.tm,bl st.hp b 0 (.ah false i.size (n+m) hh)⟩ a w'∧
   CR S aA (bl st.hp b 0 (.ah false i.size (n+m) hh)) w' (.own b (n+m)) u:=by
  intro base c kx hold ug HT hc uj cI;have b_:=run_append_grow_src (P:=E.P) w T T2 ty e i z hT hi hz base n c kx hold x m news hs hc (by omega) (growslice_fits hc Hz);have ox:=aDP w (n+m) c e;generalize grownCap w (n+m) c e=cap at b_ ox;have o8:Below w.heap.size w (w.drew.alloc (.cells ((kx++news).toArray++Builtin.zeroCells z.cells (cap- (n+m))) e)):=(Below.drew (Below.refl _ w)).alloc (aCK _) _;have VL: ∀i' j,i'<n+m→j<i.size→ ∃av u,(hh i')[j]? =some av∧((kx++news).toArray++Builtin.zeroCells z.cells (cap- (n+m)))[i'*i.size+j]? =some u∧aR (w.drew.alloc (.cells ((kx++news).toArray++Builtin.zeroCells z.cells (cap- (n+m))) e)) (FZ S ι st.hp w) av u:=fun i' j eO hj=>by
   have HP: ∀{av:AV} {u:Value},aR w (FZ S ι st.hp w) av u→aR (w.drew.alloc (.cells ((kx++news).toArray++Builtin.zeroCells z.cells (cap- (n+m))) e)) (FZ S ι st.hp w) av u:=fun hr=>hr.mono (fun _ h=>h) fun y o hy=>o8.cell hy.2.1;have hmul:(n+m)*i.size=n*i.size+m*i.size:=aC6 _ _ _
   by_cases gS:i'<n
   ·obtain⟨av,u,k1,k2,k3⟩:=HT i' j gS hj;have V4:i'*i.size+j<n*i.size:=by
     have:(i'+1)*i.size≤n*i.size:=aC2 _ gS;rw[aDb]at this;omega
    refine⟨av,u,?_,?_,HP k3⟩
    ·have:Nat.blt i' n=true:=by simpa[aC9]using gS
     rw[←mG i' eO];simp only[ix,this,aCJ];exact k1
    ·rw[aDt (by simp [ug,hs.newsLen];omega)];simp only[aDI];rw[aDH (by omega)];exact k2
   ·obtain⟨av,u,k1,k2,k3⟩:=nq (i'-n) j (by omega) hj;have rQ:(i'-n)*i.size=i'*i.size-n*i.size:=aD3 _ _ _;have ata:n*i.size≤i'*i.size:=aC2 _ (by omega);have V4:i'*i.size+j<(n+m)*i.size:=by
     have:(i'+1)*i.size≤(n+m)*i.size:=aC2 _ eO;rw[aDb]at this;omega
    refine⟨av,u,?_,?_,HP k3⟩
    ·have:Nat.blt i' n=false:=by
      cases e:Nat.blt i' n with
      |false=>rfl
      |true=>exact absurd (aC1 e) (by omega)
     rw[←mG i' eO];simp only[ix,this,aCI];exact k1
    ·rw[aDt (by simp [ug,hs.newsLen];omega)];simp only[aDI];rw[aD4 (by omega),ug];rw[rQ]at k2;rw[show i'*i.size+j-n*i.size=i'*i.size-n*i.size+j by omega];exact k2
  obtain⟨h1,h2⟩:=h.I5 o8 (b:=b) (x:=w.heap.size) (aCK _) (by simp) (f:=hh) (n:=n+m) (sz:=i.size) (c:=cap) dK ox (aDE w.drew _) (by
   simp only[aDQ,aDw,aC8,size_zeroCells,jW,ug,hs.newsLen,←aC6]
   congr 1;omega) (F':=FZ S ι st.hp w) (fun y hy=> .inl hy) VL (.inr ⟨n,f,eM,cI⟩)
  subst uj;exact⟨_,_,_,b_,Ea _ _ _,h1,h2⟩
 rcases h3 zF with⟨q,c,C,T',hq,uj,gL,hC,eZ⟩|⟨wj,NP,uj⟩
 ·obtain⟨_,hd|⟨_,hl|⟨q',C',T2',dn,iD,eB⟩⟩⟩:=hl
  ·rw[hq]at hd;cases hd.2.2
  ·rw[hq]at hl;cases hl.2
  rw[hq]at dn;cases dn;rw[hC]at iD;cases iD
  by_cases hr:n+m≤c
  ·have hmul:(n+m)*i.size≤c*i.size:=aC2 _ hr;have VA:(n+m)*i.size=n*i.size+m*i.size:=aC6 _ _ _;have b_:=run_append_room_src (P:=E.P) w T T2 ty e i hT hi q 0 n c x m news hs hr (fun j hj=>by
    rw[aDN w q _ C T' (0,0) hC,aCO];rw[hs.newsLen]at hj;rw[aDu (by omega)];rfl) (fun j hj=>by
    rw[hs.newsLen]at hj;unfold World.frozen?;rw[hC];simp)
   rw[aCO]at b_;obtain⟨h1,h2⟩:=h.aAj (g:=g) mG eM hq hC eZ hr dK news hs.newsLen nq;subst uj;exact⟨ι,_,_,b_,fun b' eA=> .inl eA,h1,h2⟩
  ·refine grow _ c (tc i.size n fun i' j=>(C[i'*i.size+j]?).getD undef) ?_ (Fs _ _ _) (fun i' j eO hj=> ?_) (by omega) uj (by omega)
   ·refine aEo (P:=E.P) w.drew i.size n ⟨q,0,none⟩ n c _ (Fs _ _ _) fun j u hj=> ?_;obtain⟨i',j',eO,nn,e1,e2⟩:=J_ hj;rw[Addr.add_lit,e1,e2];obtain⟨av,u,g1,g2,g3⟩:=eB i' j' eO nn;rw[aDN w.drew q _ C T' (0,0) hC,aCO,g2];rfl
   ·obtain⟨av,u,g1,g2,g3⟩:=eB i' j eO hj;exact⟨av,u,g1,by rw[Kk eO hj,g2];rfl,g3⟩
 ·subst wj
  by_cases hm:m=0
  ·subst hm;have hnn:news=[]:=aEA (by rw[hs.newsLen];simp);have b_:(Builtin.append_ #[T,T2] ty #[v,x]).run E.P w= .ok (.slice none 0 0) w:=by
    subst uj;rcases hs.kind with⟨e',hk⟩|hk<;>simp [Builtin.append_,aCU hT,aCU hk,sizeOf,typeInfo,hi,hs.len,hs.cells]
   have hH: ∀b' o,aj (bl st.hp b 0 (.ah false i.size (0+0) hh)) b' o=if b'=b∧o=0 then .ah false i.size 0 hh else aj st.hp b' o:=fun b' o=>e_ _ _ _ _ _ _
   have mF:aj (bl st.hp b 0 (.ah false i.size (0+0) hh)) b 0= .ah false i.size 0 hh:=by rw[hH,aCL ⟨rfl,rfl⟩]
   have Wp:dV ι st.hp w (FZ S ι st.hp w) ι (bl st.hp b 0 (.ah false i.size (0+0) hh)) w (FZ S ι (bl st.hp b 0 (.ah false i.size (0+0) hh)) w):=by
    refine⟨fun y ⟨h1,h2,h3⟩=>⟨h1,h2,fun b' eA he=> ?_⟩,fun _ _ _=>rfl,fun b' z hz hk=>⟨hz,?_⟩,fun b' ro fe n' f' hk=> ?_⟩
    ·have e:b'≠b:=fun e=>by rw[e,NP]at he;cases he
     exact h3 b' (oG (fun o=>by rw[hH,aCM (fun e'=>e e'.1)]) eA) he
    ·have e:b'≠b:=fun e=>by rw[e,eM]at hk;cases hk
     rw[hH,aCM (fun e'=>e e'.1)];exact hk
    ·by_cases e:b'=b
     ·subst e;rw[eM]at hk;cases hk;exact⟨false,_,0,_,mF,aCK _,fun _=>⟨rfl,rfl,fun y D T' hy hD=>by rw[NP]at hy;cases hy⟩⟩
     ·exact⟨ro,_,n',f',by rw[hH,aCM (fun e'=>e e'.1)];exact hk,aCK _,fun _=>⟨rfl,rfl,fun y D T' hy hD=>⟨D,hD,rfl⟩⟩⟩
   refine⟨ι,w,_,b_,fun b' eA=> .inl eA,⟨h.below,h.defers,fun t av ht=> ?_,fun b' o=> ?_,h.inj,h.fresh,fun b' y hy=>aC0 (h.gH _ _ hy) (mJ _ _ _ _).1,h.gK.trans Wp⟩,?_⟩
   ·obtain⟨v,h1,h2⟩:=h.tm t av ht;exact⟨v,h1,h2.step Wp⟩
   ·show fc _ _ _ _ _ _ (aj (bl st.hp b 0 (.ah false i.size (0+0) hh)) b' o);rw[hH]
    by_cases e:b'=b∧o=0
    ·rw[aCL e];exact⟨e.2,.inr ⟨aCQ _,.inl ⟨rfl,by rw[e.1];exact NP⟩⟩⟩
    ·rw[aCM e];exact(h.hp b' o).step Wp (fun _=>rfl) (fun _ _ _=>⟨rfl,rfl⟩) (fun _=>⟨rfl,fun _ _=>rfl⟩)
   ·exact⟨rfl,false,i.size,0,_,mF,aCK _,fun _=> .inr ⟨rfl,NP,rfl⟩⟩
  ·exact grow none 0 [] (run_firstCells_none w.drew i.size 0 0 0) (by simp) (fun i' j eO=>by omega) (by omega) uj (by omega)
theorem anB(h:aP S ι st a w){T T2 ty e:TypeId}{i:TypeInfo}{z:Value}(hT:E.P.underlying T=some (.slice e))(hi:E.P.info? e=some i)(hz:i.zero=some z)(pT:i.bytes≤256)(jW:z.cells.size=i.size)
  {nb n m:Nat} {f g hh:Nat→List AV} (mG: ∀i,i<n+m→ix n f g i=hh i) {v x:Value} {news:List Value} (fZ: ∀o,aj st.hp nb o= .undef) (qc:ι nb=none) (hv:aR w (FZ S ι st.hp w) (.kK i.size n f) v) (hm:0<m) (dK:n+m≤dg) (hs:Src E.P i.size T2 x m news w)
  (nq: ∀i' j,i'<m→j<i.size→ ∃av u,(g i')[j]? =some av∧news[i'*i.size+j]? =some u∧aR w (FZ S ι st.hp w) av u):
  ∃aA w' u,(Builtin.append_ #[T,T2] ty #[v,x]).run E.P w= .ok u w'∧(∀b',aA b'≠none→ι b'≠none∨b'=nb)∧aP S aA ⟨st.tm,bl st.hp nb 0 (.ah false i.size (n+m) hh)⟩ a w'∧
   CR S aA (bl st.hp nb 0 (.ah false i.size (n+m) hh)) w' (.own nb (n+m)) u:=by
 have hB:dg=549755813888:=rfl;have Hz:(n+m)*i.bytes≤140737488355328:=aCX (Nat.mul_le_mul (by omega:n+m≤549755813888) pT) (by decide);have grow: ∀(base:Option Addr) (c:Nat) (kx:List Value),(Builtin.firstCells i.size n (.slice base n c)).run E.P w.drew= .ok kx.toArray w.drew→kx.length=n*i.size→(∀i' j,i'<n→j<i.size→ ∃av u,(f i')[j]? =some av∧kx[i'*i.size+j]? =some u∧aR w (FZ S ι st.hp w) av u)→
   c<n+m→v= .slice base n c→ ∃aA w' u,(Builtin.append_ #[T,T2] ty #[v,x]).run E.P w= .ok u w'∧(∀b',aA b'≠none→ι b'≠none∨b'=nb)∧aP S aA ⟨st.tm,bl st.hp nb 0 (.ah false i.size (n+m) hh)⟩ a w'∧
   CR S aA (bl st.hp nb 0 (.ah false i.size (n+m) hh)) w' (.own nb (n+m)) u:=by
  intro base c kx hold ug HT hc uj;have b_:=run_append_grow_src (P:=E.P) w T T2 ty e i z hT hi hz base n c kx hold x m news hs hc (by omega) (growslice_fits hc Hz);have ox:=aDP w (n+m) c e;generalize grownCap w (n+m) c e=cap at b_ ox;have o8:Below w.heap.size w (w.drew.alloc (.cells ((kx++news).toArray++Builtin.zeroCells z.cells (cap- (n+m))) e)):=(Below.drew (Below.refl _ w)).alloc (aCK _) _;have VL: ∀i' j,i'<n+m→j<i.size→ ∃av u,(hh i')[j]? =some av∧((kx++news).toArray++Builtin.zeroCells z.cells (cap- (n+m)))[i'*i.size+j]? =some u∧aR (w.drew.alloc (.cells ((kx++news).toArray++Builtin.zeroCells z.cells (cap- (n+m))) e)) (FZ S ι st.hp w) av u:=fun i' j eO hj=>by
   have HP: ∀{av:AV} {u:Value},aR w (FZ S ι st.hp w) av u→aR (w.drew.alloc (.cells ((kx++news).toArray++Builtin.zeroCells z.cells (cap- (n+m))) e)) (FZ S ι st.hp w) av u:=fun hr=>hr.mono (fun _ h=>h) fun y o hy=>o8.cell hy.2.1;have hmul:(n+m)*i.size=n*i.size+m*i.size:=aC6 _ _ _
   by_cases gS:i'<n
   ·obtain⟨av,u,k1,k2,k3⟩:=HT i' j gS hj;have V4:i'*i.size+j<n*i.size:=by
     have:(i'+1)*i.size≤n*i.size:=aC2 _ gS;rw[aDb]at this;omega
    refine⟨av,u,?_,?_,HP k3⟩
    ·have:Nat.blt i' n=true:=by simpa[aC9]using gS
     rw[←mG i' eO];simp only[ix,this,aCJ];exact k1
    ·rw[aDt (by simp [ug,hs.newsLen];omega)];simp only[aDI];rw[aDH (by omega)];exact k2
   ·obtain⟨av,u,k1,k2,k3⟩:=nq (i'-n) j (by omega) hj;have rQ:(i'-n)*i.size=i'*i.size-n*i.size:=aD3 _ _ _;have ata:n*i.size≤i'*i.size:=aC2 _ (by omega);have V4:i'*i.size+j<(n+m)*i.size:=by
     have:(i'+1)*i.size≤(n+m)*i.size:=aC2 _ eO;rw[aDb]at this;omega
    refine⟨av,u,?_,?_,HP k3⟩
    ·have:Nat.blt i' n=false:=by
      cases e:Nat.blt i' n with
      |false=>rfl
      |true=>exact absurd (aC1 e) (by omega)
     rw[←mG i' eO];simp only[ix,this,aCI];exact k1
    ·rw[aDt (by simp [ug,hs.newsLen];omega)];simp only[aDI];rw[aD4 (by omega),ug];rw[rQ]at k2;rw[show i'*i.size+j-n*i.size=i'*i.size-n*i.size+j by omega];exact k2
  obtain⟨h1,h2⟩:=h.I5 o8 (b:=nb) (x:=w.heap.size) (aCK _) (by simp) (f:=hh) (n:=n+m) (sz:=i.size) (c:=cap) dK ox (aDE w.drew _) (by
   simp only[aDQ,aDw,aC8,size_zeroCells,jW,ug,hs.newsLen,←aC6]
   congr 1;omega) (F':=FZ S ι st.hp w) (fun y hy=> .inl hy) VL (.inl ⟨fZ,qc⟩)
  subst uj;exact⟨_,_,_,b_,Ea _ _ _,h1,h2⟩
 cases hv with
 |kK _ _ _ p c h0 hc=>
  subst hc
  cases h0 with
  |nil=>exact grow none 0 [] (run_firstCells_none w.drew i.size 0 0 0) (by simp) (fun i' j eO=>by omega) (by omega) rfl
  |mt _ _ ad c=>exact grow (some ad) 0 [] (aEo (P:=E.P) w.drew i.size 0 ad 0 0 [] (by simp) fun j u hj=>by simp at hj) (by simp) (fun i' j eO=>by omega) (by omega) rfl
  |arr _ _ _ q o _ gg vs hn hb hF g1 g2 g3=>
   refine grow (some ⟨q,o,none⟩) _ (tc i.size _ vs) ?_ (Fs _ _ _) (fun i' j eO hj=>⟨_,_,g1 i' j eO hj,Kk eO hj,g3 i' j eO hj⟩) (by omega) rfl;refine aEo (P:=E.P) w.drew i.size _ ⟨q,o,none⟩ _ _ _ (Fs _ _ _) fun j u hj=> ?_;obtain⟨i',j',eO,nn,e1,e2⟩:=J_ hj;rw[Addr.add_lit,e1,e2,←aDF];exact g2 i' j' eO nn
theorem anC{o:Oper}{c:Go.Call}{x y:Operand}{T T2:TypeId}{t:Ty}{str:Bool}(ho:o.op= .call c)(hc:c.callee= .builtin .append)(eK:c.args= #[x,y])(HZ:c.argTypes= #[T,T2])(hT:gF E.P T t)
  (oo:if str then E.P.underlying T2=some .string else∃e,E.P.underlying T2=some (.slice e)) (h:aP S ι st a w) {nb:Nat} (fZ: ∀o,aj st.hp nb o= .undef) (qc:ι nb=none) {K:AV→Ws→Prop}
  (hk:oJ t str st.hp nb (aC st.tm x) (aC st.tm y) K) {next:Act→World→Prop} {Q:Exit→Act→World→Prop}
  (bQ: ∀aA av ws v w',K av ws→aP S aA ⟨st.tm,bm st.hp ws⟩ a w'→VR S aA (bm st.hp ws) w' av v→(∀b,aA b≠none→ι b≠none∨ ∃p c,(b,p,c)∈ws)→next (a.put o.dst v) w'):o.wp E.P a w next Q:=by
 have hx:=h.eval x;have hy:=h.eval y;have hd:=hT.d;unfold oJ at hk
 cases ed:t.d<;>rw[ed]at hk<;>simp only at hk<;>try exact hk.elim
 rename_i e aO eb;rw[ed]at hd;obtain⟨hu,i,eF,gR,nm,pY⟩:=hd;subst gR;subst nm;obtain⟨agz,hk⟩:=aD.1 hk;simp only[aCN,aC9]at agz;have pT:i.bytes≤256:=aC1 agz.1;obtain⟨z,hz⟩:=Option.isSome_iff_exists.1 pY.1;have jW:z.cells.size=i.size:=pY.2 z hz;have b_: ∀u w',(Builtin.append_ #[T,T2] o.type #[a.eval x,a.eval y]).run E.P w= .ok u w'→(execOp a.eval o).run E.P w= .ok (.value u) w':=fun u w' hv=>by
  simp [execOp,ho,resolve,hc,eK,HZ,invoke,builtin,hv]
 obtain⟨m,g,news,hk,hm,p_,nq⟩:=aAL h oo hy hk
 cases ex:aC st.tm x<;>rw[ex]at hk hx<;>simp only at hk<;>try exact hk.elim
 ·have cQ:aR w (FZ S ι st.hp w) .aE (a.eval x):=hx;have hxv:a.eval x= .slice none 0 0:=by
   generalize a.eval x=v at cQ
   cases cQ;rfl
  obtain⟨h1,h2,h3⟩:=h.Oz fZ qc i.size (fun _=>[]);have eM:aj (bl st.hp nb 0 (.ah false i.size 0 fun _=>[])) nb 0= .ah false i.size 0 (fun _=>[]):=by rw[e_,aCL ⟨rfl,rfl⟩]
  obtain⟨aA,w',u,r1,r2,r3,r4⟩:=aaP (g:=g) (hh:=ix 0 (fun _=>[]) g) (ty:=o.type) h1 hu eF hz pT jW (fun _ _=>rfl) eM rfl (h3 _) (by simpa using hk.1) (x:=a.eval y) p_ (fun i' j eO hj=>by
   obtain⟨av,u,k1,k2,k3⟩:=nq i' j eO hj;exact⟨av,u,k1,k2,k3.mono h2.fz h2.cell⟩)
  rw[←hxv]at r1;have hf:ix 0 (fun _=>[]) g=g:=by
   funext j
   have h0:Nat.blt j 0=false:=by cases j<;>rfl
   simp only[ix,h0,aCI,Nat.sub_zero]
  have hH:bl (bl st.hp nb 0 (.ah false i.size 0 fun _=>[])) nb 0 (.ah false i.size (0+m) (ix 0 (fun _=>[]) g))=bl st.hp nb 0 (.ah false i.size m g):=by
   rw[hf,aCO];simp only[bl];have: ∀{α:Type} (d:α) (l:List α) (k:Nat) (p q:α),setAt d (setAt d l k p) k q=setAt d l k q:=fun {α} d l k p q=>by
    induction l generalizing k with
    |nil=>induction k with
     |zero=>rfl
     |succ k ih=>simp [setAt,ih]
    |cons y l ih=>cases k with
     |zero=>rfl
     |succ k=>simp [setAt,ih]
   have h0:(setAt [] st.hp nb (setAt .undef (st.hp.getD nb []) 0 (.ah false i.size 0 fun _=>[]))).getD nb []=setAt .undef (st.hp.getD nb []) 0 (.ah false i.size 0 fun _=>[]):=by rw[pQ,aCL rfl]
   rw[h0,this,this]
  simp only at r3 r4;rw[hH]at r3 r4;rw[aCO]at r4;exact de (b_ _ _ r1) (bQ aA _ _ u w' hk.2 r3 r4 fun b hb=>(r2 b hb).imp id fun e=>⟨0,.ah false i.size m g,by subst e;simp⟩)
 ·rename_i b k
  cases e:aj st.hp b 0<;>rw[e]at hk<;>simp only at hk
  rename_i ro sz n f;obtain⟨rI,zF,dK,hh,mG,hK⟩:=aD.1 hk;simp only[aCN,aC_,aDd]at rI;obtain⟨rfl,rfl⟩:=rI;obtain⟨aA,w',u,r1,r2,r3,r4⟩:=aaP (g:=g) (hh:=hh) (ty:=o.type) h hu eF hz pT jW mG e zF hx dK (x:=a.eval y) p_ nq;exact de (b_ _ _ r1) (bQ aA _ _ u w' hK r3 r4 fun b' hb=>(r2 b' hb).imp id fun e=>⟨0,.ah false i.size (n+m) hh,by subst e;simp⟩)
 ·rename_i sz n f;obtain⟨rI,HN,dK,hh,mG,hK⟩:=aD.1 hk;have rI:=ay rI;subst rI;obtain⟨aA,w',u,r1,r2,r3,r4⟩:=anB (g:=g) (hh:=hh) (ty:=o.type) h hu eF hz pT jW mG fZ qc hx HN dK (x:=a.eval y) p_ nq;exact de (b_ _ _ r1) (bQ aA _ _ u w' hK r3 r4 fun b' hb=>(r2 b' hb).imp id fun e=>⟨0,.ah false i.size (n+m) hh,by subst e;simp⟩)
end
def aje(ρ:Nat→Nat):AV→AV
 | .ptr b o=> .ptr (ρ b) o
 |x=>x
def fB(ρ:Nat→Nat):AV→AV
 | .own b k=> .own (ρ b) k
 | .ptr b o=> .ptr (ρ b) o
 | .fF b k i o=> .fF (ρ b) k i o
 | .fn f bp=> .fn f (bp.map (aje ρ))
 |x=>x
def lM(ρ:Nat→Nat):AV→AV
 | .agg cs=> .agg (cs.map (fB ρ))
 |x=>fB ρ x
def qO(D:Nat→Bool):AV→Bool
 | .ptr b _=>D b
 |x=>nK x
def nN(D:Nat→Bool):AV→Bool
 | .own b _=>D b
 | .ptr b _=>D b
 | .fF b _ _ _=>D b
 | .fn _ bp=>bp.all (qO D)
 |_=>true
def xk(D:Nat→Bool):AV→Bool
 | .agg cs=>cs.all (nN D)
 | .cU _=>false
 | .gone=>false
 |x=>nN D x
def pos:List Nat→Nat→Nat
 |[],_=>0
 |x::l,b=>match Nat.beq x b with
  |true=>0
  |false=>pos l b+1
def mem(l:List Nat)(b:Nat):Bool:=l.any fun x=>Nat.beq x b
def dedup:List Nat→List Nat
 |[]=>[]
 |x::l=>match mem l x with
  |true=>dedup l
  |false=>x::dedup l
def YE:AV→List Nat
 | .ptr b _=>[b]
 |_=>[]
def aiZ:AV→List Nat
 | .ptr b _=>[b]
 | .fn _ bp=>bp.flatMap YE
 |_=>[]
def ai0:AV→List Nat
 | .agg cs=>cs.flatMap aiZ
 |x=>aiZ x
def OM:AV→List Nat
 | .own b _=>[b]
 |_=>[]
def aa2(aa:List AV):List Nat:=dedup (aa.flatMap ai0)
def EU(H:Heap)(aa:List AV):List Nat:=dedup (aa2 aa++(aa2 aa).flatMap fun b=>(H.getD b []).flatMap YE)
def ay9:AV→List Nat
 | .agg cs=>cs.flatMap OM
 |x=>OM x
def dG(H:Heap)(aa:List AV):List Nat:=EU H aa++dedup (((EU H aa).flatMap fun b=>(H.getD b []).flatMap OM)++aa.flatMap ay9)
def nodup:List Nat→Bool
 |[]=>true
 |x::l=> !(mem l x)&&nodup l
def zY(l:List AV):Bool:=
 match l with
 |[]=>false
 |x::r=>match x with
  | .ah ro _ _ _=> !ro&&r.isEmpty
  |x=>(x::r).all (fun c=> !(bW c))&&(x::r).any pw
def qz:List Nat→Heap→Heap→Bool
 |[],_,ys=>ys.all fun y=> !(y.isEmpty)
 |b::l,H,ys=>match ys with
  |[]=>false
  |y::ys=>Nat.beq (H.getD b []).length y.length&&qz l H ys
def sR(σ:Nat→Nat):Nat→Heap→Ws
 |_,[]=>[]
 |i,l::r=>iy (σ i) (l.map (fB σ)) 0++sR σ (i+1) r
def dh:AV:= .ah true 0 (dg+1) fun _=>[]
def uS(L:List Nat)(nb i:Nat):Nat:=L.getD i (nb+(i-L.length))
def Pq:List AV→AV
 |[x]=>x
 |vs=> .cU vs
def qk(n:Nat)(b:Nat):Bool:=Nat.blt b n
def agx(aa:List AV):Bool:= !((aa.flatMap ai0).isEmpty)
def ot(E:Env)(H:Heap)(nb:Nat)(f:FuncId)(aa:List AV)(K:AV→Ws→Prop):Prop:=
 cT (nodup (dG H aa)&&(dG H aa).all (fun b=>zY (H.getD b [])&&(H.getD b []).all (nN (mem (dG H aa))))&&aa.all (xk (mem (dG H aa))))
  (match E.jU f (aa.map (lM (pos (dG H aa)))) ((dG H aa).map fun b=>(H.getD b []).map (fB (pos (dG H aa))))with
  |some (pre,rs,H')=>oD pre (cT (!(H'.isEmpty)&&qz (dG H aa) H H'&&H'.all (fun l=>l.all (nN (qk H'.length)))&&rs.all (fun r=>xk (qk H'.length) r&&oH r))
    (K (Pq (rs.map (lM (uS (dG H aa) nb)))) (sR (uS (dG H aa) nb) 0 H')))
  |none=>False)
end Go.Vc
namespace Go.Vc
open Go Go.ChangeShapes Go.RowKit Go.WideShapes
theorem aug{P:Program}{f:FuncId}{fn:Func}{s:ChangeSpec}{c:OpenClaim}
  (a1:c.wf (OpenSpec.ofChange s)=true) (a2:laidOutB P=true) (a3:mapsRowed P=true)
  (a4:fn.params.all (P.readableRec ·)=true) (a5:namedTie P c.named s.vars=true)
  (a6:(c.stops==[])=true) (a7:(P.stops==[])=true) (a8:(c.knobs==[])=true) (a9:(P.stopKnobs==[])=true)
  (jy:(c.inPlace==P.inPlace f)=true) (jz:(c.unfollowed==P.unfollowed f)=true) (j6:(c.recurses==P.recurses f)=true) (j7:(c.named==P.varsNamed f)=true)
  (j8:(c.maps==(fn.params.toList++s.plain.varTypes P).any (P.mapsRec ·))=true) (Ej:(c.ifaces==(fn.params.toList++s.plain.varTypes P).any (P.ifacesRec ·))=true) (Ek:(c.mapsOut==P.mapsAmong fn.resultTypes.toList)=true)
  (Em:(c.loops==(fn.params.toList++s.plain.varTypes P).any (P.loopsFrom ·))=true) (En:(c.wideKeys==(fn.params.toList++s.plain.varTypes P++fn.resultTypes.toList).any (P.wideKeysFrom ·))=true)
  (Ep:s.vars.all (P.varReadable ·)=true) (a20:fn.resultTypes.all (fun t=>P.readableRec t&&decide (t<P.types.size))=true) (Er:(c.ifacesOut==fn.resultTypes.toList.any (P.ifacesRec ·))=true) (a22:(c.loopsOut==fn.resultTypes.toList.any (P.loopsFrom ·))=true)
  (Es:(c.plainKeys==P.plainKeys)=true) (a24:c.shortTexts.isNone=true) (Et:P.stopsHeard=true) (Eu:P.mayEnter=true) (Ev:(c.lifted==P.liftsFinal)=true) (Ew:(P.make==some c.make)=true)
  (Ey:(c.kinds==(if c.domain.isEmpty then[]else fn.params.toList.map fun t=>match P.underlying t with|some (.int k)=>some k|_=>none))=true) (Ez:(c.pinned==c.pinnedBy)=true)
  (EA:(c.veiled==(fn.params.toList++s.plain.varTypes P++fn.resultTypes.toList).any (P.veiledRec ·))=true) (EB:c.veiledFits P fn.params.toList (fn.params.toList++s.plain.varTypes P++fn.resultTypes.toList)=true):
  joinedFacts P f fn s c=true:=by
 unfold joinedFacts;simp only[aCN];exact⟨⟨⟨⟨⟨⟨⟨⟨⟨⟨⟨⟨⟨⟨⟨⟨⟨⟨⟨⟨⟨⟨⟨⟨⟨⟨⟨⟨⟨⟨⟨a1,a2⟩,a3⟩,a4⟩,a5⟩,a6⟩,a7⟩,a8⟩,a9⟩,jy⟩,jz⟩,j6⟩,j7⟩,j8⟩,Ej⟩,Ek⟩,Em⟩,En⟩,Ep⟩,a20⟩,Er⟩,a22⟩,Es⟩,a24⟩,Et⟩,Eu⟩,Ev⟩,Ew⟩,Ey⟩,Ez⟩,EA⟩,EB⟩
end Go.Vc
namespace Go.Vc
open Go Go.RowKit
section
variable {P:Program}
theorem O6(w:World)(dT sT ty elem:TypeId)(i:TypeInfo)(b o Sq aoE:Nat)(a:Addr)(YU aAt:Nat)(cs:List Value)
  (hu:P.underlying dT=some (.slice elem)) (hi:P.info? elem=some i) (hn:cs.length=Nat.min YU Sq*i.size)
  (p_: ∀j v,cs[j]? =some v→w.cell? (a.add j)=some v) (hc: ∀j,j<cs.length→(w.cell? ⟨b,o+j,none⟩).isSome=true) (hf: ∀j,j<cs.length→w.frozen? ⟨b,o+j,none⟩=false) (h1: ∀v∈cs,v.oneCell'=true):
  (Builtin.copy_ #[dT,sT] ty #[.slice (some ⟨b,o,none⟩) Sq aoE,.slice (some a) YU aAt]).run P w= .ok (goInt (Nat.min YU Sq)) (w.setCells b o cs):=by
 have hl:=aEu (P:=P) w a cs p_;have fQ:=run_storeCells_cells (P:=P) b o cs 0 w (by simpa using hc) (by simpa using hf) h1;simp [Builtin.copy_,aCU hu,Builtin.lenOf,Builtin.firstCells,sizeOf,typeInfo,hi,←hn,hl,fQ]
theorem ajp(w:World)(t e ty:TypeId)(z:Value)(ht:P.underlying t=some (.slice e))(hv: ∀w,(zeroValue e).run P w= .ok z w)(b o n c:Nat)(hn:0<n)(zs:List Value)(hz:(Builtin.zeroCells z.cells n).toList=zs)(h1: ∀v∈zs,v.oneCell'=true)
  (hc: ∀j,j<zs.length→(w.cell? ⟨b,o+j,none⟩).isSome=true) (hf: ∀j,j<zs.length→w.frozen? ⟨b,o+j,none⟩=false):
  (Builtin.clear_ #[t] ty #[.slice (some ⟨b,o,none⟩) n c]).run P w= .ok (.tuple #[]) (w.setCells b o zs):=by
 have fQ:=run_storeCells_cells (P:=P) b o zs 0 w (by simpa using hc) (by simpa using hf) h1;simp only[aDl]at fQ;obtain⟨m,rfl⟩: ∃m,n=m+1:=⟨n-1,by omega⟩;simp [Builtin.clear_,aCU ht,hv,hz,fQ]
end
end Go.Vc
namespace Go.Vc
open Go Go.Lib Go.Proofs Go.RowKit Go.Shelf
section
variable {P:Program} {ρ:Ren}
structure qG (P:Program) (ρ:Ren) (k bytes:Nat) (z:Value):Prop where
 mixed:P.follows .mixedOrders=true
 F:Bears P (ρ.f 22) (Body2.n22 ρ)
 t3:P.underlying (ρ.t 3)=some (TypeDesc.int i64)
 t24:P.underlying (ρ.t 24)=some (TypeDesc.slice (ρ.t 9))
 z9: ∀w,(Go.sizeOf (ρ.t 9)).run P w= .ok k w
 i9:(P.info? (ρ.t 9)).map (fun i=>(i.zero,i.size,i.bytes))=some (some z,k,bytes)
 ov: ∀(w:World) (vb b o m vc lb cb:Nat) (tA tB:TypeId) (kA kB:Nat),vb≠b→w.shape? vb=some (tA,kA)→w.shape? b=some (tB,kB)→kB≠0→w.frozen? ⟨vb,0,none⟩=false→w.frozen? ⟨vb,kA,none⟩=false→
  (callFunc (ρ.f 29) #[.slice (some ⟨vb,0,none⟩) m vc,.slice (some ⟨b,o,none⟩) lb cb]).run P w= .ok (.value (.bool false)) w
set_option maxHeartbeats 4000000 in
set_option maxRecDepth 100000 in
theorem atP{k bytes:Nat}{z:Value}(L:qG P ρ k bytes z)(b n c i vb vc:Nat)(cs vs:List Value)(w:World)(hi:i<n)(rP:n+1≤c)(zH:n≤549755813888)(hvb:vb≠b)
  (lI:cs.length=n*k) (jV:vs.length=k)
  (kr: ∀j v,cs[j]? =some v→w.cell? ⟨b,j,none⟩=some v) (mI: ∀j,j<(n+1)*k→(w.cell? ⟨b,j,none⟩).isSome=true) (nk: ∀j,w.frozen? ⟨b,j,none⟩=false)
  (iF: ∀j v,vs[j]? =some v→w.cell? ⟨vb,j,none⟩=some v) (CU: ∀v∈cs,v.oneCell'=true) (yW: ∀v∈vs,v.oneCell'=true)
  (tA tB:TypeId) (kA kB:Nat) (hsa:w.shape? vb=some (tA,kA)) (hsb:w.shape? b=some (tB,kB)) (hkB:kB≠0) (hfa: ∀j,w.frozen? ⟨vb,j,none⟩=false):
  Calls P (ρ.f 22) #[.slice (some ⟨b,0,none⟩) n c,.int .i64 i,.slice (some ⟨vb,0,none⟩) 1 vc] w fun e w'=>
   e= .returned (.slice (some ⟨b,0,none⟩) (n+1) c)∧w'=(w.drew.setCells b (i*k+k) (cs.drop (i*k))).setCells b (i*k) vs:=by
 have u3:=aCU L.t3;have Zq:=aCU L.t24;have mixed:=L.mixed;have t3:=L.t3;have t24:=L.t24;have z9:=L.z9;have rT: ¬((i:Int)=(n:Int)):=by omega
 obtain⟨i0,l_,h0,hk,_⟩:=info_parts L.i9;have HT: ∀lb cb,(callFunc (ρ.f 29) #[.slice (some ⟨vb,0,none⟩) 1 vc,.slice (some ⟨b,i*k+k,none⟩) lb cb]).run P w= .ok (.value (.bool false)) w:=fun lb cb=>L.ov w vb b _ 1 vc lb cb tA tB kA kB hvb hsa hsb hkB (hfa _) (hfa _);have zC:(cs.drop (i*k)).length=(n-i)*k:=by rw[aEc,lI,aD3]
 have hw1:i64.wrap ((i:Int)+1)=(i:Int)+1:=by rw[IntKind.wrap_i64];omega
 have hw2:i64.wrap ((n:Int)+1)=(n:Int)+1:=by rw[IntKind.wrap_i64];omega
 have MZ:(0:Int)≤(i:Int)+1:=by omega
 have gS:i≤n:=by omega
 have htn:((i:Int)+1).toNat=i+1:=by omega
 have Wu:((n:Int)+1).toNat=n+1:=by omega
 have C6: ¬(c=i+1):=by omega
 have hb3:(i:Int)≤(n:Int)+1:=by omega
 have hb4: ¬(c=i):=by omega
 have hb5: ¬((c:Int)<(n:Int)+1):=by omega
 have hmul:(i+1)*k+(n-i)*k=(n+1)*k:=by rw[←aC6];congr 1;omega
 have uc:(i+1)*k=i*k+k:=aDb _ _;have V7:(n+1)*k=n*k+k:=aDb _ _;have agC: ∀ty dc sc,(Builtin.copy_ #[(ρ.t 24),(ρ.t 24)] ty #[.slice (some ⟨b,i*k+k,none⟩) (n-i) dc,.slice (some ⟨b,i*k,none⟩) (n+1-i) sc]).run P w.drew= .ok (goInt (Nat.min (n+1-i) (n-i))) (w.drew.setCells b (i*k+k) (cs.drop (i*k))):=fun ty dc sc=>
  O6 w.drew _ _ ty (ρ.t 9) i0 b (i*k+k) (n-i) dc ⟨b,i*k,none⟩ (n+1-i) sc (cs.drop (i*k)) L.t24 l_ (by rw[zC,hk,show Nat.min (n+1-i) (n-i)=n-i by simp only[Nat.min_def];split<;>omega])
   (fun j v hj=>by rw[Addr.add_lit];exact kr (i*k+j) v (by rwa [aDv]at hj))
   (fun j hj=>mI _ (by rw[zC]at hj;omega)) (fun j hj=>nk _) (fun v hv=>CU v (aEn hv))
 obtain⟨W1,lF⟩: ∃W1,W1=w.drew.setCells b (i*k+k) (cs.drop (i*k)):=⟨_,rfl⟩;have atq: ∀t,t<(n+1)*k→(W1.cell? ⟨b,t,none⟩).isSome=true:=fun t ht=>by
  rw[lF];exact isSome_setCells b (cs.drop (i*k)) (i*k+k) w.drew (fun j hj=>mI _ (by rw[zC]at hj;omega)) _ (mI t ht)
 have asY: ∀(W:World),(∀x,W.cell? x=W1.cell? x)→(∀x,W.frozen? x=W1.frozen? x)→ ∀ty dc,(Builtin.copy_ #[(ρ.t 24),(ρ.t 24)] ty #[.slice (some ⟨b,i*k,none⟩) (n+1-i) dc,.slice (some ⟨vb,0,none⟩) 1 vc]).run P W= .ok (goInt (Nat.min 1 (n+1-i))) (W.setCells b (i*k) vs):=fun W wb Hu ty dc=>
  O6 W _ _ ty (ρ.t 9) i0 b (i*k) (n+1-i) dc ⟨vb,0,none⟩ 1 vc vs L.t24 l_ (by rw[jV,hk,show Nat.min 1 (n+1-i)=1 by simp only[Nat.min_def];split<;>omega,Nat.one_mul])
   (fun j v hj=>by
    rw[Addr.add_lit,aCO,wb,lF,World.cell?_setCells_out b _ _ _ _ (fun h _=>absurd h hvb)];exact iF j v hj)
   (fun j hj=>by rw[wb];exact atq _ (by
    have:(i+1)*k≤(n+1)*k:=aC2 k (by omega);omega)) (fun j hj=>by rw[Hu,lF,World.frozen?_setCells];exact nk _) yW
 rw[←lF]at agC;obtain⟨_,_,FG⟩:=L.F
 go_enter FG,Body2.n22_ntmps ρ
 go_wp2_with (simp only[HT])
 go_region_law_o (refine step_copy_runI rfl _ _ (ρ.t 24) (ρ.t 24) rfl _ _ (by simp [Act.eval,Act.put]) (by simp [Act.eval,Act.put]) (agC _ _ _) ?_)
 go_wp2_with (at_builtin;refine wpList_copy_runI _ rfl _ _ (ρ.t 24) (ρ.t 24) rfl _ _ rfl rfl (asY _ (fun _=>rfl) (fun _=>rfl) _ _) ?_)
 go_ret
 first|exact⟨rfl,rfl⟩|exact⟨rfl,by rw[lF]⟩
set_option maxHeartbeats 4000000 in
set_option maxRecDepth 100000 in
theorem atN{k bytes:Nat}{z:Value}(L:qG P ρ k bytes z)(b n c vb vc:Nat)(vs:List Value)(w:World)(rP:n+1≤c)(jV:vs.length=k)
  (mI: ∀j,j<(n+1)*k→(w.cell? ⟨b,j,none⟩).isSome=true) (nk: ∀j,w.frozen? ⟨b,j,none⟩=false) (iF: ∀j v,vs[j]? =some v→w.cell? ⟨vb,j,none⟩=some v) (yW: ∀v∈vs,v.oneCell'=true):
  Calls P (ρ.f 22) #[.slice (some ⟨b,0,none⟩) n c,.int .i64 n,.slice (some ⟨vb,0,none⟩) 1 vc] w fun e w'=>
   e= .returned (.slice (some ⟨b,0,none⟩) (n+1) c)∧w'=w.setCells b (n*k) vs:=by
 have u3:=aCU L.t3;have Zq:=aCU L.t24;have mixed:=L.mixed;have t3:=L.t3;have t24:=L.t24;have z9:=L.z9;obtain⟨i0,l_,h0,hk,_⟩:=info_parts L.i9;have p_:Src P i0.size (ρ.t 24) (.slice (some ⟨vb,0,none⟩) 1 vc) 1 vs w:=Src.ofSlice w L.t24 ⟨vb,0,none⟩ 1 vc vs (by rw[jV,hk,Nat.one_mul]) (fun j u hj=>by rw[Addr.add_lit,aCO];exact iF j u hj) yW;have V7:(n+1)*k=n*k+k:=aDb _ _;have b_: ∀ty,(Builtin.append_ #[ρ.t 24,ρ.t 24] ty #[.slice (some ⟨b,0,none⟩) n c,.slice (some ⟨vb,0,none⟩) 1 vc]).run P w= .ok (.slice (some ⟨b,0,none⟩) (n+1) c) (w.setCells b (0+n*i0.size) vs):=fun ty=>
  run_append_room_src w (ρ.t 24) (ρ.t 24) ty (ρ.t 9) i0 L.t24 l_ b 0 n c _ 1 vs p_ rP (fun j hj=>by rw[hk,aCO];exact mI _ (by omega)) (fun j hj=>nk _)
 rw[hk,aCO]at b_;obtain⟨_,_,FG⟩:=L.F
 go_enter FG,Body2.n22_ntmps ρ
 go_wp2_with (at_builtin;refine Lib.wpList_append_run _ rfl _ _ _ _ rfl _ _ rfl rfl _ _ (b_ _) ?_)
 go_ret
 exact⟨rfl,rfl⟩
set_option maxHeartbeats 4000000 in
set_option maxRecDepth 100000 in
theorem ag8{k bytes:Nat}{z:Value}(L:qG P ρ k bytes z)(base:Option Addr)(n c vb vc:Nat)(cs vs:List Value)(w:World)(gL:n≤c)(rP:c<n+1)(dK:(n+1)*bytes≤140737488355328)(zH:n≤549755813888)
  (lI:cs.length=n*k) (jV:vs.length=k) (agO:base=none→n=0)
  (kr: ∀a,base=some a→ ∀j v,cs[j]? =some v→w.cell? (a.add j)=some v) (iF: ∀j v,vs[j]? =some v→w.cell? ⟨vb,j,none⟩=some v) (yW: ∀v∈vs,v.oneCell'=true):
  Calls P (ρ.f 22) #[.slice base n c,.int .i64 n,.slice (some ⟨vb,0,none⟩) 1 vc] w fun e w'=>
   e= .returned (.slice (some ⟨w.heap.size,0,none⟩) (n+1) (grownCap w (n+1) c (ρ.t 9)))∧
   w'=w.drew.alloc (.cells ((cs++vs).toArray++Builtin.zeroCells z.cells (grownCap w (n+1) c (ρ.t 9)- (n+1))) (ρ.t 9)):=by
 have u3:=aCU L.t3;have Zq:=aCU L.t24;have mixed:=L.mixed;have t3:=L.t3;have t24:=L.t24;have z9:=L.z9;obtain⟨i0,l_,h0,hk,wc⟩:=info_parts L.i9;have p_:Src P i0.size (ρ.t 24) (.slice (some ⟨vb,0,none⟩) 1 vc) 1 vs w:=Src.ofSlice w L.t24 ⟨vb,0,none⟩ 1 vc vs (by rw[jV,hk,Nat.one_mul]) (fun j u hj=>by rw[Addr.add_lit,aCO];exact iF j u hj) yW;have hold:(Builtin.firstCells i0.size n (.slice base n c)).run P w.drew= .ok cs.toArray w.drew:=by
  rw[hk]
  cases base with
  |none=>
   have h0:=agO rfl;subst h0;rw[Nat.zero_mul]at lI;rw[aEl.1 lI];exact run_firstCells_none w.drew k 0 0 c
  |some a=>exact aEo w.drew k n a n c cs lI (fun j v hj=>kr a rfl j v hj)
 have b_: ∀ty,(Builtin.append_ #[(ρ.t 24),(ρ.t 24)] ty #[.slice base n c,.slice (some ⟨vb,0,none⟩) 1 vc]).run P w=_:=fun ty=>
  run_append_grow_src w (ρ.t 24) (ρ.t 24) ty (ρ.t 9) i0 _ L.t24 l_ h0 base n c cs hold _ 1 vs p_ rP (by omega) (by rw[wc];exact growslice_fits rP dK)
 obtain⟨gV,tX⟩: ∃gV:Array Value,gV=(cs++vs).toArray++Builtin.zeroCells z.cells (grownCap w (n+1) c (ρ.t 9)- (n+1)):=⟨_,rfl⟩;rw[←tX]at b_ ⊢;clear tX;obtain⟨_,_,FG⟩:=L.F
 go_enter FG,Body2.n22_ntmps ρ
 cases base with
 |none=>
  have h0:=agO rfl;subst h0
  go_wp2_with (at_builtin;refine Lib.wpList_append_run _ rfl _ _ _ _ rfl _ _ rfl rfl _ _ (b_ _) ?_)
  go_ret
  exact⟨rfl,rfl⟩
 |some a=>
  obtain⟨ab,ao,asp⟩:=a
  go_wp2_with (at_builtin;refine Lib.wpList_append_run _ rfl _ _ _ _ rfl _ _ rfl rfl _ _ (b_ _) ?_)
  all_goals (go_ret;exact⟨rfl,rfl⟩)
set_option maxHeartbeats 4000000 in
set_option maxRecDepth 100000 in
theorem atO{k bytes:Nat}{z:Value}(L:qG P ρ k bytes z)(p5:0<k)(um: ∀m,(Builtin.zeroCells z.cells m).size=m*k)(b n c i vb vc:Nat)(cs vs:List Value)(w:World)(hi:i<n)(gL:n≤c)(rP:c<n+1)(dK:(n+1)*bytes≤140737488355328)(zH:n≤549755813888)
  (lI:cs.length=n*k) (jV:vs.length=k) (kr: ∀j v,cs[j]? =some v→w.cell? ⟨b,j,none⟩=some v)
  (iF: ∀j v,vs[j]? =some v→w.cell? ⟨vb,j,none⟩=some v) (CU: ∀v∈cs,v.oneCell'=true) (yW: ∀v∈vs,v.oneCell'=true):
  Calls P (ρ.f 22) #[.slice (some ⟨b,0,none⟩) n c,.int .i64 i,.slice (some ⟨vb,0,none⟩) 1 vc] w fun e w'=>
   e= .returned (.slice (some ⟨w.heap.size,0,none⟩) (n+1) (grownCap w (n+1) c (ρ.t 9)))∧
   w'=(((w.alloc (.cells ((cs.take (i*k)).toArray++Builtin.zeroCells z.cells (n+1-i)++Builtin.zeroCells z.cells (grownCap w (n+1) c (ρ.t 9)- (n+1))) (ρ.t 9))).drew.setCells w.heap.size (i*k) vs).drew).setCells w.heap.size (i*k+k) (cs.drop (i*k)):=by
 have u3:=aCU L.t3;have Zq:=aCU L.t24;have mixed:=L.mixed;have t3:=L.t3;have t24:=L.t24;have z9:=L.z9;obtain⟨i0,l_,qb,jW,hzb⟩:=info_parts L.i9;have rT: ¬((i:Int)=(n:Int)):=by omega
 have hz3:(c:Int)<(n:Int)+1:=by omega
 have V7:(n+1)*k=n*k+k:=aDb _ _;have aCe:i*k+(n-i)*k=n*k:=by rw[←aC6];congr 1;omega
 have rN:0<(n-i)*k:=Nat.mul_pos (by omega) p5;have hbw:b<w.heap.size:=block_lt_of_cell (kr 0 _ (aCP (by omega)));have hvw:vb<w.heap.size:=block_lt_of_cell (iF 0 _ (aCP (by omega)));have hkk:(n:Int)+1- (i:Int)=((n+1-i:Nat):Int):=by omega
 have uc:i+(n+1-i)=n+1:=by omega
 have hold:(Builtin.firstCells i0.size i (.slice (some ⟨b,0,none⟩) i c)).run P w.drew= .ok (cs.take (i*k)).toArray w.drew:=by
  rw[jW];exact aEo w.drew k i ⟨b,0,none⟩ i c (cs.take (i*k)) (by rw[aDq];omega) (fun j v hj=>by
   rw[Addr.add_lit,aCO];rw[aEv]at hj
   split at hj
   ·exact kr j v hj
   ·cases hj)
 have NF: ∀ty,(Builtin.append_ #[(ρ.t 24),(ρ.t 3)] ty #[.slice (some ⟨b,0,none⟩) i c,.int .i64 ((n:Int)+1- (i:Int))]).run P w=
   .ok (.slice (some ⟨w.heap.size,0,none⟩) (n+1) (grownCap w (n+1) c (ρ.t 9))) (w.drew.alloc (.cells ((cs.take (i*k)).toArray++Builtin.zeroCells z.cells (n+1-i)++Builtin.zeroCells z.cells (grownCap w (n+1) c (ρ.t 9)- (n+1))) (ρ.t 9))):=fun ty=>by
  have hle:(n+1-i)*bytes≤(n+1)*bytes:=aC2 _ (by omega);have h:=Lib.run_append_grow_zeros w (ρ.t 24) (ρ.t 3) ty (ρ.t 9) i0 _ .i64 .i64 L.t24 L.t3 l_ qb (some ⟨b,0,none⟩) i c (cs.take (i*k)) hold (n+1-i) (by omega) (by omega) (by omega) (by omega) (by rw[hzb];omega) (by rw[hzb,uc];exact growslice_fits rP dK);rw[uc]at h;rw[hkk];exact h
 obtain⟨G,hG⟩: ∃G,G=grownCap w (n+1) c (ρ.t 9):=⟨_,rfl⟩;obtain⟨gV,tX⟩: ∃gV:Array Value,gV=(cs.take (i*k)).toArray++Builtin.zeroCells z.cells (n+1-i)++Builtin.zeroCells z.cells (G- (n+1)):=⟨_,rfl⟩;rw[←hG]at NF ⊢;rw[←tX]at NF ⊢;have hRl:(n+1)*k≤gV.size:=by
  rw[tX];simp only[aDQ,aDw,aDq,um,lI];have:(n+1-i)*k=(n-i)*k+k:=by rw[show n+1-i=n-i+1 by omega];exact aDb _ _
  omega
 obtain⟨W1,lF⟩: ∃W1,W1=w.drew.alloc (.cells gV (ρ.t 9)):=⟨_,rfl⟩;rw[←lF]at NF;have hN: ∀j,j<(n+1)*k→(W1.cell? ⟨w.heap.size,j,none⟩).isSome=true:=fun j hj=>by
  rw[lF,World.cell?_alloc_at (w:=w.drew) gV _ w.heap.size j rfl,aDu (by omega)];rfl
 have hNf: ∀j,W1.frozen? ⟨w.heap.size,j,none⟩=false:=fun j=>by rw[lF];exact World.frozen?_alloc_at (w:=w.drew) gV _ w.heap.size j rfl
 have hOb: ∀j v,w.cell? ⟨b,j,none⟩=some v→W1.cell? ⟨b,j,none⟩=some v:=fun j v h=>by rw[lF,World.cell?_alloc_past (w:=w.drew) _ b j hbw];exact h
 have hOv: ∀j v,w.cell? ⟨vb,j,none⟩=some v→W1.cell? ⟨vb,j,none⟩=some v:=fun j v h=>by rw[lF,World.cell?_alloc_past (w:=w.drew) _ vb j hvw];exact h
 have asZ: ∀(W:World),(∀x,W.cell? x=W1.cell? x)→(∀x,W.frozen? x=W1.frozen? x)→ ∀ty dc,(Builtin.copy_ #[(ρ.t 24),(ρ.t 24)] ty #[.slice (some ⟨w.heap.size,i*k,none⟩) (n+1-i) dc,.slice (some ⟨vb,0,none⟩) 1 vc]).run P W= .ok (goInt (Nat.min 1 (n+1-i))) (W.setCells w.heap.size (i*k) vs):=fun W wb Hu ty dc=>
  O6 W _ _ ty (ρ.t 9) i0 w.heap.size (i*k) (n+1-i) dc ⟨vb,0,none⟩ 1 vc vs L.t24 l_ (by rw[jV,jW,show Nat.min 1 (n+1-i)=1 by simp only[Nat.min_def];split<;>omega,Nat.one_mul])
   (fun j v hj=>by rw[Addr.add_lit,wb,aCO];exact hOv _ v (iF j v hj))
   (fun j hj=>by rw[wb];exact hN _ (by omega)) (fun j hj=>by rw[Hu];exact hNf _) yW
 have hGn:n+1≤G:=by rw[hG];exact aDP w _ _ _
 have aB6:G≤9223372036854775807:=by
  have:=grownCap_le_maxLen w (n+1) c (ρ.t 9) (by unfold maxLen;omega);rw[←hG]at this;unfold maxLen at this;omega
 have hGi: ¬(G=i):=by omega
 have aB7: ¬(G=i+1):=by omega
 have hci: ¬(c=i):=by omega
 have hbN:b≠w.heap.size:=by omega
 have zC:(cs.drop (i*k)).length=(n-i)*k:=by rw[aEc,lI];omega
 have agD: ∀(W:World),(∀x,W.cell? x=(W1.setCells w.heap.size (i*k) vs).cell? x)→(∀x,W.frozen? x=(W1.setCells w.heap.size (i*k) vs).frozen? x)→ ∀ty dc sc,(Builtin.copy_ #[(ρ.t 24),(ρ.t 24)] ty #[.slice (some ⟨w.heap.size,i*k+k,none⟩) (n-i) dc,.slice (some ⟨b,i*k,none⟩) (n-i) sc]).run P W= .ok (goInt (Nat.min (n-i) (n-i))) (W.setCells w.heap.size (i*k+k) (cs.drop (i*k))):=fun W wb Hu ty dc sc=>
  O6 W _ _ ty (ρ.t 9) i0 w.heap.size (i*k+k) (n-i) dc ⟨b,i*k,none⟩ (n-i) sc (cs.drop (i*k)) L.t24 l_ (by rw[zC,jW,show Nat.min (n-i) (n-i)=n-i by simp])
   (fun j v hj=>by
    rw[Addr.add_lit,wb,World.cell?_setCells_out _ _ _ _ _ (fun h _=>absurd h hbN)];exact hOb _ v (kr (i*k+j) v (by rwa [aDv]at hj)))
   (fun j hj=>by rw[wb];exact isSome_setCells _ _ _ _ (fun t ht=>hN _ (by omega)) _ (hN _ (by rw[zC]at hj;omega)))
   (fun j hj=>by rw[Hu,World.frozen?_setCells];exact hNf _) (fun v hv=>CU v (aEn hv))
 subst lF;have hE1: ∀x,((w.alloc (.cells gV (ρ.t 9))).drew).cell? x=(w.drew.alloc (.cells gV (ρ.t 9))).cell? x:=fun x=>rfl;have hE2: ∀x,((w.alloc (.cells gV (ρ.t 9))).drew).frozen? x=(w.drew.alloc (.cells gV (ρ.t 9))).frozen? x:=fun x=>rfl;have hF1: ∀x,(((w.alloc (.cells gV (ρ.t 9))).drew.setCells w.heap.size (i*k) vs).drew).cell? x=((w.drew.alloc (.cells gV (ρ.t 9))).setCells w.heap.size (i*k) vs).cell? x:=fun x=>rfl;have wa: ∀x,(((w.alloc (.cells gV (ρ.t 9))).drew.setCells w.heap.size (i*k) vs).drew).frozen? x=((w.drew.alloc (.cells gV (ρ.t 9))).setCells w.heap.size (i*k) vs).frozen? x:=fun x=>rfl;have hw1:i64.wrap ((i:Int)+1)=(i:Int)+1:=by rw[IntKind.wrap_i64];omega
 have hw2:i64.wrap ((n:Int)+1)=(n:Int)+1:=by rw[IntKind.wrap_i64];omega
 have hw3:i64.wrap ((n:Int)+1- (i:Int))=(n:Int)+1- (i:Int):=by rw[IntKind.wrap_i64];omega
 have MZ:(0:Int)≤(i:Int)+1:=by omega
 have gS:i≤n:=by omega
 have htn:((i:Int)+1).toNat=i+1:=by omega
 have hb3:(i:Int)≤(n:Int):=by omega
 clear hkk uc hold tX hG hRl;obtain⟨_,_,FG⟩:=L.F
 go_enter FG,Body2.n22_ntmps ρ
 go_wp2_with (first
  |(at_builtin;refine Lib.wpList_append_run _ rfl _ _ _ _ rfl _ _ rfl rfl _ _ (NF _) ?_)
  |(at_builtin;refine wpList_copy_runI _ rfl _ _ (ρ.t 24) (ρ.t 24) rfl _ _ rfl rfl (asZ _ hE1 hE2 _ _) ?_)
  |(at_builtin;refine wpList_copy_runI _ rfl _ _ (ρ.t 24) (ρ.t 24) rfl _ _ rfl rfl (agD _ (fun _=>rfl) (fun _=>rfl) _ _ _) ?_))
 go_region_law_o (refine step_copy_runI rfl _ _ (ρ.t 24) (ρ.t 24) rfl (.slice (some ⟨w.heap.size,i*k+k,none⟩) (n-i) (G- (i+1))) (.slice (some ⟨b,i*k,none⟩) (n-i) (c-i)) (by simp [Act.eval,Act.put,aC6]) (by simp [Act.eval,Act.put]) (agD _ hF1 wa (ρ.t 3) (G- (i+1)) (c-i)) ?_)
 go_wp2
 go_ret
 exact⟨rfl,rfl⟩
end
end Go.Vc
namespace Go.Vc
open Go Go.Lib Go.Proofs Go.RowKit Go.Shelf Go.Sort
section
variable {P:Program} {ρ:Ren}
set_option maxHeartbeats 4000000 in
set_option maxRecDepth 1000000 in
theorem aoH(k:Nat)(mixed:P.follows .mixedOrders=true)(F:Bears P (ρ.f 45) (SlBodyN.n45 ρ))
  (t22:P.underlying (ρ.t 22)=some (TypeDesc.slice (ρ.t 23)))
  (z23: ∀w,(Go.sizeOf (ρ.t 23)).run P w= .ok k w) (z:Value) (v23: ∀w,(zeroValue (ρ.t 23)).run P w= .ok z w) (i0:TypeInfo) (l_:P.info? (ρ.t 23)=some i0) (nu:i0.size=k)
  (ah cap n i j:Nat) (w:World) (news zs:List Value) (hz:(Builtin.zeroCells z.cells (j-i)).toList=zs) (rU:zs.length=(j-i)*k) (ag2: ∀v∈zs,v.oneCell'=true)
  (hlen:news.length=(n-j)*k) (CU: ∀v∈news,v.oneCell'=true) (nq: ∀t u,news[t]? =some u→w.cell? ⟨ah,j*k+t,none⟩=some u)
  (iE: ∀t,t<n*k→(w.cell? ⟨ah,t,none⟩).isSome=true) (agH: ∀t,w.frozen? ⟨ah,t,none⟩=false)
  (pU:n≤cap) (iY:i<j) (hj:j≤n):
  Calls P (ρ.f 45) #[.slice (some ⟨ah,0,none⟩) n cap,.int .i64 i,.int .i64 j] w fun e w'=>e= .returned (.slice (some ⟨ah,0,none⟩) (n- (j-i)) cap)∧w'=(w.drew.setCells ah (i*k) news).setCells ah ((i+(n-j))*k) zs:=by
 obtain⟨A,hA,p_⟩: ∃A:Addr,(if cap=j then some (⟨ah,0,none⟩:Addr)else some ⟨ah,j*k,none⟩)=some A∧Hid (∀t u,news[t]? =some u→w.drew.cell? (A.add t)=some u):=by
  by_cases h:cap=j
  ·refine⟨⟨ah,0,none⟩,by simp [h],fun t u hu=> ?_⟩;have h0:news.length=0:=by rw[hlen,show n-j=0 by omega,Nat.zero_mul]
   rw[aEl.1 h0]at hu;simp at hu
  ·refine⟨⟨ah,j*k,none⟩,by simp [h],fun t u hu=> ?_⟩;rw[Addr.add_lit];exact nq t u hu
 have V7:(n-j)*k≤n*k:=aC2 k (by omega);have uc:i*k+(n-j)*k+(j-i)*k=n*k:=by rw[←aC6,←aC6];congr 1;omega
 have s1:Hid (news.length=(n-j)*k):=hlen;have s2:Hid (∀u∈news,u.oneCell'=true):=CU;have s3:Hid (∀t,t<news.length→(w.drew.cell? ⟨ah,0+i*k+t,none⟩).isSome=true∧w.drew.frozen? ⟨ah,0+i*k+t,none⟩=false):=by
  intro t ht;rw[hlen]at ht;rw[aCO];exact⟨iE _ (by omega),agH _⟩
 obtain⟨W1,lF⟩: ∃W1,W1=w.drew.setCells ah (0+i*k) news:=⟨_,rfl⟩;have kv: ∀t,t<n*k→(W1.cell? ⟨ah,t,none⟩).isSome=true:=fun t ht=>by
  rw[lF,aCO]
  by_cases gS:i*k≤t∧t<i*k+news.length
  ·have:=World.cell?_setCells_in ah news (i*k) w.drew (fun q hq=>iE _ (by rw[hlen]at hq;omega)) (t-i*k) (by omega);rw[show i*k+(t-i*k)=t by omega]at this;rw[this];rfl
  ·rw[World.cell?_setCells_out ah news (i*k) w.drew ⟨ah,t,none⟩ (fun _ _=>by show t<i*k∨i*k+news.length≤t;omega)];exact iE t ht
 have De: ∀t,W1.frozen? ⟨ah,t,none⟩=false:=fun t=>by rw[lF,World.frozen?_setCells];exact agH t
 have wj:0<n- (i+(n-j)):=by omega
 have lI: ∀ty c,(Builtin.clear_ #[ρ.t 22] ty #[.slice (some ⟨ah,(i+(n-j))*k,none⟩) (n- (i+(n-j))) c]).run P W1= .ok (.tuple #[]) (W1.setCells ah ((i+(n-j))*k) zs):=fun ty c=>
  ajp W1 _ _ ty _ t22 v23 ah _ _ _ wj zs (by rw[show n- (i+(n-j))=j-i by omega];exact hz) ag2 (fun q hq=>kv _ (by rw[rU]at hq;rw[aC6];omega)) (fun q _=>De _)
 have hW:Hid (W1=w.drew.setCells ah (0+i*k) news):=lF;have hic:i≤cap:=by omega
 have hjc:j≤cap:=by omega
 have gS:i≤n:=by omega
 have db: ¬((i:Int)=(j:Int)):=by omega
 clear lF nq hlen hz rU ag2 CU kv De iE;obtain⟨_,_,FG⟩:=F
 go_enter FG,SlBodyN.n45_ntmps ρ
 go_wp2_with fail
 go_region_law_o (refine step_append_room rfl (.tmp 22) (.tmp 25) (ρ.t 22) rfl (ρ.t 23) i0 k t22 l_ nu ah 0 i cap (by simp [Act.eval,Act.put]) A (n-j) (cap-j) news (by simp [Act.eval,Act.put]) s1.out p_.out s2.out (by omega) s3.out ?_;rw[←hW.out])
 go_wp2
 go_ret
 refine⟨by rw[show n- (j-i)=i+(n-j) by omega];rfl,?_⟩;rw[hW.out,aCO]
end
end Go.Vc
