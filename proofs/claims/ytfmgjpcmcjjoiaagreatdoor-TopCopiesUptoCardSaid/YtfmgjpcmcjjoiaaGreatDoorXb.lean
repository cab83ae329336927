/- Part of a proof: the executor and its soundness. -/
import Derived.Test.YtfmgjpcmcjjoiaaGreatDoorXa
import Derived.Deep.AppendSrc
import Derived.Great.FillDense
import Derived.Laws.BytesString
import Derived.Laws.IdiomStrings
import Derived.Laws.MakeOwn
import Derived.Laws.Slices
import Derived.Laws.Small
import Derived.Great.BuildSlice
import Derived.ProofKit
import Derived.ChangeSame
import Derived.ChangeArms
import Derived.Carry
import Derived.Laws.StructEq
import Derived.LoopN
import Derived.Laws.IdiomCopy
import Derived.Shelf.Spec.SlicesInsertGrow
import Derived.Shelf.SlGeneric
import Derived.Shelf.SlBodiesN
import Derived.Shelf.RegionOpenPlain
import Derived.WalkKit
import Derived.Deep.LoopGhost
import Derived.Deep.RegionLaw
import Derived.Lib.Walk
import Derived.Sort.WalkB12
import Derived.Lib.SliceRun
import Derived.Lib.SlicesDelete
open Go.IntKind (i64 u64 u8)
open Int (toNat)
set_option maxRecDepth 100000
set_option maxHeartbeats 4000000
set_option linter.all false
noncomputable section
namespace Go.ah
open Go Go.RowKit
section
variable {E:Env} {S:dR} {ι:Nat→Option Nat} {st:D} {a:Act} {w:World}
theorem AN(H:Heap)(b:Nat)(c:J):bt H [(b,0,c)]=bs H b 0 c:=rfl
theorem aU.FV(h:aU S ι st a w){ag:World}(p:Below w.heap.size w ag){b x:Nat}(SL:w.heap.size≤x)(atO:x<ag.heap.size){M n c:Nat}{f:Nat→List J}{C:Array Value}{T:TypeId}
  (X:n≤dm) (Y:n≤c) (A:ag.heap[x]? =some (.cells C T (0,0))) (R:C.size=c*M) {dO:Nat→Prop} (U: ∀y,dO y→aM S ι st.k w y∨(w.heap.size≤y∧y<ag.heap.size∧y≠x))
  (c4: ∀i j,i<n→j<M→ ∃ab u,(f i)[j]? =some ab∧C[i*M+j]? =some u∧aR ag dO ab u)
  (G:((∀o,I st.k b o= .undef)∧ι b=none)∨ ∃s v,I st.k b 0= .ae false M s v∧s<n):
  aU S (cz ι b x) ⟨st.n,bs st.k b 0 (.ae false M n f)⟩ a ag∧cf (cz ι b x) (bs st.k b 0 (.ae false M n f)) ag (aM S (cz ι b x) (bs st.k b 0 (.ae false M n f)) ag) (.own b n) (.slice (some ⟨x,0,none⟩) n c):=by
 have B: ∀d o,d≠b→I (bs st.k b 0 (.ae false M n f)) d o=I st.k d o:=fun d o e8=>by rw[eK,bH (fun e=>e8 e.1)]
 have H:I (bs st.k b 0 (.ae false M n f)) b 0= .ae false M n f:=by rw[eK,bF ⟨rfl,rfl⟩]
 have kH: ∀z,ι b=some z→ch (I st.k b 0)=true:=fun z r=>by
  rcases G with⟨_,l⟩|⟨s,v,g,_⟩
  ·rw[l]at r;cases r
  ·rw[g];rfl
 have D:eg ι st.k w (aM S ι st.k w) (cz ι b x) (bs st.k b 0 (.ae false M n f)) ag (aM S (cz ι b x) (bs st.k b 0 (.ae false M n f)) ag):=by
  refine⟨fun y ⟨g,l,F⟩=>⟨g,gG l p.size,fun d W=> ?_⟩,fun y o ⟨_,l,_⟩=>p.cell l,fun d z r m=> ?_,fun d ro ki eu Q m=> ?_⟩
  ·unfold cz
   by_cases e:d=b
   ·simp only[e,kT];intro q;simp at q;omega
   ·simp only[e,mP];exact F d (nG (fun o=>B d o e) W)
  ·have e:d≠b:=fun e=>by rw[e]at r m;rw[kH z r]at m;cases m
   exact⟨by simp [cz,e,r],by rw[B _ _ e];exact m⟩
  ·by_cases e:d=b
   ·subst e;rcases G with⟨g,_⟩|⟨s,v,g,l⟩
    ·rw[g]at m;cases m
    ·rw[g]at m;cases m;exact⟨false,_,n,f,H,by omega,fun e=>by omega⟩
   ·refine⟨ro,_,eu,Q,by rw[B _ _ e];exact m,bx _,fun _=>⟨rfl,by simp [cz,e],fun y C k0 k A=>⟨C,?_,rfl⟩⟩⟩;rw[p.block y (h.fresh _ _ k).2];exact A
 have V: ∀y,dO y→aM S (cz ι b x) (bs st.k b 0 (.ae false M n f)) ag y:=fun y k=>by
  rcases U y k with k|⟨g,l,F⟩
  ·exact D.hN y k
  ·refine⟨.inr (fg h.below.size g),l,fun d _ q=> ?_⟩;unfold cz at q
   by_cases e:d=b<;>simp only[e,kT,mP]at q
   ·simp at q;exact F q.symm
   ·have:=(h.fresh _ _ q).2;omega
 refine⟨⟨h.below.trans (p.mono h.below.size),h.defers,fun t ab ia=> ?_,fun d o=> ?_,fun L N y g l=> ?_,fun d y k=> ?_,fun d y k=> ?_,h.gB.trans D⟩,?_⟩
 ·obtain⟨cP,g,l⟩:=h.n t ab ia;exact⟨cP,g,l.step D⟩
 ·by_cases e:d=b
  ·subst e
   by_cases E:o=0
   ·subst E;show eQ _ _ _ _ _ _ (I (bs st.k d 0 (.ae false M n f)) d 0);rw[H];refine⟨rfl,.inr ⟨X,.inr ⟨x,C,T,by simp [cz],A,fun i j Z fe=> ?_⟩⟩⟩;obtain⟨ab,u,hl,gh,iS⟩:=c4 i j Z fe;exact⟨ab,u,hl,gh,iS.mono V fun _ _ _=>rfl⟩
   ·show eQ _ _ _ _ _ _ (I (bs st.k d 0 (.ae false M n f)) d o);rw[eK,bH (fun e=>E e.2)];have hu:I st.k d o= .undef:=by
     rcases G with⟨g,_⟩|⟨s,v,g,_⟩
     ·exact g o
     ·have K:=h.k d o
      cases e:I st.k d o<;>rw[e]at K<;>first|rfl|(have:=K.1;rw[g]at this;cases this;done)|exact absurd K.1 E
    rw[hu];trivial
  ·show eQ _ _ _ _ _ _ (I (bs st.k b 0 (.ae false M n f)) d o);rw[B _ _ e];exact(h.k d o).step D (fun _=>by simp [cz,e]) (fun y k _=>⟨p.cell (h.fresh _ _ k).2,p.frozen (h.fresh _ _ k).2⟩) (fun _=>⟨by simp [cz,e],fun y k=>p.block y (h.fresh _ _ k).2⟩)
 ·unfold cz at g l
  by_cases O:L=b<;>by_cases P:N=b<;>simp only[O,P,kT,mP]at g l
  ·omega
  ·simp at g;have:=(h.fresh _ _ l).2;omega
  ·simp at l;have:=(h.fresh _ _ g).2;omega
  ·exact h.inj _ _ _ g l
 ·unfold cz at k
  by_cases e:d=b<;>simp only[e,kT,mP]at k
  ·simp at k;subst k;exact⟨.inl (fg h.below.size SL),atO⟩
  ·have:=h.fresh _ _ k;exact⟨this.1,gG this.2 p.size⟩
 ·unfold cz at k
  by_cases e:d=b
  ·rw[e];exact(l1 _ _ _ _).2
  ·simp only[e,mP]at k;exact gG (h.gw _ _ k) (l1 _ _ _ _).1
 ·exact⟨rfl,false,M,n,f,H,bx _,fun _=> .inl ⟨x,c,C,T,by simp [cz],rfl,Y,A,R⟩⟩
theorem aU.Lr(h:aU S ι st a w){b:Nat}(p: ∀o,I st.k b o= .undef)(m:ι b=none)(d:Nat)(f:Nat→List J):
  aU S ι ⟨st.n,bs st.k b 0 (.ae false d 0 f)⟩ a w∧eg ι st.k w (aM S ι st.k w) ι (bs st.k b 0 (.ae false d 0 f)) w (aM S ι (bs st.k b 0 (.ae false d 0 f)) w)∧
  ∀F,cf ι (bs st.k b 0 (.ae false d 0 f)) w F (.own b 0) (.slice none 0 0):=by
 have i: ∀c o,c≠b→I (bs st.k b 0 (.ae false d 0 f)) c o=I st.k c o:=fun c o H=>by rw[eK,bH (fun e=>H e.1)]
 have r:I (bs st.k b 0 (.ae false d 0 f)) b 0= .ae false d 0 f:=by rw[eK,bF ⟨rfl,rfl⟩]
 have s: ∀c x,ι c=some x→c≠b:=fun c x u e=>by rw[e,m]at u;cases u
 have j:eg ι st.k w (aM S ι st.k w) ι (bs st.k b 0 (.ae false d 0 f)) w (aM S ι (bs st.k b 0 (.ae false d 0 f)) w):=by
  refine⟨fun y ⟨k,l,D⟩=>⟨k,l,fun c G q=> ?_⟩,fun y o _=>rfl,fun c z A g=>⟨A,by rw[i _ _ (s _ _ A)];exact g⟩,fun c N P M B g=> ?_⟩
  ·exact D c (nG (fun o=>i c o (s _ _ q)) G) q
  ·have e:c≠b:=fun e=>by rw[e,p]at g;cases g
   exact⟨N,_,M,B,by rw[i _ _ e];exact g,bx _,fun _=>⟨rfl,rfl,fun y C O _ E=>⟨C,E,rfl⟩⟩⟩
 refine⟨⟨h.below,h.defers,fun t ab K=> ?_,fun c o=> ?_,h.inj,h.fresh,fun c y L=>gG (h.gw _ _ L) (l1 _ _ _ _).1,h.gB.trans j⟩,j,fun F=>⟨rfl,false,d,0,f,r,bx _,fun _=> .inr ⟨rfl,m,rfl⟩⟩⟩
 ·obtain⟨v,k,l⟩:=h.n t ab K;exact⟨v,k,l.step j⟩
 ·show eQ _ _ _ _ _ _ (I (bs st.k b 0 (.ae false d 0 f)) c o)
  by_cases e:c=b
  ·subst e
   by_cases n:o=0
   ·subst n;rw[r];exact⟨rfl,.inr ⟨cA _,.inl ⟨rfl,m⟩⟩⟩
   ·rw[eK,bH (fun e=>n e.2),p];trivial
  ·rw[i _ _ e];exact(h.k c o).step j (fun _=>rfl) (fun _ _ _=>⟨rfl,rfl⟩) (fun _=>⟨rfl,fun _ _=>rfl⟩)
theorem qD(b:Nat): ∀(a:List Value) (o:Nat) (w:World) (C:Array Value) (T:TypeId) (z:Nat×Nat),w.heap[b]? =some (.cells C T z)→
  (∃d:Array Value,(w.setCells b o a).heap[b]? =some (.cells d T z)∧d.size=C.size∧ ∀k,d[k]? =if o≤k∧k<o+a.length∧k<C.size then a[k-o]? else C[k]?)∧
  (w.setCells b o a).heap.size=w.heap.size∧(∀k,k≠b→(w.setCells b o a).heap[k]? =w.heap[k]?)∧(w.setCells b o a).os=w.os∧(w.setCells b o a).tape=w.tape∧(w.setCells b o a).output=w.output
 |[],o,w,C,T,z,h=>by
  refine⟨⟨C,h,rfl,fun k=> ?_⟩,rfl,fun _ _=>rfl,rfl,rfl,rfl⟩;rw[bH (by simp;omega)]
 |v::a,o,w,C,T,z,h=>by
  have q:(w.setCell ⟨b,o,none⟩ v).heap[b]? =some (.cells (C.setIfInBounds o v) T z):=by
   simp only[World.setCell,Array.getElem?_modify];rw[h];simp
  obtain⟨⟨d,f,g,i⟩,j,l,m,n,p⟩:=qD b a (o+1) (w.setCell ⟨b,o,none⟩ v) _ T z q;simp only[World.setCells];refine⟨⟨d,f,by simpa using g,fun k=> ?_⟩,by simpa using j,fun k c=>by rw[l k c,Below.heap_setCell _ _ _ _ c],by rw[m];rfl,by rw[n];rfl,by rw[p];rfl⟩;rw[i];simp only[Array.size_setIfInBounds,fr]
  by_cases e:k=o
  ·subst e;rw[bH (by omega)]
   by_cases c:k<C.size
   ·rw[bF ⟨bx _,by omega,c⟩];simp [c]
   ·rw[bH (by omega)];simp [c]
  ·by_cases c:o+1≤k∧k<o+1+a.length∧k<C.size
   ·rw[bF c,bF ⟨by omega,by omega,c.2.2⟩,show k-o=(k- (o+1))+1 by omega];simp
   ·rw[bH c,bH (by omega)];rw[Gi (fun h=>e h.symm)]
theorem aU.aBm(h:aU S ι st a w){b x M n m c:Nat}{f g aZ:Nat→List J}(uC: ∀i,i<n+m→hJ n f g i=aZ i){C:Array Value}{T:TypeId}(v:I st.k b 0= .ae false M n f)(r:ι b=some x)(V:w.heap[x]? =some (.cells C T (0,0)))(kF:C.size=c*M)
  (EO:n+m≤c) (jI:n+m≤dm) (s:List Value) (H:s.length=m*M) (c4: ∀i j,i<m→j<M→ ∃ab z,(g i)[j]? =some ab∧s[i*M+j]? =some z∧aR w (aM S ι st.k w) ab z):
  aU S ι ⟨st.n,bs st.k b 0 (.ae false M (n+m) aZ)⟩ a (w.setCells x (n*M) s)∧
  cf ι (bs st.k b 0 (.ae false M (n+m) aZ)) (w.setCells x (n*M) s) (aM S ι (bs st.k b 0 (.ae false M (n+m) aZ)) (w.setCells x (n*M) s)) (.own b (n+m)) (.slice (some ⟨x,0,none⟩) (n+m) c):=by
 obtain⟨⟨O,P,K,an⟩,Q,A,ax,aF,cP⟩:=qD x s (n*M) w C T (0,0) V;generalize aFf:w.setCells x (n*M) s=ag at*
 have G: ∀d o,d≠b→I (bs st.k b 0 (.ae false M (n+m) aZ)) d o=I st.k d o:=fun d o e8=>by rw[eK,bH (fun e=>e8 e.1)]
 have W:I (bs st.k b 0 (.ae false M (n+m) aZ)) b 0= .ae false M (n+m) aZ:=by rw[eK,bF ⟨rfl,rfl⟩]
 have EP:mL st.k b:= .inl ⟨by rw[v];rfl,by rw[v];rfl⟩;have xq: ∀y p,y≠x→ag.cell? ⟨y,p,none⟩=w.cell? ⟨y,p,none⟩:=fun y p k=>World.cell?_of_block (A y k);have L: ∀d y,ι d=some y→d≠b→y≠x:=fun d y k jn e=>jn (h.inj _ _ _ k (by rw[e];exact r));have q:eg ι st.k w (aM S ι st.k w) ι (bs st.k b 0 (.ae false M (n+m) aZ)) ag (aM S ι (bs st.k b 0 (.ae false M (n+m) aZ)) ag):=by
  refine⟨fun y ⟨U,B,E⟩=>⟨U,by rw[Q];exact B,fun d xp=> ?_⟩,fun y o ⟨_,B,E⟩=>xq y o (fun e=>E b EP (by rw[e];exact r)),fun d mT hE l=> ?_,fun d ro ki eu fB l=> ?_⟩
  ·by_cases e:d=b
   ·rw[e];exact E b EP
   ·exact E d (nG (fun o=>G d o e) xp)
  ·have e:d≠b:=fun e=>by rw[e,v]at l;cases l
   exact⟨hE,by rw[G _ _ e];exact l⟩
  ·by_cases e:d=b
   ·subst e;rw[v]at l;cases l;refine⟨false,_,n+m,_,W,by omega,fun _=>⟨rfl,rfl,fun y D k0 k F=> ?_⟩⟩;rw[r]at k;cases k;rw[V]at F;cases F;exact⟨O,P,K⟩
   ·refine⟨ro,_,eu,fB,by rw[G _ _ e];exact l,bx _,fun _=>⟨rfl,rfl,fun y D k0 k F=>⟨D,?_,rfl⟩⟩⟩;rw[A y (L _ _ k e)];exact F
 refine⟨⟨h.below.then ⟨ax,aF,cP,by rw[Q];exact bx _,fun fY l e8=>A fY (fun e=>(h.fresh _ _ r).1.elim (fun g=>by omega) fun g=>e8 (by rw[e];exact g))⟩,h.defers,fun t ab ia=> ?_,fun d o=> ?_,h.inj,fun d y k=>⟨(h.fresh _ _ k).1,by rw[Q];exact(h.fresh _ _ k).2⟩,fun d y k=>gG (h.gw _ _ k) (l1 _ _ _ _).1,h.gB.trans q⟩,?_⟩
 ·obtain⟨hg,U,B⟩:=h.n t ab ia;exact⟨hg,U,B.step q⟩
 ·show eQ _ _ _ _ _ _ (I (bs st.k b 0 (.ae false M (n+m) aZ)) d o)
  by_cases e:d=b
  ·subst e
   by_cases R:o=0
   ·subst R;rw[W];refine⟨rfl,.inr ⟨jI,.inr ⟨x,O,T,r,P,fun i j X fe=> ?_⟩⟩⟩;have Z:=h.k d 0;rw[v]at Z;have sq:i*M+j<(n+m)*M:=by
     have:(i+1)*M≤(n+m)*M:=hc M X;rw[iY]at this;omega
    have hmul:(n+m)*M≤c*M:=hc M EO;have asa:(n+m)*M=n*M+m*M:=hr _ _ _
    by_cases Y:i<n
    ·obtain⟨_,dK|⟨_,Z|⟨u,td,vl,q1,fp,yh⟩⟩⟩:=Z
     ·cases dK.1
     ·omega
     ·rw[r]at q1;cases q1;rw[V]at fp;cases fp;obtain⟨ab,z,hl,N,iS⟩:=yh i j Y fe;have gC:i*M+j<n*M:=by
       have:(i+1)*M≤n*M:=hc M Y;rw[iY]at this;omega
      refine⟨ab,z,?_,?_,iS.mono q.hN q.cell⟩
      ·have:Nat.blt i n=true:=by simpa[fU]using Y
       rw[←uC i X];simp only[hJ,this,aN];exact hl
      ·rw[an,bH (by omega)];exact N
    ·obtain⟨ab,z,hl,N,iS⟩:=c4 (i-n) j (by omega) fe;have qF:(i-n)*M=i*M-n*M:=BF _ _ _;have sn:n*M≤i*M:=hc M (by omega);refine⟨ab,z,?_,?_,iS.mono q.hN q.cell⟩
     ·have:Nat.blt i n=false:=by
       cases e:Nat.blt i n with
       |false=>rfl
       |true=>exact absurd (gW e) (by omega)
      rw[←uC i X];simp only[hJ,this,aQ];exact hl
     ·rw[an,bF ⟨by omega,by omega,by omega⟩];rw[qF]at N;rw[show i*M+j-n*M=i*M-n*M+j by omega];exact N
   ·rw[eK,bH (fun e=>R e.2)];have hu:I st.k d o= .undef:=by
     have H:=h.k d o
     cases e:I st.k d o<;>rw[e]at H<;>first|rfl|(have:=H.1;rw[v]at this;cases this;done)|exact absurd H.1 R
    rw[hu];trivial
  ·rw[G _ _ e];exact(h.k d o).step q (fun _=>rfl) (fun y k _=>⟨xq y o (L _ _ k e),World.frozen?_of_block (A y (L _ _ k e))⟩) (fun _=>⟨rfl,fun y k=>A y (L _ _ k e)⟩)
 ·exact⟨rfl,false,M,n+m,_,W,bx _,fun _=> .inl ⟨x,c,O,T,r,rfl,EO,P,by rw[K];exact kF⟩⟩
theorem aU.freeze(h:aU S ι st a w){al:Heap}(k: ∀b o,I al b o=I st.k b o∨(o=0∧ ∃i j n f,I st.k b 0= .ae i j n f∧I al b 0= .ae true j n f))(B:st.k.length≤al.length):
  aU S ι ⟨st.n,al⟩ a w∧eg ι st.k w (aM S ι st.k w) ι al w (aM S ι al w):=by
 have q: ∀b,ch (I al b 0)=ch (I st.k b 0):=fun b=>by
  rcases k b 0 with c|⟨_,i,j,n,f,c,d⟩
  ·rw[c]
  ·rw[c,d];rfl
 have l:eg ι st.k w (aM S ι st.k w) ι al w (aM S ι al w):=by
  refine⟨fun y ⟨c,d,u⟩=>⟨c,d,fun b A=>u b ?_⟩,fun _ _ _=>rfl,fun b z F m=>⟨F,by rw[q];exact m⟩,fun b i j n f m=> ?_⟩
  ·rcases A with⟨e,g⟩|⟨e,o,g⟩
   ·rcases k b 0 with c|⟨_,i,j,n,f,_,d⟩
    ·rw[c]at e g;exact .inl ⟨e,g⟩
    ·rw[d]at g;cases g
   ·rw[q]at e;rcases k b o with c|⟨_,i,j,n,f,c,_⟩
    ·rw[c]at g;exact .inr ⟨e,o,g⟩
    ·rw[c]at e;cases e
  ·rcases k b 0 with c|⟨_,L,M,K,J,c,d⟩
   ·exact⟨i,_,n,f,by rw[c];exact m,bx _,fun _=>⟨rfl,rfl,fun x C T _ p=>⟨C,p,rfl⟩⟩⟩
   ·rw[m]at c;cases c;exact⟨true,_,n,f,d,bx _,fun _=>⟨rfl,rfl,fun x C T _ p=>⟨C,p,rfl⟩⟩⟩
 refine⟨⟨h.below,h.defers,fun t ab D=> ?_,fun b o=> ?_,h.inj,h.fresh,fun b x E=>gG (h.gw _ _ E) B,h.gB.trans l⟩,l⟩
 ·obtain⟨v,c,d⟩:=h.n t ab D;exact⟨v,c,d.step l⟩
 ·show eQ ι al w _ b o (I al b o);rcases k b o with c|⟨rfl,i,j,n,f,c,d⟩
  ·rw[c];exact(h.k b o).step l (fun _=>rfl) (fun _ _ _=>⟨rfl,rfl⟩) (fun _=>⟨rfl,fun _ _=>rfl⟩)
  ·rw[d];have r:=h.k b 0;rw[c]at r;obtain⟨s,G|H⟩:=r.step l (fun _=>rfl) (fun _ _ _=>⟨rfl,rfl⟩) (fun _=>⟨rfl,fun _ _=>rfl⟩)
   ·exact⟨s,.inl ⟨rfl,G.2⟩⟩
   ·exact⟨s,.inr H⟩
theorem LJ(h:aU S ι st a w){b k:Nat}{v:Value}{o n:Nat}{f:Nat→List J}(s:I st.k b 0= .ae true o n f)(O:k=n)(Q:ej S ι st.k w (.own b k) v):aR w (aM S ι st.k w) (.arr o n f) v:=by
 obtain⟨_,ro,ki,Y,V,z,W,G⟩:=Q;rw[s]at z;cases z;subst O;rcases G rfl with⟨q,c,C,F,d,y,P,A,X⟩|⟨rfl,_,y⟩
 ·have m:=h.k b 0;rw[s]at m;obtain⟨_,D|⟨L,m|⟨Z,R,T,E,B,x⟩⟩⟩:=m
  ·rw[d]at D;cases D.2.2
  ·rw[d]at m;cases m.2
  ·rw[d]at E;cases E;rw[A]at B;cases B;have N:=h.fresh b q d;have H:aM S ι st.k w q:=⟨h.own d,N.2,fun U K M=>by
    have:=h.inj _ _ _ M d;subst this;rcases K with⟨_,g⟩|⟨g,_⟩
    ·rw[s]at g;cases g
    ·rw[s]at g;cases g⟩
   rw[y];refine .arr o k f q 0 c (fun i j=>((f i)[j]?).getD .undef) (fun i j=>(C[i*o+j]?).getD undef) P L (fun _=>H) (fun i j e l=> ?_) (fun i j e l=> ?_) (fun i j e l=> ?_)
   ·obtain⟨ab,u,p,r,t⟩:=x i j e l;rw[p];rfl
   ·obtain⟨ab,u,p,r,t⟩:=x i j e l;rw[tb w q _ C F (0,0) A,cN,r];rfl
   ·obtain⟨ab,u,p,r,t⟩:=x i j e l;simp only[p,r,ly];exact t
 ·rw[y];exact .nil o f
end
section
variable {E:Env} {S:dR} {ι:Nat→Option Nat} {st:D} {a:Act} {w:World}
theorem EX: ∀(a b:bX) (H:Heap),bt H (a++b)=bt (bt H a) b
 |[],_,_=>rfl
 |(_,_,_)::a,b,H=>EX a b _
theorem qG: ∀(a:bX) (H:Heap),H.length≤(bt H a).length
 |[],_=>bx _
 |(b,p,c)::a,H=>fg (uO H b p c).1 (qG a _)
theorem EY: ∀(a:bX) (H:Heap) (b o:Nat),I (bt H a) b o=I H b o∨ ∃c,(b,o,c)∈a∧I (bt H a) b o=c
 |[],_,_,_=> .inl rfl
 |(d,g,f)::a,H,b,o=>by
  rcases EY a (bs H d g f) b o with h|⟨c,i,j⟩
  ·rw[bt,h,eK]
   by_cases e:b=d∧o=g
   ·rw[bF e];exact .inr ⟨f,by rw[e.1,e.2];simp,rfl⟩
   ·rw[bH e];exact .inl rfl
  ·exact .inr ⟨c,by simp [i],j⟩
theorem SI: ∀(a:bX) (H:Heap) (b o:Nat) (g:J),(b,o,g)∈a→ ∃c,(b,o,c)∈a∧I (bt H a) b o=c
 |[],_,_,_,_,h=>by cases h
 |(d,j,f)::a,H,b,o,g,h=>by
  rcases EY a (bs H d j f) b o with i|⟨c,i,m⟩
  ·by_cases e:b=d∧o=j
   ·refine⟨f,by rw[e.1,e.2];simp,?_⟩;rw[bt,i,eK,bF e]
   ·rcases hf.1 h with h|h
    ·cases h;exact absurd ⟨rfl,rfl⟩ e
    ·obtain⟨c,k,l⟩:=SI a (bs H d j f) b o g h;exact⟨c,by simp [k],l⟩
  ·exact⟨c,by simp [i],m⟩
def oz:J→List Nat
 | .own b _=>[b]
 |_=>[]
def qR:J→List Nat
 | .agg cs=>cs.flatMap oz
 |ab=>oz ab
theorem ahp{H:Heap}{x:J}{b o:Nat}{c:J}(h:(b,o,c)∈sV H x):o=0∧ ∃g a n f,I H b 0= .ae g a n f∧c= .ae true a n f:=by
 cases x<;>simp only[sV]at h<;>try (cases h;done)
 rename_i d k
 cases e:I H d 0<;>rw[e]at h<;>simp only at h<;>try (cases h;done)
 simp only[List.mem_singleton,s_]at h;obtain⟨rfl,rfl,rfl⟩:=h;exact⟨rfl,_,_,_,_,e,rfl⟩
theorem ahq{H:Heap}{l:List J}{b o:Nat}{c:J}(h:(b,o,c)∈ev H l):o=0∧ ∃d a n f,I H b 0= .ae d a n f∧c= .ae true a n f:=by
 obtain⟨x,_,h⟩:=lx.1 h
 cases x
 case agg cs=>
  obtain⟨y,_,h⟩:=lx.1 h;exact ahp h
 all_goals
  simp only[Br]at h;exact ahp h
theorem aho{H:Heap}{x:J}{b:Nat}(h:b∈oz x){d a n f}(c:I H b 0= .ae d a n f):(b,0,.ae true a n f)∈sV H x:=by
 cases x<;>simp only[oz]at h<;>try (cases h;done)
 simp only[List.mem_singleton]at h;subst h;simp [sV,c]
theorem aBk{H:Heap}{l:List J}{b:Nat}(h:b∈l.flatMap qR){g c n f}(a:I H b 0= .ae g c n f):(b,0,.ae true c n f)∈ev H l:=by
 obtain⟨x,d,h⟩:=lx.1 h;refine lx.2 ⟨x,d,?_⟩
 cases x
 case agg cs=>
  obtain⟨y,e,h⟩:=lx.1 h;exact lx.2 ⟨y,e,aho h a⟩
 all_goals
  simp only[qR]at h;simp only[Br];exact aho h a
theorem uX{H:Heap}(l:List J)(b o:Nat):I (bt H (ev H l)) b o=I H b o∨(o=0∧ ∃d a n f,I H b 0= .ae d a n f∧I (bt H (ev H l)) b 0= .ae true a n f):=by
 rcases EY (ev H l) H b o with h|⟨c,e,g⟩
 ·exact .inl h
 ·obtain⟨rfl,d,a,n,f,i,j⟩:=ahq e;exact .inr ⟨rfl,d,a,n,f,i,by rw[g,j]⟩
theorem F1{H:Heap}{l:List J}{b:Nat}(h:b∈l.flatMap qR){k e n f}(d:I H b 0= .ae k e n f):I (bt H (ev H l)) b 0= .ae true e n f:=by
 obtain⟨c,g,i⟩:=SI (ev H l) H b 0 _ (aBk h d);obtain⟨_,p,q,o,m,a,j⟩:=ahq g;rw[d]at a;cases a;rw[i,j]
theorem YP{H:Heap}(h:aU S ι st a w){x:J}{v:Value}(l: ∀b∈oz x,∀p g n f,I H b 0= .ae p g n f→I st.k b 0= .ae true g n f)(d:ej S ι st.k w x v){K:J→Prop}(c:iv H x K): ∃y,K y∧aR w (aM S ι st.k w) y v:=by
 have q:c2 (nZ x) (K x)→ ∃y,K y∧aR w (aM S ι st.k w) y v:=fun m=>(fun⟨i,j⟩=>⟨x,j,cf.p1 d i⟩) (aD.1 m)
 cases x
 case own b k=>
  simp only[iv]at c
  cases e:I H b 0<;>rw[e]at c<;>simp only at c
  exact⟨_,c.2,LJ h (l b (by simp [oz]) _ _ _ _ e) c.1 d⟩
 case lit b=>
  have o:aR w (aM S ι st.k w) (.lit b) v:=d
  cases o
  exact⟨_,c,.bool b⟩
 all_goals exact q c
theorem PE{H:Heap}(h:aU S ι st a w): ∀(cs:List J) (g:List Value) (K:List J→Prop),(∀b∈cs.flatMap oz,∀p l n f,I H b 0= .ae p l n f→I st.k b 0= .ae true l n f)→aY (ej S ι st.k w) cs g→lH H cs K→ ∃i,K i∧aY (aR w (aM S ι st.k w)) i g
 |[],[],K,_,_,d=>⟨[],d,trivial⟩
 |[],_::_,_,_,e,_=>e.elim
 |_::_,[],_,_,e,_=>e.elim
 |c::cs,v::g,K,k,e,d=>by
  obtain⟨y,d,m⟩:=YP h (fun b j=>k b (by simp [j])) e.1 d;obtain⟨i,d,o⟩:=PE h cs g _ (fun b j=>k b (by simp only[l9,hq];exact .inr j)) e.2 d;exact⟨y::i,d,m,o⟩
theorem apg{H:Heap}(h:aU S ι st a w){x:J}{v:Value}(g: ∀b∈qR x,∀p j n f,I H b 0= .ae p j n f→I st.k b 0= .ae true j n f)(i:bk S ι st.k w x v){K:J→Prop}(c:ku H x K): ∃y,K y∧fi w (aM S ι st.k w) y v:=by
 have o: ∀y,aR w (aM S ι st.k w) y v→fi w (aM S ι st.k w) y v:=fun y m=>by cases m<;>first|exact .int _ _|exact .bool _|exact .str _ (by assumption)|exact .aE|exact .nil _ _|exact .mt _ _ _ _|(constructor<;>assumption)
 cases x
 case agg cs=>
  obtain⟨k,rfl,l⟩:=i;obtain⟨q,d,e⟩:=PE h cs k _ g l c;exact⟨.agg q,d,k,rfl,e⟩
 case undef=>exact c.elim
 case gone=>exact c.elim
 case c9=>exact c.elim
 case ae=>exact c.elim
 all_goals
  simp only[bk,ek,fX]at i;simp only[qR]at g;obtain⟨y,d,e⟩:=YP h g i c;exact⟨y,d,o y e⟩
theorem PD{H:Heap}(h:aU S ι st a w): ∀(k:List J) (g:List Value) (K:List J→Prop),(∀b∈k.flatMap qR,∀q m n f,I H b 0= .ae q m n f→I st.k b 0= .ae true m n f)→aY (bk S ι st.k w) k g→mh H k K→ ∃i,K i∧aY (fi w (aM S ι st.k w)) i g
 |[],[],K,_,_,d=>⟨[],d,trivial⟩
 |[],_::_,_,_,e,_=>e.elim
 |_::_,[],_,_,e,_=>e.elim
 |c::cs,v::g,K,l,e,d=>by
  obtain⟨y,d,o⟩:=apg h (fun b j=>l b (by simp [j])) e.1 d;obtain⟨i,d,p⟩:=PD h cs g _ (fun b j=>l b (by simp only[l9,hq];exact .inr j)) e.2 d;exact⟨y::i,d,o,p⟩
theorem ahF{b:Nat}{F:Nat→Prop}{r:J}{v:Value}(a:Bu r=true)(h:pR b w F r v):jS w F r v:=by
 cases r<;>first|exact h|(cases a;done)
theorem UI{ws:bX}(h:aU S ι ⟨st.n,bt st.k ws⟩ a w){ag:World}(d:Below w.heap.size w ag){F:Nat→Prop}{r:J}{v:Value}(u:pR w.heap.size ag F r v)
  (s: ∀y,F y→aM S ι (bt st.k ws) w y∨(w.heap.size≤y∧y<ag.heap.size)) {aA:Nat} (t: ∀o,I (bt st.k ws) aA o= .undef) (z:ι aA=none) {K:J→bX→Prop} (m:sU aA r ws K):
  ∃ay ab i,K ab i∧aU S ay ⟨st.n,bt st.k i⟩ a ag∧bk S ay (bt st.k i) ag ab v∧ ∀b,ay b≠none→ι b≠none∨ ∃p c,(b,p,c)∈i:=by
 have U:jS ag F r v→K r ws→ ∃ay ab i,K ab i∧aU S ay ⟨st.n,bt st.k i⟩ a ag∧bk S ay (bt st.k i) ag ab v∧ ∀b,ay b≠none→ι b≠none∨ ∃p c,(b,p,c)∈i:=fun M G=>by
  obtain⟨k,q⟩:=h.world d;refine⟨ι,r,ws,G,k,ek.TQ (jS.mono (fun y j=> ?_) (fun _ _ _=>rfl) M),fun b d=> .inl d⟩;rcases s y j with j|⟨Q,R⟩
  ·exact q.hN y j
  ·exact⟨.inr (fg h.below.size Q),R,fun b _ e=>by have:=(h.fresh b y e).2;omega⟩
 cases r
 case ae V l n f=>
  simp only[sU]at m;rcases u with⟨rfl,rfl⟩|⟨x,c,C,T,O,P,rfl,L,H,D,E,N⟩
  ·obtain⟨k,_⟩:=h.world d;obtain⟨A,_,B⟩:=k.Lr t z l f;refine⟨ι,.own aA 0,ws++[(aA,0,.ae false l 0 f)],m,?_,?_,fun b d=> .inl d⟩
   ·rw[EX,AN];exact A
   ·rw[EX,AN];exact B (aM S ι (bs (bt st.k ws) aA 0 (.ae false l 0 f)) ag)
  ·obtain⟨k,q⟩:=h.FV d (b:=aA) O P H L D E (dO:=fun y=>F y∧y≠x) (fun y j=>(s y j.1).imp id fun g=>⟨g.1,g.2,j.2⟩) N (.inl ⟨t,z⟩);refine⟨cz ι aA x,.own aA n,ws++[(aA,0,.ae false l n f)],m,?_,?_,fun b d=>(BB _ _ _ b d).imp id fun e=>⟨0,.ae false l n f,by subst e;simp⟩⟩
   ·rw[EX,AN];exact k
   ·rw[EX,AN];exact q
 all_goals exact U u m
theorem apa(h:aU S ι st a w){x:Operand}{f:FuncId}{b:List J}(o:aC st.n x= .fn f b)(l:b.all mW=true): ∃c:List Value,a.eval x= .func (.func f) #[] c.toArray∧aY (bk S ι st.k w) b c:=by
 have:=h.eval x;rw[o]at this;obtain⟨c,j,d⟩:=(show ej S ι st.k w (.fn f b) _ from this);refine⟨c,j,aY.mk d.length fun i p q e m=> ?_⟩;obtain⟨r,g,n⟩:=d.get i p e;rw[m]at g;cases g;have k:=dw.1 l p (e4 e)
 cases p<;>first|(cases k;done)|exact n
theorem ani(mB:E.dq){o:Oper}{c:Go.Call}{d:Operand}{f:FuncId}{G:List J}(eh:o.op= .call c)(jm:c.callee= .value d)(SK:aC st.n d= .fn f G)(RX:G.all mW=true)(h:aU S ι st a w){aA:Nat}(kH: ∀o,I st.k aA o= .undef)(pe:ι aA=none)
  {K:J→bX→Prop} (m:tr E st.k aA f (c.args.toList.map (aC st.n)++G) K) {next:Act→World→Prop} {Q:Exit→Act→World→Prop}
  (qE: ∀ay ab ws v ag,K ab ws→aU S ay ⟨st.n,bt st.k ws⟩ a ag→bk S ay (bt st.k ws) ag ab v→(∀b,ay b≠none→ι b≠none∨ ∃p c,(b,p,c)∈ws)→next (a.put o.dst v) ag):o.wp E.P a w next Q:=by
 obtain⟨B,R4,J_⟩:=apa h SK RX;have asd:aY (bk S ι st.k w) ((c.args.toList.map (aC st.n)).map eE) (c.args.toList.map a.eval):=by
  refine aY.mk (by simp) fun i x y k s=> ?_;simp only[fq,jQ]at k s;obtain⟨g,⟨ya,L,rfl⟩,rfl⟩:=k;obtain⟨FE,V,rfl⟩:=s;rw[L]at V;cases V;exact A6 (h.eval ya)
 have O:aY (bk S ι st.k w) ((c.args.toList.map (aC st.n)++G).map eE) (c.args.toList.map a.eval++B):=by
  rw[List.map_append];refine aY.append asd (aY.mk (by simpa using J_.length) fun i x y k s=> ?_);simp only[fq,jQ]at k;obtain⟨g,L,rfl⟩:=k;obtain⟨u_,T,gD⟩:=J_.get i g L;rw[s]at T;cases T;exact A6 gD
 unfold tr at m;generalize (c.args.toList.map (aC st.n)++G).map eE=aa at m O;have W: ∀(F:Nat→Prop) (U:List J) (r:J) (z:Option Prop),E.spec f U=some (z,r)→nC z True→oL w F→aY (fi w F) U (c.args.toList.map a.eval++B)→
   (∀ag v,Below w.heap.size w ag→pR w.heap.size ag (fun x=>F x∨(w.heap.size≤x∧x<ag.heap.size)) r v→next (a.put o.dst v) ag)→o.wp E.P a w next Q:=fun F U r z t P nm xo e8=>by
  obtain⟨⟨fn,ano,Km,RU,Sf⟩,atn⟩:=mB.spec f U z r t;have EE:=atn P w F _ nm xo;have om:(execOp a.eval o).run E.P w= .ok (.enter f (c.args.toList.map a.eval++B).toArray) w:=by
   have Sh:fn.name≠ "runtime.NumGoroutine" :=by simpa using Sf
   have RQ:(c.args.toList.map a.eval++B).toArray=c.args.map a.eval++B.toArray:=by apply oG;simp
   rw[RQ];simp [execOp,eh,resolve,jm,R4,Deferred.ofValue,invoke,callFunc,Km,RU,Sh]
  unfold Oper.wp;rw[om];refine EE.mono fun e ag ⟨v,he,l,j⟩=> ?_;subst he;exact e8 ag v j l
 by_cases Y:aa.all zq=true
 ·have m:=YV Y m
  cases t:E.spec f aa with
  |none=>rw[t]at m;exact m.elim
  |some q=>
   obtain⟨z,r⟩:=q;rw[t]at m;obtain⟨P,N⟩:=pt.1 m;have A:nF st.k r aa=[]:=by simp [nF,Y]
   rw[A]at N;refine W (aM S ι st.k w) _ r z t P h.Pz (aY.mk O.length fun i x y k s=> ?_) fun ag v j l=> ?_
   ·obtain⟨u_,T,gD⟩:=O.get i x k;rw[s]at T;cases T;exact gD.p1 (dw.1 Y _ (e4 k))
   ·obtain⟨ay,ab,Mk,h5,iK,fb,lb⟩:=UI (st:=st) (ws:=[]) h j l (fun y s=>s) kH pe N;exact qE ay ab Mk v ag h5 iK fb lb
 ·obtain⟨WO,Z,ar9⟩:=YW h _ _ _ O m
  cases t:E.spec f WO with
  |none=>rw[t]at Z;exact Z.elim
  |some q=>
   obtain⟨z,r⟩:=q;rw[t]at Z;obtain⟨P,N⟩:=pt.1 Z
   by_cases KE:Bu r=true
   ·have A:nF st.k r aa=[]:=by simp [nF,KE]
    rw[A]at N;refine W (kY S w) WO r z t P ⟨fun x k=>k.elim (fun M=>gG (S.lt x M) h.below.size) fun M=>M.2,fun C=>(h.ux C).imp id fun cP=>cP.mono (fun x k=>k.1.elim .inl fun M=> .inr ⟨M,k.2.1⟩) fun _ _ _=>rfl⟩ ar9 fun ag v j l=> ?_;obtain⟨D,g3⟩:=h.world j;have RI:K r []:=by cases r<;>first|exact N|(cases KE;done)
    exact qE ι r [] v ag RI D (ek.TQ (ahG KE (ahF KE l))) fun b j=> .inl j
   ·
    obtain⟨D,ES⟩:=h.freeze (al:=bt st.k (ev st.k aa)) (uX aa) (qG _ _);have asc:aY (bk S ι (bt st.k (ev st.k aa)) w) aa (c.args.toList.map a.eval++B):=O.imp fun _ _ l=>l.step ES;obtain⟨OA,AI,RO⟩:=PD (H:=st.k) D aa _ _ (fun b j ro fY n f he=>F1 j he) asc m
    cases KB:E.spec f OA with
    |none=>rw[KB]at AI;exact AI.elim
    |some q1=>
     obtain⟨ag1,u⟩:=q1;rw[KB]at AI;obtain⟨ad9,X⟩:=pt.1 AI
     by_cases R:Bu u=true
     ·have A:nF st.k u aa=[]:=by simp [nF,R]
      rw[A]at X;refine W (aM S ι (bt st.k (ev st.k aa)) w) OA u ag1 KB ad9 D.Pz RO fun ag v j l=> ?_;obtain⟨e5,Ay⟩:=h.world j;have RI:K u []:=by cases u<;>first|exact X|(cases R;done)
      exact qE ι u [] v ag RI e5 (ek.TQ (ahG R (ahF R l))) fun b j=> .inl j
     ·have A:nF st.k u aa=ev st.k aa:=by
       have L:Bu u=false:=by simpa using R
       have V:aa.all zq=false:=by simpa using Y
       simp only[nF,L,V,Bool.or_self]
      rw[A]at X;refine W (aM S ι (bt st.k (ev st.k aa)) w) OA u ag1 KB ad9 D.Pz RO fun ag v j l=> ?_;have Se: ∀o,I (bt st.k (ev st.k aa)) aA o= .undef:=fun o=>by
       rcases uX (H:=st.k) aa aA o with C|⟨_,ro,fY,n,f,C,_⟩
       ·rw[C];exact kH o
       ·rw[kH 0]at C;cases C
      obtain⟨ay,ab,Mk,h5,iK,fb,lb⟩:=UI (st:=st) (ws:=ev st.k aa) D j l (fun y s=>s) Se pe X;exact qE ay ab Mk v ag h5 iK fb lb
end
section
variable {E:Env} {S:dR} {ι:Nat→Option Nat} {st:D} {a:Act} {w:World}
theorem agt{v:Value}(h:one v=true):v.oneCell'=true:=by cases v<;>first|rfl|(cases h;done)
def rP(a n:Nat)(u:Nat→Nat→Value):List Value:=(List.range (n*a)).map fun k=>u (k/a) (k%a)
theorem CI(M n:Nat)(u:Nat→Nat→Value):(rP M n u).length=n*M:=by simp [rP]
theorem Hr{M n:Nat}{u:Nat→Nat→Value}{i j:Nat}(d:i<n)(a:j<M):(rP M n u)[i*M+j]? =some (u i j):=by
 have e:i*M+j<n*M:=by
  have:(i+1)*M≤n*M:=hc M d;rw[iY]at this;omega
 have b:(i*M+j)/M=i:=by
  rw[ta,Nat.mul_add_div (by omega),Mr a];omega
 have c:(i*M+j)%M=j:=by
  rw[ta,Nat.mul_add_mod,Ms a]
 simp [rP,BK e,b,c]
theorem Hq{M n:Nat}{u:Nat→Nat→Value}{k:Nat}{v:Value}(h:(rP M n u)[k]? =some v): ∃i j,i<n∧j<M∧k=i*M+j∧v=u i j:=by
 have g:k<n*M:=by
  have:=(iW.1 h).1;simpa[rP]using this
 have f:0<M:=by
  rcases nL M with e|e
  ·subst e;omega
  ·exact e
 have a:k/M<n:=(Nat.div_lt_iff_lt_mul f).2 g;have b:k%M<M:=Nat.mod_lt _ f;have c:k=k/M*M+k%M:=by rw[ta];exact(Nat.div_add_mod k M).symm
 have d:=Hr (u:=u) a b;rw[←c,h]at d
 cases d
 exact⟨_,_,a,b,c,rfl⟩
theorem aBU{F:TypeId}{str:Bool}(cP:aU S ι st a w)(B:if str then E.P.underlying F=some .string else∃e,E.P.underlying F=some (.slice e)){r:Nat}{y:J}{v:Value}(Q:bk S ι st.k w y v){K:Nat→(Nat→List J)→Prop}(A:mM st.k str r y K):
  ∃m g z,K m g∧m≤dm∧Src E.P r F v m z w∧ ∀i j,i<m→j<r→ ∃ab u,(g i)[j]? =some ab∧z[i*r+j]? =some u∧aR w (aM S ι st.k w) ab u:=by
 have fin: ∀(t m:Nat) (g:Nat→List J) (x p c:Nat) (u:Nat→Nat→Value) (q:Nat→Nat→J),str=false→t=r→v= .slice (some ⟨x,p,none⟩) m c→m≤dm→K m g→(∀i j,i<m→j<t→(g i)[j]? =some (q i j))→(∀i j,i<m→j<t→w.cell? ⟨x,p+(i*t+j),none⟩=some (u i j))→
   (∀i j,i<m→j<t→aR w (aM S ι st.k w) (q i j) (u i j))→ ∃m g z,K m g∧m≤dm∧Src E.P r F v m z w∧ ∀i j,i<m→j<r→ ∃ab u,(g i)[j]? =some ab∧z[i*r+j]? =some u∧aR w (aM S ι st.k w) ab u:=by
  intro t m g x p c u q P ns D hm l d g3 R;subst ns;subst D;rw[P]at B;obtain⟨e,M⟩:=B;refine⟨m,g,rP t m u,l,hm,Src.ofSlice w M _ m c _ (CI _ _ _) (fun j v o=> ?_) (fun v D=> ?_),fun i j h o=>⟨_,_,d i j h o,Hr h o,R i j h o⟩⟩
  ·obtain⟨i,Z,h,W,jg,G⟩:=Hq o;rw[Addr.add_lit,jg,G];exact g3 i Z h W
  ·obtain⟨k,A⟩:=pI D;obtain⟨i,Z,h,W,jg,G⟩:=Hq A;rw[G];exact agt (R i Z h W).one
 have none:str=false→K 0 (fun _=>[])→(∃c,v= .slice Option.none 0 c)→ ∃m g z,K m g∧m≤dm∧Src E.P r F v m z w∧ ∀i j,i<m→j<r→ ∃ab u,(g i)[j]? =some ab∧z[i*r+j]? =some u∧aR w (aM S ι st.k w) ab u:=by
  rintro P l ⟨c,rfl⟩
  rw[P]at B;obtain⟨e,M⟩:=B;exact⟨0,_,[],l,cA _,Src.ofNil w M c,fun i j h=>by omega⟩
 have U: ∀(g:Nat→List J),str=false→K 0 g→(∃a c,v= .slice a 0 c)→ ∃m g z,K m g∧m≤dm∧Src E.P r F v m z w∧ ∀i j,i<m→j<r→ ∃ab u,(g i)[j]? =some ab∧z[i*r+j]? =some u∧aR w (aM S ι st.k w) ab u:=by
  rintro g P l ⟨T,c,rfl⟩
  rw[P]at B;obtain⟨e,M⟩:=B;refine⟨0,g,[],l,cA _,?_,fun i j h=>by omega⟩
  cases T with
  |none=>exact Src.ofNil w M c
  |some T=>exact Src.ofSlice w M T 0 c [] (by simp) (fun j u o=>by simp at o) (fun u hu=>by cases hu)
 cases y<;>simp only[mM]at A<;>try exact A.elim
 case aE=>
  obtain⟨d,l⟩:=aD.1 A;have Y:aR w (aM S ι st.k w) .aE v:=Q
  cases Y
  exact none (by simpa using d) l ⟨0,rfl⟩
 case str s=>
  obtain⟨d,l⟩:=aD.1 A;simp only[bY,jP]at d;obtain⟨d,rfl⟩:=d;subst d;have B:E.P.underlying F=some .string:=B;have iP:=bk.Va Q;have D:=bk.str Q;subst D;refine⟨s.size,vr s,byteCells s,l,iP,Src.ofString w B s,fun i j h o=> ?_⟩;have asV:j=0:=by omega
  subst asV;have R6:i<s.data.toList.length:=by simpa using h
  refine⟨_,.int .u8 ((s.data.toList.getD i 0).toNat:Int),rfl,?_,.int _ _⟩;simp only[byteCells,Nat.mul_one,lA,fq,cT R6,rb,List.getD,ly]
 case arr t n f=>
  obtain⟨d,l⟩:=aD.1 A;simp only[bY,iX,jP]at d;obtain⟨d,rfl⟩:=d;have Y:aR w (aM S ι st.k w) (.arr t n f) v:=Q
  cases Y with
  |nil=>exact U _ d l ⟨_,_,rfl⟩
  |mt=>exact U _ d l ⟨_,_,rfl⟩
  |arr _ _ _ b p c g u e8 adD nm H L N=>exact fin t n f b p c u g d rfl rfl adD l H (fun i j h o=>by rw[←rh];exact L i j h o) N
 case own b k=>
  cases e:I st.k b 0<;>rw[e]at A<;>simp only at A
  rename_i ro t n f;obtain⟨d,rfl,l⟩:=aD.1 A;simp only[bY,iX,jP]at d;obtain⟨d,rfl⟩:=d;obtain⟨_,nE,ki,eu,fB,G,_,R⟩:=(show ej S ι st.k w (.own b k) v from Q);rw[e]at G;cases G;rcases R rfl with⟨q,c,C,k0,X,D,mD,j_,kF⟩|⟨rfl,_,D⟩
  ·have O:=cP.k b 0;rw[e]at O;obtain⟨_,dK|⟨jI,O|⟨FW,kk,aml,uE,uA,V⟩⟩⟩:=O
   ·rw[X]at dK;cases dK.2.2
   ·rw[X]at O;cases O.2
   ·rw[X]at uE;cases uE;rw[j_]at uA;cases uA;refine fin t k f q 0 c (fun i j=>(C[i*t+j]?).getD undef) (fun i j=>((f i)[j]?).getD .undef) d rfl D jI l (fun i j h o=> ?_) (fun i j h o=> ?_) (fun i j h o=> ?_)
    ·obtain⟨ab,u,H,L,N⟩:=V i j h o;rw[H];rfl
    ·obtain⟨ab,u,H,L,N⟩:=V i j h o;rw[tb w q _ C k0 (0,0) j_,cN,L];rfl
    ·obtain⟨ab,u,H,L,N⟩:=V i j h o;simp only[H,L,ly];exact N
  ·exact U _ d l ⟨_,_,D⟩
theorem WM(h:aU S ι st a w){T N ty e:TypeId}{i:TypeInfo}{z:Value}(jl:E.P.underlying T=some (.slice e))(iQ:E.P.info? e=some i)(hE:i.zero=some z)(EC:i.bytes≤256)(E0:z.cells.size=i.size)
  {b cP n m:Nat} {f g aZ:Nat→List J} (uC: ∀i,i<n+m→hJ n f g i=aZ i) {v x:Value} {s:List Value} (Q:I st.k b 0= .ae false i.size n f) (EJ:cP=n) (c4:ej S ι st.k w (.own b cP) v) (jI:n+m≤dm) (l:Src E.P i.size N x m s w)
  (Ku: ∀d j,d<m→j<i.size→ ∃ab u,(g d)[j]? =some ab∧s[d*i.size+j]? =some u∧aR w (aM S ι st.k w) ab u):
  ∃ay ag u,(Builtin.append_ #[T,N] ty #[v,x]).run E.P w= .ok u ag∧(∀k,ay k≠none→ι k≠none∨k=b)∧aU S ay ⟨st.n,bs st.k b 0 (.ae false i.size (n+m) aZ)⟩ a ag∧
   ej S ay (bs st.k b 0 (.ae false i.size (n+m) aZ)) ag (.own b (n+m)) u:=by
 obtain⟨_,nE,ki,eu,fB,fL,_,e5⟩:=c4;rw[Q]at fL;cases fL;have nk:dm=549755813888:=rfl;have ED:(n+m)*i.bytes≤140737488355328:=fg (Nat.mul_le_mul (by omega:n+m≤549755813888) EC) (by decide);have X:=h.k b 0;rw[Q]at X;have grow: ∀(base:Option Addr) (c:Nat) (F:List Value),(Builtin.firstCells i.size n (.slice base n c)).run E.P w.drew= .ok F.toArray w.drew→F.length=n*i.size→(∀d j,d<n→j<i.size→ ∃ab u,(f d)[j]? =some ab∧F[d*i.size+j]? =some u∧aR w (aM S ι st.k w) ab u)→
   c<n+m→v= .slice base n c→n<n+m→ ∃ay ag u,(Builtin.append_ #[T,N] ty #[v,x]).run E.P w= .ok u ag∧(∀k,ay k≠none→ι k≠none∨k=b)∧aU S ay ⟨st.n,bs st.k b 0 (.ae false i.size (n+m) aZ)⟩ a ag∧
   ej S ay (bs st.k b 0 (.ae false i.size (n+m) aZ)) ag (.own b (n+m)) u:=by
  intro base c F hold Kx Si jm L gC;have K:=run_append_grow_src (P:=E.P) w T N ty e i z jl iQ hE base n c F hold x m s l jm (by omega) (growslice_fits jm ED);have sn:=vc w (n+m) c e;generalize grownCap w (n+m) c e=R at K sn;have AE:Below w.heap.size w (w.drew.alloc (.cells ((F++s).toArray++Builtin.zeroCells z.cells (R- (n+m))) e)):=(Below.drew (Below.refl _ w)).alloc (bx _) _;have RY: ∀d j,d<n+m→j<i.size→ ∃ab u,(aZ d)[j]? =some ab∧((F++s).toArray++Builtin.zeroCells z.cells (R- (n+m)))[d*i.size+j]? =some u∧aR (w.drew.alloc (.cells ((F++s).toArray++Builtin.zeroCells z.cells (R- (n+m))) e)) (aM S ι st.k w) ab u:=fun d j A p=>by
   have ad3: ∀{ab:J} {u:Value},aR w (aM S ι st.k w) ab u→aR (w.drew.alloc (.cells ((F++s).toArray++Builtin.zeroCells z.cells (R- (n+m))) e)) (aM S ι st.k w) ab u:=fun Y=>Y.mono (fun _ h=>h) fun y o B=>AE.cell B.2.1;have hmul:(n+m)*i.size=n*i.size+m*i.size:=hr _ _ _
   by_cases sr:d<n
   ·obtain⟨ab,u,hl,gh,iS⟩:=Si d j sr p;have R_:d*i.size+j<n*i.size:=by
     have:(d+1)*i.size≤n*i.size:=hc _ sr;rw[iY]at this;omega
    refine⟨ab,u,?_,?_,ad3 iS⟩
    ·have:Nat.blt d n=true:=by simpa[fU]using sr
     rw[←uC d A];simp only[hJ,this,aN];exact hl
    ·rw[pF (by simp [Kx,l.newsLen];omega)];simp only[s8];rw[s7 (by omega)];exact gh
   ·obtain⟨ab,u,hl,gh,iS⟩:=Ku (d-n) j (by omega) p;have qF:(d-n)*i.size=d*i.size-n*i.size:=BF _ _ _;have asP:n*i.size≤d*i.size:=hc _ (by omega);have R_:d*i.size+j<(n+m)*i.size:=by
     have:(d+1)*i.size≤(n+m)*i.size:=hc _ A;rw[iY]at this;omega
    refine⟨ab,u,?_,?_,ad3 iS⟩
    ·have:Nat.blt d n=false:=by
      cases e:Nat.blt d n with
      |false=>rfl
      |true=>exact absurd (gW e) (by omega)
     rw[←uC d A];simp only[hJ,this,aQ];exact hl
    ·rw[pF (by simp [Kx,l.newsLen];omega)];simp only[s8];rw[BG (by omega),Kx];rw[qF]at gh;rw[show d*i.size+j-n*i.size=d*i.size-n*i.size+j by omega];exact gh
  obtain⟨G,H⟩:=h.FV AE (b:=b) (x:=w.heap.size) (bx _) (by simp) (f:=aZ) (n:=n+m) (M:=i.size) (c:=R) jI sn (rf w.drew _) (by
   simp only[vd,pH,iF,size_zeroCells,E0,Kx,l.newsLen,←hr]
   congr 1;omega) (dO:=aM S ι st.k w) (fun y B=> .inl B) RY (.inr ⟨n,f,Q,gC⟩)
  subst L;exact⟨_,_,_,K,BB _ _ _,G,H⟩
 rcases e5 EJ with⟨q,c,C,Z,iR,L,mD,U,kF⟩|⟨as9,KJ,L⟩
 ·obtain⟨_,dK|⟨_,X|⟨FW,kk,aml,uE,uA,lg⟩⟩⟩:=X
  ·rw[iR]at dK;cases dK.2.2
  ·rw[iR]at X;cases X.2
  rw[iR]at uE;cases uE;rw[U]at uA;cases uA
  by_cases Y:n+m≤c
  ·have hmul:(n+m)*i.size≤c*i.size:=hc _ Y;have asa:(n+m)*i.size=n*i.size+m*i.size:=hr _ _ _;have K:=run_append_room_src (P:=E.P) w T N ty e i jl iQ q 0 n c x m s l Y (fun j p=>by
    rw[tb w q _ C Z (0,0) U,cN];rw[l.newsLen]at p;rw[pG (by omega)];rfl) (fun j p=>by
    rw[l.newsLen]at p;unfold World.frozen?;rw[U];simp)
   rw[cN]at K;obtain⟨G,H⟩:=h.aBm (g:=g) uC Q iR U kF Y jI s l.newsLen Ku;subst L;exact⟨ι,_,_,K,fun k W=> .inl W,G,H⟩
  ·refine grow _ c (rP i.size n fun d j=>(C[d*i.size+j]?).getD undef) ?_ (CI _ _ _) (fun d j A p=> ?_) (by omega) L (by omega)
   ·refine Gq (P:=E.P) w.drew i.size n ⟨q,0,none⟩ n c _ (CI _ _ _) fun j u p=> ?_;obtain⟨d,SV,A,R7,jg,fL⟩:=Hq p;rw[Addr.add_lit,jg,fL];obtain⟨ab,u,h5,iK,fb⟩:=lg d SV A R7;rw[tb w.drew q _ C Z (0,0) U,cN,iK];rfl
   ·obtain⟨ab,u,h5,iK,fb⟩:=lg d j A p;exact⟨ab,u,h5,by rw[Hr A p,iK];rfl,fb⟩
 ·subst as9
  by_cases hm:m=0
  ·subst hm;have atb:s=[]:=Vy (by rw[l.newsLen];simp);have K:(Builtin.append_ #[T,N] ty #[v,x]).run E.P w= .ok (.slice none 0 0) w:=by
    subst L;rcases l.kind with⟨O,r⟩|r<;>simp [Builtin.append_,e3 jl,e3 r,sizeOf,typeInfo,iQ,l.len,l.cells]
   have V: ∀k o,I (bs st.k b 0 (.ae false i.size (0+0) aZ)) k o=if k=b∧o=0 then .ae false i.size 0 aZ else I st.k k o:=fun k o=>eK _ _ _ _ _ _
   have Kp:I (bs st.k b 0 (.ae false i.size (0+0) aZ)) b 0= .ae false i.size 0 aZ:=by rw[V,bF ⟨rfl,rfl⟩]
   have Sy:eg ι st.k w (aM S ι st.k w) ι (bs st.k b 0 (.ae false i.size (0+0) aZ)) w (aM S ι (bs st.k b 0 (.ae false i.size (0+0) aZ)) w):=by
    refine⟨fun y ⟨G,H,e5⟩=>⟨G,H,fun k W he=> ?_⟩,fun _ _ _=>rfl,fun k z hE r=>⟨hE,?_⟩,fun k ro ki eu fB r=> ?_⟩
    ·have e:k≠b:=fun e=>by rw[e,KJ]at he;cases he
     exact e5 k (nG (fun o=>by rw[V,bH (fun O=>e O.1)]) W) he
    ·have e:k≠b:=fun e=>by rw[e,Q]at r;cases r
     rw[V,bH (fun O=>e O.1)];exact r
    ·by_cases e:k=b
     ·subst e;rw[Q]at r;cases r;exact⟨false,_,0,_,Kp,bx _,fun _=>⟨rfl,rfl,fun y D Z B Az=>by rw[KJ]at B;cases B⟩⟩
     ·exact⟨ro,_,eu,fB,by rw[V,bH (fun O=>e O.1)];exact r,bx _,fun _=>⟨rfl,rfl,fun y D Z B Az=>⟨D,Az,rfl⟩⟩⟩
   refine⟨ι,w,_,K,fun k W=> .inl W,⟨h.below,h.defers,fun t ab ia=> ?_,fun k o=> ?_,h.inj,h.fresh,fun k y B=>gG (h.gw _ _ B) (l1 _ _ _ _).1,h.gB.trans Sy⟩,?_⟩
   ·obtain⟨v,G,H⟩:=h.n t ab ia;exact⟨v,G,H.step Sy⟩
   ·show eQ _ _ _ _ _ _ (I (bs st.k b 0 (.ae false i.size (0+0) aZ)) k o);rw[V]
    by_cases e:k=b∧o=0
    ·rw[bF e];exact⟨e.2,.inr ⟨cA _,.inl ⟨rfl,by rw[e.1];exact KJ⟩⟩⟩
    ·rw[bH e];exact(h.k k o).step Sy (fun _=>rfl) (fun _ _ _=>⟨rfl,rfl⟩) (fun _=>⟨rfl,fun _ _=>rfl⟩)
   ·exact⟨rfl,false,i.size,0,_,Kp,bx _,fun _=> .inr ⟨rfl,KJ,rfl⟩⟩
  ·exact grow none 0 [] (run_firstCells_none w.drew i.size 0 0 0) (by simp) (fun d j A=>by omega) (by omega) L (by omega)
theorem amQ(h:aU S ι st a w){T B ty e:TypeId}{i:TypeInfo}{z:Value}(jl:E.P.underlying T=some (.slice e))(iQ:E.P.info? e=some i)(hE:i.zero=some z)(EC:i.bytes≤256)(E0:z.cells.size=i.size)
  {aA n m:Nat} {f g aZ:Nat→List J} (V: ∀i,i<n+m→hJ n f g i=aZ i) {v x:Value} {t:List Value} (kH: ∀o,I st.k aA o= .undef) (pe:ι aA=none) (c4:aR w (aM S ι st.k w) (.jV i.size n f) v) (hm:0<m) (jI:n+m≤dm) (F:Src E.P i.size B x m t w)
  (Ku: ∀d j,d<m→j<i.size→ ∃ab u,(g d)[j]? =some ab∧t[d*i.size+j]? =some u∧aR w (aM S ι st.k w) ab u):
  ∃ay ag u,(Builtin.append_ #[T,B] ty #[v,x]).run E.P w= .ok u ag∧(∀s,ay s≠none→ι s≠none∨s=aA)∧aU S ay ⟨st.n,bs st.k aA 0 (.ae false i.size (n+m) aZ)⟩ a ag∧
   ej S ay (bs st.k aA 0 (.ae false i.size (n+m) aZ)) ag (.own aA (n+m)) u:=by
 have nk:dm=549755813888:=rfl;have ED:(n+m)*i.bytes≤140737488355328:=fg (Nat.mul_le_mul (by omega:n+m≤549755813888) EC) (by decide);have H: ∀(base:Option Addr) (c:Nat) (r:List Value),(Builtin.firstCells i.size n (.slice base n c)).run E.P w.drew= .ok r.toArray w.drew→r.length=n*i.size→(∀d j,d<n→j<i.size→ ∃ab u,(f d)[j]? =some ab∧r[d*i.size+j]? =some u∧aR w (aM S ι st.k w) ab u)→
   c<n+m→v= .slice base n c→ ∃ay ag u,(Builtin.append_ #[T,B] ty #[v,x]).run E.P w= .ok u ag∧(∀s,ay s≠none→ι s≠none∨s=aA)∧aU S ay ⟨st.n,bs st.k aA 0 (.ae false i.size (n+m) aZ)⟩ a ag∧
   ej S ay (bs st.k aA 0 (.ae false i.size (n+m) aZ)) ag (.own aA (n+m)) u:=by
  intro base c r hold D Si C atI;have X:=run_append_grow_src (P:=E.P) w T B ty e i z jl iQ hE base n c r hold x m t F C (by omega) (growslice_fits C ED);have U:=vc w (n+m) c e;generalize grownCap w (n+m) c e=A at X U;have R:Below w.heap.size w (w.drew.alloc (.cells ((r++t).toArray++Builtin.zeroCells z.cells (A- (n+m))) e)):=(Below.drew (Below.refl _ w)).alloc (bx _) _;have RY: ∀d j,d<n+m→j<i.size→ ∃ab u,(aZ d)[j]? =some ab∧((r++t).toArray++Builtin.zeroCells z.cells (A- (n+m)))[d*i.size+j]? =some u∧aR (w.drew.alloc (.cells ((r++t).toArray++Builtin.zeroCells z.cells (A- (n+m))) e)) (aM S ι st.k w) ab u:=fun d j k l=>by
   have W: ∀{ab:J} {u:Value},aR w (aM S ι st.k w) ab u→aR (w.drew.alloc (.cells ((r++t).toArray++Builtin.zeroCells z.cells (A- (n+m))) e)) (aM S ι st.k w) ab u:=fun gD=>gD.mono (fun _ h=>h) fun y o L=>R.cell L.2.1;have hmul:(n+m)*i.size=n*i.size+m*i.size:=hr _ _ _
   by_cases K:d<n
   ·obtain⟨ab,u,N,G,O⟩:=Si d j K l;have R_:d*i.size+j<n*i.size:=by
     have:(d+1)*i.size≤n*i.size:=hc _ K;rw[iY]at this;omega
    refine⟨ab,u,?_,?_,W O⟩
    ·have:Nat.blt d n=true:=by simpa[fU]using K
     rw[←V d k];simp only[hJ,this,aN];exact N
    ·rw[pF (by simp [D,F.newsLen];omega)];simp only[s8];rw[s7 (by omega)];exact G
   ·obtain⟨ab,u,N,G,O⟩:=Ku (d-n) j (by omega) l;have qF:(d-n)*i.size=d*i.size-n*i.size:=BF _ _ _;have asP:n*i.size≤d*i.size:=hc _ (by omega);have R_:d*i.size+j<(n+m)*i.size:=by
     have:(d+1)*i.size≤(n+m)*i.size:=hc _ k;rw[iY]at this;omega
    refine⟨ab,u,?_,?_,W O⟩
    ·have:Nat.blt d n=false:=by
      cases e:Nat.blt d n with
      |false=>rfl
      |true=>exact absurd (gW e) (by omega)
     rw[←V d k];simp only[hJ,this,aQ];exact N
    ·rw[pF (by simp [D,F.newsLen];omega)];simp only[s8];rw[BG (by omega),D];rw[qF]at G;rw[show d*i.size+j-n*i.size=d*i.size-n*i.size+j by omega];exact G
  obtain⟨iC,g3⟩:=h.FV R (b:=aA) (x:=w.heap.size) (bx _) (by simp) (f:=aZ) (n:=n+m) (M:=i.size) (c:=A) jI U (rf w.drew _) (by
   simp only[vd,pH,iF,size_zeroCells,E0,D,F.newsLen,←hr]
   congr 1;omega) (dO:=aM S ι st.k w) (fun y L=> .inl L) RY (.inl ⟨kH,pe⟩)
  subst atI;exact⟨_,_,_,X,BB _ _ _,iC,g3⟩
 cases c4 with
 |jV _ _ _ p c jH C=>
  subst C
  cases jH with
  |nil=>exact H none 0 [] (run_firstCells_none w.drew i.size 0 0 0) (by simp) (fun d j k=>by omega) (by omega) rfl
  |mt _ _ Q c=>exact H (some Q) 0 [] (Gq (P:=E.P) w.drew i.size 0 Q 0 0 [] (by simp) fun j u l=>by simp at l) (by simp) (fun d j k=>by omega) (by omega) rfl
  |arr _ _ _ q o _ aEh cv e8 iP nm h5 iK fb=>
   refine H (some ⟨q,o,none⟩) _ (rP i.size _ cv) ?_ (CI _ _ _) (fun d j k l=>⟨_,_,h5 d j k l,Hr k l,fb d j k l⟩) (by omega) rfl;refine Gq (P:=E.P) w.drew i.size _ ⟨q,o,none⟩ _ _ _ (CI _ _ _) fun j u l=> ?_;obtain⟨d,SV,k,R7,Y,Z⟩:=Hq l;rw[Addr.add_lit,Y,Z,←rh];exact iK d SV k R7
theorem amR{o:Oper}{c:Go.Call}{x y:Operand}{T D:TypeId}{t:bB}{str:Bool}(eh:o.op= .call c)(jm:c.callee= .builtin .append)(AA:c.args= #[x,y])(atB:c.argTypes= #[T,D])(jl:gu E.P T t)
  (RM:if str then E.P.underlying D=some .string else∃e,E.P.underlying D=some (.slice e)) (h:aU S ι st a w) {aA:Nat} (kH: ∀o,I st.k aA o= .undef) (pe:ι aA=none) {fY:J→bX→Prop}
  (r:nR t str st.k aA (aC st.n x) (aC st.n y) fY) {next:Act→World→Prop} {Q:Exit→Act→World→Prop}
  (V: ∀ay ab H cP ag,fY ab H→aU S ay ⟨st.n,bt st.k H⟩ a ag→bk S ay (bt st.k H) ag ab cP→(∀b,ay b≠none→ι b≠none∨ ∃p c,(b,p,c)∈H)→next (a.put o.dst cP) ag):o.wp E.P a w next Q:=by
 have F:=h.eval x;have sv:=h.eval y;have dK:=jl.d;unfold nR at r
 cases nW:t.d<;>rw[nW]at r<;>simp only at r<;>try exact r.elim
 rename_i e lG mg;rw[nW]at dK;obtain⟨Y,i,R,nq,uD,AH⟩:=dK;subst nq;subst uD;obtain⟨adG,r⟩:=aD.1 r;simp only[bY,fU]at adG;have O:i.bytes≤256:=gW adG.1;obtain⟨hg,G⟩:=Option.isSome_iff_exists.1 AH.1;have Z:hg.cells.size=i.size:=AH.2 hg G;have W: ∀u ag,(Builtin.append_ #[T,D] o.type #[a.eval x,a.eval y]).run E.P w= .ok u ag→(execOp a.eval o).run E.P w= .ok (.value u) ag:=fun u ag c4=>by
  simp [execOp,eh,resolve,jm,AA,atB,invoke,builtin,c4]
 obtain⟨m,g,news,r,hm,X,U⟩:=aBU h RM sv r
 cases ex:aC st.n x<;>rw[ex]at r F<;>simp only at r<;>try exact r.elim
 ·have xv:aR w (aM S ι st.k w) .aE (a.eval x):=F;have atP:a.eval x= .slice none 0 0:=by
   generalize a.eval x=cP at xv
   cases xv;rfl
  obtain⟨iC,g3,e5⟩:=h.Lr kH pe i.size (fun _=>[]);have asn:I (bs st.k aA 0 (.ae false i.size 0 fun _=>[])) aA 0= .ae false i.size 0 (fun _=>[]):=by rw[eK,bF ⟨rfl,rfl⟩]
  obtain⟨ay,ag,u,A,C,v,s⟩:=WM (g:=g) (aZ:=hJ 0 (fun _=>[]) g) (ty:=o.type) iC Y R G O Z (fun _ _=>rfl) asn rfl (e5 _) (by simpa using r.1) (x:=a.eval y) X (fun aeo j R6 fe=>by
   obtain⟨ab,u,hl,gh,iS⟩:=U aeo j R6 fe;exact⟨ab,u,hl,gh,iS.mono g3.hN g3.cell⟩)
  rw[←atP]at A;have EH:hJ 0 (fun _=>[]) g=g:=by
   funext j
   have L:Nat.blt j 0=false:=by cases j<;>rfl
   simp only[hJ,L,aQ,Nat.sub_zero]
  have J0:bs (bs st.k aA 0 (.ae false i.size 0 fun _=>[])) aA 0 (.ae false i.size (0+m) (hJ 0 (fun _=>[]) g))=bs st.k aA 0 (.ae false i.size m g):=by
   rw[EH,cN];simp only[bs];have: ∀{α:Type} (d:α) (l:List α) (k:Nat) (p q:α),setAt d (setAt d l k p) k q=setAt d l k q:=fun {α} d l k p q=>by
    induction l generalizing k with
    |nil=>induction k with
     |zero=>rfl
     |succ k lX=>simp [setAt,lX]
    |cons y l lX=>cases k with
     |zero=>rfl
     |succ k=>simp [setAt,lX]
   have L:(setAt [] st.k aA (setAt .undef (st.k.getD aA []) 0 (.ae false i.size 0 fun _=>[]))).getD aA []=setAt .undef (st.k.getD aA []) 0 (.ae false i.size 0 fun _=>[]):=by rw[o_,bF rfl]
   rw[L,this,this]
  simp only at v s;rw[J0]at v s;rw[cN]at s;exact dk (W _ _ A) (V ay _ _ u ag r.2 v s fun b B=>(C b B).imp id fun e=>⟨0,.ae false i.size m g,by subst e;simp⟩)
 ·rename_i b k
  cases e:I st.k b 0<;>rw[e]at r<;>simp only at r
  rename_i ro mT n f;obtain⟨z,EJ,N,aZ,P,M⟩:=aD.1 r;simp only[bY,iX,jP]at z;obtain⟨rfl,rfl⟩:=z;obtain⟨ay,ag,u,A,C,v,s⟩:=WM (g:=g) (aZ:=aZ) (ty:=o.type) h Y R G O Z P e EJ F N (x:=a.eval y) X U;exact dk (W _ _ A) (V ay _ _ u ag M v s fun K B=>(C K B).imp id fun e=>⟨0,.ae false i.size (n+m) aZ,by subst e;simp⟩)
 ·rename_i mT n f;obtain⟨z,as7,N,aZ,P,M⟩:=aD.1 r;have z:=aq z;subst z;obtain⟨ay,ag,u,A,C,v,s⟩:=amQ (g:=g) (aZ:=aZ) (ty:=o.type) h Y R G O Z P kH pe F as7 N (x:=a.eval y) X U;exact dk (W _ _ A) (V ay _ _ u ag M v s fun K B=>(C K B).imp id fun e=>⟨0,.ae false i.size (n+m) aZ,by subst e;simp⟩)
end
def ahj(ρ:Nat→Nat):J→J
 | .ptr b o=> .ptr (ρ b) o
 |x=>x
def ff(ρ:Nat→Nat):J→J
 | .own b k=> .own (ρ b) k
 | .ptr b o=> .ptr (ρ b) o
 | .fl b k i o=> .fl (ρ b) k i o
 | .fn f a=> .fn f (a.map (ahj ρ))
 |x=>x
def kP(ρ:Nat→Nat):J→J
 | .agg cs=> .agg (cs.map (ff ρ))
 |x=>ff ρ x
def pZ(D:Nat→Bool):J→Bool
 | .ptr b _=>D b
 |x=>mW x
def mZ(D:Nat→Bool):J→Bool
 | .own b _=>D b
 | .ptr b _=>D b
 | .fl b _ _ _=>D b
 | .fn _ a=>a.all (pZ D)
 |_=>true
def vG(D:Nat→Bool):J→Bool
 | .agg cs=>cs.all (mZ D)
 | .c9 _=>false
 | .gone=>false
 |x=>mZ D x
def pos:List Nat→Nat→Nat
 |[],_=>0
 |x::l,b=>match Nat.beq x b with
  |true=>0
  |false=>pos l b+1
def mem(l:List Nat)(b:Nat):Bool:=l.any fun x=>Nat.beq x b
def dedup:List Nat→List Nat
 |[]=>[]
 |x::l=>match mem l x with
  |true=>dedup l
  |false=>x::dedup l
def Uv:J→List Nat
 | .ptr b _=>[b]
 |_=>[]
def ag2:J→List Nat
 | .ptr b _=>[b]
 | .fn _ a=>a.flatMap Uv
 |_=>[]
def ag3:J→List Nat
 | .agg cs=>cs.flatMap ag2
 |x=>ag2 x
def LK:J→List Nat
 | .own b _=>[b]
 |_=>[]
def W0(aa:List J):List Nat:=dedup (aa.flatMap ag3)
def Cb(H:Heap)(aa:List J):List Nat:=dedup (W0 aa++(W0 aa).flatMap fun b=>(H.getD b []).flatMap Uv)
def azE:J→List Nat
 | .agg cs=>cs.flatMap LK
 |x=>LK x
def dS(H:Heap)(aa:List J):List Nat:=Cb H aa++dedup (((Cb H aa).flatMap fun b=>(H.getD b []).flatMap LK)++aa.flatMap azE)
def nodup:List Nat→Bool
 |[]=>true
 |x::l=> !(mem l x)&&nodup l
def x0(l:List J):Bool:=
 match l with
 |[]=>false
 |x::r=>match x with
  | .ae a _ _ _=> !a&&r.isEmpty
  |x=>(x::r).all (fun c=> !(ch c))&&(x::r).any oE
def pz:List Nat→Heap→Heap→Bool
 |[],_,a=>a.all fun y=> !(y.isEmpty)
 |b::l,H,a=>match a with
  |[]=>false
  |y::a=>Nat.beq (H.getD b []).length y.length&&pz l H a
def rF(a:Nat→Nat):Nat→Heap→bX
 |_,[]=>[]
 |i,l::r=>hL (a i) (l.map (ff a)) 0++rF a (i+1) r
def dn:J:= .ae true 0 (dm+1) fun _=>[]
def sZ(L:List Nat)(aA i:Nat):Nat:=L.getD i (aA+(i-L.length))
def Mg:List J→J
 |[x]=>x
 |a=> .c9 a
def pn(n:Nat)(b:Nat):Bool:=Nat.blt b n
def adC(aa:List J):Bool:= !((aa.flatMap ag3).isEmpty)
def np(E:Env)(H:Heap)(aA:Nat)(f:FuncId)(aa:List J)(K:J→bX→Prop):Prop:=
 c2 (nodup (dS H aa)&&(dS H aa).all (fun b=>x0 (H.getD b [])&&(H.getD b []).all (mZ (mem (dS H aa))))&&aa.all (vG (mem (dS H aa))))
  (match E.nr f (aa.map (kP (pos (dS H aa)))) ((dS H aa).map fun b=>(H.getD b []).map (ff (pos (dS H aa))))with
  |some (a,rs,al)=>nC a (c2 (!(al.isEmpty)&&pz (dS H aa) H al&&al.all (fun l=>l.all (mZ (pn al.length)))&&rs.all (fun r=>vG (pn al.length) r&&nH r))
    (K (Mg (rs.map (kP (sZ (dS H aa) aA)))) (rF (sZ (dS H aa) aA) 0 al)))
  |none=>False)
end Go.ah
namespace Go.ah
open Go Go.ChangeShapes Go.RowKit Go.WideShapes
theorem xM{P:Program}{f:FuncId}{a:Func}{s:ChangeSpec}{c:OpenClaim}
  (b:c.wf (OpenSpec.ofChange s)=true) (p:laidOutB P=true) (C:mapsRowed P=true)
  (G:a.params.all (P.readableRec ·)=true) (H:namedTie P c.named s.vars=true)
  (I:(c.stops==[])=true) (J:(P.stops==[])=true) (K:(c.knobs==[])=true) (L:(P.stopKnobs==[])=true)
  (d:(c.inPlace==P.inPlace f)=true) (e:(c.unfollowed==P.unfollowed f)=true) (g:(c.recurses==P.recurses f)=true) (h:(c.named==P.varsNamed f)=true)
  (i:(c.maps==(a.params.toList++s.plain.varTypes P).any (P.mapsRec ·))=true) (j:(c.ifaces==(a.params.toList++s.plain.varTypes P).any (P.ifacesRec ·))=true) (l:(c.mapsOut==P.mapsAmong a.resultTypes.toList)=true)
  (m:(c.loops==(a.params.toList++s.plain.varTypes P).any (P.loopsFrom ·))=true) (n:(c.wideKeys==(a.params.toList++s.plain.varTypes P++a.resultTypes.toList).any (P.wideKeysFrom ·))=true)
  (o:s.vars.all (P.varReadable ·)=true) (q:a.resultTypes.all (fun t=>P.readableRec t&&decide (t<P.types.size))=true) (r:(c.ifacesOut==a.resultTypes.toList.any (P.ifacesRec ·))=true) (u:(c.loopsOut==a.resultTypes.toList.any (P.loopsFrom ·))=true)
  (v:(c.plainKeys==P.plainKeys)=true) (w:c.shortTexts.isNone=true) (x:P.stopsHeard=true) (y:P.mayEnter=true) (z:(c.lifted==P.liftsFinal)=true) (A:(P.make==some c.make)=true)
  (B:(c.kinds==(if c.domain.isEmpty then[]else a.params.toList.map fun t=>match P.underlying t with|some (.int k)=>some k|_=>none))=true) (D:(c.pinned==c.pinnedBy)=true)
  (E:(c.veiled==(a.params.toList++s.plain.varTypes P++a.resultTypes.toList).any (P.veiledRec ·))=true) (F:c.veiledFits P a.params.toList (a.params.toList++s.plain.varTypes P++a.resultTypes.toList)=true):
  joinedFacts P f a s c=true:=by
 unfold joinedFacts;simp only[bY];exact⟨⟨⟨⟨⟨⟨⟨⟨⟨⟨⟨⟨⟨⟨⟨⟨⟨⟨⟨⟨⟨⟨⟨⟨⟨⟨⟨⟨⟨⟨⟨b,p⟩,C⟩,G⟩,H⟩,I⟩,J⟩,K⟩,L⟩,d⟩,e⟩,g⟩,h⟩,i⟩,j⟩,l⟩,m⟩,n⟩,o⟩,q⟩,r⟩,u⟩,v⟩,w⟩,x⟩,y⟩,z⟩,A⟩,B⟩,D⟩,E⟩,F⟩
end Go.ah
namespace Go.ah
open Go Go.RowKit
section
variable {P:Program}
theorem L3(w:World)(e u x f:TypeId)(i:TypeInfo)(b o c g:Nat)(a:Addr)(d t:Nat)(cs:List Value)
  (s:P.underlying e=some (.slice f)) (m:P.info? f=some i) (p:cs.length=Nat.min d c*i.size)
  (q: ∀j v,cs[j]? =some v→w.cell? (a.add j)=some v) (k: ∀j,j<cs.length→(w.cell? ⟨b,o+j,none⟩).isSome=true) (l: ∀j,j<cs.length→w.frozen? ⟨b,o+j,none⟩=false) (h: ∀v∈cs,v.oneCell'=true):
  (Builtin.copy_ #[e,u] x #[.slice (some ⟨b,o,none⟩) c g,.slice (some a) d t]).run P w= .ok (goInt (Nat.min d c)) (w.setCells b o cs):=by
 have n:=Mq (P:=P) w a cs q;have r:=run_storeCells_cells (P:=P) b o cs 0 w (by simpa using k) (by simpa using l) h;simp [Builtin.copy_,e3 s,Builtin.lenOf,Builtin.firstCells,sizeOf,typeInfo,m,←p,n,r]
theorem ahv(w:World)(t e p:TypeId)(z:Value)(i:P.underlying t=some (.slice e))(k: ∀w,(zeroValue e).run P w= .ok z w)(b o n c:Nat)(q:0<n)(a:List Value)(l:(Builtin.zeroCells z.cells n).toList=a)(f: ∀v∈a,v.oneCell'=true)
  (g: ∀j,j<a.length→(w.cell? ⟨b,o+j,none⟩).isSome=true) (h: ∀j,j<a.length→w.frozen? ⟨b,o+j,none⟩=false):
  (Builtin.clear_ #[t] p #[.slice (some ⟨b,o,none⟩) n c]).run P w= .ok (.tuple #[]) (w.setCells b o a):=by
 have d:=run_storeCells_cells (P:=P) b o a 0 w (by simpa using g) (by simpa using h) f;simp only[lA]at d;obtain⟨m,rfl⟩: ∃m,n=m+1:=⟨n-1,by omega⟩;simp [Builtin.clear_,e3 i,k,l,d]
end
end Go.ah
namespace Go.ah
open Go Go.Lib Go.Proofs Go.RowKit Go.Shelf
section
variable {P:Program} {ρ:Ren}
structure pN (P:Program) (ρ:Ren) (k bytes:Nat) (z:Value):Prop where
 mixed:P.follows .mixedOrders=true
 F:Bears P (ρ.f 22) (Body2.n22 ρ)
 t3:P.underlying (ρ.t 3)=some (TypeDesc.int i64)
 t24:P.underlying (ρ.t 24)=some (TypeDesc.slice (ρ.t 9))
 z9: ∀w,(Go.sizeOf (ρ.t 9)).run P w= .ok k w
 i9:(P.info? (ρ.t 9)).map (fun i=>(i.zero,i.size,i.bytes))=some (some z,k,bytes)
 azB: ∀(w:World) (dN b o m aC_ l anl:Nat) (aCc aCd:TypeId) (afm y:Nat),dN≠b→w.shape? dN=some (aCc,afm)→w.shape? b=some (aCd,y)→y≠0→w.frozen? ⟨dN,0,none⟩=false→w.frozen? ⟨dN,afm,none⟩=false→
  (callFunc (ρ.f 29) #[.slice (some ⟨dN,0,none⟩) m aC_,.slice (some ⟨b,o,none⟩) l anl]).run P w= .ok (.value (.bool false)) w
set_option maxHeartbeats 4000000 in
set_option maxRecDepth 100000 in
theorem aug{k bytes:Nat}{cP:Value}(L:pN P ρ k bytes cP)(b n c i dN o:Nat)(cs g:List Value)(w:World)(iQ:i<n)(EO:n+1≤c)(AK:n≤549755813888)(F:dN≠b)
  (O:cs.length=n*k) (xt:g.length=k)
  (R: ∀j v,cs[j]? =some v→w.cell? ⟨b,j,none⟩=some v) (r: ∀j,j<(n+1)*k→(w.cell? ⟨b,j,none⟩).isSome=true) (C: ∀j,w.frozen? ⟨b,j,none⟩=false)
  (pd: ∀j v,g[j]? =some v→w.cell? ⟨dN,j,none⟩=some v) (K: ∀v∈cs,v.oneCell'=true) (M: ∀v∈g,v.oneCell'=true)
  (I J:TypeId) (H y:Nat) (U:w.shape? dN=some (I,H)) (V:w.shape? b=some (J,y)) (S:y≠0) (B: ∀j,w.frozen? ⟨dN,j,none⟩=false):
  Calls P (ρ.f 22) #[.slice (some ⟨b,0,none⟩) n c,.int .i64 i,.slice (some ⟨dN,0,none⟩) 1 o] w fun e ag=>
   e= .returned (.slice (some ⟨b,0,none⟩) (n+1) c)∧ag=(w.drew.setCells b (i*k+k) (cs.drop (i*k))).setCells b (i*k) g:=by
 have aCY:=e3 L.t3;have aCX:=e3 L.t24;have mixed:=L.mixed;have t3:=L.t3;have t24:=L.t24;have z9:=L.z9;have atS: ¬((i:Int)=(n:Int)):=by omega
 obtain⟨G,D,jH,E,_⟩:=info_parts L.i9;have T: ∀s p,(callFunc (ρ.f 29) #[.slice (some ⟨dN,0,none⟩) 1 o,.slice (some ⟨b,i*k+k,none⟩) s p]).run P w= .ok (.value (.bool false)) w:=fun s p=>L.azB w dN b _ 1 o s p I J H y F U V S (B _) (B _);have q:(cs.drop (i*k)).length=(n-i)*k:=by rw[rj,O,BF]
 have atK:i64.wrap ((i:Int)+1)=(i:Int)+1:=by rw[IntKind.wrap_i64];omega
 have atL:i64.wrap ((n:Int)+1)=(n:Int)+1:=by rw[IntKind.wrap_i64];omega
 have asg:(0:Int)≤(i:Int)+1:=by omega
 have sr:i≤n:=by omega
 have atA:((i:Int)+1).toNat=i+1:=by omega
 have SA:((n:Int)+1).toNat=n+1:=by omega
 have AD: ¬(c=i+1):=by omega
 have asi:(i:Int)≤(n:Int)+1:=by omega
 have aEN: ¬(c=i):=by omega
 have aEO: ¬((c:Int)<(n:Int)+1):=by omega
 have hmul:(i+1)*k+(n-i)*k=(n+1)*k:=by rw[←hr];congr 1;omega
 have asU:(i+1)*k=i*k+k:=iY _ _;have ad6:(n+1)*k=n*k+k:=iY _ _;have A: ∀f d u,(Builtin.copy_ #[(ρ.t 24),(ρ.t 24)] f #[.slice (some ⟨b,i*k+k,none⟩) (n-i) d,.slice (some ⟨b,i*k,none⟩) (n+1-i) u]).run P w.drew= .ok (goInt (Nat.min (n+1-i) (n-i))) (w.drew.setCells b (i*k+k) (cs.drop (i*k))):=fun f d u=>
  L3 w.drew _ _ f (ρ.t 9) G b (i*k+k) (n-i) d ⟨b,i*k,none⟩ (n+1-i) u (cs.drop (i*k)) L.t24 D (by rw[q,E,show Nat.min (n+1-i) (n-i)=n-i by simp only[Nat.min_def];split<;>omega])
   (fun j v a=>by rw[Addr.add_lit];exact R (i*k+j) v (by rwa [ht]at a))
   (fun j a=>r _ (by rw[q]at a;omega)) (fun j a=>C _) (fun v Z=>K v (Gp Z))
 obtain⟨l,m⟩: ∃l,l=w.drew.setCells b (i*k+k) (cs.drop (i*k)):=⟨_,rfl⟩;have X: ∀t,t<(n+1)*k→(l.cell? ⟨b,t,none⟩).isSome=true:=fun t Y=>by
  rw[m];exact isSome_setCells b (cs.drop (i*k)) (i*k+k) w.drew (fun j a=>r _ (by rw[q]at a;omega)) _ (r t Y)
 have Q: ∀(W:World),(∀x,W.cell? x=l.cell? x)→(∀x,W.frozen? x=l.frozen? x)→ ∀f d,(Builtin.copy_ #[(ρ.t 24),(ρ.t 24)] f #[.slice (some ⟨b,i*k,none⟩) (n+1-i) d,.slice (some ⟨dN,0,none⟩) 1 o]).run P W= .ok (goInt (Nat.min 1 (n+1-i))) (W.setCells b (i*k) g):=fun W z N f d=>
  L3 W _ _ f (ρ.t 9) G b (i*k) (n+1-i) d ⟨dN,0,none⟩ 1 o g L.t24 D (by rw[xt,E,show Nat.min 1 (n+1-i)=1 by simp only[Nat.min_def];split<;>omega,Nat.one_mul])
   (fun j v a=>by
    rw[Addr.add_lit,cN,z,m,World.cell?_setCells_out b _ _ _ _ (fun h _=>absurd h F)];exact pd j v a)
   (fun j a=>by rw[z];exact X _ (by
    have:(i+1)*k≤(n+1)*k:=hc k (by omega);omega)) (fun j a=>by rw[N,m,World.frozen?_setCells];exact C _) M
 rw[←m]at A;obtain⟨_,_,nM⟩:=L.F
 go_enter nM,Body2.n22_ntmps ρ
 go_wp2_with (simp only[T])
 go_region_law_o (refine step_copy_runI rfl _ _ (ρ.t 24) (ρ.t 24) rfl _ _ (by simp [Act.eval,Act.put]) (by simp [Act.eval,Act.put]) (A _ _ _) ?_)
 go_wp2_with (at_builtin;refine wpList_copy_runI _ rfl _ _ (ρ.t 24) (ρ.t 24) rfl _ _ rfl rfl (Q _ (fun _=>rfl) (fun _=>rfl) _ _) ?_)
 go_ret
 first|exact⟨rfl,rfl⟩|exact⟨rfl,by rw[m]⟩
set_option maxHeartbeats 4000000 in
set_option maxRecDepth 100000 in
theorem aue{k bytes:Nat}{z:Value}(L:pN P ρ k bytes z)(b n c dN d:Nat)(a:List Value)(w:World)(q:n+1≤c)(t:a.length=k)
  (r: ∀j,j<(n+1)*k→(w.cell? ⟨b,j,none⟩).isSome=true) (o: ∀j,w.frozen? ⟨b,j,none⟩=false) (x: ∀j v,a[j]? =some v→w.cell? ⟨dN,j,none⟩=some v) (m: ∀v∈a,v.oneCell'=true):
  Calls P (ρ.f 22) #[.slice (some ⟨b,0,none⟩) n c,.int .i64 n,.slice (some ⟨dN,0,none⟩) 1 d] w fun e ag=>
   e= .returned (.slice (some ⟨b,0,none⟩) (n+1) c)∧ag=w.setCells b (n*k) a:=by
 have E:=e3 L.t3;have D:=e3 L.t24;have mixed:=L.mixed;have C:=L.t3;have B:=L.t24;have F:=L.z9;obtain⟨h,p,y,g,_⟩:=info_parts L.i9;have s:Src P h.size (ρ.t 24) (.slice (some ⟨dN,0,none⟩) 1 d) 1 a w:=Src.ofSlice w L.t24 ⟨dN,0,none⟩ 1 d a (by rw[t,g,Nat.one_mul]) (fun j u f=>by rw[Addr.add_lit,cN];exact x j u f) m;have A:(n+1)*k=n*k+k:=iY _ _;have l: ∀i,(Builtin.append_ #[ρ.t 24,ρ.t 24] i #[.slice (some ⟨b,0,none⟩) n c,.slice (some ⟨dN,0,none⟩) 1 d]).run P w= .ok (.slice (some ⟨b,0,none⟩) (n+1) c) (w.setCells b (0+n*h.size) a):=fun i=>
  run_append_room_src w (ρ.t 24) (ρ.t 24) i (ρ.t 9) h L.t24 p b 0 n c _ 1 a s q (fun j f=>by rw[g,cN];exact r _ (by omega)) (fun j f=>o _)
 rw[g,cN]at l;obtain⟨_,_,nM⟩:=L.F
 go_enter nM,Body2.n22_ntmps ρ
 go_wp2_with (at_builtin;refine Lib.wpList_append_run _ rfl _ _ _ _ rfl _ _ rfl rfl _ _ (l _) ?_)
 go_ret
 exact⟨rfl,rfl⟩
set_option maxHeartbeats 4000000 in
set_option maxRecDepth 100000 in
theorem aew{k bytes:Nat}{z:Value}(L:pN P ρ k bytes z)(base:Option Addr)(n c dN f:Nat)(cs b:List Value)(w:World)(K:n≤c)(s:c<n+1)(y:(n+1)*bytes≤140737488355328)(J:n≤549755813888)
  (g:cs.length=n*k) (E:b.length=k) (r:base=none→n=0)
  (A: ∀a,base=some a→ ∀j v,cs[j]? =some v→w.cell? (a.add j)=some v) (F: ∀j v,b[j]? =some v→w.cell? ⟨dN,j,none⟩=some v) (t: ∀v∈b,v.oneCell'=true):
  Calls P (ρ.f 22) #[.slice base n c,.int .i64 n,.slice (some ⟨dN,0,none⟩) 1 f] w fun e ag=>
   e= .returned (.slice (some ⟨w.heap.size,0,none⟩) (n+1) (grownCap w (n+1) c (ρ.t 9)))∧
   ag=w.drew.alloc (.cells ((cs++b).toArray++Builtin.zeroCells z.cells (grownCap w (n+1) c (ρ.t 9)- (n+1))) (ρ.t 9)):=by
 have Q:=e3 L.t3;have O:=e3 L.t24;have mixed:=L.mixed;have N:=L.t3;have M:=L.t24;have R:=L.z9;obtain⟨l,B,d,q,x⟩:=info_parts L.i9;have D:Src P l.size (ρ.t 24) (.slice (some ⟨dN,0,none⟩) 1 f) 1 b w:=Src.ofSlice w L.t24 ⟨dN,0,none⟩ 1 f b (by rw[E,q,Nat.one_mul]) (fun j u h=>by rw[Addr.add_lit,cN];exact F j u h) t;have C:(Builtin.firstCells l.size n (.slice base n c)).run P w.drew= .ok cs.toArray w.drew:=by
  rw[q]
  cases base with
  |none=>
   have d:=r rfl;subst d;rw[Nat.zero_mul]at g;rw[Gl.1 g];exact run_firstCells_none w.drew k 0 0 c
  |some a=>exact Gq w.drew k n a n c cs g (fun j v h=>A a rfl j v h)
 have i: ∀m,(Builtin.append_ #[(ρ.t 24),(ρ.t 24)] m #[.slice base n c,.slice (some ⟨dN,0,none⟩) 1 f]).run P w=_:=fun m=>
  run_append_grow_src w (ρ.t 24) (ρ.t 24) m (ρ.t 9) l _ L.t24 B d base n c cs C _ 1 b D s (by omega) (by rw[x];exact growslice_fits s y)
 obtain⟨o,p⟩: ∃o:Array Value,o=(cs++b).toArray++Builtin.zeroCells z.cells (grownCap w (n+1) c (ρ.t 9)- (n+1)):=⟨_,rfl⟩;rw[←p]at i ⊢;clear p;obtain⟨_,_,nM⟩:=L.F
 go_enter nM,Body2.n22_ntmps ρ
 cases base with
 |none=>
  have d:=r rfl;subst d
  go_wp2_with (at_builtin;refine Lib.wpList_append_run _ rfl _ _ _ _ rfl _ _ rfl rfl _ _ (i _) ?_)
  go_ret
  exact⟨rfl,rfl⟩
 |some a=>
  obtain⟨G,H,I⟩:=a
  go_wp2_with (at_builtin;refine Lib.wpList_append_run _ rfl _ _ _ _ rfl _ _ rfl rfl _ _ (i _) ?_)
  all_goals (go_ret;exact⟨rfl,rfl⟩)
set_option maxHeartbeats 4000000 in
set_option maxRecDepth 100000 in
theorem auf{k bytes:Nat}{z:Value}(L:pN P ρ k bytes z)(Kt:0<k)(xx: ∀m,(Builtin.zeroCells z.cells m).size=m*k)(b n c i dN I:Nat)(cs f:List Value)(w:World)(iQ:i<n)(mD:n≤c)(EO:c<n+1)(jI:(n+1)*bytes≤140737488355328)(AK:n≤549755813888)
  (K:cs.length=n*k) (xt:f.length=k) (C: ∀j v,cs[j]? =some v→w.cell? ⟨b,j,none⟩=some v)
  (R: ∀j v,f[j]? =some v→w.cell? ⟨dN,j,none⟩=some v) (T: ∀v∈cs,v.oneCell'=true) (U: ∀v∈f,v.oneCell'=true):
  Calls P (ρ.f 22) #[.slice (some ⟨b,0,none⟩) n c,.int .i64 i,.slice (some ⟨dN,0,none⟩) 1 I] w fun e ag=>
   e= .returned (.slice (some ⟨w.heap.size,0,none⟩) (n+1) (grownCap w (n+1) c (ρ.t 9)))∧
   ag=(((w.alloc (.cells ((cs.take (i*k)).toArray++Builtin.zeroCells z.cells (n+1-i)++Builtin.zeroCells z.cells (grownCap w (n+1) c (ρ.t 9)- (n+1))) (ρ.t 9))).drew.setCells w.heap.size (i*k) f).drew).setCells w.heap.size (i*k+k) (cs.drop (i*k)):=by
 have aCY:=e3 L.t3;have aCX:=e3 L.t24;have mixed:=L.mixed;have t3:=L.t3;have t24:=L.t24;have z9:=L.z9;obtain⟨u,D,xw,F,S⟩:=info_parts L.i9;have atS: ¬((i:Int)=(n:Int)):=by omega
 have aFj:(c:Int)<(n:Int)+1:=by omega
 have ad6:(n+1)*k=n*k+k:=iY _ _;have aEW:i*k+(n-i)*k=n*k:=by rw[←hr];congr 1;omega
 have Kz:0<(n-i)*k:=Nat.mul_pos (by omega) Kt;have aso:b<w.heap.size:=block_lt_of_cell (C 0 _ (cT (by omega)));have atJ:dN<w.heap.size:=block_lt_of_cell (R 0 _ (cT (by omega)));have O:(n:Int)+1- (i:Int)=((n+1-i:Nat):Int):=by omega
 have E:i+(n+1-i)=n+1:=by omega
 have Q:(Builtin.firstCells u.size i (.slice (some ⟨b,0,none⟩) i c)).run P w.drew= .ok (cs.take (i*k)).toArray w.drew:=by
  rw[F];exact Gq w.drew k i ⟨b,0,none⟩ i c (cs.take (i*k)) (by rw[nJ];omega) (fun j v d=>by
   rw[Addr.add_lit,cN];rw[lv]at d
   split at d
   ·exact C j v d
   ·cases d)
 have s: ∀g,(Builtin.append_ #[(ρ.t 24),(ρ.t 3)] g #[.slice (some ⟨b,0,none⟩) i c,.int .i64 ((n:Int)+1- (i:Int))]).run P w=
   .ok (.slice (some ⟨w.heap.size,0,none⟩) (n+1) (grownCap w (n+1) c (ρ.t 9))) (w.drew.alloc (.cells ((cs.take (i*k)).toArray++Builtin.zeroCells z.cells (n+1-i)++Builtin.zeroCells z.cells (grownCap w (n+1) c (ρ.t 9)- (n+1))) (ρ.t 9))):=fun g=>by
  have hle:(n+1-i)*bytes≤(n+1)*bytes:=hc _ (by omega);have h:=Lib.run_append_grow_zeros w (ρ.t 24) (ρ.t 3) g (ρ.t 9) u _ .i64 .i64 L.t24 L.t3 D xw (some ⟨b,0,none⟩) i c (cs.take (i*k)) Q (n+1-i) (by omega) (by omega) (by omega) (by omega) (by rw[S];omega) (by rw[S,E];exact growslice_fits EO jI);rw[E]at h;rw[O];exact h
 obtain⟨G,r⟩: ∃G,G=grownCap w (n+1) c (ρ.t 9):=⟨_,rfl⟩;obtain⟨a,A⟩: ∃a:Array Value,a=(cs.take (i*k)).toArray++Builtin.zeroCells z.cells (n+1-i)++Builtin.zeroCells z.cells (G- (n+1)):=⟨_,rfl⟩;rw[←r]at s ⊢;rw[←A]at s ⊢;have ar7:(n+1)*k≤a.size:=by
  rw[A];simp only[vd,pH,nJ,xx,K];have:(n+1-i)*k=(n-i)*k+k:=by rw[show n+1-i=n-i+1 by omega];exact iY _ _
  omega
 obtain⟨l,p⟩: ∃l,l=w.drew.alloc (.cells a (ρ.t 9)):=⟨_,rfl⟩;rw[←p]at s;have y: ∀j,j<(n+1)*k→(l.cell? ⟨w.heap.size,j,none⟩).isSome=true:=fun j d=>by
  rw[p,World.cell?_alloc_at (w:=w.drew) a _ w.heap.size j rfl,pG (by omega)];rfl
 have J: ∀j,l.frozen? ⟨w.heap.size,j,none⟩=false:=fun j=>by rw[p];exact World.frozen?_alloc_at (w:=w.drew) a _ w.heap.size j rfl
 have ar2: ∀j v,w.cell? ⟨b,j,none⟩=some v→l.cell? ⟨b,j,none⟩=some v:=fun j v h=>by rw[p,World.cell?_alloc_past (w:=w.drew) _ b j aso];exact h
 have ar3: ∀j v,w.cell? ⟨dN,j,none⟩=some v→l.cell? ⟨dN,j,none⟩=some v:=fun j v h=>by rw[p,World.cell?_alloc_past (w:=w.drew) _ dN j atJ];exact h
 have asA: ∀(W:World),(∀x,W.cell? x=l.cell? x)→(∀x,W.frozen? x=l.frozen? x)→ ∀g o,(Builtin.copy_ #[(ρ.t 24),(ρ.t 24)] g #[.slice (some ⟨w.heap.size,i*k,none⟩) (n+1-i) o,.slice (some ⟨dN,0,none⟩) 1 I]).run P W= .ok (goInt (Nat.min 1 (n+1-i))) (W.setCells w.heap.size (i*k) f):=fun W q B g o=>
  L3 W _ _ g (ρ.t 9) u w.heap.size (i*k) (n+1-i) o ⟨dN,0,none⟩ 1 I f L.t24 D (by rw[xt,F,show Nat.min 1 (n+1-i)=1 by simp only[Nat.min_def];split<;>omega,Nat.one_mul])
   (fun j v d=>by rw[Addr.add_lit,q,cN];exact ar3 _ v (R j v d))
   (fun j d=>by rw[q];exact y _ (by omega)) (fun j d=>by rw[B];exact J _) U
 have aED:n+1≤G:=by rw[r];exact vc w _ _ _
 have aEz:G≤9223372036854775807:=by
  have:=grownCap_le_maxLen w (n+1) c (ρ.t 9) (by unfold maxLen;omega);rw[←r]at this;unfold maxLen at this;omega
 have aEA: ¬(G=i):=by omega
 have aEB: ¬(G=i+1):=by omega
 have aEQ: ¬(c=i):=by omega
 have asj:b≠w.heap.size:=by omega
 have N:(cs.drop (i*k)).length=(n-i)*k:=by rw[rj,K];omega
 have M: ∀(W:World),(∀x,W.cell? x=(l.setCells w.heap.size (i*k) f).cell? x)→(∀x,W.frozen? x=(l.setCells w.heap.size (i*k) f).frozen? x)→ ∀g o H,(Builtin.copy_ #[(ρ.t 24),(ρ.t 24)] g #[.slice (some ⟨w.heap.size,i*k+k,none⟩) (n-i) o,.slice (some ⟨b,i*k,none⟩) (n-i) H]).run P W= .ok (goInt (Nat.min (n-i) (n-i))) (W.setCells w.heap.size (i*k+k) (cs.drop (i*k))):=fun W q B g o H=>
  L3 W _ _ g (ρ.t 9) u w.heap.size (i*k+k) (n-i) o ⟨b,i*k,none⟩ (n-i) H (cs.drop (i*k)) L.t24 D (by rw[N,F,show Nat.min (n-i) (n-i)=n-i by simp])
   (fun j v d=>by
    rw[Addr.add_lit,q,World.cell?_setCells_out _ _ _ _ _ (fun h _=>absurd h asj)];exact ar2 _ v (C (i*k+j) v (by rwa [ht]at d)))
   (fun j d=>by rw[q];exact isSome_setCells _ _ _ _ (fun t ia=>y _ (by omega)) _ (y _ (by rw[N]at d;omega)))
   (fun j d=>by rw[B,World.frozen?_setCells];exact J _) (fun v c4=>T v (Gp c4))
 subst p;have V: ∀x,((w.alloc (.cells a (ρ.t 9))).drew).cell? x=(w.drew.alloc (.cells a (ρ.t 9))).cell? x:=fun x=>rfl;have X: ∀x,((w.alloc (.cells a (ρ.t 9))).drew).frozen? x=(w.drew.alloc (.cells a (ρ.t 9))).frozen? x:=fun x=>rfl;have Y: ∀x,(((w.alloc (.cells a (ρ.t 9))).drew.setCells w.heap.size (i*k) f).drew).cell? x=((w.drew.alloc (.cells a (ρ.t 9))).setCells w.heap.size (i*k) f).cell? x:=fun x=>rfl;have Z: ∀x,(((w.alloc (.cells a (ρ.t 9))).drew.setCells w.heap.size (i*k) f).drew).frozen? x=((w.drew.alloc (.cells a (ρ.t 9))).setCells w.heap.size (i*k) f).frozen? x:=fun x=>rfl;have atK:i64.wrap ((i:Int)+1)=(i:Int)+1:=by rw[IntKind.wrap_i64];omega
 have atL:i64.wrap ((n:Int)+1)=(n:Int)+1:=by rw[IntKind.wrap_i64];omega
 have aFg:i64.wrap ((n:Int)+1- (i:Int))=(n:Int)+1- (i:Int):=by rw[IntKind.wrap_i64];omega
 have asg:(0:Int)≤(i:Int)+1:=by omega
 have sr:i≤n:=by omega
 have atA:((i:Int)+1).toNat=i+1:=by omega
 have asi:(i:Int)≤(n:Int):=by omega
 clear O E Q A r ar7;obtain⟨_,_,nM⟩:=L.F
 go_enter nM,Body2.n22_ntmps ρ
 go_wp2_with (first
  |(at_builtin;refine Lib.wpList_append_run _ rfl _ _ _ _ rfl _ _ rfl rfl _ _ (s _) ?_)
  |(at_builtin;refine wpList_copy_runI _ rfl _ _ (ρ.t 24) (ρ.t 24) rfl _ _ rfl rfl (asA _ V X _ _) ?_)
  |(at_builtin;refine wpList_copy_runI _ rfl _ _ (ρ.t 24) (ρ.t 24) rfl _ _ rfl rfl (M _ (fun _=>rfl) (fun _=>rfl) _ _ _) ?_))
 go_region_law_o (refine step_copy_runI rfl _ _ (ρ.t 24) (ρ.t 24) rfl (.slice (some ⟨w.heap.size,i*k+k,none⟩) (n-i) (G- (i+1))) (.slice (some ⟨b,i*k,none⟩) (n-i) (c-i)) (by simp [Act.eval,Act.put,hr]) (by simp [Act.eval,Act.put]) (M _ Y Z (ρ.t 3) (G- (i+1)) (c-i)) ?_)
 go_wp2
 go_ret
 exact⟨rfl,rfl⟩
end
end Go.ah
namespace Go.ah
open Go Go.Lib Go.Proofs Go.RowKit Go.Shelf Go.Sort
section
variable {P:Program} {ρ:Ren}
set_option maxHeartbeats 4000000 in
set_option maxRecDepth 1000000 in
theorem an6(k:Nat)(mixed:P.follows .mixedOrders=true)(F:Bears P (ρ.f 45) (SlBodyN.n45 ρ))
  (K:P.underlying (ρ.t 22)=some (TypeDesc.slice (ρ.t 23)))
  (aFM: ∀w,(Go.sizeOf (ρ.t 23)).run P w= .ok k w) (z:Value) (V: ∀w,(zeroValue (ρ.t 23)).run P w= .ok z w) (s:TypeInfo) (M:P.info? (ρ.t 23)=some s) (R:s.size=k)
  (a b n i j:Nat) (w:World) (news f:List Value) (H:(Builtin.zeroCells z.cells (j-i)).toList=f) (J:f.length=(j-i)*k) (I: ∀v∈f,v.oneCell'=true)
  (g:news.length=(n-j)*k) (y: ∀v∈news,v.oneCell'=true) (E: ∀t u,news[t]? =some u→w.cell? ⟨a,j*k+t,none⟩=some u)
  (m: ∀t,t<n*k→(w.cell? ⟨a,t,none⟩).isSome=true) (D: ∀t,w.frozen? ⟨a,t,none⟩=false)
  (X:n≤b) (sq:i<j) (fe:j≤n):
  Calls P (ρ.f 45) #[.slice (some ⟨a,0,none⟩) n b,.int .i64 i,.int .i64 j] w fun e ag=>e= .returned (.slice (some ⟨a,0,none⟩) (n- (j-i)) b)∧ag=(w.drew.setCells a (i*k) news).setCells a ((i+(n-j))*k) f:=by
 obtain⟨A,W,Q⟩: ∃A:Addr,(if b=j then some (⟨a,0,none⟩:Addr)else some ⟨a,j*k,none⟩)=some A∧Hid (∀t u,news[t]? =some u→w.drew.cell? (A.add t)=some u):=by
  by_cases h:b=j
  ·refine⟨⟨a,0,none⟩,by simp [h],fun t u o=> ?_⟩;have L:news.length=0:=by rw[g,show n-j=0 by omega,Nat.zero_mul]
   rw[Gl.1 L]at o;simp at o
  ·refine⟨⟨a,j*k,none⟩,by simp [h],fun t u o=> ?_⟩;rw[Addr.add_lit];exact E t u o
 have ad6:(n-j)*k≤n*k:=hc k (by omega);have asU:i*k+(n-j)*k+(j-i)*k=n*k:=by rw[←hr,←hr];congr 1;omega
 have S:Hid (news.length=(n-j)*k):=g;have T:Hid (∀u∈news,u.oneCell'=true):=y;have U:Hid (∀t,t<news.length→(w.drew.cell? ⟨a,0+i*k+t,none⟩).isSome=true∧w.drew.frozen? ⟨a,0+i*k+t,none⟩=false):=by
  intro t r;rw[g]at r;rw[cN];exact⟨m _ (by omega),D _⟩
 obtain⟨d,l⟩: ∃d,d=w.drew.setCells a (0+i*k) news:=⟨_,rfl⟩;have G: ∀t,t<n*k→(d.cell? ⟨a,t,none⟩).isSome=true:=fun t r=>by
  rw[l,cN]
  by_cases N:i*k≤t∧t<i*k+news.length
  ·have:=World.cell?_setCells_in a news (i*k) w.drew (fun q p=>m _ (by rw[g]at p;omega)) (t-i*k) (by omega);rw[show i*k+(t-i*k)=t by omega]at this;rw[this];rfl
  ·rw[World.cell?_setCells_out a news (i*k) w.drew ⟨a,t,none⟩ (fun _ _=>by show t<i*k∨i*k+news.length≤t;omega)];exact m t r
 have C: ∀t,d.frozen? ⟨a,t,none⟩=false:=fun t=>by rw[l,World.frozen?_setCells];exact D t
 have O:0<n- (i+(n-j)):=by omega
 have Y: ∀x c,(Builtin.clear_ #[ρ.t 22] x #[.slice (some ⟨a,(i+(n-j))*k,none⟩) (n- (i+(n-j))) c]).run P d= .ok (.tuple #[]) (d.setCells a ((i+(n-j))*k) f):=fun x c=>
  ahv d _ _ x _ K V a _ _ _ O f (by rw[show n- (i+(n-j))=j-i by omega];exact H) I (fun q p=>G _ (by rw[J]at p;rw[hr];omega)) (fun q _=>C _)
 have B:Hid (d=w.drew.setCells a (0+i*k) news):=l;have Z:i≤b:=by omega
 have aE0:j≤b:=by omega
 have N:i≤n:=by omega
 have jn: ¬((i:Int)=(j:Int)):=by omega
 clear l E g H J I y G C m;obtain⟨_,_,nM⟩:=F
 go_enter nM,SlBodyN.n45_ntmps ρ
 go_wp2_with fail
 go_region_law_o (refine step_append_room rfl (.tmp 22) (.tmp 25) (ρ.t 22) rfl (ρ.t 23) s k K M R a 0 i b (by simp [Act.eval,Act.put]) A (n-j) (b-j) news (by simp [Act.eval,Act.put]) S.out Q.out T.out (by omega) U.out ?_;rw[←B.out])
 go_wp2
 go_ret
 refine⟨by rw[show n- (j-i)=i+(n-j) by omega];rfl,?_⟩;rw[B.out,cN]
end
end Go.ah
