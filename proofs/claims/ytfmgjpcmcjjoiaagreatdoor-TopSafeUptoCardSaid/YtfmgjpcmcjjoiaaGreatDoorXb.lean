import Derived.Test.YtfmgjpcmcjjoiaaGreatDoorXa
import Derived.Deep.AppendSrc
import Derived.Great.FillDense
import Derived.Laws.BytesString
import Derived.Laws.IdiomStrings
import Derived.Laws.MakeOwn
import Derived.Laws.Slices
import Derived.Laws.Small
import Derived.Great.BuildSlice
import Derived.ProofKit
import Derived.ChangeSame
import Derived.ChangeArms
import Derived.Carry
import Derived.Laws.StructEq
import Derived.LoopN
import Derived.Laws.IdiomCopy
import Derived.Shelf.Spec.SlicesInsertGrow
import Derived.Shelf.SlGeneric
import Derived.Shelf.SlBodiesN
import Derived.Shelf.RegionOpenPlain
import Derived.WalkKit
import Derived.Deep.LoopGhost
import Derived.Deep.RegionLaw
import Derived.Lib.Walk
import Derived.Sort.WalkB12
import Derived.Lib.SliceRun
import Derived.Lib.SlicesDelete
open Go.IntKind (i64 u64 u8)
open Int (toNat)
set_option maxRecDepth 100000
set_option maxHeartbeats 4000000
set_option linter.all false
noncomputable section
namespace Go.af
open Go Go.RowKit
section
variable {E:Env} {S:dM} {ι:Nat→Option Nat} {st:K} {a:Act} {w:World}
theorem A_(H:Heap)(b:Nat)(c:J):bt H [(b,0,c)]=bs H b 0 c:=rfl
theorem aP.Gt(h:aP S ι st a w){w':World}(p:Below w.heap.size w w'){b x:Nat}(TY:w.heap.size≤x)(asU:x<w'.heap.size){M n c:Nat}{f:Nat→List J}{C:Array Value}{T:TypeId}
  (X:n≤dj) (Y:n≤c) (A:w'.heap[x]? =some (.cells C T (0,0))) (R:C.size=c*M) {F':Nat→Prop} (U: ∀y,F' y→aK S ι st.k w y∨(w.heap.size≤y∧y<w'.heap.size∧y≠x))
  (c3: ∀i j,i<n→j<M→ ∃av u,(f i)[j]? =some av∧C[i*M+j]? =some u∧aR w' F' av u)
  (H:((∀o,B st.k b o= .undef)∧ι b=none)∨ ∃s v,B st.k b 0= .ad false M s v∧s<n):
  aP S (cp ι b x) ⟨st.n,bs st.k b 0 (.ad false M n f)⟩ a w'∧b8 (cp ι b x) (bs st.k b 0 (.ad false M n f)) w' (aK S (cp ι b x) (bs st.k b 0 (.ad false M n f)) w') (.own b n) (.slice (some ⟨x,0,none⟩) n c):=by
 have D: ∀d o,d≠b→B (bs st.k b 0 (.ad false M n f)) d o=B st.k d o:=fun d o eX=>by rw[eG,a7 (fun e=>eX e.1)]
 have I:B (bs st.k b 0 (.ad false M n f)) b 0= .ad false M n f:=by rw[eG,bf ⟨rfl,rfl⟩]
 have kD: ∀z,ι b=some z→b_ (B st.k b 0)=true:=fun z r=>by
  rcases H with⟨_,l⟩|⟨s,v,g,_⟩
  ·rw[l]at r;cases r
  ·rw[g];rfl
 have E:ec ι st.k w (aK S ι st.k w) (cp ι b x) (bs st.k b 0 (.ad false M n f)) w' (aK S (cp ι b x) (bs st.k b 0 (.ad false M n f)) w'):=by
  refine⟨fun y ⟨g,l,G⟩=>⟨g,gk l p.size,fun d W=> ?_⟩,fun y o ⟨_,l,_⟩=>p.cell l,fun d z r m=> ?_,fun d ro ka ev Q m=> ?_⟩
  ·unfold cp
   by_cases e:d=b
   ·simp only[e,kN];intro q;simp at q;omega
   ·simp only[e,mx];exact G d (nv (fun o=>D d o e) W)
  ·have e:d≠b:=fun e=>by rw[e]at r m;rw[kD z r]at m;cases m
   exact⟨by simp [cp,e,r],by rw[D _ _ e];exact m⟩
  ·by_cases e:d=b
   ·subst e;rcases H with⟨g,_⟩|⟨s,v,g,l⟩
    ·rw[g]at m;cases m
    ·rw[g]at m;cases m;exact⟨false,_,n,f,I,by omega,fun e=>by omega⟩
   ·refine⟨ro,_,ev,Q,by rw[D _ _ e];exact m,bC _,fun _=>⟨rfl,by simp [cp,e],fun y C kV k A=>⟨C,?_,rfl⟩⟩⟩;rw[p.block y (h.fresh _ _ k).2];exact A
 have V: ∀y,F' y→aK S (cp ι b x) (bs st.k b 0 (.ad false M n f)) w' y:=fun y k=>by
  rcases U y k with k|⟨g,l,G⟩
  ·exact E.hE y k
  ·refine⟨.inr (dB h.below.size g),l,fun d _ q=> ?_⟩;unfold cp at q
   by_cases e:d=b<;>simp only[e,kN,mx]at q
   ·simp at q;exact G q.symm
   ·have:=(h.fresh _ _ q).2;omega
 refine⟨⟨h.below.trans (p.mono h.below.size),h.defers,fun t av h2=> ?_,fun d o=> ?_,fun L N y g l=> ?_,fun d y k=> ?_,fun d y k=> ?_,h.gr.trans E⟩,?_⟩
 ·obtain⟨b6,g,l⟩:=h.n t av h2;exact⟨b6,g,l.step E⟩
 ·by_cases e:d=b
  ·subst e
   by_cases F:o=0
   ·subst F;show eQ _ _ _ _ _ _ (B (bs st.k d 0 (.ad false M n f)) d 0);rw[I];refine⟨rfl,.inr ⟨X,.inr ⟨x,C,T,by simp [cp],A,fun i j Z fg=> ?_⟩⟩⟩;obtain⟨av,u,gY,fX,h3⟩:=c3 i j Z fg;exact⟨av,u,gY,fX,h3.mono V fun _ _ _=>rfl⟩
   ·show eQ _ _ _ _ _ _ (B (bs st.k d 0 (.ad false M n f)) d o);rw[eG,a7 (fun e=>F e.2)];have hu:B st.k d o= .undef:=by
     rcases H with⟨g,_⟩|⟨s,v,g,_⟩
     ·exact g o
     ·have K:=h.k d o
      cases e:B st.k d o<;>rw[e]at K<;>first|rfl|(have:=K.1;rw[g]at this;cases this;done)|exact absurd K.1 F
    rw[hu];trivial
  ·show eQ _ _ _ _ _ _ (B (bs st.k b 0 (.ad false M n f)) d o);rw[D _ _ e];exact(h.k d o).step E (fun _=>by simp [cp,e]) (fun y k _=>⟨p.cell (h.fresh _ _ k).2,p.frozen (h.fresh _ _ k).2⟩) (fun _=>⟨by simp [cp,e],fun y k=>p.block y (h.fresh _ _ k).2⟩)
 ·unfold cp at g l
  by_cases O:L=b<;>by_cases P:N=b<;>simp only[O,P,kN,mx]at g l
  ·omega
  ·simp at g;have:=(h.fresh _ _ l).2;omega
  ·simp at l;have:=(h.fresh _ _ g).2;omega
  ·exact h.inj _ _ _ g l
 ·unfold cp at k
  by_cases e:d=b<;>simp only[e,kN,mx]at k
  ·simp at k;subst k;exact⟨.inl (dB h.below.size TY),asU⟩
  ·have:=h.fresh _ _ k;exact⟨this.1,gk this.2 p.size⟩
 ·unfold cp at k
  by_cases e:d=b
  ·rw[e];exact(lE _ _ _ _).2
  ·simp only[e,mx]at k;exact gk (h.gn _ _ k) (lE _ _ _ _).1
 ·exact⟨rfl,false,M,n,f,I,bC _,fun _=> .inl ⟨x,c,C,T,by simp [cp],rfl,Y,A,R⟩⟩
theorem aP.L8(h:aP S ι st a w){b:Nat}(p: ∀o,B st.k b o= .undef)(m:ι b=none)(d:Nat)(f:Nat→List J):
  aP S ι ⟨st.n,bs st.k b 0 (.ad false d 0 f)⟩ a w∧ec ι st.k w (aK S ι st.k w) ι (bs st.k b 0 (.ad false d 0 f)) w (aK S ι (bs st.k b 0 (.ad false d 0 f)) w)∧
  ∀F,b8 ι (bs st.k b 0 (.ad false d 0 f)) w F (.own b 0) (.slice none 0 0):=by
 have i: ∀c o,c≠b→B (bs st.k b 0 (.ad false d 0 f)) c o=B st.k c o:=fun c o I=>by rw[eG,a7 (fun e=>I e.1)]
 have r:B (bs st.k b 0 (.ad false d 0 f)) b 0= .ad false d 0 f:=by rw[eG,bf ⟨rfl,rfl⟩]
 have s: ∀c x,ι c=some x→c≠b:=fun c x u e=>by rw[e,m]at u;cases u
 have j:ec ι st.k w (aK S ι st.k w) ι (bs st.k b 0 (.ad false d 0 f)) w (aK S ι (bs st.k b 0 (.ad false d 0 f)) w):=by
  refine⟨fun y ⟨k,l,E⟩=>⟨k,l,fun c H q=> ?_⟩,fun y o _=>rfl,fun c z A g=>⟨A,by rw[i _ _ (s _ _ A)];exact g⟩,fun c N P M D g=> ?_⟩
  ·exact E c (nv (fun o=>i c o (s _ _ q)) H) q
  ·have e:c≠b:=fun e=>by rw[e,p]at g;cases g
   exact⟨N,_,M,D,by rw[i _ _ e];exact g,bC _,fun _=>⟨rfl,rfl,fun y C O _ G=>⟨C,G,rfl⟩⟩⟩
 refine⟨⟨h.below,h.defers,fun t av K=> ?_,fun c o=> ?_,h.inj,h.fresh,fun c y L=>gk (h.gn _ _ L) (lE _ _ _ _).1,h.gr.trans j⟩,j,fun F=>⟨rfl,false,d,0,f,r,bC _,fun _=> .inr ⟨rfl,m,rfl⟩⟩⟩
 ·obtain⟨v,k,l⟩:=h.n t av K;exact⟨v,k,l.step j⟩
 ·show eQ _ _ _ _ _ _ (B (bs st.k b 0 (.ad false d 0 f)) c o)
  by_cases e:c=b
  ·subst e
   by_cases n:o=0
   ·subst n;rw[r];exact⟨rfl,.inr ⟨cf _,.inl ⟨rfl,m⟩⟩⟩
   ·rw[eG,a7 (fun e=>n e.2),p];trivial
  ·rw[i _ _ e];exact(h.k c o).step j (fun _=>rfl) (fun _ _ _=>⟨rfl,rfl⟩) (fun _=>⟨rfl,fun _ _=>rfl⟩)
theorem qJ(b:Nat): ∀(a:List Value) (o:Nat) (w:World) (C:Array Value) (T:TypeId) (z:Nat×Nat),w.heap[b]? =some (.cells C T z)→
  (∃d:Array Value,(w.setCells b o a).heap[b]? =some (.cells d T z)∧d.size=C.size∧ ∀k,d[k]? =if o≤k∧k<o+a.length∧k<C.size then a[k-o]? else C[k]?)∧
  (w.setCells b o a).heap.size=w.heap.size∧(∀k,k≠b→(w.setCells b o a).heap[k]? =w.heap[k]?)∧(w.setCells b o a).os=w.os∧(w.setCells b o a).tape=w.tape∧(w.setCells b o a).output=w.output
 |[],o,w,C,T,z,h=>by
  refine⟨⟨C,h,rfl,fun k=> ?_⟩,rfl,fun _ _=>rfl,rfl,rfl,rfl⟩;rw[a7 (by simp;omega)]
 |v::a,o,w,C,T,z,h=>by
  have q:(w.setCell ⟨b,o,none⟩ v).heap[b]? =some (.cells (C.setIfInBounds o v) T z):=by
   simp only[World.setCell,Array.getElem?_modify];rw[h];simp
  obtain⟨⟨d,f,g,i⟩,j,l,m,n,p⟩:=qJ b a (o+1) (w.setCell ⟨b,o,none⟩ v) _ T z q;simp only[World.setCells];refine⟨⟨d,f,by simpa using g,fun k=> ?_⟩,by simpa using j,fun k c=>by rw[l k c,Below.heap_setCell _ _ _ _ c],by rw[m];rfl,by rw[n];rfl,by rw[p];rfl⟩;rw[i];simp only[Array.size_setIfInBounds,dr]
  by_cases e:k=o
  ·subst e;rw[a7 (by omega)]
   by_cases c:k<C.size
   ·rw[bf ⟨bC _,by omega,c⟩];simp [c]
   ·rw[a7 (by omega)];simp [c]
  ·by_cases c:o+1≤k∧k<o+1+a.length∧k<C.size
   ·rw[bf c,bf ⟨by omega,by omega,c.2.2⟩,show k-o=(k- (o+1))+1 by omega];simp
   ·rw[a7 c,a7 (by omega)];rw[G9 (fun h=>e h.symm)]
theorem aP.aAw(h:aP S ι st a w){b x M n m c:Nat}{f g hh:Nat→List J}(u7: ∀i,i<n+m→hB n f g i=hh i){C:Array Value}{T:TypeId}(A:B st.k b 0= .ad false M n f)(s:ι b=some x)(V:w.heap[x]? =some (.cells C T (0,0)))(kB:C.size=c*M)
  (Ft:n+m≤c) (jA:n+m≤dj) (v:List Value) (K:v.length=m*M) (c3: ∀i j,i<m→j<M→ ∃av u,(g i)[j]? =some av∧v[i*M+j]? =some u∧aR w (aK S ι st.k w) av u):
  aP S ι ⟨st.n,bs st.k b 0 (.ad false M (n+m) hh)⟩ a (w.setCells x (n*M) v)∧
  b8 ι (bs st.k b 0 (.ad false M (n+m) hh)) (w.setCells x (n*M) v) (aK S ι (bs st.k b 0 (.ad false M (n+m) hh)) (w.setCells x (n*M) v)) (.own b (n+m)) (.slice (some ⟨x,0,none⟩) (n+m) c):=by
 obtain⟨⟨O,P,z,b6⟩,Q,E,eo,ao,e2⟩:=qJ x v (n*M) w C T (0,0) V;generalize aD4:w.setCells x (n*M) v=w' at*
 have I: ∀d o,d≠b→B (bs st.k b 0 (.ad false M (n+m) hh)) d o=B st.k d o:=fun d o eX=>by rw[eG,a7 (fun e=>eX e.1)]
 have W:B (bs st.k b 0 (.ad false M (n+m) hh)) b 0= .ad false M (n+m) hh:=by rw[eG,bf ⟨rfl,rfl⟩]
 have Fu:mr st.k b:= .inl ⟨by rw[A];rfl,by rw[A];rfl⟩;have xI: ∀y p,y≠x→w'.cell? ⟨y,p,none⟩=w.cell? ⟨y,p,none⟩:=fun y p k=>World.cell?_of_block (E y k);have L: ∀d y,ι d=some y→d≠b→y≠x:=fun d y k je e=>je (h.inj _ _ _ k (by rw[e];exact s));have q:ec ι st.k w (aK S ι st.k w) ι (bs st.k b 0 (.ad false M (n+m) hh)) w' (aK S ι (bs st.k b 0 (.ad false M (n+m) hh)) w'):=by
  refine⟨fun y ⟨U,F,G⟩=>⟨U,by rw[Q];exact F,fun d xG=> ?_⟩,fun y o ⟨_,F,G⟩=>xI y o (fun e=>G b Fu (by rw[e];exact s)),fun d lk hf l=> ?_,fun d ro ka ev fB l=> ?_⟩
  ·by_cases e:d=b
   ·rw[e];exact G b Fu
   ·exact G d (nv (fun o=>I d o e) xG)
  ·have e:d≠b:=fun e=>by rw[e,A]at l;cases l
   exact⟨hf,by rw[I _ _ e];exact l⟩
  ·by_cases e:d=b
   ·subst e;rw[A]at l;cases l;refine⟨false,_,n+m,_,W,by omega,fun _=>⟨rfl,rfl,fun y D kV k H=> ?_⟩⟩;rw[s]at k;cases k;rw[V]at H;cases H;exact⟨O,P,z⟩
   ·refine⟨ro,_,ev,fB,by rw[I _ _ e];exact l,bC _,fun _=>⟨rfl,rfl,fun y D kV k H=>⟨D,?_,rfl⟩⟩⟩;rw[E y (L _ _ k e)];exact H
 refine⟨⟨h.below.then ⟨eo,ao,e2,by rw[Q];exact bC _,fun hA l eX=>E hA (fun e=>(h.fresh _ _ s).1.elim (fun g=>by omega) fun g=>eX (by rw[e];exact g))⟩,h.defers,fun t av h2=> ?_,fun d o=> ?_,h.inj,fun d y k=>⟨(h.fresh _ _ k).1,by rw[Q];exact(h.fresh _ _ k).2⟩,fun d y k=>gk (h.gn _ _ k) (lE _ _ _ _).1,h.gr.trans q⟩,?_⟩
 ·obtain⟨jM,U,F⟩:=h.n t av h2;exact⟨jM,U,F.step q⟩
 ·show eQ _ _ _ _ _ _ (B (bs st.k b 0 (.ad false M (n+m) hh)) d o)
  by_cases e:d=b
  ·subst e
   by_cases R:o=0
   ·subst R;rw[W];refine⟨rfl,.inr ⟨jA,.inr ⟨x,O,T,s,P,fun i j X fg=> ?_⟩⟩⟩;have Z:=h.k d 0;rw[A]at Z;have sK:i*M+j<(n+m)*M:=by
     have:(i+1)*M≤(n+m)*M:=g7 M X;rw[ir]at this;omega
    have hmul:(n+m)*M≤c*M:=g7 M Ft;have are:(n+m)*M=n*M+m*M:=hi _ _ _
    by_cases Y:i<n
    ·obtain⟨_,dD|⟨_,Z|⟨r,tF,vM,q1,fh,yk⟩⟩⟩:=Z
     ·cases dD.1
     ·omega
     ·rw[s]at q1;cases q1;rw[V]at fh;cases fh;obtain⟨av,u,gY,N,h3⟩:=yk i j Y fg;have gu:i*M+j<n*M:=by
       have:(i+1)*M≤n*M:=g7 M Y;rw[ir]at this;omega
      refine⟨av,u,?_,?_,h3.mono q.hE q.cell⟩
      ·have:Nat.blt i n=true:=by simpa[hj]using Y
       rw[←u7 i X];simp only[hB,this,aQ];exact gY
      ·rw[b6,a7 (by omega)];exact N
    ·obtain⟨av,u,gY,N,h3⟩:=c3 (i-n) j (by omega) fg;have qL:(i-n)*M=i*M-n*M:=B_ _ _ _;have sI:n*M≤i*M:=g7 M (by omega);refine⟨av,u,?_,?_,h3.mono q.hE q.cell⟩
     ·have:Nat.blt i n=false:=by
       cases e:Nat.blt i n with
       |false=>rfl
       |true=>exact absurd (gL e) (by omega)
      rw[←u7 i X];simp only[hB,this,aS];exact gY
     ·rw[b6,bf ⟨by omega,by omega,by omega⟩];rw[qL]at N;rw[show i*M+j-n*M=i*M-n*M+j by omega];exact N
   ·rw[eG,a7 (fun e=>R e.2)];have hu:B st.k d o= .undef:=by
     have K:=h.k d o
     cases e:B st.k d o<;>rw[e]at K<;>first|rfl|(have:=K.1;rw[A]at this;cases this;done)|exact absurd K.1 R
    rw[hu];trivial
  ·rw[I _ _ e];exact(h.k d o).step q (fun _=>rfl) (fun y k _=>⟨xI y o (L _ _ k e),World.frozen?_of_block (E y (L _ _ k e))⟩) (fun _=>⟨rfl,fun y k=>E y (L _ _ k e)⟩)
 ·exact⟨rfl,false,M,n+m,_,W,bC _,fun _=> .inl ⟨x,c,O,T,s,rfl,Ft,P,by rw[z];exact kB⟩⟩
theorem aP.freeze(h:aP S ι st a w){H':Heap}(k: ∀b o,B H' b o=B st.k b o∨(o=0∧ ∃i j n f,B st.k b 0= .ad i j n f∧B H' b 0= .ad true j n f))(D:st.k.length≤H'.length):
  aP S ι ⟨st.n,H'⟩ a w∧ec ι st.k w (aK S ι st.k w) ι H' w (aK S ι H' w):=by
 have q: ∀b,b_ (B H' b 0)=b_ (B st.k b 0):=fun b=>by
  rcases k b 0 with c|⟨_,i,j,n,f,c,d⟩
  ·rw[c]
  ·rw[c,d];rfl
 have l:ec ι st.k w (aK S ι st.k w) ι H' w (aK S ι H' w):=by
  refine⟨fun y ⟨c,d,u⟩=>⟨c,d,fun b A=>u b ?_⟩,fun _ _ _=>rfl,fun b z G m=>⟨G,by rw[q];exact m⟩,fun b i j n f m=> ?_⟩
  ·rcases A with⟨e,g⟩|⟨e,o,g⟩
   ·rcases k b 0 with c|⟨_,i,j,n,f,_,d⟩
    ·rw[c]at e g;exact .inl ⟨e,g⟩
    ·rw[d]at g;cases g
   ·rw[q]at e;rcases k b o with c|⟨_,i,j,n,f,c,_⟩
    ·rw[c]at g;exact .inr ⟨e,o,g⟩
    ·rw[c]at e;cases e
  ·rcases k b 0 with c|⟨_,K,L,J,I,c,d⟩
   ·exact⟨i,_,n,f,by rw[c];exact m,bC _,fun _=>⟨rfl,rfl,fun x C T _ p=>⟨C,p,rfl⟩⟩⟩
   ·rw[m]at c;cases c;exact⟨true,_,n,f,d,bC _,fun _=>⟨rfl,rfl,fun x C T _ p=>⟨C,p,rfl⟩⟩⟩
 refine⟨⟨h.below,h.defers,fun t av E=> ?_,fun b o=> ?_,h.inj,h.fresh,fun b x F=>gk (h.gn _ _ F) D,h.gr.trans l⟩,l⟩
 ·obtain⟨v,c,d⟩:=h.n t av E;exact⟨v,c,d.step l⟩
 ·show eQ ι H' w _ b o (B H' b o);rcases k b o with c|⟨rfl,i,j,n,f,c,d⟩
  ·rw[c];exact(h.k b o).step l (fun _=>rfl) (fun _ _ _=>⟨rfl,rfl⟩) (fun _=>⟨rfl,fun _ _=>rfl⟩)
  ·rw[d];have r:=h.k b 0;rw[c]at r;obtain⟨s,H|ft⟩:=r.step l (fun _=>rfl) (fun _ _ _=>⟨rfl,rfl⟩) (fun _=>⟨rfl,fun _ _=>rfl⟩)
   ·exact⟨s,.inl ⟨rfl,H.2⟩⟩
   ·exact⟨s,.inr ft⟩
theorem Ml(h:aP S ι st a w){b k:Nat}{v:Value}{o n:Nat}{f:Nat→List J}(s:B st.k b 0= .ad true o n f)(O:k=n)(Q:eg S ι st.k w (.own b k) v):aR w (aK S ι st.k w) (.arr o n f) v:=by
 obtain⟨_,ro,ka,Y,V,z,W,H⟩:=Q;rw[s]at z;cases z;subst O;rcases H rfl with⟨q,c,C,G,d,y,P,A,X⟩|⟨rfl,_,y⟩
 ·have m:=h.k b 0;rw[s]at m;obtain⟨_,E|⟨L,m|⟨Z,R,T,F,D,x⟩⟩⟩:=m
  ·rw[d]at E;cases E.2.2
  ·rw[d]at m;cases m.2
  ·rw[d]at F;cases F;rw[A]at D;cases D;have N:=h.fresh b q d;have I:aK S ι st.k w q:=⟨h.own d,N.2,fun U K M=>by
    have:=h.inj _ _ _ M d;subst this;rcases K with⟨_,g⟩|⟨g,_⟩
    ·rw[s]at g;cases g
    ·rw[s]at g;cases g⟩
   rw[y];refine .arr o k f q 0 c (fun i j=>((f i)[j]?).getD .undef) (fun i j=>(C[i*o+j]?).getD undef) P L (fun _=>I) (fun i j e l=> ?_) (fun i j e l=> ?_) (fun i j e l=> ?_)
   ·obtain⟨av,u,p,r,t⟩:=x i j e l;rw[p];rfl
   ·obtain⟨av,u,p,r,t⟩:=x i j e l;rw[tC w q _ C G (0,0) A,c1,r];rfl
   ·obtain⟨av,u,p,r,t⟩:=x i j e l;simp only[p,r,kM];exact t
 ·rw[y];exact .nil o f
end
section
variable {E:Env} {S:dM} {ι:Nat→Option Nat} {st:K} {a:Act} {w:World}
theorem FB: ∀(a b:bM) (H:Heap),bt H (a++b)=bt (bt H a) b
 |[],_,_=>rfl
 |(_,_,_)::a,b,H=>FB a b _
theorem qM: ∀(a:bM) (H:Heap),H.length≤(bt H a).length
 |[],_=>bC _
 |(b,p,c)::a,H=>dB (vi H b p c).1 (qM a _)
theorem FC: ∀(a:bM) (H:Heap) (b o:Nat),B (bt H a) b o=B H b o∨ ∃c,(b,o,c)∈a∧B (bt H a) b o=c
 |[],_,_,_=> .inl rfl
 |(d,g,f)::a,H,b,o=>by
  rcases FC a (bs H d g f) b o with h|⟨c,i,j⟩
  ·rw[bt,h,eG]
   by_cases e:b=d∧o=g
   ·rw[bf e];exact .inr ⟨f,by rw[e.1,e.2];simp,rfl⟩
   ·rw[a7 e];exact .inl rfl
  ·exact .inr ⟨c,by simp [i],j⟩
theorem TV: ∀(a:bM) (H:Heap) (b o:Nat) (g:J),(b,o,g)∈a→ ∃c,(b,o,c)∈a∧B (bt H a) b o=c
 |[],_,_,_,_,h=>by cases h
 |(d,j,f)::a,H,b,o,g,h=>by
  rcases FC a (bs H d j f) b o with i|⟨c,i,m⟩
  ·by_cases e:b=d∧o=j
   ·refine⟨f,by rw[e.1,e.2];simp,?_⟩;rw[bt,i,eG,bf e]
   ·rcases hS.1 h with h|h
    ·cases h;exact absurd ⟨rfl,rfl⟩ e
    ·obtain⟨c,k,l⟩:=TV a (bs H d j f) b o g h;exact⟨c,by simp [k],l⟩
  ·exact⟨c,by simp [i],m⟩
def oh:J→List Nat
 | .own b _=>[b]
 |_=>[]
def qW:J→List Nat
 | .agg cs=>cs.flatMap oh
 |av=>oh av
theorem agZ{H:Heap}{x:J}{b o:Nat}{c:J}(h:(b,o,c)∈ti H x):o=0∧ ∃g a n f,B H b 0= .ad g a n f∧c= .ad true a n f:=by
 cases x<;>simp only[ti]at h<;>try (cases h;done)
 rename_i d k
 cases e:B H d 0<;>rw[e]at h<;>simp only at h<;>try (cases h;done)
 simp only[List.mem_singleton,tz]at h;obtain⟨rfl,rfl,rfl⟩:=h;exact⟨rfl,_,_,_,_,e,rfl⟩
theorem ag0{H:Heap}{l:List J}{b o:Nat}{c:J}(h:(b,o,c)∈ew H l):o=0∧ ∃d a n f,B H b 0= .ad d a n f∧c= .ad true a n f:=by
 obtain⟨x,_,h⟩:=lf.1 h
 cases x
 case agg cs=>
  obtain⟨y,_,h⟩:=lf.1 h;exact agZ h
 all_goals
  simp only[BT]at h;exact agZ h
theorem agY{H:Heap}{x:J}{b:Nat}(h:b∈oh x){d a n f}(c:B H b 0= .ad d a n f):(b,0,.ad true a n f)∈ti H x:=by
 cases x<;>simp only[oh]at h<;>try (cases h;done)
 simp only[List.mem_singleton]at h;subst h;simp [ti,c]
theorem aAu{H:Heap}{l:List J}{b:Nat}(h:b∈l.flatMap qW){g c n f}(a:B H b 0= .ad g c n f):(b,0,.ad true c n f)∈ew H l:=by
 obtain⟨x,d,h⟩:=lf.1 h;refine lf.2 ⟨x,d,?_⟩
 cases x
 case agg cs=>
  obtain⟨y,e,h⟩:=lf.1 h;exact lf.2 ⟨y,e,agY h a⟩
 all_goals
  simp only[qW]at h;simp only[BT];exact agY h a
theorem vr{H:Heap}(l:List J)(b o:Nat):B (bt H (ew H l)) b o=B H b o∨(o=0∧ ∃d a n f,B H b 0= .ad d a n f∧B (bt H (ew H l)) b 0= .ad true a n f):=by
 rcases FC (ew H l) H b o with h|⟨c,e,g⟩
 ·exact .inl h
 ·obtain⟨rfl,d,a,n,f,i,j⟩:=ag0 e;exact .inr ⟨rfl,d,a,n,f,i,by rw[g,j]⟩
theorem GG{H:Heap}{l:List J}{b:Nat}(h:b∈l.flatMap qW){k e n f}(d:B H b 0= .ad k e n f):B (bt H (ew H l)) b 0= .ad true e n f:=by
 obtain⟨c,g,i⟩:=TV (ew H l) H b 0 _ (aAu h d);obtain⟨_,p,q,o,m,a,j⟩:=ag0 g;rw[d]at a;cases a;rw[i,j]
theorem aaa{H:Heap}(h:aP S ι st a w){x:J}{v:Value}(l: ∀b∈oh x,∀p g n f,B H b 0= .ad p g n f→B st.k b 0= .ad true g n f)(d:eg S ι st.k w x v){K:J→Prop}(c:ih H x K): ∃y,K y∧aR w (aK S ι st.k w) y v:=by
 have q:c0 (nL x) (K x)→ ∃y,K y∧aR w (aK S ι st.k w) y v:=fun m=>(fun⟨i,j⟩=>⟨x,j,b8.p4 d i⟩) (ay.1 m)
 cases x
 case own b k=>
  simp only[ih]at c
  cases e:B H b 0<;>rw[e]at c<;>simp only at c
  exact⟨_,c.2,Ml h (l b (by simp [oh]) _ _ _ _ e) c.1 d⟩
 case lit b=>
  have o:aR w (aK S ι st.k w) (.lit b) v:=d
  cases o
  exact⟨_,c,.bool b⟩
 all_goals exact q c
theorem QE{H:Heap}(h:aP S ι st a w): ∀(cs:List J) (g:List Value) (K:List J→Prop),(∀b∈cs.flatMap oh,∀p l n f,B H b 0= .ad p l n f→B st.k b 0= .ad true l n f)→aU (eg S ι st.k w) cs g→lq H cs K→ ∃i,K i∧aU (aR w (aK S ι st.k w)) i g
 |[],[],K,_,_,d=>⟨[],d,trivial⟩
 |[],_::_,_,_,e,_=>e.elim
 |_::_,[],_,_,e,_=>e.elim
 |c::cs,v::g,K,k,e,d=>by
  obtain⟨y,d,m⟩:=aaa h (fun b j=>k b (by simp [j])) e.1 d;obtain⟨i,d,o⟩:=QE h cs g _ (fun b j=>k b (by simp only[gO,g8];exact .inr j)) e.2 d;exact⟨y::i,d,m,o⟩
theorem aoE{H:Heap}(h:aP S ι st a w){x:J}{v:Value}(g: ∀b∈qW x,∀p j n f,B H b 0= .ad p j n f→B st.k b 0= .ad true j n f)(i:bg S ι st.k w x v){K:J→Prop}(c:km H x K): ∃y,K y∧fl w (aK S ι st.k w) y v:=by
 have o: ∀y,aR w (aK S ι st.k w) y v→fl w (aK S ι st.k w) y v:=fun y m=>by cases m<;>first|exact .int _ _|exact .bool _|exact .str _ (by assumption)|exact .aA|exact .nil _ _|exact .mt _ _ _ _|(constructor<;>assumption)
 cases x
 case agg cs=>
  obtain⟨k,rfl,l⟩:=i;obtain⟨q,d,e⟩:=QE h cs k _ g l c;exact⟨.agg q,d,k,rfl,e⟩
 case undef=>exact c.elim
 case gone=>exact c.elim
 case c7=>exact c.elim
 case ad=>exact c.elim
 all_goals
  simp only[bg,eh,fR]at i;simp only[qW]at g;obtain⟨y,d,e⟩:=aaa h g i c;exact⟨y,d,o y e⟩
theorem QD{H:Heap}(h:aP S ι st a w): ∀(k:List J) (g:List Value) (K:List J→Prop),(∀b∈k.flatMap qW,∀q m n f,B H b 0= .ad q m n f→B st.k b 0= .ad true m n f)→aU (bg S ι st.k w) k g→lY H k K→ ∃i,K i∧aU (fl w (aK S ι st.k w)) i g
 |[],[],K,_,_,d=>⟨[],d,trivial⟩
 |[],_::_,_,_,e,_=>e.elim
 |_::_,[],_,_,e,_=>e.elim
 |c::cs,v::g,K,l,e,d=>by
  obtain⟨y,d,o⟩:=aoE h (fun b j=>l b (by simp [j])) e.1 d;obtain⟨i,d,p⟩:=QD h cs g _ (fun b j=>l b (by simp only[gO,g8];exact .inr j)) e.2 d;exact⟨y::i,d,o,p⟩
theorem ahk{b:Nat}{F:Nat→Prop}{r:J}{v:Value}(a:BU r=true)(h:pW b w F r v):jL w F r v:=by
 cases r<;>first|exact h|(cases a;done)
theorem V4{ws:bM}(h:aP S ι ⟨st.n,bt st.k ws⟩ a w){w':World}(d:Below w.heap.size w w'){F:Nat→Prop}{r:J}{v:Value}(u:pW w.heap.size w' F r v)
  (s: ∀y,F y→aK S ι (bt st.k ws) w y∨(w.heap.size≤y∧y<w'.heap.size)) {au:Nat} (t: ∀o,B (bt st.k ws) au o= .undef) (z:ι au=none) {K:J→bM→Prop} (m:th au r ws K):
  ∃an av i,K av i∧aP S an ⟨st.n,bt st.k i⟩ a w'∧bg S an (bt st.k i) w' av v∧ ∀b,an b≠none→ι b≠none∨ ∃p c,(b,p,c)∈i:=by
 have U:jL w' F r v→K r ws→ ∃an av i,K av i∧aP S an ⟨st.n,bt st.k i⟩ a w'∧bg S an (bt st.k i) w' av v∧ ∀b,an b≠none→ι b≠none∨ ∃p c,(b,p,c)∈i:=fun M H=>by
  obtain⟨k,q⟩:=h.world d;refine⟨ι,r,ws,H,k,eh.U4 (jL.mono (fun y j=> ?_) (fun _ _ _=>rfl) M),fun b d=> .inl d⟩;rcases s y j with j|⟨Q,R⟩
  ·exact q.hE y j
  ·exact⟨.inr (dB h.below.size Q),R,fun b _ e=>by have:=(h.fresh b y e).2;omega⟩
 cases r
 case ad V l n f=>
  simp only[th]at m;rcases u with⟨rfl,rfl⟩|⟨x,c,C,T,O,P,rfl,L,I,E,G,N⟩
  ·obtain⟨k,_⟩:=h.world d;obtain⟨A,_,D⟩:=k.L8 t z l f;refine⟨ι,.own au 0,ws++[(au,0,.ad false l 0 f)],m,?_,?_,fun b d=> .inl d⟩
   ·rw[FB,A_];exact A
   ·rw[FB,A_];exact D (aK S ι (bs (bt st.k ws) au 0 (.ad false l 0 f)) w')
  ·obtain⟨k,q⟩:=h.Gt d (b:=au) O P I L E G (F':=fun y=>F y∧y≠x) (fun y j=>(s y j.1).imp id fun g=>⟨g.1,g.2,j.2⟩) N (.inl ⟨t,z⟩);refine⟨cp ι au x,.own au n,ws++[(au,0,.ad false l n f)],m,?_,?_,fun b d=>(B2 _ _ _ b d).imp id fun e=>⟨0,.ad false l n f,by subst e;simp⟩⟩
   ·rw[FB,A_];exact k
   ·rw[FB,A_];exact q
 all_goals exact U u m
theorem aox(h:aP S ι st a w){x:Operand}{f:FuncId}{b:List J}(o:ax st.n x= .fn f b)(l:b.all mD=true): ∃c:List Value,a.eval x= .func (.func f) #[] c.toArray∧aU (bg S ι st.k w) b c:=by
 have:=h.eval x;rw[o]at this;obtain⟨c,j,d⟩:=(show eg S ι st.k w (.fn f b) _ from this);refine⟨c,j,aU.mk d.length fun i p q e m=> ?_⟩;obtain⟨r,g,n⟩:=d.get i p e;rw[m]at g;cases g;have k:=ds.1 l p (e0 e)
 cases p<;>first|(cases k;done)|exact n
theorem amO(mb:E.dm){o:Oper}{c:Go.Call}{A:Operand}{f:FuncId}{I:List J}(ed:o.op= .call c)(jd:c.callee= .value A)(TX:ax st.n A= .fn f I)(Tf:I.all mD=true)(h:aP S ι st a w){au:Nat}(kD: ∀o,B st.k au o= .undef)(pg:ι au=none)
  {K:J→bM→Prop} (l:tT E st.k au f (c.args.toList.map (ax st.n)++I) K) {next:Act→World→Prop} {Q:Exit→Act→World→Prop}
  (qK: ∀an av ws v w',K av ws→aP S an ⟨st.n,bt st.k ws⟩ a w'→bg S an (bt st.k ws) w' av v→(∀b,an b≠none→ι b≠none∨ ∃p c,(b,p,c)∈ws)→next (a.put o.dst v) w'):o.wp E.P a w next Q:=by
 obtain⟨C,Tm,KU⟩:=aox h TX Tf;have ari:aU (bg S ι st.k w) ((c.args.toList.map (ax st.n)).map eD) (c.args.toList.map a.eval):=by
  refine aU.mk (by simp) fun i x y j m=> ?_;simp only[gN,lM]at j m;obtain⟨g,⟨yd,L,rfl⟩,rfl⟩:=j;obtain⟨Gd,V,rfl⟩:=m;rw[L]at V;cases V;exact Bw (h.eval yd)
 have O:aU (bg S ι st.k w) ((c.args.toList.map (ax st.n)++I).map eD) (c.args.toList.map a.eval++C):=by
  rw[List.map_append];refine aU.append ari (aU.mk (by simpa using KU.length) fun i x y j m=> ?_);simp only[gN,lM]at j;obtain⟨g,L,rfl⟩:=j;obtain⟨vx,T,gv⟩:=KU.get i g L;rw[m]at T;cases T;exact Bw gv
 unfold tT at l;generalize (c.args.toList.map (ax st.n)++I).map eD=aa at l O;have W: ∀(F:Nat→Prop) (U:List J) (r:J) (u:Option Prop),E.spec f U=some (u,r)→nr u True→Cn w F→aU (fl w F) U (c.args.toList.map a.eval++C)→
   (∀w' v,Below w.heap.size w w'→pW w.heap.size w' (fun x=>F x∨(w.heap.size≤x∧x<w'.heap.size)) r v→next (a.put o.dst v) w')→o.wp E.P a w next Q:=fun F U r u s P nf xF eX=>by
  obtain⟨⟨fn,amU,KX,Tc,Tt⟩,ast⟩:=mb.spec f U u r s;have Ff:=ast P w F _ nf xF;have n_:(execOp a.eval o).run E.P w= .ok (.enter f (c.args.toList.map a.eval++C).toArray) w:=by
   have Tv:fn.name≠ "runtime.NumGoroutine" :=by simpa using Tt
   have S7:(c.args.toList.map a.eval++C).toArray=c.args.map a.eval++C.toArray:=by apply oy;simp
   rw[S7];simp [execOp,ed,resolve,jd,Tm,Deferred.ofValue,invoke,callFunc,KX,Tc,Tv]
  unfold Oper.wp;rw[n_];refine Ff.mono fun e w' ⟨v,he,k,d⟩=> ?_;subst he;exact eX w' v d k
 by_cases Y:aa.all zr=true
 ·have l:=aag Y l
  cases s:E.spec f aa with
  |none=>rw[s]at l;exact l.elim
  |some q=>
   obtain⟨u,r⟩:=q;rw[s]at l;obtain⟨P,N⟩:=pw.1 l;have z:nu st.k r aa=[]:=by simp [nu,Y]
   rw[z]at N;refine W (aK S ι st.k w) _ r u s P h.Qz (aU.mk O.length fun i x y j m=> ?_) fun w' v d k=> ?_
   ·obtain⟨vx,T,gv⟩:=O.get i x j;rw[m]at T;cases T;exact gv.p4 (ds.1 Y _ (e0 j))
   ·obtain⟨an,av,M4,hZ,iB,fe,k5⟩:=V4 (st:=st) (ws:=[]) h d k (fun y m=>m) kD pg N;exact qK an av M4 v w' hZ iB fe k5
 ·obtain⟨Yp,Z,arc⟩:=aah h _ _ _ O l
  cases s:E.spec f Yp with
  |none=>rw[s]at Z;exact Z.elim
  |some q=>
   obtain⟨u,r⟩:=q;rw[s]at Z;obtain⟨P,N⟩:=pw.1 Z
   by_cases Ln:BU r=true
   ·have z:nu st.k r aa=[]:=by simp [nu,Ln]
    rw[z]at N;refine W (kR S w) Yp r u s P ⟨fun x j=>j.elim (fun M=>gk (S.lt x M) h.below.size) fun M=>M.2,fun D=>(h.u2 D).imp id fun b6=>b6.mono (fun x j=>j.1.elim .inl fun M=> .inr ⟨M,j.2.1⟩) fun _ _ _=>rfl⟩ arc fun w' v d k=> ?_;obtain⟨G,gX⟩:=h.world d;have SX:K r []:=by cases r<;>first|exact N|(cases Ln;done)
    exact qK ι r [] v w' SX G (eh.U4 (ahl Ln (ahk Ln k))) fun b d=> .inl d
   ·
    obtain⟨G,Fw⟩:=h.freeze (H':=bt st.k (ew st.k aa)) (vr aa) (qM _ _);have arh:aU (bg S ι (bt st.k (ew st.k aa)) w) aa (c.args.toList.map a.eval++C):=O.imp fun _ _ k=>k.step Fw;obtain⟨PC,A5,S5⟩:=QD (H:=st.k) G aa _ _ (fun b d ro eo n f he=>GG d he) arh l
    cases Lj:E.spec f PC with
    |none=>rw[Lj]at A5;exact A5.elim
    |some q1=>
     obtain⟨agq,t⟩:=q1;rw[Lj]at A5;obtain⟨adG,X⟩:=pw.1 A5
     by_cases R:BU t=true
     ·have z:nu st.k t aa=[]:=by simp [nu,R]
      rw[z]at X;refine W (aK S ι (bt st.k (ew st.k aa)) w) PC t agq Lj adG G.Qz S5 fun w' v d k=> ?_;obtain⟨e4,AW⟩:=h.world d;have SX:K t []:=by cases t<;>first|exact X|(cases R;done)
      exact qK ι t [] v w' SX e4 (eh.U4 (ahl R (ahk R k))) fun b d=> .inl d
     ·have z:nu st.k t aa=ew st.k aa:=by
       have L:BU t=false:=by simpa using R
       have V:aa.all zr=false:=by simpa using Y
       simp only[nu,L,V,Bool.or_self]
      rw[z]at X;refine W (aK S ι (bt st.k (ew st.k aa)) w) PC t agq Lj adG G.Qz S5 fun w' v d k=> ?_;have Fp: ∀o,B (bt st.k (ew st.k aa)) au o= .undef:=fun o=>by
       rcases vr (H:=st.k) aa au o with D|⟨_,ro,eo,n,f,D,_⟩
       ·rw[D];exact kD o
       ·rw[kD 0]at D;cases D
      obtain⟨an,av,M4,hZ,iB,fe,k5⟩:=V4 (st:=st) (ws:=ew st.k aa) G d k (fun y m=>m) Fp pg X;exact qK an av M4 v w' hZ iB fe k5
end
section
variable {E:Env} {S:dM} {ι:Nat→Option Nat} {st:K} {a:Act} {w:World}
theorem af0{v:Value}(h:one v=true):v.oneCell'=true:=by cases v<;>first|rfl|(cases h;done)
def rT(a n:Nat)(u:Nat→Nat→Value):List Value:=(List.range (n*a)).map fun k=>u (k/a) (k%a)
theorem C_(M n:Nat)(u:Nat→Nat→Value):(rT M n u).length=n*M:=by simp [rT]
theorem It{M n:Nat}{u:Nat→Nat→Value}{i j:Nat}(d:i<n)(a:j<M):(rT M n u)[i*M+j]? =some (u i j):=by
 have e:i*M+j<n*M:=by
  have:(i+1)*M≤n*M:=g7 M d;rw[ir]at this;omega
 have b:(i*M+j)/M=i:=by
  rw[tB,Nat.mul_add_div (by omega),Nc a];omega
 have c:(i*M+j)%M=j:=by
  rw[tB,Nat.mul_add_mod,Nd a]
 simp [rT,Cf e,b,c]
theorem Is{M n:Nat}{u:Nat→Nat→Value}{k:Nat}{v:Value}(h:(rT M n u)[k]? =some v): ∃i j,i<n∧j<M∧k=i*M+j∧v=u i j:=by
 have g:k<n*M:=by
  have:=(hv.1 h).1;simpa[rT]using this
 have f:0<M:=by
  rcases vC M with e|e
  ·subst e;omega
  ·exact e
 have a:k/M<n:=(Nat.div_lt_iff_lt_mul f).2 g;have b:k%M<M:=Nat.mod_lt _ f;have c:k=k/M*M+k%M:=by rw[tB];exact(Nat.div_add_mod k M).symm
 have d:=It (u:=u) a b;rw[←c,h]at d
 cases d
 exact⟨_,_,a,b,c,rfl⟩
theorem aA8{G:TypeId}{str:Bool}(b6:aP S ι st a w)(D:if str then E.P.underlying G=some .string else∃e,E.P.underlying G=some (.slice e)){r:Nat}{y:J}{v:Value}(Q:bg S ι st.k w y v){K:Nat→(Nat→List J)→Prop}(A:mu st.k str r y K):
  ∃m g z,K m g∧m≤dj∧Src E.P r G v m z w∧ ∀i j,i<m→j<r→ ∃av u,(g i)[j]? =some av∧z[i*r+j]? =some u∧aR w (aK S ι st.k w) av u:=by
 have fin: ∀(t m:Nat) (g:Nat→List J) (x p c:Nat) (u:Nat→Nat→Value) (q:Nat→Nat→J),str=false→t=r→v= .slice (some ⟨x,p,none⟩) m c→m≤dj→K m g→(∀i j,i<m→j<t→(g i)[j]? =some (q i j))→(∀i j,i<m→j<t→w.cell? ⟨x,p+(i*t+j),none⟩=some (u i j))→
   (∀i j,i<m→j<t→aR w (aK S ι st.k w) (q i j) (u i j))→ ∃m g z,K m g∧m≤dj∧Src E.P r G v m z w∧ ∀i j,i<m→j<r→ ∃av u,(g i)[j]? =some av∧z[i*r+j]? =some u∧aR w (aK S ι st.k w) av u:=by
  intro t m g x p c u q P nk F hm l d gX R;subst nk;subst F;rw[P]at D;obtain⟨e,M⟩:=D;refine⟨m,g,rT t m u,l,hm,Src.ofSlice w M _ m c _ (C_ _ _ _) (fun j v o=> ?_) (fun v F=> ?_),fun i j h o=>⟨_,_,d i j h o,It h o,R i j h o⟩⟩
  ·obtain⟨i,Z,h,W,jS,H⟩:=Is o;rw[Addr.add_lit,jS,H];exact gX i Z h W
  ·obtain⟨k,A⟩:=ov F;obtain⟨i,Z,h,W,jS,H⟩:=Is A;rw[H];exact af0 (R i Z h W).one
 have none:str=false→K 0 (fun _=>[])→(∃c,v= .slice Option.none 0 c)→ ∃m g z,K m g∧m≤dj∧Src E.P r G v m z w∧ ∀i j,i<m→j<r→ ∃av u,(g i)[j]? =some av∧z[i*r+j]? =some u∧aR w (aK S ι st.k w) av u:=by
  rintro P l ⟨c,rfl⟩
  rw[P]at D;obtain⟨e,M⟩:=D;exact⟨0,_,[],l,cf _,Src.ofNil w M c,fun i j h=>by omega⟩
 have U: ∀(g:Nat→List J),str=false→K 0 g→(∃a c,v= .slice a 0 c)→ ∃m g z,K m g∧m≤dj∧Src E.P r G v m z w∧ ∀i j,i<m→j<r→ ∃av u,(g i)[j]? =some av∧z[i*r+j]? =some u∧aR w (aK S ι st.k w) av u:=by
  rintro g P l ⟨T,c,rfl⟩
  rw[P]at D;obtain⟨e,M⟩:=D;refine⟨0,g,[],l,cf _,?_,fun i j h=>by omega⟩
  cases T with
  |none=>exact Src.ofNil w M c
  |some T=>exact Src.ofSlice w M T 0 c [] (by simp) (fun j u o=>by simp at o) (fun u hu=>by cases hu)
 cases y<;>simp only[mu]at A<;>try exact A.elim
 case aA=>
  obtain⟨d,l⟩:=ay.1 A;have Y:aR w (aK S ι st.k w) .aA v:=Q
  cases Y
  exact none (by simpa using d) l ⟨0,rfl⟩
 case str s=>
  obtain⟨d,l⟩:=ay.1 A;simp only[bL,jJ]at d;obtain⟨d,rfl⟩:=d;subst d;have D:E.P.underlying G=some .string:=D;have iF:=bg.Wz Q;have F:=bg.str Q;subst F;refine⟨s.size,vQ s,byteCells s,l,iF,Src.ofString w D s,fun i j h o=> ?_⟩;have ar0:j=0:=by omega
  subst ar0;have To:i<s.data.toList.length:=by simpa using h
  refine⟨_,.int .u8 ((s.data.toList.getD i 0).toNat:Int),rfl,?_,.int _ _⟩;simp only[byteCells,Nat.mul_one,lN,gN,cI To,rj,List.getD,kM]
 case arr t n f=>
  obtain⟨d,l⟩:=ay.1 A;simp only[bL,iL,jJ]at d;obtain⟨d,rfl⟩:=d;have Y:aR w (aK S ι st.k w) (.arr t n f) v:=Q
  cases Y with
  |nil=>exact U _ d l ⟨_,_,rfl⟩
  |mt=>exact U _ d l ⟨_,_,rfl⟩
  |arr _ _ _ b p c g u eX ac_ nf I L N=>exact fin t n f b p c u g d rfl rfl ac_ l I (fun i j h o=>by rw[←pL];exact L i j h o) N
 case own b k=>
  cases e:B st.k b 0<;>rw[e]at A<;>simp only at A
  rename_i ro t n f;obtain⟨d,rfl,l⟩:=ay.1 A;simp only[bL,iL,jJ]at d;obtain⟨d,rfl⟩:=d;obtain⟨_,nt,ka,ev,fB,H,_,R⟩:=(show eg S ι st.k w (.own b k) v from Q);rw[e]at H;cases H;rcases R rfl with⟨q,c,C,kV,X,F,me,j2,kB⟩|⟨rfl,_,F⟩
  ·have O:=b6.k b 0;rw[e]at O;obtain⟨_,dD|⟨jA,O|⟨Gu,kd,alK,u_,u5,V⟩⟩⟩:=O
   ·rw[X]at dD;cases dD.2.2
   ·rw[X]at O;cases O.2
   ·rw[X]at u_;cases u_;rw[j2]at u5;cases u5;refine fin t k f q 0 c (fun i j=>(C[i*t+j]?).getD undef) (fun i j=>((f i)[j]?).getD .undef) d rfl F jA l (fun i j h o=> ?_) (fun i j h o=> ?_) (fun i j h o=> ?_)
    ·obtain⟨av,u,I,L,N⟩:=V i j h o;rw[I];rfl
    ·obtain⟨av,u,I,L,N⟩:=V i j h o;rw[tC w q _ C kV (0,0) j2,c1,L];rfl
    ·obtain⟨av,u,I,L,N⟩:=V i j h o;simp only[I,L,kM];exact N
  ·exact U _ d l ⟨_,_,F⟩
theorem Yn(h:aP S ι st a w){T N ty e:TypeId}{i:TypeInfo}{z:Value}(jc:E.P.underlying T=some (.slice e))(iG:E.P.info? e=some i)(hf:i.zero=some z)(Fb:i.bytes≤256)(FE:z.cells.size=i.size)
  {b b6 n m:Nat} {f g hh:Nat→List J} (u7: ∀i,i<n+m→hB n f g i=hh i) {v x:Value} {s:List Value} (Q:B st.k b 0= .ad false i.size n f) (Fl:b6=n) (c3:eg S ι st.k w (.own b b6) v) (jA:n+m≤dj) (l:Src E.P i.size N x m s w)
  (K9: ∀d j,d<m→j<i.size→ ∃av u,(g d)[j]? =some av∧s[d*i.size+j]? =some u∧aR w (aK S ι st.k w) av u):
  ∃an w' u,(Builtin.append_ #[T,N] ty #[v,x]).run E.P w= .ok u w'∧(∀k,an k≠none→ι k≠none∨k=b)∧aP S an ⟨st.n,bs st.k b 0 (.ad false i.size (n+m) hh)⟩ a w'∧
   eg S an (bs st.k b 0 (.ad false i.size (n+m) hh)) w' (.own b (n+m)) u:=by
 obtain⟨_,nt,ka,ev,fB,fJ,_,e4⟩:=c3;rw[Q]at fJ;cases fJ;have nd:dj=549755813888:=rfl;have Fe:(n+m)*i.bytes≤140737488355328:=dB (Nat.mul_le_mul (by omega:n+m≤549755813888) Fb) (by decide);have X:=h.k b 0;rw[Q]at X;have grow: ∀(base:Option Addr) (c:Nat) (G:List Value),(Builtin.firstCells i.size n (.slice base n c)).run E.P w.drew= .ok G.toArray w.drew→G.length=n*i.size→(∀d j,d<n→j<i.size→ ∃av u,(f d)[j]? =some av∧G[d*i.size+j]? =some u∧aR w (aK S ι st.k w) av u)→
   c<n+m→v= .slice base n c→n<n+m→ ∃an w' u,(Builtin.append_ #[T,N] ty #[v,x]).run E.P w= .ok u w'∧(∀k,an k≠none→ι k≠none∨k=b)∧aP S an ⟨st.n,bs st.k b 0 (.ad false i.size (n+m) hh)⟩ a w'∧
   eg S an (bs st.k b 0 (.ad false i.size (n+m) hh)) w' (.own b (n+m)) u:=by
  intro base c G hold Le Tw jd L gu;have K:=run_append_grow_src (P:=E.P) w T N ty e i z jc iG hf base n c G hold x m s l jd (by omega) (growslice_fits jd Fe);have sI:=vA w (n+m) c e;generalize grownCap w (n+m) c e=R at K sI;have A1:Below w.heap.size w (w.drew.alloc (.cells ((G++s).toArray++Builtin.zeroCells z.cells (R- (n+m))) e)):=(Below.drew (Below.refl _ w)).alloc (bC _) _;have Tg: ∀d j,d<n+m→j<i.size→ ∃av u,(hh d)[j]? =some av∧((G++s).toArray++Builtin.zeroCells z.cells (R- (n+m)))[d*i.size+j]? =some u∧aR (w.drew.alloc (.cells ((G++s).toArray++Builtin.zeroCells z.cells (R- (n+m))) e)) (aK S ι st.k w) av u:=fun d j A p=>by
   have adA: ∀{av:J} {u:Value},aR w (aK S ι st.k w) av u→aR (w.drew.alloc (.cells ((G++s).toArray++Builtin.zeroCells z.cells (R- (n+m))) e)) (aK S ι st.k w) av u:=fun Y=>Y.mono (fun _ h=>h) fun y o F=>A1.cell F.2.1;have hmul:(n+m)*i.size=n*i.size+m*i.size:=hi _ _ _
   by_cases sL:d<n
   ·obtain⟨av,u,gY,fX,h3⟩:=Tw d j sL p;have Ts:d*i.size+j<n*i.size:=by
     have:(d+1)*i.size≤n*i.size:=g7 _ sL;rw[ir]at this;omega
    refine⟨av,u,?_,?_,adA h3⟩
    ·have:Nat.blt d n=true:=by simpa[hj]using sL
     rw[←u7 d A];simp only[hB,this,aQ];exact gY
    ·rw[pG (by simp [Le,l.newsLen];omega)];simp only[tv];rw[tu (by omega)];exact fX
   ·obtain⟨av,u,gY,fX,h3⟩:=K9 (d-n) j (by omega) p;have qL:(d-n)*i.size=d*i.size-n*i.size:=B_ _ _ _;have arU:n*i.size≤d*i.size:=g7 _ (by omega);have Ts:d*i.size+j<(n+m)*i.size:=by
     have:(d+1)*i.size≤(n+m)*i.size:=g7 _ A;rw[ir]at this;omega
    refine⟨av,u,?_,?_,adA h3⟩
    ·have:Nat.blt d n=false:=by
      cases e:Nat.blt d n with
      |false=>rfl
      |true=>exact absurd (gL e) (by omega)
     rw[←u7 d A];simp only[hB,this,aS];exact gY
    ·rw[pG (by simp [Le,l.newsLen];omega)];simp only[tv];rw[Ca (by omega),Le];rw[qL]at fX;rw[show d*i.size+j-n*i.size=d*i.size-n*i.size+j by omega];exact fX
  obtain⟨H,I⟩:=h.Gt A1 (b:=b) (x:=w.heap.size) (bC _) (by simp) (f:=hh) (n:=n+m) (M:=i.size) (c:=R) jA sI (rk w.drew _) (by
   simp only[vB,pI,dC,size_zeroCells,FE,Le,l.newsLen,←hi]
   congr 1;omega) (F':=aK S ι st.k w) (fun y F=> .inl F) Tg (.inr ⟨n,f,Q,gu⟩)
  subst L;exact⟨_,_,_,K,B2 _ _ _,H,I⟩
 rcases e4 Fl with⟨q,c,C,Z,iI,L,me,U,kB⟩|⟨asd,Ls,L⟩
 ·obtain⟨_,dD|⟨_,X|⟨Gu,kd,alK,u_,u5,k6⟩⟩⟩:=X
  ·rw[iI]at dD;cases dD.2.2
  ·rw[iI]at X;cases X.2
  rw[iI]at u_;cases u_;rw[U]at u5;cases u5
  by_cases Y:n+m≤c
  ·have hmul:(n+m)*i.size≤c*i.size:=g7 _ Y;have are:(n+m)*i.size=n*i.size+m*i.size:=hi _ _ _;have K:=run_append_room_src (P:=E.P) w T N ty e i jc iG q 0 n c x m s l Y (fun j p=>by
    rw[tC w q _ C Z (0,0) U,c1];rw[l.newsLen]at p;rw[pH (by omega)];rfl) (fun j p=>by
    rw[l.newsLen]at p;unfold World.frozen?;rw[U];simp)
   rw[c1]at K;obtain⟨H,I⟩:=h.aAw (g:=g) u7 Q iI U kB Y jA s l.newsLen K9;subst L;exact⟨ι,_,_,K,fun k W=> .inl W,H,I⟩
  ·refine grow _ c (rT i.size n fun d j=>(C[d*i.size+j]?).getD undef) ?_ (C_ _ _ _) (fun d j A p=> ?_) (by omega) L (by omega)
   ·refine Hc (P:=E.P) w.drew i.size n ⟨q,0,none⟩ n c _ (C_ _ _ _) fun j u p=> ?_;obtain⟨d,T9,A,Tp,jS,fJ⟩:=Is p;rw[Addr.add_lit,jS,fJ];obtain⟨av,u,hZ,iB,fe⟩:=k6 d T9 A Tp;rw[tC w.drew q _ C Z (0,0) U,c1,iB];rfl
   ·obtain⟨av,u,hZ,iB,fe⟩:=k6 d j A p;exact⟨av,u,hZ,by rw[It A p,iB];rfl,fe⟩
 ·subst asd
  by_cases hm:m=0
  ·subst hm;have asg:s=[]:=WU (by rw[l.newsLen];simp);have K:(Builtin.append_ #[T,N] ty #[v,x]).run E.P w= .ok (.slice none 0 0) w:=by
    subst L;rcases l.kind with⟨O,r⟩|r<;>simp [Builtin.append_,eY jc,eY r,sizeOf,typeInfo,iG,l.len,l.cells]
   have V: ∀k o,B (bs st.k b 0 (.ad false i.size (0+0) hh)) k o=if k=b∧o=0 then .ad false i.size 0 hh else B st.k k o:=fun k o=>eG _ _ _ _ _ _
   have K0:B (bs st.k b 0 (.ad false i.size (0+0) hh)) b 0= .ad false i.size 0 hh:=by rw[V,bf ⟨rfl,rfl⟩]
   have TL:ec ι st.k w (aK S ι st.k w) ι (bs st.k b 0 (.ad false i.size (0+0) hh)) w (aK S ι (bs st.k b 0 (.ad false i.size (0+0) hh)) w):=by
    refine⟨fun y ⟨H,I,e4⟩=>⟨H,I,fun k W he=> ?_⟩,fun _ _ _=>rfl,fun k z hf r=>⟨hf,?_⟩,fun k ro ka ev fB r=> ?_⟩
    ·have e:k≠b:=fun e=>by rw[e,Ls]at he;cases he
     exact e4 k (nv (fun o=>by rw[V,a7 (fun O=>e O.1)]) W) he
    ·have e:k≠b:=fun e=>by rw[e,Q]at r;cases r
     rw[V,a7 (fun O=>e O.1)];exact r
    ·by_cases e:k=b
     ·subst e;rw[Q]at r;cases r;exact⟨false,_,0,_,K0,bC _,fun _=>⟨rfl,rfl,fun y D Z F AX=>by rw[Ls]at F;cases F⟩⟩
     ·exact⟨ro,_,ev,fB,by rw[V,a7 (fun O=>e O.1)];exact r,bC _,fun _=>⟨rfl,rfl,fun y D Z F AX=>⟨D,AX,rfl⟩⟩⟩
   refine⟨ι,w,_,K,fun k W=> .inl W,⟨h.below,h.defers,fun t av h2=> ?_,fun k o=> ?_,h.inj,h.fresh,fun k y F=>gk (h.gn _ _ F) (lE _ _ _ _).1,h.gr.trans TL⟩,?_⟩
   ·obtain⟨v,H,I⟩:=h.n t av h2;exact⟨v,H,I.step TL⟩
   ·show eQ _ _ _ _ _ _ (B (bs st.k b 0 (.ad false i.size (0+0) hh)) k o);rw[V]
    by_cases e:k=b∧o=0
    ·rw[bf e];exact⟨e.2,.inr ⟨cf _,.inl ⟨rfl,by rw[e.1];exact Ls⟩⟩⟩
    ·rw[a7 e];exact(h.k k o).step TL (fun _=>rfl) (fun _ _ _=>⟨rfl,rfl⟩) (fun _=>⟨rfl,fun _ _=>rfl⟩)
   ·exact⟨rfl,false,i.size,0,_,K0,bC _,fun _=> .inr ⟨rfl,Ls,rfl⟩⟩
  ·exact grow none 0 [] (run_firstCells_none w.drew i.size 0 0 0) (by simp) (fun d j A=>by omega) (by omega) L (by omega)
theorem al6(h:aP S ι st a w){T C ty e:TypeId}{i:TypeInfo}{z:Value}(jc:E.P.underlying T=some (.slice e))(iG:E.P.info? e=some i)(hf:i.zero=some z)(Fb:i.bytes≤256)(FE:z.cells.size=i.size)
  {au n m:Nat} {f g hh:Nat→List J} (V: ∀i,i<n+m→hB n f g i=hh i) {v x:Value} {t:List Value} (kD: ∀o,B st.k au o= .undef) (pg:ι au=none) (c3:aR w (aK S ι st.k w) (.jO i.size n f) v) (hm:0<m) (jA:n+m≤dj) (G:Src E.P i.size C x m t w)
  (K9: ∀d j,d<m→j<i.size→ ∃av u,(g d)[j]? =some av∧t[d*i.size+j]? =some u∧aR w (aK S ι st.k w) av u):
  ∃an w' u,(Builtin.append_ #[T,C] ty #[v,x]).run E.P w= .ok u w'∧(∀s,an s≠none→ι s≠none∨s=au)∧aP S an ⟨st.n,bs st.k au 0 (.ad false i.size (n+m) hh)⟩ a w'∧
   eg S an (bs st.k au 0 (.ad false i.size (n+m) hh)) w' (.own au (n+m)) u:=by
 have nd:dj=549755813888:=rfl;have Fe:(n+m)*i.bytes≤140737488355328:=dB (Nat.mul_le_mul (by omega:n+m≤549755813888) Fb) (by decide);have I: ∀(base:Option Addr) (c:Nat) (r:List Value),(Builtin.firstCells i.size n (.slice base n c)).run E.P w.drew= .ok r.toArray w.drew→r.length=n*i.size→(∀d j,d<n→j<i.size→ ∃av u,(f d)[j]? =some av∧r[d*i.size+j]? =some u∧aR w (aK S ι st.k w) av u)→
   c<n+m→v= .slice base n c→ ∃an w' u,(Builtin.append_ #[T,C] ty #[v,x]).run E.P w= .ok u w'∧(∀s,an s≠none→ι s≠none∨s=au)∧aP S an ⟨st.n,bs st.k au 0 (.ad false i.size (n+m) hh)⟩ a w'∧
   eg S an (bs st.k au 0 (.ad false i.size (n+m) hh)) w' (.own au (n+m)) u:=by
  intro base c r hold F Tw D asO;have X:=run_append_grow_src (P:=E.P) w T C ty e i z jc iG hf base n c r hold x m t G D (by omega) (growslice_fits D Fe);have U:=vA w (n+m) c e;generalize grownCap w (n+m) c e=A at X U;have R:Below w.heap.size w (w.drew.alloc (.cells ((r++t).toArray++Builtin.zeroCells z.cells (A- (n+m))) e)):=(Below.drew (Below.refl _ w)).alloc (bC _) _;have Tg: ∀d j,d<n+m→j<i.size→ ∃av u,(hh d)[j]? =some av∧((r++t).toArray++Builtin.zeroCells z.cells (A- (n+m)))[d*i.size+j]? =some u∧aR (w.drew.alloc (.cells ((r++t).toArray++Builtin.zeroCells z.cells (A- (n+m))) e)) (aK S ι st.k w) av u:=fun d j k l=>by
   have W: ∀{av:J} {u:Value},aR w (aK S ι st.k w) av u→aR (w.drew.alloc (.cells ((r++t).toArray++Builtin.zeroCells z.cells (A- (n+m))) e)) (aK S ι st.k w) av u:=fun gv=>gv.mono (fun _ h=>h) fun y o L=>R.cell L.2.1;have hmul:(n+m)*i.size=n*i.size+m*i.size:=hi _ _ _
   by_cases K:d<n
   ·obtain⟨av,u,N,H,O⟩:=Tw d j K l;have Ts:d*i.size+j<n*i.size:=by
     have:(d+1)*i.size≤n*i.size:=g7 _ K;rw[ir]at this;omega
    refine⟨av,u,?_,?_,W O⟩
    ·have:Nat.blt d n=true:=by simpa[hj]using K
     rw[←V d k];simp only[hB,this,aQ];exact N
    ·rw[pG (by simp [F,G.newsLen];omega)];simp only[tv];rw[tu (by omega)];exact H
   ·obtain⟨av,u,N,H,O⟩:=K9 (d-n) j (by omega) l;have qL:(d-n)*i.size=d*i.size-n*i.size:=B_ _ _ _;have arU:n*i.size≤d*i.size:=g7 _ (by omega);have Ts:d*i.size+j<(n+m)*i.size:=by
     have:(d+1)*i.size≤(n+m)*i.size:=g7 _ k;rw[ir]at this;omega
    refine⟨av,u,?_,?_,W O⟩
    ·have:Nat.blt d n=false:=by
      cases e:Nat.blt d n with
      |false=>rfl
      |true=>exact absurd (gL e) (by omega)
     rw[←V d k];simp only[hB,this,aS];exact N
    ·rw[pG (by simp [F,G.newsLen];omega)];simp only[tv];rw[Ca (by omega),F];rw[qL]at H;rw[show d*i.size+j-n*i.size=d*i.size-n*i.size+j by omega];exact H
  obtain⟨eM,gX⟩:=h.Gt R (b:=au) (x:=w.heap.size) (bC _) (by simp) (f:=hh) (n:=n+m) (M:=i.size) (c:=A) jA U (rk w.drew _) (by
   simp only[vB,pI,dC,size_zeroCells,FE,F,G.newsLen,←hi]
   congr 1;omega) (F':=aK S ι st.k w) (fun y L=> .inl L) Tg (.inl ⟨kD,pg⟩)
  subst asO;exact⟨_,_,_,X,B2 _ _ _,eM,gX⟩
 cases c3 with
 |jO _ _ _ p c eW D=>
  subst D
  cases eW with
  |nil=>exact I none 0 [] (run_firstCells_none w.drew i.size 0 0 0) (by simp) (fun d j k=>by omega) (by omega) rfl
  |mt _ _ Q c=>exact I (some Q) 0 [] (Hc (P:=E.P) w.drew i.size 0 Q 0 0 [] (by simp) fun j u l=>by simp at l) (by simp) (fun d j k=>by omega) (by omega) rfl
  |arr _ _ _ q o _ aC7 cv eX iF nf hZ iB fe=>
   refine I (some ⟨q,o,none⟩) _ (rT i.size _ cv) ?_ (C_ _ _ _) (fun d j k l=>⟨_,_,hZ d j k l,It k l,fe d j k l⟩) (by omega) rfl;refine Hc (P:=E.P) w.drew i.size _ ⟨q,o,none⟩ _ _ _ (C_ _ _ _) fun j u l=> ?_;obtain⟨d,T9,k,Tp,Y,Z⟩:=Is l;rw[Addr.add_lit,Y,Z,←pL];exact iB d T9 k Tp
theorem al7{o:Oper}{c:Go.Call}{x y:Operand}{T F:TypeId}{t:bD}{str:Bool}(ed:o.op= .call c)(jd:c.callee= .builtin .append)(AY:c.args= #[x,y])(asH:c.argTypes= #[T,F])(jc:gl E.P T t)
  (S1:if str then E.P.underlying F=some .string else∃e,E.P.underlying F=some (.slice e)) (h:aP S ι st a w) {au:Nat} (kD: ∀o,B st.k au o= .undef) (pg:ι au=none) {eo:J→bM→Prop}
  (r:nF t str st.k au (ax st.n x) (ax st.n y) eo) {next:Act→World→Prop} {Q:Exit→Act→World→Prop}
  (V: ∀an av I b6 w',eo av I→aP S an ⟨st.n,bt st.k I⟩ a w'→bg S an (bt st.k I) w' av b6→(∀b,an b≠none→ι b≠none∨ ∃p c,(b,p,c)∈I)→next (a.put o.dst b6) w'):o.wp E.P a w next Q:=by
 have G:=h.eval x;have sO:=h.eval y;have dD:=jc.d;unfold nF at r
 cases nJ:t.d<;>rw[nJ]at r<;>simp only at r<;>try exact r.elim
 rename_i e lo lX;rw[nJ]at dD;obtain⟨Y,i,R,ni,u9,A4⟩:=dD;subst ni;subst u9;obtain⟨ade,r⟩:=ay.1 r;simp only[bL,hj]at ade;have O:i.bytes≤256:=gL ade.1;obtain⟨e2,H⟩:=Option.isSome_iff_exists.1 A4.1;have Z:e2.cells.size=i.size:=A4.2 e2 H;have W: ∀u w',(Builtin.append_ #[T,F] o.type #[a.eval x,a.eval y]).run E.P w= .ok u w'→(execOp a.eval o).run E.P w= .ok (.value u) w':=fun u w' c3=>by
  simp [execOp,ed,resolve,jd,AY,asH,invoke,builtin,c3]
 obtain⟨m,g,news,r,hm,X,U⟩:=aA8 h S1 sO r
 cases ex:ax st.n x<;>rw[ex]at r G<;>simp only at r<;>try exact r.elim
 ·have xM:aR w (aK S ι st.k w) .aA (a.eval x):=G;have asV:a.eval x= .slice none 0 0:=by
   generalize a.eval x=b6 at xM
   cases xM;rfl
  obtain⟨eM,gX,e4⟩:=h.L8 kD pg i.size (fun _=>[]);have art:B (bs st.k au 0 (.ad false i.size 0 fun _=>[])) au 0= .ad false i.size 0 (fun _=>[]):=by rw[eG,bf ⟨rfl,rfl⟩]
  obtain⟨an,w',u,A,D,v,s⟩:=Yn (g:=g) (hh:=hB 0 (fun _=>[]) g) (ty:=o.type) eM Y R H O Z (fun _ _=>rfl) art rfl (e4 _) (by simpa using r.1) (x:=a.eval y) X (fun adW j To fg=>by
   obtain⟨av,u,gY,fX,h3⟩:=U adW j To fg;exact⟨av,u,gY,fX,h3.mono gX.hE gX.cell⟩)
  rw[←asV]at A;have Fi:hB 0 (fun _=>[]) g=g:=by
   funext j
   have L:Nat.blt j 0=false:=by cases j<;>rfl
   simp only[hB,L,aS,Nat.sub_zero]
  have KN:bs (bs st.k au 0 (.ad false i.size 0 fun _=>[])) au 0 (.ad false i.size (0+m) (hB 0 (fun _=>[]) g))=bs st.k au 0 (.ad false i.size m g):=by
   rw[Fi,c1];simp only[bs];have: ∀{α:Type} (d:α) (l:List α) (k:Nat) (p q:α),setAt d (setAt d l k p) k q=setAt d l k q:=fun {α} d l k p q=>by
    induction l generalizing k with
    |nil=>induction k with
     |zero=>rfl
     |succ k kE=>simp [setAt,kE]
    |cons y l kE=>cases k with
     |zero=>rfl
     |succ k=>simp [setAt,kE]
   have L:(setAt [] st.k au (setAt .undef (st.k.getD au []) 0 (.ad false i.size 0 fun _=>[]))).getD au []=setAt .undef (st.k.getD au []) 0 (.ad false i.size 0 fun _=>[]):=by rw[pb,bf rfl]
   rw[L,this,this]
  simp only at v s;rw[KN]at v s;rw[c1]at s;exact di (W _ _ A) (V an _ _ u w' r.2 v s fun b C=>(D b C).imp id fun e=>⟨0,.ad false i.size m g,by subst e;simp⟩)
 ·rename_i b k
  cases e:B st.k b 0<;>rw[e]at r<;>simp only at r
  rename_i ro hA n f;obtain⟨z,Fl,N,hh,P,M⟩:=ay.1 r;simp only[bL,iL,jJ]at z;obtain⟨rfl,rfl⟩:=z;obtain⟨an,w',u,A,D,v,s⟩:=Yn (g:=g) (hh:=hh) (ty:=o.type) h Y R H O Z P e Fl G N (x:=a.eval y) X U;exact di (W _ _ A) (V an _ _ u w' M v s fun K C=>(D K C).imp id fun e=>⟨0,.ad false i.size (n+m) hh,by subst e;simp⟩)
 ·rename_i hA n f;obtain⟨z,asb,N,hh,P,M⟩:=ay.1 r;have z:=al z;subst z;obtain⟨an,w',u,A,D,v,s⟩:=al6 (g:=g) (hh:=hh) (ty:=o.type) h Y R H O Z P kD pg G asb N (x:=a.eval y) X U;exact di (W _ _ A) (V an _ _ u w' M v s fun K C=>(D K C).imp id fun e=>⟨0,.ad false i.size (n+m) hh,by subst e;simp⟩)
end
def agR(ρ:Nat→Nat):J→J
 | .ptr b o=> .ptr (ρ b) o
 |x=>x
def fi(ρ:Nat→Nat):J→J
 | .own b k=> .own (ρ b) k
 | .ptr b o=> .ptr (ρ b) o
 | .fp b k i o=> .fp (ρ b) k i o
 | .fn f a=> .fn f (a.map (agR ρ))
 |x=>x
def kI(ρ:Nat→Nat):J→J
 | .agg cs=> .agg (cs.map (fi ρ))
 |x=>fi ρ x
def p2(D:Nat→Bool):J→Bool
 | .ptr b _=>D b
 |x=>mD x
def mG(D:Nat→Bool):J→Bool
 | .own b _=>D b
 | .ptr b _=>D b
 | .fp b _ _ _=>D b
 | .fn _ a=>a.all (p2 D)
 |_=>true
def wc(D:Nat→Bool):J→Bool
 | .agg cs=>cs.all (mG D)
 | .c7 _=>false
 | .gone=>false
 |x=>mG D x
def pos:List Nat→Nat→Nat
 |[],_=>0
 |x::l,b=>match Nat.beq x b with
  |true=>0
  |false=>pos l b+1
def mem(l:List Nat)(b:Nat):Bool:=l.any fun x=>Nat.beq x b
def dedup:List Nat→List Nat
 |[]=>[]
 |x::l=>match mem l x with
  |true=>dedup l
  |false=>x::dedup l
def VJ:J→List Nat
 | .ptr b _=>[b]
 |_=>[]
def agr:J→List Nat
 | .ptr b _=>[b]
 | .fn _ a=>a.flatMap VJ
 |_=>[]
def ags:J→List Nat
 | .agg cs=>cs.flatMap agr
 |x=>agr x
def Mm:J→List Nat
 | .own b _=>[b]
 |_=>[]
def YA(aa:List J):List Nat:=dedup (aa.flatMap ags)
def CM(H:Heap)(aa:List J):List Nat:=dedup (YA aa++(YA aa).flatMap fun b=>(H.getD b []).flatMap VJ)
def ayW:J→List Nat
 | .agg cs=>cs.flatMap Mm
 |x=>Mm x
def dN(H:Heap)(aa:List J):List Nat:=CM H aa++dedup (((CM H aa).flatMap fun b=>(H.getD b []).flatMap Mm)++aa.flatMap ayW)
def nodup:List Nat→Bool
 |[]=>true
 |x::l=> !(mem l x)&&nodup l
def x2(l:List J):Bool:=
 match l with
 |[]=>false
 |x::r=>match x with
  | .ad a _ _ _=> !a&&r.isEmpty
  |x=>(x::r).all (fun c=> !(b_ c))&&(x::r).any ot
def pB:List Nat→Heap→Heap→Bool
 |[],_,a=>a.all fun y=> !(y.isEmpty)
 |b::l,H,a=>match a with
  |[]=>false
  |y::a=>Nat.beq (H.getD b []).length y.length&&pB l H a
def rH(a:Nat→Nat):Nat→Heap→bM
 |_,[]=>[]
 |i,l::r=>hC (a i) (l.map (fi a)) 0++rH a (i+1) r
def dk:J:= .ad true 0 (dj+1) fun _=>[]
def tl(L:List Nat)(au i:Nat):Nat:=L.getD i (au+(i-L.length))
def MY:List J→J
 |[x]=>x
 |a=> .c7 a
def pq(n:Nat)(b:Nat):Bool:=Nat.blt b n
def ac9(aa:List J):Bool:= !((aa.flatMap ags).isEmpty)
def nh(E:Env)(H:Heap)(au:Nat)(f:FuncId)(aa:List J)(K:J→bM→Prop):Prop:=
 c0 (nodup (dN H aa)&&(dN H aa).all (fun b=>x2 (H.getD b [])&&(H.getD b []).all (mG (mem (dN H aa))))&&aa.all (wc (mem (dN H aa))))
  (match E.nj f (aa.map (kI (pos (dN H aa)))) ((dN H aa).map fun b=>(H.getD b []).map (fi (pos (dN H aa))))with
  |some (a,rs,H')=>nr a (c0 (!(H'.isEmpty)&&pB (dN H aa) H H'&&H'.all (fun l=>l.all (mG (pq H'.length)))&&rs.all (fun r=>wc (pq H'.length) r&&nx r))
    (K (MY (rs.map (kI (tl (dN H aa) au)))) (rH (tl (dN H aa) au) 0 H')))
  |none=>False)
end Go.af
namespace Go.af
open Go Go.ChangeShapes Go.RowKit Go.WideShapes
theorem atJ{P:Program}{f:FuncId}{a:Func}{s:ChangeSpec}{c:OpenClaim}
  (b:c.wf (OpenSpec.ofChange s)=true) (p:laidOutB P=true) (C:mapsRowed P=true)
  (G:a.params.all (P.readableRec ·)=true) (H:namedTie P c.named s.vars=true)
  (I:(c.stops==[])=true) (J:(P.stops==[])=true) (K:(c.knobs==[])=true) (L:(P.stopKnobs==[])=true)
  (d:(c.inPlace==P.inPlace f)=true) (e:(c.unfollowed==P.unfollowed f)=true) (g:(c.recurses==P.recurses f)=true) (h:(c.named==P.varsNamed f)=true)
  (i:(c.maps==(a.params.toList++s.plain.varTypes P).any (P.mapsRec ·))=true) (j:(c.ifaces==(a.params.toList++s.plain.varTypes P).any (P.ifacesRec ·))=true) (l:(c.mapsOut==P.mapsAmong a.resultTypes.toList)=true)
  (m:(c.loops==(a.params.toList++s.plain.varTypes P).any (P.loopsFrom ·))=true) (n:(c.wideKeys==(a.params.toList++s.plain.varTypes P++a.resultTypes.toList).any (P.wideKeysFrom ·))=true)
  (o:s.vars.all (P.varReadable ·)=true) (q:a.resultTypes.all (fun t=>P.readableRec t&&decide (t<P.types.size))=true) (r:(c.ifacesOut==a.resultTypes.toList.any (P.ifacesRec ·))=true) (u:(c.loopsOut==a.resultTypes.toList.any (P.loopsFrom ·))=true)
  (v:(c.plainKeys==P.plainKeys)=true) (w:c.shortTexts.isNone=true) (x:P.stopsHeard=true) (y:P.mayEnter=true) (z:(c.lifted==P.liftsFinal)=true) (A:(P.make==some c.make)=true)
  (B:(c.kinds==(if c.domain.isEmpty then[]else a.params.toList.map fun t=>match P.underlying t with|some (.int k)=>some k|_=>none))=true) (D:(c.pinned==c.pinnedBy)=true)
  (E:(c.veiled==(a.params.toList++s.plain.varTypes P++a.resultTypes.toList).any (P.veiledRec ·))=true) (F:c.veiledFits P a.params.toList (a.params.toList++s.plain.varTypes P++a.resultTypes.toList)=true):
  joinedFacts P f a s c=true:=by
 unfold joinedFacts;simp only[bL];exact⟨⟨⟨⟨⟨⟨⟨⟨⟨⟨⟨⟨⟨⟨⟨⟨⟨⟨⟨⟨⟨⟨⟨⟨⟨⟨⟨⟨⟨⟨⟨b,p⟩,C⟩,G⟩,H⟩,I⟩,J⟩,K⟩,L⟩,d⟩,e⟩,g⟩,h⟩,i⟩,j⟩,l⟩,m⟩,n⟩,o⟩,q⟩,r⟩,u⟩,v⟩,w⟩,x⟩,y⟩,z⟩,A⟩,B⟩,D⟩,E⟩,F⟩
end Go.af
namespace Go.af
open Go Go.RowKit
section
variable {P:Program}
theorem MJ(w:World)(e u x f:TypeId)(i:TypeInfo)(b o c g:Nat)(a:Addr)(d t:Nat)(cs:List Value)
  (s:P.underlying e=some (.slice f)) (m:P.info? f=some i) (p:cs.length=Nat.min d c*i.size)
  (q: ∀j v,cs[j]? =some v→w.cell? (a.add j)=some v) (k: ∀j,j<cs.length→(w.cell? ⟨b,o+j,none⟩).isSome=true) (l: ∀j,j<cs.length→w.frozen? ⟨b,o+j,none⟩=false) (h: ∀v∈cs,v.oneCell'=true):
  (Builtin.copy_ #[e,u] x #[.slice (some ⟨b,o,none⟩) c g,.slice (some a) d t]).run P w= .ok (goInt (Nat.min d c)) (w.setCells b o cs):=by
 have n:=Nb (P:=P) w a cs q;have r:=run_storeCells_cells (P:=P) b o cs 0 w (by simpa using k) (by simpa using l) h;simp [Builtin.copy_,eY s,Builtin.lenOf,Builtin.firstCells,sizeOf,typeInfo,m,←p,n,r]
theorem ag6(w:World)(t e p:TypeId)(z:Value)(i:P.underlying t=some (.slice e))(k: ∀w,(zeroValue e).run P w= .ok z w)(b o n c:Nat)(q:0<n)(a:List Value)(l:(Builtin.zeroCells z.cells n).toList=a)(f: ∀v∈a,v.oneCell'=true)
  (g: ∀j,j<a.length→(w.cell? ⟨b,o+j,none⟩).isSome=true) (h: ∀j,j<a.length→w.frozen? ⟨b,o+j,none⟩=false):
  (Builtin.clear_ #[t] p #[.slice (some ⟨b,o,none⟩) n c]).run P w= .ok (.tuple #[]) (w.setCells b o a):=by
 have d:=run_storeCells_cells (P:=P) b o a 0 w (by simpa using g) (by simpa using h) f;simp only[lN]at d;obtain⟨m,rfl⟩: ∃m,n=m+1:=⟨n-1,by omega⟩;simp [Builtin.clear_,eY i,k,l,d]
end
end Go.af
namespace Go.af
open Go Go.Lib Go.Proofs Go.RowKit Go.Shelf
section
variable {P:Program} {ρ:Ren}
structure pQ (P:Program) (ρ:Ren) (k bytes:Nat) (z:Value):Prop where
 mixed:P.follows .mixedOrders=true
 F:Bears P (ρ.f 22) (Body2.n22 ρ)
 t3:P.underlying (ρ.t 3)=some (TypeDesc.int i64)
 t24:P.underlying (ρ.t 24)=some (TypeDesc.slice (ρ.t 9))
 z9: ∀w,(Go.sizeOf (ρ.t 9)).run P w= .ok k w
 i9:(P.info? (ρ.t 9)).map (fun i=>(i.zero,i.size,i.bytes))=some (some z,k,bytes)
 ayT: ∀(w:World) (dH b o m aBW j amR:Nat) (aBn aBo:TypeId) (aeO l:Nat),dH≠b→w.shape? dH=some (aBn,aeO)→w.shape? b=some (aBo,l)→l≠0→w.frozen? ⟨dH,0,none⟩=false→w.frozen? ⟨dH,aeO,none⟩=false→
  (callFunc (ρ.f 29) #[.slice (some ⟨dH,0,none⟩) m aBW,.slice (some ⟨b,o,none⟩) j amR]).run P w= .ok (.value (.bool false)) w
set_option maxHeartbeats 4000000 in
set_option maxRecDepth 100000 in
theorem ate{k bytes:Nat}{b6:Value}(L:pQ P ρ k bytes b6)(b n c i dH p:Nat)(cs g:List Value)(w:World)(iG:i<n)(Ft:n+1≤c)(A7:n≤549755813888)(F:dH≠b)
  (O:cs.length=n*k) (xK:g.length=k)
  (R: ∀j v,cs[j]? =some v→w.cell? ⟨b,j,none⟩=some v) (s: ∀j,j<(n+1)*k→(w.cell? ⟨b,j,none⟩).isSome=true) (C: ∀j,w.frozen? ⟨b,j,none⟩=false)
  (pf: ∀j v,g[j]? =some v→w.cell? ⟨dH,j,none⟩=some v) (K: ∀v∈cs,v.oneCell'=true) (M: ∀v∈g,v.oneCell'=true)
  (I J:TypeId) (H l:Nat) (U:w.shape? dH=some (I,H)) (V:w.shape? b=some (J,l)) (S:l≠0) (B: ∀j,w.frozen? ⟨dH,j,none⟩=false):
  Calls P (ρ.f 22) #[.slice (some ⟨b,0,none⟩) n c,.int .i64 i,.slice (some ⟨dH,0,none⟩) 1 p] w fun e w'=>
   e= .returned (.slice (some ⟨b,0,none⟩) (n+1) c)∧w'=(w.drew.setCells b (i*k+k) (cs.drop (i*k))).setCells b (i*k) g:=by
 have aBN:=eY L.t3;have aBM:=eY L.t24;have mixed:=L.mixed;have t3:=L.t3;have t24:=L.t24;have z9:=L.z9;have asX: ¬((i:Int)=(n:Int)):=by omega
 obtain⟨G,D,eW,E,_⟩:=info_parts L.i9;have T: ∀u q,(callFunc (ρ.f 29) #[.slice (some ⟨dH,0,none⟩) 1 p,.slice (some ⟨b,i*k+k,none⟩) u q]).run P w= .ok (.value (.bool false)) w:=fun u q=>L.ayT w dH b _ 1 p u q I J H l F U V S (B _) (B _);have r:(cs.drop (i*k)).length=(n-i)*k:=by rw[rl,O,B_]
 have asQ:i64.wrap ((i:Int)+1)=(i:Int)+1:=by rw[IntKind.wrap_i64];omega
 have asR:i64.wrap ((n:Int)+1)=(n:Int)+1:=by rw[IntKind.wrap_i64];omega
 have arl:(0:Int)≤(i:Int)+1:=by omega
 have sL:i≤n:=by omega
 have asG:((i:Int)+1).toNat=i+1:=by omega
 have TN:((n:Int)+1).toNat=n+1:=by omega
 have A0: ¬(c=i+1):=by omega
 have aro:(i:Int)≤(n:Int)+1:=by omega
 have aDB: ¬(c=i):=by omega
 have aDC: ¬((c:Int)<(n:Int)+1):=by omega
 have hmul:(i+1)*k+(n-i)*k=(n+1)*k:=by rw[←hi];congr 1;omega
 have arZ:(i+1)*k=i*k+k:=ir _ _;have adD:(n+1)*k=n*k+k:=ir _ _;have A: ∀f d y,(Builtin.copy_ #[(ρ.t 24),(ρ.t 24)] f #[.slice (some ⟨b,i*k+k,none⟩) (n-i) d,.slice (some ⟨b,i*k,none⟩) (n+1-i) y]).run P w.drew= .ok (goInt (Nat.min (n+1-i) (n-i))) (w.drew.setCells b (i*k+k) (cs.drop (i*k))):=fun f d y=>
  MJ w.drew _ _ f (ρ.t 9) G b (i*k+k) (n-i) d ⟨b,i*k,none⟩ (n+1-i) y (cs.drop (i*k)) L.t24 D (by rw[r,E,show Nat.min (n+1-i) (n-i)=n-i by simp only[Nat.min_def];split<;>omega])
   (fun j v a=>by rw[Addr.add_lit];exact R (i*k+j) v (by rwa [ou]at a))
   (fun j a=>s _ (by rw[r]at a;omega)) (fun j a=>C _) (fun v Z=>K v (Hb Z))
 obtain⟨m,o⟩: ∃m,m=w.drew.setCells b (i*k+k) (cs.drop (i*k)):=⟨_,rfl⟩;have X: ∀t,t<(n+1)*k→(m.cell? ⟨b,t,none⟩).isSome=true:=fun t Y=>by
  rw[o];exact isSome_setCells b (cs.drop (i*k)) (i*k+k) w.drew (fun j a=>s _ (by rw[r]at a;omega)) _ (s t Y)
 have Q: ∀(W:World),(∀x,W.cell? x=m.cell? x)→(∀x,W.frozen? x=m.frozen? x)→ ∀f d,(Builtin.copy_ #[(ρ.t 24),(ρ.t 24)] f #[.slice (some ⟨b,i*k,none⟩) (n+1-i) d,.slice (some ⟨dH,0,none⟩) 1 p]).run P W= .ok (goInt (Nat.min 1 (n+1-i))) (W.setCells b (i*k) g):=fun W z N f d=>
  MJ W _ _ f (ρ.t 9) G b (i*k) (n+1-i) d ⟨dH,0,none⟩ 1 p g L.t24 D (by rw[xK,E,show Nat.min 1 (n+1-i)=1 by simp only[Nat.min_def];split<;>omega,Nat.one_mul])
   (fun j v a=>by
    rw[Addr.add_lit,c1,z,o,World.cell?_setCells_out b _ _ _ _ (fun h _=>absurd h F)];exact pf j v a)
   (fun j a=>by rw[z];exact X _ (by
    have:(i+1)*k≤(n+1)*k:=g7 k (by omega);omega)) (fun j a=>by rw[N,o,World.frozen?_setCells];exact C _) M
 rw[←o]at A;obtain⟨_,_,nB⟩:=L.F
 go_enter nB,Body2.n22_ntmps ρ
 go_wp2_with (simp only[T])
 go_region_law_o (refine step_copy_runI rfl _ _ (ρ.t 24) (ρ.t 24) rfl _ _ (by simp [Act.eval,Act.put]) (by simp [Act.eval,Act.put]) (A _ _ _) ?_)
 go_wp2_with (at_builtin;refine wpList_copy_runI _ rfl _ _ (ρ.t 24) (ρ.t 24) rfl _ _ rfl rfl (Q _ (fun _=>rfl) (fun _=>rfl) _ _) ?_)
 go_ret
 first|exact⟨rfl,rfl⟩|exact⟨rfl,by rw[o]⟩
set_option maxHeartbeats 4000000 in
set_option maxRecDepth 100000 in
theorem atc{k bytes:Nat}{z:Value}(L:pQ P ρ k bytes z)(b n c dH d:Nat)(a:List Value)(w:World)(q:n+1≤c)(t:a.length=k)
  (r: ∀j,j<(n+1)*k→(w.cell? ⟨b,j,none⟩).isSome=true) (o: ∀j,w.frozen? ⟨b,j,none⟩=false) (x: ∀j v,a[j]? =some v→w.cell? ⟨dH,j,none⟩=some v) (m: ∀v∈a,v.oneCell'=true):
  Calls P (ρ.f 22) #[.slice (some ⟨b,0,none⟩) n c,.int .i64 n,.slice (some ⟨dH,0,none⟩) 1 d] w fun e w'=>
   e= .returned (.slice (some ⟨b,0,none⟩) (n+1) c)∧w'=w.setCells b (n*k) a:=by
 have E:=eY L.t3;have D:=eY L.t24;have mixed:=L.mixed;have C:=L.t3;have B:=L.t24;have F:=L.z9;obtain⟨h,p,y,g,_⟩:=info_parts L.i9;have s:Src P h.size (ρ.t 24) (.slice (some ⟨dH,0,none⟩) 1 d) 1 a w:=Src.ofSlice w L.t24 ⟨dH,0,none⟩ 1 d a (by rw[t,g,Nat.one_mul]) (fun j u f=>by rw[Addr.add_lit,c1];exact x j u f) m;have A:(n+1)*k=n*k+k:=ir _ _;have l: ∀i,(Builtin.append_ #[ρ.t 24,ρ.t 24] i #[.slice (some ⟨b,0,none⟩) n c,.slice (some ⟨dH,0,none⟩) 1 d]).run P w= .ok (.slice (some ⟨b,0,none⟩) (n+1) c) (w.setCells b (0+n*h.size) a):=fun i=>
  run_append_room_src w (ρ.t 24) (ρ.t 24) i (ρ.t 9) h L.t24 p b 0 n c _ 1 a s q (fun j f=>by rw[g,c1];exact r _ (by omega)) (fun j f=>o _)
 rw[g,c1]at l;obtain⟨_,_,nB⟩:=L.F
 go_enter nB,Body2.n22_ntmps ρ
 go_wp2_with (at_builtin;refine Lib.wpList_append_run _ rfl _ _ _ _ rfl _ _ rfl rfl _ _ (l _) ?_)
 go_ret
 exact⟨rfl,rfl⟩
set_option maxHeartbeats 4000000 in
set_option maxRecDepth 100000 in
theorem ad0{k bytes:Nat}{z:Value}(L:pQ P ρ k bytes z)(base:Option Addr)(n c dH f:Nat)(cs b:List Value)(w:World)(K:n≤c)(s:c<n+1)(y:(n+1)*bytes≤140737488355328)(J:n≤549755813888)
  (g:cs.length=n*k) (E:b.length=k) (r:base=none→n=0)
  (A: ∀a,base=some a→ ∀j v,cs[j]? =some v→w.cell? (a.add j)=some v) (F: ∀j v,b[j]? =some v→w.cell? ⟨dH,j,none⟩=some v) (t: ∀v∈b,v.oneCell'=true):
  Calls P (ρ.f 22) #[.slice base n c,.int .i64 n,.slice (some ⟨dH,0,none⟩) 1 f] w fun e w'=>
   e= .returned (.slice (some ⟨w.heap.size,0,none⟩) (n+1) (grownCap w (n+1) c (ρ.t 9)))∧
   w'=w.drew.alloc (.cells ((cs++b).toArray++Builtin.zeroCells z.cells (grownCap w (n+1) c (ρ.t 9)- (n+1))) (ρ.t 9)):=by
 have Q:=eY L.t3;have O:=eY L.t24;have mixed:=L.mixed;have N:=L.t3;have M:=L.t24;have R:=L.z9;obtain⟨l,B,d,q,x⟩:=info_parts L.i9;have D:Src P l.size (ρ.t 24) (.slice (some ⟨dH,0,none⟩) 1 f) 1 b w:=Src.ofSlice w L.t24 ⟨dH,0,none⟩ 1 f b (by rw[E,q,Nat.one_mul]) (fun j u h=>by rw[Addr.add_lit,c1];exact F j u h) t;have C:(Builtin.firstCells l.size n (.slice base n c)).run P w.drew= .ok cs.toArray w.drew:=by
  rw[q]
  cases base with
  |none=>
   have d:=r rfl;subst d;rw[Nat.zero_mul]at g;rw[Ha.1 g];exact run_firstCells_none w.drew k 0 0 c
  |some a=>exact Hc w.drew k n a n c cs g (fun j v h=>A a rfl j v h)
 have i: ∀m,(Builtin.append_ #[(ρ.t 24),(ρ.t 24)] m #[.slice base n c,.slice (some ⟨dH,0,none⟩) 1 f]).run P w=_:=fun m=>
  run_append_grow_src w (ρ.t 24) (ρ.t 24) m (ρ.t 9) l _ L.t24 B d base n c cs C _ 1 b D s (by omega) (by rw[x];exact growslice_fits s y)
 obtain⟨o,p⟩: ∃o:Array Value,o=(cs++b).toArray++Builtin.zeroCells z.cells (grownCap w (n+1) c (ρ.t 9)- (n+1)):=⟨_,rfl⟩;rw[←p]at i ⊢;clear p;obtain⟨_,_,nB⟩:=L.F
 go_enter nB,Body2.n22_ntmps ρ
 cases base with
 |none=>
  have d:=r rfl;subst d
  go_wp2_with (at_builtin;refine Lib.wpList_append_run _ rfl _ _ _ _ rfl _ _ rfl rfl _ _ (i _) ?_)
  go_ret
  exact⟨rfl,rfl⟩
 |some a=>
  obtain⟨G,H,I⟩:=a
  go_wp2_with (at_builtin;refine Lib.wpList_append_run _ rfl _ _ _ _ rfl _ _ rfl rfl _ _ (i _) ?_)
  all_goals (go_ret;exact⟨rfl,rfl⟩)
set_option maxHeartbeats 4000000 in
set_option maxRecDepth 100000 in
theorem atd{k bytes:Nat}{z:Value}(L:pQ P ρ k bytes z)(K8:0<k)(xO: ∀m,(Builtin.zeroCells z.cells m).size=m*k)(b n c i dH I:Nat)(cs f:List Value)(w:World)(iG:i<n)(me:n≤c)(Ft:c<n+1)(jA:(n+1)*bytes≤140737488355328)(A7:n≤549755813888)
  (K:cs.length=n*k) (xK:f.length=k) (C: ∀j v,cs[j]? =some v→w.cell? ⟨b,j,none⟩=some v)
  (R: ∀j v,f[j]? =some v→w.cell? ⟨dH,j,none⟩=some v) (T: ∀v∈cs,v.oneCell'=true) (U: ∀v∈f,v.oneCell'=true):
  Calls P (ρ.f 22) #[.slice (some ⟨b,0,none⟩) n c,.int .i64 i,.slice (some ⟨dH,0,none⟩) 1 I] w fun e w'=>
   e= .returned (.slice (some ⟨w.heap.size,0,none⟩) (n+1) (grownCap w (n+1) c (ρ.t 9)))∧
   w'=(((w.alloc (.cells ((cs.take (i*k)).toArray++Builtin.zeroCells z.cells (n+1-i)++Builtin.zeroCells z.cells (grownCap w (n+1) c (ρ.t 9)- (n+1))) (ρ.t 9))).drew.setCells w.heap.size (i*k) f).drew).setCells w.heap.size (i*k+k) (cs.drop (i*k)):=by
 have aBN:=eY L.t3;have aBM:=eY L.t24;have mixed:=L.mixed;have t3:=L.t3;have t24:=L.t24;have z9:=L.z9;obtain⟨u,D,xN,F,S⟩:=info_parts L.i9;have asX: ¬((i:Int)=(n:Int)):=by omega
 have aD8:(c:Int)<(n:Int)+1:=by omega
 have adD:(n+1)*k=n*k+k:=ir _ _;have aDK:i*k+(n-i)*k=n*k:=by rw[←hi];congr 1;omega
 have Lh:0<(n-i)*k:=Nat.mul_pos (by omega) K8;have aru:b<w.heap.size:=block_lt_of_cell (C 0 _ (cI (by omega)));have asP:dH<w.heap.size:=block_lt_of_cell (R 0 _ (cI (by omega)));have O:(n:Int)+1- (i:Int)=((n+1-i:Nat):Int):=by omega
 have E:i+(n+1-i)=n+1:=by omega
 have Q:(Builtin.firstCells u.size i (.slice (some ⟨b,0,none⟩) i c)).run P w.drew= .ok (cs.take (i*k)).toArray w.drew:=by
  rw[F];exact Hc w.drew k i ⟨b,0,none⟩ i c (cs.take (i*k)) (by rw[jj];omega) (fun j v d=>by
   rw[Addr.add_lit,c1];rw[G7]at d
   split at d
   ·exact C j v d
   ·cases d)
 have s: ∀g,(Builtin.append_ #[(ρ.t 24),(ρ.t 3)] g #[.slice (some ⟨b,0,none⟩) i c,.int .i64 ((n:Int)+1- (i:Int))]).run P w=
   .ok (.slice (some ⟨w.heap.size,0,none⟩) (n+1) (grownCap w (n+1) c (ρ.t 9))) (w.drew.alloc (.cells ((cs.take (i*k)).toArray++Builtin.zeroCells z.cells (n+1-i)++Builtin.zeroCells z.cells (grownCap w (n+1) c (ρ.t 9)- (n+1))) (ρ.t 9))):=fun g=>by
  have hle:(n+1-i)*bytes≤(n+1)*bytes:=g7 _ (by omega);have h:=Lib.run_append_grow_zeros w (ρ.t 24) (ρ.t 3) g (ρ.t 9) u _ .i64 .i64 L.t24 L.t3 D xN (some ⟨b,0,none⟩) i c (cs.take (i*k)) Q (n+1-i) (by omega) (by omega) (by omega) (by omega) (by rw[S];omega) (by rw[S,E];exact growslice_fits Ft jA);rw[E]at h;rw[O];exact h
 obtain⟨G,r⟩: ∃G,G=grownCap w (n+1) c (ρ.t 9):=⟨_,rfl⟩;obtain⟨a,A⟩: ∃a:Array Value,a=(cs.take (i*k)).toArray++Builtin.zeroCells z.cells (n+1-i)++Builtin.zeroCells z.cells (G- (n+1)):=⟨_,rfl⟩;rw[←r]at s ⊢;rw[←A]at s ⊢;have ara:(n+1)*k≤a.size:=by
  rw[A];simp only[vB,pI,jj,xO,K];have:(n+1-i)*k=(n-i)*k+k:=by rw[show n+1-i=n-i+1 by omega];exact ir _ _
  omega
 obtain⟨l,p⟩: ∃l,l=w.drew.alloc (.cells a (ρ.t 9)):=⟨_,rfl⟩;rw[←p]at s;have y: ∀j,j<(n+1)*k→(l.cell? ⟨w.heap.size,j,none⟩).isSome=true:=fun j d=>by
  rw[p,World.cell?_alloc_at (w:=w.drew) a _ w.heap.size j rfl,pH (by omega)];rfl
 have J: ∀j,l.frozen? ⟨w.heap.size,j,none⟩=false:=fun j=>by rw[p];exact World.frozen?_alloc_at (w:=w.drew) a _ w.heap.size j rfl
 have aq6: ∀j v,w.cell? ⟨b,j,none⟩=some v→l.cell? ⟨b,j,none⟩=some v:=fun j v h=>by rw[p,World.cell?_alloc_past (w:=w.drew) _ b j aru];exact h
 have aq7: ∀j v,w.cell? ⟨dH,j,none⟩=some v→l.cell? ⟨dH,j,none⟩=some v:=fun j v h=>by rw[p,World.cell?_alloc_past (w:=w.drew) _ dH j asP];exact h
 have arF: ∀(W:World),(∀x,W.cell? x=l.cell? x)→(∀x,W.frozen? x=l.frozen? x)→ ∀g o,(Builtin.copy_ #[(ρ.t 24),(ρ.t 24)] g #[.slice (some ⟨w.heap.size,i*k,none⟩) (n+1-i) o,.slice (some ⟨dH,0,none⟩) 1 I]).run P W= .ok (goInt (Nat.min 1 (n+1-i))) (W.setCells w.heap.size (i*k) f):=fun W q B g o=>
  MJ W _ _ g (ρ.t 9) u w.heap.size (i*k) (n+1-i) o ⟨dH,0,none⟩ 1 I f L.t24 D (by rw[xK,F,show Nat.min 1 (n+1-i)=1 by simp only[Nat.min_def];split<;>omega,Nat.one_mul])
   (fun j v d=>by rw[Addr.add_lit,q,c1];exact aq7 _ v (R j v d))
   (fun j d=>by rw[q];exact y _ (by omega)) (fun j d=>by rw[B];exact J _) U
 have aDs:n+1≤G:=by rw[r];exact vA w _ _ _
 have aDo:G≤9223372036854775807:=by
  have:=grownCap_le_maxLen w (n+1) c (ρ.t 9) (by unfold maxLen;omega);rw[←r]at this;unfold maxLen at this;omega
 have aDp: ¬(G=i):=by omega
 have aDq: ¬(G=i+1):=by omega
 have aDE: ¬(c=i):=by omega
 have arp:b≠w.heap.size:=by omega
 have N:(cs.drop (i*k)).length=(n-i)*k:=by rw[rl,K];omega
 have M: ∀(W:World),(∀x,W.cell? x=(l.setCells w.heap.size (i*k) f).cell? x)→(∀x,W.frozen? x=(l.setCells w.heap.size (i*k) f).frozen? x)→ ∀g o H,(Builtin.copy_ #[(ρ.t 24),(ρ.t 24)] g #[.slice (some ⟨w.heap.size,i*k+k,none⟩) (n-i) o,.slice (some ⟨b,i*k,none⟩) (n-i) H]).run P W= .ok (goInt (Nat.min (n-i) (n-i))) (W.setCells w.heap.size (i*k+k) (cs.drop (i*k))):=fun W q B g o H=>
  MJ W _ _ g (ρ.t 9) u w.heap.size (i*k+k) (n-i) o ⟨b,i*k,none⟩ (n-i) H (cs.drop (i*k)) L.t24 D (by rw[N,F,show Nat.min (n-i) (n-i)=n-i by simp])
   (fun j v d=>by
    rw[Addr.add_lit,q,World.cell?_setCells_out _ _ _ _ _ (fun h _=>absurd h arp)];exact aq6 _ v (C (i*k+j) v (by rwa [ou]at d)))
   (fun j d=>by rw[q];exact isSome_setCells _ _ _ _ (fun t h2=>y _ (by omega)) _ (y _ (by rw[N]at d;omega)))
   (fun j d=>by rw[B,World.frozen?_setCells];exact J _) (fun v c3=>T v (Hb c3))
 subst p;have V: ∀x,((w.alloc (.cells a (ρ.t 9))).drew).cell? x=(w.drew.alloc (.cells a (ρ.t 9))).cell? x:=fun x=>rfl;have X: ∀x,((w.alloc (.cells a (ρ.t 9))).drew).frozen? x=(w.drew.alloc (.cells a (ρ.t 9))).frozen? x:=fun x=>rfl;have Y: ∀x,(((w.alloc (.cells a (ρ.t 9))).drew.setCells w.heap.size (i*k) f).drew).cell? x=((w.drew.alloc (.cells a (ρ.t 9))).setCells w.heap.size (i*k) f).cell? x:=fun x=>rfl;have Z: ∀x,(((w.alloc (.cells a (ρ.t 9))).drew.setCells w.heap.size (i*k) f).drew).frozen? x=((w.drew.alloc (.cells a (ρ.t 9))).setCells w.heap.size (i*k) f).frozen? x:=fun x=>rfl;have asQ:i64.wrap ((i:Int)+1)=(i:Int)+1:=by rw[IntKind.wrap_i64];omega
 have asR:i64.wrap ((n:Int)+1)=(n:Int)+1:=by rw[IntKind.wrap_i64];omega
 have aD5:i64.wrap ((n:Int)+1- (i:Int))=(n:Int)+1- (i:Int):=by rw[IntKind.wrap_i64];omega
 have arl:(0:Int)≤(i:Int)+1:=by omega
 have sL:i≤n:=by omega
 have asG:((i:Int)+1).toNat=i+1:=by omega
 have aro:(i:Int)≤(n:Int):=by omega
 clear O E Q A r ara;obtain⟨_,_,nB⟩:=L.F
 go_enter nB,Body2.n22_ntmps ρ
 go_wp2_with (first
  |(at_builtin;refine Lib.wpList_append_run _ rfl _ _ _ _ rfl _ _ rfl rfl _ _ (s _) ?_)
  |(at_builtin;refine wpList_copy_runI _ rfl _ _ (ρ.t 24) (ρ.t 24) rfl _ _ rfl rfl (arF _ V X _ _) ?_)
  |(at_builtin;refine wpList_copy_runI _ rfl _ _ (ρ.t 24) (ρ.t 24) rfl _ _ rfl rfl (M _ (fun _=>rfl) (fun _=>rfl) _ _ _) ?_))
 go_region_law_o (refine step_copy_runI rfl _ _ (ρ.t 24) (ρ.t 24) rfl (.slice (some ⟨w.heap.size,i*k+k,none⟩) (n-i) (G- (i+1))) (.slice (some ⟨b,i*k,none⟩) (n-i) (c-i)) (by simp [Act.eval,Act.put,hi]) (by simp [Act.eval,Act.put]) (M _ Y Z (ρ.t 3) (G- (i+1)) (c-i)) ?_)
 go_wp2
 go_ret
 exact⟨rfl,rfl⟩
end
end Go.af
namespace Go.af
open Go Go.Lib Go.Proofs Go.RowKit Go.Shelf Go.Sort
section
variable {P:Program} {ρ:Ren}
set_option maxHeartbeats 4000000 in
set_option maxRecDepth 1000000 in
theorem anA(k:Nat)(mixed:P.follows .mixedOrders=true)(F:Bears P (ρ.f 45) (SlBodyN.n45 ρ))
  (K:P.underlying (ρ.t 22)=some (TypeDesc.slice (ρ.t 23)))
  (aEF: ∀w,(Go.sizeOf (ρ.t 23)).run P w= .ok k w) (z:Value) (V: ∀w,(zeroValue (ρ.t 23)).run P w= .ok z w) (s:TypeInfo) (M:P.info? (ρ.t 23)=some s) (R:s.size=k)
  (a b n i j:Nat) (w:World) (news f:List Value) (H:(Builtin.zeroCells z.cells (j-i)).toList=f) (J:f.length=(j-i)*k) (I: ∀v∈f,v.oneCell'=true)
  (g:news.length=(n-j)*k) (y: ∀v∈news,v.oneCell'=true) (E: ∀t u,news[t]? =some u→w.cell? ⟨a,j*k+t,none⟩=some u)
  (m: ∀t,t<n*k→(w.cell? ⟨a,t,none⟩).isSome=true) (D: ∀t,w.frozen? ⟨a,t,none⟩=false)
  (X:n≤b) (sK:i<j) (fg:j≤n):
  Calls P (ρ.f 45) #[.slice (some ⟨a,0,none⟩) n b,.int .i64 i,.int .i64 j] w fun e w'=>e= .returned (.slice (some ⟨a,0,none⟩) (n- (j-i)) b)∧w'=(w.drew.setCells a (i*k) news).setCells a ((i+(n-j))*k) f:=by
 obtain⟨A,W,Q⟩: ∃A:Addr,(if b=j then some (⟨a,0,none⟩:Addr)else some ⟨a,j*k,none⟩)=some A∧Hid (∀t u,news[t]? =some u→w.drew.cell? (A.add t)=some u):=by
  by_cases h:b=j
  ·refine⟨⟨a,0,none⟩,by simp [h],fun t u o=> ?_⟩;have L:news.length=0:=by rw[g,show n-j=0 by omega,Nat.zero_mul]
   rw[Ha.1 L]at o;simp at o
  ·refine⟨⟨a,j*k,none⟩,by simp [h],fun t u o=> ?_⟩;rw[Addr.add_lit];exact E t u o
 have adD:(n-j)*k≤n*k:=g7 k (by omega);have arZ:i*k+(n-j)*k+(j-i)*k=n*k:=by rw[←hi,←hi];congr 1;omega
 have S:Hid (news.length=(n-j)*k):=g;have T:Hid (∀u∈news,u.oneCell'=true):=y;have U:Hid (∀t,t<news.length→(w.drew.cell? ⟨a,0+i*k+t,none⟩).isSome=true∧w.drew.frozen? ⟨a,0+i*k+t,none⟩=false):=by
  intro t r;rw[g]at r;rw[c1];exact⟨m _ (by omega),D _⟩
 obtain⟨d,l⟩: ∃d,d=w.drew.setCells a (0+i*k) news:=⟨_,rfl⟩;have G: ∀t,t<n*k→(d.cell? ⟨a,t,none⟩).isSome=true:=fun t r=>by
  rw[l,c1]
  by_cases N:i*k≤t∧t<i*k+news.length
  ·have:=World.cell?_setCells_in a news (i*k) w.drew (fun q p=>m _ (by rw[g]at p;omega)) (t-i*k) (by omega);rw[show i*k+(t-i*k)=t by omega]at this;rw[this];rfl
  ·rw[World.cell?_setCells_out a news (i*k) w.drew ⟨a,t,none⟩ (fun _ _=>by show t<i*k∨i*k+news.length≤t;omega)];exact m t r
 have C: ∀t,d.frozen? ⟨a,t,none⟩=false:=fun t=>by rw[l,World.frozen?_setCells];exact D t
 have O:0<n- (i+(n-j)):=by omega
 have Y: ∀x c,(Builtin.clear_ #[ρ.t 22] x #[.slice (some ⟨a,(i+(n-j))*k,none⟩) (n- (i+(n-j))) c]).run P d= .ok (.tuple #[]) (d.setCells a ((i+(n-j))*k) f):=fun x c=>
  ag6 d _ _ x _ K V a _ _ _ O f (by rw[show n- (i+(n-j))=j-i by omega];exact H) I (fun q p=>G _ (by rw[J]at p;rw[hi];omega)) (fun q _=>C _)
 have B:Hid (d=w.drew.setCells a (0+i*k) news):=l;have Z:i≤b:=by omega
 have aDO:j≤b:=by omega
 have N:i≤n:=by omega
 have je: ¬((i:Int)=(j:Int)):=by omega
 clear l E g H J I y G C m;obtain⟨_,_,nB⟩:=F
 go_enter nB,SlBodyN.n45_ntmps ρ
 go_wp2_with fail
 go_region_law_o (refine step_append_room rfl (.tmp 22) (.tmp 25) (ρ.t 22) rfl (ρ.t 23) s k K M R a 0 i b (by simp [Act.eval,Act.put]) A (n-j) (b-j) news (by simp [Act.eval,Act.put]) S.out Q.out T.out (by omega) U.out ?_;rw[←B.out])
 go_wp2
 go_ret
 refine⟨by rw[show n- (j-i)=i+(n-j) by omega];rfl,?_⟩;rw[B.out,c1]
end
end Go.af
