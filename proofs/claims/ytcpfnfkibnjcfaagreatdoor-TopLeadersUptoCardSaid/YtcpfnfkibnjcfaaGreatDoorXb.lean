import Derived.Test.YtcpfnfkibnjcfaaGreatDoorXa
import Derived.Deep.AppendSrc
import Derived.Great.FillDense
import Derived.Laws.BytesString
import Derived.Laws.IdiomStrings
import Derived.Great.BuildSlice
import Derived.Laws.Slices
import Derived.Laws.Small
import Derived.Laws.MakeOwn
import Derived.ProofKit
import Derived.ChangeSame
import Derived.ChangeArms
import Derived.Carry
import Derived.Laws.StructEq
import Derived.LoopN
import Derived.Laws.IdiomCopy
import Derived.Shelf.Spec.SlicesInsertGrow
import Derived.Shelf.SlGeneric
import Derived.Shelf.SlBodiesN
import Derived.Shelf.RegionOpenPlain
import Derived.WalkKit
import Derived.Deep.LoopGhost
import Derived.Deep.RegionLaw
import Derived.Lib.Walk
import Derived.Sort.WalkB12
import Derived.Lib.SliceRun
import Derived.Lib.SlicesDelete
open Go.IntKind (i64 u64 u8)
open Int (toNat)
set_option maxRecDepth 100000
set_option maxHeartbeats 4000000
set_option linter.all false
noncomputable section
namespace Go.ag
open Go Go.RowKit
section
variable {E:Env} {S:ez} {ι:Nat->Option Nat} {st:O} {a:Act} {w:World}
def DX(H:Heap)(b:Nat)(c:J):bN H [(b,0,c)]=bM H b 0 c:=rfl
def a2.Jw(h:a2 S ι st a w){w':World}(m:Below w.heap.size w w'){b x:Nat}(Xo:w.heap.size<=x)(axF:x<w'.heap.size){af n c:Nat}{f:Nat->List J}{C:Array Value}{T:TypeId}
  (R:n<=dL) (U:n<=c) (v:w'.heap[x]? =some (.cells C T (0,0))) (N:C.size=c*af) {F':Nat->Prop} (O: ∀y,F' y->aX S ι st.k w y\/(w.heap.size<=y/\y<w'.heap.size/\y≠x))
  (dq: ∀i j,i<n->j<af-> ∃av u,(f i)[j]? =some av/\C[i*af+j]? =some u/\a6 w' F' av u)
  (F:((∀o,M st.k b o= .undef)/\ι b=none)\/ ∃r s,M st.k b 0= .ad false af r s/\r<n):
  a2 S (cC ι b x) ⟨st.n,bM st.k b 0 (.ad false af n f)⟩ a w'/\cu (cC ι b x) (bM st.k b 0 (.ad false af n f)) w' (aX S (cC ι b x) (bM st.k b 0 (.ad false af n f)) w') (.own b n) (.slice (some ⟨x,0,none⟩) n c):=by
 have A: ∀b' o,b'≠b->M (bM st.k b 0 (.ad false af n f)) b' o=M st.k b' o:=λb' o X=>by rw[fo,aW (λe=>X e.1)]
 have G:M (bM st.k b 0 (.ad false af n f)) b 0= .ad false af n f:=by rw[fo,bg ⟨rfl,rfl⟩]
 have Y: ∀z,ι b=some z->cv (M st.k b 0)=true:=λz q=>by
  rcases F with⟨_,k⟩|⟨r,s,d,_⟩
  .rw[k]at q;cases q
  .rw[d];rfl
 have B:eS ι st.k w (aX S ι st.k w) (cC ι b x) (bM st.k b 0 (.ad false af n f)) w' (aX S (cC ι b x) (bM st.k b 0 (.ad false af n f)) w'):=by
  refine⟨λy ⟨d,k,E⟩=>⟨d,hj k m.size,λb' Q=> ?_⟩,λy o ⟨_,k,_⟩=>m.cell k,λb' z q l=> ?_,λb' ro lu n' L l=> ?_⟩
  .unfold cC
   by_cases e:b'=b
   .simp only[e,ma];intro p;simp at p;omega
   .simp only[e,oe];exact E b' (pr (λo=>A b' o e) Q)
  .have e:b'≠b:=λe=>by rw[e]at q l;rw[Y z q]at l;cases l
   exact⟨by simp [cC,e,q],by rw[A _ _ e];exact l⟩
  .by_cases e:b'=b
   .subst e;rcases F with⟨d,_⟩|⟨r,s,d,k⟩
    .rw[d]at l;cases l
    .rw[d]at l;cases l;exact⟨false,_,n,f,G,Ω,λe=>by omega⟩
   .refine⟨ro,_,n',L,by rw[A _ _ e];exact l,bH _,λ_=>⟨rfl,by simp [cC,e],λy C mh g v=>⟨C,?_,rfl⟩⟩⟩;rw[m.block y (h.fresh _ _ g).2];exact v
 have P: ∀y,F' y->aX S (cC ι b x) (bM st.k b 0 (.ad false af n f)) w' y:=λy g=>by
  rcases O y g with g|⟨d,k,E⟩
  .exact B.iL y g
  .refine⟨.inr (ec h.below.size d),k,λb' _ p=> ?_⟩;unfold cC at p
   by_cases e:b'=b<;>simp only[e,ma,oe]at p
   .simp at p;exact E p.symm
   .have:=(h.fresh _ _ p).2;omega
 refine⟨⟨h.below.trans (m.mono h.below.size),h.defers,λt av Z=> ?_,λb' o=> ?_,λcw a5 y d k=> ?_,λb' y g=> ?_,λb' y g=> ?_,h.hs.trans B⟩,?_⟩
 .obtain⟨aL,d,k⟩:=h.n t av Z;exact⟨aL,d,k.step B⟩
 .by_cases e:b'=b
  .subst e
   by_cases D:o=0
   .subst D;show fC _ _ _ _ _ _ (M (bM st.k b' 0 (.ad false af n f)) b' 0);rw[G];refine⟨rfl,.inr ⟨R,.inr ⟨x,C,T,by simp [cC],v,λi j V W=> ?_⟩⟩⟩;have⟨av,u,ix,gF,j0⟩:=dq i j V W;exact⟨av,u,ix,gF,j0.mono P λ_ _ _=>rfl⟩
   .show fC _ _ _ _ _ _ (M (bM st.k b' 0 (.ad false af n f)) b' o);rw[fo,aW (λe=>D e.2)];have hu:M st.k b' o= .undef:=by
     rcases F with⟨d,_⟩|⟨r,s,d,_⟩
     .exact d o
     .have H:=h.k b' o
      cases e:M st.k b' o<;>rw[e]at H<;>first|rfl|(have:=H.1;rw[d]at this;cases this;done)|exact absurd H.1 D
    rw[hu];trivial
  .show fC _ _ _ _ _ _ (M (bM st.k b 0 (.ad false af n f)) b' o);rw[A _ _ e];exact(h.k b' o).step B (λ_=>by simp [cC,e]) (λy g _=>⟨m.cell (h.fresh _ _ g).2,m.frozen (h.fresh _ _ g).2⟩) (λ_=>⟨by simp [cC,e],λy g=>m.block y (h.fresh _ _ g).2⟩)
 .unfold cC at d k
  by_cases I:cw=b<;>by_cases K:a5=b<;>simp only[I,K,ma,oe]at d k
  .omega
  .simp at d;have:=(h.fresh _ _ k).2;omega
  .simp at k;have:=(h.fresh _ _ d).2;omega
  .exact h.inj _ _ _ d k
 .unfold cC at g
  by_cases e:b'=b<;>simp only[e,ma,oe]at g
  .simp at g;subst g;exact⟨.inl (ec h.below.size Xo),axF⟩
  .have:=h.fresh _ _ g;exact⟨this.1,hj this.2 m.size⟩
 .unfold cC at g
  by_cases e:b'=b
  .rw[e];exact(nj _ _ _ _).2
  .simp only[e,oe]at g;exact hj (h.hn _ _ g) (nj _ _ _ _).1
 .exact⟨rfl,false,af,n,f,G,bH _,λ_=> .inl ⟨x,c,C,T,by simp [cC],rfl,U,v,N⟩⟩
def a2.Po(h:a2 S ι st a w){b:Nat}(n: ∀o,M st.k b o= .undef)(l:ι b=none)(c:Nat)(f:Nat->List J):
  a2 S ι ⟨st.n,bM st.k b 0 (.ad false c 0 f)⟩ a w/\eS ι st.k w (aX S ι st.k w) ι (bM st.k b 0 (.ad false c 0 f)) w (aX S ι (bM st.k b 0 (.ad false c 0 f)) w)/\
  ∀F,cu ι (bM st.k b 0 (.ad false c 0 f)) w F (.own b 0) (.slice none 0 0):=by
 have g: ∀b' o,b'≠b->M (bM st.k b 0 (.ad false c 0 f)) b' o=M st.k b' o:=λb' o G=>by rw[fo,aW (λe=>G e.1)]
 have q:M (bM st.k b 0 (.ad false c 0 f)) b 0= .ad false c 0 f:=by rw[fo,bg ⟨rfl,rfl⟩]
 have r: ∀b' x,ι b'=some x->b'≠b:=λb' x s e=>by rw[e,l]at s;cases s
 have i:eS ι st.k w (aX S ι st.k w) ι (bM st.k b 0 (.ad false c 0 f)) w (aX S ι (bM st.k b 0 (.ad false c 0 f)) w):=by
  refine⟨λy ⟨j,k,B⟩=>⟨j,k,λb' E p=> ?_⟩,λy o _=>rfl,λb' z u d=>⟨u,by rw[g _ _ (r _ _ u)];exact d⟩,λb' L O K A d=> ?_⟩
  .exact B b' (pr (λo=>g b' o (r _ _ p)) E) p
  .have e:b'≠b:=λe=>by rw[e,n]at d;cases d
   exact⟨L,_,K,A,by rw[g _ _ e];exact d,bH _,λ_=>⟨rfl,rfl,λy C N _ D=>⟨C,D,rfl⟩⟩⟩
 refine⟨⟨h.below,h.defers,λt av H=> ?_,λb' o=> ?_,h.inj,h.fresh,λb' y I=>hj (h.hn _ _ I) (nj _ _ _ _).1,h.hs.trans i⟩,i,λF=>⟨rfl,false,c,0,f,q,bH _,λ_=> .inr ⟨rfl,l,rfl⟩⟩⟩
 .obtain⟨v,j,k⟩:=h.n t av H;exact⟨v,j,k.step i⟩
 .show fC _ _ _ _ _ _ (M (bM st.k b 0 (.ad false c 0 f)) b' o)
  by_cases e:b'=b
  .subst e
   by_cases m:o=0
   .subst m;rw[q];exact⟨rfl,.inr ⟨cd _,.inl ⟨rfl,l⟩⟩⟩
   .rw[fo,aW (λe=>m e.2),n];trivial
  .rw[g _ _ e];exact(h.k b' o).step i (λ_=>rfl) (λ_ _ _=>⟨rfl,rfl⟩) (λ_=>⟨rfl,λ_ _=>rfl⟩)
def ta(b:Nat): ∀(a:List Value) (o:Nat) (w:World) (C:Array Value) (T:TypeId) (z:Nat×Nat),w.heap[b]? =some (.cells C T z)->
  (∃d:Array Value,(w.setCells b o a).heap[b]? =some (.cells d T z)/\d.size=C.size/\ ∀k,d[k]? =if o<=k/\k<o+a.length/\k<C.size then a[k-o]? else C[k]?)/\
  (w.setCells b o a).heap.size=w.heap.size/\(∀k,k≠b->(w.setCells b o a).heap[k]? =w.heap[k]?)/\(w.setCells b o a).os=w.os/\(w.setCells b o a).tape=w.tape/\(w.setCells b o a).output=w.output
 |[],o,w,C,T,z,h=>by
  refine⟨⟨C,h,rfl,λk=> ?_⟩,rfl,λ_ _=>rfl,rfl,rfl,rfl⟩;rw[aW (by simp;omega)]
 |v::a,o,w,C,T,z,h=>by
  have q:(w.setCell ⟨b,o,none⟩ v).heap[b]? =some (.cells (C.setIfInBounds o v) T z):=by
   simp only[World.setCell,Array.getElem?_modify];rw[h];simp
  have⟨⟨d,f,g,i⟩,j,l,m,n,p⟩:=ta b a (o+1) (w.setCell ⟨b,o,none⟩ v) _ T z q;simp only[World.setCells];refine⟨⟨d,f,by simpa using g,λk=> ?_⟩,by simpa using j,λk c=>by rw[l k c,Below.heap_setCell _ _ _ _ c],by rw[m];rfl,by rw[n];rfl,by rw[p];rfl⟩;rw[i];simp only[Array.size_setIfInBounds,dE]
  by_cases e:k=o
  .subst e;rw[aW Ω]
   by_cases c:k<C.size
   .rw[bg ⟨bH _,Ω,c⟩];simp [c]
   .rw[aW Ω];simp [c]
  .by_cases c:o+1<=k/\k<o+1+a.length/\k<C.size
   .rw[bg c,bg ⟨Ω,Ω,c.2.2⟩,show k-o=(k- (o+1))+1 by omega];simp
   .rw[aW c,aW Ω];rw[J4 (λh=>e h.symm)]
def a2.aFh(h:a2 S ι st a w){b x af n m c:Nat}{f g hh:Nat->List J}(xP: ∀i,i<n+m->iH n f g i=hh i){C:Array Value}{T:TypeId}(s:M st.k b 0= .ad false af n f)(q:ι b=some x)(R:w.heap[x]? =some (.cells C T (0,0)))(l0:C.size=c*af)
  (Ix:n+m<=c) (kK:n+m<=dL) (r:List Value) (H:r.length=m*af) (dq: ∀i j,i<m->j<af-> ∃av v,(g i)[j]? =some av/\r[i*af+j]? =some v/\a6 w (aX S ι st.k w) av v):
  a2 S ι ⟨st.n,bM st.k b 0 (.ad false af (n+m) hh)⟩ a (w.setCells x (n*af) r)/\
  cu ι (bM st.k b 0 (.ad false af (n+m) hh)) (w.setCells x (n*af) r) (aX S ι (bM st.k b 0 (.ad false af (n+m) hh)) (w.setCells x (n*af) r)) (.own b (n+m)) (.slice (some ⟨x,0,none⟩) (n+m) c):=by
 have⟨⟨N,K,G,aL⟩,O,z,ak,aA,aO⟩:=ta x r (n*af) w C T (0,0) R;generalize aIZ:w.setCells x (n*af) r=w' at*
 have F: ∀b' o,b'≠b->M (bM st.k b 0 (.ad false af (n+m) hh)) b' o=M st.k b' o:=λb' o Y=>by rw[fo,aW (λe=>Y e.1)]
 have U:M (bM st.k b 0 (.ad false af (n+m) hh)) b 0= .ad false af (n+m) hh:=by rw[fo,bg ⟨rfl,rfl⟩]
 have Iy:n8 st.k b:= .inl ⟨by rw[s];rfl,by rw[s];rfl⟩;have Ah: ∀y p,y≠x->w'.cell? ⟨y,p,none⟩=w.cell? ⟨y,p,none⟩:=λy p d=>World.cell?_of_block (z y d);have I: ∀b' y,ι b'=some y->b'≠b->y≠x:=λb' y d kl e=>kl (h.inj _ _ _ d (by rw[e];exact q));have l:eS ι st.k w (aX S ι st.k w) ι (bM st.k b 0 (.ad false af (n+m) hh)) w' (aX S ι (bM st.k b 0 (.ad false af (n+m) hh)) w'):=by
  refine⟨λy ⟨Q,A,B⟩=>⟨Q,by rw[O];exact A,λb' Af=> ?_⟩,λy o ⟨_,A,B⟩=>Ah y o (λe=>B b Iy (by rw[e];exact q)),λb' mS iw k=> ?_,λb' ro lu n' gD k=> ?_⟩
  .by_cases e:b'=b
   .rw[e];exact B b Iy
   .exact B b' (pr (λo=>F b' o e) Af)
  .have e:b'≠b:=λe=>by rw[e,s]at k;cases k
   exact⟨iw,by rw[F _ _ e];exact k⟩
  .by_cases e:b'=b
   .subst e;rw[s]at k;cases k;refine⟨false,_,n+m,_,U,Ω,λ_=>⟨rfl,rfl,λy D mh d E=> ?_⟩⟩;rw[q]at d;cases d;rw[R]at E;cases E;exact⟨N,K,G⟩
   .refine⟨ro,_,n',gD,by rw[F _ _ e];exact k,bH _,λ_=>⟨rfl,rfl,λy D mh d E=>⟨D,?_,rfl⟩⟩⟩;rw[z y (I _ _ d e)];exact E
 refine⟨⟨h.below.then ⟨ak,aA,aO,by rw[O];exact bH _,λhA k Y=>z hA (λe=>(h.fresh _ _ q).1.elim (λg=>by omega) λg=>Y (by rw[e];exact g))⟩,h.defers,λt av jI=> ?_,λb' o=> ?_,h.inj,λb' y d=>⟨(h.fresh _ _ d).1,by rw[O];exact(h.fresh _ _ d).2⟩,λb' y d=>hj (h.hn _ _ d) (nj _ _ _ _).1,h.hs.trans l⟩,?_⟩
 .obtain⟨jb,Q,A⟩:=h.n t av jI;exact⟨jb,Q,A.step l⟩
 .show fC _ _ _ _ _ _ (M (bM st.k b 0 (.ad false af (n+m) hh)) b' o)
  by_cases e:b'=b
  .subst e
   by_cases P:o=0
   .subst P;rw[U];refine⟨rfl,.inr ⟨kK,.inr ⟨x,N,T,q,K,λi j V ia=> ?_⟩⟩⟩;have X:=h.k b' 0;rw[s]at X;have vk:i*af+j<(n+m)*af:=by
     have:(i+1)*af<=(n+m)*af:=h4 af V;rw[jK]at this;omega
    have hmul:(n+m)*af<=c*af:=h4 af Ix;have av3:(n+m)*af=n*af+m*af:=ig _ _ _
    by_cases W:i<n
    .obtain⟨_,eh|⟨_,X|⟨u,By,tY,q1,gw,A0⟩⟩⟩:=X
     .cases eh.1
     .omega
     .rw[q]at q1;cases q1;rw[R]at gw;cases gw;have⟨av,v,Z,L,j0⟩:=A0 i j W ia;have ht:i*af+j<n*af:=by
       have:(i+1)*af<=n*af:=h4 af W;rw[jK]at this;omega
      refine⟨av,v,?_,?_,j0.mono l.iL l.cell⟩
      .have:Nat.blt i n=true:=by simpa[jL]using W
       rw[<-xP i V];simp only[iH,this,au];exact Z
      .rw[aL,aW Ω];exact L
    .obtain⟨av,v,Z,L,j0⟩:=dq (i-n) j Ω ia;have te:(i-n)*af=i*af-n*af:=E1 _ _ _;have vi:n*af<=i*af:=h4 af Ω;refine⟨av,v,?_,?_,j0.mono l.iL l.cell⟩
     .have:Nat.blt i n=false:=by
       cases e:Nat.blt i n with
       |false=>rfl
       |true=>exact absurd (hH e) Ω
      rw[<-xP i V];simp only[iH,this,aB];exact Z
     .rw[aL,bg ⟨Ω,Ω,Ω⟩];rw[te]at L;rw[show i*af+j-n*af=i*af-n*af+j by omega];exact L
   .rw[fo,aW (λe=>P e.2)];have hu:M st.k b' o= .undef:=by
     have H:=h.k b' o
     cases e:M st.k b' o<;>rw[e]at H<;>first|rfl|(have:=H.1;rw[s]at this;cases this;done)|exact absurd H.1 P
    rw[hu];trivial
  .rw[F _ _ e];exact(h.k b' o).step l (λ_=>rfl) (λy d _=>⟨Ah y o (I _ _ d e),World.frozen?_of_block (z y (I _ _ d e))⟩) (λ_=>⟨rfl,λy d=>z y (I _ _ d e)⟩)
 .exact⟨rfl,false,af,n+m,_,U,bH _,λ_=> .inl ⟨x,c,N,T,q,rfl,Ix,K,by rw[G];exact l0⟩⟩
def a2.freeze(h:a2 S ι st a w){H':Heap}(k: ∀b o,M H' b o=M st.k b o\/(o=0/\ ∃i j n f,M st.k b 0= .ad i j n f/\M H' b 0= .ad true j n f))(B:st.k.length<=H'.length):
  a2 S ι ⟨st.n,H'⟩ a w/\eS ι st.k w (aX S ι st.k w) ι H' w (aX S ι H' w):=by
 have q: ∀b,cv (M H' b 0)=cv (M st.k b 0):=λb=>by
  rcases k b 0 with c|⟨_,i,j,n,f,c,d⟩
  .rw[c]
  .rw[c,d];rfl
 have l:eS ι st.k w (aX S ι st.k w) ι H' w (aX S ι H' w):=by
  refine⟨λy ⟨c,d,u⟩=>⟨c,d,λb A=>u b ?_⟩,λ_ _ _=>rfl,λb z F m=>⟨F,by rw[q];exact m⟩,λb i j n f m=> ?_⟩
  .rcases A with⟨e,g⟩|⟨e,o,g⟩
   .rcases k b 0 with c|⟨_,i,j,n,f,_,d⟩
    .rw[c]at e g;exact .inl ⟨e,g⟩
    .rw[d]at g;cases g
   .rw[q]at e;rcases k b o with c|⟨_,i,j,n,f,c,_⟩
    .rw[c]at g;exact .inr ⟨e,o,g⟩
    .rw[c]at e;cases e
  .rcases k b 0 with c|⟨_,J,K,I,H,c,d⟩
   .exact⟨i,_,n,f,by rw[c];exact m,bH _,λ_=>⟨rfl,rfl,λx C T _ p=>⟨C,p,rfl⟩⟩⟩
   .rw[m]at c;cases c;exact⟨true,_,n,f,d,bH _,λ_=>⟨rfl,rfl,λx C T _ p=>⟨C,p,rfl⟩⟩⟩
 refine⟨⟨h.below,h.defers,λt av D=> ?_,λb o=> ?_,h.inj,h.fresh,λb x E=>hj (h.hn _ _ E) B,h.hs.trans l⟩,l⟩
 .obtain⟨v,c,d⟩:=h.n t av D;exact⟨v,c,d.step l⟩
 .show fC ι H' w _ b o (M H' b o);rcases k b o with c|⟨rfl,i,j,n,f,c,d⟩
  .rw[c];exact(h.k b o).step l (λ_=>rfl) (λ_ _ _=>⟨rfl,rfl⟩) (λ_=>⟨rfl,λ_ _=>rfl⟩)
  .rw[d];have r:=h.k b 0;rw[c]at r;obtain⟨s,G|fY⟩:=r.step l (λ_=>rfl) (λ_ _ _=>⟨rfl,rfl⟩) (λ_=>⟨rfl,λ_ _=>rfl⟩)
   .exact⟨s,.inl ⟨rfl,G.2⟩⟩
   .exact⟨s,.inr fY⟩
def PF(h:a2 S ι st a w){b k:Nat}{v:Value}{o n:Nat}{f:Nat->List J}(s:M st.k b 0= .ad true o n f)(O:k=n)(Q:eY S ι st.k w (.own b k) v):a6 w (aX S ι st.k w) (.arr o n f) v:=by
 obtain⟨_,Z,lu,X,U,z,V,G⟩:=Q;rw[s]at z;cases z;subst O;rcases G rfl with⟨q,c,C,F,d,y,P,A,W⟩|⟨rfl,_,y⟩
 .have m:=h.k b 0;rw[s]at m;obtain⟨_,D|⟨K,m|⟨Y,R,T,E,B,x⟩⟩⟩:=m
  .rw[d]at D;cases D.2.2
  .rw[d]at m;cases m.2
  .rw[d]at E;cases E;rw[A]at B;cases B;have N:=h.fresh b q d;have H:aX S ι st.k w q:=⟨h.own d,N.2,λb' I L=>by
    have:=h.inj _ _ _ L d;subst this;rcases I with⟨_,g⟩|⟨g,_⟩
    .rw[s]at g;cases g
    .rw[s]at g;cases g⟩
   rw[y];refine .arr o k f q 0 c (λi j=>((f i)[j]?).getD .undef) (λi j=>(C[i*o+j]?).getD undef) P K (λ_=>H) (λi j e l=> ?_) (λi j e l=> ?_) (λi j e l=> ?_)
   .obtain⟨av,u,p,r,t⟩:=x i j e l;rw[p];rfl
   .obtain⟨av,u,p,r,t⟩:=x i j e l;rw[wi w q _ C F (0,0) A,dj,r];rfl
   .obtain⟨av,u,p,r,t⟩:=x i j e l;simp only[p,r,mM];exact t
 .rw[y];exact .nil o f
end
section
variable {E:Env} {S:ez} {ι:Nat->Option Nat} {st:O} {a:Act} {w:World}
def IC: ∀(a b:b3) (H:Heap),bN H (a++b)=bN (bN H a) b
 |[],_,_=>rfl
 |(_,_,_)::a,b,H=>IC a b _
def tf: ∀(a:b3) (H:Heap),H.length<=(bN H a).length
 |[],_=>bH _
 |(b,p,c)::a,H=>ec (x1 H b p c).1 (tf a _)
def ID: ∀(a:b3) (H:Heap) (b o:Nat),M (bN H a) b o=M H b o\/ ∃c,(b,o,c)∈a/\M (bN H a) b o=c
 |[],_,_,_=> .inl rfl
 |(b',f,d)::a,H,b,o=>by
  rcases ID a (bM H b' f d) b o with h|⟨c,g,i⟩
  .rw[bN,h,fo]
   by_cases e:b=b'/\o=f
   .rw[bg e];exact .inr ⟨d,by rw[e.1,e.2];simp,rfl⟩
   .rw[aW e];exact .inl rfl
  .exact .inr ⟨c,by simp [g],i⟩
def Xl: ∀(a:b3) (H:Heap) (b o:Nat) (r:J),(b,o,r)∈a-> ∃c,(b,o,c)∈a/\M (bN H a) b o=c
 |[],_,_,_,_,h=>by cases h
 |(b',g,d)::a,H,b,o,r,h=>by
  rcases ID a (bM H b' g d) b o with f|⟨c,f,k⟩
  .by_cases e:b=b'/\o=g
   .refine⟨d,by rw[e.1,e.2];simp,?_⟩;rw[bN,f,fo,bg e]
   .rcases ih.1 h with h|h
    .cases h;exact absurd ⟨rfl,rfl⟩ e
    .obtain⟨c,i,j⟩:=Xl a (bM H b' g d) b o r h;exact⟨c,by simp [i],j⟩
  .exact⟨c,by simp [f],k⟩
def qs:J->List Nat
 | .own b _=>[b]
 |_=>[]
def ts:J->List Nat
 | .agg cs=>cs.flatMap qs
 |av=>qs av
def akZ{H:Heap}{x:J}{b o:Nat}{c:J}(h:(b,o,c)∈vT H x):o=0/\ ∃d a n f,M H b 0= .ad d a n f/\c= .ad true a n f:=by
 cases x<;>simp only[vT]at h<;>try exact Ζ
 rename_i b' k
 cases e:M H b' 0<;>rw[e]at h<;>simp only at h<;>try exact Ζ
 simp only[List.mem_singleton,od]at h;obtain⟨rfl,rfl,rfl⟩:=h;exact⟨rfl,_,_,_,_,e,rfl⟩
def ak0{H:Heap}{l:List J}{b o:Nat}{c:J}(h:(b,o,c)∈e_ H l):o=0/\ ∃d a n f,M H b 0= .ad d a n f/\c= .ad true a n f:=by
 have⟨x,_,h⟩:=mL.1 h
 cases x
 case agg cs=>
  have⟨y,_,h⟩:=mL.1 h;exact akZ h
 all_goals
  simp only[EI]at h;exact akZ h
def akY{H:Heap}{x:J}{b:Nat}(h:b∈qs x){d a n f}(c:M H b 0= .ad d a n f):(b,0,.ad true a n f)∈vT H x:=by
 cases x<;>simp only[qs]at h<;>try exact Ζ
 simp only[List.mem_singleton]at h;subst h;simp [vT,c]
def aFf{H:Heap}{l:List J}{b:Nat}(h:b∈l.flatMap ts){g c n f}(a:M H b 0= .ad g c n f):(b,0,.ad true c n f)∈e_ H l:=by
 have⟨x,d,h⟩:=mL.1 h;refine mL.2 ⟨x,d,?_⟩
 cases x
 case agg cs=>
  have⟨y,e,h⟩:=mL.1 h;exact mL.2 ⟨y,e,akY h a⟩
 all_goals
  simp only[ts]at h;simp only[EI];exact akY h a
def yc{H:Heap}(l:List J)(b o:Nat):M (bN H (e_ H l)) b o=M H b o\/(o=0/\ ∃d a n f,M H b 0= .ad d a n f/\M (bN H (e_ H l)) b 0= .ad true a n f):=by
 rcases ID (e_ H l) H b o with h|⟨c,e,g⟩
 .exact .inl h
 .obtain⟨rfl,d,a,n,f,i,j⟩:=ak0 e;exact .inr ⟨rfl,d,a,n,f,i,by rw[g,j]⟩
def JF{H:Heap}{l:List J}{b:Nat}(h:b∈l.flatMap ts){k e n f}(d:M H b 0= .ad k e n f):M (bN H (e_ H l)) b 0= .ad true e n f:=by
 have⟨c,g,i⟩:=Xl (e_ H l) H b 0 _ (aFf h d);have⟨_,p,q,o,m,a,j⟩:=ak0 g;rw[d]at a;cases a;rw[i,j]
def aeo{H:Heap}(h:a2 S ι st a w){x:J}{v:Value}(l: ∀b∈qs x,∀p g n f,M H b 0= .ad p g n f->M st.k b 0= .ad true g n f)(d:eY S ι st.k w x v){K:J->Prop}(c:jy H x K): ∃y,K y/\a6 w (aX S ι st.k w) y v:=by
 have q:dm (pR x) (K x)-> ∃y,K y/\a6 w (aX S ι st.k w) y v:=λm=>(λ⟨i,j⟩=>⟨x,j,cu.su d i⟩) (aF.1 m)
 cases x
 case own b k=>
  simp only[jy]at c
  cases e:M H b 0<;>rw[e]at c<;>simp only at c
  exact⟨_,c.2,PF h (l b (by simp [qs]) _ _ _ _ e) c.1 d⟩
 case lit b=>
  have o:a6 w (aX S ι st.k w) (.lit b) v:=d
  cases o
  exact⟨_,c,.bool b⟩
 all_goals exact q c
def T6{H:Heap}(h:a2 S ι st a w): ∀(cs:List J) (g:List Value) (K:List J->Prop),(∀b∈cs.flatMap qs,∀p l n f,M H b 0= .ad p l n f->M st.k b 0= .ad true l n f)->bb (eY S ι st.k w) cs g->m0 H cs K-> ∃i,K i/\bb (a6 w (aX S ι st.k w)) i g
 |[],[],K,_,_,d=>⟨[],d,trivial⟩
 |[],_::_,_,_,e,_=>e.elim
 |_::_,[],_,_,e,_=>e.elim
 |c::cs,v::g,K,k,e,d=>by
  have⟨y,d,m⟩:=aeo h (λb j=>k b (by simp [j])) e.1 d;have⟨i,d,o⟩:=T6 h cs g _ (λb j=>k b (by simp only[gO,fj];exact .inr j)) e.2 d;exact⟨y::i,d,m,o⟩
def ats{H:Heap}(h:a2 S ι st a w){x:J}{v:Value}(g: ∀b∈ts x,∀p j n f,M H b 0= .ad p j n f->M st.k b 0= .ad true j n f)(i:bA S ι st.k w x v){K:J->Prop}(c:lL H x K): ∃y,K y/\gm w (aX S ι st.k w) y v:=by
 have o: ∀y,a6 w (aX S ι st.k w) y v->gm w (aX S ι st.k w) y v:=λy m=>by cases m<;>first|exact .int _ _|exact .bool _|exact .str _ Ψ|exact .aH|exact .nil _ _|exact .mt _ _ _ _|(constructor<;>assumption)
 cases x
 case agg cs=>
  obtain⟨k,rfl,l⟩:=i;obtain⟨q,d,e⟩:=T6 h cs k _ g l c;exact⟨.agg q,d,k,rfl,e⟩
 case undef=>exact c.elim
 case gone=>exact c.elim
 case du=>exact c.elim
 case ad=>exact c.elim
 all_goals
  simp only[bA,eZ,g1]at i;simp only[ts]at g;obtain⟨y,d,e⟩:=aeo h g i c;exact⟨y,d,o y e⟩
def T5{H:Heap}(h:a2 S ι st a w): ∀(k:List J) (g:List Value) (K:List J->Prop),(∀b∈k.flatMap ts,∀q m n f,M H b 0= .ad q m n f->M st.k b 0= .ad true m n f)->bb (bA S ι st.k w) k g->nF H k K-> ∃i,K i/\bb (gm w (aX S ι st.k w)) i g
 |[],[],K,_,_,d=>⟨[],d,trivial⟩
 |[],_::_,_,_,e,_=>e.elim
 |_::_,[],_,_,e,_=>e.elim
 |c::cs,v::g,K,l,e,d=>by
  have⟨y,d,o⟩:=ats h (λb j=>l b (by simp [j])) e.1 d;have⟨i,d,p⟩:=T5 h cs g _ (λb j=>l b (by simp only[gO,fj];exact .inr j)) e.2 d;exact⟨y::i,d,o,p⟩
def alo{b:Nat}{F:Nat->Prop}{r:J}{v:Value}(a:EJ r=true)(h:sj b w F r v):kW w F r v:=by
 cases r<;>first|exact h|(cases a;done)
def ZL{ws:b3}(h:a2 S ι ⟨st.n,bN st.k ws⟩ a w){w':World}(d:Below w.heap.size w w'){F:Nat->Prop}{r:J}{v:Value}(u:sj w.heap.size w' F r v)
  (s: ∀y,F y->aX S ι (bN st.k ws) w y\/(w.heap.size<=y/\y<w'.heap.size)) {aD:Nat} (t: ∀o,M (bN st.k ws) aD o= .undef) (z:ι aD=none) {K:J->b3->Prop} (m:vS aD r ws K):
  ∃aC av i,K av i/\a2 S aC ⟨st.n,bN st.k i⟩ a w'/\bA S aC (bN st.k i) w' av v/\ ∀b,aC b≠none->ι b≠none\/ ∃p c,(b,p,c)∈i:=by
 have U:kW w' F r v->K r ws-> ∃aC av i,K av i/\a2 S aC ⟨st.n,bN st.k i⟩ a w'/\bA S aC (bN st.k i) w' av v/\ ∀b,aC b≠none->ι b≠none\/ ∃p c,(b,p,c)∈i:=λL G=>by
  have⟨k,q⟩:=h.world d;refine⟨ι,r,ws,G,k,eZ.YH (kW.mono (λy j=> ?_) (λ_ _ _=>rfl) L),λb d=> .inl d⟩;rcases s y j with j|⟨Q,R⟩
  .exact q.iL y j
  .exact⟨.inr (ec h.below.size Q),R,λb _ e=>by have:=(h.fresh b y e).2;omega⟩
 cases r
 case ad V l n f=>
  simp only[vS]at m;rcases u with⟨rfl,rfl⟩|⟨x,c,C,T,O,P,rfl,I,H,D,E,N⟩
  .obtain⟨k,_⟩:=h.world d;have⟨A,_,B⟩:=k.Po t z l f;refine⟨ι,.own aD 0,ws++[(aD,0,.ad false l 0 f)],m,?_,?_,λb d=> .inl d⟩
   .rw[IC,DX];exact A
   .rw[IC,DX];exact B (aX S ι (bM (bN st.k ws) aD 0 (.ad false l 0 f)) w')
  .obtain⟨k,q⟩:=h.Jw d (b:=aD) O P H I D E (F':=λy=>F y/\y≠x) (λy j=>(s y j.1).imp id λg=>⟨g.1,g.2,j.2⟩) N (.inl ⟨t,z⟩);refine⟨cC ι aD x,.own aD n,ws++[(aD,0,.ad false l n f)],m,?_,?_,λb d=>(EU _ _ _ b d).imp id λe=>⟨0,.ad false l n f,by subst e;simp⟩⟩
   .rw[IC,DX];exact k
   .rw[IC,DX];exact q
 all_goals exact U u m
def atl(h:a2 S ι st a w){x:Operand}{f:FuncId}{b:List J}(o:aE st.n x= .fn f b)(l:b.all ot=true): ∃c:List Value,a.eval x= .func (.func f) #[] c.toArray/\bb (bA S ι st.k w) b c:=by
 have:=h.eval x;rw[o]at this;have⟨c,j,d⟩:=(show eY S ι st.k w (.fn f b) _ from this);refine⟨c,j,bb.mk d.length λi p q e m=> ?_⟩;have⟨r,g,n⟩:=d.get i p e;rw[m]at g;cases g;have k:=d_.1 l p (fr e)
 cases p<;>first|(cases k;done)|exact n
def ara(nT:E.dU){o:Oper}{c:Go.Call}{A:Operand}{f:FuncId}{D:List J}(eV:o.op= .call c)(kk:c.callee= .value A)(Xn:aE st.n A= .fn f D)(Wp:D.all ot=true)(h:a2 S ι st a w){aD:Nat}(ng: ∀o,M st.k aD o= .undef)(rH:ι aD=none)
  {K:J->b3->Prop} (l:wF E st.k aD f (c.args.toList.map (aE st.n)++D) K) {next:Act->World->Prop} {Q:Exit->Act->World->Prop}
  (tc: ∀aC av ws v w',K av ws->a2 S aC ⟨st.n,bN st.k ws⟩ a w'->bA S aC (bN st.k ws) w' av v->(∀b,aC b≠none->ι b≠none\/ ∃p c,(b,p,c)∈ws)->next (a.put o.dst v) w'):o.wp E.P a w next Q:=by
 have⟨z,Ww,Oc⟩:=atl h Xn Wp;have av6:bb (bA S ι st.k w) ((c.args.toList.map (aE st.n)).map fh) (c.args.toList.map a.eval):=by
  refine bb.mk Χ λi x y j m=> ?_;simp only[hJ,nt]at j m;obtain⟨g,⟨AR,G,rfl⟩,rfl⟩:=j;obtain⟨Jh,U,rfl⟩:=m;rw[G]at U;cases U;exact El (h.eval AR)
 have N:bb (bA S ι st.k w) ((c.args.toList.map (aE st.n)++D).map fh) (c.args.toList.map a.eval++z):=by
  rw[List.map_append];refine bb.append av6 (bb.mk (by simpa using Oc.length) λi x y j m=> ?_);simp only[hJ,nt]at j;obtain⟨g,G,rfl⟩:=j;have⟨ym,R,hv⟩:=Oc.get i g G;rw[m]at R;cases R;exact El hv
 unfold wF at l;generalize (c.args.toList.map (aE st.n)++D).map fh=aa at l N;have V: ∀(F:Nat->Prop) (T:List J) (r:J) (t:Option Prop),E.spec f T=some (t,r)->pj t True->Fb w F->bb (gm w F) T (c.args.toList.map a.eval++z)->
   (∀w' v,Below w.heap.size w w'->sj w.heap.size w' (λx=>F x\/(w.heap.size<=x/\x<w'.heap.size)) r v->next (a.put o.dst v) w')->o.wp E.P a w next Q:=λF T r t s O o9 Ae gT=>by
  have⟨⟨fn,arj,Of,Wm,WD⟩,WN⟩:=nT.spec f T t r s;have Il:=WN O w F _ o9 Ae;have qk:(execOp a.eval o).run E.P w= .ok (.enter f (c.args.toList.map a.eval++z).toArray) w:=by
   have WG:fn.name≠ "runtime.NumGoroutine" :=by simpa using WD
   have Wi:(c.args.toList.map a.eval++z).toArray=c.args.map a.eval++z.toArray:=by apply qC;simp
   rw[Wi];simp [execOp,eV,resolve,kk,Ww,Deferred.ofValue,invoke,callFunc,Of,Wm,WG]
  unfold Oper.wp;rw[qk];refine Il.mono λe w' ⟨v,he,k,d⟩=> ?_;subst he;exact gT w' v d k
 by_cases X:aa.all Cl=true
 .have l:=aeu X l
  cases s:E.spec f aa with
  |none=>rw[s]at l;exact l.elim
  |some q=>
   obtain⟨t,r⟩:=q;rw[s]at l;have⟨O,L⟩:=rS.1 l;have u:pq st.k r aa=[]:=by simp [pq,X]
   rw[u]at L;refine V (aX S ι st.k w) _ r t s O h.T1 (bb.mk N.length λi x y j m=> ?_) λw' v d k=> ?_
   .obtain⟨ym,R,hv⟩:=N.get i x j;rw[m]at R;cases R;exact hv.su (d_.1 X _ (fr j))
   .obtain⟨aC,av,QH,jS,kF,gh,mD⟩:=ZL (st:=st) (ws:=[]) h d k (λy m=>m) ng rH L;exact tc aC av QH v w' jS kF gh mD
 .obtain⟨ack,Y,av1⟩:=aev h _ _ _ N l
  cases s:E.spec f ack with
  |none=>rw[s]at Y;exact Y.elim
  |some q=>
   obtain⟨t,r⟩:=q;rw[s]at Y;have⟨O,L⟩:=rS.1 Y
   by_cases OC:EJ r=true
   .have u:pq st.k r aa=[]:=by simp [pq,OC]
    rw[u]at L;refine V (mf S w) ack r t s O ⟨λx j=>j.elim (λI=>hj (S.lt x I) h.below.size) λI=>I.2,λB=>(h.xJ B).imp id λaL=>aL.mono (λx j=>j.1.elim .inl λI=> .inr ⟨I,j.2.1⟩) λ_ _ _=>rfl⟩ av1 λw' v d k=> ?_;have⟨C,hU⟩:=h.world d;have Wa:K r []:=by cases r<;>first|exact L|(cases OC;done)
    exact tc ι r [] v w' Wa C (eZ.YH (alp OC (alo OC k))) λb d=> .inl d
   .
    have⟨C,td⟩:=h.freeze (H':=bN st.k (e_ st.k aa)) (yc aa) (tf _ _);have av5:bb (bA S ι (bN st.k (e_ st.k aa)) w) aa (c.args.toList.map a.eval++z):=N.imp λ_ _ k=>k.step td;have⟨SV,Z,Wg⟩:=T5 (H:=st.k) C aa _ _ (λb d ro af n f he=>JF d he) av5 l
    cases Oy:E.spec f SV with
    |none=>rw[Oy]at Z;exact Z.elim
    |some q1=>
     obtain⟨akv,cX⟩:=q1;rw[Oy]at Z;have⟨ahz,W⟩:=rS.1 Z
     by_cases P:EJ cX=true
     .have u:pq st.k cX aa=[]:=by simp [pq,P]
      rw[u]at W;refine V (aX S ι (bN st.k (e_ st.k aa)) w) SV cX akv Oy ahz C.T1 Wg λw' v d k=> ?_;have⟨fG,DK⟩:=h.world d;have Wa:K cX []:=by cases cX<;>first|exact W|(cases P;done)
      exact tc ι cX [] v w' Wa fG (eZ.YH (alp P (alo P k))) λb d=> .inl d
     .have u:pq st.k cX aa=e_ st.k aa:=by
       have G:EJ cX=false:=by simpa using P
       have U:aa.all Cl=false:=by simpa using X
       simp only[pq,G,U,Bool.or_self]
      rw[u]at W;refine V (aX S ι (bN st.k (e_ st.k aa)) w) SV cX akv Oy ahz C.T1 Wg λw' v d k=> ?_;have Iu: ∀o,M (bN st.k (e_ st.k aa)) aD o= .undef:=λo=>by
       rcases yc (H:=st.k) aa aD o with B|⟨_,ro,af,n,f,B,_⟩
       .rw[B];exact ng o
       .rw[ng 0]at B;cases B
      have⟨aC,av,QH,jS,kF,gh,mD⟩:=ZL (st:=st) (ws:=e_ st.k aa) C d k (λy m=>m) Iu rH W;exact tc aC av QH v w' jS kF gh mD
end
section
variable {E:Env} {S:ez} {ι:Nat->Option Nat} {st:O} {a:Act} {w:World}
def aj7{v:Value}(h:one v=true):v.oneCell'=true:=by cases v<;>first|rfl|(cases h;done)
def uy(a n:Nat)(u:Nat->Nat->Value):List Value:=(List.range (n*a)).map λk=>u (k/a) (k%a)
def F5(af n:Nat)(u:Nat->Nat->Value):(uy af n u).length=n*af:=by simp [uy]
def LD{af n:Nat}{u:Nat->Nat->Value}{i j:Nat}(d:i<n)(a:j<af):(uy af n u)[i*af+j]? =some (u i j):=by
 have e:i*af+j<n*af:=by
  have:(i+1)*af<=n*af:=h4 af d;rw[jK]at this;omega
 have b:(i*af+j)/af=i:=by
  rw[wh,Nat.mul_add_div Ω,QP a];omega
 have c:(i*af+j)%af=j:=by
  rw[wh,Nat.mul_add_mod,QQ a]
 simp [uy,E6 e,b,c]
def LC{af n:Nat}{u:Nat->Nat->Value}{k:Nat}{v:Value}(h:(uy af n u)[k]? =some v): ∃i j,i<n/\j<af/\k=i*af+j/\v=u i j:=by
 have g:k<n*af:=by
  have:=(hk.1 h).1;simpa[uy]using this
 have f:0<af:=by
  rcases yr af with e|e
  .subst e;omega
  .exact e
 have a:k/af<n:=(Nat.div_lt_iff_lt_mul f).2 g;have b:k%af<af:=Nat.mod_lt _ f;have c:k=k/af*af+k%af:=by rw[wh];exact(Nat.div_add_mod k af).symm
 have d:=LD (u:=u) a b;rw[<-c,h]at d
 cases d
 exact⟨_,_,a,b,c,rfl⟩
def aF1{F:TypeId}{str:Bool}(aL:a2 S ι st a w)(B:if str then E.P.underlying F=some .string else∃e,E.P.underlying F=some (.slice e)){r:Nat}{y:J}{v:Value}(Q:bA S ι st.k w y v){K:Nat->(Nat->List J)->Prop}(A:n9 st.k str r y K):
  ∃m g z,K m g/\m<=dL/\Src E.P r F v m z w/\ ∀i j,i<m->j<r-> ∃av u,(g i)[j]? =some av/\z[i*r+j]? =some u/\a6 w (aX S ι st.k w) av u:=by
 have fin: ∀(t m:Nat) (g:Nat->List J) (x p c:Nat) (u:Nat->Nat->Value) (q:Nat->Nat->J),str=false->t=r->v= .slice (some ⟨x,p,none⟩) m c->m<=dL->K m g->(∀i j,i<m->j<t->(g i)[j]? =some (q i j))->(∀i j,i<m->j<t->w.cell? ⟨x,p+(i*t+j),none⟩=some (u i j))->
   (∀i j,i<m->j<t->a6 w (aX S ι st.k w) (q i j) (u i j))-> ∃m g z,K m g/\m<=dL/\Src E.P r F v m z w/\ ∀i j,i<m->j<r-> ∃av u,(g i)[j]? =some av/\z[i*r+j]? =some u/\a6 w (aX S ι st.k w) av u:=by
  intro t m g x p c u q P pd D hm l d hU R;subst pd;subst D;rw[P]at B;obtain⟨e,L⟩:=B;refine⟨m,g,uy t m u,l,hm,Src.ofSlice w L _ m c _ (F5 _ _ _) (λj v o=> ?_) (λv D=> ?_),λi j h o=>⟨_,_,d i j h o,LD h o,R i j h o⟩⟩
  .obtain⟨i,Y,h,V,Z,G⟩:=LC o;rw[Addr.add_lit,Z,G];exact hU i Y h V
  .obtain⟨k,A⟩:=l_ D;have⟨i,Y,h,V,Z,G⟩:=LC A;rw[G];exact aj7 (R i Y h V).one
 have none:str=false->K 0 (λ_=>[])->(∃c,v= .slice Option.none 0 c)-> ∃m g z,K m g/\m<=dL/\Src E.P r F v m z w/\ ∀i j,i<m->j<r-> ∃av u,(g i)[j]? =some av/\z[i*r+j]? =some u/\a6 w (aX S ι st.k w) av u:=by
  rintro P l ⟨c,rfl⟩
  rw[P]at B;obtain⟨e,L⟩:=B;exact⟨0,_,[],l,cd _,Src.ofNil w L c,λi j h=>by omega⟩
 have T: ∀(g:Nat->List J),str=false->K 0 g->(∃a c,v= .slice a 0 c)-> ∃m g z,K m g/\m<=dL/\Src E.P r F v m z w/\ ∀i j,i<m->j<r-> ∃av u,(g i)[j]? =some av/\z[i*r+j]? =some u/\a6 w (aX S ι st.k w) av u:=by
  rintro g P l ⟨a',c,rfl⟩
  rw[P]at B;obtain⟨e,L⟩:=B;refine⟨0,g,[],l,cd _,?_,λi j h=>by omega⟩
  cases a' with
  |none=>exact Src.ofNil w L c
  |some a'=>exact Src.ofSlice w L a' 0 c [] Χ (λj u o=>by simp at o) (λu hu=>by cases hu)
 cases y<;>simp only[n9]at A<;>try exact A.elim
 case aH=>
  have⟨d,l⟩:=aF.1 A;have X:a6 w (aX S ι st.k w) .aH v:=Q
  cases X
  exact none (by simpa using d) l ⟨0,rfl⟩
 case str s=>
  have⟨d,l⟩:=aF.1 A;simp only[b2,kS]at d;obtain⟨d,rfl⟩:=d;subst d;have B:E.P.underlying F=some .string:=B;have jH:=bA.aaw Q;have D:=bA.str Q;subst D;refine⟨s.size,yD s,byteCells s,l,jH,Src.ofString w B s,λi j h o=> ?_⟩;have awL:j=0:=by omega
  subst awL;have Wy:i<s.data.toList.length:=by simpa using h
  refine⟨_,.int .u8 ((s.data.toList.getD i 0).toNat:Int),rfl,?_,.int _ _⟩;simp only[byteCells,Nat.mul_one,nu,hJ,cG Wy,tM,List.getD,mM]
 case arr t n f=>
  have⟨d,l⟩:=aF.1 A;simp only[b2,j4,kS]at d;obtain⟨d,rfl⟩:=d;have X:a6 w (aX S ι st.k w) (.arr t n f) v:=Q
  cases X with
  |nil=>exact T _ d l ⟨_,_,rfl⟩
  |mt=>exact T _ d l ⟨_,_,rfl⟩
  |arr _ _ _ b p c g u gT ag5 o9 H I N=>exact fin t n f b p c u g d rfl rfl ag5 l H (λi j h o=>by rw[<-r7];exact I i j h o) N
 case own b k=>
  cases e:M st.k b 0<;>rw[e]at A<;>simp only at A
  rename_i ro t n f;obtain⟨d,rfl,l⟩:=aF.1 A;simp only[b2,j4,kS]at d;obtain⟨d,rfl⟩:=d;have⟨_,po,lu,n',gD,G,_,R⟩:=(show eY S ι st.k w (.own b k) v from Q);rw[e]at G;cases G;rcases R rfl with⟨q,c,C,mh,W,D,nW,lg,l0⟩|⟨rfl,_,D⟩
  .have O:=aL.k b 0;rw[e]at O;obtain⟨_,eh|⟨kK,O|⟨Jx,lv,ap6,xR,xM,U⟩⟩⟩:=O
   .rw[W]at eh;cases eh.2.2
   .rw[W]at O;cases O.2
   .rw[W]at xR;cases xR;rw[lg]at xM;cases xM;refine fin t k f q 0 c (λi j=>(C[i*t+j]?).getD undef) (λi j=>((f i)[j]?).getD .undef) d rfl D kK l (λi j h o=> ?_) (λi j h o=> ?_) (λi j h o=> ?_)
    .obtain⟨av,u,H,I,N⟩:=U i j h o;rw[H];rfl
    .obtain⟨av,u,H,I,N⟩:=U i j h o;rw[wi w q _ C mh (0,0) lg,dj,I];rfl
    .obtain⟨av,u,H,I,N⟩:=U i j h o;simp only[H,I,mM];exact N
  .exact T _ d l ⟨_,_,D⟩
def aci(h:a2 S ι st a w){T K ty e:TypeId}{i:TypeInfo}{z:Value}(hV:E.P.underlying T=some (.slice e))(g5:E.P.info? e=some i)(iw:i.zero=some z)(Ih:i.bytes<=256)(IF:z.cells.size=i.size)
  {b aL n m:Nat} {f g hh:Nat->List J} (xP: ∀i,i<n+m->iH n f g i=hh i) {v x:Value} {r:List Value} (N:M st.k b 0= .ad false i.size n f) (Is:aL=n) (dq:eY S ι st.k w (.own b aL) v) (kK:n+m<=dL) (k:Src E.P i.size K x m r w)
  (Oq: ∀d j,d<m->j<i.size-> ∃av u,(g d)[j]? =some av/\r[d*i.size+j]? =some u/\a6 w (aX S ι st.k w) av u):
  ∃aC w' u,(Builtin.append_ #[T,K] ty #[v,x]).run E.P w= .ok u w'/\(∀b',aC b'≠none->ι b'≠none\/b'=b)/\a2 S aC ⟨st.n,bM st.k b 0 (.ad false i.size (n+m) hh)⟩ a w'/\
   eY S aC (bM st.k b 0 (.ad false i.size (n+m) hh)) w' (.own b (n+m)) u:=by
 obtain⟨_,po,lu,n',gD,Y,_,fG⟩:=dq;rw[N]at Y;cases Y;have o8:dL=549755813888:=rfl;have Ii:(n+m)*i.bytes<=140737488355328:=ec (Nat.mul_le_mul (by omega:n+m<=549755813888) Ih) Δ;have V:=h.k b 0;rw[N]at V;have grow: ∀(base:Option Addr) (c:Nat) (B:List Value),(Builtin.firstCells i.size n (.slice base n c)).run E.P w.drew= .ok B.toArray w.drew->B.length=n*i.size->(∀d j,d<n->j<i.size-> ∃av u,(f d)[j]? =some av/\B[d*i.size+j]? =some u/\a6 w (aX S ι st.k w) av u)->
   c<n+m->v= .slice base n c->n<n+m-> ∃aC w' u,(Builtin.append_ #[T,K] ty #[v,x]).run E.P w= .ok u w'/\(∀b',aC b'≠none->ι b'≠none\/b'=b)/\a2 S aC ⟨st.n,bM st.k b 0 (.ad false i.size (n+m) hh)⟩ a w'/\
   eY S aC (bM st.k b 0 (.ad false i.size (n+m) hh)) w' (.own b (n+m)) u:=by
  intro base c B hold Z WH kk I ht;have H:=run_append_grow_src (P:=E.P) w T K ty e i z hV g5 iw base n c B hold x m r k kk Ω (growslice_fits kk Ii);have vi:=yp w (n+m) c e;generalize grownCap w (n+m) c e=O at H vi;have DP:Below w.heap.size w (w.drew.alloc (.cells ((B++r).toArray++Builtin.zeroCells z.cells (O- (n+m))) e)):=(Below.drew (Below.refl _ w)).alloc (bH _) _;have Wq: ∀d j,d<n+m->j<i.size-> ∃av u,(hh d)[j]? =some av/\((B++r).toArray++Builtin.zeroCells z.cells (O- (n+m)))[d*i.size+j]? =some u/\a6 (w.drew.alloc (.cells ((B++r).toArray++Builtin.zeroCells z.cells (O- (n+m))) e)) (aX S ι st.k w) av u:=λd j s l=>by
   have aht: ∀{av:J} {u:Value},a6 w (aX S ι st.k w) av u->a6 (w.drew.alloc (.cells ((B++r).toArray++Builtin.zeroCells z.cells (O- (n+m))) e)) (aX S ι st.k w) av u:=λW=>W.mono (λ_ h=>h) λy o A=>DP.cell A.2.1;have hmul:(n+m)*i.size=n*i.size+m*i.size:=ig _ _ _
   by_cases vl:d<n
   .obtain⟨av,u,ix,gF,j0⟩:=WH d j vl l;have WC:d*i.size+j<n*i.size:=by
     have:(d+1)*i.size<=n*i.size:=h4 _ vl;rw[jK]at this;omega
    refine⟨av,u,?_,?_,aht j0⟩
    .have:Nat.blt d n=true:=by simpa[jL]using vl
     rw[<-xP d s];simp only[iH,this,au];exact ix
    .rw[r2 (by simp [Z,k.newsLen];omega)];simp only[wc];rw[wb Ω];exact gF
   .obtain⟨av,u,ix,gF,j0⟩:=Oq (d-n) j Ω l;have te:(d-n)*i.size=d*i.size-n*i.size:=E1 _ _ _;have awG:n*i.size<=d*i.size:=h4 _ Ω;have WC:d*i.size+j<(n+m)*i.size:=by
     have:(d+1)*i.size<=(n+m)*i.size:=h4 _ s;rw[jK]at this;omega
    refine⟨av,u,?_,?_,aht j0⟩
    .have:Nat.blt d n=false:=by
      cases e:Nat.blt d n with
      |false=>rfl
      |true=>exact absurd (hH e) Ω
     rw[<-xP d s];simp only[iH,this,aB];exact ix
    .rw[r2 (by simp [Z,k.newsLen];omega)];simp only[wc];rw[E2 Ω,Z];rw[te]at gF;rw[show d*i.size+j-n*i.size=d*i.size-n*i.size+j by omega];exact gF
  have⟨F,G⟩:=h.Jw DP (b:=b) (x:=w.heap.size) (bH _) Χ (f:=hh) (n:=n+m) (af:=i.size) (c:=O) kK vi (tN w.drew _) (by
   simp only[yq,r4,db,size_zeroCells,IF,Z,k.newsLen,<-ig]
   congr 1;omega) (F':=aX S ι st.k w) (λy A=> .inl A) Wq (.inr ⟨n,f,N,ht⟩)
  subst I;exact⟨_,_,_,H,EU _ _ _,F,G⟩
 rcases fG Is with⟨q,c,C,X,jZ,I,nW,Q,l0⟩|⟨awZ,OH,I⟩
 .obtain⟨_,eh|⟨_,V|⟨Jx,lv,ap6,xR,xM,mE⟩⟩⟩:=V
  .rw[jZ]at eh;cases eh.2.2
  .rw[jZ]at V;cases V.2
  rw[jZ]at xR;cases xR;rw[Q]at xM;cases xM
  by_cases W:n+m<=c
  .have hmul:(n+m)*i.size<=c*i.size:=h4 _ W;have av3:(n+m)*i.size=n*i.size+m*i.size:=ig _ _ _;have H:=run_append_room_src (P:=E.P) w T K ty e i hV g5 q 0 n c x m r k W (λj l=>by
    rw[wi w q _ C X (0,0) Q,dj];rw[k.newsLen]at l;rw[r3 Ω];rfl) (λj l=>by
    rw[k.newsLen]at l;unfold World.frozen?;rw[Q];simp)
   rw[dj]at H;have⟨F,G⟩:=h.aFh (g:=g) xP N jZ Q l0 W kK r k.newsLen Oq;subst I;exact⟨ι,_,_,H,λb' U=> .inl U,F,G⟩
  .refine grow _ c (uy i.size n λd j=>(C[d*i.size+j]?).getD undef) ?_ (F5 _ _ _) (λd j s l=> ?_) Ω I Ω
   .refine J7 (P:=E.P) w.drew i.size n ⟨q,0,none⟩ n c _ (F5 _ _ _) λj u l=> ?_;have⟨d,XB,s,Wz,mY,Y⟩:=LC l;rw[Addr.add_lit,mY,Y];have⟨av,u,jS,kF,gh⟩:=mE d XB s Wz;rw[wi w.drew q _ C X (0,0) Q,dj,kF];rfl
   .obtain⟨av,u,jS,kF,gh⟩:=mE d j s l;exact⟨av,u,jS,by rw[LD s l,kF];rfl,gh⟩
 .subst awZ
  by_cases hm:m=0
  .subst hm;have aw2:r=[]:=aaS (by rw[k.newsLen];simp);have H:(Builtin.append_ #[T,K] ty #[v,x]).run E.P w= .ok (.slice none 0 0) w:=by
    subst I;rcases k.kind with⟨L,p⟩|p<;>simp [Builtin.append_,fN hV,fN p,sizeOf,typeInfo,g5,k.len,k.cells]
   have R: ∀b' o,M (bM st.k b 0 (.ad false i.size (0+0) hh)) b' o=if b'=b/\o=0 then .ad false i.size 0 hh else M st.k b' o:=λb' o=>fo _ _ _ _ _ _
   have Oi:M (bM st.k b 0 (.ad false i.size (0+0) hh)) b 0= .ad false i.size 0 hh:=by rw[R,bg ⟨rfl,rfl⟩]
   have WW:eS ι st.k w (aX S ι st.k w) ι (bM st.k b 0 (.ad false i.size (0+0) hh)) w (aX S ι (bM st.k b 0 (.ad false i.size (0+0) hh)) w):=by
    refine⟨λy ⟨F,G,fG⟩=>⟨F,G,λb' U he=> ?_⟩,λ_ _ _=>rfl,λb' z iw p=>⟨iw,?_⟩,λb' ro lu n' gD p=> ?_⟩
    .have e:b'≠b:=λe=>by rw[e,OH]at he;cases he
     exact fG b' (pr (λo=>by rw[R,aW (λL=>e L.1)]) U) he
    .have e:b'≠b:=λe=>by rw[e,N]at p;cases p
     rw[R,aW (λL=>e L.1)];exact p
    .by_cases e:b'=b
     .subst e;rw[N]at p;cases p;exact⟨false,_,0,_,Oi,bH _,λ_=>⟨rfl,rfl,λy D X A DL=>by rw[OH]at A;cases A⟩⟩
     .exact⟨ro,_,n',gD,by rw[R,aW (λL=>e L.1)];exact p,bH _,λ_=>⟨rfl,rfl,λy D X A DL=>⟨D,DL,rfl⟩⟩⟩
   refine⟨ι,w,_,H,λb' U=> .inl U,⟨h.below,h.defers,λt av jI=> ?_,λb' o=> ?_,h.inj,h.fresh,λb' y A=>hj (h.hn _ _ A) (nj _ _ _ _).1,h.hs.trans WW⟩,?_⟩
   .obtain⟨v,F,G⟩:=h.n t av jI;exact⟨v,F,G.step WW⟩
   .show fC _ _ _ _ _ _ (M (bM st.k b 0 (.ad false i.size (0+0) hh)) b' o);rw[R]
    by_cases e:b'=b/\o=0
    .rw[bg e];exact⟨e.2,.inr ⟨cd _,.inl ⟨rfl,by rw[e.1];exact OH⟩⟩⟩
    .rw[aW e];exact(h.k b' o).step WW (λ_=>rfl) (λ_ _ _=>⟨rfl,rfl⟩) (λ_=>⟨rfl,λ_ _=>rfl⟩)
   .exact⟨rfl,false,i.size,0,_,Oi,bH _,λ_=> .inr ⟨rfl,OH,rfl⟩⟩
  .exact grow none 0 [] (run_firstCells_none w.drew i.size 0 0 0) Χ (λd j s=>by omega) Ω I Ω
def aqr(h:a2 S ι st a w){T A ty e:TypeId}{i:TypeInfo}{z:Value}(hV:E.P.underlying T=some (.slice e))(g5:E.P.info? e=some i)(iw:i.zero=some z)(Ih:i.bytes<=256)(IF:z.cells.size=i.size)
  {aD n m:Nat} {f g hh:Nat->List J} (R: ∀i,i<n+m->iH n f g i=hh i) {v x:Value} {s:List Value} (ng: ∀o,M st.k aD o= .undef) (rH:ι aD=none) (dq:a6 w (aX S ι st.k w) (.kX i.size n f) v) (hm:0<m) (kK:n+m<=dL) (D:Src E.P i.size A x m s w)
  (Oq: ∀d j,d<m->j<i.size-> ∃av u,(g d)[j]? =some av/\s[d*i.size+j]? =some u/\a6 w (aX S ι st.k w) av u):
  ∃aC w' u,(Builtin.append_ #[T,A] ty #[v,x]).run E.P w= .ok u w'/\(∀b',aC b'≠none->ι b'≠none\/b'=aD)/\a2 S aC ⟨st.n,bM st.k aD 0 (.ad false i.size (n+m) hh)⟩ a w'/\
   eY S aC (bM st.k aD 0 (.ad false i.size (n+m) hh)) w' (.own aD (n+m)) u:=by
 have o8:dL=549755813888:=rfl;have Ii:(n+m)*i.bytes<=140737488355328:=ec (Nat.mul_le_mul (by omega:n+m<=549755813888) Ih) Δ;have G: ∀(base:Option Addr) (c:Nat) (r:List Value),(Builtin.firstCells i.size n (.slice base n c)).run E.P w.drew= .ok r.toArray w.drew->r.length=n*i.size->(∀d j,d<n->j<i.size-> ∃av u,(f d)[j]? =some av/\r[d*i.size+j]? =some u/\a6 w (aX S ι st.k w) av u)->
   c<n+m->v= .slice base n c-> ∃aC w' u,(Builtin.append_ #[T,A] ty #[v,x]).run E.P w= .ok u w'/\(∀b',aC b'≠none->ι b'≠none\/b'=aD)/\a2 S aC ⟨st.n,bM st.k aD 0 (.ad false i.size (n+m) hh)⟩ a w'/\
   eY S aC (bM st.k aD 0 (.ad false i.size (n+m) hh)) w' (.own aD (n+m)) u:=by
  intro base c r hold C WH B axz;have V:=run_append_grow_src (P:=E.P) w T A ty e i z hV g5 iw base n c r hold x m s D B Ω (growslice_fits B Ii);have Q:=yp w (n+m) c e;generalize grownCap w (n+m) c e=t at V Q;have O:Below w.heap.size w (w.drew.alloc (.cells ((r++s).toArray++Builtin.zeroCells z.cells (t- (n+m))) e)):=(Below.drew (Below.refl _ w)).alloc (bH _) _;have Wq: ∀d j,d<n+m->j<i.size-> ∃av u,(hh d)[j]? =some av/\((r++s).toArray++Builtin.zeroCells z.cells (t- (n+m)))[d*i.size+j]? =some u/\a6 (w.drew.alloc (.cells ((r++s).toArray++Builtin.zeroCells z.cells (t- (n+m))) e)) (aX S ι st.k w) av u:=λd j k l=>by
   have U: ∀{av:J} {u:Value},a6 w (aX S ι st.k w) av u->a6 (w.drew.alloc (.cells ((r++s).toArray++Builtin.zeroCells z.cells (t- (n+m))) e)) (aX S ι st.k w) av u:=λhv=>hv.mono (λ_ h=>h) λy o I=>O.cell I.2.1;have hmul:(n+m)*i.size=n*i.size+m*i.size:=ig _ _ _
   by_cases H:d<n
   .obtain⟨av,u,K,F,L⟩:=WH d j H l;have WC:d*i.size+j<n*i.size:=by
     have:(d+1)*i.size<=n*i.size:=h4 _ H;rw[jK]at this;omega
    refine⟨av,u,?_,?_,U L⟩
    .have:Nat.blt d n=true:=by simpa[jL]using H
     rw[<-R d k];simp only[iH,this,au];exact K
    .rw[r2 (by simp [C,D.newsLen];omega)];simp only[wc];rw[wb Ω];exact F
   .obtain⟨av,u,K,F,L⟩:=Oq (d-n) j Ω l;have te:(d-n)*i.size=d*i.size-n*i.size:=E1 _ _ _;have awG:n*i.size<=d*i.size:=h4 _ Ω;have WC:d*i.size+j<(n+m)*i.size:=by
     have:(d+1)*i.size<=(n+m)*i.size:=h4 _ k;rw[jK]at this;omega
    refine⟨av,u,?_,?_,U L⟩
    .have:Nat.blt d n=false:=by
      cases e:Nat.blt d n with
      |false=>rfl
      |true=>exact absurd (hH e) Ω
     rw[<-R d k];simp only[iH,this,aB];exact K
    .rw[r2 (by simp [C,D.newsLen];omega)];simp only[wc];rw[E2 Ω,C];rw[te]at F;rw[show d*i.size+j-n*i.size=d*i.size-n*i.size+j by omega];exact F
  have⟨fw,hU⟩:=h.Jw O (b:=aD) (x:=w.heap.size) (bH _) Χ (f:=hh) (n:=n+m) (af:=i.size) (c:=t) kK Q (tN w.drew _) (by
   simp only[yq,r4,db,size_zeroCells,IF,C,D.newsLen,<-ig]
   congr 1;omega) (F':=aX S ι st.k w) (λy I=> .inl I) Wq (.inl ⟨ng,rH⟩)
  subst axz;exact⟨_,_,_,V,EU _ _ _,fw,hU⟩
 cases dq with
 |kX _ _ _ p c fv B=>
  subst B
  cases fv with
  |nil=>exact G none 0 [] (run_firstCells_none w.drew i.size 0 0 0) Χ (λd j k=>by omega) Ω rfl
  |mt _ _ N c=>exact G (some N) 0 [] (J7 (P:=E.P) w.drew i.size 0 N 0 0 [] Χ λj u l=>by simp at l) Χ (λd j k=>by omega) Ω rfl
  |arr _ _ _ q o _ aH2 cQ gT jH o9 Y Z gh=>
   refine G (some ⟨q,o,none⟩) _ (uy i.size _ cQ) ?_ (F5 _ _ _) (λd j k l=>⟨_,_,Y d j k l,LD k l,gh d j k l⟩) Ω rfl;refine J7 (P:=E.P) w.drew i.size _ ⟨q,o,none⟩ _ _ _ (F5 _ _ _) λj u l=> ?_;have⟨d,XB,k,Wz,W,X⟩:=LC l;rw[Addr.add_lit,W,X,<-r7];exact Z d XB k Wz
def aqs{o:Oper}{c:Go.Call}{x y:Operand}{T C:TypeId}{t:bU}{str:Bool}(eV:o.op= .call c)(kk:c.callee= .builtin .append)(DM:c.args= #[x,y])(axr:c.argTypes= #[T,C])(hV:hl E.P T t)
  (We:if str then E.P.underlying C=some .string else∃e,E.P.underlying C=some (.slice e)) (h:a2 S ι st a w) {aD:Nat} (ng: ∀o,M st.k aD o= .undef) (rH:ι aD=none) {K:J->b3->Prop}
  (r:pG t str st.k aD (aE st.n x) (aE st.n y) K) {next:Act->World->Prop} {Q:Exit->Act->World->Prop}
  (U: ∀aC av G v w',K av G->a2 S aC ⟨st.n,bN st.k G⟩ a w'->bA S aC (bN st.k G) w' av v->(∀b,aC b≠none->ι b≠none\/ ∃p c,(b,p,c)∈G)->next (a.put o.dst v) w'):o.wp E.P a w next Q:=by
 have D:=h.eval x;have Ao:=h.eval y;have eh:=hV.d;unfold pG at r
 cases pP:t.d<;>rw[pP]at r<;>simp only at r<;>try exact r.elim
 rename_i e mZ nD;rw[pP]at eh;obtain⟨X,i,P,pb,xQ,DS⟩:=eh;subst pb;subst xQ;have⟨ag8,r⟩:=aF.1 r;simp only[b2,jL]at ag8;have N:i.bytes<=256:=hH ag8.1;have⟨aL,F⟩:=Option.isSome_iff_exists.1 DS.1;have Y:aL.cells.size=i.size:=DS.2 aL F;have V: ∀u w',(Builtin.append_ #[T,C] o.type #[a.eval x,a.eval y]).run E.P w= .ok u w'->(execOp a.eval o).run E.P w= .ok (.value u) w':=λu w' dq=>by
  simp [execOp,eV,resolve,kk,DM,axr,invoke,builtin,dq]
 have⟨m,g,news,r,hm,W,R⟩:=aF1 h We Ao r
 cases ex:aE st.n x<;>rw[ex]at r D<;>simp only at r<;>try exact r.elim
 .have An:a6 w (aX S ι st.k w) .aH (a.eval x):=D;have axG:a.eval x= .slice none 0 0:=by
   generalize a.eval x=v at An
   cases An;rfl
  have⟨fw,hU,fG⟩:=h.Po ng rH i.size (λ_=>[]);have awe:M (bM st.k aD 0 (.ad false i.size 0 λ_=>[])) aD 0= .ad false i.size 0 (λ_=>[]):=by rw[fo,bg ⟨rfl,rfl⟩]
  have⟨aC,w',u,cX,ct,z,s⟩:=aci (g:=g) (hh:=iH 0 (λ_=>[]) g) (ty:=o.type) fw X P F N Y (λ_ _=>rfl) awe rfl (fG _) (by simpa using r.1) (x:=a.eval y) W (λahP j Wy ia=>by
   have⟨av,u,ix,gF,j0⟩:=R ahP j Wy ia;exact⟨av,u,ix,gF,j0.mono hU.iL hU.cell⟩)
  rw[<-axG]at cX;have xO:iH 0 (λ_=>[]) g=g:=by
   funext j
   have H:Nat.blt j 0=false:=by cases j<;>rfl
   simp only[iH,H,aB,Nat.sub_zero]
  have N7:bM (bM st.k aD 0 (.ad false i.size 0 λ_=>[])) aD 0 (.ad false i.size (0+m) (iH 0 (λ_=>[]) g))=bM st.k aD 0 (.ad false i.size m g):=by
   rw[xO,dj];simp only[bM];have: ∀{α:Type} (d:α) (l:List α) (k:Nat) (p q:α),setAt d (setAt d l k p) k q=setAt d l k q:=λ{α} d l k p q=>by
    induction l generalizing k with
    |nil=>induction k with
     |zero=>rfl
     |succ k Z=>simp [setAt,Z]
    |cons y l Z=>cases k with
     |zero=>rfl
     |succ k=>simp [setAt,Z]
   have H:(setAt [] st.k aD (setAt .undef (st.k.getD aD []) 0 (.ad false i.size 0 λ_=>[]))).getD aD []=setAt .undef (st.k.getD aD []) 0 (.ad false i.size 0 λ_=>[]):=by rw[rC,bg rfl]
   rw[H,this,this]
  simp only at z s;rw[N7]at z s;rw[dj]at s;exact dK (V _ _ cX) (U aC _ _ u w' r.2 z s λb B=>(ct b B).imp id λe=>⟨0,.ad false i.size m g,by subst e;simp⟩)
 .rename_i b k
  cases e:M st.k b 0<;>rw[e]at r<;>simp only at r
  rename_i ro af n f;have⟨A,Is,L,hh,O,I⟩:=aF.1 r;simp only[b2,j4,kS]at A;obtain⟨rfl,rfl⟩:=A;have⟨aC,w',u,cX,ct,z,s⟩:=aci (g:=g) (hh:=hh) (ty:=o.type) h X P F N Y O e Is D L (x:=a.eval y) W R;exact dK (V _ _ cX) (U aC _ _ u w' I z s λb' B=>(ct b' B).imp id λe=>⟨0,.ad false i.size (n+m) hh,by subst e;simp⟩)
 .rename_i af n f;have⟨A,awX,L,hh,O,I⟩:=aF.1 r;have A:=al A;subst A;have⟨aC,w',u,cX,ct,z,s⟩:=aqr (g:=g) (hh:=hh) (ty:=o.type) h X P F N Y O ng rH D awX L (x:=a.eval y) W R;exact dK (V _ _ cX) (U aC _ _ u w' I z s λb' B=>(ct b' B).imp id λe=>⟨0,.ad false i.size (n+m) hh,by subst e;simp⟩)
end
section
variable {E:Env} {S:ez} {ι:Nat->Option Nat} {st:O} {a:Act} {w:World}
def akp(h:a2 S ι st a w){e:Nat} : ∀(d:List (Nat×Operand)) (k:Nat) (l:List (List J)),l6 e st.n d k=some l->
  l.length=d.length/\(d.map λp=>(p.1,a.eval p.2))=((d.map λp=>a.eval p.2).zipIdx k).map (λx=>(x.2,x.1))/\(∀v∈d.map (λp=>a.eval p.2),v.cells.size=e)/\
  bb (λcs v=>bb (eY S ι st.k w) cs v.cells.toList) l (d.map λp=>a.eval p.2)
 |[],k,l,b=>by
  simp only[l6,hI]at b;subst b;exact⟨rfl,rfl,λv c=>by simp at c,trivial⟩
 |(i,x)::r,k,l,b=>by
  simp only[l6]at b
  split at b
  .rename_i j;simp only[b2]at j;obtain⟨f,⟨u,g⟩,A⟩:=j;have f:i=k:=ey f;subst f;have g:(cellsOf (fh (aE st.n x))).length=e:=ey g
   split at b
   .rename_i z t;simp only[hI]at b;subst b;have⟨n,o,q,s⟩:=akp h r (i+1) z t;have m:=eZ.cells (El (h.eval x)) u;have y:(a.eval x).cells.size=e:=by rw[<-g,m.length];simp
    refine⟨by simp [n],by simp [List.zipIdx_cons,o],λv c=> ?_,m,s⟩;simp only[Br,ih]at c;rcases c with rfl|c
    .exact y
    .exact q v c
   .cases b
  .cases b
def aez{H:Heap}(h:a2 S ι st a w): ∀(e:List (List J)) (us:List Value) (K:List (List J)->Prop),(∀b∈e.flatten.flatMap qs,∀p k n f,M H b 0= .ad p k n f->M st.k b 0= .ad true k n f)->bb (λcs (v:Value)=>bb (eY S ι st.k w) cs v.cells.toList) e us->oB H e K-> ∃g,K g/\bb (λcs (v:Value)=>bb (a6 w (aX S ι st.k w)) cs v.cells.toList) g us
 |[],[],K,_,_,c=>⟨[],c,trivial⟩
 |l::e,u::us,K,j,d,c=>by
  simp only[oB]at c;have⟨y,c,m⟩:=T6 h l _ _ (λb i=>j b (by simp only[Bt,tP,fj];exact .inl i)) d.1 c;have⟨g,c,o⟩:=aez h e us _ (λb i=>j b (by simp only[Bt,tP,fj];exact .inr i)) d.2 c;exact⟨y::g,c,m,o⟩
 |[],_::_,_,_,d,_=>d.elim
 |_::_,[],_,_,d,_=>d.elim
def aDH{c:J}{b:Nat}(h:b∈qs c):b∈ts c:=by
 cases c<;>simp only[qs,ts]at h |- <;>first|exact h|(cases h;done)
def aqK{o:Oper}{T:TypeId}{t:bU}{len:Nat}{k:Array (Nat×Operand)}(eV:o.op= .buildSlice T len k)(hV:hl E.P T t)(h:a2 S ι st a w){aD:Nat}(Z: ∀o,M st.k aD o= .undef)(rH:ι aD=none){K:J->b3->Prop}
  (m:sm t st.n st.k aD len k.toList K) {next:Act->World->Prop} {Q:Exit->Act->World->Prop}
  (tc: ∀aC av ws v w',K av ws->a2 S aC ⟨st.n,bN st.k ws⟩ a w'->bA S aC (bN st.k ws) w' av v->(∀b,aC b≠none->ι b≠none\/ ∃p c,(b,p,c)∈ws)->next (a.put o.dst v) w'):o.wp E.P a w next Q:=by
 have V:=hV.d;unfold sm at m
 cases O:t.d<;>rw[O]at m<;>simp only at m<;>try exact m.elim
 rename_i e mZ nD;rw[O]at V;obtain⟨hu,i,X,pb,xQ,DS,ahk⟩:=V;subst pb;have⟨z,iw⟩:=Option.isSome_iff_exists.1 DS
 cases I:l6 i.size st.n k.toList 0 with
 |none=>rw[I]at m;exact m.elim
 |some l=>
  rw[I]at m;have⟨s,m⟩:=aF.1 m;simp only[b2,jL]at s;obtain⟨⟨⟨Y,F⟩,D⟩,Ow⟩:=s;have Y:l.length=len:=ey Y;have F:len<=4096:=hH F;have D:i.size<=4096:=hH D;have⟨jS,kF,R,mD⟩:=akp h _ _ _ I;have L:(k.toList.map λp=>a.eval p.2).length=len:=by rw[List.length_map];omega
  have⟨W,td⟩:=h.freeze (H':=bN st.k (e_ st.k l.flatten)) (yc _) (tf _ _);have⟨N,⟨hh,xP,rE⟩,r⟩:=aez (H:=st.k) W l _ _ (λb jH ro af n f he=>JF (by
   have⟨c,awg,B⟩:=mL.1 jH;exact mL.2 ⟨c,awg,aDH B⟩) he) (mD.imp λ_ _ q=>q.imp λ_ _ dq=>dq.step td) m
  have Iu: ∀o,M (bN st.k (e_ st.k l.flatten)) aD o= .undef:=λo=>by
   rcases yc (H:=st.k) l.flatten aD o with g|⟨_,ro,af,n,f,g,_⟩
   .rw[g];exact Z o
   .rw[Z 0]at g;cases g
  have P: ∀C:Array Value,(Instr.buildSlice T len (k.map λ(i,x)=>(i,a.eval x))).run E.P w= .ok (.slice (some ⟨w.heap.size,0,none⟩) len len) (w.alloc (.cells C e))->C.size=len*i.size->
    (∀d j,d<len->j<i.size->C[d*i.size+j]? =((k.toList.map λp=>a.eval p.2)[d]?).bind λv=>v.cells[j]?)->o.wp E.P a w next Q:=λC qk l0 lg=>by
   have U:Below w.heap.size w (w.alloc (.cells C e)):=(Below.refl _ w).alloc (bH _) _;have hv:sj w.heap.size (w.alloc (.cells C e)) (aX S ι (bN st.k (e_ st.k l.flatten)) w) (.ad false i.size len hh) (.slice (some ⟨w.heap.size,0,none⟩) len len):=by
    refine .inr ⟨w.heap.size,len,C,e,bH _,by simp,rfl,bH _,by have o8:dL=549755813888:=rfl;omega,tN w _,l0,λd j u A=> ?_⟩;have aI2:N.length=len:=by rw[r.length];exact L
    obtain⟨row,ahG⟩: ∃row,N[d]? =some row:=⟨_,cG (show d<N.length by omega)⟩;have⟨v,ix,gF⟩:=r.get d row ahG;have rG:v.cells.size=i.size:=R v (fr ix);have hlen:row.length=i.size:=by rw[gF.length];simpa using rG
    obtain⟨c,s⟩: ∃c,row[j]? =some c:=⟨_,cG (show j<row.length by omega)⟩;have⟨aL,j0,IU⟩:=gF.get j c s;have ahy:=xP d u;rw[List.getD,ahG]at ahy;have⟨G,B,aw0⟩:=Py j c ahy s;refine⟨G,aL,B,?_,YF aw0 (IU.mono (λy r=>⟨r,λe=> ?_⟩) λy o r=>U.cell r.2.1)⟩
    .rw[lg d j u A,ix];simpa using j0
    .subst e;exact absurd r.2.1 (Nat.lt_irrefl _)
   have⟨aC,av,QH,q1,gw,A0,Zy⟩:=ZL (st:=st) (ws:=e_ st.k l.flatten) W U hv (λy r=> .inl r) Iu rH rE;refine dK (v:= .slice (some ⟨w.heap.size,0,none⟩) len len) (w':=w.alloc (.cells C e)) ?_ (tc _ _ _ _ _ q1 gw A0 Zy);simp only[execOp,eV];rw[Sem.run_bind,qk];rfl
  have axb:(k.map λ(i,x)=>(i,a.eval x)).toList=((k.toList.map λp=>a.eval p.2).zipIdx 0).map (λx=>(x.2,x.1)):=by rw[<-kF];simp
  by_cases fv:len=0
  .subst fv;refine P #[] ?_ Χ (λd j u=>by omega);have axc:k.toList=[]:=by
    have:k.toList.length=0:=by omega
    exact aaS this
   have WJ:k= #[]:=qC (by simpa using axc);have axd:(Array.range 0)= #[]:=rfl;simp [axd,Instr.buildSlice,fN hu,sizeOf,typeInfo,X,WJ,Instr.fill,newRow]
  .obtain⟨C,cX,ct,pk⟩:=Great.fill_dense Ow (k.toList.map λp=>a.eval p.2) 0 ((Array.range (len*i.size)).map (z.cells[· %z.cells.size]!)) R (by rw[L];simp);have hmul:len*i.size<=16777216:=Nat.mul_le_mul F D;refine P C (run_buildSlice w T e len _ C i z hu X iw Ω (λh=>by rcases Nat.mul_eq_zero.1 h with h|h<;>omega) (by rw[axb];exact cX)) (by rw[ct];simp) (λd j u A=> ?_);have ht:d*i.size+j<len*i.size:=by
    have:(d+1)*i.size<=len*i.size:=h4 _ u;rw[jK]at this;omega
   have mY:(d*i.size+j)/i.size=d:=by
    rw[wh,Nat.mul_add_div Ω,QP A];omega
   have iJ:(d*i.size+j)%i.size=j:=by
    rw[wh,Nat.mul_add_mod,QQ A]
   rw[pk,L,bg ⟨by simp,by rw[dj];exact ht⟩,mY,iJ,Nat.sub_zero]
def aqF(h:a2 S ι st a w){x:Operand}{k:IntKind}{z:Int}(b:aE st.n x= .int k z):a.eval x= .int k z:=by
 have:=h.eval x;rw[b]at this;exact bA.int this
def mG(m:Option Operand)(c:Nat)(a:Int):Nat:=
 match m with
 |none=>c
 |some _=>a.toNat
def S5(h:a2 S ι st a w)(B:Bool)(o n:Nat)(l hh m:Option Operand){K:Int->Int->Int->Prop}(b:c4 st.n 0 l λj=>c4 st.n o hh λf=>c4 st.n f m λg=>(0<=j/\j<=f/\f<=g/\g<=o)/\K j f g)(G:o<=n)(A:hh=none->m=none):
  ∃j f g:Int,(0<=j/\j<=f/\f<=g/\g<=o)/\K j f g/\(m=none->g=f)/\(Instr.sliceBounds B o n (l.map a.eval) (hh.map a.eval) (m.map a.eval)).run E.P w= .ok (j.toNat,f.toNat,mG m n g) w:=by
 have q: ∀{x:Operand} {s:Int->Prop} (d:Int),c4 st.n d (some x) s-> ∃k z,a.eval x= .int k z/\s z:=λ{x s} d b=>by
  simp only[c4]at b
  cases e:aE st.n x<;>rw[e]at b<;>simp only at b<;>try exact b.elim
  exact⟨_,_,aqF h e,b⟩
 cases l with
 |none=>
  simp only[c4]at b
  cases hh with
  |none=>
   have:=A rfl;subst this;simp only[c4]at b;refine⟨_,_,_,b.1,b.2,λ_=>rfl,?_⟩;simp [mG,Instr.sliceBounds]
  |some C=>
   obtain⟨r,c,p,b⟩:=q 0 b
   cases m with
   |none=>
    simp only[c4]at b;refine⟨_,_,_,b.1,b.2,λ_=>rfl,?_⟩;simp [mG,Instr.sliceBounds,p,run_sliceBound w r c n _ Ω Ω]
   |some D=>
    obtain⟨u,i,em,b⟩:=q 0 b;refine⟨_,_,_,b.1,b.2,λh=>(by cases h),?_⟩;have y:(i.toNat:Int)=i:=QN Ω;simp [mG,Instr.sliceBounds,p,em,run_sliceBound w u i n _ Ω Ω,run_sliceBound w r c i.toNat _ Ω Ω]
 |some H=>
  obtain⟨an,v,t,b⟩:=q 0 b
  cases hh with
  |none=>
   have:=A rfl;subst this;simp only[c4]at b;refine⟨_,_,_,b.1,b.2,λ_=>rfl,?_⟩;simp [mG,Instr.sliceBounds,t,run_sliceBound w an v o _ Ω Ω]
  |some C=>
   obtain⟨r,c,p,b⟩:=q 0 b
   cases m with
   |none=>
    simp only[c4]at b;refine⟨_,_,_,b.1,b.2,λ_=>rfl,?_⟩;have y:(c.toNat:Int)=c:=QN Ω;simp [mG,Instr.sliceBounds,t,p,run_sliceBound w r c n _ Ω Ω,run_sliceBound w an v c.toNat _ Ω Ω]
   |some D=>
    obtain⟨u,i,em,b⟩:=q 0 b;refine⟨_,_,_,b.1,b.2,λh=>(by cases h),?_⟩;have y:(i.toNat:Int)=i:=QN Ω;have F:(c.toNat:Int)=c:=QN Ω;simp [mG,Instr.sliceBounds,t,p,em,run_sliceBound w u i n _ Ω Ω,run_sliceBound w r c i.toNat _ Ω Ω,run_sliceBound w an v c.toNat _ Ω Ω]
end
section
variable {E:Env} {S:ez} {ι:Nat->Option Nat} {st:O} {a:Act} {w:World}
def a6.part{F:Nat->Prop}{k n c m l hh p:Nat}{f:Nat->List J}{a:Option Addr}(A:k=p)(h:a6 w F (.arr k n f) (.slice a n c))(C:l<=hh)(D:hh<=n)(E:hh<=m)(z:n=0->a=none->m=0):
  a6 w F (.arr k (hh-l) λi=>f (l+i)) (.slice (if m=l then a else a.map (·.add (l*p))) (hh-l) (m-l)):=by
 subst A
 by_cases u:hh-l=0
 .rw[u]
  cases a with
  |none=>
   cases h with
   |nil=>
    have y:=z rfl rfl;have x:l=0:=by omega
    subst y;subst x;exact .nil _ _
  |some a=>
   by_cases e:m=l
   .rw[bg e];exact .mt _ _ _ _
   .rw[aW e];exact .mt _ _ _ _
 .have e:m≠l:=by omega
  rw[aW e]
  cases h with
  |nil=>omega
  |mt=>omega
  |arr _ _ _ b o c g B H G v r s t=>
   simp only[tM,Addr.add_lit];refine .arr k (hh-l) _ b (o+l*k) (m-l) (λi=>g (l+i)) (λi=>B (l+i)) Ω Ω (λ_=>v Ω) (λi j q d=>r _ _ Ω d) (λi j q d=> ?_) (λi j q d=>t _ _ Ω d);have:=s (l+i) j Ω d;rw[<-this,ig]
   congr 2;omega
def aFP{o:Oper}{T:TypeId}{t:bU}{x:Operand}{l hh m:Option Operand}(eV:o.op= .slice T x l hh m)(hV:hl E.P T t)(h:a2 S ι st a w){K:J->b3->Prop}(q:tF t st.k st.n (aE st.n x) l hh m K){next:Act->World->Prop}{Q:Exit->Act->World->Prop}
  (P: ∀av D v,K av D->a2 S ι ⟨st.n,bN st.k D⟩ a w->bA S ι (bN st.k D) w av v->next (a.put o.dst v) w):o.wp E.P a w next Q:=by
 have H:=h.eval x;have B:=hV.d;unfold tF at q;have⟨L,q⟩:=aF.1 q;have L:hh=none->m=none:=λe=>by
  subst e
  cases m with
  |none=>rfl
  |some _=>simp at L
 cases pP:t.d<;>rw[pP]at q B<;>simp only at q<;>try exact q.elim
 .
  cases O:aE st.n x<;>rw[O]at q H<;>simp only at q<;>try exact q.elim
  rename_i s
  cases m with
  |some _=>exact q.elim
  |none=>
   have awN:c4 st.n 0 l λj=>c4 st.n s.size hh λg=>c4 st.n g none λk=>(0<=j/\j<=g/\g<=k/\k<=s.size)/\K (.str (s.extract j.toNat g.toNat)) []:=by
    have mono: ∀{d:Int} {o:Option Operand} {y K2:Int->Prop},(∀z,y z->K2 z)->c4 st.n d o y->c4 st.n d o K2:=λ{d o y K2} u p=>by
     cases o with
     |none=>exact u _ p
     |some x=>
      simp only[c4]at p |-
      cases e:aE st.n x<;>rw[e]at p<;>simp only at p |- <;>first|exact p.elim|exact u _ p
    refine mono (λj p=>mono (λg F=> ?_) p) q;simp only[c4];exact⟨⟨F.1.1,F.1.2.1,bz _,F.1.2.2⟩,F.2⟩
   have⟨j,g,k,p,u,_,C⟩:=S5 (E:=E) h false s.size s.size l hh none (K:=λj g k=>K (.str (s.extract j.toNat g.toNat)) []) awN (bH _) (λ_=>rfl);have G:=bA.str H;have kK:=bA.aaw H;refine dK (v:= .string (s.extract j.toNat g.toNat)) (w':=w) ?_ (P _ _ _ u h (bA.mkStr _ (by rw[ByteArray.size_extract];omega)));simp only[Option.map_none]at C;simp [execOp,eV,G,Instr.sliceAt,fN B,Instr.slice];rw[C];rfl
 .rename_i e X nD;obtain⟨hu,i,DR,pb,_⟩:=B;have Y: ∀(A:Option Addr) (n c:Nat) (j g k:Int),a.eval x= .slice A n c->(Instr.sliceBounds true n c (l.map a.eval) (hh.map a.eval) (m.map a.eval)).run E.P w= .ok (j.toNat,g.toNat,mG m c k) w->
    (execOp a.eval o).run E.P w= .ok (.value (.slice (if(mG m c k)=j.toNat then A else A.map (·.add (j.toNat*X))) (g.toNat-j.toNat) (mG m c k-j.toNat))) w:=λA n c j g k G C=>by
   generalize mG m c k=l4 at C |-;simp [execOp,eV,G,Instr.sliceAt,fN hu,Instr.slice,C,sizeOf,typeInfo,DR,pb]
  have arr: ∀(H':Heap) (D:b3) (r n:Nat) (f:Nat->List J),H'=bN st.k D->a2 S ι ⟨st.n,H'⟩ a w->r=X->a6 w (aX S ι H' w) (.arr r n f) (a.eval x)->(c4 st.n 0 l λj=>c4 st.n n hh λg=>c4 st.n g m λk=>((0<=j/\j<=g/\g<=k/\k<=n)/\(lG m r=true->g=k))/\K (vL (lG m r) r (g-j).toNat λi=>f (j.toNat+i)) D)->o.wp E.P a w next Q:=λH' D r n f N7 ql I R q=>by
   have mono: ∀{d:Int} {o:Option Operand} {y K2:Int->Prop},(∀z,y z->K2 z)->c4 st.n d o y->c4 st.n d o K2:=λ{d o y K2} u p=>by
    cases o with
    |none=>exact u _ p
    |some x=>
     simp only[c4]at p |-
     cases e:aE st.n x<;>rw[e]at p<;>simp only at p |- <;>first|exact p.elim|exact u _ p
   have q:=mono (K2:=λj=>c4 st.n n hh λg=>c4 st.n g m λk=>(0<=j/\j<=g/\g<=k/\k<=n)/\(lG m r=true->g=k)/\K (vL (lG m r) r (g-j).toNat λi=>f (j.toNat+i)) D) (λj p=>mono (λg F=>mono (λk B=>⟨B.1.1,B.1.2,B.2⟩) F) p) q;have axy: ∃A c,a.eval x= .slice A n c/\n<=c/\(A=none->c=0):=by
    generalize a.eval x=v at R
    cases R with
    |nil=>exact⟨none,0,rfl,bH _,λ_=>rfl⟩
    |mt _ _ A c=>exact⟨some A,c,rfl,cd _,λh=>by cases h⟩
    |arr _ _ _ b o c aO cQ gT=>exact⟨_,c,rfl,gT,λh=>by cases h⟩
   obtain⟨A,c,G,nW,ag2⟩:=axy;have⟨j,g,k,⟨cw,a5,j_,nz⟩,⟨Im,u⟩,aIL,C⟩:=S5 (E:=E) h true n c l hh m (K:=λj g k=>(lG m r=true->g=k)/\K (vL (lG m r) r (g-j).toNat λi=>f (j.toNat+i)) D) q nW L;have ahC:=R;rw[G]at ahC;have aL:=a6.part (m:=(mG m c k)) (l:=j.toNat) (hh:=g.toNat) I ahC Ω Ω (by cases m<;>simp only[mG]<;>omega) (λgT Ae=>by
    cases m with
    |none=>exact ag2 Ae
    |some _=>simp only[mG];omega)
   refine dK (Y A n c j g k G C) (P _ _ _ u (by rw[<-N7];exact ql) ?_);rw[<-N7];have N:(g-j).toNat=g.toNat-j.toNat:=by omega
   rw[N]
   cases W:lG m r with
   |false=>exact aL
   |true=>
    have U:=Im W;refine a6.kX _ _ _ _ _ aL ?_
    cases m with
    |none=>cases W
    |some _=>simp only[mG];omega
  cases O:aE st.n x<;>rw[O]at q H<;>simp only at q<;>try exact q.elim
  .
   have mono: ∀{d:Int} {o:Option Operand} {y K2:Int->Prop},(∀z,y z->K2 z)->c4 st.n d o y->c4 st.n d o K2:=λ{d o y K2} u p=>by
    cases o with
    |none=>exact u _ p
    |some x=>
     simp only[c4]at p |-
     cases e:aE st.n x<;>rw[e]at p<;>simp only at p |- <;>first|exact p.elim|exact u _ p
   have An:a6 w (aX S ι st.k w) .aH (a.eval x):=H;have G:a.eval x= .slice none 0 0:=by
    generalize a.eval x=v at An
    cases An;rfl
   have⟨j,g,k,⟨cw,a5,j_,nz⟩,u,_,C⟩:=S5 (E:=E) h true 0 0 l hh m (K:=λ_ _ _=>K .aH []) (mono (λj p=>mono (λg F=>mono (λk B=>⟨Ω,B.2⟩) F) p) q) (bH _) L;refine dK (Y none 0 0 j g k G C) (P _ _ _ u h ?_);have N:j=0:=by omega
   have U:g=0:=by omega
   have bo:k=0:=by omega
   subst N U bo
   cases m<;>simp [mG]<;>exact a6.aH
  .rename_i r n f;have⟨I,q⟩:=aF.1 q;exact arr st.k [] r n f rfl h (al I) H q
  .rename_i b hA
   cases V:M st.k b 0<;>rw[V]at q<;>simp only at q
   rename_i ro r n f;have⟨I,Is,q⟩:=aF.1 q;have⟨Z,td⟩:=h.freeze (H':=bN st.k [(b,0,.ad true r n f)]) (λb' Pz=>by
    rw[DX,fo]
    by_cases e:b'=b/\Pz=0
    .obtain⟨rfl,rfl⟩:=e;rw[bg ⟨rfl,rfl⟩];exact .inr ⟨rfl,ro,r,n,f,V,by rw[fo,bg ⟨rfl,rfl⟩]⟩
    .rw[aW e];exact .inl rfl) (tf _ _)
   refine arr _ _ r n f rfl Z (al I) (PF Z (by rw[DX,fo,bg ⟨rfl,rfl⟩]) Is (cu.step td H)) q
def foldl_push: ∀(l:List Int) (r:z),l.foldl (λr n=>r.push (UInt8.ofNat n.toNat)) r=⟨r.data++(l.map λn=>UInt8.ofNat n.toNat).toArray⟩
 |[],r=>by simp
 |n::l,r=>by
  simp only[Bq,foldl_push l,Br];simp [ByteArray.push]
def arF{o m e:TypeId}(G:E.P.underlying o=some (.slice e))(B:E.P.underlying e=some (.int .u8))(A:E.P.underlying m=some .string){n x p c:Nat}{f:Nat->List J}{u:Nat->Value}{F:Nat->Prop}
  (y: ∀i,i<n->IL ((f i).getD 0 .undef)=true) (q: ∀i,i<n->w.cell? ⟨x,p+i,none⟩=some (u i)/\a6 w F ((f i).getD 0 .undef) (u i)):
  (convert o m (.slice (some ⟨x,p,none⟩) n c)).run E.P w= .ok (.string (bytesOf n f)) w:=by
 rw[run_convert_bytes_string w o m e _ n c G B A];have H: ∀i,i<n->u i= .int .u8 ((al8 ((f i).getD 0 .undef):Nat):Int)\/ ∃z,(f i).getD 0 .undef= .int .u8 z/\u i= .int .u8 z:=λi l=>by
  have d:=y i l;have a:=(q i l).2;generalize (f i).getD 0 .undef=av at d a;generalize u i=v at a
  cases a<;>first|(cases d;done)|skip
  rename_i k z
  cases k<;>first|(cases d;done)|exact .inr ⟨z,rfl,rfl⟩
 let b:List Int:=(List.range n).map λi=>match u i with| .int _ z=>z|_=>0
 have t:=QO (P:=E.P) w ⟨x,p,none⟩ (b.map (Value.int .u8)) (λj v g=>by
  have r:j<n:=by
   have:=(hk.1 g).1;simpa[b]using this
  rw[Addr.add_lit,(q j r).1];simp [b,E6 r]at g;rcases H j r with h|⟨z,_,h⟩<;>rw[h]at g |- <;>simp only at g<;>rw[<-g]<;>simp)
 have D:(b.map (Value.int .u8)).length=n:=by simp [b]
 rw[D]at t;rw[run_bytesToString w ⟨x,p,none⟩ n c b t,foldl_push];have C:ByteArray.empty.data= #[]:=rfl;rw[C]
 congr 2
 unfold bytesOf
 congr 1
 simp only[Array.empty_append,b,List.map_map]
 congr 1
 apply J8;intro i l;have s:i<n:=wg.1 l;simp only[Function.comp];have d:=y i s;have a:=(q i s).2;generalize (f i).getD 0 .undef=av at d a;generalize u i=v at a
 cases a<;>first|(cases d;done)|rfl
end
section
variable {E:Env} {S:ez} {ι:Nat->Option Nat} {st:O} {a:Act} {w:World}
def aqQ(n:Nat)(f:Nat->List J):(bytesOf n f).size=n:=by simp [bytesOf,ByteArray.size]
def wL(E:Env)(t u:bU):Option bU:=
 match u.d with
 | .slice e _ _=>E.ty e
 |_=>match t.d with
  | .slice e _ _=>E.ty e
  |_=>none
def acE(n:E.dU){T:TypeId}{t:bU}{i:Option bU}(o:hl E.P T t)(p: ∀e c a,t.d= .slice e c a->i=E.ty e)(h:pH t i=true): ∃e,E.P.underlying T=some (.slice e)/\E.P.underlying e=some (.int .u8):=by
 have j:=o.d;unfold pH at h
 cases g:t.d<;>rw[g]at h j<;>simp only at h<;>try exact Ζ
 rename_i e c a;rw[p e c a g]at h;simp only[b2]at h
 cases b:E.ty e with
 |none=>rw[b]at h;cases h.2
 |some m=>
  rw[b]at h;have l:=(n.ty e m b).d;have d:=h.2
  cases f:m.d<;>rw[f]at l<;>simp only[f]at d<;>try exact Ζ
  rename_i k
  cases k<;>first|(cases d;done)|exact⟨e,j.1,l⟩
def arG(nT:E.dU){o:Oper}{N G:TypeId}{t u:bU}{x:Operand}(eV:o.op= .convert N G x)(hV:hl E.P N t)(xN:hl E.P G u)
  (h:a2 S ι st a w) {K:J->Prop} (d:uk t u (wL E t u) st.k (aE st.n x) K) {next:Act->World->Prop} {Q:Exit->Act->World->Prop}
  (Y: ∀av v w',K av->a2 S ι st a w'->bA S ι st.k w' av v->next (a.put o.dst v) w'):o.wp E.P a w next Q:=by
 have A:=h.eval x;have R:=hV.d;have H:=xN.d;have Z: ∀v w',(convert N G (a.eval x)).run E.P w= .ok v w'->(execOp a.eval o).run E.P w= .ok (.value v) w':=λv w' r=>by
  simp only[execOp,eV];rw[Sem.run_bind,r];rfl
 have ahJ:u.d.isStr=true->E.P.underlying G=some .string:=λe=>by
  cases B:u.d<;>rw[B]at e H<;>first|exact H|(cases e;done)
 have Wv:u.d.isStr=true-> ∀e mZ nD,t.d= .slice e mZ nD->wL E t u=E.ty e:=λL e mZ nD O=>by
  unfold wL
  cases B:u.d<;>rw[B]at L<;>first|(cases L;done)|simp only[O]
 have core: ∀(n:Nat) (f:Nat->List J),n<=dL->u.d.isStr=true->pH t (wL E t u)=true->(∀i,i<n->IL ((f i).getD 0 .undef)=true)->K (.str (bytesOf n f))->(∃m c,a.eval x= .slice m n c/\(m=none->n=0)/\(n=0\/ ∃(q p:Nat) (u:Nat->Value),m=some ⟨q,p,none⟩/\ ∀i,i<n->w.cell? ⟨q,p+i,none⟩=some (u i)/\a6 w (aX S ι st.k w) ((f i).getD 0 .undef) (u i)))->o.wp E.P a w next Q:=by
  intro n f I L U T y ⟨m,c,r,ag2,k⟩;obtain⟨e,V,W⟩:=acE nT hV (Wv L) U;refine dK (Z _ w ?_) (Y _ _ _ y h (bA.mkStr _ (by rw[aqQ];exact I)));rcases k with rfl|⟨q,p,u,rfl,k⟩
  .rw[r];have av8:bytesOf 0 f=ε:=rfl;rw[av8,run_convert_bytes_string w N G e m 0 c V W (ahJ L)]
   cases m with
   |none=>simp [Conv.bytesToString];rfl
   |some m=>
    have z:=QO (P:=E.P) w m [] (λj v X=>by simp at X);have:=run_bytesToString (P:=E.P) w m 0 c [] (by simpa using z);rw[this];rfl
  .rw[r];exact arF V W (ahJ L) T k
 cases ex:aE st.n x<;>rw[ex]at d A<;>simp only[uk]at d<;>try exact d.elim
 case int aL hA=>
  cases B:u.d<;>rw[B]at d H<;>simp only at d<;>try exact d.elim
  rename_i aI7
  cases O:t.d<;>rw[O]at d R<;>simp only at d<;>try exact d.elim
  refine dK (Z _ w ?_) (Y _ _ _ d h (bA.mkInt _ _));rw[bA.int A];simp [convert,fN R,fN H,Conv.intToInt]
 case str s=>
  have I:=bA.aaw A
  cases O:t.d<;>rw[O]at d R<;>simp only at d<;>try exact d.elim
  have ab:dm (pH u (wL E t u)) (K (.arr 1 s.size (yD s)))->o.wp E.P a w next Q:=λd=>by
   obtain⟨U,y⟩:=aF.1 d;obtain⟨e,V,W⟩:=acE nT xN (λe mZ nD mY=>by simp [wL,mY]) U;have hv:=run_bytes_of_string (P:=E.P) w N G e s R V W;generalize Im:grownCap w s.size 0 e=g at hv;have vi:s.size<=g:=by
    have:=yp w s.size 0 e;rw[Im]at this;exact this
   have DP:Below w.heap.size w (w.drew.alloc (.cells (bytesRow s g) e ((bytesRow s g).size,(bytesRow s g).size+1))):=(Below.drew (Below.refl _ w)).alloc (bH _) _;obtain⟨fw,hU⟩:=h.world DP;rw[<-bA.str A]at hv;refine dK (Z _ _ hv) (Y _ _ _ y fw ?_);have nX:aX S ι st.k (w.drew.alloc (.cells (bytesRow s g) e ((bytesRow s g).size,(bytesRow s g).size+1))) w.heap.size:=⟨.inr h.below.size,by simp,λb _ e=>by have:=(h.fresh b _ e).2;omega⟩;have Ah: ∀i,i<s.size->(w.drew.alloc (.cells (bytesRow s g) e ((bytesRow s g).size,(bytesRow s g).size+1))).cell? ⟨w.heap.size,0+i*1+0,none⟩=some (.int .u8 ((s.data.toList.getD i 0).toNat:Int)):=λi l=>by
    have aw6:(w.drew.alloc (.cells (bytesRow s g) e ((bytesRow s g).size,(bytesRow s g).size+1))).heap[w.heap.size]? =some (.cells (bytesRow s g) e ((bytesRow s g).size,(bytesRow s g).size+1)):=tN w.drew _;rw[wi _ w.heap.size _ _ e _ aw6];have pb:i<s.data.size:=l;have xQ:i<(s.data.map (λb=>Value.int .u8 b.toNat)).size:=by simpa using pb
    simp only[dj,Nat.mul_one,nu];unfold bytesRow;rw[r2 xQ];have fG:s.data.toList.getD i 0=s.data[i]:=by simp [List.getD,r3 pb]
    rw[fG,Array.getElem?_map,r3 pb];rfl
   exact a6.arr 1 s.size (yD s) w.heap.size 0 g (λi _=> .int .u8 ((s.data.toList.getD i 0).toNat:Int)) (λi _=> .int .u8 ((s.data.toList.getD i 0).toNat:Int)) vi I (λ_=>nX)
    (λi j l X=>by have:j=0:=Ω;subst this;rfl) (λi j l X=>by
     have:j=0:=by omega
     subst this;exact Ah i l) (λi j l X=> .int _ _)
  cases B:u.d<;>rw[B]at d H<;>simp only at d<;>first|exact ab d|skip
  .refine dK (Z _ w ?_) (Y _ _ _ d h (bA.mkStr _ I));rw[bA.str A];simp [convert,fN R,fN H]
 case aH=>
  obtain⟨k,y⟩:=aF.1 d;simp only[b2]at k;have F:a6 w (aX S ι st.k w) .aH (a.eval x):=A;have r:a.eval x= .slice none 0 0:=by
   generalize a.eval x=v at F
   cases F;rfl
  exact core 0 (λ_=>[]) (cd _) k.1 k.2 (λi l=>by omega) y ⟨none,0,r,λ_=>rfl,.inl rfl⟩
 case arr af n f=>
  obtain⟨k,T,y⟩:=aF.1 d;simp only[b2]at k;have pd:af=1:=ey k.2;subst pd;have F:a6 w (aX S ι st.k w) (.arr 1 n f) (a.eval x):=A;refine core n f ?_ k.1.1 k.1.2 T y ?_
  .generalize a.eval x=v at F
   cases F<;>first|exact cd _|assumption
  .generalize a.eval x=v at F
   cases F with
   |nil=>exact⟨none,0,rfl,λ_=>rfl,.inl rfl⟩
   |mt _ _ m c=>exact⟨_,c,rfl,(λh=>by cases h),.inl rfl⟩
   |arr _ _ _ b o c aO cQ gT U o9 jS D gh=>
    refine⟨_,c,rfl,(λh=>by cases h),.inr ⟨b,o,λi=>cQ i 0,rfl,λi l=>⟨?_,?_⟩⟩⟩
    .have:=D i 0 l Ω;simpa using this
    .have fw:=jS i 0 l Ω;have:(f i).getD 0 .undef=aO i 0:=by simp [List.getD,fw]
     rw[this];exact gh i 0 l Ω
 case own b aL=>
  cases e:M st.k b 0<;>rw[e]at d<;>simp only at d
  rename_i ro af n f;obtain⟨k,rfl,T,y⟩:=aF.1 d;simp only[b2]at k;have pd:af=1:=ey k.2;subst pd;obtain⟨_,po,lu,n',gD,iJ,_,fG⟩:=(show eY S ι st.k w (.own b aL) (a.eval x)from A);rw[e]at iJ;cases iJ;have z:=h.k b 0;rw[e]at z;rcases z.2 with eh|⟨I,z⟩
  .cases eh.2.1
  refine core aL f I k.1.1 k.1.2 T y ?_;rcases fG rfl with⟨q,c,C,mh,jZ,r,nW,lg,l0⟩|⟨rfl,_,r⟩
  .refine⟨_,c,r,(λh=>by cases h),.inr ⟨q,0,λi=>(C[i]?).getD undef,rfl,λi l=> ?_⟩⟩;rcases z with z|⟨Jx,lv,tY,xR,xM,mE⟩
   .rw[jZ]at z;cases z.2
   .rw[jZ]at xR;cases xR;rw[lg]at xM;cases xM;obtain⟨av,u,jS,D,gh⟩:=mE i 0 l Ω;have D:C[i]? =some u:=by simpa using D
    have mD:(C[i]?).getD undef=u:=by rw[D];rfl
    refine⟨?_,?_⟩
    .rw[wi w q _ C mh (0,0) lg,dj,D];simp only[D];rfl
    .have:(f i).getD 0 .undef=av:=by simp [List.getD,jS]
     rw[this];simp only[mD];exact gh
  .exact⟨none,0,r,λ_=>rfl,.inl rfl⟩
def aCg{o:Oper}{c:Go.Call}{x y:Operand}(n:o.op= .call c)(l:c.callee= .builtin .min)(j:c.args= #[x,y])(h:a2 S ι st a w){K:J->Prop}(b:AJ (aE st.n x) (aE st.n y) K){next:Act->World->Prop}{Q:Exit->Act->World->Prop}
  (m: ∀av v,K av->bA S ι st.k w av v->next (a.put o.dst v) w):o.wp E.P a w next Q:=by
 have f:=h.eval x;have g:=h.eval y
 cases d:aE st.n x<;>cases e:aE st.n y<;>rw[d,e]at b<;>rw[d]at f<;>rw[e]at g<;>simp only[AJ]at b<;>try exact b.elim
 rename_i k p r q;have⟨_,i⟩:=aF.1 b;refine dK (v:= .int k (cond (decide (q<p)) q p)) (w':=w) ?_ (m _ _ i (bA.mkInt _ _));have:(cond (decide (q<p)) q p)=if q<p then q else p:=by by_cases h:q<p<;>simp [h]
 rw[this];simp [execOp,n,resolve,l,j,invoke,builtin,bA.int f,bA.int g,run_min_int2]
def aCb{o:Oper}{c:Go.Call}{x y:Operand}(n:o.op= .call c)(l:c.callee= .builtin .max)(j:c.args= #[x,y])(h:a2 S ι st a w){K:J->Prop}(b:AI (aE st.n x) (aE st.n y) K){next:Act->World->Prop}{Q:Exit->Act->World->Prop}
  (m: ∀av v,K av->bA S ι st.k w av v->next (a.put o.dst v) w):o.wp E.P a w next Q:=by
 have f:=h.eval x;have g:=h.eval y
 cases d:aE st.n x<;>cases e:aE st.n y<;>rw[d,e]at b<;>rw[d]at f<;>rw[e]at g<;>simp only[AI]at b<;>try exact b.elim
 rename_i k p r q;have⟨_,i⟩:=aF.1 b;refine dK (v:= .int k (cond (decide (q>p)) q p)) (w':=w) ?_ (m _ _ i (bA.mkInt _ _));have:(cond (decide (q>p)) q p)=if q>p then q else p:=by by_cases h:q>p<;>simp [h]
 rw[this];simp [execOp,n,resolve,l,j,invoke,builtin,bA.int f,bA.int g,run_max_int2]
end
section
variable {E:Env} {S:ez} {ι:Nat->Option Nat} {st:O} {a:Act} {w:World}
def aHA{F:Nat->Prop}{c:J}{v:Value}(a:PJ c=true)(h:mi c v):a6 w F c v:=by
 cases c<;>simp only[PJ]at a<;>first|(cases a;done)|skip
 .have h:v=_:=h;subst h;exact .int _ _
 .have h:v=_:=h;subst h;exact .bool _
 .obtain⟨h,b⟩:=(show v=_/\_ from h);subst h;exact .str _ (by rw[b];exact cd _)
def aB6(nT:E.dU){o:Oper}{T:TypeId}{t:bU}{l c:Operand}(eV:o.op= .makeSlice T l c)(hV:hl E.P T t)(h:a2 S ι st a w){aD:Nat}(ng: ∀o,M st.k aD o= .undef)(rH:ι aD=none){K:J->b3->Prop}
  (d:tp E t st.n aD l c K) {next:Act->World->Prop} {Q:Exit->Act->World->Prop}
  (tc: ∀aC av q v w',K av q->a2 S aC ⟨st.n,bN st.k q⟩ a w'->bA S aC (bN st.k q) w' av v->(∀b,aC b≠none->ι b≠none\/ ∃p c,(b,p,c)∈q)->next (a.put o.dst v) w'):o.wp E.P a w next Q:=by
 have F:=hV.d;unfold tp at d
 cases s:t.d<;>rw[s]at d<;>simp only at d<;>try exact d.elim
 rename_i e g nD;rw[s]at F;obtain⟨hu,i,I,L,xQ,DS,ahk⟩:=F
 cases r:E.ty e with
 |none=>rw[r]at d;exact d.elim
 |some m=>
 rw[r]at d;simp only at d;have O:=h.eval l;have C:=h.eval c
 cases el:aE st.n l<;>rw[el]at d O<;>simp only at d<;>try exact d.elim
 rename_i an z
 cases Y:aE st.n c<;>rw[Y]at d C<;>simp only at d<;>try exact d.elim
 rename_i W aHr;obtain⟨D,⟨rfl,B,fw⟩,rE⟩:=aF.1 d;simp only[b2]at D;obtain⟨⟨⟨⟨WL,R⟩,H⟩,G⟩,U⟩:=D;have R:=ey R;have H:=hH H;have G:=hH G;have U:0<g:=hH U;have⟨ahP,k,u,kF,gh,mD,A⟩:=(nT.ty e m r).info;rw[I]at u;cases u;have Ii:(i.bytes:Int)*z<=281474976710656:=by
  have X:(i.bytes:Int)<=4096:=by omega
  calc (i.bytes:Int)*z<=4096*4096:=Int.mul_le_mul X fw B Ω
   _<=_:=by omega
 have qk:=run_make (P:=E.P) w T e i k hu I gh an W z z B (bz _) Ii Ω;have Xq:m.zero.length=k.cells.size:=by rw[A.length];simp
 have IF:k.cells.size=g:=by omega
 have DP:Below w.heap.size w (w.alloc (.cells (madeCells k.cells (z.toNat*i.size)) e)):=(Below.refl _ w).alloc (bH _) _;have⟨ix,gF⟩:=h.Jw DP (b:=aD) (x:=w.heap.size) (bH _) Χ (f:=λ_=>m.zero) (n:=z.toNat) (af:=g) (c:=z.toNat) (by have o8:dL=549755813888:=rfl;omega) (bH _) (tN w _) (by rw[size_madeCells,L])
  (F':=aX S ι st.k w) (λy Ao=> .inl Ao) (λp j aL ia=>by
   have⟨v,dq,hv⟩:=A.get j _ (cG Ω);refine⟨m.zero[j]' Ω,v,cG Ω,?_,aHA (d_.1 WL _ (mb _)) hv⟩;have ht:p*g+j<z.toNat*i.size:=by
    have:(p+1)*g<=z.toNat*g:=h4 g aL;rw[jK]at this;rw[L];omega
   have awY:(p*g+j)%k.cells.size=j:=by
    rw[IF,Nat.add_comm,Nat.add_mul_mod_self_right,QQ ia]
   have N:j<k.cells.size:=by omega
   have V:k.cells[j]? =some v:=by simpa using dq
   simp only[madeCells,Array.getElem?_map,Array.getElem?_range,ht,ma,tM];rw[awY,getElem!_pos k.cells j N];rw[r3 N]at V;exact V) (.inl ⟨ng,rH⟩)
 refine dK (v:= .slice (some ⟨w.heap.size,0,none⟩) z.toNat z.toNat) (w':=w.alloc (.cells (madeCells k.cells (z.toNat*i.size)) e)) ?_ (tc _ _ _ _ _ rE ix gF λb jH=>(EU _ _ _ b jH).imp id λe=>⟨0,.ad false g z.toNat λ_=>m.zero,by subst e;simp⟩);have asq:a.eval l= .int an z:=O.int;have Z:a.eval c= .int W z:=C.int;simp only[execOp,eV];rw[Sem.run_bind,asq,Z,qk];rfl
end
def akP(ρ:Nat->Nat):J->J
 | .ptr b o=> .ptr (ρ b) o
 |x=>x
def gk(ρ:Nat->Nat):J->J
 | .own b k=> .own (ρ b) k
 | .ptr b o=> .ptr (ρ b) o
 | .gr b k i o=> .gr (ρ b) k i o
 | .fn f a=> .fn f (a.map (akP ρ))
 |x=>x
def l7(ρ:Nat->Nat):J->J
 | .agg cs=> .agg (cs.map (gk ρ))
 |x=>gk ρ x
def sq(D:Nat->Bool):J->Bool
 | .ptr b _=>D b
 |x=>ot x
def ow(D:Nat->Bool):J->Bool
 | .own b _=>D b
 | .ptr b _=>D b
 | .gr b _ _ _=>D b
 | .fn _ a=>a.all (sq D)
 |_=>true
def yT(D:Nat->Bool):J->Bool
 | .agg cs=>cs.all (ow D)
 | .du _=>false
 | .gone=>false
 |x=>ow D x
def pos:List Nat->Nat->Nat
 |[],_=>0
 |x::l,b=>match Nat.beq x b with
  |true=>0
  |false=>pos l b+1
def mem(l:List Nat)(b:Nat):Bool:=l.any λx=>Nat.beq x b
def dedup:List Nat->List Nat
 |[]=>[]
 |x::l=>match mem l x with
  |true=>dedup l
  |false=>x::dedup l
def Zq:J->List Nat
 | .ptr b _=>[b]
 |_=>[]
def akw:J->List Nat
 | .ptr b _=>[b]
 | .fn _ a=>a.flatMap Zq
 |_=>[]
def akx:J->List Nat
 | .agg cs=>cs.flatMap akw
 |x=>akw x
def PG:J->List Nat
 | .own b _=>[b]
 |_=>[]
def acz(aa:List J):List Nat:=dedup (aa.flatMap akx)
def FH(H:Heap)(aa:List J):List Nat:=dedup (acz aa++(acz aa).flatMap λb=>(H.getD b []).flatMap Zq)
def aDI:J->List Nat
 | .agg cs=>cs.flatMap PG
 |x=>PG x
def eA(H:Heap)(aa:List J):List Nat:=FH H aa++dedup (((FH H aa).flatMap λb=>(H.getD b []).flatMap PG)++aa.flatMap aDI)
def nodup:List Nat->Bool
 |[]=>true
 |x::l=> !(mem l x)&&nodup l
def AG(l:List J):Bool:=
 match l with
 |[]=>false
 |x::r=>match x with
  | .ad a _ _ _=> !a&&r.isEmpty
  |x=>(x::r).all (λc=> !(cv c))&&(x::r).any qy
def rX:List Nat->Heap->Heap->Bool
 |[],_,a=>a.all λy=> !(y.isEmpty)
 |b::l,H,a=>match a with
  |[]=>false
  |y::a=>Nat.beq (H.getD b []).length y.length&&rX l H a
def uh(a:Nat->Nat):Nat->Heap->b3
 |_,[]=>[]
 |i,l::r=>iI (a i) (l.map (gk a)) 0++uh a (i+1) r
def dP:J:= .ad true 0 (dL+1) λ_=>[]
def vW(L:List Nat)(aD i:Nat):Nat:=L.getD i (aD+(i-L.length))
def Qy:List J->J
 |[x]=>x
 |a=> .du a
def rN(n b:Nat):Bool:=Nat.blt b n
def ag4(aa:List J):Bool:= !((aa.flatMap akx).isEmpty)
def pa(E:Env)(H:Heap)(aD:Nat)(f:FuncId)(aa:List J)(K:J->b3->Prop):Prop:=
 dm (nodup (eA H aa)&&(eA H aa).all (λb=>AG (H.getD b [])&&(H.getD b []).all (ow (mem (eA H aa))))&&aa.all (yT (mem (eA H aa))))
  (match E.pc f (aa.map (l7 (pos (eA H aa)))) ((eA H aa).map λb=>(H.getD b []).map (gk (pos (eA H aa))))with
  |some (a,rs,H')=>pj a (dm (!(H'.isEmpty)&&rX (eA H aa) H H'&&H'.all (λl=>l.all (ow (rN H'.length)))&&rs.all (λr=>yT (rN H'.length) r&&pv r))
    (K (Qy (rs.map (l7 (vW (eA H aa) aD)))) (uh (vW (eA H aa) aD) 0 H')))
  |none=>False)
def mem_iff{l:List Nat}{b:Nat} :mem l b=true↔b∈l:=by
 simp only[mem,List.any_eq_true];constructor
 .rintro⟨x,a,h⟩
  rw[ey h]at a;exact a
 .intro h;exact⟨b,h,by simp⟩
def AZ: ∀{l:List Nat} {b:Nat},b∈l->l[pos l b]? =some b
 |[],_,h=>by cases h
 |x::l,b,h=>by
  unfold pos
  cases e:Nat.beq x b with
  |true=>simp [ey e]
  |false=>
   rcases ih.1 h with h|h
   .subst h;simp at e
   .simpa using AZ h
def Ia: ∀{l:List Nat} {i b:Nat},nodup l=true->l[i]? =some b->pos l b=i
 |[],i,b,_,h=>by simp at h
 |x::l,0,b,_,h=>by
  simp at h;subst h;simp [pos]
 |x::l,i+1,b,a,h=>by
  simp only[nodup,b2,j4]at a;have h:l[i]? =some b:=by simpa using h
  have c:b∈l:=fr h;have e:Nat.beq x b=false:=by
   cases e:Nat.beq x b with
   |false=>rfl
   |true=>
    rw[ey e]at a;rw[mem_iff.2 c]at a;cases a.1
  simp only[pos,e];rw[Ia a.2 h]
section
variable {mc eQ:Nat->Option Nat} {H1 lz:Heap} {w:World} {nw oh:Nat->Prop} {ρ:Nat->Nat} {D:Nat->Bool}
def EF{c:J} :cv (gk ρ c)=cv c:=by cases c<;>rfl
def aEX{c:J} :qy (gk ρ c)=qy c:=by cases c<;>rfl
def jO.nq(f: ∀b,D b=true->eQ (ρ b)=mc b)(e: ∀b o,D b=true->M lz (ρ b) o=gk ρ (M H1 b o))(d: ∀x,nw x->oh x){c:J}{v:Value}(a:sq D c=true)(k:jO mc H1 w nw c v):jO eQ lz w oh (akP ρ c) v:=by
 cases c<;>simp only[sq]at a<;>try exact Ζ
 case ptr b o=>
  obtain⟨g,x,h,i⟩:=k;exact⟨by rw[e _ _ a,EF];exact g,x,by rw[f _ a];exact h,i⟩
 all_goals first|(cases a;done)|exact a6.mono d (λ_ _ _=>rfl) k
def cu.nq(l: ∀b,D b=true->eQ (ρ b)=mc b)(j: ∀b o,D b=true->M lz (ρ b) o=gk ρ (M H1 b o))(u: ∀x,nw x->oh x){c:J}{v:Value}(a:ow D c=true)(k:cu mc H1 w nw c v):cu eQ lz w oh (gk ρ c) v:=by
 cases c<;>simp only[ow]at a
 case undef=>exact k
 case gone=>exact k
 case own b n=>
  obtain⟨m,s,t,r,f,d,g,h⟩:=k;refine⟨m,s,t,r,f,by rw[j _ _ a,d];rfl,g,λe=> ?_⟩;rw[l _ a];exact h e
 case ptr b o=>
  obtain⟨d,x,g,h⟩:=k;exact⟨by rw[j _ _ a,EF];exact d,x,by rw[l _ a];exact g,h⟩
 case gr b n i o=>
  obtain⟨m,s,t,r,f,d,g,h⟩:=k;refine⟨m,s,t,r,f,by rw[j _ _ a,d];rfl,g,λe=> ?_⟩;rw[l _ a];exact h e
 case fn f F=>
  obtain⟨E,rfl,k⟩:=k;refine⟨E,rfl,bb.mk (by simpa using k.length) λi p q z B=> ?_⟩;simp only[hJ,nt]at z;obtain⟨c,y,rfl⟩:=z;have⟨G,A,C⟩:=k.get i c y;rw[B]at A;cases A;exact jO.nq l j u (d_.1 a c (fr y)) C
 case agg=>exact k.elim
 case du=>exact k.elim
 case ad=>exact k.elim
 all_goals exact a6.mono u (λ_ _ _=>rfl) k
def g1.nq(j: ∀b,D b=true->eQ (ρ b)=mc b)(e: ∀b o,D b=true->M lz (ρ b) o=gk ρ (M H1 b o))(d: ∀x,nw x->oh x){c:J}{v:Value}(a:yT D c=true)(k:g1 mc H1 w nw c v):g1 eQ lz w oh (l7 ρ c) v:=by
 cases c
 case agg cs=>
  obtain⟨n,rfl,k⟩:=k;refine⟨n,rfl,bb.mk (by simpa using k.length) λi p q g l=> ?_⟩;simp only[hJ,nt]at g;obtain⟨c,f,rfl⟩:=g;have⟨r,h,m⟩:=k.get i c f;rw[l]at h;cases h;exact cu.nq j e d (d_.1 a c (fr f)) m
 case du=>cases a
 case gone=>cases a
 all_goals
  simp only[g1,yT,l7]at k a |-;exact cu.nq j e d a k
def eZ.nq(f: ∀b,D b=true->eQ (ρ b)=mc b)(e: ∀b o,D b=true->M lz (ρ b) o=gk ρ (M H1 b o))(d: ∀x,nw x->oh x){c:J}{v:Value}(a:yT D c=true)(k:eZ mc H1 w nw c v):eZ eQ lz w oh (l7 ρ c) v:=by
 cases c
 case undef=>trivial
 case du=>cases a
 case gone=>cases a
 case agg cs=>exact g1.nq (c:= .agg cs) f e d a k
 all_goals
  simp only[eZ]at k;have k:=g1.nq f e d a k;simp only[l7,gk]at k |-;exact k
def fC.nq(d: ∀b,D b=true->eQ (ρ b)=mc b)(p: ∀b o,D b=true->M lz (ρ b) o=gk ρ (M H1 b o))(m: ∀x,nw x->oh x){b o:Nat}{c:J}(a:D b=true)(u:ow D c=true)(k:fC mc H1 w nw b o c):fC eQ lz w oh (ρ b) o (gk ρ c):=by
 have t:cv (M lz (ρ b) 0)=cv (M H1 b 0):=by rw[p _ _ a,EF]
 cases c
 case undef=>trivial
 case ad I K n f=>
  obtain⟨e,l|⟨g,h⟩⟩:=k
  .exact⟨e,.inl ⟨l.1,l.2.1,by rw[d _ a];exact l.2.2⟩⟩
  refine⟨e,.inr ⟨g,?_⟩⟩;rw[d _ a];exact h.imp id λ⟨x,C,T,q,r,s⟩=>⟨x,C,T,q,r,λi j y z=>by
   have⟨av,v,F,G,H⟩:=s i j y z;exact⟨av,v,F,G,H.mono m λ_ _ _=>rfl⟩⟩
 all_goals
  obtain⟨A,x,v,e,g,h,B⟩:=k;have E:=cu.nq d p m u B;exact⟨by rw[t];exact A,x,v,by rw[d _ a];exact e,g,h,E⟩
end
def I0{H:Heap}{b:Nat}(h:AG (H.getD b [])=true):n8 H b/\(∃z l,H.getD b []=z::l):=by
 unfold AG at h
 cases e:H.getD b []with
 |nil=>rw[e]at h;cases h
 |cons x r=>
  rw[e]at h;refine⟨?_,x,r,rfl⟩;have a:M H b 0=x:=by unfold M;rw[e];rfl
  cases d:cv x with
  |true=>
   obtain⟨m,p,n,f,rfl⟩:=OM d;simp only[b2,j4]at h;exact .inl ⟨by rw[a];rfl,by rw[a];simp [qy,h.1]⟩
  |false=>
   have g:((x::r).all (λc=> !(cv c))&&(x::r).any qy)=true:=by cases x<;>first|exact h|(cases d;done)
   simp only[b2]at g;have⟨c,i,k⟩:=List.any_eq_true.1 g.2;have⟨o,j⟩:=l_ i;refine .inr ⟨by rw[a];exact d,o,?_⟩;unfold M;rw[e,List.getD,j];exact k
def au_{H:Heap}{b:Nat}{z:J}{c:List J}(h:H.getD b []=z::c):b<H.length:=by
 rcases ga b H.length with a|a
 .exact a
 .simp [List.getD,fk a]at h
def KP{e:Nat->Nat}{b p:Nat}{c:J} : ∀(g:Heap) (i:Nat),(b,p,c)∈uh e i g-> ∃j l,g[j]? =some l/\b=e (i+j)/\p<l.length/\c=gk e (l.getD p .undef)
 |[],_,h=>by cases h
 |l::g,i,h=>by
  simp only[uh,fj]at h;rcases h with h|h
  .have n: ∀(cs:List J) (o:Nat),(b,p,c)∈iI (e i) cs o->b=e i/\ ∃q,q<cs.length/\p=o+q/\c=cs.getD q .undef:=by
    intro cs
    induction cs with
    |nil=>intro o h;cases h
    |cons x cs m=>
     intro o h;rcases ih.1 h with h|h
     .cases h;exact⟨rfl,0,by simp,rfl,rfl⟩
     .obtain⟨d,q,a,f,k⟩:=m (o+1) h;exact⟨d,q+1,by simpa using a,Ω,by simpa using k⟩
   have⟨d,q,a,f,k⟩:=n _ _ h;have a:q<l.length:=by simpa using a
   refine⟨0,l,rfl,by simpa using d,Ω,?_⟩;rw[k,f,dj,List.getD,List.getD,hJ,cG a];rfl
  .obtain⟨j,r,d,a,f⟩:=KP g (i+1) h;exact⟨j+1,r,by simpa using d,by rw[a];congr 1;omega,f⟩
def Fy{σ:Nat->Nat} : ∀(b:Heap) (i j p:Nat) (l:List J),b[j]? =some l->p<l.length->(σ (i+j),p,gk σ (l.getD p .undef))∈uh σ i b
 |[],_,_,_,_,h,_=>by simp at h
 |y::b,i,0,p,l,h,a=>by
  simp at h;subst h;simp only[uh,fj];left;have d: ∀(cs:List J) (o q:Nat),q<cs.length->(σ i,o+q,cs.getD q .undef)∈iI (σ i) cs o:=by
   intro cs
   induction cs with
   |nil=>intro o q h;simp at h
   |cons x cs c=>
    intro o q h
    cases q with
    |zero=>exact ih.2 (.inl rfl)
    |succ q=>
     have:=c (o+1) q (by simpa using h);rw[show o+1+q=o+(q+1) by omega]at this;exact ih.2 (.inr (by simpa using this))
  have:=d (y.map (gk σ)) 0 p (by simpa using a);rw[List.getD,hJ,cG a]at this;rw[List.getD,cG a];simpa using this
 |y::b,i,j+1,p,l,h,a=>by
  have:=Fy (σ:=σ) b (i+1) j p l (by simpa using h) a;rw[show i+1+j=i+(j+1) by omega]at this;exact fj.2 (.inr this)
section
variable {E:Env} {S:ez} {ι:Nat->Option Nat} {st:O} {a:Act} {w:World}
def jO.aGz{H:Heap}{F:Nat->Prop}{c:J}{v:Value}(k:jO ι H w F c v):cu ι H w F c v:=by
 cases c
 case ptr=>exact k
 case fn f b=>
  have r:a6 w F (.fn f b) v:=k
  cases r with
  |fn _ _ s g u n j l m=>
   refine⟨s,rfl,bb.mk n.symm λi p q h o=> ?_⟩;have a:i<b.length:=(hk.1 h).1;have d:=j i a;have e:=l i a;rw[h]at d;cases d;rw[o]at e;cases e;have bo:=m i a;generalize g i=x at bo
   cases x<;>first|exact bo|(cases bo;done)
 all_goals
  simp only[jO]at k
  first|exact k|(cases k;done)
def lr(H:Heap)(L:List Nat):Heap:=L.map λb=>(H.getD b []).map (gk (pos L))
def mI(ι:Nat->Option Nat)(L:List Nat)(i:Nat):Option Nat:=(L[i]?).bind ι
def Qu{L:List Nat}{b:Nat}(a:b∈L):mI ι L (pos L b)=ι b:=by simp [mI,AZ a]
def EP{H:Heap}{L:List Nat}{b:Nat}(a:b∈L)(o:Nat):M (lr H L) (pos L b) o=gk (pos L) (M H b o):=by
 have e:(lr H L).getD (pos L b) []=(H.getD b []).map (gk (pos L)):=by
  unfold lr;rw[List.getD,hJ,AZ a];rfl
 unfold M;rw[e];generalize H.getD b []=l;rw[List.getD,hJ,List.getD]
 cases l[o]? <;>rfl
def aGd{H:Heap}{L:List Nat}{i:Nat}(a:L.length<=i)(o:Nat):M (lr H L) i o= .undef:=vj (by simpa[lr]using a) o
def P8{ρ:Nat->Nat}{H H':Heap}{b b':Nat}(h: ∀o,M H' b' o=gk ρ (M H b o))(k:n8 H' b'):n8 H b:=by
 unfold n8 at*
 simpa only[h,EF,aEX]using k
def awm(nT:E.dU){o:Oper}{c:Go.Call}{A:Operand}{f:FuncId}{kb:List J}(eV:o.op= .call c)(kk:c.callee= .value A)(Xn:aE st.n A= .fn f kb)(h:a2 S ι st a w){aD:Nat}{pB:Nat->Prop}(avR:pB aD)(Ig: ∀b,pB b->(∀p,M st.k b p= .undef)/\ι b=none)
  {aO:J->b3->Prop} (Ie: ∀av ws,aO av ws-> ∀b p c,(b,p,c)∈ws->aD<b->pB b) (X:pa E st.k aD f (c.args.toList.map (aE st.n)++kb) aO) {next:Act->World->Prop} {Q:Exit->Act->World->Prop}
  (tc: ∀aC av ws v w',aO av ws->a2 S aC ⟨st.n,bN st.k ws⟩ a w'->bA S aC (bN st.k ws) w' av v->(∀b,aC b≠none->ι b≠none\/ ∃p c,(b,p,c)∈ws)->next (a.put o.dst v) w'):o.wp E.P a w next Q:=by
 have Of:=h.eval A;rw[Xn]at Of;have⟨jP,Ww,Oc⟩:=(show eY S ι st.k w (.fn f kb) _ from Of);have DM:bb (bA S ι st.k w) (c.args.toList.map (aE st.n)++kb) (c.args.toList.map a.eval++jP):=by
  refine bb.append (bb.mk Χ λi x y s N=> ?_) (Oc.imp λ_ _ k=>eZ.AU (by
   have gF:=jO.aGz k;rename_i p q
   cases p<;>first|exact gF|exact gF.elim|exact(a6.ajU k).elim))
  simp only[hJ,nt]at s N;obtain⟨AR,mY,rfl⟩:=s;obtain⟨Jh,iJ,rfl⟩:=N;rw[mY]at iJ;cases iJ;exact h.eval AR
 generalize rG:c.args.toList.map a.eval++jP=cQ at DM;generalize c.args.toList.map (aE st.n)++kb=aa at X DM;unfold pa at X;generalize eA st.k aa=L at X;have⟨aha,X⟩:=aF.1 X;simp only[b2]at aha;obtain⟨⟨Iv,ahq⟩,awv⟩:=aha;have DT: ∀b,b∈L->AG (st.k.getD b [])=true:=λb d=>by
  have:=d_.1 ahq b d;simp only[b2]at this;exact this.1
 have awt: ∀b,b∈L-> ∀o,ow (mem L) (M st.k b o)=true:=λb d o=>by
  have:=d_.1 ahq b d;simp only[b2]at this;unfold M;rw[List.getD]
  cases e:(st.k.getD b [])[o]? with
  |none=>rfl
  |some x=>exact d_.1 this.2 x (fr e)
 have avS: ∀b,pB b->b∉L:=λb d V=>by
  have hv:=(I0 (DT b V)).1;have hu:=(Ig b d).1;rcases hv with⟨g,_⟩|⟨_,o,g⟩<;>rw[hu]at g<;>cases g
 cases ql:E.pc f (aa.map (l7 (pos L))) (lr st.k L)with
 |none=>rw[show(L.map λb=>(st.k.getD b []).map (gk (pos L)))=lr st.k L from rfl,ql]at X;exact X.elim
 |some q=>
  obtain⟨pre,rs,H'⟩:=q;rw[show(L.map λb=>(st.k.getD b []).map (gk (pos L)))=lr st.k L from rfl,ql]at X;have⟨aL,X⟩:=rS.1 X;have⟨ahb,rE⟩:=aF.1 X;simp only[b2]at ahb;obtain⟨⟨⟨_,hlen⟩,aww⟩,awx⟩:=ahb;have⟨⟨fn,arj,awD,Wm,WD⟩,Il⟩:=nT.pc _ _ _ _ _ _ ql;have Il:=Il aL;let qH:Nat->Prop:=λx=> ∃b,b∈L/\ι b=some x;have avW: ∀x,qH x->x<w.heap.size:=λx ⟨b,_,d⟩=>(h.fresh b x d).2;let nw:Nat->Prop:=λx=>aX S ι st.k w x\/qH x;have axm: ∀i x,mI ι L i=some x-> ∃b,b∈L/\pos L b=i/\ι b=some x:=λi x z=>by
   unfold mI at z
   cases e:L[i]? with
   |none=>rw[e]at z;cases z
   |some b=>rw[e]at z;exact⟨b,fr e,Ia Iv e,z⟩
  have avP: ∀x,aX S ι st.k w x->wu nw w.heap.size (mI ι L) (lr st.k L) w x:=λx s=>⟨.inl (.inl s),s.2.1,λi z R=>by
   obtain⟨b,d,rfl,DO⟩:=axm i x R;exact s.2.2 b (P8 (EP d) z) DO⟩
  let qL:ez:=⟨nw,w,λx s=>s.elim (λg=>g.2.1) (avW x),qH,λx s=> .inr s,mI ι L,lr st.k L,wu nw w.heap.size (mI ι L) (lr st.k L) w,λb x d=>by
   unfold mI at d
   cases e:L[b]? with
   |none=>rw[e]at d;cases d
   |some y=>simpa[lr]using(hk.1 e).1,λg=>(h.xJ g).imp id λk=>k.mono avP λ_ _ _=>rfl⟩
  have te: ∀i x,mI ι L i=some x-> ∃b,b∈L/\pos L b=i/\ι b=some x:=λi x z=>by
   unfold mI at z
   cases e:L[i]? with
   |none=>rw[e]at z;cases z
   |some b=>rw[e]at z;exact⟨b,fr e,Ia Iv e,z⟩
  have N5: ∀x,aX S ι st.k w x->aX qL (mI ι L) (lr st.k L) w x:=λx s=>⟨.inl (.inl s),s.2.1,λi z R=>by
   obtain⟨b,d,rfl,DO⟩:=te i x R;exact s.2.2 b (P8 (EP d) z) DO⟩
  have ahN: ∀b,mem L b=true->mI ι L (pos L b)=ι b:=λb d=>Qu (mem_iff.1 d);have agY: ∀b o,mem L b=true->M (lr st.k L) (pos L b) o=gk (pos L) (M st.k b o):=λb o d=>EP (mem_iff.1 d) o;have axj:a2 qL (mI ι L) ⟨aa.map (l7 (pos L)),lr st.k L⟩ {tmps:=cQ.toArray,defers:=[]} w:=by
   refine⟨js.refl _ _ _,rfl,λt av jI=> ?_,λi o=> ?_,λi j x F P=> ?_,λi x z=> ?_,λi x z=>qL.sq i x z,eS.refl⟩
   .simp only[hJ,nt]at jI;obtain⟨x,s,rfl⟩:=jI;have⟨v,dq,hv⟩:=DM.get t x s;exact⟨v,by simpa using dq,eZ.nq ahN agY N5 (d_.1 awv x (fr s)) hv⟩
   .show fC _ _ _ _ i o (M (lr st.k L) i o);rcases ga i L.length with z|z
    .have d:L[i]? =some L[i]:=cG z;have V:L[i]∈L:=fr d;have e:=Ia Iv d;have k:=fC.nq (ρ:=pos L) (D:=mem L) ahN agY N5 (mem_iff.2 V) (awt _ V o) (h.k L[i] o);rw[e]at k;have iJ:=EP (H:=st.k) V o;rw[e]at iJ;rw[iJ];exact k
    .rw[aGd z];trivial
   .obtain⟨cw,tl,rfl,ix⟩:=te i x F;obtain⟨a5,tm,rfl,gF⟩:=te j x P;rw[h.inj cw a5 x ix gF]
   .obtain⟨b,m,rfl,k⟩:=te i x z;exact⟨.inr ⟨b,m,k⟩,(h.fresh b x k).2⟩
  have qk:(execOp a.eval o).run E.P w= .ok (.enter f cQ.toArray) w:=by
   have WG:fn.name≠ "runtime.NumGoroutine" :=by simpa using WD
   have Wi:cQ.toArray=c.args.map a.eval++jP.toArray:=by rw[<-rG];apply qC;simp
   rw[Wi];simp [execOp,eV,resolve,kk,Ww,Deferred.ofValue,invoke,callFunc,awD,Wm,WG]
  unfold Oper.wp;rw[qk];refine(Il qL (mI ι L) w cQ (bH _) (by simpa using DM.length.symm) axj).mono λe w' ⟨us,aC,R,axs,W⟩=> ?_;subst R;let B:Nat->Nat:=vW L aD;let ws:b3:=uh B 0 H';have As: ∀i,L.length<=i->B i=aD+(i-L.length):=λi z=>by simp [B,vW,List.getD,fk z]
  let fl:Nat->Prop:=λb=>aD<=b/\b<aD+(H'.length-L.length);have Ad: ∀b,fl b-> ∃i,L.length<=i/\i<H'.length/\B i=b:=λb d=>⟨L.length+(b-aD),Ω,by have:=d.1;have:=d.2;omega,by rw[As _ Ω];have:=d.1;omega⟩;have N3: ∀i,L.length<=i->i<H'.length->fl (B i):=λi F P=>by
   rw[As i F];exact⟨Ω,Ω⟩
  let eQ:Nat->Option Nat:=λb=>if mem L b then aC (pos L b)else if aD<=b/\b<aD+(H'.length-L.length)then aC (L.length+(b-aD))else ι b
  have DY: ∀b,b∈L->eQ b=aC (pos L b):=λb d=>by simp [eQ,mem_iff.2 d]
  have ahs: ∀b,b∉L->mem L b=false:=λb d=>by
   cases e:mem L b with
   |false=>rfl
   |true=>exact absurd (mem_iff.1 e) d
  have vn: ∀b,b∉L-> ¬fl b->eQ b=ι b:=λb d gT=>by
   simp only[eQ,ahs b d];rw[aW Χ,aW gT]
  have axl: ∀(l:List Nat) (cL:Heap),rX l st.k cL=true->(∀(i b:Nat),l[i]? =some b-> ∃y,cL[i]? =some y/\(st.k.getD b []).length=y.length)/\l.length<=cL.length/\ ∀(i:Nat) y,l.length<=i->cL[i]? =some y->y≠[]:=by
   intro l
   induction l with
   |nil=>
    intro cL Z;refine⟨λi b d=>by simp at d,cd _,λi y _ N e=> ?_⟩;unfold rX at Z;have:=d_.1 Z y (fr N);rw[e]at this;cases this
   |cons b l pe=>
    intro cL Z;unfold rX at Z
    cases cL with
    |nil=>cases Z
    |cons y cL=>
     simp only[b2]at Z;have⟨G,O,mD⟩:=pe cL Z.2;refine⟨λi b' d=> ?_,by simpa using O,λi ym z N=> ?_⟩
     .cases i with
      |zero=>simp at d;subst d;exact⟨y,rfl,ey Z.1⟩
      |succ i=>simpa using G i b' (by simpa using d)
     .cases i with
      |zero=>simp at z
      |succ i=>exact mD i ym (by simpa using z) (by simpa using N)
  have⟨ahI,aIX,WU⟩:=axl L H' hlen;have OI: ∀b,b∈L->B (pos L b)=b:=λb d=>by simp [B,vW,List.getD,AZ d]
  have Ar: ∀i,i<L.length->B i∈L/\pos L (B i)=i:=λi z=>by
   have d:L[i]? =some L[i]:=cG z;have e:B i=L[i]:=by simp [B,vW,List.getD,d]
   rw[e];exact⟨fr d,Ia Iv d⟩
  have agZ: ∀i,L.length<=i->i<H'.length->pB (B i):=λi F P=>by
   by_cases e:i=L.length
   .rw[As i F,e,Nat.sub_self,nu];exact avR
   .have N:H'[i]? =some H'[i]:=cG P;have V:=Fy (σ:=B) H' 0 i 0 _ N (List.length_pos_iff.2 (WU i _ F N));rw[dj]at V;exact Ie _ _ rE _ _ _ V (by rw[As i F];omega)
  have Wc: ∀b,fl b->pB b:=λb d=>by
   obtain⟨i,F,P,rfl⟩:=Ad b d;exact agZ i F P
  have Wb: ∀b,fl b->b∉L:=λb d=>avS b (Wc b d);have OG: ∀i,L.length<=i->i<H'.length->eQ (B i)=aC i:=λi F P=>by
   have d:=N3 i F P;simp only[eQ,ahs _ (Wb _ d)];rw[aW Χ,bg d,As i F]
   congr 1;omega
  have ahO: ∀i j,i<H'.length->j<H'.length->B i=B j->i=j:=λi j z ia e=>by
   rcases ga i L.length with U|U<;>rcases ga j L.length with vm|vm
   .rw[<-(Ar i U).2,<-(Ar j vm).2,e]
   .exact absurd (by rw[<-e];exact(Ar i U).1) (Wb _ (N3 j vm ia))
   .exact absurd (by rw[e];exact(Ar j vm).1) (Wb _ (N3 i U z))
   .rw[As i U,As j vm]at e;omega
  have Oh: ∀i o,i<H'.length->M (bN st.k ws) (B i) o=gk B (M H' i o):=λi o z=>by
   have N:H'[i]? =some H'[i]:=cG z;have ahj:M H' i o=(H'[i]).getD o .undef:=by simp [M,List.getD,N]
   rcases ga o (H'[i]).length with eV|eV
   .have V:=Fy (σ:=B) H' 0 i o _ N eV;rw[dj]at V;have⟨S_,F,P⟩:=Xl ws st.k (B i) o _ V;have⟨j,l,G,O,gh,mD⟩:=KP H' 0 F;rw[dj]at O;have ia:j<H'.length:=(hk.1 G).1;have vk:i=j:=ahO i j z ia O;subst vk;rw[N]at G;cases G;rw[P,mD,ahj]
   .have hu:M H' i o= .undef:=by rw[ahj,List.getD,fk eV];rfl
    rw[hu];rcases ID ws st.k (B i) o with F|⟨S_,F,P⟩
    .rw[F];rcases ga i L.length with U|U
     .have d:L[i]? =some L[i]:=cG U;have⟨y,G,O⟩:=ahI i _ d;rw[N]at G;cases G;have e:B i=L[i]:=by simp [B,vW,List.getD,d]
      rw[e];unfold M;rw[List.getD,fk (by rw[O];exact eV)];rfl
     .exact(Ig _ (agZ i U z)).1 o
    .obtain⟨j,l,G,O,gh,mD⟩:=KP H' 0 F;rw[dj]at O;have ia:j<H'.length:=(hk.1 G).1;have vk:i=j:=ahO i j z ia O;subst vk;rw[N]at G;cases G;omega
  have Oj: ∀b o,b∉L-> ¬fl b->M (bN st.k ws) b o=M st.k b o:=λb o d gT=>by
   rcases ID ws st.k b o with F|⟨S_,F,P⟩
   .exact F
   .obtain⟨j,l,G,O,gh,mD⟩:=KP H' 0 F;rw[dj]at O;have ia:j<H'.length:=(hk.1 G).1;rcases ga j L.length with vm|vm
    .exact absurd (by rw[O];exact(Ar j vm).1) d
    .exact absurd (by rw[O];exact N3 j vm ia) gT
  have Og: ∀b o,b∈L->M (bN st.k ws) b o=gk B (M H' (pos L b) o):=λb o d=>by
   have aL:=(hk.1 (AZ d)).1;have:=Oh (pos L b) o Ω;rwa [OI b d]at this
  have aJi: ∀x,aX S ι st.k w x-> ¬qH x:=λx s ⟨b,d,R⟩=>s.2.2 b (I0 (DT b d)).1 R;have N4: ∀x,aX qL aC H' w' x->aX S eQ (bN st.k ws) w' x:=λx s=>by
   have vl:S.qE x\/S.fy.heap.size<=x:=by
    rcases s.1 with(g|⟨b,_,g⟩)|g
    .exact g.1
    .exact h.own g
    .exact .inr (ec h.below.size g)
   refine⟨vl,s.2.1,λb d R=> ?_⟩
   by_cases u:b∈L
   .rw[DY b u]at R;exact s.2.2 _ (P8 (λo=>Og b o u) d) R
   .by_cases I:fl b
    .obtain⟨i,i1,Y,rfl⟩:=Ad b I;rw[OG i i1 Y]at R;exact s.2.2 _ (P8 (λo=>Oh i o Y) d) R
    .rw[vn b u I]at R;have awU:=pr (H:=st.k) (λo=>Oj b o u I) d;rcases s.1 with(g|⟨b',Af,g⟩)|g
     .exact g.2.2 b awU R
     .exact u (by rw[h.inj b b' x R g];exact Af)
     .have:=(h.fresh b x R).2;have g:w.heap.size<=x:=g;omega
  have Ol:eS (mI ι L) (lr st.k L) w (aX qL (mI ι L) (lr st.k L) w) aC H' w' (aX qL aC H' w'):=W.hs;have OA: ∀b x,b∉L->ι b=some x->w'.heap[x]? =w.heap[x]? :=λb x d s=>W.below.block x (h.fresh b x s).2 λ⟨b',Af,g⟩=>d (by rw[h.inj b b' x s g];exact Af);have WX:eS ι st.k w (aX S ι st.k w) eQ (bN st.k ws) w' (aX S eQ (bN st.k ws) w'):=by
   refine⟨λx s=>N4 x (Ol.iL x (N5 x s)),λx o s=>Ol.cell x o (N5 x s),λb x s d=> ?_,λb ro af n f d=> ?_⟩
   .by_cases u:b∈L
    .obtain⟨G,O⟩:=Ol.box (pos L b) x (by rw[Qu u];exact s) (by rw[EP u,EF];exact d);exact⟨by rw[DY b u];exact G,by rw[Og b 0 u,EF];exact O⟩
    .have I: ¬fl b:=λe=>by rw[(Ig b (Wc b e)).2]at s;cases s
     exact⟨by rw[vn b u I];exact s,by rw[Oj b 0 u I];exact d⟩
   .by_cases u:b∈L
    .obtain⟨po,lu,n',gD,G,O,gh⟩:=Ol.arr (pos L b) ro af n f (by rw[EP u,d];rfl);refine⟨po,lu,n',gD,by rw[Og b 0 u,G];rfl,O,λe=> ?_⟩;have⟨IN,ix,gF⟩:=gh e;rw[DY b u,ix,Qu u];refine⟨IN,rfl,λx C T s lg=>gF x C T (by rw[Qu u];exact s) lg⟩
    .have I: ¬fl b:=λe=>by rw[(Ig b (Wc b e)).1]at d;cases d
     refine⟨ro,_,n,f,by rw[Oj b 0 u I];exact d,bH _,λ_=>⟨rfl,vn b u I,λx C T s lg=>⟨C,by rw[OA b x u s];exact lg,rfl⟩⟩⟩
  have Xs: ∀i,rN H'.length i=true->eQ (B i)=aC i:=λi z=>by
   have z:i<H'.length:=hH z;rcases ga i L.length with U|U
   .rw[DY _ (Ar i U).1,(Ar i U).2]
   .exact OG i U z
  have V_: ∀i o,rN H'.length i=true->M (bN st.k ws) (B i) o=gk B (M H' i o):=λi o z=>Oh i o (hH z);have ahd: ∀i o,ow (rN H'.length) (M H' i o)=true:=λi o=>by
   unfold M;rw[List.getD,List.getD]
   cases e:H'[i]? with
   |none=>rfl
   |some l=>
    simp only[mM]
    cases iJ:l[o]? with
    |none=>rfl
    |some x=>exact d_.1 (d_.1 aww l (fr e)) x (fr iJ)
  have axk:a2 S eQ ⟨st.n,bN st.k ws⟩ a w':=by
   refine⟨h.below.then ⟨W.below.os,W.below.tape,W.below.output,W.below.size,λk X gT=>W.below.block k (hj X h.below.size) λ⟨b,_,g⟩=> ?_⟩,h.defers,λt av jI=> ?_,λb o=> ?_,λcw a5 x F P=> ?_,λb x s=> ?_,λb x s=> ?_,h.hs.trans WX⟩
   .rcases(h.fresh b k g).1 with G|G
    .omega
    .exact gT G
   .obtain⟨v,F,P⟩:=h.n t av jI;exact⟨v,F,P.step WX⟩
   .show fC _ _ _ _ b o (M (bN st.k ws) b o)
    by_cases u:b∈L
    .have aL:=(hk.1 (AZ u)).1;have k:=fC.nq (ρ:=B) (D:=rN H'.length) Xs V_ N4 (b:=pos L b) (o:=o) (by simp only[rN,jL];omega) (ahd _ o) (W.k (pos L b) o);rw[OI b u]at k;rw[Og b o u];exact k
    .by_cases I:fl b
     .obtain⟨i,i1,Y,rfl⟩:=Ad b I;have k:=fC.nq (ρ:=B) (D:=rN H'.length) Xs V_ N4 (b:=i) (o:=o) (by simp only[rN,jL];omega) (ahd _ o) (W.k i o);rw[Oh i o Y];exact k
     .rw[Oj b o u I];exact(h.k b o).step WX (λ_=>vn b u I) (λx s _=>⟨World.cell?_of_block (OA b x u s),World.frozen?_of_block (OA b x u s)⟩) (λ_=>⟨vn b u I,λx s=>OA b x u s⟩)
   .have key: ∀b x,eQ b=some x->(∃i,B i=b/\aC i=some x)\/(b∉L/\ ¬fl b/\ι b=some x):=λb x s=>by
     by_cases u:b∈L
     .exact .inl ⟨pos L b,OI b u,by rw[<-DY b u];exact s⟩
     .by_cases I:fl b
      .obtain⟨i,i1,Y,rfl⟩:=Ad b I;exact .inl ⟨i,rfl,by rw[<-OG i i1 Y];exact s⟩
      .exact .inr ⟨u,I,by rw[<-vn b u I];exact s⟩
    have acT: ∀i b x,aC i=some x->b∉L->ι b=some x->False:=λi b x F P fG=>by
     rcases(W.fresh i x F).1 with g|⟨b',Af,g⟩
     .have:=(h.fresh b x fG).2;have g:w.heap.size<=x:=g;omega
     .exact P (by rw[h.inj b b' x fG g];exact Af)
    rcases key cw x F with⟨i,mY,G⟩|⟨tl,aJf,G⟩<;>rcases key a5 x P with⟨j,iJ,O⟩|⟨tm,Yp,O⟩
    .rw[<-mY,<-iJ,W.inj i j x G O]
    .exact(acT i a5 x G tm O).elim
    .exact(acT j cw x O tl G).elim
    .exact h.inj cw a5 x G O
   .have conv: ∀i,aC i=some x->(S.fy.heap.size<=x\/S.qH x)/\x<w'.heap.size:=λi z=>by
     have⟨G,O⟩:=W.fresh i x z;refine⟨?_,O⟩;rcases G with G|⟨b',_,g⟩
     .exact .inl (ec h.below.size G)
     .exact(h.fresh b' x g).1
    by_cases u:b∈L
    .exact conv _ (by rw[<-DY b u];exact s)
    .by_cases I:fl b
     .obtain⟨i,i1,Y,rfl⟩:=Ad b I;exact conv i (by rw[<-OG i i1 Y];exact s)
     .rw[vn b u I]at s;exact⟨(h.fresh b x s).1,hj (h.fresh b x s).2 W.below.size⟩
   .show b<(bN st.k ws).length
    by_cases u:b∈L
    .obtain⟨_,jb,sa,iw⟩:=I0 (DT b u);exact hj (au_ iw) (tf _ _)
    .by_cases I:fl b
     .obtain⟨i,i1,Y,rfl⟩:=Ad b I;have N:H'[i]? =some H'[i]:=cG Y;have V:=Fy (σ:=B) H' 0 i 0 _ N (List.length_pos_iff.2 (WU i _ i1 N));rw[dj]at V;have key: ∀(l:b3) (H:Heap) b p c,(b,p,c)∈l->b<(bN H l).length:=by
       intro l
       induction l with
       |nil=>intro H b p c h;cases h
       |cons q l pe=>
        intro H b p c h;obtain⟨cw,ef,K⟩:=q;rcases ih.1 h with h|h
        .cases h
         exact hj (x1 H b p c).2 (tf _ _)
        .exact pe _ b p c h
      exact key _ _ _ _ _ V
     .rw[vn b u I]at s;exact hj (h.hn b x s) (tf _ _)
  have axx:bb (g1 eQ (bN st.k ws) w' (aX S eQ (bN st.k ws) w')) (rs.map (l7 B)) us:=by
   refine bb.mk (by simpa using axs.symm) λi p q aL jZ=> ?_;simp only[hJ,nt]at aL;obtain⟨r,hv,rfl⟩:=aL;have kk:=d_.1 awx r (fr hv);simp only[b2]at kk;have⟨v,F,P⟩:=W.n i r hv;have F:us[i]? =some v:=by simpa using F
   rw[jZ]at F;cases F;have Ai:g1 aC H' w' (aX qL aC H' w') r q:=by
    cases r<;>first|exact P|(cases kk.2;done)
   exact g1.nq Xs V_ N4 kk.1 Ai
  have axw:bA S eQ (bN st.k ws) w' (Qy (rs.map (l7 B))) (pack us):=by
   unfold pack
   match hv:rs.map (l7 B),us,axx with
   |[],[],_=>exact⟨[],rfl,trivial⟩
   |[r],[hA],dq=>
    simp only[Qy];have:=dq.1;exact eZ.AU this
   |r::aJl::l,hA::al0::us,dq=>
    rw[dif_neg Χ];exact⟨_,rfl,dq⟩
  refine tc eQ _ ws (pack us) w' rE axk axw λb d=> ?_;have ahr: ∀i,i<H'.length->(∃y,H'[i]? =some y/\y≠[])-> ∃p c,(B i,p,c)∈ws:=λi _ ⟨y,N,kl⟩=>by
   have:=Fy (σ:=B) H' 0 i 0 y N (List.length_pos_iff.2 kl);rw[dj]at this;exact⟨0,_,this⟩
  by_cases u:b∈L
  .right;have⟨y,N,Z⟩:=ahI _ _ (AZ u);have⟨_,jb,sa,iw⟩:=I0 (DT b u);have:=ahr (pos L b) (hk.1 N).1 ⟨y,N,λe=>by rw[iw,e]at Z;simp at Z⟩;rwa [OI b u]at this
  .by_cases I:fl b
   .right;obtain⟨i,i1,Y,rfl⟩:=Ad b I;have N:H'[i]? =some H'[i]:=cG Y;exact ahr i Y ⟨_,N,WU i _ i1 N⟩
   .left;rw[vn b u I]at d;exact d
end
def eb(E:Env)(T:TypeId)(K:bU->Prop):Prop:=
 match E.ty T with
 |some t=>K t
 |none=>False
def IY(t:bU)(x:J):Bool:=
 match t.d,x with
 | .string,.str _=>true
 | .string,_=>false
 | .slice ..,.str _=>false
 | .slice ..,_=>true
 |_,_=>false
def vI(H:Heap)(x:J)(K:J->Prop):Prop:=
 match x with
 | .ptr .. =>K x
 | .ref _=>K x
 | .gr b k _ _=>match M H b 0 with
   | .ad _ _ n _=>k=n/\K x
   |_=>False
 |_=>False
def Au(a:FuncId->Bool)(f:FuncId)(aa:List J):Bool:=
 match ag4 aa with
 |true=>true
 |false=>a f
def BP(E:Env)(H:Heap)(aD:Nat)(c:J)(b:List J)(K:J->b3->Prop):Prop:=
 match c with
 | .fn f a=>match Au E.eV f (b++a)with
   |true=>pa E H aD f (b++a) K
   |false=>dm (a.all ot) (wF E H aD f (b++a) K)
 |_=>False
def acy(a:List J)(d:Op):Bool:=
 match d with
 | .call c=>match c.callee with
   | .value x=>match aE a x with
     | .fn _ b=>ag4 (c.args.toList.map (aE a)++b)
     |_=>false
   | .builtin .append=>match c.args.toList with
     |x::_=>match aE a x with
      | .own .. =>true
      |_=>false
     |[]=>false
   |_=>false
 |_=>false
def vF(b:List J)(H:Heap)(a:Op):Nat:=
 match acy b a with
 |true=>H.length+32
 |false=>H.length
def I8(a:List J)(H:Heap)(op:Op):H.length<=vF a H op:=by
 unfold vF
 cases acy a op
 .exact bH _
 .exact r5 _ _
def jc(E:Env)(aD:Nat)(a:List J)(H:Heap)(d:Op)(K:J->b3->Prop):Prop:=
 match d with
 | .move x=>K (aE a x) []
 | .assign x=>K (aE a x) []
 | .pick c x y=>match aE a c with
   | .bool b=>Jv b (aE a x) (aE a y) λav=>K av []
   | .lit b=>Jv b (aE a x) (aE a y) λav=>K av []
   |_=>False
 | .alloc T=>eb E T λt=>dm (!t.zero.isEmpty) (K (.ptr aD 0) (iI aD t.zero 0))
 | .box _ x=>dm (pv (aE a x)&& !(cellsOf (aE a x)).isEmpty) (K (.ptr aD 0) (iI aD (cellsOf (aE a x)) 0))
 | .build T e=>eb E T λt=>match t.d with
   | .struct q=>oq q a e.toList t.zero λcs=>K (.agg cs) []
   |_=>False
 | .load T x=>eb E T λt=>pg t H (aE a x) λav=>K av []
 | .store T x y=>eb E T λt=>vZ t H (aE a x) (aE a y) λr=>K .undef r
 | .nilCheck x=>vI H (aE a x) λav=>K av []
 | .binOp d T x y _=>eb E T λt=>qP t d (fh (aE a x)) (fh (aE a y)) λav=>K av []
 | .unOp d _ x=>Bk d (aE a x) λav=>K av []
 | .fieldAddr T x f=>eb E T λt=>uu t H f (aE a x) λav=>K av []
 | .indexAddr T x y=>eb E T λt=>vo t H (aE a x) (aE a y) λav=>K av []
 | .index T x y=>eb E T λt=>xT E.ty t (aE a x) (aE a y) λav=>K av []
 | .extract x i=>Ca i (aE a x) λav=>K av []
 | .buildSlice T p e=>eb E T λt=>sm t a H aD p e.toList K
 | .makeSlice T l c=>eb E T λt=>tp E t a aD l c K
 | .slice T x l h m=>eb E T λt=>tF t H a (aE a x) l h m K
 | .convert n k x=>eb E n λt=>eb E k λu=>uk t u (wL E t u) H (aE a x) λav=>K av []
 | .makeFunc o first g=>match o with
   | .func f=>dm (first.toList.isEmpty&&(g.toList.map (aE a)).all acI) (K (.fn f (g.toList.map (aE a))) [])
   |_=>False
 | .call c=>match c.callee with
   | .value x=>BP E H aD (aE a x) (c.args.toList.map (aE a)) K
   | .builtin b=>match b with
     | .len=>match c.args.toList,c.argTypes.toList with
       |[x],[T]=>eb E T λt=>dm (IY t (aE a x)) (rM H (aE a x) λav=>K av [])
       |_,_=>False
     | .append=>match c.args.toList,c.argTypes.toList with
       |[x,y],[T,j]=>eb E T λt=>eb E j λt2=>dm (t2.d.isStr||t2.d.vq) (pG t t2.d.isStr H aD (aE a x) (aE a y) K)
       |_,_=>False
     | .min=>match c.args.toList with
       |[x,y]=>AJ (aE a x) (aE a y) λav=>K av []
       |_=>False
     | .max=>match c.args.toList with
       |[x,y]=>AI (aE a x) (aE a y) λav=>K av []
       |_=>False
     |_=>False
   |_=>False
 |_=>False
def tg:Op->Bool
 | .alloc _| .box .. | .buildSlice .. | .makeSlice .. =>true
 | .call c=>match c.callee with
   | .value _=>true
   | .builtin .append=>true
   |_=>false
 |_=>false
section
variable {E:Env} {S:ez} {ι:Nat->Option Nat} {st:O} {a:Act} {w:World}
def kR{T:TypeId}{K:bU->Prop}(a:E.dU)(h:eb E T K): ∃t,hl E.P T t/\E.ty T=some t/\K t:=by
 unfold eb at h
 cases e:E.ty T with
 |none=>rw[e]at h;exact h.elim
 |some t=>rw[e]at h;exact⟨t,a.ty T t e,rfl,h⟩
def aC1{o:Oper}{x:Operand}(m:o.op= .nilCheck x)(h:a2 S ι st a w){K:J->Prop}(b:vI st.k (aE st.n x) K){next:Act->World->Prop}{Q:Exit->Act->World->Prop}
  (f: ∀av v,K av->bA S ι st.k w av v->next (a.put o.dst v) w):o.wp E.P a w next Q:=by
 have c:=h.eval x;have i: ∀(p:Addr),a.eval x= .pointer (some p)->(execOp a.eval o).run E.P w= .ok (.value (a.eval x)) w:=λp e=>by simp [execOp,m,e]
 cases e:aE st.n x<;>rw[e]at b c<;>simp only[vI]at b<;>try exact b.elim
 .obtain⟨_,y,_,d⟩:=(show eY S ι st.k w (.ptr _ _) _ from c);exact dK (i _ d) (f _ _ b c)
 .obtain⟨_,s,t,n,g,k,q,l⟩:=(show eY S ι st.k w (.gr _ _ _ _) _ from c);rw[k]at b;simp only at b;have⟨y,r,d⟩:=l b.1;exact dK (i _ d) (f _ _ b.2 c)
 .rename_i cs;have j:a6 w (aX S ι st.k w) (.ref cs) (a.eval x):=c;generalize d:a.eval x=v at j
  cases j
  exact dK (i _ d) (f _ _ b c)
def acd(n:E.dU){o:Oper}(h:a2 S ι st a w){aD:Nat}{pB:Nat->Prop}(r:tg o.op=true->pB aD/\ ∀b,pB b->(∀p,M st.k b p= .undef)/\ι b=none){K:J->b3->Prop}(Ie: ∀av G,K av G-> ∀b p c,(b,p,c)∈G->aD<b->pB b)(d:jc E aD st.n st.k o.op K){next:Act->World->Prop}{Q:Exit->Act->World->Prop}
  (F: ∀aC av G v w',K av G->a2 S aC ⟨st.n,bN st.k G⟩ a w'->bA S aC (bN st.k G) w' av v->(∀b,aC b≠none->ι b≠none\/ ∃p c,(b,p,c)∈G)->next (a.put o.dst v) w'):o.wp E.P a w next Q:=by
 have s: ∀av v,K av []->bA S ι st.k w av v->next (a.put o.dst v) w:=λav v z N=>F ι av [] v w z h N λb D=> .inl D
 have ahc: ∀(cs:List J),cs.isEmpty=false-> ∃p c,(aD,p,c)∈iI aD cs 0:=λcs I=>by
  cases cs with
  |nil=>cases I
  |cons c cs=>exact⟨0,c,by simp [iI]⟩
 cases j:o.op<;>rw[j]at d r<;>simp only[jc]at d<;>try exact d.elim
 case move x=>exact dK (by simp [execOp,j]) (s _ _ d (h.eval x))
 case assign x=>exact dK (by simp [execOp,j]) (s _ _ d (h.eval x))
 case pick c x y=>
  have I:=h.eval c
  cases e:aE st.n c<;>rw[e]at d I<;>simp only at d<;>try exact d.elim
  .exact akt j I.bool h d s
  .exact akt j I.lit h d s
 case alloc T=>
  have⟨t,k,_,d⟩:=kR n d;simp only[aF,j4]at d;obtain⟨P,z⟩:=d;have⟨B,C⟩:=(r rfl).2 aD (r rfl).1;exact aqj j k h B C (by intro e;rw[e]at P;cases P) λaC w' v W L N=>F aC _ _ v w' z L N λb D=>(W b D).imp id λe=>by subst e;exact ahc _ P
 case box T x=>
  simp only[aF,b2,j4]at d;obtain⟨⟨fG,P⟩,z⟩:=d;have⟨B,C⟩:=(r rfl).2 aD (r rfl).1;exact aqG j h B C fG (by intro e;rw[e]at P;cases P) λaC w' v W L N=>F aC _ _ v w' z L N λb D=>(W b D).imp id λe=>by subst e;exact ahc _ P
 case build T Ew=>
  have⟨t,k,_,d⟩:=kR n d
  cases Z:t.d<;>rw[Z]at d<;>simp only at d<;>try exact d.elim
  exact aqL j k Z h d s
 case load T x=>
  have⟨t,k,_,d⟩:=kR n d;exact aBP j k h d s
 case store T x y=>
  have⟨t,k,_,d⟩:=kR n d;exact aGa j k h d λG w' z L=>F ι _ G _ w' z L trivial λb D=> .inl D
 case nilCheck x=>exact aC1 j h d s
 case binOp op T x y mh=>
  have⟨t,k,_,d⟩:=kR n d;exact aqD j k h d s
 case unOp op T x=>exact aGS j h d s
 case fieldAddr T x f=>
  have⟨t,k,_,d⟩:=kR n d;exact atc j k h d s
 case indexAddr T x y=>
  have⟨t,k,_,d⟩:=kR n d;exact axW j k h d s
 case index T x y=>
  have⟨t,k,_,d⟩:=kR n d;exact axO n.ty j k h d s
 case extract x i=>exact asX j h d s
 case buildSlice T len Ew=>
  have⟨t,k,_,d⟩:=kR n d;have⟨B,C⟩:=(r rfl).2 aD (r rfl).1;exact aqK j k h B C d F
 case makeSlice T l c=>
  have⟨t,k,_,d⟩:=kR n d;have⟨B,C⟩:=(r rfl).2 aD (r rfl).1;exact aB6 n j k h B C d F
 case slice T x l hh m=>
  have⟨t,k,_,d⟩:=kR n d;exact aFP j k h d λav G v z L N=>F ι av G v w z L N λb D=> .inl D
 case convert abY abX x=>
  have⟨t,k,_,d⟩:=kR n d;have⟨jb,xN,_,d⟩:=kR n d;exact arG n j k xN h d λav v w' z L N=>F ι av [] v w' z L N λb D=> .inl D
 case makeFunc fn first X=>
  cases h8:fn<;>rw[h8]at d<;>simp only at d<;>try exact d.elim
  rename_i f;have⟨I,z⟩:=aF.1 d;simp only[b2]at I;have awB:first= #[]:=qC (by simpa using I.1)
  refine dK (v:= .func (.func f) #[] (X.map a.eval)) (w':=w) (by simp [execOp,j,h8,awB,Instr.makeFunc]) (s _ _ z ?_);refine⟨X.toList.map a.eval,by apply congrArg (Value.func (.func f) #[]);apply qC;simp,?_⟩;refine bb.mk Χ λi p q aL jZ=> ?_;simp only[hJ,nt]at aL jZ;obtain⟨g,Y,rfl⟩:=aL;obtain⟨u,R,rfl⟩:=jZ;rw[Y]at R;cases R;have Ab:=d_.1 I.2 (aE st.n g) (oc.2 ⟨g,fr Y,rfl⟩);have Ac:=h.eval g;generalize aE st.n g=c at Ab Ac
  cases c<;>first|(cases Ab;done)|exact Ac
 case call c=>
  cases A:c.callee with
  |value f=>
   rw[A]at d;simp only at d;have r:=r (by simp [tg,A]);have⟨B,C⟩:=r.2 aD r.1;unfold BP at d
   cases h8:aE st.n f<;>rw[h8]at d<;>simp only at d<;>try exact d.elim
   rename_i aO kb
   cases Ll:Au E.eV aO (c.args.toList.map (aE st.n)++kb)with
   |true=>
    rw[Ll]at d;exact awm n j A h8 h r.1 r.2 Ie d F
   |false=>
    rw[Ll]at d;have⟨Wp,d⟩:=aF.1 d;exact ara n j A h8 Wp h B C d F
  |invoke hA m=>rw[A]at d;exact d.elim
  |builtin b=>
   rw[A]at d
   cases b<;>simp only at d<;>try exact d.elim
   case append=>
    have r:=r (by simp [tg,A]);have⟨B,C⟩:=r.2 aD r.1
    split at d
    .rename_i x y T tY O U;have⟨t,k,_,d⟩:=kR n d;have⟨t2,We,_,d⟩:=kR n d;have⟨H,d⟩:=aF.1 d;refine aqs (str:=t2.d.isStr) j A (qC (by simpa using O)) (qC (by simpa using U)) k ?_ h B C d F;have V:=We.d
     cases e:t2.d<;>rw[e]at H V<;>simp only[ua.isStr,ua.vq]at H |- <;>first|(cases H;done)|exact V|exact⟨_,V.1⟩
    .exact d.elim
   case min=>
    split at d
    .rename_i x y O;exact aCg j A (qC (by simpa using O)) h d s
    .exact d.elim
   case max=>
    split at d
    .rename_i x y O;exact aCb j A (qC (by simpa using O)) h d s
    .exact d.elim
   case len=>
    split at d
    .rename_i x T O U;have⟨t,k,_,d⟩:=kR n d;have⟨H,d⟩:=aF.1 d;refine aBG j A (qC (by simpa using O)) (qC (by simpa using U)) k h ?_ d ?_ s
     .unfold IY at H;cases e:t.d<;>rw[e]at H<;>first|rfl|(cases H;done)
     .unfold IY at H;cases e:t.d<;>cases R:aE st.n x<;>rw[e,R]at H<;>first|rfl|(cases H;done)
    .exact d.elim
end
def k0(b:Option Nat)(av:J)(a:List J):List J:=
 match b with
 |some d=>a.set d av
 |none=>a
def xL(ops:Array Oper)(o:Oper)(st:O)(a skip:Prop):Prop:=
 match o.guard with
 |none=>a
 |some (j,c)=>match(ops[j]?).bind (·.dst)with
  |some d=>match st.n.getD d .undef with
   | .lit b=>match b==c with
     |true=>a
     |false=>skip
   | .gone=>skip
   |_=>False
  |none=>False
def JW:List Oper->Nat->Bool
 |[],_=>false
 |o::r,i=>(match o.guard with
  |some (j,_)=>j==i
  |none=>false)||JW r i
def BL(E:Env)(ops:Array Oper):List Oper->Nat->O->(O->Prop)->Prop
 |[],_,st,K=>K st
 |o::a,i,st,K=>xL ops o st (jc E (vF st.n st.k o.op) st.n st.k o.op λav b=>D5 (JW a i) av λav=>BL E ops a (i+1) ⟨k0 o.dst av st.n,bN st.k b⟩ K)
   (BL E ops a (i+1) ⟨k0 o.dst .gone st.n,st.k⟩ K)
section
variable {E:Env} {S:ez} {ι:Nat->Option Nat} {st:O} {a:Act} {w:World}
def a2.dst(h:a2 S ι st a w)(d:Option Nat){av:J}{v:Value}(b:bA S ι st.k w av v):a2 S ι ⟨k0 d av st.n,st.k⟩ (a.put d v) w:=by
 cases d with
 |none=>exact h
 |some d=>exact h.put d b
def Kv(av r:J):Prop:=av=r\/ ∃b,av= .bool b/\r= .lit b
def Kv.rel{H:Heap}{av r:J}{v:Value}(h:Kv av r)(a:bA S ι H w av v):bA S ι H w r v:=by
 rcases h with rfl|⟨b,rfl,rfl⟩
 .exact a
 .have:a6 w (aX S ι H w) (.bool b) v:=a
  cases this
  exact a6.lit b
def ajd{a:Bool}{av:J}{K:J->Prop}(h:D5 a av K): ∃r,Kv av r/\K r:=by
 unfold D5 at h
 cases a with
 |false=>exact⟨av,.inl rfl,h⟩
 |true=>
  cases av
  case bool b=>
   cases b
   .exact⟨_,.inr ⟨false,rfl,rfl⟩,h.2 rfl⟩
   .exact⟨_,.inr ⟨true,rfl,rfl⟩,h.1 rfl⟩
  all_goals exact⟨_,.inl rfl,h⟩
def tI(ops:Array Oper)(o:Oper)(a:List J):Option Bool:=
 match o.guard with
 |none=>some true
 |some (j,c)=>match(ops[j]?).bind (·.dst)with
  |some d=>match a.getD d .undef with
   | .lit b=>some (b==c)
   | .gone=>some false
   |_=>none
  |none=>none
def agV{ops:Array Oper}{o:Oper}{st:O}{g skip:Prop}(a:xL ops o st g skip):
  (tI ops o st.n=some true/\g)\/(tI ops o st.n=some false/\skip):=by
 unfold xL at a;unfold tI
 cases f:o.guard with
 |none=>rw[f]at a;exact .inl ⟨rfl,a⟩
 |some q=>
  obtain⟨j,i⟩:=q;rw[f]at a;simp only at a |-
  cases c:(ops[j]?).bind (·.dst)with
  |none=>rw[c]at a;exact a.elim
  |some d=>
   rw[c]at a;simp only at a |-
   cases h:st.n.getD d .undef<;>rw[h]at a<;>simp only at a<;>try exact a.elim
   .rename_i b
    cases e:(b==i)with
    |true=>rw[e]at a;exact .inl ⟨by simp [e],a⟩
    |false=>rw[e]at a;exact .inr ⟨by simp [e],a⟩
   .exact .inr ⟨rfl,a⟩
def aaO{ops:Array Oper}{o:Oper}(h:a2 S ι st a w){b:Bool}(f:tI ops o st.n=some b):Region.wanted o (yielded ops a.tmps)=b:=by
 unfold tI at f;unfold Region.wanted
 cases p:o.guard with
 |none=>rw[p]at f;cases f;rfl
 |some q=>
  obtain⟨j,t⟩:=q;rw[p]at f;simp only at f |-
  cases g:(ops[j]?).bind (·.dst)with
  |none=>rw[g]at f;cases f
  |some d=>
   rw[g]at f;simp only at f;have get: ∀x,st.n.getD d .undef=x->x≠ .undef->st.n[d]? =some x:=λx i s=>by
    cases e:st.n[d]? with
    |none=>simp [List.getD,e]at i;exact absurd i.symm s
    |some av=>simp [List.getD,e]at i;rw[i]
   cases m:st.n.getD d .undef<;>rw[m]at f<;>simp only at f<;>try exact Ζ
   .rename_i c;have⟨v,k,l⟩:=h.n d _ (get _ m Χ);have:=bA.lit l;subst this;have n:yielded ops a.tmps j=some c:=by simp [yielded,g,k]
    rw[n];simp only[hI]at f;rw[<-f]
    cases c<;>cases t<;>rfl
   .obtain⟨v,k,l⟩:=h.n d _ (get _ m Χ);have r:v=undef:=l;subst r;have n:yielded ops a.tmps j=none:=by simp [yielded,g,k,undef]
    rw[n]
    cases f;rfl
def SS(e:E.dU){ops:Array Oper}{Q:Exit->Act->World->Prop} : ∀(l:List Oper) (i:Nat) (ι:Nat->Option Nat) (st:O) (a:Act) (w:World) (K:O->Prop),a2 S ι st a w->BL E ops l i st K->
  (∀ι st a w,a2 S ι st a w->K st->Q .normal a w)->wpList E.P ops Q l a w
 |[],_,ι,st,a,w,K,h,g,d=>d ι st a w h g
 |o::l,i,ι,st,a,w,K,h,g,d=>by
  unfold wpList;rcases agV g with⟨k,j⟩|⟨k,j⟩
  .rw[bg (aaO h k)];refine .inl (acd e h (pB:=λb=>vF st.n st.k o.op<=b) (λ_=>⟨bH _,λb c=>⟨λp=>vj (ec (I8 _ _ _) c) p,h.Pp (ec (I8 _ _ _) c)⟩⟩) (λ_ _ _ b _ _ _ c=>Nat.le_of_lt c) j λaC av s v w' f n q _=> ?_);have⟨r,m,f⟩:=ajd f;exact SS e l (i+1) aC _ _ w' K (a2.dst n o.dst (m.rel q)) f d
  .rw[aW (by rw[aaO h k];simp)];exact SS e l (i+1) ι _ _ w K (a2.dst h o.dst (av:= .gone) rfl) j d
end
end Go.ag
namespace Go.ag
open Go Go.ChangeShapes Go.RowKit Go.WideShapes
def ayq{P:Program}{f:FuncId}{a:Func}{s:ChangeSpec}{c:OpenClaim}
  (aL:c.wf (OpenSpec.ofChange s)=true) (aO:laidOutB P=true) (A:mapsRowed P=true)
  (E:a.params.all (P.readableRec ·)=true) (F:namedTie P c.named s.vars=true)
  (G:(c.stops==[])=true) (H:(P.stops==[])=true) (I:(c.knobs==[])=true) (J:(P.stopKnobs==[])=true)
  (b:(c.inPlace==P.inPlace f)=true) (d:(c.unfollowed==P.unfollowed f)=true) (e:(c.recurses==P.recurses f)=true) (g:(c.named==P.varsNamed f)=true)
  (h:(c.maps==(a.params.toList++s.plain.varTypes P).any (P.mapsRec ·))=true) (i:(c.ifaces==(a.params.toList++s.plain.varTypes P).any (P.ifacesRec ·))=true) (j:(c.mapsOut==P.mapsAmong a.resultTypes.toList)=true)
  (l:(c.loops==(a.params.toList++s.plain.varTypes P).any (P.loopsFrom ·))=true) (m:(c.wideKeys==(a.params.toList++s.plain.varTypes P++a.resultTypes.toList).any (P.wideKeysFrom ·))=true)
  (n:s.vars.all (P.varReadable ·)=true) (o:a.resultTypes.all (λt=>P.readableRec t&&decide (t<P.types.size))=true) (p:(c.ifacesOut==a.resultTypes.toList.any (P.ifacesRec ·))=true) (q:(c.loopsOut==a.resultTypes.toList.any (P.loopsFrom ·))=true)
  (r:(c.plainKeys==P.plainKeys)=true) (u:c.shortTexts.isNone=true) (v:P.stopsHeard=true) (w:P.mayEnter=true) (x:(c.lifted==P.liftsFinal)=true) (y:(P.make==some c.make)=true)
  (z:(c.kinds==(if c.domain.isEmpty then[]else a.params.toList.map λt=>match P.underlying t with|some (.int k)=>some k|_=>none))=true) (B:(c.pinned==c.pinnedBy)=true)
  (C:(c.veiled==(a.params.toList++s.plain.varTypes P++a.resultTypes.toList).any (P.veiledRec ·))=true) (D:c.veiledFits P a.params.toList (a.params.toList++s.plain.varTypes P++a.resultTypes.toList)=true):
  joinedFacts P f a s c=true:=by
 unfold joinedFacts;simp only[b2];exact⟨⟨⟨⟨⟨⟨⟨⟨⟨⟨⟨⟨⟨⟨⟨⟨⟨⟨⟨⟨⟨⟨⟨⟨⟨⟨⟨⟨⟨⟨⟨aL,aO⟩,A⟩,E⟩,F⟩,G⟩,H⟩,I⟩,J⟩,b⟩,d⟩,e⟩,g⟩,h⟩,i⟩,j⟩,l⟩,m⟩,n⟩,o⟩,p⟩,q⟩,r⟩,u⟩,v⟩,w⟩,x⟩,y⟩,z⟩,B⟩,C⟩,D⟩
end Go.ag
namespace Go.ag
open Go Go.RowKit
section
variable {P:Program}
def P6(w:World)(e u x f:TypeId)(i:TypeInfo)(b o c g:Nat)(a:Addr)(d t:Nat)(cs:List Value)
  (s:P.underlying e=some (.slice f)) (m:P.info? f=some i) (p:cs.length=Nat.min d c*i.size)
  (q: ∀j v,cs[j]? =some v->w.cell? (a.add j)=some v) (k: ∀j,j<cs.length->(w.cell? ⟨b,o+j,none⟩).isSome=true) (l: ∀j,j<cs.length->w.frozen? ⟨b,o+j,none⟩=false) (h: ∀v∈cs,v.oneCell'=true):
  (Builtin.copy_ #[e,u] x #[.slice (some ⟨b,o,none⟩) c g,.slice (some a) d t]).run P w= .ok (goInt (Nat.min d c)) (w.setCells b o cs):=by
 have n:=QO (P:=P) w a cs q;have r:=run_storeCells_cells (P:=P) b o cs 0 w (by simpa using k) (by simpa using l) h;simp [Builtin.copy_,fN s,Builtin.lenOf,Builtin.firstCells,sizeOf,typeInfo,m,<-p,n,r]
def ak6(w:World)(t e p:TypeId)(z:Value)(i:P.underlying t=some (.slice e))(k: ∀w,(zeroValue e).run P w= .ok z w)(b o n c:Nat)(q:0<n)(a:List Value)(l:(Builtin.zeroCells z.cells n).toList=a)(f: ∀v∈a,v.oneCell'=true)
  (g: ∀j,j<a.length->(w.cell? ⟨b,o+j,none⟩).isSome=true) (h: ∀j,j<a.length->w.frozen? ⟨b,o+j,none⟩=false):
  (Builtin.clear_ #[t] p #[.slice (some ⟨b,o,none⟩) n c]).run P w= .ok (.tuple #[]) (w.setCells b o a):=by
 have d:=run_storeCells_cells (P:=P) b o a 0 w (by simpa using g) (by simpa using h) f;simp only[nu]at d;obtain⟨m,rfl⟩: ∃m,n=m+1:=⟨n-1,Ω⟩;simp [Builtin.clear_,fN i,k,l,d]
end
end Go.ag
namespace Go.ag
open Go Go.Lib Go.Proofs Go.RowKit Go.Shelf
section
variable {P:Program} {ρ:Ren}
structure sd (P:Program) (ρ:Ren) (k bytes:Nat) (z:Value):Prop where
 mixed:P.follows .mixedOrders=true
 F:Bears P (ρ.f 22) (Body2.n22 ρ)
 t3:P.underlying (ρ.t 3)=some (TypeDesc.int i64)
 t24:P.underlying (ρ.t 24)=some (TypeDesc.slice (ρ.t 9))
 z9: ∀w,(Go.sizeOf (ρ.t 9)).run P w= .ok k w
 i9:(P.info? (ρ.t 9)).map (λi=>(i.zero,i.size,i.bytes))=some (some z,k,bytes)
 aDF: ∀(w:World) (eo b o m aGX e arf:Nat) (aGl aGm:TypeId) (aiM l:Nat),eo≠b->w.shape? eo=some (aGl,aiM)->w.shape? b=some (aGm,l)->l≠0->w.frozen? ⟨eo,0,none⟩=false->w.frozen? ⟨eo,aiM,none⟩=false->
  (callFunc (ρ.f 29) #[.slice (some ⟨eo,0,none⟩) m aGX,.slice (some ⟨b,o,none⟩) e arf]).run P w= .ok (.value (.bool false)) w
set_option maxHeartbeats 4000000 in
set_option maxRecDepth 100000 in
def ax0{k bytes:Nat}{aL:Value}(L:sd P ρ k bytes aL)(b n c i eo p:Nat)(cs g:List Value)(w:World)(g5:i<n)(Ix:n+1<=c)(DU:n<=549755813888)(F:eo≠b)
  (O:cs.length=n*k) (Aj:g.length=k)
  (R: ∀j v,cs[j]? =some v->w.cell? ⟨b,j,none⟩=some v) (s: ∀j,j<(n+1)*k->(w.cell? ⟨b,j,none⟩).isSome=true) (C: ∀j,w.frozen? ⟨b,j,none⟩=false)
  (rG: ∀j v,g[j]? =some v->w.cell? ⟨eo,j,none⟩=some v) (K: ∀v∈cs,v.oneCell'=true) (M: ∀v∈g,v.oneCell'=true)
  (I J:TypeId) (H l:Nat) (U:w.shape? eo=some (I,H)) (V:w.shape? b=some (J,l)) (S:l≠0) (B: ∀j,w.frozen? ⟨eo,j,none⟩=false):
  Calls P (ρ.f 22) #[.slice (some ⟨b,0,none⟩) n c,.int .i64 i,.slice (some ⟨eo,0,none⟩) 1 p] w λe w'=>
   e= .returned (.slice (some ⟨b,0,none⟩) (n+1) c)/\w'=(w.drew.setCells b (i*k+k) (cs.drop (i*k))).setCells b (i*k) g:=by
 have aGL:=fN L.t3;have aGK:=fN L.t24;have mixed:=L.mixed;have t3:=L.t3;have t24:=L.t24;have z9:=L.z9;have axI: ¬((i:Int)=(n:Int)):=by omega
 have⟨G,D,fv,E,_⟩:=info_parts L.i9;have T: ∀u q,(callFunc (ρ.f 29) #[.slice (some ⟨eo,0,none⟩) 1 p,.slice (some ⟨b,i*k+k,none⟩) u q]).run P w= .ok (.value (.bool false)) w:=λu q=>L.aDF w eo b _ 1 p u q I J H l F U V S (B _) (B _);have r:(cs.drop (i*k)).length=(n-i)*k:=by rw[r_,O,E1]
 have axB:i64 ((i:Int)+1)=(i:Int)+1:=by rw[IntKind.wrap_i64];omega
 have axC:i64 ((n:Int)+1)=(n:Int)+1:=by rw[IntKind.wrap_i64];omega
 have av9:(0:Int)<=(i:Int)+1:=by omega
 have vl:i<=n:=by omega
 have axq:((i:Int)+1).toNat=i+1:=by omega
 have WY:((n:Int)+1).toNat=n+1:=by omega
 have DO: ¬(c=i+1):=by omega
 have awa:(i:Int)<=(n:Int)+1:=by omega
 have aIw: ¬(c=i):=by omega
 have aIx: ¬((c:Int)<(n:Int)+1):=by omega
 have hmul:(i+1)*k+(n-i)*k=(n+1)*k:=by rw[<-ig];congr 1;omega
 have awK:(i+1)*k=i*k+k:=jK _ _;have ahw:(n+1)*k=n*k+k:=jK _ _;have A: ∀f d y,(Builtin.copy_ #[ρ.t 24,ρ.t 24] f #[.slice (some ⟨b,i*k+k,none⟩) (n-i) d,.slice (some ⟨b,i*k,none⟩) (n+1-i) y]).run P w.drew= .ok (goInt (Nat.min (n+1-i) (n-i))) (w.drew.setCells b (i*k+k) (cs.drop (i*k))):=λf d y=>
  P6 w.drew _ _ f (ρ.t 9) G b (i*k+k) (n-i) d ⟨b,i*k,none⟩ (n+1-i) y (cs.drop (i*k)) L.t24 D (by rw[r,E,show Nat.min (n+1-i) (n-i)=n-i by simp only[Nat.min_def];split<;>omega])
   (λj v a=>by rw[Addr.add_lit];exact R (i*k+j) v (by rwa [qA]at a))
   (λj a=>s _ (by rw[r]at a;omega)) (λj a=>C _) (λv Z=>K v (Bu Z))
 obtain⟨m,o⟩: ∃m,m=w.drew.setCells b (i*k+k) (cs.drop (i*k)):=⟨_,rfl⟩;have X: ∀t,t<(n+1)*k->(m.cell? ⟨b,t,none⟩).isSome=true:=λt Y=>by
  rw[o];exact isSome_setCells b (cs.drop (i*k)) (i*k+k) w.drew (λj a=>s _ (by rw[r]at a;omega)) _ (s t Y)
 have Q: ∀(W:World),(∀x,W.cell? x=m.cell? x)->(∀x,W.frozen? x=m.frozen? x)-> ∀f d,(Builtin.copy_ #[ρ.t 24,ρ.t 24] f #[.slice (some ⟨b,i*k,none⟩) (n+1-i) d,.slice (some ⟨eo,0,none⟩) 1 p]).run P W= .ok (goInt (Nat.min 1 (n+1-i))) (W.setCells b (i*k) g):=λW z N f d=>
  P6 W _ _ f (ρ.t 9) G b (i*k) (n+1-i) d ⟨eo,0,none⟩ 1 p g L.t24 D (by rw[Aj,E,show Nat.min 1 (n+1-i)=1 by simp only[Nat.min_def];split<;>omega,Nat.one_mul])
   (λj v a=>by
    rw[Addr.add_lit,dj,z,o,World.cell?_setCells_out b _ _ _ _ (λh _=>absurd h F)];exact rG j v a)
   (λj a=>by rw[z];exact X _ (by
    have:(i+1)*k<=(n+1)*k:=h4 k Ω;omega)) (λj a=>by rw[N,o,World.frozen?_setCells];exact C _) M
 rw[<-o]at A;have⟨_,_,pz⟩:=L.F
 go_enter pz,Body2.n22_ntmps ρ
 go_wp2_with (simp only[T])
 go_region_law_o (refine step_copy_runI rfl _ _ (ρ.t 24) (ρ.t 24) rfl _ _ (by simp [Act.eval,Act.put]) (by simp [Act.eval,Act.put]) (A _ _ _) ?_)
 go_wp2_with (at_builtin;refine wpList_copy_runI _ rfl _ _ (ρ.t 24) (ρ.t 24) rfl _ _ rfl rfl (Q _ (λ_=>rfl) (λ_=>rfl) _ _) ?_)
 go_ret
 first|exact⟨rfl,rfl⟩|exact⟨rfl,by rw[o]⟩
set_option maxHeartbeats 4000000 in
set_option maxRecDepth 100000 in
def axY{k bytes:Nat}{z:Value}(L:sd P ρ k bytes z)(b n c eo d:Nat)(a:List Value)(w:World)(q:n+1<=c)(t:a.length=k)
  (r: ∀j,j<(n+1)*k->(w.cell? ⟨b,j,none⟩).isSome=true) (o: ∀j,w.frozen? ⟨b,j,none⟩=false) (x: ∀j v,a[j]? =some v->w.cell? ⟨eo,j,none⟩=some v) (m: ∀v∈a,v.oneCell'=true):
  Calls P (ρ.f 22) #[.slice (some ⟨b,0,none⟩) n c,.int .i64 n,.slice (some ⟨eo,0,none⟩) 1 d] w λe w'=>
   e= .returned (.slice (some ⟨b,0,none⟩) (n+1) c)/\w'=w.setCells b (n*k) a:=by
 have E:=fN L.t3;have D:=fN L.t24;have mixed:=L.mixed;have C:=L.t3;have B:=L.t24;have F:=L.z9;have⟨h,p,y,g,_⟩:=info_parts L.i9;have s:Src P h.size (ρ.t 24) (.slice (some ⟨eo,0,none⟩) 1 d) 1 a w:=Src.ofSlice w L.t24 ⟨eo,0,none⟩ 1 d a (by rw[t,g,Nat.one_mul]) (λj u f=>by rw[Addr.add_lit,dj];exact x j u f) m;have A:(n+1)*k=n*k+k:=jK _ _;have l: ∀i,(Builtin.append_ #[ρ.t 24,ρ.t 24] i #[.slice (some ⟨b,0,none⟩) n c,.slice (some ⟨eo,0,none⟩) 1 d]).run P w= .ok (.slice (some ⟨b,0,none⟩) (n+1) c) (w.setCells b (0+n*h.size) a):=λi=>
  run_append_room_src w (ρ.t 24) (ρ.t 24) i (ρ.t 9) h L.t24 p b 0 n c _ 1 a s q (λj f=>by rw[g,dj];exact r _ Ω) (λj f=>o _)
 rw[g,dj]at l;have⟨_,_,pz⟩:=L.F
 go_enter pz,Body2.n22_ntmps ρ
 go_wp2_with (at_builtin;refine Lib.wpList_append_run _ rfl _ _ _ _ rfl _ _ rfl rfl _ _ (l _) ?_)
 go_ret
 exact⟨rfl,rfl⟩
set_option maxHeartbeats 4000000 in
set_option maxRecDepth 100000 in
def ahU{k bytes:Nat}{z:Value}(L:sd P ρ k bytes z)(base:Option Addr)(n c eo f:Nat)(cs b:List Value)(w:World)(K:n<=c)(s:c<n+1)(y:(n+1)*bytes<=140737488355328)(J:n<=549755813888)
  (g:cs.length=n*k) (E:b.length=k) (r:base=none->n=0)
  (A: ∀a,base=some a-> ∀j v,cs[j]? =some v->w.cell? (a.add j)=some v) (F: ∀j v,b[j]? =some v->w.cell? ⟨eo,j,none⟩=some v) (t: ∀v∈b,v.oneCell'=true):
  Calls P (ρ.f 22) #[.slice base n c,.int .i64 n,.slice (some ⟨eo,0,none⟩) 1 f] w λe w'=>
   e= .returned (.slice (some ⟨w.heap.size,0,none⟩) (n+1) (grownCap w (n+1) c (ρ.t 9)))/\
   w'=w.drew.alloc (.cells ((cs++b).toArray++Builtin.zeroCells z.cells (grownCap w (n+1) c (ρ.t 9)- (n+1))) (ρ.t 9)):=by
 have Q:=fN L.t3;have O:=fN L.t24;have mixed:=L.mixed;have N:=L.t3;have M:=L.t24;have R:=L.z9;have⟨l,B,d,q,x⟩:=info_parts L.i9;have D:Src P l.size (ρ.t 24) (.slice (some ⟨eo,0,none⟩) 1 f) 1 b w:=Src.ofSlice w L.t24 ⟨eo,0,none⟩ 1 f b (by rw[E,q,Nat.one_mul]) (λj u h=>by rw[Addr.add_lit,dj];exact F j u h) t;have C:(Builtin.firstCells l.size n (.slice base n c)).run P w.drew= .ok cs.toArray w.drew:=by
  rw[q]
  cases base with
  |none=>
   have d:=r rfl;subst d;rw[Nat.zero_mul]at g;rw[J6.1 g];exact run_firstCells_none w.drew k 0 0 c
  |some a=>exact J7 w.drew k n a n c cs g (λj v h=>A a rfl j v h)
 have i: ∀m,(Builtin.append_ #[ρ.t 24,ρ.t 24] m #[.slice base n c,.slice (some ⟨eo,0,none⟩) 1 f]).run P w=_:=λm=>
  run_append_grow_src w (ρ.t 24) (ρ.t 24) m (ρ.t 9) l _ L.t24 B d base n c cs C _ 1 b D s Ω (by rw[x];exact growslice_fits s y)
 obtain⟨o,p⟩: ∃o:Array Value,o=(cs++b).toArray++Builtin.zeroCells z.cells (grownCap w (n+1) c (ρ.t 9)- (n+1)):=⟨_,rfl⟩;rw[<-p]at i |-;clear p;have⟨_,_,pz⟩:=L.F
 go_enter pz,Body2.n22_ntmps ρ
 cases base with
 |none=>
  have d:=r rfl;subst d
  go_wp2_with (at_builtin;refine Lib.wpList_append_run _ rfl _ _ _ _ rfl _ _ rfl rfl _ _ (i _) ?_)
  go_ret
  exact⟨rfl,rfl⟩
 |some a=>
  obtain⟨G,H,I⟩:=a
  go_wp2_with (at_builtin;refine Lib.wpList_append_run _ rfl _ _ _ _ rfl _ _ rfl rfl _ _ (i _) ?_)
  all_goals (go_ret;exact⟨rfl,rfl⟩)
set_option maxHeartbeats 4000000 in
set_option maxRecDepth 100000 in
def axZ{k bytes:Nat}{z:Value}(L:sd P ρ k bytes z)(On:0<k)(Aq: ∀m,(Builtin.zeroCells z.cells m).size=m*k)(b n c i eo I:Nat)(cs f:List Value)(w:World)(g5:i<n)(nW:n<=c)(Ix:c<n+1)(kK:(n+1)*bytes<=140737488355328)(DU:n<=549755813888)
  (K:cs.length=n*k) (Aj:f.length=k) (C: ∀j v,cs[j]? =some v->w.cell? ⟨b,j,none⟩=some v)
  (R: ∀j v,f[j]? =some v->w.cell? ⟨eo,j,none⟩=some v) (T: ∀v∈cs,v.oneCell'=true) (U: ∀v∈f,v.oneCell'=true):
  Calls P (ρ.f 22) #[.slice (some ⟨b,0,none⟩) n c,.int .i64 i,.slice (some ⟨eo,0,none⟩) 1 I] w λe w'=>
   e= .returned (.slice (some ⟨w.heap.size,0,none⟩) (n+1) (grownCap w (n+1) c (ρ.t 9)))/\
   w'=(((w.alloc (.cells ((cs.take (i*k)).toArray++Builtin.zeroCells z.cells (n+1-i)++Builtin.zeroCells z.cells (grownCap w (n+1) c (ρ.t 9)- (n+1))) (ρ.t 9))).drew.setCells w.heap.size (i*k) f).drew).setCells w.heap.size (i*k+k) (cs.drop (i*k)):=by
 have aGL:=fN L.t3;have aGK:=fN L.t24;have mixed:=L.mixed;have t3:=L.t3;have t24:=L.t24;have z9:=L.z9;have⟨u,D,Ap,F,S⟩:=info_parts L.i9;have axI: ¬((i:Int)=(n:Int)):=by omega
 have aI3:(c:Int)<(n:Int)+1:=by omega
 have ahw:(n+1)*k=n*k+k:=jK _ _;have aIF:i*k+(n-i)*k=n*k:=by rw[<-ig];congr 1;omega
 have Ow:0<(n-i)*k:=Nat.mul_pos Ω On;have awf:b<w.heap.size:=block_lt_of_cell (C 0 _ (cG Ω));have axA:eo<w.heap.size:=block_lt_of_cell (R 0 _ (cG Ω));have O:(n:Int)+1- (i:Int)=((n+1-i:Nat):Int):=by omega
 have E:i+(n+1-i)=n+1:=by omega
 have Q:(Builtin.firstCells u.size i (.slice (some ⟨b,0,none⟩) i c)).run P w.drew= .ok (cs.take (i*k)).toArray w.drew:=by
  rw[F];exact J7 w.drew k i ⟨b,0,none⟩ i c (cs.take (i*k)) (by rw[jr];omega) (λj v d=>by
   rw[Addr.add_lit,dj];rw[J3]at d
   split at d
   .exact C j v d
   .cases d)
 have s: ∀g,(Builtin.append_ #[ρ.t 24,ρ.t 3] g #[.slice (some ⟨b,0,none⟩) i c,.int .i64 ((n:Int)+1- (i:Int))]).run P w=
   .ok (.slice (some ⟨w.heap.size,0,none⟩) (n+1) (grownCap w (n+1) c (ρ.t 9))) (w.drew.alloc (.cells ((cs.take (i*k)).toArray++Builtin.zeroCells z.cells (n+1-i)++Builtin.zeroCells z.cells (grownCap w (n+1) c (ρ.t 9)- (n+1))) (ρ.t 9))):=λg=>by
  have hle:(n+1-i)*bytes<=(n+1)*bytes:=h4 _ Ω;have h:=Lib.run_append_grow_zeros w (ρ.t 24) (ρ.t 3) g (ρ.t 9) u _ .i64 .i64 L.t24 L.t3 D Ap (some ⟨b,0,none⟩) i c (cs.take (i*k)) Q (n+1-i) Ω Ω Ω Ω (by rw[S];omega) (by rw[S,E];exact growslice_fits Ix kK);rw[E]at h;rw[O];exact h
 obtain⟨G,r⟩: ∃G,G=grownCap w (n+1) c (ρ.t 9):=⟨_,rfl⟩;obtain⟨a,A⟩: ∃a:Array Value,a=(cs.take (i*k)).toArray++Builtin.zeroCells z.cells (n+1-i)++Builtin.zeroCells z.cells (G- (n+1)):=⟨_,rfl⟩;rw[<-r]at s |-;rw[<-A]at s |-;have avZ:(n+1)*k<=a.size:=by
  rw[A];simp only[yq,r4,jr,Aq,K];have:(n+1-i)*k=(n-i)*k+k:=by rw[show n+1-i=n-i+1 by omega];exact jK _ _
  omega
 obtain⟨l,p⟩: ∃l,l=w.drew.alloc (.cells a (ρ.t 9)):=⟨_,rfl⟩;rw[<-p]at s;have y: ∀j,j<(n+1)*k->(l.cell? ⟨w.heap.size,j,none⟩).isSome=true:=λj d=>by
  rw[p,World.cell?_alloc_at (w:=w.drew) a _ w.heap.size j rfl,r3 Ω];rfl
 have J: ∀j,l.frozen? ⟨w.heap.size,j,none⟩=false:=λj=>by rw[p];exact World.frozen?_alloc_at (w:=w.drew) a _ w.heap.size j rfl
 have avU: ∀j v,w.cell? ⟨b,j,none⟩=some v->l.cell? ⟨b,j,none⟩=some v:=λj v h=>by rw[p,World.cell?_alloc_past (w:=w.drew) _ b j awf];exact h
 have avV: ∀j v,w.cell? ⟨eo,j,none⟩=some v->l.cell? ⟨eo,j,none⟩=some v:=λj v h=>by rw[p,World.cell?_alloc_past (w:=w.drew) _ eo j axA];exact h
 have awr: ∀(W:World),(∀x,W.cell? x=l.cell? x)->(∀x,W.frozen? x=l.frozen? x)-> ∀g o,(Builtin.copy_ #[ρ.t 24,ρ.t 24] g #[.slice (some ⟨w.heap.size,i*k,none⟩) (n+1-i) o,.slice (some ⟨eo,0,none⟩) 1 I]).run P W= .ok (goInt (Nat.min 1 (n+1-i))) (W.setCells w.heap.size (i*k) f):=λW q B g o=>
  P6 W _ _ g (ρ.t 9) u w.heap.size (i*k) (n+1-i) o ⟨eo,0,none⟩ 1 I f L.t24 D (by rw[Aj,F,show Nat.min 1 (n+1-i)=1 by simp only[Nat.min_def];split<;>omega,Nat.one_mul])
   (λj v d=>by rw[Addr.add_lit,q,dj];exact avV _ v (R j v d))
   (λj d=>by rw[q];exact y _ Ω) (λj d=>by rw[B];exact J _) U
 have aIn:n+1<=G:=by rw[r];exact yp w _ _ _
 have aIj:G<=9223372036854775807:=by
  have:=grownCap_le_maxLen w (n+1) c (ρ.t 9) (by unfold maxLen;omega);rw[<-r]at this;unfold maxLen at this;omega
 have aIk: ¬(G=i):=by omega
 have aIl: ¬(G=i+1):=by omega
 have aIz: ¬(c=i):=by omega
 have awb:b≠w.heap.size:=by omega
 have N:(cs.drop (i*k)).length=(n-i)*k:=by rw[r_,K];omega
 have M: ∀(W:World),(∀x,W.cell? x=(l.setCells w.heap.size (i*k) f).cell? x)->(∀x,W.frozen? x=(l.setCells w.heap.size (i*k) f).frozen? x)-> ∀g o H,(Builtin.copy_ #[ρ.t 24,ρ.t 24] g #[.slice (some ⟨w.heap.size,i*k+k,none⟩) (n-i) o,.slice (some ⟨b,i*k,none⟩) (n-i) H]).run P W= .ok (goInt (Nat.min (n-i) (n-i))) (W.setCells w.heap.size (i*k+k) (cs.drop (i*k))):=λW q B g o H=>
  P6 W _ _ g (ρ.t 9) u w.heap.size (i*k+k) (n-i) o ⟨b,i*k,none⟩ (n-i) H (cs.drop (i*k)) L.t24 D (by rw[N,F,show Nat.min (n-i) (n-i)=n-i by simp])
   (λj v d=>by
    rw[Addr.add_lit,q,World.cell?_setCells_out _ _ _ _ _ (λh _=>absurd h awb)];exact avU _ v (C (i*k+j) v (by rwa [qA]at d)))
   (λj d=>by rw[q];exact isSome_setCells _ _ _ _ (λt jI=>y _ Ω) _ (y _ (by rw[N]at d;omega)))
   (λj d=>by rw[B,World.frozen?_setCells];exact J _) (λv dq=>T v (Bu dq))
 subst p;have V: ∀x,((w.alloc (.cells a (ρ.t 9))).drew).cell? x=(w.drew.alloc (.cells a (ρ.t 9))).cell? x:=λx=>rfl;have X: ∀x,((w.alloc (.cells a (ρ.t 9))).drew).frozen? x=(w.drew.alloc (.cells a (ρ.t 9))).frozen? x:=λx=>rfl;have Y: ∀x,(((w.alloc (.cells a (ρ.t 9))).drew.setCells w.heap.size (i*k) f).drew).cell? x=((w.drew.alloc (.cells a (ρ.t 9))).setCells w.heap.size (i*k) f).cell? x:=λx=>rfl;have Z: ∀x,(((w.alloc (.cells a (ρ.t 9))).drew.setCells w.heap.size (i*k) f).drew).frozen? x=((w.drew.alloc (.cells a (ρ.t 9))).setCells w.heap.size (i*k) f).frozen? x:=λx=>rfl;have axB:i64 ((i:Int)+1)=(i:Int)+1:=by rw[IntKind.wrap_i64];omega
 have axC:i64 ((n:Int)+1)=(n:Int)+1:=by rw[IntKind.wrap_i64];omega
 have aI0:i64 ((n:Int)+1- (i:Int))=(n:Int)+1- (i:Int):=by rw[IntKind.wrap_i64];omega
 have av9:(0:Int)<=(i:Int)+1:=by omega
 have vl:i<=n:=by omega
 have axq:((i:Int)+1).toNat=i+1:=by omega
 have awa:(i:Int)<=(n:Int):=by omega
 clear O E Q A r avZ;have⟨_,_,pz⟩:=L.F
 go_enter pz,Body2.n22_ntmps ρ
 go_wp2_with (first
  |(at_builtin;refine Lib.wpList_append_run _ rfl _ _ _ _ rfl _ _ rfl rfl _ _ (s _) ?_)
  |(at_builtin;refine wpList_copy_runI _ rfl _ _ (ρ.t 24) (ρ.t 24) rfl _ _ rfl rfl (awr _ V X _ _) ?_)
  |(at_builtin;refine wpList_copy_runI _ rfl _ _ (ρ.t 24) (ρ.t 24) rfl _ _ rfl rfl (M _ (λ_=>rfl) (λ_=>rfl) _ _ _) ?_))
 go_region_law_o (refine step_copy_runI rfl _ _ (ρ.t 24) (ρ.t 24) rfl (.slice (some ⟨w.heap.size,i*k+k,none⟩) (n-i) (G- (i+1))) (.slice (some ⟨b,i*k,none⟩) (n-i) (c-i)) (by simp [Act.eval,Act.put,ig]) (by simp [Act.eval,Act.put]) (M _ Y Z (ρ.t 3) (G- (i+1)) (c-i)) ?_)
 go_wp2
 go_ret
 exact⟨rfl,rfl⟩
end
end Go.ag
namespace Go.ag
open Go Go.Lib Go.Proofs Go.RowKit Go.Shelf Go.Sort
section
variable {P:Program} {ρ:Ren}
set_option maxHeartbeats 4000000 in
set_option maxRecDepth 1000000 in
def arX(k:Nat)(mixed:P.follows .mixedOrders=true)(F:Bears P (ρ.f 45) (SlBodyN.n45 ρ))
  (K:P.underlying (ρ.t 22)=some (TypeDesc.slice (ρ.t 23)))
  (aJG: ∀w,(Go.sizeOf (ρ.t 23)).run P w= .ok k w) (z:Value) (V: ∀w,(zeroValue (ρ.t 23)).run P w= .ok z w) (s:TypeInfo) (M:P.info? (ρ.t 23)=some s) (R:s.size=k)
  (a b n i j:Nat) (w:World) (news f:List Value) (H:(Builtin.zeroCells z.cells (j-i)).toList=f) (J:f.length=(j-i)*k) (I: ∀v∈f,v.oneCell'=true)
  (g:news.length=(n-j)*k) (y: ∀v∈news,v.oneCell'=true) (E: ∀t u,news[t]? =some u->w.cell? ⟨a,j*k+t,none⟩=some u)
  (m: ∀t,t<n*k->(w.cell? ⟨a,t,none⟩).isSome=true) (D: ∀t,w.frozen? ⟨a,t,none⟩=false)
  (X:n<=b) (vk:i<j) (ia:j<=n):
  Calls P (ρ.f 45) #[.slice (some ⟨a,0,none⟩) n b,.int .i64 i,.int .i64 j] w λe w'=>e= .returned (.slice (some ⟨a,0,none⟩) (n- (j-i)) b)/\w'=(w.drew.setCells a (i*k) news).setCells a ((i+(n-j))*k) f:=by
 obtain⟨A,W,Q⟩: ∃A:Addr,(if b=j then some (⟨a,0,none⟩:Addr)else some ⟨a,j*k,none⟩)=some A/\Hid (∀t u,news[t]? =some u->w.drew.cell? (A.add t)=some u):=by
  by_cases h:b=j
  .refine⟨⟨a,0,none⟩,by simp [h],λt u o=> ?_⟩;have L:news.length=0:=by rw[g,show n-j=0 by omega,Nat.zero_mul]
   rw[J6.1 L]at o;simp at o
  .refine⟨⟨a,j*k,none⟩,by simp [h],λt u o=> ?_⟩;rw[Addr.add_lit];exact E t u o
 have ahw:(n-j)*k<=n*k:=h4 k Ω;have awK:i*k+(n-j)*k+(j-i)*k=n*k:=by rw[<-ig,<-ig];congr 1;omega
 have S:Hid (news.length=(n-j)*k):=g;have T:Hid (∀u∈news,u.oneCell'=true):=y;have U:Hid (∀t,t<news.length->(w.drew.cell? ⟨a,0+i*k+t,none⟩).isSome=true/\w.drew.frozen? ⟨a,0+i*k+t,none⟩=false):=by
  intro t r;rw[g]at r;rw[dj];exact⟨m _ Ω,D _⟩
 obtain⟨d,l⟩: ∃d,d=w.drew.setCells a (0+i*k) news:=⟨_,rfl⟩;have G: ∀t,t<n*k->(d.cell? ⟨a,t,none⟩).isSome=true:=λt r=>by
  rw[l,dj]
  by_cases N:i*k<=t/\t<i*k+news.length
  .have:=World.cell?_setCells_in a news (i*k) w.drew (λq p=>m _ (by rw[g]at p;omega)) (t-i*k) Ω;rw[show i*k+(t-i*k)=t by omega]at this;rw[this];rfl
  .rw[World.cell?_setCells_out a news (i*k) w.drew ⟨a,t,none⟩ (λ_ _=>by show t<i*k\/i*k+news.length<=t;omega)];exact m t r
 have C: ∀t,d.frozen? ⟨a,t,none⟩=false:=λt=>by rw[l,World.frozen?_setCells];exact D t
 have O:0<n- (i+(n-j)):=by omega
 have Y: ∀x c,(Builtin.clear_ #[ρ.t 22] x #[.slice (some ⟨a,(i+(n-j))*k,none⟩) (n- (i+(n-j))) c]).run P d= .ok (.tuple #[]) (d.setCells a ((i+(n-j))*k) f):=λx c=>
  ak6 d _ _ x _ K V a _ _ _ O f (by rw[show n- (i+(n-j))=j-i by omega];exact H) I (λq p=>G _ (by rw[J]at p;rw[ig];omega)) (λq _=>C _)
 have B:Hid (d=w.drew.setCells a (0+i*k) news):=l;have Z:i<=b:=by omega
 have aIJ:j<=b:=by omega
 have N:i<=n:=by omega
 have kl: ¬((i:Int)=(j:Int)):=by omega
 clear l E g H J I y G C m;obtain⟨_,_,pz⟩:=F
 go_enter pz,SlBodyN.n45_ntmps ρ
 go_wp2_with fail
 go_region_law_o (refine step_append_room rfl (.tmp 22) (.tmp 25) (ρ.t 22) rfl (ρ.t 23) s k K M R a 0 i b (by simp [Act.eval,Act.put]) A (n-j) (b-j) news (by simp [Act.eval,Act.put]) S.out Q.out T.out Ω U.out ?_;rw[<-B.out])
 go_wp2
 go_ret
 refine⟨by rw[show n- (j-i)=i+(n-j) by omega];rfl,?_⟩;rw[B.out,dj]
end
