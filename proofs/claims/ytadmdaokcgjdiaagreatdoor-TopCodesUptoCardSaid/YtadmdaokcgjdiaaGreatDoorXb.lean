import Derived.Test.YtadmdaokcgjdiaaGreatDoorXa
import Derived.Deep.AppendSrc
import Derived.Great.FillDense
import Derived.Laws.BytesString
import Derived.Laws.IdiomStrings
import Derived.Laws.MakeOwn
import Derived.Laws.Slices
import Derived.Laws.Small
import Derived.Great.BuildSlice
import Derived.ProofKit
import Derived.ChangeSame
import Derived.ChangeArms
import Derived.Carry
import Derived.Laws.StructEq
import Derived.LoopN
import Derived.Laws.IdiomCopy
import Derived.Shelf.Spec.SlicesInsertGrow
import Derived.Shelf.SlGeneric
import Derived.Shelf.SlBodiesN
import Derived.Shelf.RegionOpenPlain
import Derived.WalkKit
import Derived.Deep.LoopGhost
import Derived.Deep.RegionLaw
import Derived.Lib.Walk
import Derived.Sort.WalkB12
import Derived.Lib.SliceRun
import Derived.Lib.SlicesDelete
open Go.IntKind (i64 u64 u8)
open Int (toNat)
set_option maxRecDepth 100000
set_option maxHeartbeats 4000000
set_option linter.all false
noncomputable section
namespace Go.af
open Go Go.RowKit
section
variable {E:Env} {S:eb} {ι:Nat->Option Nat} {st:O} {a:Act} {w:World}
def Cw(H:Heap)(b:Nat)(c:J):bJ H [(b,0,c)]=bI H b 0 c:=rfl
def aY.H_(h:aY S ι st a w){w':World}(m:Below w.heap.size w w'){b x:Nat}(VN:w.heap.size<=x)(avs:x<w'.heap.size){V n c:Nat}{f:Nat->List J}{C:Array Value}{T:TypeId}
  (W:n<=dz) (X:n<=c) (v:w'.heap[x]? =some (.cells C T (0,0))) (P:C.size=c*V) {F':Nat->Prop} (Q: ∀y,F' y->aT S ι st.k w y\/(w.heap.size<=y/\y<w'.heap.size/\y≠x))
  (dh: ∀i j,i<n->j<V-> ∃av u,(f i)[j]? =some av/\C[i*V+j]? =some u/\a1 w' F' av u)
  (F:((∀o,I st.k b o= .undef)/\ι b=none)\/ ∃r s,I st.k b 0= .ad false V r s/\r<n):
  aY S (cF ι b x) ⟨st.D,bI st.k b 0 (.ad false V n f)⟩ a w'/\cq (cF ι b x) (bI st.k b 0 (.ad false V n f)) w' (aT S (cF ι b x) (bI st.k b 0 (.ad false V n f)) w') (.own b n) (.slice (some ⟨x,0,none⟩) n c):=by
 have A: ∀b' o,b'≠b->I (bI st.k b 0 (.ad false V n f)) b' o=I st.k b' o:=λb' o fP=>by rw[eZ,aS (λe=>fP e.1)]
 have G:I (bI st.k b 0 (.ad false V n f)) b 0= .ad false V n f:=by rw[eZ,a5 ⟨rfl,rfl⟩]
 have ld: ∀z,ι b=some z->cr (I st.k b 0)=true:=λz q=>by
  rcases F with⟨_,k⟩|⟨r,s,d,_⟩
  .rw[k]at q;cases q
  .rw[d];rfl
 have B:ey ι st.k w (aT S ι st.k w) (cF ι b x) (bI st.k b 0 (.ad false V n f)) w' (aT S (cF ι b x) (bI st.k b 0 (.ad false V n f)) w'):=by
  refine⟨λy ⟨d,k,E⟩=>⟨d,gR k m.size,λb' U=> ?_⟩,λy o ⟨_,k,_⟩=>m.cell k,λb' z q l=> ?_,λb' ro kG n' O l=> ?_⟩
  .unfold cF
   by_cases e:b'=b
   .simp only[e,lp];intro p;simp at p;omega
   .simp only[e,np];exact E b' (oy (λo=>A b' o e) U)
  .have e:b'≠b:=λe=>by rw[e]at q l;rw[ld z q]at l;cases l
   exact⟨by simp [cF,e,q],by rw[A _ _ e];exact l⟩
  .by_cases e:b'=b
   .subst e;rcases F with⟨d,_⟩|⟨r,s,d,k⟩
    .rw[d]at l;cases l
    .rw[d]at l;cases l;exact⟨false,_,n,f,G,Ω,λe=>by omega⟩
   .refine⟨ro,_,n',O,by rw[A _ _ e];exact l,bN _,λ_=>⟨rfl,by simp [cF,e],λy C lx g v=>⟨C,?_,rfl⟩⟩⟩;rw[m.block y (h.fresh _ _ g).2];exact v
 have R: ∀y,F' y->aT S (cF ι b x) (bI st.k b 0 (.ad false V n f)) w' y:=λy g=>by
  rcases Q y g with g|⟨d,k,E⟩
  .exact B.h5 y g
  .refine⟨.inr (dP h.below.size d),k,λb' _ p=> ?_⟩;unfold cF at p
   by_cases e:b'=b<;>simp only[e,lp,np]at p
   .simp at p;exact E p.symm
   .have:=(h.fresh _ _ p).2;omega
 refine⟨⟨h.below.trans (m.mono h.below.size),h.defers,λt av iC=> ?_,λb' o=> ?_,λK L y d k=> ?_,λb' y g=> ?_,λb' y g=> ?_,h.gW.trans B⟩,?_⟩
 .obtain⟨cx,d,k⟩:=h.D t av iC;exact⟨cx,d,k.step B⟩
 .by_cases e:b'=b
  .subst e
   by_cases D:o=0
   .subst D;show e9 _ _ _ _ _ _ (I (bI st.k b' 0 (.ad false V n f)) b' 0);rw[G];refine⟨rfl,.inr ⟨W,.inr ⟨x,C,T,by simp [cF],v,λi j Y Z=> ?_⟩⟩⟩;obtain⟨av,u,hn,gE,j1⟩:=dh i j Y Z;exact⟨av,u,hn,gE,j1.mono R λ_ _ _=>rfl⟩
   .show e9 _ _ _ _ _ _ (I (bI st.k b' 0 (.ad false V n f)) b' o);rw[eZ,aS (λe=>D e.2)];have hu:I st.k b' o= .undef:=by
     rcases F with⟨d,_⟩|⟨r,s,d,_⟩
     .exact d o
     .have H:=h.k b' o
      cases e:I st.k b' o<;>rw[e]at H<;>first|rfl|(have:=H.1;rw[d]at this;cases this;done)|exact absurd H.1 D
    rw[hu];trivial
  .show e9 _ _ _ _ _ _ (I (bI st.k b 0 (.ad false V n f)) b' o);rw[A _ _ e];exact(h.k b' o).step B (λ_=>by simp [cF,e]) (λy g _=>⟨m.cell (h.fresh _ _ g).2,m.frozen (h.fresh _ _ g).2⟩) (λ_=>⟨by simp [cF,e],λy g=>m.block y (h.fresh _ _ g).2⟩)
 .unfold cF at d k
  by_cases M:K=b<;>by_cases N:L=b<;>simp only[M,N,lp,np]at d k
  .omega
  .simp at d;have:=(h.fresh _ _ k).2;omega
  .simp at k;have:=(h.fresh _ _ d).2;omega
  .exact h.inj _ _ _ d k
 .unfold cF at g
  by_cases e:b'=b<;>simp only[e,lp,np]at g
  .simp at g;subst g;exact⟨.inl (dP h.below.size VN),avs⟩
  .have:=h.fresh _ _ g;exact⟨this.1,gR this.2 m.size⟩
 .unfold cF at g
  by_cases e:b'=b
  .rw[e];exact(mq _ _ _ _).2
  .simp only[e,np]at g;exact gR (h.gT _ _ g) (mq _ _ _ _).1
 .exact⟨rfl,false,V,n,f,G,bN _,λ_=> .inl ⟨x,c,C,T,by simp [cF],rfl,X,v,P⟩⟩
def aY.NS(h:aY S ι st a w){b:Nat}(n: ∀o,I st.k b o= .undef)(l:ι b=none)(c:Nat)(f:Nat->List J):
  aY S ι ⟨st.D,bI st.k b 0 (.ad false c 0 f)⟩ a w/\ey ι st.k w (aT S ι st.k w) ι (bI st.k b 0 (.ad false c 0 f)) w (aT S ι (bI st.k b 0 (.ad false c 0 f)) w)/\
  ∀F,cq ι (bI st.k b 0 (.ad false c 0 f)) w F (.own b 0) (.slice none 0 0):=by
 have g: ∀b' o,b'≠b->I (bI st.k b 0 (.ad false c 0 f)) b' o=I st.k b' o:=λb' o G=>by rw[eZ,aS (λe=>G e.1)]
 have q:I (bI st.k b 0 (.ad false c 0 f)) b 0= .ad false c 0 f:=by rw[eZ,a5 ⟨rfl,rfl⟩]
 have r: ∀b' x,ι b'=some x->b'≠b:=λb' x s e=>by rw[e,l]at s;cases s
 have i:ey ι st.k w (aT S ι st.k w) ι (bI st.k b 0 (.ad false c 0 f)) w (aT S ι (bI st.k b 0 (.ad false c 0 f)) w):=by
  refine⟨λy ⟨j,k,B⟩=>⟨j,k,λb' E p=> ?_⟩,λy o _=>rfl,λb' z u d=>⟨u,by rw[g _ _ (r _ _ u)];exact d⟩,λb' M O L A d=> ?_⟩
  .exact B b' (oy (λo=>g b' o (r _ _ p)) E) p
  .have e:b'≠b:=λe=>by rw[e,n]at d;cases d
   exact⟨M,_,L,A,by rw[g _ _ e];exact d,bN _,λ_=>⟨rfl,rfl,λy C N _ D=>⟨C,D,rfl⟩⟩⟩
 refine⟨⟨h.below,h.defers,λt av H=> ?_,λb' o=> ?_,h.inj,h.fresh,λb' y K=>gR (h.gT _ _ K) (mq _ _ _ _).1,h.gW.trans i⟩,i,λF=>⟨rfl,false,c,0,f,q,bN _,λ_=> .inr ⟨rfl,l,rfl⟩⟩⟩
 .obtain⟨v,j,k⟩:=h.D t av H;exact⟨v,j,k.step i⟩
 .show e9 _ _ _ _ _ _ (I (bI st.k b 0 (.ad false c 0 f)) b' o)
  by_cases e:b'=b
  .subst e
   by_cases m:o=0
   .subst m;rw[q];exact⟨rfl,.inr ⟨cp _,.inl ⟨rfl,l⟩⟩⟩
   .rw[eZ,aS (λe=>m e.2),n];trivial
  .rw[g _ _ e];exact(h.k b' o).step i (λ_=>rfl) (λ_ _ _=>⟨rfl,rfl⟩) (λ_=>⟨rfl,λ_ _=>rfl⟩)
def rV(b:Nat): ∀(a:List Value) (o:Nat) (w:World) (C:Array Value) (T:TypeId) (z:Nat×Nat),w.heap[b]? =some (.cells C T z)->
  (∃d:Array Value,(w.setCells b o a).heap[b]? =some (.cells d T z)/\d.size=C.size/\ ∀k,d[k]? =if o<=k/\k<o+a.length/\k<C.size then a[k-o]? else C[k]?)/\
  (w.setCells b o a).heap.size=w.heap.size/\(∀k,k≠b->(w.setCells b o a).heap[k]? =w.heap[k]?)/\(w.setCells b o a).os=w.os/\(w.setCells b o a).tape=w.tape/\(w.setCells b o a).output=w.output
 |[],o,w,C,T,z,h=>by
  refine⟨⟨C,h,rfl,λk=> ?_⟩,rfl,λ_ _=>rfl,rfl,rfl,rfl⟩;rw[aS (by simp;omega)]
 |v::a,o,w,C,T,z,h=>by
  have q:(w.setCell ⟨b,o,none⟩ v).heap[b]? =some (.cells (C.setIfInBounds o v) T z):=by
   simp only[World.setCell,Array.getElem?_modify];rw[h];simp
  obtain⟨⟨d,f,g,i⟩,j,l,m,n,p⟩:=rV b a (o+1) (w.setCell ⟨b,o,none⟩ v) _ T z q;simp only[World.setCells];refine⟨⟨d,f,by simpa using g,λk=> ?_⟩,by simpa using j,λk c=>by rw[l k c,Below.heap_setCell _ _ _ _ c],by rw[m];rfl,by rw[n];rfl,by rw[p];rfl⟩;rw[i];simp only[Array.size_setIfInBounds,dy]
  by_cases e:k=o
  .subst e;rw[aS Ω]
   by_cases c:k<C.size
   .rw[a5 ⟨bN _,Ω,c⟩];simp [c]
   .rw[aS Ω];simp [c]
  .by_cases c:o+1<=k/\k<o+1+a.length/\k<C.size
   .rw[a5 c,a5 ⟨Ω,Ω,c.2.2⟩,show k-o=(k- (o+1))+1 by omega];simp
   .rw[aS c,aS Ω];rw[IM (λh=>e h.symm)]
def aY.aC8(h:aY S ι st a w){b x V n m c:Nat}{f g hh:Nat->List J}(we: ∀i,i<n+m->h2 n f g i=hh i){C:Array Value}{T:TypeId}(v:I st.k b 0= .ad false V n f)(q:ι b=some x)(R:w.heap[x]? =some (.cells C T (0,0)))(la:C.size=c*V)
  (G1:n+m<=c) (jY:n+m<=dz) (s:List Value) (H:s.length=m*V) (dh: ∀i j,i<m->j<V-> ∃av u,(g i)[j]? =some av/\s[i*V+j]? =some u/\a1 w (aT S ι st.k w) av u):
  aY S ι ⟨st.D,bI st.k b 0 (.ad false V (n+m) hh)⟩ a (w.setCells x (n*V) s)/\
  cq ι (bI st.k b 0 (.ad false V (n+m) hh)) (w.setCells x (n*V) s) (aT S ι (bI st.k b 0 (.ad false V (n+m) hh)) (w.setCells x (n*V) s)) (.own b (n+m)) (.slice (some ⟨x,0,none⟩) (n+m) c):=by
 obtain⟨⟨M,N,z,cx⟩,O,A,eI,aw,fu⟩:=rV x s (n*V) w C T (0,0) R;generalize aGE:w.setCells x (n*V) s=w' at*
 have G: ∀b' o,b'≠b->I (bI st.k b 0 (.ad false V (n+m) hh)) b' o=I st.k b' o:=λb' o Z=>by rw[eZ,aS (λe=>Z e.1)]
 have U:I (bI st.k b 0 (.ad false V (n+m) hh)) b 0= .ad false V (n+m) hh:=by rw[eZ,a5 ⟨rfl,rfl⟩]
 have G2:ni st.k b:= .inl ⟨by rw[v];rfl,by rw[v];rfl⟩;have yX: ∀y p,y≠x->w'.cell? ⟨y,p,none⟩=w.cell? ⟨y,p,none⟩:=λy p d=>World.cell?_of_block (A y d);have K: ∀b' y,ι b'=some y->b'≠b->y≠x:=λb' y d jG e=>jG (h.inj _ _ _ d (by rw[e];exact q));have l:ey ι st.k w (aT S ι st.k w) ι (bI st.k b 0 (.ad false V (n+m) hh)) w' (aT S ι (bI st.k b 0 (.ad false V (n+m) hh)) w'):=by
  refine⟨λy ⟨Q,B,E⟩=>⟨Q,by rw[O];exact B,λb' yV=> ?_⟩,λy o ⟨_,B,E⟩=>yX y o (λe=>E b G2 (by rw[e];exact q)),λb' l4 hG k=> ?_,λb' ro kG n' fW k=> ?_⟩
  .by_cases e:b'=b
   .rw[e];exact E b G2
   .exact E b' (oy (λo=>G b' o e) yV)
  .have e:b'≠b:=λe=>by rw[e,v]at k;cases k
   exact⟨hG,by rw[G _ _ e];exact k⟩
  .by_cases e:b'=b
   .subst e;rw[v]at k;cases k;refine⟨false,_,n+m,_,U,Ω,λ_=>⟨rfl,rfl,λy D lx d F=> ?_⟩⟩;rw[q]at d;cases d;rw[R]at F;cases F;exact⟨M,N,z⟩
   .refine⟨ro,_,n',fW,by rw[G _ _ e];exact k,bN _,λ_=>⟨rfl,rfl,λy D lx d F=>⟨D,?_,rfl⟩⟩⟩;rw[A y (K _ _ d e)];exact F
 refine⟨⟨h.below.then ⟨eI,aw,fu,by rw[O];exact bN _,λh1 k Z=>A h1 (λe=>(h.fresh _ _ q).1.elim (λg=>by omega) λg=>Z (by rw[e];exact g))⟩,h.defers,λt av iC=> ?_,λb' o=> ?_,h.inj,λb' y d=>⟨(h.fresh _ _ d).1,by rw[O];exact(h.fresh _ _ d).2⟩,λb' y d=>gR (h.gT _ _ d) (mq _ _ _ _).1,h.gW.trans l⟩,?_⟩
 .obtain⟨kc,Q,B⟩:=h.D t av iC;exact⟨kc,Q,B.step l⟩
 .show e9 _ _ _ _ _ _ (I (bI st.k b 0 (.ad false V (n+m) hh)) b' o)
  by_cases e:b'=b
  .subst e
   by_cases P:o=0
   .subst P;rw[U];refine⟨rfl,.inr ⟨jY,.inr ⟨x,M,T,q,N,λi j W fX=> ?_⟩⟩⟩;have Y:=h.k b' 0;rw[v]at Y;have tR:i*V+j<(n+m)*V:=by
     have:(i+1)*V<=(n+m)*V:=hy V W;rw[iX]at this;omega
    have hmul:(n+m)*V<=c*V:=hy V G1;have atK:(n+m)*V=n*V+m*V:=hI _ _ _
    by_cases X:i<n
    .obtain⟨_,dQ|⟨_,Y|⟨r,uW,w7,q1,fQ,zA⟩⟩⟩:=Y
     .cases dQ.1
     .omega
     .rw[q]at q1;cases q1;rw[R]at fQ;cases fQ;obtain⟨av,u,hn,L,j1⟩:=zA i j X fX;have gX:i*V+j<n*V:=by
       have:(i+1)*V<=n*V:=hy V X;rw[iX]at this;omega
      refine⟨av,u,?_,?_,j1.mono l.h5 l.cell⟩
      .have:Nat.blt i n=true:=by simpa[iY]using X
       rw[<-we i W];simp only[h2,this,aR];exact hn
      .rw[cx,aS Ω];exact L
    .obtain⟨av,u,hn,L,j1⟩:=dh (i-n) j Ω fX;have rY:(i-n)*V=i*V-n*V:=Dy _ _ _;have tP:n*V<=i*V:=hy V Ω;refine⟨av,u,?_,?_,j1.mono l.h5 l.cell⟩
     .have:Nat.blt i n=false:=by
       cases e:Nat.blt i n with
       |false=>rfl
       |true=>exact absurd (g8 e) Ω
      rw[<-we i W];simp only[h2,this,aX];exact hn
     .rw[cx,a5 ⟨Ω,Ω,Ω⟩];rw[rY]at L;rw[show i*V+j-n*V=i*V-n*V+j by omega];exact L
   .rw[eZ,aS (λe=>P e.2)];have hu:I st.k b' o= .undef:=by
     have H:=h.k b' o
     cases e:I st.k b' o<;>rw[e]at H<;>first|rfl|(have:=H.1;rw[v]at this;cases this;done)|exact absurd H.1 P
    rw[hu];trivial
  .rw[G _ _ e];exact(h.k b' o).step l (λ_=>rfl) (λy d _=>⟨yX y o (K _ _ d e),World.frozen?_of_block (A y (K _ _ d e))⟩) (λ_=>⟨rfl,λy d=>A y (K _ _ d e)⟩)
 .exact⟨rfl,false,V,n+m,_,U,bN _,λ_=> .inl ⟨x,c,M,T,q,rfl,G1,N,by rw[z];exact la⟩⟩
def aY.freeze(h:aY S ι st a w){H':Heap}(k: ∀b o,I H' b o=I st.k b o\/(o=0/\ ∃i j n f,I st.k b 0= .ad i j n f/\I H' b 0= .ad true j n f))(B:st.k.length<=H'.length):
  aY S ι ⟨st.D,H'⟩ a w/\ey ι st.k w (aT S ι st.k w) ι H' w (aT S ι H' w):=by
 have q: ∀b,cr (I H' b 0)=cr (I st.k b 0):=λb=>by
  rcases k b 0 with c|⟨_,i,j,n,f,c,d⟩
  .rw[c]
  .rw[c,d];rfl
 have l:ey ι st.k w (aT S ι st.k w) ι H' w (aT S ι H' w):=by
  refine⟨λy ⟨c,d,u⟩=>⟨c,d,λb A=>u b ?_⟩,λ_ _ _=>rfl,λb z F m=>⟨F,by rw[q];exact m⟩,λb i j n f m=> ?_⟩
  .rcases A with⟨e,g⟩|⟨e,o,g⟩
   .rcases k b 0 with c|⟨_,i,j,n,f,_,d⟩
    .rw[c]at e g;exact .inl ⟨e,g⟩
    .rw[d]at g;cases g
   .rw[q]at e;rcases k b o with c|⟨_,i,j,n,f,c,_⟩
    .rw[c]at g;exact .inr ⟨e,o,g⟩
    .rw[c]at e;cases e
  .rcases k b 0 with c|⟨_,K,L,J,H,c,d⟩
   .exact⟨i,_,n,f,by rw[c];exact m,bN _,λ_=>⟨rfl,rfl,λx C T _ p=>⟨C,p,rfl⟩⟩⟩
   .rw[m]at c;cases c;exact⟨true,_,n,f,d,bN _,λ_=>⟨rfl,rfl,λx C T _ p=>⟨C,p,rfl⟩⟩⟩
 refine⟨⟨h.below,h.defers,λt av D=> ?_,λb o=> ?_,h.inj,h.fresh,λb x E=>gR (h.gT _ _ E) B,h.gW.trans l⟩,l⟩
 .obtain⟨v,c,d⟩:=h.D t av D;exact⟨v,c,d.step l⟩
 .show e9 ι H' w _ b o (I H' b o);rcases k b o with c|⟨rfl,i,j,n,f,c,d⟩
  .rw[c];exact(h.k b o).step l (λ_=>rfl) (λ_ _ _=>⟨rfl,rfl⟩) (λ_=>⟨rfl,λ_ _=>rfl⟩)
  .rw[d];have r:=h.k b 0;rw[c]at r;obtain⟨s,G|fB⟩:=r.step l (λ_=>rfl) (λ_ _ _=>⟨rfl,rfl⟩) (λ_=>⟨rfl,λ_ _=>rfl⟩)
   .exact⟨s,.inl ⟨rfl,G.2⟩⟩
   .exact⟨s,.inr fB⟩
def N7(h:aY S ι st a w){b k:Nat}{v:Value}{o n:Nat}{f:Nat->List J}(s:I st.k b 0= .ad true o n f)(O:k=n)(Q:eE S ι st.k w (.own b k) v):a1 w (aT S ι st.k w) (.arr o n f) v:=by
 obtain⟨_,Z,kG,X,U,z,V,G⟩:=Q;rw[s]at z;cases z;subst O;rcases G rfl with⟨q,c,C,F,d,y,P,A,W⟩|⟨rfl,_,y⟩
 .have m:=h.k b 0;rw[s]at m;obtain⟨_,D|⟨L,m|⟨Y,R,T,E,B,x⟩⟩⟩:=m
  .rw[d]at D;cases D.2.2
  .rw[d]at m;cases m.2
  .rw[d]at E;cases E;rw[A]at B;cases B;have N:=h.fresh b q d;have H:aT S ι st.k w q:=⟨h.own d,N.2,λb' K M=>by
    have:=h.inj _ _ _ M d;subst this;rcases K with⟨_,g⟩|⟨g,_⟩
    .rw[s]at g;cases g
    .rw[s]at g;cases g⟩
   rw[y];refine .arr o k f q 0 c (λi j=>((f i)[j]?).getD .undef) (λi j=>(C[i*o+j]?).getD undef) P L (λ_=>H) (λi j e l=> ?_) (λi j e l=> ?_) (λi j e l=> ?_)
   .obtain⟨av,u,p,r,t⟩:=x i j e l;rw[p];rfl
   .obtain⟨av,u,p,r,t⟩:=x i j e l;rw[uT w q _ C F (0,0) A,db,r];rfl
   .obtain⟨av,u,p,r,t⟩:=x i j e l;simp only[p,r,lY];exact t
 .rw[y];exact .nil o f
end
section
variable {E:Env} {S:eb} {ι:Nat->Option Nat} {st:O} {a:Act} {w:World}
def G9: ∀(a b:b5) (H:Heap),bJ H (a++b)=bJ (bJ H a) b
 |[],_,_=>rfl
 |(_,_,_)::a,b,H=>G9 a b _
def rZ: ∀(a:b5) (H:Heap),H.length<=(bJ H a).length
 |[],_=>bN _
 |(b,p,c)::a,H=>dP (wx H b p c).1 (rZ a _)
def G_: ∀(a:b5) (H:Heap) (b o:Nat),I (bJ H a) b o=I H b o\/ ∃c,(b,o,c)∈a/\I (bJ H a) b o=c
 |[],_,_,_=> .inl rfl
 |(b',f,d)::a,H,b,o=>by
  rcases G_ a (bI H b' f d) b o with h|⟨c,g,i⟩
  .rw[bJ,h,eZ]
   by_cases e:b=b'/\o=f
   .rw[a5 e];exact .inr ⟨d,by rw[e.1,e.2];simp,rfl⟩
   .rw[aS e];exact .inl rfl
  .exact .inr ⟨c,by simp [g],i⟩
def VK: ∀(a:b5) (H:Heap) (b o:Nat) (f:J),(b,o,f)∈a-> ∃c,(b,o,c)∈a/\I (bJ H a) b o=c
 |[],_,_,_,_,h=>by cases h
 |(b',i,d)::a,H,b,o,f,h=>by
  rcases G_ a (bI H b' i d) b o with g|⟨c,g,l⟩
  .by_cases e:b=b'/\o=i
   .refine⟨d,by rw[e.1,e.2];simp,?_⟩;rw[bJ,g,eZ,a5 e]
   .rcases iI.1 h with h|h
    .cases h;exact absurd ⟨rfl,rfl⟩ e
    .obtain⟨c,j,k⟩:=VK a (bI H b' i d) b o f h;exact⟨c,by simp [j],k⟩
  .exact⟨c,by simp [g],l⟩
def pn:J->List Nat
 | .own b _=>[b]
 |_=>[]
def r8:J->List Nat
 | .agg cs=>cs.flatMap pn
 |av=>pn av
def aiY{H:Heap}{x:J}{b o:Nat}{c:J}(h:(b,o,c)∈uD H x):o=0/\ ∃d a n f,I H b 0= .ad d a n f/\c= .ad true a n f:=by
 cases x<;>simp only[uD]at h<;>try (cases h;done)
 rename_i b' k
 cases e:I H b' 0<;>rw[e]at h<;>simp only at h<;>try (cases h;done)
 simp only[List.mem_singleton,pz]at h;obtain⟨rfl,rfl,rfl⟩:=h;exact⟨rfl,_,_,_,_,e,rfl⟩
def aiZ{H:Heap}{l:List J}{b o:Nat}{c:J}(h:(b,o,c)∈eO H l):o=0/\ ∃d a n f,I H b 0= .ad d a n f/\c= .ad true a n f:=by
 obtain⟨x,_,h⟩:=lX.1 h
 cases x
 case agg cs=>
  obtain⟨y,_,h⟩:=lX.1 h;exact aiY h
 all_goals
  simp only[Da]at h;exact aiY h
def aiX{H:Heap}{x:J}{b:Nat}(h:b∈pn x){d a n f}(c:I H b 0= .ad d a n f):(b,0,.ad true a n f)∈uD H x:=by
 cases x<;>simp only[pn]at h<;>try (cases h;done)
 simp only[List.mem_singleton]at h;subst h;simp [uD,c]
def aC6{H:Heap}{l:List J}{b:Nat}(h:b∈l.flatMap r8){g c n f}(a:I H b 0= .ad g c n f):(b,0,.ad true c n f)∈eO H l:=by
 obtain⟨x,d,h⟩:=lX.1 h;refine lX.2 ⟨x,d,?_⟩
 cases x
 case agg cs=>
  obtain⟨y,e,h⟩:=lX.1 h;exact lX.2 ⟨y,e,aiX h a⟩
 all_goals
  simp only[r8]at h;simp only[Da];exact aiX h a
def wL{H:Heap}(l:List J)(b o:Nat):I (bJ H (eO H l)) b o=I H b o\/(o=0/\ ∃d a n f,I H b 0= .ad d a n f/\I (bJ H (eO H l)) b 0= .ad true a n f):=by
 rcases G_ (eO H l) H b o with h|⟨c,e,g⟩
 .exact .inl h
 .obtain⟨rfl,d,a,n,f,i,j⟩:=aiZ e;exact .inr ⟨rfl,d,a,n,f,i,by rw[g,j]⟩
def Im{H:Heap}{l:List J}{b:Nat}(h:b∈l.flatMap r8){k e n f}(d:I H b 0= .ad k e n f):I (bJ H (eO H l)) b 0= .ad true e n f:=by
 obtain⟨c,g,i⟩:=VK (eO H l) H b 0 _ (aC6 h d);obtain⟨_,p,q,o,m,a,j⟩:=aiZ g;rw[d]at a;cases a;rw[i,j]
def ab_{H:Heap}(h:aY S ι st a w){x:J}{v:Value}(l: ∀b∈pn x,∀p g n f,I H b 0= .ad p g n f->I st.k b 0= .ad true g n f)(d:eE S ι st.k w x v){K:J->Prop}(c:iR H x K): ∃y,K y/\a1 w (aT S ι st.k w) y v:=by
 have q:de (oQ x) (K x)-> ∃y,K y/\a1 w (aT S ι st.k w) y v:=λm=>(λ⟨i,j⟩=>⟨x,j,cq.q_ d i⟩) (aF.1 m)
 cases x
 case own b k=>
  simp only[iR]at c
  cases e:I H b 0<;>rw[e]at c<;>simp only at c
  exact⟨_,c.2,N7 h (l b (by simp [pn]) _ _ _ _ e) c.1 d⟩
 case lit b=>
  have o:a1 w (aT S ι st.k w) (.lit b) v:=d
  cases o
  exact⟨_,c,.bool b⟩
 all_goals exact q c
def R8{H:Heap}(h:aY S ι st a w): ∀(cs:List J) (g:List Value) (K:List J->Prop),(∀b∈cs.flatMap pn,∀p l n f,I H b 0= .ad p l n f->I st.k b 0= .ad true l n f)->a6 (eE S ι st.k w) cs g->l9 H cs K-> ∃i,K i/\a6 (a1 w (aT S ι st.k w)) i g
 |[],[],K,_,_,d=>⟨[],d,trivial⟩
 |[],_::_,_,_,e,_=>e.elim
 |_::_,[],_,_,e,_=>e.elim
 |c::cs,v::g,K,k,e,d=>by
  obtain⟨y,d,m⟩:=ab_ h (λb j=>k b (by simp [j])) e.1 d;obtain⟨i,d,o⟩:=R8 h cs g _ (λb j=>k b (by simp only[g0,gj];exact .inr j)) e.2 d;exact⟨y::i,d,m,o⟩
def aqP{H:Heap}(h:aY S ι st a w){x:J}{v:Value}(g: ∀b∈r8 x,∀p j n f,I H b 0= .ad p j n f->I st.k b 0= .ad true j n f)(i:bz S ι st.k w x v){K:J->Prop}(c:kR H x K): ∃y,K y/\fK w (aT S ι st.k w) y v:=by
 have o: ∀y,a1 w (aT S ι st.k w) y v->fK w (aT S ι st.k w) y v:=λy m=>by cases m<;>first|exact .int _ _|exact .bool _|exact .str _ Ψ|exact .aG|exact .nil _ _|exact .mt _ _ _ _|(constructor<;>assumption)
 cases x
 case agg cs=>
  obtain⟨k,rfl,l⟩:=i;obtain⟨q,d,e⟩:=R8 h cs k _ g l c;exact⟨.agg q,d,k,rfl,e⟩
 case undef=>exact c.elim
 case gone=>exact c.elim
 case dp=>exact c.elim
 case ad=>exact c.elim
 all_goals
  simp only[bz,eF,gw]at i;simp only[r8]at g;obtain⟨y,d,e⟩:=ab_ h g i c;exact⟨y,d,o y e⟩
def R7{H:Heap}(h:aY S ι st a w): ∀(k:List J) (g:List Value) (K:List J->Prop),(∀b∈k.flatMap r8,∀q m n f,I H b 0= .ad q m n f->I st.k b 0= .ad true m n f)->a6 (bz S ι st.k w) k g->mQ H k K-> ∃i,K i/\a6 (fK w (aT S ι st.k w)) i g
 |[],[],K,_,_,d=>⟨[],d,trivial⟩
 |[],_::_,_,_,e,_=>e.elim
 |_::_,[],_,_,e,_=>e.elim
 |c::cs,v::g,K,l,e,d=>by
  obtain⟨y,d,o⟩:=aqP h (λb j=>l b (by simp [j])) e.1 d;obtain⟨i,d,p⟩:=R7 h cs g _ (λb j=>l b (by simp only[g0,gj];exact .inr j)) e.2 d;exact⟨y::i,d,o,p⟩
def ajh{b:Nat}{F:Nat->Prop}{r:J}{v:Value}(a:Db r=true)(h:q0 b w F r v):kb w F r v:=by
 cases r<;>first|exact h|(cases a;done)
def Yg{ws:b5}(h:aY S ι ⟨st.D,bJ st.k ws⟩ a w){w':World}(d:Below w.heap.size w w'){F:Nat->Prop}{r:J}{v:Value}(u:q0 w.heap.size w' F r v)
  (s: ∀y,F y->aT S ι (bJ st.k ws) w y\/(w.heap.size<=y/\y<w'.heap.size)) {aC:Nat} (t: ∀o,I (bJ st.k ws) aC o= .undef) (z:ι aC=none) {K:J->b5->Prop} (m:uC aC r ws K):
  ∃az av i,K av i/\aY S az ⟨st.D,bJ st.k i⟩ a w'/\bz S az (bJ st.k i) w' av v/\ ∀b,az b≠none->ι b≠none\/ ∃p c,(b,p,c)∈i:=by
 have U:kb w' F r v->K r ws-> ∃az av i,K av i/\aY S az ⟨st.D,bJ st.k i⟩ a w'/\bz S az (bJ st.k i) w' av v/\ ∀b,az b≠none->ι b≠none\/ ∃p c,(b,p,c)∈i:=λM G=>by
  obtain⟨k,q⟩:=h.world d;refine⟨ι,r,ws,G,k,eF.WW (kb.mono (λy j=> ?_) (λ_ _ _=>rfl) M),λb d=> .inl d⟩;rcases s y j with j|⟨Q,R⟩
  .exact q.h5 y j
  .exact⟨.inr (dP h.below.size Q),R,λb _ e=>by have:=(h.fresh b y e).2;omega⟩
 cases r
 case ad V l n f=>
  simp only[uC]at m;rcases u with⟨rfl,rfl⟩|⟨x,c,C,T,O,P,rfl,L,H,D,E,N⟩
  .obtain⟨k,_⟩:=h.world d;obtain⟨A,_,B⟩:=k.NS t z l f;refine⟨ι,.own aC 0,ws++[(aC,0,.ad false l 0 f)],m,?_,?_,λb d=> .inl d⟩
   .rw[G9,Cw];exact A
   .rw[G9,Cw];exact B (aT S ι (bI (bJ st.k ws) aC 0 (.ad false l 0 f)) w')
  .obtain⟨k,q⟩:=h.H_ d (b:=aC) O P H L D E (F':=λy=>F y/\y≠x) (λy j=>(s y j.1).imp id λg=>⟨g.1,g.2,j.2⟩) N (.inl ⟨t,z⟩);refine⟨cF ι aC x,.own aC n,ws++[(aC,0,.ad false l n f)],m,?_,?_,λb d=>(Dk _ _ _ b d).imp id λe=>⟨0,.ad false l n f,by subst e;simp⟩⟩
   .rw[G9,Cw];exact k
   .rw[G9,Cw];exact q
 all_goals exact U u m
def aqI(h:aY S ι st a w){x:Operand}{f:FuncId}{b:List J}(o:aE st.D x= .fn f b)(l:b.all ny=true): ∃c:List Value,a.eval x= .func (.func f) #[] c.toArray/\a6 (bz S ι st.k w) b c:=by
 have:=h.eval x;rw[o]at this;obtain⟨c,j,d⟩:=(show eE S ι st.k w (.fn f b) _ from this);refine⟨c,j,a6.mk d.length λi p q e m=> ?_⟩;obtain⟨r,g,n⟩:=d.get i p e;rw[m]at g;cases g;have k:=dK.1 l p (ft e)
 cases p<;>first|(cases k;done)|exact n
def aoZ(m4:E.dE){o:Oper}{c:Go.Call}{A:Operand}{f:FuncId}{G:List J}(eA:o.op= .call c)(jF:c.callee= .value A)(VM:aE st.D A= .fn f G)(U7:G.all ny=true)(h:aY S ι st a w){aC:Nat}(ld: ∀o,I st.k aC o= .undef)(qm:ι aC=none)
  {K:J->b5->Prop} (l:va E st.k aC f (c.args.toList.map (aE st.D)++G) K) {next:Act->World->Prop} {Q:Exit->Act->World->Prop}
  (rX: ∀az av ws v w',K av ws->aY S az ⟨st.D,bJ st.k ws⟩ a w'->bz S az (bJ st.k ws) w' av v->(∀b,az b≠none->ι b≠none\/ ∃p c,(b,p,c)∈ws)->next (a.put o.dst v) w'):o.wp E.P a w next Q:=by
 obtain⟨B,Vc,Mw⟩:=aqI h VM U7;have atN:a6 (bz S ι st.k w) ((c.args.toList.map (aE st.D)).map eT) (c.args.toList.map a.eval):=by
  refine a6.mk (by simp) λi x y j m=> ?_;simp only[g_,mC]at j m;obtain⟨g,⟨zs,L,rfl⟩,rfl⟩:=j;obtain⟨HP,V,rfl⟩:=m;rw[L]at V;cases V;exact CQ (h.eval zs)
 have O:a6 (bz S ι st.k w) ((c.args.toList.map (aE st.D)++G).map eT) (c.args.toList.map a.eval++B):=by
  rw[List.map_append];refine a6.append atN (a6.mk (by simpa using Mw.length) λi x y j m=> ?_);simp only[g_,mC]at j;obtain⟨g,L,rfl⟩:=j;obtain⟨wS,T,gD⟩:=Mw.get i g L;rw[m]at T;cases T;exact CQ gD
 unfold va at l;generalize (c.args.toList.map (aE st.D)++G).map eT=aa at l O;have W: ∀(F:Nat->Prop) (U:List J) (r:J) (u:Option Prop),E.spec f U=some (u,r)->ou u True->DJ w F->a6 (fK w F) U (c.args.toList.map a.eval++B)->
   (∀w' v,Below w.heap.size w w'->q0 w.heap.size w' (λx=>F x\/(w.heap.size<=x/\x<w'.heap.size)) r v->next (a.put o.dst v) w')->o.wp E.P a w next Q:=λF U r u s P od yU fP=>by
  obtain⟨⟨fn,ao5,Mz,U4,Vj⟩,au1⟩:=m4.spec f U u r s;have GL:=au1 P w F _ od yU;have pd:(execOp a.eval o).run E.P w= .ok (.enter f (c.args.toList.map a.eval++B).toArray) w:=by
   have Vl:fn.name≠ "runtime.NumGoroutine" :=by simpa using Vj
   have U0:(c.args.toList.map a.eval++B).toArray=c.args.map a.eval++B.toArray:=by apply py;simp
   rw[U0];simp [execOp,eA,resolve,jF,Vc,Deferred.ofValue,invoke,callFunc,Mz,U4,Vl]
  unfold Oper.wp;rw[pd];refine GL.mono λe w' ⟨v,he,k,d⟩=> ?_;subst he;exact fP w' v d k
 by_cases Y:aa.all AS=true
 .have l:=acg Y l
  cases s:E.spec f aa with
  |none=>rw[s]at l;exact l.elim
  |some q=>
   obtain⟨u,r⟩:=q;rw[s]at l;obtain⟨P,N⟩:=qy.1 l;have z:ox st.k r aa=[]:=by simp [ox,Y]
   rw[z]at N;refine W (aT S ι st.k w) _ r u s P h.R3 (a6.mk O.length λi x y j m=> ?_) λw' v d k=> ?_
   .obtain⟨wS,T,gD⟩:=O.get i x j;rw[m]at T;cases T;exact gD.q_ (dK.1 Y _ (ft j))
   .obtain⟨az,av,OR,jc,jg,fG,lL⟩:=Yg (st:=st) (ws:=[]) h d k (λy m=>m) ld qm N;exact rX az av OR v w' jc jg fG lL
 .obtain⟨aar,Z,atI⟩:=ach h _ _ _ O l
  cases s:E.spec f aar with
  |none=>rw[s]at Z;exact Z.elim
  |some q=>
   obtain⟨u,r⟩:=q;rw[s]at Z;obtain⟨P,N⟩:=qy.1 Z
   by_cases MS:Db r=true
   .have z:ox st.k r aa=[]:=by simp [ox,MS]
    rw[z]at N;refine W (lu S w) aar r u s P ⟨λx j=>j.elim (λM=>gR (S.lt x M) h.below.size) λM=>M.2,λC=>(h.v7 C).imp id λcx=>cx.mono (λx j=>j.1.elim .inl λM=> .inr ⟨M,j.2.1⟩) λ_ _ _=>rfl⟩ atI λw' v d k=> ?_;obtain⟨D,hl⟩:=h.world d;have UR:K r []:=by cases r<;>first|exact N|(cases MS;done)
    exact rX ι r [] v w' UR D (eF.WW (aji MS (ajh MS k))) λb d=> .inl d
   .
    obtain⟨D,G4⟩:=h.freeze (H':=bJ st.k (eO st.k aa)) (wL aa) (rZ _ _);have atM:a6 (bz S ι (bJ st.k (eO st.k aa)) w) aa (c.args.toList.map a.eval++B):=O.imp λ_ _ k=>k.step G4;obtain⟨Q7,Cq,UY⟩:=R7 (H:=st.k) D aa _ _ (λb d ro eI n f he=>Im d he) atM l
    cases MO:E.spec f Q7 with
    |none=>rw[MO]at Cq;exact Cq.elim
    |some q1=>
     obtain⟨ais,t⟩:=q1;rw[MO]at Cq;obtain⟨afH,X⟩:=qy.1 Cq
     by_cases R:Db t=true
     .have z:ox st.k t aa=[]:=by simp [ox,R]
      rw[z]at X;refine W (aT S ι (bJ st.k (eO st.k aa)) w) Q7 t ais MO afH D.R3 UY λw' v d k=> ?_;obtain⟨fe,yQ⟩:=h.world d;have UR:K t []:=by cases t<;>first|exact X|(cases R;done)
      exact rX ι t [] v w' UR fe (eF.WW (aji R (ajh R k))) λb d=> .inl d
     .have z:ox st.k t aa=eO st.k aa:=by
       have L:Db t=false:=by simpa using R
       have V:aa.all AS=false:=by simpa using Y
       simp only[ox,L,V,Bool.or_self]
      rw[z]at X;refine W (aT S ι (bJ st.k (eO st.k aa)) w) Q7 t ais MO afH D.R3 UY λw' v d k=> ?_;have GY: ∀o,I (bJ st.k (eO st.k aa)) aC o= .undef:=λo=>by
       rcases wL (H:=st.k) aa aC o with C|⟨_,ro,eI,n,f,C,_⟩
       .rw[C];exact ld o
       .rw[ld 0]at C;cases C
      obtain⟨az,av,OR,jc,jg,fG,lL⟩:=Yg (st:=st) (ws:=eO st.k aa) D d k (λy m=>m) GY qm X;exact rX az av OR v w' jc jg fG lL
end
section
variable {E:Env} {S:eb} {ι:Nat->Option Nat} {st:O} {a:Act} {w:World}
def ah3{v:Value}(h:one v=true):v.oneCell'=true:=by cases v<;>first|rfl|(cases h;done)
def sZ(a n:Nat)(u:Nat->Nat->Value):List Value:=(List.range (n*a)).map λk=>u (k/a) (k%a)
def Ey(V n:Nat)(u:Nat->Nat->Value):(sZ V n u).length=n*V:=by simp [sZ]
def JV{V n:Nat}{u:Nat->Nat->Value}{i j:Nat}(d:i<n)(a:j<V):(sZ V n u)[i*V+j]? =some (u i j):=by
 have e:i*V+j<n*V:=by
  have:(i+1)*V<=n*V:=hy V d;rw[iX]at this;omega
 have b:(i*V+j)/V=i:=by
  rw[uS,Nat.mul_add_div Ω,O0 a];omega
 have c:(i*V+j)%V=j:=by
  rw[uS,Nat.mul_add_mod,O1 a]
 simp [sZ,DC e,b,c]
def JU{V n:Nat}{u:Nat->Nat->Value}{k:Nat}{v:Value}(h:(sZ V n u)[k]? =some v): ∃i j,i<n/\j<V/\k=i*V+j/\v=u i j:=by
 have g:k<n*V:=by
  have:=(il.1 h).1;simpa[sZ]using this
 have f:0<V:=by
  rcases wX V with e|e
  .subst e;omega
  .exact e
 have a:k/V<n:=(Nat.div_lt_iff_lt_mul f).2 g;have b:k%V<V:=Nat.mod_lt _ f;have c:k=k/V*V+k%V:=by rw[uS];exact(Nat.div_add_mod k V).symm
 have d:=JV (u:=u) a b;rw[<-c,h]at d
 cases d
 exact⟨_,_,a,b,c,rfl⟩
def aDJ{F:TypeId}{str:Bool}(cx:aY S ι st a w)(B:if str then E.P.underlying F=some .string else∃e,E.P.underlying F=some (.slice e)){r:Nat}{y:J}{v:Value}(Q:bz S ι st.k w y v){K:Nat->(Nat->List J)->Prop}(A:nk st.k str r y K):
  ∃m g z,K m g/\m<=dz/\Src E.P r F v m z w/\ ∀i j,i<m->j<r-> ∃av u,(g i)[j]? =some av/\z[i*r+j]? =some u/\a1 w (aT S ι st.k w) av u:=by
 have fin: ∀(t m:Nat) (g:Nat->List J) (x p c:Nat) (u:Nat->Nat->Value) (q:Nat->Nat->J),str=false->t=r->v= .slice (some ⟨x,p,none⟩) m c->m<=dz->K m g->(∀i j,i<m->j<t->(g i)[j]? =some (q i j))->(∀i j,i<m->j<t->w.cell? ⟨x,p+(i*t+j),none⟩=some (u i j))->
   (∀i j,i<m->j<t->a1 w (aT S ι st.k w) (q i j) (u i j))-> ∃m g z,K m g/\m<=dz/\Src E.P r F v m z w/\ ∀i j,i<m->j<r-> ∃av u,(g i)[j]? =some av/\z[i*r+j]? =some u/\a1 w (aT S ι st.k w) av u:=by
  intro t m g x p c u q P oj D hm l d hl R;subst oj;subst D;rw[P]at B;obtain⟨e,M⟩:=B;refine⟨m,g,sZ t m u,l,hm,Src.ofSlice w M _ m c _ (Ey _ _ _) (λj v o=> ?_) (λv D=> ?_),λi j h o=>⟨_,_,d i j h o,JV h o,R i j h o⟩⟩
  .obtain⟨i,Z,h,W,ki,G⟩:=JU o;rw[Addr.add_lit,ki,G];exact hl i Z h W
  .obtain⟨k,A⟩:=qN D;obtain⟨i,Z,h,W,ki,G⟩:=JU A;rw[G];exact ah3 (R i Z h W).one
 have none:str=false->K 0 (λ_=>[])->(∃c,v= .slice Option.none 0 c)-> ∃m g z,K m g/\m<=dz/\Src E.P r F v m z w/\ ∀i j,i<m->j<r-> ∃av u,(g i)[j]? =some av/\z[i*r+j]? =some u/\a1 w (aT S ι st.k w) av u:=by
  rintro P l ⟨c,rfl⟩
  rw[P]at B;obtain⟨e,M⟩:=B;exact⟨0,_,[],l,cp _,Src.ofNil w M c,λi j h=>by omega⟩
 have U: ∀(g:Nat->List J),str=false->K 0 g->(∃a c,v= .slice a 0 c)-> ∃m g z,K m g/\m<=dz/\Src E.P r F v m z w/\ ∀i j,i<m->j<r-> ∃av u,(g i)[j]? =some av/\z[i*r+j]? =some u/\a1 w (aT S ι st.k w) av u:=by
  rintro g P l ⟨T,c,rfl⟩
  rw[P]at B;obtain⟨e,M⟩:=B;refine⟨0,g,[],l,cp _,?_,λi j h=>by omega⟩
  cases T with
  |none=>exact Src.ofNil w M c
  |some T=>exact Src.ofSlice w M T 0 c [] (by simp) (λj u o=>by simp at o) (λu hu=>by cases hu)
 cases y<;>simp only[nk]at A<;>try exact A.elim
 case aG=>
  obtain⟨d,l⟩:=aF.1 A;have Y:a1 w (aT S ι st.k w) .aG v:=Q
  cases Y
  exact none (by simpa using d) l ⟨0,rfl⟩
 case str s=>
  obtain⟨d,l⟩:=aF.1 A;simp only[b4,j7]at d;obtain⟨d,rfl⟩:=d;subst d;have B:E.P.underlying F=some .string:=B;have jh:=bz.YM Q;have D:=bz.str Q;subst D;refine⟨s.size,w_ s,byteCells s,l,jh,Src.ofString w B s,λi j h o=> ?_⟩;have auy:j=0:=by omega
  subst auy;have Ve:i<s.data.toList.length:=by simpa using h
  refine⟨_,.int .u8 ((s.data.toList.getD i 0).toNat:Int),rfl,?_,.int _ _⟩;simp only[byteCells,Nat.mul_one,mD,g_,cM Ve,sr,List.getD,lY]
 case arr t n f=>
  obtain⟨d,l⟩:=aF.1 A;simp only[b4,jn,j7]at d;obtain⟨d,rfl⟩:=d;have Y:a1 w (aT S ι st.k w) (.arr t n f) v:=Q
  cases Y with
  |nil=>exact U _ d l ⟨_,_,rfl⟩
  |mt=>exact U _ d l ⟨_,_,rfl⟩
  |arr _ _ _ b p c g u fP afb od H L N=>exact fin t n f b p c u g d rfl rfl afb l H (λi j h o=>by rw[<-qQ];exact L i j h o) N
 case own b k=>
  cases e:I st.k b 0<;>rw[e]at A<;>simp only at A
  rename_i ro t n f;obtain⟨d,rfl,l⟩:=aF.1 A;simp only[b4,jn,j7]at d;obtain⟨d,rfl⟩:=d;obtain⟨_,ow,kG,n',fW,G,_,R⟩:=(show eE S ι st.k w (.own b k) v from Q);rw[e]at G;cases G;rcases R rfl with⟨q,c,C,lx,X,D,m6,ku,la⟩|⟨rfl,_,D⟩
  .have O:=cx.k b 0;rw[e]at O;obtain⟨_,dQ|⟨jY,O|⟨Ia,kJ,anV,wh,wb,V⟩⟩⟩:=O
   .rw[X]at dQ;cases dQ.2.2
   .rw[X]at O;cases O.2
   .rw[X]at wh;cases wh;rw[ku]at wb;cases wb;refine fin t k f q 0 c (λi j=>(C[i*t+j]?).getD undef) (λi j=>((f i)[j]?).getD .undef) d rfl D jY l (λi j h o=> ?_) (λi j h o=> ?_) (λi j h o=> ?_)
    .obtain⟨av,u,H,L,N⟩:=V i j h o;rw[H];rfl
    .obtain⟨av,u,H,L,N⟩:=V i j h o;rw[uT w q _ C lx (0,0) ku,db,L];rfl
    .obtain⟨av,u,H,L,N⟩:=V i j h o;simp only[H,L,lY];exact N
  .exact U _ d l ⟨_,_,D⟩
def aap(h:aY S ι st a w){T L ty e:TypeId}{i:TypeInfo}{z:Value}(iU:E.P.underlying T=some (.slice e))(ji:E.P.info? e=some i)(hG:i.zero=some z)(GJ:i.bytes<=256)(Hb:z.cells.size=i.size)
  {b cx n m:Nat} {f g hh:Nat->List J} (we: ∀i,i<n+m->h2 n f g i=hh i) {v x:Value} {r:List Value} (N:I st.k b 0= .ad false i.size n f) (GU:cx=n) (dh:eE S ι st.k w (.own b cx) v) (jY:n+m<=dz) (k:Src E.P i.size L x m r w)
  (MH: ∀d j,d<m->j<i.size-> ∃av u,(g d)[j]? =some av/\r[d*i.size+j]? =some u/\a1 w (aT S ι st.k w) av u):
  ∃az w' u,(Builtin.append_ #[T,L] ty #[v,x]).run E.P w= .ok u w'/\(∀b',az b'≠none->ι b'≠none\/b'=b)/\aY S az ⟨st.D,bI st.k b 0 (.ad false i.size (n+m) hh)⟩ a w'/\
   eE S az (bI st.k b 0 (.ad false i.size (n+m) hh)) w' (.own b (n+m)) u:=by
 obtain⟨_,ow,kG,n',fW,Z,_,fe⟩:=dh;rw[N]at Z;cases Z;have oc:dz=549755813888:=rfl;have GK:(n+m)*i.bytes<=140737488355328:=dP (Nat.mul_le_mul (by omega:n+m<=549755813888) GJ) Δ;have W:=h.k b 0;rw[N]at W;have grow: ∀(base:Option Addr) (c:Nat) (B:List Value),(Builtin.firstCells i.size n (.slice base n c)).run E.P w.drew= .ok B.toArray w.drew->B.length=n*i.size->(∀d j,d<n->j<i.size-> ∃av u,(f d)[j]? =some av/\B[d*i.size+j]? =some u/\a1 w (aT S ι st.k w) av u)->
   c<n+m->v= .slice base n c->n<n+m-> ∃az w' u,(Builtin.append_ #[T,L] ty #[v,x]).run E.P w= .ok u w'/\(∀b',az b'≠none->ι b'≠none\/b'=b)/\aY S az ⟨st.D,bI st.k b 0 (.ad false i.size (n+m) hh)⟩ a w'/\
   eE S az (bI st.k b 0 (.ad false i.size (n+m) hh)) w' (.own b (n+m)) u:=by
  intro base c B hold MK Vm jF K gX;have H:=run_append_grow_src (P:=E.P) w T L ty e i z iU ji hG base n c B hold x m r k jF Ω (growslice_fits jF GK);have tP:=wV w (n+m) c e;generalize grownCap w (n+m) c e=O at H tP;have Cm:Below w.heap.size w (w.drew.alloc (.cells ((B++r).toArray++Builtin.zeroCells z.cells (O- (n+m))) e)):=(Below.drew (Below.refl _ w)).alloc (bN _) _;have U8: ∀d j,d<n+m->j<i.size-> ∃av u,(hh d)[j]? =some av/\((B++r).toArray++Builtin.zeroCells z.cells (O- (n+m)))[d*i.size+j]? =some u/\a1 (w.drew.alloc (.cells ((B++r).toArray++Builtin.zeroCells z.cells (O- (n+m))) e)) (aT S ι st.k w) av u:=λd j s l=>by
   have afB: ∀{av:J} {u:Value},a1 w (aT S ι st.k w) av u->a1 (w.drew.alloc (.cells ((B++r).toArray++Builtin.zeroCells z.cells (O- (n+m))) e)) (aT S ι st.k w) av u:=λX=>X.mono (λ_ h=>h) λy o A=>Cm.cell A.2.1;have hmul:(n+m)*i.size=n*i.size+m*i.size:=hI _ _ _
   by_cases tS:d<n
   .obtain⟨av,u,hn,gE,j1⟩:=Vm d j tS l;have Vi:d*i.size+j<n*i.size:=by
     have:(d+1)*i.size<=n*i.size:=hy _ tS;rw[iX]at this;omega
    refine⟨av,u,?_,?_,afB j1⟩
    .have:Nat.blt d n=true:=by simpa[iY]using tS
     rw[<-we d s];simp only[h2,this,aR];exact hn
    .rw[qJ (by simp [MK,k.newsLen];omega)];simp only[uP];rw[uO Ω];exact gE
   .obtain⟨av,u,hn,gE,j1⟩:=MH (d-n) j Ω l;have rY:(d-n)*i.size=d*i.size-n*i.size:=Dy _ _ _;have aur:n*i.size<=d*i.size:=hy _ Ω;have Vi:d*i.size+j<(n+m)*i.size:=by
     have:(d+1)*i.size<=(n+m)*i.size:=hy _ s;rw[iX]at this;omega
    refine⟨av,u,?_,?_,afB j1⟩
    .have:Nat.blt d n=false:=by
      cases e:Nat.blt d n with
      |false=>rfl
      |true=>exact absurd (g8 e) Ω
     rw[<-we d s];simp only[h2,this,aX];exact hn
    .rw[qJ (by simp [MK,k.newsLen];omega)];simp only[uP];rw[zW Ω,MK];rw[rY]at gE;rw[show d*i.size+j-n*i.size=d*i.size-n*i.size+j by omega];exact gE
  obtain⟨F,G⟩:=h.H_ Cm (b:=b) (x:=w.heap.size) (bN _) (by simp) (f:=hh) (n:=n+m) (V:=i.size) (c:=O) jY tP (ss w.drew _) (by
   simp only[wW,qM,dq,size_zeroCells,Hb,MK,k.newsLen,<-hI]
   congr 1;omega) (F':=aT S ι st.k w) (λy A=> .inl A) U8 (.inr ⟨n,f,N,gX⟩)
  subst K;exact⟨_,_,_,H,Dk _ _ _,F,G⟩
 rcases fe GU with⟨q,c,C,Y,jk,K,m6,Q,la⟩|⟨auM,MX,K⟩
 .obtain⟨_,dQ|⟨_,W|⟨Ia,kJ,anV,wh,wb,lN⟩⟩⟩:=W
  .rw[jk]at dQ;cases dQ.2.2
  .rw[jk]at W;cases W.2
  rw[jk]at wh;cases wh;rw[Q]at wb;cases wb
  by_cases X:n+m<=c
  .have hmul:(n+m)*i.size<=c*i.size:=hy _ X;have atK:(n+m)*i.size=n*i.size+m*i.size:=hI _ _ _;have H:=run_append_room_src (P:=E.P) w T L ty e i iU ji q 0 n c x m r k X (λj l=>by
    rw[uT w q _ C Y (0,0) Q,db];rw[k.newsLen]at l;rw[qK Ω];rfl) (λj l=>by
    rw[k.newsLen]at l;unfold World.frozen?;rw[Q];simp)
   rw[db]at H;obtain⟨F,G⟩:=h.aC8 (g:=g) we N jk Q la X jY r k.newsLen MH;subst K;exact⟨ι,_,_,H,λb' U=> .inl U,F,G⟩
  .refine grow _ c (sZ i.size n λd j=>(C[d*i.size+j]?).getD undef) ?_ (Ey _ _ _) (λd j s l=> ?_) Ω K Ω
   .refine IQ (P:=E.P) w.drew i.size n ⟨q,0,none⟩ n c _ (Ey _ _ _) λj u l=> ?_;obtain⟨d,VW,s,Vf,ki,Z⟩:=JU l;rw[Addr.add_lit,ki,Z];obtain⟨av,u,jc,jg,fG⟩:=lN d VW s Vf;rw[uT w.drew q _ C Y (0,0) Q,db,jg];rfl
   .obtain⟨av,u,jc,jg,fG⟩:=lN d j s l;exact⟨av,u,jc,by rw[JV s l,jg];rfl,fG⟩
 .subst auM
  by_cases hm:m=0
  .subst hm;have auP:r=[]:=OW (by rw[k.newsLen];simp);have H:(Builtin.append_ #[T,L] ty #[v,x]).run E.P w= .ok (.slice none 0 0) w:=by
    subst K;rcases k.kind with⟨M,p⟩|p<;>simp [Builtin.append_,fr iU,fr p,sizeOf,typeInfo,ji,k.len,k.cells]
   have R: ∀b' o,I (bI st.k b 0 (.ad false i.size (0+0) hh)) b' o=if b'=b/\o=0 then .ad false i.size 0 hh else I st.k b' o:=λb' o=>eZ _ _ _ _ _ _
   have MC:I (bI st.k b 0 (.ad false i.size (0+0) hh)) b 0= .ad false i.size 0 hh:=by rw[R,a5 ⟨rfl,rfl⟩]
   have VB:ey ι st.k w (aT S ι st.k w) ι (bI st.k b 0 (.ad false i.size (0+0) hh)) w (aT S ι (bI st.k b 0 (.ad false i.size (0+0) hh)) w):=by
    refine⟨λy ⟨F,G,fe⟩=>⟨F,G,λb' U he=> ?_⟩,λ_ _ _=>rfl,λb' z hG p=>⟨hG,?_⟩,λb' ro kG n' fW p=> ?_⟩
    .have e:b'≠b:=λe=>by rw[e,MX]at he;cases he
     exact fe b' (oy (λo=>by rw[R,aS (λM=>e M.1)]) U) he
    .have e:b'≠b:=λe=>by rw[e,N]at p;cases p
     rw[R,aS (λM=>e M.1)];exact p
    .by_cases e:b'=b
     .subst e;rw[N]at p;cases p;exact⟨false,_,0,_,MC,bN _,λ_=>⟨rfl,rfl,λy D Y A Cf=>by rw[MX]at A;cases A⟩⟩
     .exact⟨ro,_,n',fW,by rw[R,aS (λM=>e M.1)];exact p,bN _,λ_=>⟨rfl,rfl,λy D Y A Cf=>⟨D,Cf,rfl⟩⟩⟩
   refine⟨ι,w,_,H,λb' U=> .inl U,⟨h.below,h.defers,λt av iC=> ?_,λb' o=> ?_,h.inj,h.fresh,λb' y A=>gR (h.gT _ _ A) (mq _ _ _ _).1,h.gW.trans VB⟩,?_⟩
   .obtain⟨v,F,G⟩:=h.D t av iC;exact⟨v,F,G.step VB⟩
   .show e9 _ _ _ _ _ _ (I (bI st.k b 0 (.ad false i.size (0+0) hh)) b' o);rw[R]
    by_cases e:b'=b/\o=0
    .rw[a5 e];exact⟨e.2,.inr ⟨cp _,.inl ⟨rfl,by rw[e.1];exact MX⟩⟩⟩
    .rw[aS e];exact(h.k b' o).step VB (λ_=>rfl) (λ_ _ _=>⟨rfl,rfl⟩) (λ_=>⟨rfl,λ_ _=>rfl⟩)
   .exact⟨rfl,false,i.size,0,_,MC,bN _,λ_=> .inr ⟨rfl,MX,rfl⟩⟩
  .exact grow none 0 [] (run_firstCells_none w.drew i.size 0 0 0) (by simp) (λd j s=>by omega) Ω K Ω
def aog(h:aY S ι st a w){T A ty e:TypeId}{i:TypeInfo}{z:Value}(iU:E.P.underlying T=some (.slice e))(ji:E.P.info? e=some i)(hG:i.zero=some z)(GJ:i.bytes<=256)(Hb:z.cells.size=i.size)
  {aC n m:Nat} {f g hh:Nat->List J} (R: ∀i,i<n+m->h2 n f g i=hh i) {v x:Value} {s:List Value} (ld: ∀o,I st.k aC o= .undef) (qm:ι aC=none) (dh:a1 w (aT S ι st.k w) (.ke i.size n f) v) (hm:0<m) (jY:n+m<=dz) (D:Src E.P i.size A x m s w)
  (MH: ∀d j,d<m->j<i.size-> ∃av u,(g d)[j]? =some av/\s[d*i.size+j]? =some u/\a1 w (aT S ι st.k w) av u):
  ∃az w' u,(Builtin.append_ #[T,A] ty #[v,x]).run E.P w= .ok u w'/\(∀b',az b'≠none->ι b'≠none\/b'=aC)/\aY S az ⟨st.D,bI st.k aC 0 (.ad false i.size (n+m) hh)⟩ a w'/\
   eE S az (bI st.k aC 0 (.ad false i.size (n+m) hh)) w' (.own aC (n+m)) u:=by
 have oc:dz=549755813888:=rfl;have GK:(n+m)*i.bytes<=140737488355328:=dP (Nat.mul_le_mul (by omega:n+m<=549755813888) GJ) Δ;have G: ∀(base:Option Addr) (c:Nat) (r:List Value),(Builtin.firstCells i.size n (.slice base n c)).run E.P w.drew= .ok r.toArray w.drew->r.length=n*i.size->(∀d j,d<n->j<i.size-> ∃av u,(f d)[j]? =some av/\r[d*i.size+j]? =some u/\a1 w (aT S ι st.k w) av u)->
   c<n+m->v= .slice base n c-> ∃az w' u,(Builtin.append_ #[T,A] ty #[v,x]).run E.P w= .ok u w'/\(∀b',az b'≠none->ι b'≠none\/b'=aC)/\aY S az ⟨st.D,bI st.k aC 0 (.ad false i.size (n+m) hh)⟩ a w'/\
   eE S az (bI st.k aC 0 (.ad false i.size (n+m) hh)) w' (.own aC (n+m)) u:=by
  intro base c r hold C Vm B avm;have W:=run_append_grow_src (P:=E.P) w T A ty e i z iU ji hG base n c r hold x m s D B Ω (growslice_fits B GK);have Q:=wV w (n+m) c e;generalize grownCap w (n+m) c e=t at W Q;have O:Below w.heap.size w (w.drew.alloc (.cells ((r++s).toArray++Builtin.zeroCells z.cells (t- (n+m))) e)):=(Below.drew (Below.refl _ w)).alloc (bN _) _;have U8: ∀d j,d<n+m->j<i.size-> ∃av u,(hh d)[j]? =some av/\((r++s).toArray++Builtin.zeroCells z.cells (t- (n+m)))[d*i.size+j]? =some u/\a1 (w.drew.alloc (.cells ((r++s).toArray++Builtin.zeroCells z.cells (t- (n+m))) e)) (aT S ι st.k w) av u:=λd j k l=>by
   have U: ∀{av:J} {u:Value},a1 w (aT S ι st.k w) av u->a1 (w.drew.alloc (.cells ((r++s).toArray++Builtin.zeroCells z.cells (t- (n+m))) e)) (aT S ι st.k w) av u:=λgD=>gD.mono (λ_ h=>h) λy o K=>O.cell K.2.1;have hmul:(n+m)*i.size=n*i.size+m*i.size:=hI _ _ _
   by_cases H:d<n
   .obtain⟨av,u,L,F,M⟩:=Vm d j H l;have Vi:d*i.size+j<n*i.size:=by
     have:(d+1)*i.size<=n*i.size:=hy _ H;rw[iX]at this;omega
    refine⟨av,u,?_,?_,U M⟩
    .have:Nat.blt d n=true:=by simpa[iY]using H
     rw[<-R d k];simp only[h2,this,aR];exact L
    .rw[qJ (by simp [C,D.newsLen];omega)];simp only[uP];rw[uO Ω];exact F
   .obtain⟨av,u,L,F,M⟩:=MH (d-n) j Ω l;have rY:(d-n)*i.size=d*i.size-n*i.size:=Dy _ _ _;have aur:n*i.size<=d*i.size:=hy _ Ω;have Vi:d*i.size+j<(n+m)*i.size:=by
     have:(d+1)*i.size<=(n+m)*i.size:=hy _ k;rw[iX]at this;omega
    refine⟨av,u,?_,?_,U M⟩
    .have:Nat.blt d n=false:=by
      cases e:Nat.blt d n with
      |false=>rfl
      |true=>exact absurd (g8 e) Ω
     rw[<-R d k];simp only[h2,this,aX];exact L
    .rw[qJ (by simp [C,D.newsLen];omega)];simp only[uP];rw[zW Ω,C];rw[rY]at F;rw[show d*i.size+j-n*i.size=d*i.size-n*i.size+j by omega];exact F
  obtain⟨e5,hl⟩:=h.H_ O (b:=aC) (x:=w.heap.size) (bN _) (by simp) (f:=hh) (n:=n+m) (V:=i.size) (c:=t) jY Q (ss w.drew _) (by
   simp only[wW,qM,dq,size_zeroCells,Hb,C,D.newsLen,<-hI]
   congr 1;omega) (F':=aT S ι st.k w) (λy K=> .inl K) U8 (.inl ⟨ld,qm⟩)
  subst avm;exact⟨_,_,_,W,Dk _ _ _,e5,hl⟩
 cases dh with
 |ke _ _ _ p c fq B=>
  subst B
  cases fq with
  |nil=>exact G none 0 [] (run_firstCells_none w.drew i.size 0 0 0) (by simp) (λd j k=>by omega) Ω rfl
  |mt _ _ N c=>exact G (some N) 0 [] (IQ (P:=E.P) w.drew i.size 0 N 0 0 [] (by simp) λj u l=>by simp at l) (by simp) (λd j k=>by omega) Ω rfl
  |arr _ _ _ q o _ aFG cI fP jh od Z jg fG=>
   refine G (some ⟨q,o,none⟩) _ (sZ i.size _ cI) ?_ (Ey _ _ _) (λd j k l=>⟨_,_,Z d j k l,JV k l,fG d j k l⟩) Ω rfl;refine IQ (P:=E.P) w.drew i.size _ ⟨q,o,none⟩ _ _ _ (Ey _ _ _) λj u l=> ?_;obtain⟨d,VW,k,Vf,X,Y⟩:=JU l;rw[Addr.add_lit,X,Y,<-qQ];exact jg d VW k Vf
def aoh{o:Oper}{c:Go.Call}{x y:Operand}{T D:TypeId}{t:bS}{str:Bool}(eA:o.op= .call c)(jF:c.callee= .builtin .append)(Cg:c.args= #[x,y])(ave:c.argTypes= #[T,D])(iU:gS E.P T t)
  (UW:if str then E.P.underlying D=some .string else∃e,E.P.underlying D=some (.slice e)) (h:aY S ι st a w) {aC:Nat} (ld: ∀o,I st.k aC o= .undef) (qm:ι aC=none) {eI:J->b5->Prop}
  (r:oI t str st.k aC (aE st.D x) (aE st.D y) eI) {next:Act->World->Prop} {Q:Exit->Act->World->Prop}
  (U: ∀az av H cx w',eI av H->aY S az ⟨st.D,bJ st.k H⟩ a w'->bz S az (bJ st.k H) w' av cx->(∀b,az b≠none->ι b≠none\/ ∃p c,(b,p,c)∈H)->next (a.put o.dst cx) w'):o.wp E.P a w next Q:=by
 have F:=h.eval x;have tU:=h.eval y;have dQ:=iU.d;unfold oI at r
 cases oO:t.d<;>rw[oO]at r<;>simp only at r<;>try exact r.elim
 rename_i e l8 mP;rw[oO]at dQ;obtain⟨X,i,P,oh,wg,Cp⟩:=dQ;subst oh;subst wg;obtain⟨afe,r⟩:=aF.1 r;simp only[b4,iY]at afe;have N:i.bytes<=256:=g8 afe.1;obtain⟨fu,G⟩:=Option.isSome_iff_exists.1 Cp.1;have Y:fu.cells.size=i.size:=Cp.2 fu G;have V: ∀u w',(Builtin.append_ #[T,D] o.type #[a.eval x,a.eval y]).run E.P w= .ok u w'->(execOp a.eval o).run E.P w= .ok (.value u) w':=λu w' dh=>by
  simp [execOp,eA,resolve,jF,Cg,ave,invoke,builtin,dh]
 obtain⟨m,g,news,r,hm,W,R⟩:=aDJ h UW tU r
 cases ex:aE st.D x<;>rw[ex]at r F<;>simp only at r<;>try exact r.elim
 .have y0:a1 w (aT S ι st.k w) .aG (a.eval x):=F;have avt:a.eval x= .slice none 0 0:=by
   generalize a.eval x=cx at y0
   cases y0;rfl
  obtain⟨e5,hl,fe⟩:=h.NS ld qm i.size (λ_=>[]);have atX:I (bI st.k aC 0 (.ad false i.size 0 λ_=>[])) aC 0= .ad false i.size 0 (λ_=>[]):=by rw[eZ,a5 ⟨rfl,rfl⟩]
  obtain⟨az,w',u,A,C,v,s⟩:=aap (g:=g) (hh:=h2 0 (λ_=>[]) g) (ty:=o.type) e5 X P G N Y (λ_ _=>rfl) atX rfl (fe _) (by simpa using r.1) (x:=a.eval y) W (λafX j Ve fX=>by
   obtain⟨av,u,hn,gE,j1⟩:=R afX j Ve fX;exact⟨av,u,hn,gE,j1.mono hl.h5 hl.cell⟩)
  rw[<-avt]at A;have GO:h2 0 (λ_=>[]) g=g:=by
   funext j
   have K:Nat.blt j 0=false:=by cases j<;>rfl
   simp only[h2,K,aX,Nat.sub_zero]
  have Mp:bI (bI st.k aC 0 (.ad false i.size 0 λ_=>[])) aC 0 (.ad false i.size (0+m) (h2 0 (λ_=>[]) g))=bI st.k aC 0 (.ad false i.size m g):=by
   rw[GO,db];simp only[bI];have: ∀{α:Type} (d:α) (l:List α) (k:Nat) (p q:α),setAt d (setAt d l k p) k q=setAt d l k q:=λ{α} d l k p q=>by
    induction l generalizing k with
    |nil=>induction k with
     |zero=>rfl
     |succ k Z=>simp [setAt,Z]
    |cons y l Z=>cases k with
     |zero=>rfl
     |succ k=>simp [setAt,Z]
   have K:(setAt [] st.k aC (setAt .undef (st.k.getD aC []) 0 (.ad false i.size 0 λ_=>[]))).getD aC []=setAt .undef (st.k.getD aC []) 0 (.ad false i.size 0 λ_=>[]):=by rw[qh,a5 rfl]
   rw[K,this,this]
  simp only at v s;rw[Mp]at v s;rw[db]at s;exact dx (V _ _ A) (U az _ _ u w' r.2 v s λb B=>(C b B).imp id λe=>⟨0,.ad false i.size m g,by subst e;simp⟩)
 .rename_i b k
  cases e:I st.k b 0<;>rw[e]at r<;>simp only at r
  rename_i ro h1 n f;obtain⟨z,GU,M,hh,O,L⟩:=aF.1 r;simp only[b4,jn,j7]at z;obtain⟨rfl,rfl⟩:=z;obtain⟨az,w',u,A,C,v,s⟩:=aap (g:=g) (hh:=hh) (ty:=o.type) h X P G N Y O e GU F M (x:=a.eval y) W R;exact dx (V _ _ A) (U az _ _ u w' L v s λb' B=>(C b' B).imp id λe=>⟨0,.ad false i.size (n+m) hh,by subst e;simp⟩)
 .rename_i h1 n f;obtain⟨z,auK,M,hh,O,L⟩:=aF.1 r;have z:=an z;subst z;obtain⟨az,w',u,A,C,v,s⟩:=aog (g:=g) (hh:=hh) (ty:=o.type) h X P G N Y O ld qm F auK M (x:=a.eval y) W R;exact dx (V _ _ A) (U az _ _ u w' L v s λb' B=>(C b' B).imp id λe=>⟨0,.ad false i.size (n+m) hh,by subst e;simp⟩)
end
def aiO(ρ:Nat->Nat):J->J
 | .ptr b o=> .ptr (ρ b) o
 |x=>x
def fH(ρ:Nat->Nat):J->J
 | .own b k=> .own (ρ b) k
 | .ptr b o=> .ptr (ρ b) o
 | .fN b k i o=> .fN (ρ b) k i o
 | .fn f a=> .fn f (a.map (aiO ρ))
 |x=>x
def lj(ρ:Nat->Nat):J->J
 | .agg cs=> .agg (cs.map (fH ρ))
 |x=>fH ρ x
def q8(D:Nat->Bool):J->Bool
 | .ptr b _=>D b
 |x=>ny x
def nC(D:Nat->Bool):J->Bool
 | .own b _=>D b
 | .ptr b _=>D b
 | .fN b _ _ _=>D b
 | .fn _ a=>a.all (q8 D)
 |_=>true
def xo(D:Nat->Bool):J->Bool
 | .agg cs=>cs.all (nC D)
 | .dp _=>false
 | .gone=>false
 |x=>nC D x
def pos:List Nat->Nat->Nat
 |[],_=>0
 |x::l,b=>match Nat.beq x b with
  |true=>0
  |false=>pos l b+1
def mem(l:List Nat)(b:Nat):Bool:=l.any λx=>Nat.beq x b
def dedup:List Nat->List Nat
 |[]=>[]
 |x::l=>match mem l x with
  |true=>dedup l
  |false=>x::dedup l
def XX:J->List Nat
 | .ptr b _=>[b]
 |_=>[]
def ait:J->List Nat
 | .ptr b _=>[b]
 | .fn _ a=>a.flatMap XX
 |_=>[]
def aiu:J->List Nat
 | .agg cs=>cs.flatMap ait
 |x=>ait x
def N8:J->List Nat
 | .own b _=>[b]
 |_=>[]
def aaD(aa:List J):List Nat:=dedup (aa.flatMap aiu)
def D_(H:Heap)(aa:List J):List Nat:=dedup (aaD aa++(aaD aa).flatMap λb=>(H.getD b []).flatMap XX)
def aBA:J->List Nat
 | .agg cs=>cs.flatMap N8
 |x=>N8 x
def ec(H:Heap)(aa:List J):List Nat:=D_ H aa++dedup (((D_ H aa).flatMap λb=>(H.getD b []).flatMap N8)++aa.flatMap aBA)
def nodup:List Nat->Bool
 |[]=>true
 |x::l=> !(mem l x)&&nodup l
def zf(l:List J):Bool:=
 match l with
 |[]=>false
 |x::r=>match x with
  | .ad a _ _ _=> !a&&r.isEmpty
  |x=>(x::r).all (λc=> !(cr c))&&(x::r).any pt
def qD:List Nat->Heap->Heap->Bool
 |[],_,a=>a.all λy=> !(y.isEmpty)
 |b::l,H,a=>match a with
  |[]=>false
  |y::a=>Nat.beq (H.getD b []).length y.length&&qD l H a
def sM(a:Nat->Nat):Nat->Heap->b5
 |_,[]=>[]
 |i,l::r=>h3 (a i) (l.map (fH a)) 0++sM a (i+1) r
def dB:J:= .ad true 0 (dz+1) λ_=>[]
def uG(L:List Nat)(aC i:Nat):Nat:=L.getD i (aC+(i-L.length))
def OL:List J->J
 |[x]=>x
 |a=> .dp a
def qt(n:Nat)(b:Nat):Bool:=Nat.blt b n
def afa(aa:List J):Bool:= !((aa.flatMap aiu).isEmpty)
def og(E:Env)(H:Heap)(aC:Nat)(f:FuncId)(aa:List J)(K:J->b5->Prop):Prop:=
 de (nodup (ec H aa)&&(ec H aa).all (λb=>zf (H.getD b [])&&(H.getD b []).all (nC (mem (ec H aa))))&&aa.all (xo (mem (ec H aa))))
  (match E.oi f (aa.map (lj (pos (ec H aa)))) ((ec H aa).map λb=>(H.getD b []).map (fH (pos (ec H aa))))with
  |some (a,rs,H')=>ou a (de (!(H'.isEmpty)&&qD (ec H aa) H H'&&H'.all (λl=>l.all (nC (qt H'.length)))&&rs.all (λr=>xo (qt H'.length) r&&oA r))
    (K (OL (rs.map (lj (uG (ec H aa) aC)))) (sM (uG (ec H aa) aC) 0 H')))
  |none=>False)
end Go.af
namespace Go.af
open Go Go.ChangeShapes Go.RowKit Go.WideShapes
def awg{P:Program}{f:FuncId}{a:Func}{s:ChangeSpec}{c:OpenClaim}
  (b:c.wf (OpenSpec.ofChange s)=true) (p:laidOutB P=true) (C:mapsRowed P=true)
  (G:a.params.all (P.readableRec ·)=true) (H:namedTie P c.named s.vars=true)
  (I:(c.stops==[])=true) (J:(P.stops==[])=true) (K:(c.knobs==[])=true) (L:(P.stopKnobs==[])=true)
  (d:(c.inPlace==P.inPlace f)=true) (e:(c.unfollowed==P.unfollowed f)=true) (g:(c.recurses==P.recurses f)=true) (h:(c.named==P.varsNamed f)=true)
  (i:(c.maps==(a.params.toList++s.plain.varTypes P).any (P.mapsRec ·))=true) (j:(c.ifaces==(a.params.toList++s.plain.varTypes P).any (P.ifacesRec ·))=true) (l:(c.mapsOut==P.mapsAmong a.resultTypes.toList)=true)
  (m:(c.loops==(a.params.toList++s.plain.varTypes P).any (P.loopsFrom ·))=true) (n:(c.wideKeys==(a.params.toList++s.plain.varTypes P++a.resultTypes.toList).any (P.wideKeysFrom ·))=true)
  (o:s.vars.all (P.varReadable ·)=true) (q:a.resultTypes.all (λt=>P.readableRec t&&decide (t<P.types.size))=true) (r:(c.ifacesOut==a.resultTypes.toList.any (P.ifacesRec ·))=true) (u:(c.loopsOut==a.resultTypes.toList.any (P.loopsFrom ·))=true)
  (v:(c.plainKeys==P.plainKeys)=true) (w:c.shortTexts.isNone=true) (x:P.stopsHeard=true) (y:P.mayEnter=true) (z:(c.lifted==P.liftsFinal)=true) (A:(P.make==some c.make)=true)
  (B:(c.kinds==(if c.domain.isEmpty then[]else a.params.toList.map λt=>match P.underlying t with|some (.int k)=>some k|_=>none))=true) (D:(c.pinned==c.pinnedBy)=true)
  (E:(c.veiled==(a.params.toList++s.plain.varTypes P++a.resultTypes.toList).any (P.veiledRec ·))=true) (F:c.veiledFits P a.params.toList (a.params.toList++s.plain.varTypes P++a.resultTypes.toList)=true):
  joinedFacts P f a s c=true:=by
 unfold joinedFacts;simp only[b4];exact⟨⟨⟨⟨⟨⟨⟨⟨⟨⟨⟨⟨⟨⟨⟨⟨⟨⟨⟨⟨⟨⟨⟨⟨⟨⟨⟨⟨⟨⟨⟨b,p⟩,C⟩,G⟩,H⟩,I⟩,J⟩,K⟩,L⟩,d⟩,e⟩,g⟩,h⟩,i⟩,j⟩,l⟩,m⟩,n⟩,o⟩,q⟩,r⟩,u⟩,v⟩,w⟩,x⟩,y⟩,z⟩,A⟩,B⟩,D⟩,E⟩,F⟩
end Go.af
namespace Go.af
open Go Go.RowKit
section
variable {P:Program}
def Ow(w:World)(e u x f:TypeId)(i:TypeInfo)(b o c g:Nat)(a:Addr)(d t:Nat)(cs:List Value)
  (s:P.underlying e=some (.slice f)) (m:P.info? f=some i) (p:cs.length=Nat.min d c*i.size)
  (q: ∀j v,cs[j]? =some v->w.cell? (a.add j)=some v) (k: ∀j,j<cs.length->(w.cell? ⟨b,o+j,none⟩).isSome=true) (l: ∀j,j<cs.length->w.frozen? ⟨b,o+j,none⟩=false) (h: ∀v∈cs,v.oneCell'=true):
  (Builtin.copy_ #[e,u] x #[.slice (some ⟨b,o,none⟩) c g,.slice (some a) d t]).run P w= .ok (goInt (Nat.min d c)) (w.setCells b o cs):=by
 have n:=OZ (P:=P) w a cs q;have r:=run_storeCells_cells (P:=P) b o cs 0 w (by simpa using k) (by simpa using l) h;simp [Builtin.copy_,fr s,Builtin.lenOf,Builtin.firstCells,sizeOf,typeInfo,m,<-p,n,r]
def ai5(w:World)(t e p:TypeId)(z:Value)(i:P.underlying t=some (.slice e))(k: ∀w,(zeroValue e).run P w= .ok z w)(b o n c:Nat)(q:0<n)(a:List Value)(l:(Builtin.zeroCells z.cells n).toList=a)(f: ∀v∈a,v.oneCell'=true)
  (g: ∀j,j<a.length->(w.cell? ⟨b,o+j,none⟩).isSome=true) (h: ∀j,j<a.length->w.frozen? ⟨b,o+j,none⟩=false):
  (Builtin.clear_ #[t] p #[.slice (some ⟨b,o,none⟩) n c]).run P w= .ok (.tuple #[]) (w.setCells b o a):=by
 have d:=run_storeCells_cells (P:=P) b o a 0 w (by simpa using g) (by simpa using h) f;simp only[mD]at d;obtain⟨m,rfl⟩: ∃m,n=m+1:=⟨n-1,Ω⟩;simp [Builtin.clear_,fr i,k,l,d]
end
end Go.af
namespace Go.af
open Go Go.Lib Go.Proofs Go.RowKit Go.Shelf
section
variable {P:Program} {ρ:Ren}
structure qV (P:Program) (ρ:Ren) (k bytes:Nat) (z:Value):Prop where
 mixed:P.follows .mixedOrders=true
 F:Bears P (ρ.f 22) (Body2.n22 ρ)
 t3:P.underlying (ρ.t 3)=some (TypeDesc.int i64)
 t24:P.underlying (ρ.t 24)=some (TypeDesc.slice (ρ.t 9))
 z9: ∀w,(Go.sizeOf (ρ.t 9)).run P w= .ok k w
 i9:(P.info? (ρ.t 9)).map (λi=>(i.zero,i.size,i.bytes))=some (some z,k,bytes)
 aBx: ∀(w:World) (dT b o m aEz j ao2:Nat) (aD0 aD1:TypeId) (agS K:Nat),dT≠b->w.shape? dT=some (aD0,agS)->w.shape? b=some (aD1,K)->K≠0->w.frozen? ⟨dT,0,none⟩=false->w.frozen? ⟨dT,agS,none⟩=false->
  (callFunc (ρ.f 29) #[.slice (some ⟨dT,0,none⟩) m aEz,.slice (some ⟨b,o,none⟩) j ao2]).run P w= .ok (.value (.bool false)) w
set_option maxHeartbeats 4000000 in
set_option maxRecDepth 100000 in
def avN{k bytes:Nat}{cx:Value}(L:qV P ρ k bytes cx)(b n c i dT o:Nat)(cs g:List Value)(w:World)(ji:i<n)(G1:n+1<=c)(Cs:n<=549755813888)(E:dT≠b)
  (O:cs.length=n*k) (yY:g.length=k)
  (R: ∀j v,cs[j]? =some v->w.cell? ⟨b,j,none⟩=some v) (r: ∀j,j<(n+1)*k->(w.cell? ⟨b,j,none⟩).isSome=true) (B: ∀j,w.frozen? ⟨b,j,none⟩=false)
  (ql: ∀j v,g[j]? =some v->w.cell? ⟨dT,j,none⟩=some v) (J: ∀v∈cs,v.oneCell'=true) (M: ∀v∈g,v.oneCell'=true)
  (H I:TypeId) (G K:Nat) (U:w.shape? dT=some (H,G)) (V:w.shape? b=some (I,K)) (S:K≠0) (A: ∀j,w.frozen? ⟨dT,j,none⟩=false):
  Calls P (ρ.f 22) #[.slice (some ⟨b,0,none⟩) n c,.int .i64 i,.slice (some ⟨dT,0,none⟩) 1 o] w λe w'=>
   e= .returned (.slice (some ⟨b,0,none⟩) (n+1) c)/\w'=(w.drew.setCells b (i*k+k) (cs.drop (i*k))).setCells b (i*k) g:=by
 have aEq:=fr L.t3;have aEp:=fr L.t24;have mixed:=L.mixed;have t3:=L.t3;have t24:=L.t24;have z9:=L.z9;have avv: ¬((i:Int)=(n:Int)):=by omega
 obtain⟨F,C,fq,D,_⟩:=info_parts L.i9;have T: ∀s p,(callFunc (ρ.f 29) #[.slice (some ⟨dT,0,none⟩) 1 o,.slice (some ⟨b,i*k+k,none⟩) s p]).run P w= .ok (.value (.bool false)) w:=λs p=>L.aBx w dT b _ 1 o s p H I G K E U V S (A _) (A _);have q:(cs.drop (i*k)).length=(n-i)*k:=by rw[pB,O,Dy]
 have avo:i64 ((i:Int)+1)=(i:Int)+1:=by rw[IntKind.wrap_i64];omega
 have avp:i64 ((n:Int)+1)=(n:Int)+1:=by rw[IntKind.wrap_i64];omega
 have atQ:(0:Int)<=(i:Int)+1:=by omega
 have tS:i<=n:=by omega
 have avd:((i:Int)+1).toNat=i+1:=by omega
 have VD:((n:Int)+1).toNat=n+1:=by omega
 have Cl: ¬(c=i+1):=by omega
 have atT:(i:Int)<=(n:Int)+1:=by omega
 have aGa: ¬(c=i):=by omega
 have aGb: ¬((c:Int)<(n:Int)+1):=by omega
 have hmul:(i+1)*k+(n-i)*k=(n+1)*k:=by rw[<-hI];congr 1;omega
 have auw:(i+1)*k=i*k+k:=iX _ _;have afE:(n+1)*k=n*k+k:=iX _ _;have z: ∀f d u,(Builtin.copy_ #[(ρ.t 24),(ρ.t 24)] f #[.slice (some ⟨b,i*k+k,none⟩) (n-i) d,.slice (some ⟨b,i*k,none⟩) (n+1-i) u]).run P w.drew= .ok (goInt (Nat.min (n+1-i) (n-i))) (w.drew.setCells b (i*k+k) (cs.drop (i*k))):=λf d u=>
  Ow w.drew _ _ f (ρ.t 9) F b (i*k+k) (n-i) d ⟨b,i*k,none⟩ (n+1-i) u (cs.drop (i*k)) L.t24 C (by rw[q,D,show Nat.min (n+1-i) (n-i)=n-i by simp only[Nat.min_def];split<;>omega])
   (λj v a=>by rw[Addr.add_lit];exact R (i*k+j) v (by rwa [pv]at a))
   (λj a=>r _ (by rw[q]at a;omega)) (λj a=>B _) (λv Z=>J v (qS Z))
 obtain⟨l,m⟩: ∃l,l=w.drew.setCells b (i*k+k) (cs.drop (i*k)):=⟨_,rfl⟩;have X: ∀t,t<(n+1)*k->(l.cell? ⟨b,t,none⟩).isSome=true:=λt Y=>by
  rw[m];exact isSome_setCells b (cs.drop (i*k)) (i*k+k) w.drew (λj a=>r _ (by rw[q]at a;omega)) _ (r t Y)
 have Q: ∀(W:World),(∀x,W.cell? x=l.cell? x)->(∀x,W.frozen? x=l.frozen? x)-> ∀f d,(Builtin.copy_ #[(ρ.t 24),(ρ.t 24)] f #[.slice (some ⟨b,i*k,none⟩) (n+1-i) d,.slice (some ⟨dT,0,none⟩) 1 o]).run P W= .ok (goInt (Nat.min 1 (n+1-i))) (W.setCells b (i*k) g):=λW y N f d=>
  Ow W _ _ f (ρ.t 9) F b (i*k) (n+1-i) d ⟨dT,0,none⟩ 1 o g L.t24 C (by rw[yY,D,show Nat.min 1 (n+1-i)=1 by simp only[Nat.min_def];split<;>omega,Nat.one_mul])
   (λj v a=>by
    rw[Addr.add_lit,db,y,m,World.cell?_setCells_out b _ _ _ _ (λh _=>absurd h E)];exact ql j v a)
   (λj a=>by rw[y];exact X _ (by
    have:(i+1)*k<=(n+1)*k:=hy k Ω;omega)) (λj a=>by rw[N,m,World.frozen?_setCells];exact B _) M
 rw[<-m]at z;obtain⟨_,_,oE⟩:=L.F
 go_enter oE,Body2.n22_ntmps ρ
 go_wp2_with (simp only[T])
 go_region_law_o (refine step_copy_runI rfl _ _ (ρ.t 24) (ρ.t 24) rfl _ _ (by simp [Act.eval,Act.put]) (by simp [Act.eval,Act.put]) (z _ _ _) ?_)
 go_wp2_with (at_builtin;refine wpList_copy_runI _ rfl _ _ (ρ.t 24) (ρ.t 24) rfl _ _ rfl rfl (Q _ (λ_=>rfl) (λ_=>rfl) _ _) ?_)
 go_ret
 first|exact⟨rfl,rfl⟩|exact⟨rfl,by rw[m]⟩
set_option maxHeartbeats 4000000 in
set_option maxRecDepth 100000 in
def avL{k bytes:Nat}{z:Value}(L:qV P ρ k bytes z)(b n c dT d:Nat)(a:List Value)(w:World)(q:n+1<=c)(t:a.length=k)
  (r: ∀j,j<(n+1)*k->(w.cell? ⟨b,j,none⟩).isSome=true) (o: ∀j,w.frozen? ⟨b,j,none⟩=false) (x: ∀j v,a[j]? =some v->w.cell? ⟨dT,j,none⟩=some v) (m: ∀v∈a,v.oneCell'=true):
  Calls P (ρ.f 22) #[.slice (some ⟨b,0,none⟩) n c,.int .i64 n,.slice (some ⟨dT,0,none⟩) 1 d] w λe w'=>
   e= .returned (.slice (some ⟨b,0,none⟩) (n+1) c)/\w'=w.setCells b (n*k) a:=by
 have E:=fr L.t3;have D:=fr L.t24;have mixed:=L.mixed;have C:=L.t3;have B:=L.t24;have F:=L.z9;obtain⟨h,p,y,g,_⟩:=info_parts L.i9;have s:Src P h.size (ρ.t 24) (.slice (some ⟨dT,0,none⟩) 1 d) 1 a w:=Src.ofSlice w L.t24 ⟨dT,0,none⟩ 1 d a (by rw[t,g,Nat.one_mul]) (λj u f=>by rw[Addr.add_lit,db];exact x j u f) m;have A:(n+1)*k=n*k+k:=iX _ _;have l: ∀i,(Builtin.append_ #[ρ.t 24,ρ.t 24] i #[.slice (some ⟨b,0,none⟩) n c,.slice (some ⟨dT,0,none⟩) 1 d]).run P w= .ok (.slice (some ⟨b,0,none⟩) (n+1) c) (w.setCells b (0+n*h.size) a):=λi=>
  run_append_room_src w (ρ.t 24) (ρ.t 24) i (ρ.t 9) h L.t24 p b 0 n c _ 1 a s q (λj f=>by rw[g,db];exact r _ Ω) (λj f=>o _)
 rw[g,db]at l;obtain⟨_,_,oE⟩:=L.F
 go_enter oE,Body2.n22_ntmps ρ
 go_wp2_with (at_builtin;refine Lib.wpList_append_run _ rfl _ _ _ _ rfl _ _ rfl rfl _ _ (l _) ?_)
 go_ret
 exact⟨rfl,rfl⟩
set_option maxHeartbeats 4000000 in
set_option maxRecDepth 100000 in
def af1{k bytes:Nat}{z:Value}(L:qV P ρ k bytes z)(base:Option Addr)(n c dT f:Nat)(cs b:List Value)(w:World)(K:n<=c)(s:c<n+1)(y:(n+1)*bytes<=140737488355328)(J:n<=549755813888)
  (g:cs.length=n*k) (E:b.length=k) (r:base=none->n=0)
  (A: ∀a,base=some a-> ∀j v,cs[j]? =some v->w.cell? (a.add j)=some v) (F: ∀j v,b[j]? =some v->w.cell? ⟨dT,j,none⟩=some v) (t: ∀v∈b,v.oneCell'=true):
  Calls P (ρ.f 22) #[.slice base n c,.int .i64 n,.slice (some ⟨dT,0,none⟩) 1 f] w λe w'=>
   e= .returned (.slice (some ⟨w.heap.size,0,none⟩) (n+1) (grownCap w (n+1) c (ρ.t 9)))/\
   w'=w.drew.alloc (.cells ((cs++b).toArray++Builtin.zeroCells z.cells (grownCap w (n+1) c (ρ.t 9)- (n+1))) (ρ.t 9)):=by
 have Q:=fr L.t3;have O:=fr L.t24;have mixed:=L.mixed;have N:=L.t3;have M:=L.t24;have R:=L.z9;obtain⟨l,B,d,q,x⟩:=info_parts L.i9;have D:Src P l.size (ρ.t 24) (.slice (some ⟨dT,0,none⟩) 1 f) 1 b w:=Src.ofSlice w L.t24 ⟨dT,0,none⟩ 1 f b (by rw[E,q,Nat.one_mul]) (λj u h=>by rw[Addr.add_lit,db];exact F j u h) t;have C:(Builtin.firstCells l.size n (.slice base n c)).run P w.drew= .ok cs.toArray w.drew:=by
  rw[q]
  cases base with
  |none=>
   have d:=r rfl;subst d;rw[Nat.zero_mul]at g;rw[IP.1 g];exact run_firstCells_none w.drew k 0 0 c
  |some a=>exact IQ w.drew k n a n c cs g (λj v h=>A a rfl j v h)
 have i: ∀m,(Builtin.append_ #[(ρ.t 24),(ρ.t 24)] m #[.slice base n c,.slice (some ⟨dT,0,none⟩) 1 f]).run P w=_:=λm=>
  run_append_grow_src w (ρ.t 24) (ρ.t 24) m (ρ.t 9) l _ L.t24 B d base n c cs C _ 1 b D s Ω (by rw[x];exact growslice_fits s y)
 obtain⟨o,p⟩: ∃o:Array Value,o=(cs++b).toArray++Builtin.zeroCells z.cells (grownCap w (n+1) c (ρ.t 9)- (n+1)):=⟨_,rfl⟩;rw[<-p]at i |-;clear p;obtain⟨_,_,oE⟩:=L.F
 go_enter oE,Body2.n22_ntmps ρ
 cases base with
 |none=>
  have d:=r rfl;subst d
  go_wp2_with (at_builtin;refine Lib.wpList_append_run _ rfl _ _ _ _ rfl _ _ rfl rfl _ _ (i _) ?_)
  go_ret
  exact⟨rfl,rfl⟩
 |some a=>
  obtain⟨G,H,I⟩:=a
  go_wp2_with (at_builtin;refine Lib.wpList_append_run _ rfl _ _ _ _ rfl _ _ rfl rfl _ _ (i _) ?_)
  all_goals (go_ret;exact⟨rfl,rfl⟩)
set_option maxHeartbeats 4000000 in
set_option maxRecDepth 100000 in
def avM{k bytes:Nat}{z:Value}(L:qV P ρ k bytes z)(MG:0<k)(y2: ∀m,(Builtin.zeroCells z.cells m).size=m*k)(b n c i dT I:Nat)(cs f:List Value)(w:World)(ji:i<n)(m6:n<=c)(G1:c<n+1)(jY:(n+1)*bytes<=140737488355328)(Cs:n<=549755813888)
  (K:cs.length=n*k) (yY:f.length=k) (C: ∀j v,cs[j]? =some v->w.cell? ⟨b,j,none⟩=some v)
  (R: ∀j v,f[j]? =some v->w.cell? ⟨dT,j,none⟩=some v) (T: ∀v∈cs,v.oneCell'=true) (U: ∀v∈f,v.oneCell'=true):
  Calls P (ρ.f 22) #[.slice (some ⟨b,0,none⟩) n c,.int .i64 i,.slice (some ⟨dT,0,none⟩) 1 I] w λe w'=>
   e= .returned (.slice (some ⟨w.heap.size,0,none⟩) (n+1) (grownCap w (n+1) c (ρ.t 9)))/\
   w'=(((w.alloc (.cells ((cs.take (i*k)).toArray++Builtin.zeroCells z.cells (n+1-i)++Builtin.zeroCells z.cells (grownCap w (n+1) c (ρ.t 9)- (n+1))) (ρ.t 9))).drew.setCells w.heap.size (i*k) f).drew).setCells w.heap.size (i*k+k) (cs.drop (i*k)):=by
 have aEq:=fr L.t3;have aEp:=fr L.t24;have mixed:=L.mixed;have t3:=L.t3;have t24:=L.t24;have z9:=L.z9;obtain⟨u,D,y1,F,S⟩:=info_parts L.i9;have avv: ¬((i:Int)=(n:Int)):=by omega
 have aGI:(c:Int)<(n:Int)+1:=by omega
 have afE:(n+1)*k=n*k+k:=iX _ _;have aGj:i*k+(n-i)*k=n*k:=by rw[<-hI];congr 1;omega
 have MM:0<(n-i)*k:=Nat.mul_pos Ω MG;have atY:b<w.heap.size:=block_lt_of_cell (C 0 _ (cM Ω));have avn:dT<w.heap.size:=block_lt_of_cell (R 0 _ (cM Ω));have O:(n:Int)+1- (i:Int)=((n+1-i:Nat):Int):=by omega
 have E:i+(n+1-i)=n+1:=by omega
 have Q:(Builtin.firstCells u.size i (.slice (some ⟨b,0,none⟩) i c)).run P w.drew= .ok (cs.take (i*k)).toArray w.drew:=by
  rw[F];exact IQ w.drew k i ⟨b,0,none⟩ i c (cs.take (i*k)) (by rw[iJ];omega) (λj v d=>by
   rw[Addr.add_lit,db];rw[IK]at d
   split at d
   .exact C j v d
   .cases d)
 have s: ∀g,(Builtin.append_ #[(ρ.t 24),(ρ.t 3)] g #[.slice (some ⟨b,0,none⟩) i c,.int .i64 ((n:Int)+1- (i:Int))]).run P w=
   .ok (.slice (some ⟨w.heap.size,0,none⟩) (n+1) (grownCap w (n+1) c (ρ.t 9))) (w.drew.alloc (.cells ((cs.take (i*k)).toArray++Builtin.zeroCells z.cells (n+1-i)++Builtin.zeroCells z.cells (grownCap w (n+1) c (ρ.t 9)- (n+1))) (ρ.t 9))):=λg=>by
  have hle:(n+1-i)*bytes<=(n+1)*bytes:=hy _ Ω;have h:=Lib.run_append_grow_zeros w (ρ.t 24) (ρ.t 3) g (ρ.t 9) u _ .i64 .i64 L.t24 L.t3 D y1 (some ⟨b,0,none⟩) i c (cs.take (i*k)) Q (n+1-i) Ω Ω Ω Ω (by rw[S];omega) (by rw[S,E];exact growslice_fits G1 jY);rw[E]at h;rw[O];exact h
 obtain⟨G,r⟩: ∃G,G=grownCap w (n+1) c (ρ.t 9):=⟨_,rfl⟩;obtain⟨a,A⟩: ∃a:Array Value,a=(cs.take (i*k)).toArray++Builtin.zeroCells z.cells (n+1-i)++Builtin.zeroCells z.cells (G- (n+1)):=⟨_,rfl⟩;rw[<-r]at s |-;rw[<-A]at s |-;have atG:(n+1)*k<=a.size:=by
  rw[A];simp only[wW,qM,iJ,y2,K];have:(n+1-i)*k=(n-i)*k+k:=by rw[show n+1-i=n-i+1 by omega];exact iX _ _
  omega
 obtain⟨l,p⟩: ∃l,l=w.drew.alloc (.cells a (ρ.t 9)):=⟨_,rfl⟩;rw[<-p]at s;have y: ∀j,j<(n+1)*k->(l.cell? ⟨w.heap.size,j,none⟩).isSome=true:=λj d=>by
  rw[p,World.cell?_alloc_at (w:=w.drew) a _ w.heap.size j rfl,qK Ω];rfl
 have J: ∀j,l.frozen? ⟨w.heap.size,j,none⟩=false:=λj=>by rw[p];exact World.frozen?_alloc_at (w:=w.drew) a _ w.heap.size j rfl
 have atB: ∀j v,w.cell? ⟨b,j,none⟩=some v->l.cell? ⟨b,j,none⟩=some v:=λj v h=>by rw[p,World.cell?_alloc_past (w:=w.drew) _ b j atY];exact h
 have atC: ∀j v,w.cell? ⟨dT,j,none⟩=some v->l.cell? ⟨dT,j,none⟩=some v:=λj v h=>by rw[p,World.cell?_alloc_past (w:=w.drew) _ dT j avn];exact h
 have auc: ∀(W:World),(∀x,W.cell? x=l.cell? x)->(∀x,W.frozen? x=l.frozen? x)-> ∀g o,(Builtin.copy_ #[(ρ.t 24),(ρ.t 24)] g #[.slice (some ⟨w.heap.size,i*k,none⟩) (n+1-i) o,.slice (some ⟨dT,0,none⟩) 1 I]).run P W= .ok (goInt (Nat.min 1 (n+1-i))) (W.setCells w.heap.size (i*k) f):=λW q B g o=>
  Ow W _ _ g (ρ.t 9) u w.heap.size (i*k) (n+1-i) o ⟨dT,0,none⟩ 1 I f L.t24 D (by rw[yY,F,show Nat.min 1 (n+1-i)=1 by simp only[Nat.min_def];split<;>omega,Nat.one_mul])
   (λj v d=>by rw[Addr.add_lit,q,db];exact atC _ v (R j v d))
   (λj d=>by rw[q];exact y _ Ω) (λj d=>by rw[B];exact J _) U
 have aF2:n+1<=G:=by rw[r];exact wV w _ _ _
 have aFY:G<=9223372036854775807:=by
  have:=grownCap_le_maxLen w (n+1) c (ρ.t 9) (by unfold maxLen;omega);rw[<-r]at this;unfold maxLen at this;omega
 have aFZ: ¬(G=i):=by omega
 have aF0: ¬(G=i+1):=by omega
 have aGd: ¬(c=i):=by omega
 have atU:b≠w.heap.size:=by omega
 have N:(cs.drop (i*k)).length=(n-i)*k:=by rw[pB,K];omega
 have M: ∀(W:World),(∀x,W.cell? x=(l.setCells w.heap.size (i*k) f).cell? x)->(∀x,W.frozen? x=(l.setCells w.heap.size (i*k) f).frozen? x)-> ∀g o H,(Builtin.copy_ #[(ρ.t 24),(ρ.t 24)] g #[.slice (some ⟨w.heap.size,i*k+k,none⟩) (n-i) o,.slice (some ⟨b,i*k,none⟩) (n-i) H]).run P W= .ok (goInt (Nat.min (n-i) (n-i))) (W.setCells w.heap.size (i*k+k) (cs.drop (i*k))):=λW q B g o H=>
  Ow W _ _ g (ρ.t 9) u w.heap.size (i*k+k) (n-i) o ⟨b,i*k,none⟩ (n-i) H (cs.drop (i*k)) L.t24 D (by rw[N,F,show Nat.min (n-i) (n-i)=n-i by simp])
   (λj v d=>by
    rw[Addr.add_lit,q,World.cell?_setCells_out _ _ _ _ _ (λh _=>absurd h atU)];exact atB _ v (C (i*k+j) v (by rwa [pv]at d)))
   (λj d=>by rw[q];exact isSome_setCells _ _ _ _ (λt iC=>y _ Ω) _ (y _ (by rw[N]at d;omega)))
   (λj d=>by rw[B,World.frozen?_setCells];exact J _) (λv dh=>T v (qS dh))
 subst p;have V: ∀x,((w.alloc (.cells a (ρ.t 9))).drew).cell? x=(w.drew.alloc (.cells a (ρ.t 9))).cell? x:=λx=>rfl;have X: ∀x,((w.alloc (.cells a (ρ.t 9))).drew).frozen? x=(w.drew.alloc (.cells a (ρ.t 9))).frozen? x:=λx=>rfl;have Y: ∀x,(((w.alloc (.cells a (ρ.t 9))).drew.setCells w.heap.size (i*k) f).drew).cell? x=((w.drew.alloc (.cells a (ρ.t 9))).setCells w.heap.size (i*k) f).cell? x:=λx=>rfl;have Z: ∀x,(((w.alloc (.cells a (ρ.t 9))).drew.setCells w.heap.size (i*k) f).drew).frozen? x=((w.drew.alloc (.cells a (ρ.t 9))).setCells w.heap.size (i*k) f).frozen? x:=λx=>rfl;have avo:i64 ((i:Int)+1)=(i:Int)+1:=by rw[IntKind.wrap_i64];omega
 have avp:i64 ((n:Int)+1)=(n:Int)+1:=by rw[IntKind.wrap_i64];omega
 have aGF:i64 ((n:Int)+1- (i:Int))=(n:Int)+1- (i:Int):=by rw[IntKind.wrap_i64];omega
 have atQ:(0:Int)<=(i:Int)+1:=by omega
 have tS:i<=n:=by omega
 have avd:((i:Int)+1).toNat=i+1:=by omega
 have atT:(i:Int)<=(n:Int):=by omega
 clear O E Q A r atG;obtain⟨_,_,oE⟩:=L.F
 go_enter oE,Body2.n22_ntmps ρ
 go_wp2_with (first
  |(at_builtin;refine Lib.wpList_append_run _ rfl _ _ _ _ rfl _ _ rfl rfl _ _ (s _) ?_)
  |(at_builtin;refine wpList_copy_runI _ rfl _ _ (ρ.t 24) (ρ.t 24) rfl _ _ rfl rfl (auc _ V X _ _) ?_)
  |(at_builtin;refine wpList_copy_runI _ rfl _ _ (ρ.t 24) (ρ.t 24) rfl _ _ rfl rfl (M _ (λ_=>rfl) (λ_=>rfl) _ _ _) ?_))
 go_region_law_o (refine step_copy_runI rfl _ _ (ρ.t 24) (ρ.t 24) rfl (.slice (some ⟨w.heap.size,i*k+k,none⟩) (n-i) (G- (i+1))) (.slice (some ⟨b,i*k,none⟩) (n-i) (c-i)) (by simp [Act.eval,Act.put,hI]) (by simp [Act.eval,Act.put]) (M _ Y Z (ρ.t 3) (G- (i+1)) (c-i)) ?_)
 go_wp2
 go_ret
 exact⟨rfl,rfl⟩
end
end Go.af
namespace Go.af
open Go Go.Lib Go.Proofs Go.RowKit Go.Shelf Go.Sort
section
variable {P:Program} {ρ:Ren}
set_option maxHeartbeats 4000000 in
set_option maxRecDepth 1000000 in
def apK(k:Nat)(mixed:P.follows .mixedOrders=true)(F:Bears P (ρ.f 45) (SlBodyN.n45 ρ))
  (K:P.underlying (ρ.t 22)=some (TypeDesc.slice (ρ.t 23)))
  (aHc: ∀w,(Go.sizeOf (ρ.t 23)).run P w= .ok k w) (z:Value) (V: ∀w,(zeroValue (ρ.t 23)).run P w= .ok z w) (s:TypeInfo) (M:P.info? (ρ.t 23)=some s) (R:s.size=k)
  (a b n i j:Nat) (w:World) (news f:List Value) (H:(Builtin.zeroCells z.cells (j-i)).toList=f) (J:f.length=(j-i)*k) (I: ∀v∈f,v.oneCell'=true)
  (g:news.length=(n-j)*k) (y: ∀v∈news,v.oneCell'=true) (E: ∀t u,news[t]? =some u->w.cell? ⟨a,j*k+t,none⟩=some u)
  (m: ∀t,t<n*k->(w.cell? ⟨a,t,none⟩).isSome=true) (D: ∀t,w.frozen? ⟨a,t,none⟩=false)
  (X:n<=b) (tR:i<j) (fX:j<=n):
  Calls P (ρ.f 45) #[.slice (some ⟨a,0,none⟩) n b,.int .i64 i,.int .i64 j] w λe w'=>e= .returned (.slice (some ⟨a,0,none⟩) (n- (j-i)) b)/\w'=(w.drew.setCells a (i*k) news).setCells a ((i+(n-j))*k) f:=by
 obtain⟨A,W,Q⟩: ∃A:Addr,(if b=j then some (⟨a,0,none⟩:Addr)else some ⟨a,j*k,none⟩)=some A/\Hid (∀t u,news[t]? =some u->w.drew.cell? (A.add t)=some u):=by
  by_cases h:b=j
  .refine⟨⟨a,0,none⟩,by simp [h],λt u o=> ?_⟩;have L:news.length=0:=by rw[g,show n-j=0 by omega,Nat.zero_mul]
   rw[IP.1 L]at o;simp at o
  .refine⟨⟨a,j*k,none⟩,by simp [h],λt u o=> ?_⟩;rw[Addr.add_lit];exact E t u o
 have afE:(n-j)*k<=n*k:=hy k Ω;have auw:i*k+(n-j)*k+(j-i)*k=n*k:=by rw[<-hI,<-hI];congr 1;omega
 have S:Hid (news.length=(n-j)*k):=g;have T:Hid (∀u∈news,u.oneCell'=true):=y;have U:Hid (∀t,t<news.length->(w.drew.cell? ⟨a,0+i*k+t,none⟩).isSome=true/\w.drew.frozen? ⟨a,0+i*k+t,none⟩=false):=by
  intro t r;rw[g]at r;rw[db];exact⟨m _ Ω,D _⟩
 obtain⟨d,l⟩: ∃d,d=w.drew.setCells a (0+i*k) news:=⟨_,rfl⟩;have G: ∀t,t<n*k->(d.cell? ⟨a,t,none⟩).isSome=true:=λt r=>by
  rw[l,db]
  by_cases N:i*k<=t/\t<i*k+news.length
  .have:=World.cell?_setCells_in a news (i*k) w.drew (λq p=>m _ (by rw[g]at p;omega)) (t-i*k) Ω;rw[show i*k+(t-i*k)=t by omega]at this;rw[this];rfl
  .rw[World.cell?_setCells_out a news (i*k) w.drew ⟨a,t,none⟩ (λ_ _=>by show t<i*k\/i*k+news.length<=t;omega)];exact m t r
 have C: ∀t,d.frozen? ⟨a,t,none⟩=false:=λt=>by rw[l,World.frozen?_setCells];exact D t
 have O:0<n- (i+(n-j)):=by omega
 have Y: ∀x c,(Builtin.clear_ #[ρ.t 22] x #[.slice (some ⟨a,(i+(n-j))*k,none⟩) (n- (i+(n-j))) c]).run P d= .ok (.tuple #[]) (d.setCells a ((i+(n-j))*k) f):=λx c=>
  ai5 d _ _ x _ K V a _ _ _ O f (by rw[show n- (i+(n-j))=j-i by omega];exact H) I (λq p=>G _ (by rw[J]at p;rw[hI];omega)) (λq _=>C _)
 have B:Hid (d=w.drew.setCells a (0+i*k) news):=l;have Z:i<=b:=by omega
 have aGn:j<=b:=by omega
 have N:i<=n:=by omega
 have jG: ¬((i:Int)=(j:Int)):=by omega
 clear l E g H J I y G C m;obtain⟨_,_,oE⟩:=F
 go_enter oE,SlBodyN.n45_ntmps ρ
 go_wp2_with fail
 go_region_law_o (refine step_append_room rfl (.tmp 22) (.tmp 25) (ρ.t 22) rfl (ρ.t 23) s k K M R a 0 i b (by simp [Act.eval,Act.put]) A (n-j) (b-j) news (by simp [Act.eval,Act.put]) S.out Q.out T.out Ω U.out ?_;rw[<-B.out])
 go_wp2
 go_ret
 refine⟨by rw[show n- (j-i)=i+(n-j) by omega];rfl,?_⟩;rw[B.out,db]
end
end Go.af
