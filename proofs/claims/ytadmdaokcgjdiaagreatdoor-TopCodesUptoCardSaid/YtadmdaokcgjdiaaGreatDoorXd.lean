import Derived.Test.YtadmdaokcgjdiaaGreatDoorXb
open Go.IntKind (i64 u64 u8)
open Int (toNat)
set_option maxRecDepth 100000
set_option maxHeartbeats 4000000
set_option linter.all false
noncomputable section
namespace Go.af
open Go Go.RowKit
section
variable {E:Env} {S:eb} {ι:Nat->Option Nat} {st:O} {a:Act} {w:World}
def ail(h:aY S ι st a w){e:Nat} : ∀(d:List (Nat×Operand)) (k:Nat) (l:List (List J)),lh e st.D d k=some l->
  l.length=d.length/\(d.map λp=>(p.1,a.eval p.2))=((d.map λp=>a.eval p.2).zipIdx k).map (λx=>(x.2,x.1))/\(∀v∈d.map (λp=>a.eval p.2),v.cells.size=e)/\
  a6 (λcs v=>a6 (eE S ι st.k w) cs v.cells.toList) l (d.map λp=>a.eval p.2)
 |[],k,l,b=>by
  simp only[lh,g9]at b;subst b;exact⟨rfl,rfl,λv c=>by simp at c,trivial⟩
 |(i,x)::r,k,l,b=>by
  simp only[lh]at b
  split at b
  .rename_i j;simp only[b4]at j;obtain⟨f,⟨u,g⟩,A⟩:=j;have f:i=k:=eg f;subst f;have g:(cellsOf (eT (aE st.D x))).length=e:=eg g
   split at b
   .rename_i z t;simp only[g9]at b;subst b;obtain⟨n,o,q,s⟩:=ail h r (i+1) z t;have m:=eF.cells (CQ (h.eval x)) u;have y:(a.eval x).cells.size=e:=by rw[<-g,m.length];simp
    refine⟨by simp [n],by simp [List.zipIdx_cons,o],λv c=> ?_,m,s⟩;simp only[IL,iI]at c;rcases c with rfl|c
    .exact y
    .exact q v c
   .cases b
  .cases b
def acm{H:Heap}(h:aY S ι st a w): ∀(e:List (List J)) (us:List Value) (K:List (List J)->Prop),(∀b∈e.flatten.flatMap pn,∀p k n f,I H b 0= .ad p k n f->I st.k b 0= .ad true k n f)->a6 (λcs (v:Value)=>a6 (eE S ι st.k w) cs v.cells.toList) e us->nF H e K-> ∃g,K g/\a6 (λcs (v:Value)=>a6 (a1 w (aT S ι st.k w)) cs v.cells.toList) g us
 |[],[],K,_,_,c=>⟨[],c,trivial⟩
 |l::e,u::us,K,j,d,c=>by
  simp only[nF]at c;obtain⟨y,c,m⟩:=R8 h l _ _ (λb i=>j b (by simp only[zX,zY,gj];exact .inl i)) d.1 c;obtain⟨g,c,o⟩:=acm h e us _ (λb i=>j b (by simp only[zX,zY,gj];exact .inr i)) d.2 c;exact⟨y::g,c,m,o⟩
 |[],_::_,_,_,d,_=>d.elim
 |_::_,[],_,_,d,_=>d.elim
def aBz{c:J}{b:Nat}(h:b∈pn c):b∈r8 c:=by
 cases c<;>simp only[pn,r8]at h |- <;>first|exact h|(cases h;done)
def aoz{o:Oper}{T:TypeId}{t:bS}{len:Nat}{k:Array (Nat×Operand)}(eA:o.op= .buildSlice T len k)(iU:gS E.P T t)(h:aY S ι st a w){aC:Nat}(Z: ∀o,I st.k aC o= .undef)(qm:ι aC=none){K:J->b5->Prop}
  (m:q5 t st.D st.k aC len k.toList K) {next:Act->World->Prop} {Q:Exit->Act->World->Prop}
  (rX: ∀az av ws v w',K av ws->aY S az ⟨st.D,bJ st.k ws⟩ a w'->bz S az (bJ st.k ws) w' av v->(∀b,az b≠none->ι b≠none\/ ∃p c,(b,p,c)∈ws)->next (a.put o.dst v) w'):o.wp E.P a w next Q:=by
 have V:=iU.d;unfold q5 at m
 cases O:t.d<;>rw[O]at m<;>simp only at m<;>try exact m.elim
 rename_i e l8 mP;rw[O]at V;obtain⟨hu,i,X,oh,wg,Cp,afs⟩:=V;subst oh;obtain⟨N,hG⟩:=Option.isSome_iff_exists.1 Cp
 cases G:lh i.size st.D k.toList 0 with
 |none=>rw[G]at m;exact m.elim
 |some l=>
  rw[G]at m;obtain⟨s,m⟩:=aF.1 m;simp only[b4,iY]at s;obtain⟨⟨⟨Y,F⟩,D⟩,MM⟩:=s;have Y:l.length=len:=eg Y;have F:len<=4096:=g8 F;have D:i.size<=4096:=g8 D;obtain⟨jc,jg,R,lL⟩:=ail h _ _ _ G;have L:(k.toList.map λp=>a.eval p.2).length=len:=by rw[List.length_map];omega
  obtain⟨W,G4⟩:=h.freeze (H':=bJ st.k (eO st.k l.flatten)) (wL _) (rZ _ _);obtain⟨M,⟨hh,we,qj⟩,r⟩:=acm (H:=st.k) W l _ _ (λb jh ro cx n f he=>Im (by
   obtain⟨c,atZ,B⟩:=lX.1 jh;exact lX.2 ⟨c,atZ,aBz B⟩) he) (lL.imp λ_ _ q=>q.imp λ_ _ dh=>dh.step G4) m
  have GY: ∀o,I (bJ st.k (eO st.k l.flatten)) aC o= .undef:=λo=>by
   rcases wL (H:=st.k) l.flatten aC o with g|⟨_,ro,cx,n,f,g,_⟩
   .rw[g];exact Z o
   .rw[Z 0]at g;cases g
  have P: ∀C:Array Value,(Instr.buildSlice T len (k.map λ(i,x)=>(i,a.eval x))).run E.P w= .ok (.slice (some ⟨w.heap.size,0,none⟩) len len) (w.alloc (.cells C e))->C.size=len*i.size->
    (∀d j,d<len->j<i.size->C[d*i.size+j]? =((k.toList.map λp=>a.eval p.2)[d]?).bind λv=>v.cells[j]?)->o.wp E.P a w next Q:=λC pd la ku=>by
   have U:Below w.heap.size w (w.alloc (.cells C e)):=(Below.refl _ w).alloc (bN _) _;have gD:q0 w.heap.size (w.alloc (.cells C e)) (aT S ι (bJ st.k (eO st.k l.flatten)) w) (.ad false i.size len hh) (.slice (some ⟨w.heap.size,0,none⟩) len len):=by
    refine .inr ⟨w.heap.size,len,C,e,bN _,by simp,rfl,bN _,by have oc:dz=549755813888:=rfl;omega,ss w _,la,λd j u A=> ?_⟩;have aGH:M.length=len:=by rw[r.length];exact L
    obtain⟨row,afO⟩: ∃row,M[d]? =some row:=⟨_,cM (show d<M.length by omega)⟩;obtain⟨v,hn,gE⟩:=r.get d row afO;have ql:v.cells.size=i.size:=R v (ft hn);have hlen:row.length=i.size:=by rw[gE.length];simpa using ql
    obtain⟨c,s⟩: ∃c,row[j]? =some c:=⟨_,cM (show j<row.length by omega)⟩;obtain⟨eI,j1,Ho⟩:=gE.get j c s;have afG:=we d u;rw[List.getD,afO]at afG;obtain⟨z,B,auN⟩:=N0 j c afG s;refine⟨z,eI,B,?_,WV auN (Ho.mono (λy r=>⟨r,λe=> ?_⟩) λy o r=>U.cell r.2.1)⟩
    .rw[ku d j u A,hn];simpa using j1
    .subst e;exact absurd r.2.1 (Nat.lt_irrefl _)
   obtain⟨az,av,OR,q1,fQ,zA,X5⟩:=Yg (st:=st) (ws:=eO st.k l.flatten) W U gD (λy r=> .inl r) GY qm qj;refine dx (v:= .slice (some ⟨w.heap.size,0,none⟩) len len) (w':=w.alloc (.cells C e)) ?_ (rX _ _ _ _ _ q1 fQ zA X5);simp only[execOp,eA];rw[Sem.run_bind,pd];rfl
  have auZ:(k.map λ(i,x)=>(i,a.eval x)).toList=((k.toList.map λp=>a.eval p.2).zipIdx 0).map (λx=>(x.2,x.1)):=by rw[<-jg];simp
  by_cases fq:len=0
  .subst fq;refine P #[] ?_ (by simp) (λd j u=>by omega);have au0:k.toList=[]:=by
    have:k.toList.length=0:=by omega
    exact OW this
   have Vo:k= #[]:=py (by simpa using au0);have au2:(Array.range 0)= #[]:=rfl;simp [au2,Instr.buildSlice,fr hu,sizeOf,typeInfo,X,Vo,Instr.fill,newRow]
  .obtain⟨C,Ih,X9,aCz⟩:=Great.fill_dense MM (k.toList.map λp=>a.eval p.2) 0 ((Array.range (len*i.size)).map (N.cells[· %N.cells.size]!)) R (by rw[L];simp);have hmul:len*i.size<=16777216:=Nat.mul_le_mul F D;refine P C (run_buildSlice w T e len _ C i N hu X hG Ω (λh=>by rcases Nat.mul_eq_zero.1 h with h|h<;>omega) (by rw[auZ];exact Ih)) (by rw[X9];simp) (λd j u A=> ?_);have gX:d*i.size+j<len*i.size:=by
    have:(d+1)*i.size<=len*i.size:=hy _ u;rw[iX]at this;omega
   have ki:(d*i.size+j)/i.size=d:=by
    rw[uS,Nat.mul_add_div Ω,O0 A];omega
   have hC:(d*i.size+j)%i.size=j:=by
    rw[uS,Nat.mul_add_mod,O1 A]
   rw[aCz,L,a5 ⟨by simp,by rw[db];exact gX⟩,ki,hC,Nat.sub_zero]
def aou(h:aY S ι st a w){x:Operand}{k:IntKind}{z:Int}(b:aE st.D x= .int k z):a.eval x= .int k z:=by
 have:=h.eval x;rw[b]at this;exact bz.int this
def lR(m:Option Operand)(c:Nat)(a:Int):Nat:=
 match m with
 |none=>c
 |some _=>a.toNat
def Re(h:aY S ι st a w)(C:Bool)(o n:Nat)(l hh m:Option Operand){K:Int->Int->Int->Prop}(b:cV st.D 0 l λj=>cV st.D o hh λf=>cV st.D f m λg=>(0<=j/\j<=f/\f<=g/\g<=o)/\K j f g)(H:o<=n)(B:hh=none->m=none):
  ∃j f g:Int,(0<=j/\j<=f/\f<=g/\g<=o)/\K j f g/\(m=none->g=f)/\(Instr.sliceBounds C o n (l.map a.eval) (hh.map a.eval) (m.map a.eval)).run E.P w= .ok (j.toNat,f.toNat,lR m n g) w:=by
 have q: ∀{x:Operand} {s:Int->Prop} (d:Int),cV st.D d (some x) s-> ∃k z,a.eval x= .int k z/\s z:=λ{x s} d b=>by
  simp only[cV]at b
  cases e:aE st.D x<;>rw[e]at b<;>simp only at b<;>try exact b.elim
  exact⟨_,_,aou h e,b⟩
 cases l with
 |none=>
  simp only[cV]at b
  cases hh with
  |none=>
   have:=B rfl;subst this;simp only[cV]at b;refine⟨_,_,_,b.1,b.2,λ_=>rfl,?_⟩;simp [lR,Instr.sliceBounds]
  |some D=>
   obtain⟨r,c,p,b⟩:=q 0 b
   cases m with
   |none=>
    simp only[cV]at b;refine⟨_,_,_,b.1,b.2,λ_=>rfl,?_⟩;simp [lR,Instr.sliceBounds,p,run_sliceBound w r c n _ Ω Ω]
   |some F=>
    obtain⟨v,i,u,b⟩:=q 0 b;refine⟨_,_,_,b.1,b.2,λh=>(by cases h),?_⟩;have A:(i.toNat:Int)=i:=OY Ω;simp [lR,Instr.sliceBounds,p,u,run_sliceBound w v i n _ Ω Ω,run_sliceBound w r c i.toNat _ Ω Ω]
 |some I=>
  obtain⟨au,y,t,b⟩:=q 0 b
  cases hh with
  |none=>
   have:=B rfl;subst this;simp only[cV]at b;refine⟨_,_,_,b.1,b.2,λ_=>rfl,?_⟩;simp [lR,Instr.sliceBounds,t,run_sliceBound w au y o _ Ω Ω]
  |some D=>
   obtain⟨r,c,p,b⟩:=q 0 b
   cases m with
   |none=>
    simp only[cV]at b;refine⟨_,_,_,b.1,b.2,λ_=>rfl,?_⟩;have A:(c.toNat:Int)=c:=OY Ω;simp [lR,Instr.sliceBounds,t,p,run_sliceBound w r c n _ Ω Ω,run_sliceBound w au y c.toNat _ Ω Ω]
   |some F=>
    obtain⟨v,i,u,b⟩:=q 0 b;refine⟨_,_,_,b.1,b.2,λh=>(by cases h),?_⟩;have A:(i.toNat:Int)=i:=OY Ω;have G:(c.toNat:Int)=c:=OY Ω;simp [lR,Instr.sliceBounds,t,p,u,run_sliceBound w v i n _ Ω Ω,run_sliceBound w r c i.toNat _ Ω Ω,run_sliceBound w au y c.toNat _ Ω Ω]
end
section
variable {E:Env} {S:eb} {ι:Nat->Option Nat} {st:O} {a:Act} {w:World}
def a1.part{F:Nat->Prop}{k n c m l hh p:Nat}{f:Nat->List J}{a:Option Addr}(A:k=p)(h:a1 w F (.arr k n f) (.slice a n c))(C:l<=hh)(D:hh<=n)(E:hh<=m)(z:n=0->a=none->m=0):
  a1 w F (.arr k (hh-l) λi=>f (l+i)) (.slice (if m=l then a else a.map (·.add (l*p))) (hh-l) (m-l)):=by
 subst A
 by_cases u:hh-l=0
 .rw[u]
  cases a with
  |none=>
   cases h with
   |nil=>
    have y:=z rfl rfl;have x:l=0:=by omega
    subst y;subst x;exact .nil _ _
  |some a=>
   by_cases e:m=l
   .rw[a5 e];exact .mt _ _ _ _
   .rw[aS e];exact .mt _ _ _ _
 .have e:m≠l:=by omega
  rw[aS e]
  cases h with
  |nil=>omega
  |mt=>omega
  |arr _ _ _ b o c g B H G v r s t=>
   simp only[sr,Addr.add_lit];refine .arr k (hh-l) _ b (o+l*k) (m-l) (λi=>g (l+i)) (λi=>B (l+i)) Ω Ω (λ_=>v Ω) (λi j q d=>r _ _ Ω d) (λi j q d=> ?_) (λi j q d=>t _ _ Ω d);have:=s (l+i) j Ω d;rw[<-this,hI]
   congr 2;omega
def aDE{o:Oper}{T:TypeId}{t:bS}{x:Operand}{l hh m:Option Operand}(eA:o.op= .slice T x l hh m)(iU:gS E.P T t)(h:aY S ι st a w){K:J->b5->Prop}(q:si t st.k st.D (aE st.D x) l hh m K){next:Act->World->Prop}{Q:Exit->Act->World->Prop}
  (P: ∀av D v,K av D->aY S ι ⟨st.D,bJ st.k D⟩ a w->bz S ι (bJ st.k D) w av v->next (a.put o.dst v) w):o.wp E.P a w next Q:=by
 have H:=h.eval x;have B:=iU.d;unfold si at q;obtain⟨M,q⟩:=aF.1 q;have M:hh=none->m=none:=λe=>by
  subst e
  cases m with
  |none=>rfl
  |some _=>simp at M
 cases oO:t.d<;>rw[oO]at q B<;>simp only at q<;>try exact q.elim
 .
  cases O:aE st.D x<;>rw[O]at q H<;>simp only at q<;>try exact q.elim
  rename_i s
  cases m with
  |some _=>exact q.elim
  |none=>
   have auA:cV st.D 0 l λj=>cV st.D s.size hh λg=>cV st.D g none λk=>(0<=j/\j<=g/\g<=k/\k<=s.size)/\K (.str (s.extract j.toNat g.toNat)) []:=by
    have mono: ∀{d:Int} {o:Option Operand} {y K2:Int->Prop},(∀z,y z->K2 z)->cV st.D d o y->cV st.D d o K2:=λ{d o y K2} u p=>by
     cases o with
     |none=>exact u _ p
     |some x=>
      simp only[cV]at p |-
      cases e:aE st.D x<;>rw[e]at p<;>simp only at p |- <;>first|exact p.elim|exact u _ p
    refine mono (λj p=>mono (λg F=> ?_) p) q;simp only[cV];exact⟨⟨F.1.1,F.1.2.1,aZ _,F.1.2.2⟩,F.2⟩
   obtain⟨j,g,k,p,u,_,C⟩:=Re (E:=E) h false s.size s.size l hh none (K:=λj g k=>K (.str (s.extract j.toNat g.toNat)) []) auA (bN _) (λ_=>rfl);have G:=bz.str H;have jY:=bz.YM H;refine dx (v:= .string (s.extract j.toNat g.toNat)) (w':=w) ?_ (P _ _ _ u h (bz.mkStr _ (by rw[ByteArray.size_extract];omega)));simp only[Option.map_none]at C;simp [execOp,eA,G,Instr.sliceAt,fr B,Instr.slice];rw[C];rfl
 .rename_i e X mP;obtain⟨hu,i,Co,oh,_⟩:=B;have Y: ∀(A:Option Addr) (n c:Nat) (j g k:Int),a.eval x= .slice A n c->(Instr.sliceBounds true n c (l.map a.eval) (hh.map a.eval) (m.map a.eval)).run E.P w= .ok (j.toNat,g.toNat,(lR m c k)) w->
    (execOp a.eval o).run E.P w= .ok (.value (.slice (if(lR m c k)=j.toNat then A else A.map (·.add (j.toNat*X))) (g.toNat-j.toNat) ((lR m c k)-j.toNat))) w:=λA n c j g k G C=>by
   generalize lR m c k=pk at C |-;simp [execOp,eA,G,Instr.sliceAt,fr hu,Instr.slice,C,sizeOf,typeInfo,Co,oh]
  have arr: ∀(H':Heap) (D:b5) (r n:Nat) (f:Nat->List J),H'=bJ st.k D->aY S ι ⟨st.D,H'⟩ a w->r=X->a1 w (aT S ι H' w) (.arr r n f) (a.eval x)->(cV st.D 0 l λj=>cV st.D n hh λg=>cV st.D g m λk=>((0<=j/\j<=g/\g<=k/\k<=n)/\(kO m r=true->g=k))/\K (uv (kO m r) r (g-j).toNat λi=>f (j.toNat+i)) D)->o.wp E.P a w next Q:=λH' D r n f Mp pe L R q=>by
   have mono: ∀{d:Int} {o:Option Operand} {y K2:Int->Prop},(∀z,y z->K2 z)->cV st.D d o y->cV st.D d o K2:=λ{d o y K2} u p=>by
    cases o with
    |none=>exact u _ p
    |some x=>
     simp only[cV]at p |-
     cases e:aE st.D x<;>rw[e]at p<;>simp only at p |- <;>first|exact p.elim|exact u _ p
   have q:=mono (K2:=λj=>cV st.D n hh λg=>cV st.D g m λk=>(0<=j/\j<=g/\g<=k/\k<=n)/\((kO m r=true->g=k)/\K (uv (kO m r) r (g-j).toNat λi=>f (j.toNat+i)) D)) (λj p=>mono (λg F=>mono (λk B=>⟨B.1.1,B.1.2,B.2⟩) F) p) q;have avl: ∃A c,a.eval x= .slice A n c/\n<=c/\(A=none->c=0):=by
    generalize a.eval x=v at R
    cases R with
    |nil=>exact⟨none,0,rfl,bN _,λ_=>rfl⟩
    |mt _ _ A c=>exact⟨some A,c,rfl,cp _,λh=>by cases h⟩
    |arr _ _ _ b o c eI cI fP=>exact⟨_,c,rfl,fP,λh=>by cases h⟩
   obtain⟨A,c,G,m6,ae9⟩:=avl;obtain⟨j,g,k,⟨g1,bU,jv,mK⟩,⟨GM,u⟩,aGp,C⟩:=Re (E:=E) h true n c l hh m (K:=λj g k=>(kO m r=true->g=k)/\K (uv (kO m r) r (g-j).toNat λi=>f (j.toNat+i)) D) q m6 M;have afK:=R;rw[G]at afK;have cx:=a1.part (m:=(lR m c k)) (l:=j.toNat) (hh:=g.toNat) L afK Ω Ω (by cases m<;>simp only[lR]<;>omega) (λfP yU=>by
    cases m with
    |none=>exact ae9 yU
    |some _=>simp only[lR];omega)
   refine dx (Y A n c j g k G C) (P _ _ _ u (by rw[<-Mp];exact pe) ?_);rw[<-Mp];have N:(g-j).toNat=g.toNat-j.toNat:=by omega
   rw[N]
   cases W:kO m r with
   |false=>exact cx
   |true=>
    have U:=GM W;refine a1.ke _ _ _ _ _ cx ?_
    cases m with
    |none=>cases W
    |some _=>simp only[lR];omega
  cases O:aE st.D x<;>rw[O]at q H<;>simp only at q<;>try exact q.elim
  .
   have mono: ∀{d:Int} {o:Option Operand} {y K2:Int->Prop},(∀z,y z->K2 z)->cV st.D d o y->cV st.D d o K2:=λ{d o y K2} u p=>by
    cases o with
    |none=>exact u _ p
    |some x=>
     simp only[cV]at p |-
     cases e:aE st.D x<;>rw[e]at p<;>simp only at p |- <;>first|exact p.elim|exact u _ p
   have y0:a1 w (aT S ι st.k w) .aG (a.eval x):=H;have G:a.eval x= .slice none 0 0:=by
    generalize a.eval x=v at y0
    cases y0;rfl
   obtain⟨j,g,k,⟨g1,bU,jv,mK⟩,u,_,C⟩:=Re (E:=E) h true 0 0 l hh m (K:=λ_ _ _=>K .aG []) (mono (λj p=>mono (λg F=>mono (λk B=>⟨Ω,B.2⟩) F) p) q) (bN _) M;refine dx (Y none 0 0 j g k G C) (P _ _ _ u h ?_);have N:j=0:=by omega
   have U:g=0:=by omega
   have bk:k=0:=by omega
   subst N U bk
   cases m<;>simp [lR]<;>exact a1.aG
  .rename_i r n f;obtain⟨L,q⟩:=aF.1 q;exact arr st.k [] r n f rfl h (an L) H q
  .rename_i b fu
   cases V:I st.k b 0<;>rw[V]at q<;>simp only at q
   rename_i ro r n f;obtain⟨L,GU,q⟩:=aF.1 q;obtain⟨Z,G4⟩:=h.freeze (H':=bJ st.k [(b,0,.ad true r n f)]) (λb' N1=>by
    rw[Cw,eZ]
    by_cases e:b'=b/\N1=0
    .obtain⟨rfl,rfl⟩:=e;rw[a5 ⟨rfl,rfl⟩];exact .inr ⟨rfl,ro,r,n,f,V,by rw[eZ,a5 ⟨rfl,rfl⟩]⟩
    .rw[aS e];exact .inl rfl) (rZ _ _)
   refine arr _ _ r n f rfl Z (an L) (N7 Z (by rw[Cw,eZ,a5 ⟨rfl,rfl⟩]) GU (cq.step G4 H)) q
def foldl_push: ∀(l:List Int) (r:u),l.foldl (λr n=>r.push (UInt8.ofNat n.toNat)) r=⟨r.data++(l.map λn=>UInt8.ofNat n.toNat).toArray⟩
 |[],r=>by simp
 |n::l,r=>by
  simp only[IH,foldl_push l,IL];simp [ByteArray.push]
def apr{o m e:TypeId}(G:E.P.underlying o=some (.slice e))(B:E.P.underlying e=some (.int .u8))(A:E.P.underlying m=some .string){n x p c:Nat}{f:Nat->List J}{u:Nat->Value}{F:Nat->Prop}
  (y: ∀i,i<n->Hh ((f i).getD 0 .undef)=true) (q: ∀i,i<n->w.cell? ⟨x,p+i,none⟩=some (u i)/\a1 w F ((f i).getD 0 .undef) (u i)):
  (convert o m (.slice (some ⟨x,p,none⟩) n c)).run E.P w= .ok (.string (bytesOf n f)) w:=by
 rw[run_convert_bytes_string w o m e _ n c G B A];have H: ∀i,i<n->u i= .int .u8 ((ajV ((f i).getD 0 .undef):Nat):Int)\/ ∃z,(f i).getD 0 .undef= .int .u8 z/\u i= .int .u8 z:=λi l=>by
  have d:=y i l;have a:=(q i l).2;generalize (f i).getD 0 .undef=av at d a;generalize u i=v at a
  cases a<;>first|(cases d;done)|skip
  rename_i k z
  cases k<;>first|(cases d;done)|exact .inr ⟨z,rfl,rfl⟩
 let b:List Int:=(List.range n).map λi=>match u i with| .int _ z=>z|_=>0
 have t:=OZ (P:=E.P) w ⟨x,p,none⟩ (b.map (Value.int .u8)) (λj v g=>by
  have r:j<n:=by
   have:=(il.1 g).1;simpa[b]using this
  rw[Addr.add_lit,(q j r).1];simp [b,DC r]at g;rcases H j r with h|⟨z,_,h⟩<;>rw[h]at g |- <;>simp only at g<;>rw[<-g]<;>simp)
 have D:(b.map (Value.int .u8)).length=n:=by simp [b]
 rw[D]at t;rw[run_bytesToString w ⟨x,p,none⟩ n c b t,foldl_push];have C:ByteArray.empty.data= #[]:=rfl;rw[C]
 congr 2
 unfold bytesOf
 congr 1
 simp only[Array.empty_append,b,List.map_map]
 congr 1
 apply IS;intro i l;have s:i<n:=uR.1 l;simp only[Function.comp];have d:=y i s;have a:=(q i s).2;generalize (f i).getD 0 .undef=av at d a;generalize u i=v at a
 cases a<;>first|(cases d;done)|rfl
end
section
variable {E:Env} {S:eb} {ι:Nat->Option Nat} {st:O} {a:Act} {w:World}
def aoF(n:Nat)(f:Nat->List J):(bytesOf n f).size=n:=by simp [bytesOf,ByteArray.size]
def vd(E:Env)(t u:bS):Option bS:=
 match u.d with
 | .slice e _ _=>E.ty e
 |_=>match t.d with
  | .slice e _ _=>E.ty e
  |_=>none
def aaI(n:E.dE){T:TypeId}{t:bS}{i:Option bS}(o:gS E.P T t)(p: ∀e c a,t.d= .slice e c a->i=E.ty e)(h:oJ t i=true): ∃e,E.P.underlying T=some (.slice e)/\E.P.underlying e=some (.int .u8):=by
 have j:=o.d;unfold oJ at h
 cases g:t.d<;>rw[g]at h j<;>simp only at h<;>try (cases h;done)
 rename_i e c a;rw[p e c a g]at h;simp only[b4]at h
 cases b:E.ty e with
 |none=>rw[b]at h;cases h.2
 |some m=>
  rw[b]at h;have l:=(n.ty e m b).d;have d:=h.2
  cases f:m.d<;>rw[f]at l<;>simp only[f]at d<;>try (cases d;done)
  rename_i k
  cases k<;>first|(cases d;done)|exact⟨e,j.1,l⟩
def aps(m4:E.dE){o:Oper}{N G:TypeId}{t u:bS}{x:Operand}(eA:o.op= .convert N G x)(iU:gS E.P N t)(wc:gS E.P G u)
  (h:aY S ι st a w) {K:J->Prop} (d:sO t u (vd E t u) st.k (aE st.D x) K) {next:Act->World->Prop} {Q:Exit->Act->World->Prop}
  (Y: ∀av v w',K av->aY S ι st a w'->bz S ι st.k w' av v->next (a.put o.dst v) w'):o.wp E.P a w next Q:=by
 have A:=h.eval x;have R:=iU.d;have H:=wc.d;have Z: ∀v w',(convert N G (a.eval x)).run E.P w= .ok v w'->(execOp a.eval o).run E.P w= .ok (.value v) w':=λv w' r=>by
  simp only[execOp,eA];rw[Sem.run_bind,r];rfl
 have afR:u.d.isStr=true->E.P.underlying G=some .string:=λe=>by
  cases B:u.d<;>rw[B]at e H<;>first|exact H|(cases e;done)
 have Vb:u.d.isStr=true-> ∀e l8 mP,t.d= .slice e l8 mP->vd E t u=E.ty e:=λM e l8 mP O=>by
  unfold vd
  cases B:u.d<;>rw[B]at M<;>first|(cases M;done)|simp only[O]
 have core: ∀(n:Nat) (f:Nat->List J),n<=dz->u.d.isStr=true->oJ t (vd E t u)=true->(∀i,i<n->Hh ((f i).getD 0 .undef)=true)->K (.str (bytesOf n f))->(∃m c,a.eval x= .slice m n c/\(m=none->n=0)/\(n=0\/ ∃(q p:Nat) (u:Nat->Value),m=some ⟨q,p,none⟩/\ ∀i,i<n->w.cell? ⟨q,p+i,none⟩=some (u i)/\a1 w (aT S ι st.k w) ((f i).getD 0 .undef) (u i)))->o.wp E.P a w next Q:=by
  intro n f L M U T y ⟨m,c,r,ae9,k⟩;obtain⟨e,V,W⟩:=aaI m4 iU (Vb M) U;refine dx (Z _ w ?_) (Y _ _ _ y h (bz.mkStr _ (by rw[aoF];exact L)));rcases k with rfl|⟨q,p,u,rfl,k⟩
  .rw[r];have atP:bytesOf 0 f=⟨#[]⟩:=rfl;rw[atP,run_convert_bytes_string w N G e m 0 c V W (afR M)]
   cases m with
   |none=>simp [Conv.bytesToString];rfl
   |some m=>
    have z:=OZ (P:=E.P) w m [] (λj v X=>by simp at X);have:=run_bytesToString (P:=E.P) w m 0 c [] (by simpa using z);rw[this];rfl
  .rw[r];exact apr V W (afR M) T k
 cases ex:aE st.D x<;>rw[ex]at d A<;>simp only[sO]at d<;>try exact d.elim
 case int cx h1=>
  cases B:u.d<;>rw[B]at d H<;>simp only at d<;>try exact d.elim
  rename_i aGM
  cases O:t.d<;>rw[O]at d R<;>simp only at d<;>try exact d.elim
  refine dx (Z _ w ?_) (Y _ _ _ d h (bz.mkInt _ _));rw[bz.int A];simp [convert,fr R,fr H,Conv.intToInt]
 case str s=>
  have L:=bz.YM A
  cases O:t.d<;>rw[O]at d R<;>simp only at d<;>try exact d.elim
  have ab:de (oJ u (vd E t u)) (K (.arr 1 s.size (w_ s)))->o.wp E.P a w next Q:=λd=>by
   obtain⟨U,y⟩:=aF.1 d;obtain⟨e,V,W⟩:=aaI m4 wc (λe l8 mP ki=>by simp [vd,ki]) U;have gD:=run_bytes_of_string (P:=E.P) w N G e s R V W;generalize GM:grownCap w s.size 0 e=g at gD;have tP:s.size<=g:=by
    have:=wV w s.size 0 e;rw[GM]at this;exact this
   have Cm:Below w.heap.size w (w.drew.alloc (.cells (bytesRow s g) e ((bytesRow s g).size,(bytesRow s g).size+1))):=(Below.drew (Below.refl _ w)).alloc (bN _) _;obtain⟨e5,hl⟩:=h.world Cm;rw[<-bz.str A]at gD;refine dx (Z _ _ gD) (Y _ _ _ y e5 ?_);have m7:aT S ι st.k (w.drew.alloc (.cells (bytesRow s g) e ((bytesRow s g).size,(bytesRow s g).size+1))) w.heap.size:=⟨.inr h.below.size,by simp,λb _ e=>by have:=(h.fresh b _ e).2;omega⟩;have yX: ∀i,i<s.size->(w.drew.alloc (.cells (bytesRow s g) e ((bytesRow s g).size,(bytesRow s g).size+1))).cell? ⟨w.heap.size,0+i*1+0,none⟩=some (.int .u8 ((s.data.toList.getD i 0).toNat:Int)):=λi l=>by
    have auT:(w.drew.alloc (.cells (bytesRow s g) e ((bytesRow s g).size,(bytesRow s g).size+1))).heap[w.heap.size]? =some (.cells (bytesRow s g) e ((bytesRow s g).size,(bytesRow s g).size+1)):=ss w.drew _;rw[uT _ w.heap.size _ _ e _ auT];have oh:i<s.data.size:=l;have wg:i<(s.data.map (λb=>Value.int .u8 b.toNat)).size:=by simpa using oh
    simp only[db,Nat.mul_one,mD];unfold bytesRow;rw[qJ wg];have fe:s.data.toList.getD i 0=s.data[i]:=by simp [List.getD,qK oh]
    rw[fe,Array.getElem?_map,qK oh];rfl
   exact a1.arr 1 s.size (w_ s) w.heap.size 0 g (λi _=> .int .u8 ((s.data.toList.getD i 0).toNat:Int)) (λi _=> .int .u8 ((s.data.toList.getD i 0).toNat:Int)) tP L (λ_=>m7)
    (λi j l X=>by have:j=0:=by omega
                  subst this;rfl) (λi j l X=>by
     have:j=0:=by omega
     subst this;exact yX i l) (λi j l X=> .int _ _)
  cases B:u.d<;>rw[B]at d H<;>simp only at d<;>first|exact ab d|skip
  .refine dx (Z _ w ?_) (Y _ _ _ d h (bz.mkStr _ L));rw[bz.str A];simp [convert,fr R,fr H]
 case aG=>
  obtain⟨k,y⟩:=aF.1 d;simp only[b4]at k;have F:a1 w (aT S ι st.k w) .aG (a.eval x):=A;have r:a.eval x= .slice none 0 0:=by
   generalize a.eval x=v at F
   cases F;rfl
  exact core 0 (λ_=>[]) (cp _) k.1 k.2 (λi l=>by omega) y ⟨none,0,r,λ_=>rfl,.inl rfl⟩
 case arr eI n f=>
  obtain⟨k,T,y⟩:=aF.1 d;simp only[b4]at k;have oj:eI=1:=eg k.2;subst oj;have F:a1 w (aT S ι st.k w) (.arr 1 n f) (a.eval x):=A;refine core n f ?_ k.1.1 k.1.2 T y ?_
  .generalize a.eval x=v at F
   cases F<;>first|exact cp _|assumption
  .generalize a.eval x=v at F
   cases F with
   |nil=>exact⟨none,0,rfl,λ_=>rfl,.inl rfl⟩
   |mt _ _ m c=>exact⟨_,c,rfl,(λh=>by cases h),.inl rfl⟩
   |arr _ _ _ b o c fu cI fP U od jc D fG=>
    refine⟨_,c,rfl,(λh=>by cases h),.inr ⟨b,o,λi=>cI i 0,rfl,λi l=>⟨?_,?_⟩⟩⟩
    .have:=D i 0 l Ω;simpa using this
    .have e5:=jc i 0 l Ω;have:(f i).getD 0 .undef=fu i 0:=by simp [List.getD,e5]
     rw[this];exact fG i 0 l Ω
 case own b cx=>
  cases e:I st.k b 0<;>rw[e]at d<;>simp only at d
  rename_i ro eI n f;obtain⟨k,rfl,T,y⟩:=aF.1 d;simp only[b4]at k;have oj:eI=1:=eg k.2;subst oj;obtain⟨_,ow,kG,n',fW,hC,_,fe⟩:=(show eE S ι st.k w (.own b cx) (a.eval x)from A);rw[e]at hC;cases hC;have z:=h.k b 0;rw[e]at z;rcases z.2 with dQ|⟨L,z⟩
  .cases dQ.2.1
  refine core cx f L k.1.1 k.1.2 T y ?_;rcases fe rfl with⟨q,c,C,lx,jk,r,m6,ku,la⟩|⟨rfl,_,r⟩
  .refine⟨_,c,r,(λh=>by cases h),.inr ⟨q,0,λi=>(C[i]?).getD undef,rfl,λi l=> ?_⟩⟩;rcases z with z|⟨Ia,kJ,w7,wh,wb,lN⟩
   .rw[jk]at z;cases z.2
   .rw[jk]at wh;cases wh;rw[ku]at wb;cases wb;obtain⟨av,u,jc,D,fG⟩:=lN i 0 l Ω;have D:C[i]? =some u:=by simpa using D
    have lL:(C[i]?).getD undef=u:=by rw[D];rfl
    refine⟨?_,?_⟩
    .rw[uT w q _ C lx (0,0) ku,db,D];simp only[D];rfl
    .have:(f i).getD 0 .undef=av:=by simp [List.getD,jc]
     rw[this];simp only[lL];exact fG
  .exact⟨none,0,r,λ_=>rfl,.inl rfl⟩
def az9{o:Oper}{c:Go.Call}{x y:Operand}(n:o.op= .call c)(l:c.callee= .builtin .min)(j:c.args= #[x,y])(h:aY S ι st a w){K:J->Prop}(b:zk (aE st.D x) (aE st.D y) K){next:Act->World->Prop}{Q:Exit->Act->World->Prop}
  (m: ∀av v,K av->bz S ι st.k w av v->next (a.put o.dst v) w):o.wp E.P a w next Q:=by
 have f:=h.eval x;have g:=h.eval y
 cases d:aE st.D x<;>cases e:aE st.D y<;>rw[d,e]at b<;>rw[d]at f<;>rw[e]at g<;>simp only[zk]at b<;>try exact b.elim
 rename_i k p r q;obtain⟨_,i⟩:=aF.1 b;refine dx (v:= .int k (cond (decide (q<p)) q p)) (w':=w) ?_ (m _ _ i (bz.mkInt _ _));have:(cond (decide (q<p)) q p)=if q<p then q else p:=by by_cases h:q<p<;>simp [h]
 rw[this];simp [execOp,n,resolve,l,j,invoke,builtin,bz.int f,bz.int g,run_min_int2]
def az4{o:Oper}{c:Go.Call}{x y:Operand}(n:o.op= .call c)(l:c.callee= .builtin .max)(j:c.args= #[x,y])(h:aY S ι st a w){K:J->Prop}(b:zi (aE st.D x) (aE st.D y) K){next:Act->World->Prop}{Q:Exit->Act->World->Prop}
  (m: ∀av v,K av->bz S ι st.k w av v->next (a.put o.dst v) w):o.wp E.P a w next Q:=by
 have f:=h.eval x;have g:=h.eval y
 cases d:aE st.D x<;>cases e:aE st.D y<;>rw[d,e]at b<;>rw[d]at f<;>rw[e]at g<;>simp only[zi]at b<;>try exact b.elim
 rename_i k p r q;obtain⟨_,i⟩:=aF.1 b;refine dx (v:= .int k (cond (decide (q>p)) q p)) (w':=w) ?_ (m _ _ i (bz.mkInt _ _));have:(cond (decide (q>p)) q p)=if q>p then q else p:=by by_cases h:q>p<;>simp [h]
 rw[this];simp [execOp,n,resolve,l,j,invoke,builtin,bz.int f,bz.int g,run_max_int2]
end
section
variable {E:Env} {S:eb} {ι:Nat->Option Nat} {st:O} {a:Act} {w:World}
def aFe{F:Nat->Prop}{c:J}{v:Value}(a:Oa c=true)(h:ly c v):a1 w F c v:=by
 cases c<;>simp only[Oa]at a<;>first|(cases a;done)|skip
 .have h:v=_:=h;subst h;exact .int _ _
 .have h:v=_:=h;subst h;exact .bool _
 .obtain⟨h,b⟩:=(show v=_/\_ from h);subst h;exact .str _ (by rw[b];exact cp _)
def azZ(m4:E.dE){o:Oper}{T:TypeId}{t:bS}{l c:Operand}(eA:o.op= .makeSlice T l c)(iU:gS E.P T t)(h:aY S ι st a w){aC:Nat}(ld: ∀o,I st.k aC o= .undef)(qm:ι aC=none){K:J->b5->Prop}
  (d:r7 E t st.D aC l c K) {next:Act->World->Prop} {Q:Exit->Act->World->Prop}
  (rX: ∀az av q v w',K av q->aY S az ⟨st.D,bJ st.k q⟩ a w'->bz S az (bJ st.k q) w' av v->(∀b,az b≠none->ι b≠none\/ ∃p c,(b,p,c)∈q)->next (a.put o.dst v) w'):o.wp E.P a w next Q:=by
 have F:=iU.d;unfold r7 at d
 cases s:t.d<;>rw[s]at d<;>simp only at d<;>try exact d.elim
 rename_i e g mP;rw[s]at F;obtain⟨hu,i,L,M,wg,Cp,afs⟩:=F
 cases r:E.ty e with
 |none=>rw[r]at d;exact d.elim
 |some m=>
 rw[r]at d;simp only at d;have O:=h.eval l;have C:=h.eval c
 cases el:aE st.D l<;>rw[el]at d O<;>simp only at d<;>try exact d.elim
 rename_i au z
 cases Z:aE st.D c<;>rw[Z]at d C<;>simp only at d<;>try exact d.elim
 rename_i X aE6;obtain⟨D,⟨rfl,B,e5⟩,qj⟩:=aF.1 d;simp only[b4]at D;obtain⟨⟨⟨⟨Vq,R⟩,H⟩,G⟩,U⟩:=D;have R:=eg R;have H:=g8 H;have G:=g8 G;have U:0<g:=g8 U;obtain⟨afX,k,u,jg,fG,lL,A⟩:=(m4.ty e m r).info;rw[L]at u;cases u;have GK:(i.bytes:Int)*z<=281474976710656:=by
  have Y:(i.bytes:Int)<=4096:=by omega
  calc (i.bytes:Int)*z<=4096*4096:=Int.mul_le_mul Y e5 B Ω
   _<=_:=by omega
 have pd:=run_make (P:=E.P) w T e i k hu L fG au X z z B (aZ _) GK Ω;have VP:m.zero.length=k.cells.size:=by rw[A.length];simp
 have Hb:k.cells.size=g:=by omega
 have Cm:Below w.heap.size w (w.alloc (.cells (madeCells k.cells (z.toNat*i.size)) e)):=(Below.refl _ w).alloc (bN _) _;obtain⟨hn,gE⟩:=h.H_ Cm (b:=aC) (x:=w.heap.size) (bN _) (by simp) (f:=λ_=>m.zero) (n:=z.toNat) (V:=g) (c:=z.toNat) (by have oc:dz=549755813888:=rfl;omega) (bN _) (ss w _) (by rw[size_madeCells,M])
  (F':=aT S ι st.k w) (λy tU=> .inl tU) (λp j cx fX=>by
   obtain⟨v,dh,gD⟩:=A.get j _ (cM Ω);refine⟨m.zero[j]' Ω,v,cM Ω,?_,aFe (dK.1 Vq _ (j8 _)) gD⟩;have gX:p*g+j<z.toNat*i.size:=by
    have:(p+1)*g<=z.toNat*g:=hy g cx;rw[iX]at this;rw[M];omega
   have auL:(p*g+j)%k.cells.size=j:=by
    rw[Hb,Nat.add_comm,Nat.add_mul_mod_self_right,O1 fX]
   have N:j<k.cells.size:=by omega
   have W:k.cells[j]? =some v:=by simpa using dh
   simp only[madeCells,Array.getElem?_map,Array.getElem?_range,gX,lp,sr];rw[auL,getElem!_pos k.cells j N];rw[qK N]at W;exact W) (.inl ⟨ld,qm⟩)
 refine dx (v:= .slice (some ⟨w.heap.size,0,none⟩) z.toNat z.toNat) (w':=w.alloc (.cells (madeCells k.cells (z.toNat*i.size)) e)) ?_ (rX _ _ _ _ _ qj hn gE λb jh=>(Dk _ _ _ b jh).imp id λe=>⟨0,.ad false g z.toNat λ_=>m.zero,by subst e;simp⟩);have ap8:a.eval l= .int au z:=O.int;have apQ:a.eval c= .int X z:=C.int;simp only[execOp,eA];rw[Sem.run_bind,ap8,apQ,pd];rfl
end
def mem_iff{l:List Nat}{b:Nat} :mem l b=true↔b∈l:=by
 simp only[mem,List.any_eq_true];constructor
 .rintro⟨x,a,h⟩
  rw[eg h]at a;exact a
 .intro h;exact⟨b,h,by simp⟩
def zz: ∀{l:List Nat} {b:Nat},b∈l->l[pos l b]? =some b
 |[],_,h=>by cases h
 |x::l,b,h=>by
  unfold pos
  cases e:Nat.beq x b with
  |true=>simp [eg e]
  |false=>
   rcases iI.1 h with h|h
   .subst h;simp at e
   .simpa using zz h
def GF: ∀{l:List Nat} {i b:Nat},nodup l=true->l[i]? =some b->pos l b=i
 |[],i,b,_,h=>by simp at h
 |x::l,0,b,_,h=>by
  simp at h;subst h;simp [pos]
 |x::l,i+1,b,a,h=>by
  simp only[nodup,b4,jn]at a;have h:l[i]? =some b:=by simpa using h
  have c:b∈l:=ft h;have e:Nat.beq x b=false:=by
   cases e:Nat.beq x b with
   |false=>rfl
   |true=>
    rw[eg e]at a;rw[mem_iff.2 c]at a;cases a.1
  simp only[pos,e];rw[GF a.2 h]
section
variable {lq ev:Nat->Option Nat} {H1 kL:Heap} {w:World} {mF nr:Nat->Prop} {ρ:Nat->Nat} {D:Nat->Bool}
def C9{c:J} :cr (fH ρ c)=cr c:=by cases c<;>rfl
def aCT{c:J} :pt (fH ρ c)=pt c:=by cases c<;>rfl
def ja.mz(f: ∀b,D b=true->ev (ρ b)=lq b)(e: ∀b o,D b=true->I kL (ρ b) o=fH ρ (I H1 b o))(d: ∀x,mF x->nr x){c:J}{v:Value}(a:q8 D c=true)(k:ja lq H1 w mF c v):ja ev kL w nr (aiO ρ c) v:=by
 cases c<;>simp only[q8]at a<;>try (cases a;done)
 case ptr b o=>
  obtain⟨g,x,h,i⟩:=k;exact⟨by rw[e _ _ a,C9];exact g,x,by rw[f _ a];exact h,i⟩
 all_goals first|(cases a;done)|exact a1.mono d (λ_ _ _=>rfl) k
def cq.mz(l: ∀b,D b=true->ev (ρ b)=lq b)(j: ∀b o,D b=true->I kL (ρ b) o=fH ρ (I H1 b o))(u: ∀x,mF x->nr x){c:J}{v:Value}(a:nC D c=true)(k:cq lq H1 w mF c v):cq ev kL w nr (fH ρ c) v:=by
 cases c<;>simp only[nC]at a
 case undef=>exact k
 case gone=>exact k
 case own b n=>
  obtain⟨m,s,t,r,f,d,g,h⟩:=k;refine⟨m,s,t,r,f,by rw[j _ _ a,d];rfl,g,λe=> ?_⟩;rw[l _ a];exact h e
 case ptr b o=>
  obtain⟨d,x,g,h⟩:=k;exact⟨by rw[j _ _ a,C9];exact d,x,by rw[l _ a];exact g,h⟩
 case fN b n i o=>
  obtain⟨m,s,t,r,f,d,g,h⟩:=k;refine⟨m,s,t,r,f,by rw[j _ _ a,d];rfl,g,λe=> ?_⟩;rw[l _ a];exact h e
 case fn f F=>
  obtain⟨E,rfl,k⟩:=k;refine⟨E,rfl,a6.mk (by simpa using k.length) λi p q z B=> ?_⟩;simp only[g_,mC]at z;obtain⟨c,y,rfl⟩:=z;obtain⟨G,A,C⟩:=k.get i c y;rw[B]at A;cases A;exact ja.mz l j u (dK.1 a c (ft y)) C
 case agg=>exact k.elim
 case dp=>exact k.elim
 case ad=>exact k.elim
 all_goals exact a1.mono u (λ_ _ _=>rfl) k
def gw.mz(j: ∀b,D b=true->ev (ρ b)=lq b)(e: ∀b o,D b=true->I kL (ρ b) o=fH ρ (I H1 b o))(d: ∀x,mF x->nr x){c:J}{v:Value}(a:xo D c=true)(k:gw lq H1 w mF c v):gw ev kL w nr (lj ρ c) v:=by
 cases c
 case agg cs=>
  obtain⟨n,rfl,k⟩:=k;refine⟨n,rfl,a6.mk (by simpa using k.length) λi p q g l=> ?_⟩;simp only[g_,mC]at g;obtain⟨c,f,rfl⟩:=g;obtain⟨r,h,m⟩:=k.get i c f;rw[l]at h;cases h;exact cq.mz j e d (dK.1 a c (ft f)) m
 case dp=>cases a
 case gone=>cases a
 all_goals
  simp only[gw,xo,lj]at k a |-;exact cq.mz j e d a k
def eF.mz(f: ∀b,D b=true->ev (ρ b)=lq b)(e: ∀b o,D b=true->I kL (ρ b) o=fH ρ (I H1 b o))(d: ∀x,mF x->nr x){c:J}{v:Value}(a:xo D c=true)(k:eF lq H1 w mF c v):eF ev kL w nr (lj ρ c) v:=by
 cases c
 case undef=>trivial
 case dp=>cases a
 case gone=>cases a
 case agg cs=>exact gw.mz (c:= .agg cs) f e d a k
 all_goals
  simp only[eF]at k;have k:=gw.mz f e d a k;simp only[lj,fH]at k |-;exact k
def e9.mz(d: ∀b,D b=true->ev (ρ b)=lq b)(p: ∀b o,D b=true->I kL (ρ b) o=fH ρ (I H1 b o))(m: ∀x,mF x->nr x){b o:Nat}{c:J}(a:D b=true)(u:nC D c=true)(k:e9 lq H1 w mF b o c):e9 ev kL w nr (ρ b) o (fH ρ c):=by
 have t:cr (I kL (ρ b) 0)=cr (I H1 b 0):=by rw[p _ _ a,C9]
 cases c
 case undef=>trivial
 case ad K L n f=>
  obtain⟨e,l|⟨g,h⟩⟩:=k
  .exact⟨e,.inl ⟨l.1,l.2.1,by rw[d _ a];exact l.2.2⟩⟩
  refine⟨e,.inr ⟨g,?_⟩⟩;rw[d _ a];exact h.imp id λ⟨x,C,T,q,r,s⟩=>⟨x,C,T,q,r,λi j y z=>by
   obtain⟨av,v,F,G,H⟩:=s i j y z;exact⟨av,v,F,G,H.mono m λ_ _ _=>rfl⟩⟩
 all_goals
  obtain⟨A,x,v,e,g,h,B⟩:=k;have E:=cq.mz d p m u B;exact⟨by rw[t];exact A,x,v,by rw[d _ a];exact e,g,h,E⟩
end
def Hv{H:Heap}{b:Nat}(h:zf (H.getD b [])=true):ni H b/\(∃z l,H.getD b []=z::l):=by
 unfold zf at h
 cases e:H.getD b []with
 |nil=>rw[e]at h;cases h
 |cons x r=>
  rw[e]at h;refine⟨?_,x,r,rfl⟩;have a:I H b 0=x:=by unfold I;rw[e];rfl
  cases d:cr x with
  |true=>
   obtain⟨m,p,n,f,rfl⟩:=M4 d;simp only[b4,jn]at h;exact .inl ⟨by rw[a];rfl,by rw[a];simp [pt,h.1]⟩
  |false=>
   have g:((x::r).all (λc=> !(cr c))&&(x::r).any pt)=true:=by cases x<;>first|exact h|(cases d;done)
   simp only[b4]at g;obtain⟨c,i,k⟩:=List.any_eq_true.1 g.2;obtain⟨o,j⟩:=qN i;refine .inr ⟨by rw[a];exact d,o,?_⟩;unfold I;rw[e,List.getD,j];exact k
def asA{H:Heap}{b:Nat}{z:J}{c:List J}(h:H.getD b []=z::c):b<H.length:=by
 rcases fE b H.length with a|a
 .exact a
 .simp [List.getD,eX a]at h
def Jl{e:Nat->Nat}{b p:Nat}{c:J} : ∀(g:Heap) (i:Nat),(b,p,c)∈sM e i g-> ∃j l,g[j]? =some l/\b=e (i+j)/\p<l.length/\c=fH e (l.getD p .undef)
 |[],_,h=>by cases h
 |l::g,i,h=>by
  simp only[sM,gj]at h;rcases h with h|h
  .have n: ∀(cs:List J) (o:Nat),(b,p,c)∈h3 (e i) cs o->b=e i/\ ∃q,q<cs.length/\p=o+q/\c=cs.getD q .undef:=by
    intro cs
    induction cs with
    |nil=>intro o h;cases h
    |cons x cs m=>
     intro o h;rcases iI.1 h with h|h
     .cases h;exact⟨rfl,0,by simp,rfl,rfl⟩
     .obtain⟨d,q,a,f,k⟩:=m (o+1) h;exact⟨d,q+1,by simpa using a,Ω,by simpa using k⟩
   obtain⟨d,q,a,f,k⟩:=n _ _ h;have a:q<l.length:=by simpa using a
   refine⟨0,l,rfl,by simpa using d,Ω,?_⟩;rw[k,f,db,List.getD,List.getD,g_,cM a];rfl
  .obtain⟨j,r,d,a,f⟩:=Jl g (i+1) h;exact⟨j+1,r,by simpa using d,by rw[a];congr 1;omega,f⟩
def D2{σ:Nat->Nat} : ∀(b:Heap) (i j p:Nat) (l:List J),b[j]? =some l->p<l.length->(σ (i+j),p,fH σ (l.getD p .undef))∈sM σ i b
 |[],_,_,_,_,h,_=>by simp at h
 |y::b,i,0,p,l,h,a=>by
  simp at h;subst h;simp only[sM,gj];left;have d: ∀(cs:List J) (o q:Nat),q<cs.length->(σ i,o+q,cs.getD q .undef)∈h3 (σ i) cs o:=by
   intro cs
   induction cs with
   |nil=>intro o q h;simp at h
   |cons x cs c=>
    intro o q h
    cases q with
    |zero=>exact iI.2 (.inl rfl)
    |succ q=>
     have:=c (o+1) q (by simpa using h);rw[show o+1+q=o+(q+1) by omega]at this;exact iI.2 (.inr (by simpa using this))
  have:=d (y.map (fH σ)) 0 p (by simpa using a);rw[List.getD,g_,cM a]at this;rw[List.getD,cM a];simpa using this
 |y::b,i,j+1,p,l,h,a=>by
  have:=D2 (σ:=σ) b (i+1) j p l (by simpa using h) a;rw[show i+1+j=i+(j+1) by omega]at this;exact gj.2 (.inr this)
section
variable {E:Env} {S:eb} {ι:Nat->Option Nat} {st:O} {a:Act} {w:World}
def ja.aEe{H:Heap}{F:Nat->Prop}{c:J}{v:Value}(k:ja ι H w F c v):cq ι H w F c v:=by
 cases c
 case ptr=>exact k
 case fn f b=>
  have r:a1 w F (.fn f b) v:=k
  cases r with
  |fn _ _ s g u n j l m=>
   refine⟨s,rfl,a6.mk n.symm λi p q h o=> ?_⟩;have a:i<b.length:=(il.1 h).1;have d:=j i a;have e:=l i a;rw[h]at d;cases d;rw[o]at e;cases e;have bk:=m i a;generalize g i=x at bk
   cases x<;>first|exact bk|(cases bk;done)
 all_goals
  simp only[ja]at k
  first|exact k|(cases k;done)
def kE(H:Heap)(L:List Nat):Heap:=L.map λb=>(H.getD b []).map (fH (pos L))
def lU(ι:Nat->Option Nat)(L:List Nat)(i:Nat):Option Nat:=(L[i]?).bind ι
def OI{L:List Nat}{b:Nat}(a:b∈L):lU ι L (pos L b)=ι b:=by simp [lU,zz a]
def Dh{H:Heap}{L:List Nat}{b:Nat}(a:b∈L)(o:Nat):I (kE H L) (pos L b) o=fH (pos L) (I H b o):=by
 have e:(kE H L).getD (pos L b) []=(H.getD b []).map (fH (pos L)):=by
  unfold kE;rw[List.getD,g_,zz a];rfl
 unfold I;rw[e];generalize H.getD b []=l;rw[List.getD,g_,List.getD]
 cases l[o]? <;>rfl
def aDS{H:Heap}{L:List Nat}{i:Nat}(a:L.length<=i)(o:Nat):I (kE H L) i o= .undef:=tQ (by simpa[kE]using a) o
def Oz{ρ:Nat->Nat}{H H':Heap}{b b':Nat}(h: ∀o,I H' b' o=fH ρ (I H b o))(k:ni H' b'):ni H b:=by
 unfold ni at*
 simpa only[h,C9,aCT]using k
def at5(m4:E.dE){o:Oper}{c:Go.Call}{A:Operand}{f:FuncId}{jx:List J}(eA:o.op= .call c)(jF:c.callee= .value A)(VM:aE st.D A= .fn f jx)(h:aY S ι st a w){aC:Nat}{oF:Nat->Prop}(aty:oF aC)(Ms: ∀b,oF b->(∀p,I st.k b p= .undef)/\ι b=none)
  {eI:J->b5->Prop} (GI: ∀av ws,eI av ws-> ∀b p c,(b,p,c)∈ws->aC<b->oF b) (X:og E st.k aC f (c.args.toList.map (aE st.D)++jx) eI) {next:Act->World->Prop} {Q:Exit->Act->World->Prop}
  (rX: ∀az av ws v w',eI av ws->aY S az ⟨st.D,bJ st.k ws⟩ a w'->bz S az (bJ st.k ws) w' av v->(∀b,az b≠none->ι b≠none\/ ∃p c,(b,p,c)∈ws)->next (a.put o.dst v) w'):o.wp E.P a w next Q:=by
 have Mz:=h.eval A;rw[VM]at Mz;obtain⟨jb,Vc,Mw⟩:=(show eE S ι st.k w (.fn f jx) _ from Mz);have Cg:a6 (bz S ι st.k w) (c.args.toList.map (aE st.D)++jx) (c.args.toList.map a.eval++jb):=by
  refine a6.append (a6.mk (by simp) λi x y s M=> ?_) (Mw.imp λ_ _ k=>eF.zu (by
   have gE:=ja.aEe k;rename_i p q
   cases p<;>first|exact gE|exact gE.elim|exact(a1.ahT k).elim))
  simp only[g_,mC]at s M;obtain⟨zs,ki,rfl⟩:=s;obtain⟨HP,hC,rfl⟩:=M;rw[ki]at hC;cases hC;exact h.eval zs
 generalize ql:c.args.toList.map a.eval++jb=cI at Cg;generalize c.args.toList.map (aE st.D)++jx=aa at X Cg;unfold og at X;generalize ec st.k aa=L at X;obtain⟨afh,X⟩:=aF.1 X;simp only[b4]at afh;obtain⟨⟨GZ,afy⟩,aug⟩:=afh;have Cr: ∀b,b∈L->zf (st.k.getD b [])=true:=λb d=>by
  have:=dK.1 afy b d;simp only[b4]at this;exact this.1
 have aue: ∀b,b∈L-> ∀o,nC (mem L) (I st.k b o)=true:=λb d o=>by
  have:=dK.1 afy b d;simp only[b4]at this;unfold I;rw[List.getD]
  cases e:(st.k.getD b [])[o]? with
  |none=>rfl
  |some x=>exact dK.1 this.2 x (ft e)
 have atz: ∀b,oF b->b∉L:=λb d V=>by
  have gD:=(Hv (Cr b V)).1;have hu:=(Ms b d).1;rcases gD with⟨g,_⟩|⟨_,o,g⟩<;>rw[hu]at g<;>cases g
 cases pe:E.oi f (aa.map (lj (pos L))) (kE st.k L)with
 |none=>rw[show(L.map λb=>(st.k.getD b []).map (fH (pos L)))=kE st.k L from rfl,pe]at X;exact X.elim
 |some q=>
  obtain⟨pre,rs,H'⟩:=q;rw[show(L.map λb=>(st.k.getD b []).map (fH (pos L)))=kE st.k L from rfl,pe]at X;obtain⟨cx,X⟩:=qy.1 X;obtain⟨afi,qj⟩:=aF.1 X;simp only[b4]at afi;obtain⟨⟨⟨_,hlen⟩,auh⟩,aui⟩:=afi;obtain⟨⟨fn,ao5,auo,U4,Vj⟩,GL⟩:=m4.oi _ _ _ _ _ _ pe;have GL:=GL cx;let pE:Nat->Prop:=λx=> ∃b,b∈L/\ι b=some x;have atD: ∀x,pE x->x<w.heap.size:=λx ⟨b,_,d⟩=>(h.fresh b x d).2;let mF:Nat->Prop:=λx=>aT S ι st.k w x\/pE x;have au_: ∀i x,lU ι L i=some x-> ∃b,b∈L/\pos L b=i/\ι b=some x:=λi x z=>by
   unfold lU at z
   cases e:L[i]? with
   |none=>rw[e]at z;cases z
   |some b=>rw[e]at z;exact⟨b,ft e,GF GZ e,z⟩
  have atw: ∀x,aT S ι st.k w x->uZ mF w.heap.size (lU ι L) (kE st.k L) w x:=λx s=>⟨.inl (.inl s),s.2.1,λi z P=>by
   obtain⟨b,d,rfl,Cl⟩:=au_ i x P;exact s.2.2 b (Oz (Dh d) z) Cl⟩
  let u3:eb:=⟨mF,w,λx s=>s.elim (λg=>g.2.1) (atD x),pE,λx s=> .inr s,lU ι L,kE st.k L,uZ mF w.heap.size (lU ι L) (kE st.k L) w,λb x d=>by
   unfold lU at d
   cases e:L[b]? with
   |none=>rw[e]at d;cases d
   |some y=>simpa[kE]using(il.1 e).1,λg=>(h.v7 g).imp id λk=>k.mono atw λ_ _ _=>rfl⟩
  have rY: ∀i x,lU ι L i=some x-> ∃b,b∈L/\pos L b=i/\ι b=some x:=λi x z=>by
   unfold lU at z
   cases e:L[i]? with
   |none=>rw[e]at z;cases z
   |some b=>rw[e]at z;exact⟨b,ft e,GF GZ e,z⟩
  have Mn: ∀x,aT S ι st.k w x->aT u3 (lU ι L) (kE st.k L) w x:=λx s=>⟨.inl (.inl s),s.2.1,λi z P=>by
   obtain⟨b,d,rfl,Cl⟩:=rY i x P;exact s.2.2 b (Oz (Dh d) z) Cl⟩
  have afV: ∀b,mem L b=true->lU ι L (pos L b)=ι b:=λb d=>OI (mem_iff.1 d);have ae5: ∀b o,mem L b=true->I (kE st.k L) (pos L b) o=fH (pos L) (I st.k b o):=λb o d=>Dh (mem_iff.1 d) o;have au7:aY u3 (lU ι L) ⟨aa.map (lj (pos L)),kE st.k L⟩ {tmps:=cI.toArray,defers:=[]} w:=by
   refine⟨iM.refl _ _ _,rfl,λt av iC=> ?_,λi o=> ?_,λi j x F O=> ?_,λi x z=> ?_,λi x z=>u3.q8 i x z,ey.refl⟩
   .simp only[g_,mC]at iC;obtain⟨x,s,rfl⟩:=iC;obtain⟨v,dh,gD⟩:=Cg.get t x s;exact⟨v,by simpa using dh,eF.mz afV ae5 Mn (dK.1 aug x (ft s)) gD⟩
   .show e9 _ _ _ _ i o (I (kE st.k L) i o);rcases fE i L.length with z|z
    .have d:L[i]? =some L[i]:=cM z;have V:L[i]∈L:=ft d;have e:=GF GZ d;have k:=e9.mz (ρ:=pos L) (D:=mem L) afV ae5 Mn (mem_iff.2 V) (aue _ V o) (h.k L[i] o);rw[e]at k;have hC:=Dh (H:=st.k) V o;rw[e]at hC;rw[hC];exact k
    .rw[aDS z];trivial
   .obtain⟨g1,r5,rfl,hn⟩:=rY i x F;obtain⟨bU,r6,rfl,gE⟩:=rY j x O;rw[h.inj g1 bU x hn gE]
   .obtain⟨b,m,rfl,k⟩:=rY i x z;exact⟨.inr ⟨b,m,k⟩,(h.fresh b x k).2⟩
  have pd:(execOp a.eval o).run E.P w= .ok (.enter f cI.toArray) w:=by
   have Vl:fn.name≠ "runtime.NumGoroutine" :=by simpa using Vj
   have U0:cI.toArray=c.args.map a.eval++jb.toArray:=by rw[<-ql];apply py;simp
   rw[U0];simp [execOp,eA,resolve,jF,Vc,Deferred.ofValue,invoke,callFunc,auo,U4,Vl]
  unfold Oper.wp;rw[pd];refine(GL u3 (lU ι L) w cI (bN _) (by simpa using Cg.length.symm) au7).mono λe w' ⟨us,az,P,avf,W⟩=> ?_;subst P;let B:Nat->Nat:=uG L aC;let ws:b5:=sM B 0 H';have y4: ∀i,L.length<=i->B i=aC+(i-L.length):=λi z=>by simp [B,uG,List.getD,eX z]
  let R:Nat->Prop:=λb=>aC<=b/\b<aC+(H'.length-L.length);have yT: ∀b,R b-> ∃i,L.length<=i/\i<H'.length/\B i=b:=λb d=>⟨L.length+(b-aC),Ω,by have:=d.1;have:=d.2;omega,by rw[y4 _ Ω];have:=d.1;omega⟩;have Ml: ∀i,L.length<=i->i<H'.length->R (B i):=λi F O=>by
   rw[y4 i F];exact⟨Ω,Ω⟩
  let ev:Nat->Option Nat:=λb=>if mem L b then az (pos L b)else if aC<=b/\b<aC+(H'.length-L.length)then az (L.length+(b-aC))else ι b
  have Cy: ∀b,b∈L->ev b=az (pos L b):=λb d=>by simp [ev,mem_iff.2 d]
  have afA: ∀b,b∉L->mem L b=false:=λb d=>by
   cases e:mem L b with
   |false=>rfl
   |true=>exact absurd (mem_iff.1 e) d
  have tV: ∀b,b∉L-> ¬R b->ev b=ι b:=λb d fP=>by
   simp only[ev,afA b d];rw[aS (by simp),aS fP]
  have au9: ∀(l:List Nat) (cG:Heap),qD l st.k cG=true->(∀(i b:Nat),l[i]? =some b-> ∃y,cG[i]? =some y/\(st.k.getD b []).length=y.length)/\l.length<=cG.length/\ ∀(i:Nat) y,l.length<=i->cG[i]? =some y->y≠[]:=by
   intro l
   induction l with
   |nil=>
    intro cG Z;refine⟨λi b d=>by simp at d,cp _,λi y _ M e=> ?_⟩;unfold qD at Z;have:=dK.1 Z y (ft M);rw[e]at this;cases this
   |cons b l om=>
    intro cG Z;unfold qD at Z
    cases cG with
    |nil=>cases Z
    |cons y cG=>
     simp only[b4]at Z;obtain⟨G,N,lL⟩:=om cG Z.2;refine⟨λi b' d=> ?_,by simpa using N,λi wS z M=> ?_⟩
     .cases i with
      |zero=>simp at d;subst d;exact⟨y,rfl,eg Z.1⟩
      |succ i=>simpa using G i b' (by simpa using d)
     .cases i with
      |zero=>simp at z
      |succ i=>exact lL i wS (by simpa using z) (by simpa using M)
  obtain⟨afQ,aGC,Vz⟩:=au9 L H' hlen;have MY: ∀b,b∈L->B (pos L b)=b:=λb d=>by simp [B,uG,List.getD,zz d]
  have y3: ∀i,i<L.length->B i∈L/\pos L (B i)=i:=λi z=>by
   have d:L[i]? =some L[i]:=cM z;have e:B i=L[i]:=by simp [B,uG,List.getD,d]
   rw[e];exact⟨ft d,GF GZ d⟩
  have ae6: ∀i,L.length<=i->i<H'.length->oF (B i):=λi F O=>by
   by_cases e:i=L.length
   .rw[y4 i F,e,Nat.sub_self,mD];exact aty
   .have M:H'[i]? =some H'[i]:=cM O;have V:=D2 (σ:=B) H' 0 i 0 _ M (List.length_pos_iff.2 (Vz i _ F M));rw[db]at V;exact GI _ _ qj _ _ _ V (by rw[y4 i F];omega)
  have UT: ∀b,R b->oF b:=λb d=>by
   obtain⟨i,F,O,rfl⟩:=yT b d;exact ae6 i F O
  have US: ∀b,R b->b∉L:=λb d=>atz b (UT b d);have MW: ∀i,L.length<=i->i<H'.length->ev (B i)=az i:=λi F O=>by
   have d:=Ml i F O;simp only[ev,afA _ (US _ d)];rw[aS (by simp),a5 d,y4 i F]
   congr 1;omega
  have afW: ∀i j,i<H'.length->j<H'.length->B i=B j->i=j:=λi j z fX e=>by
   rcases fE i L.length with U|U<;>rcases fE j L.length with tT|tT
   .rw[<-(y3 i U).2,<-(y3 j tT).2,e]
   .exact absurd (by rw[<-e];exact(y3 i U).1) (US _ (Ml j tT fX))
   .exact absurd (by rw[e];exact(y3 j tT).1) (US _ (Ml i U z))
   .rw[y4 i U,y4 j tT]at e;omega
  have MB: ∀i o,i<H'.length->I (bJ st.k ws) (B i) o=fH B (I H' i o):=λi o z=>by
   have M:H'[i]? =some H'[i]:=cM z;have afr:I H' i o=(H'[i]).getD o .undef:=by simp [I,List.getD,M]
   rcases fE o (H'[i]).length with eA|eA
   .have V:=D2 (σ:=B) H' 0 i o _ M eA;rw[db]at V;obtain⟨Rh,F,O⟩:=VK ws st.k (B i) o _ V;obtain⟨j,l,G,N,fG,lL⟩:=Jl H' 0 F;rw[db]at N;have fX:j<H'.length:=(il.1 G).1;have tR:i=j:=afW i j z fX N;subst tR;rw[M]at G;cases G;rw[O,lL,afr]
   .have hu:I H' i o= .undef:=by rw[afr,List.getD,eX eA];rfl
    rw[hu];rcases G_ ws st.k (B i) o with F|⟨Rh,F,O⟩
    .rw[F];rcases fE i L.length with U|U
     .have d:L[i]? =some L[i]:=cM U;obtain⟨y,G,N⟩:=afQ i _ d;rw[M]at G;cases G;have e:B i=L[i]:=by simp [B,uG,List.getD,d]
      rw[e];unfold I;rw[List.getD,eX (by rw[N];exact eA)];rfl
     .exact(Ms _ (ae6 i U z)).1 o
    .obtain⟨j,l,G,N,fG,lL⟩:=Jl H' 0 F;rw[db]at N;have fX:j<H'.length:=(il.1 G).1;have tR:i=j:=afW i j z fX N;subst tR;rw[M]at G;cases G;omega
  have MD: ∀b o,b∉L-> ¬R b->I (bJ st.k ws) b o=I st.k b o:=λb o d fP=>by
   rcases G_ ws st.k b o with F|⟨Rh,F,O⟩
   .exact F
   .obtain⟨j,l,G,N,fG,lL⟩:=Jl H' 0 F;rw[db]at N;have fX:j<H'.length:=(il.1 G).1;rcases fE j L.length with tT|tT
    .exact absurd (by rw[N];exact(y3 j tT).1) d
    .exact absurd (by rw[N];exact Ml j tT fX) fP
  have MA: ∀b o,b∈L->I (bJ st.k ws) b o=fH B (I H' (pos L b) o):=λb o d=>by
   have cx:=(il.1 (zz d)).1;have:=MB (pos L b) o Ω;rwa [MY b d]at this
  have aGU: ∀x,aT S ι st.k w x-> ¬pE x:=λx s ⟨b,d,P⟩=>s.2.2 b (Hv (Cr b d)).1 P;have Mm: ∀x,aT u3 az H' w' x->aT S ev (bJ st.k ws) w' x:=λx s=>by
   have tS:S.pC x\/S.kI.heap.size<=x:=by
    rcases s.1 with(g|⟨b,_,g⟩)|g
    .exact g.1
    .exact h.own g
    .exact .inr (dP h.below.size g)
   refine⟨tS,s.2.1,λb d P=> ?_⟩
   by_cases u:b∈L
   .rw[Cy b u]at P;exact s.2.2 _ (Oz (λo=>MA b o u) d) P
   .by_cases K:R b
    .obtain⟨i,i1,Y,rfl⟩:=yT b K;rw[MW i i1 Y]at P;exact s.2.2 _ (Oz (λo=>MB i o Y) d) P
    .rw[tV b u K]at P;have auG:=oy (H:=st.k) (λo=>MD b o u K) d;rcases s.1 with(g|⟨b',yV,g⟩)|g
     .exact g.2.2 b auG P
     .exact u (by rw[h.inj b b' x P g];exact yV)
     .have:=(h.fresh b x P).2;have g:w.heap.size<=x:=g;omega
  have ME:ey (lU ι L) (kE st.k L) w (aT u3 (lU ι L) (kE st.k L) w) az H' w' (aT u3 az H' w'):=W.gW;have MQ: ∀b x,b∉L->ι b=some x->w'.heap[x]? =w.heap[x]? :=λb x d s=>W.below.block x (h.fresh b x s).2 λ⟨b',yV,g⟩=>d (by rw[h.inj b b' x s g];exact yV);have VC:ey ι st.k w (aT S ι st.k w) ev (bJ st.k ws) w' (aT S ev (bJ st.k ws) w'):=by
   refine⟨λx s=>Mm x (ME.h5 x (Mn x s)),λx o s=>ME.cell x o (Mn x s),λb x s d=> ?_,λb ro fu n f d=> ?_⟩
   .by_cases u:b∈L
    .obtain⟨G,N⟩:=ME.box (pos L b) x (by rw[OI u];exact s) (by rw[Dh u,C9];exact d);exact⟨by rw[Cy b u];exact G,by rw[MA b 0 u,C9];exact N⟩
    .have K: ¬R b:=λe=>by rw[(Ms b (UT b e)).2]at s;cases s
     exact⟨by rw[tV b u K];exact s,by rw[MD b 0 u K];exact d⟩
   .by_cases u:b∈L
    .obtain⟨ow,kG,n',fW,G,N,fG⟩:=ME.arr (pos L b) ro fu n f (by rw[Dh u,d];rfl);refine⟨ow,kG,n',fW,by rw[MA b 0 u,G];rfl,N,λe=> ?_⟩;obtain⟨Hj,hn,gE⟩:=fG e;rw[Cy b u,hn,OI u];refine⟨Hj,rfl,λx C T s ku=>gE x C T (by rw[OI u];exact s) ku⟩
    .have K: ¬R b:=λe=>by rw[(Ms b (UT b e)).1]at d;cases d
     refine⟨ro,_,n,f,by rw[MD b 0 u K];exact d,bN _,λ_=>⟨rfl,tV b u K,λx C T s ku=>⟨C,by rw[MQ b x u s];exact ku,rfl⟩⟩⟩
  have VR: ∀i,qt H'.length i=true->ev (B i)=az i:=λi z=>by
   have z:i<H'.length:=g8 z;rcases fE i L.length with U|U
   .rw[Cy _ (y3 i U).1,(y3 i U).2]
   .exact MW i U z
  have UQ: ∀i o,qt H'.length i=true->I (bJ st.k ws) (B i) o=fH B (I H' i o):=λi o z=>MB i o (g8 z);have afk: ∀i o,nC (qt H'.length) (I H' i o)=true:=λi o=>by
   unfold I;rw[List.getD,List.getD]
   cases e:H'[i]? with
   |none=>rfl
   |some l=>
    simp only[lY]
    cases hC:l[o]? with
    |none=>rfl
    |some x=>exact dK.1 (dK.1 auh l (ft e)) x (ft hC)
  have au8:aY S ev ⟨st.D,bJ st.k ws⟩ a w':=by
   refine⟨h.below.then ⟨W.below.os,W.below.tape,W.below.output,W.below.size,λk X fP=>W.below.block k (gR X h.below.size) λ⟨b,_,g⟩=> ?_⟩,h.defers,λt av iC=> ?_,λb o=> ?_,λg1 bU x F O=> ?_,λb x s=> ?_,λb x s=> ?_,h.gW.trans VC⟩
   .rcases(h.fresh b k g).1 with G|G
    .omega
    .exact fP G
   .obtain⟨v,F,O⟩:=h.D t av iC;exact⟨v,F,O.step VC⟩
   .show e9 _ _ _ _ b o (I (bJ st.k ws) b o)
    by_cases u:b∈L
    .have cx:=(il.1 (zz u)).1;have k:=e9.mz (ρ:=B) (D:=qt H'.length) VR UQ Mm (b:=pos L b) (o:=o) (by simp only[qt,iY];omega) (afk _ o) (W.k (pos L b) o);rw[MY b u]at k;rw[MA b o u];exact k
    .by_cases K:R b
     .obtain⟨i,i1,Y,rfl⟩:=yT b K;have k:=e9.mz (ρ:=B) (D:=qt H'.length) VR UQ Mm (b:=i) (o:=o) (by simp only[qt,iY];omega) (afk _ o) (W.k i o);rw[MB i o Y];exact k
     .rw[MD b o u K];exact(h.k b o).step VC (λ_=>tV b u K) (λx s _=>⟨World.cell?_of_block (MQ b x u s),World.frozen?_of_block (MQ b x u s)⟩) (λ_=>⟨tV b u K,λx s=>MQ b x u s⟩)
   .have key: ∀b x,ev b=some x->(∃i,B i=b/\az i=some x)\/(b∉L/\ ¬R b/\ι b=some x):=λb x s=>by
     by_cases u:b∈L
     .exact .inl ⟨pos L b,MY b u,by rw[<-Cy b u];exact s⟩
     .by_cases K:R b
      .obtain⟨i,i1,Y,rfl⟩:=yT b K;exact .inl ⟨i,rfl,by rw[<-MW i i1 Y];exact s⟩
      .exact .inr ⟨u,K,by rw[<-tV b u K];exact s⟩
    have aaY: ∀i b x,az i=some x->b∉L->ι b=some x->False:=λi b x F O fe=>by
     rcases(W.fresh i x F).1 with g|⟨b',yV,g⟩
     .have:=(h.fresh b x fe).2;have g:w.heap.size<=x:=g;omega
     .exact O (by rw[h.inj b b' x fe g];exact yV)
    rcases key g1 x F with⟨i,ki,G⟩|⟨r5,aAl,G⟩<;>rcases key bU x O with⟨j,hC,N⟩|⟨r6,NR,N⟩
    .rw[<-ki,<-hC,W.inj i j x G N]
    .exact(aaY i bU x G r6 N).elim
    .exact(aaY j g1 x N r5 G).elim
    .exact h.inj g1 bU x G N
   .have conv: ∀i,az i=some x->(S.kI.heap.size<=x\/S.pE x)/\x<w'.heap.size:=λi z=>by
     obtain⟨G,N⟩:=W.fresh i x z;refine⟨?_,N⟩;rcases G with G|⟨b',_,g⟩
     .exact .inl (dP h.below.size G)
     .exact(h.fresh b' x g).1
    by_cases u:b∈L
    .exact conv _ (by rw[<-Cy b u];exact s)
    .by_cases K:R b
     .obtain⟨i,i1,Y,rfl⟩:=yT b K;exact conv i (by rw[<-MW i i1 Y];exact s)
     .rw[tV b u K]at s;exact⟨(h.fresh b x s).1,gR (h.fresh b x s).2 W.below.size⟩
   .show b<(bJ st.k ws).length
    by_cases u:b∈L
    .obtain⟨_,kc,su,hG⟩:=Hv (Cr b u);exact gR (asA hG) (rZ _ _)
    .by_cases K:R b
     .obtain⟨i,i1,Y,rfl⟩:=yT b K;have M:H'[i]? =some H'[i]:=cM Y;have V:=D2 (σ:=B) H' 0 i 0 _ M (List.length_pos_iff.2 (Vz i _ i1 M));rw[db]at V;have key: ∀(l:b5) (H:Heap) b p c,(b,p,c)∈l->b<(bJ H l).length:=by
       intro l
       induction l with
       |nil=>intro H b p c h;cases h
       |cons q l om=>
        intro H b p c h;obtain⟨g1,dD,l4⟩:=q;rcases iI.1 h with h|h
        .cases h
         exact gR (wx H b p c).2 (rZ _ _)
        .exact om _ b p c h
      exact key _ _ _ _ _ V
     .rw[tV b u K]at s;exact gR (h.gT b x s) (rZ _ _)
  have avk:a6 (gw ev (bJ st.k ws) w' (aT S ev (bJ st.k ws) w')) (rs.map (lj B)) us:=by
   refine a6.mk (by simpa using avf.symm) λi p q cx jk=> ?_;simp only[g_,mC]at cx;obtain⟨r,gD,rfl⟩:=cx;have jF:=dK.1 aui r (ft gD);simp only[b4]at jF;obtain⟨v,F,O⟩:=W.D i r gD;have F:us[i]? =some v:=by simpa using F
   rw[jk]at F;cases F;have G6:gw az H' w' (aT u3 az H' w') r q:=by
    cases r<;>first|exact O|(cases jF.2;done)
   exact gw.mz VR UQ Mm jF.1 G6
  have avj:bz S ev (bJ st.k ws) w' (OL (rs.map (lj B))) (pack us):=by
   unfold pack
   match gD:rs.map (lj B),us,avk with
   |[],[],_=>exact⟨[],rfl,trivial⟩
   |[r],[h1],dh=>
    simp only[OL];have:=dh.1;exact eF.zu this
   |r::aGW::l,h1::ajO::us,dh=>
    rw[dif_neg (by simp)];exact⟨_,rfl,dh⟩
  refine rX ev _ ws (pack us) w' qj au8 avj λb d=> ?_;have afz: ∀i,i<H'.length->(∃y,H'[i]? =some y/\y≠[])-> ∃p c,(B i,p,c)∈ws:=λi _ ⟨y,M,jG⟩=>by
   have:=D2 (σ:=B) H' 0 i 0 y M (List.length_pos_iff.2 jG);rw[db]at this;exact⟨0,_,this⟩
  by_cases u:b∈L
  .right;obtain⟨y,M,Z⟩:=afQ _ _ (zz u);obtain⟨_,kc,su,hG⟩:=Hv (Cr b u);have:=afz (pos L b) (il.1 M).1 ⟨y,M,λe=>by rw[hG,e]at Z;simp at Z⟩;rwa [MY b u]at this
  .by_cases K:R b
   .right;obtain⟨i,i1,Y,rfl⟩:=yT b K;have M:H'[i]? =some H'[i]:=cM Y;exact afz i Y ⟨_,M,Vz i _ i1 M⟩
   .left;rw[tV b u K]at d;exact d
end
def dM(E:Env)(T:TypeId)(K:bS->Prop):Prop:=
 match E.ty T with
 |some t=>K t
 |none=>False
def Ht(t:bS)(x:J):Bool:=
 match t.d,x with
 | .string,.str _=>true
 | .string,_=>false
 | .slice ..,.str _=>false
 | .slice ..,_=>true
 |_,_=>false
def uo(H:Heap)(x:J)(K:J->Prop):Prop:=
 match x with
 | .ptr .. =>K x
 | .ref _=>K x
 | .fN b k _ _=>match I H b 0 with
   | .ad _ _ n _=>k=n/\K x
   |_=>False
 |_=>False
def y7(a:FuncId->Bool)(f:FuncId)(aa:List J):Bool:=
 match afa aa with
 |true=>true
 |false=>a f
def Ap(E:Env)(H:Heap)(aC:Nat)(c:J)(b:List J)(K:J->b5->Prop):Prop:=
 match c with
 | .fn f a=>match y7 E.eA f (b++a)with
   |true=>og E H aC f (b++a) K
   |false=>de (a.all ny) (va E H aC f (b++a) K)
 |_=>False
def aaC(a:List J)(d:Op):Bool:=
 match d with
 | .call c=>match c.callee with
   | .value x=>match aE a x with
     | .fn _ b=>afa (c.args.toList.map (aE a)++b)
     |_=>false
   | .builtin .append=>match c.args.toList with
     |x::_=>match aE a x with
      | .own .. =>true
      |_=>false
     |[]=>false
   |_=>false
 |_=>false
def uk(b:List J)(H:Heap)(a:Op):Nat:=
 match aaC b a with
 |true=>H.length+32
 |false=>H.length
def HE(a:List J)(H:Heap)(op:Op):H.length<=uk a H op:=by
 unfold uk
 cases aaC a op
 .exact bN _
 .exact qO _ _
def iw(E:Env)(aC:Nat)(a:List J)(H:Heap)(d:Op)(K:J->b5->Prop):Prop:=
 match d with
 | .move x=>K (aE a x) []
 | .assign x=>K (aE a x) []
 | .pick c x y=>match aE a c with
   | .bool b=>H4 b (aE a x) (aE a y) λav=>K av []
   | .lit b=>H4 b (aE a x) (aE a y) λav=>K av []
   |_=>False
 | .alloc T=>dM E T λt=>de (!t.zero.isEmpty) (K (.ptr aC 0) (h3 aC t.zero 0))
 | .box _ x=>de (oA (aE a x)&& !(cellsOf (aE a x)).isEmpty) (K (.ptr aC 0) (h3 aC (cellsOf (aE a x)) 0))
 | .build T e=>dM E T λt=>match t.d with
   | .struct r=>nw r a e.toList t.zero λcs=>K (.agg cs) []
   |_=>False
 | .load T x=>dM E T λt=>oq t H (aE a x) λav=>K av []
 | .store T x y=>dM E T λt=>uJ t H (aE a x) (aE a y) λs=>K .undef s
 | .nilCheck x=>uo H (aE a x) λav=>K av []
 | .binOp d T x y _=>dM E T λt=>pJ t d (eT (aE a x)) (eT (aE a y)) λav=>K av []
 | .unOp d _ x=>zQ d (aE a x) λav=>K av []
 | .fieldAddr T x f=>dM E T λt=>sV t H f (aE a x) λav=>K av []
 | .indexAddr T x y=>dM E T λt=>tW t H (aE a x) (aE a y) λav=>K av []
 | .index T x y=>dM E T λt=>wj E.ty t (aE a x) (aE a y) λav=>K av []
 | .extract x i=>AL i (aE a x) λav=>K av []
 | .buildSlice T q e=>dM E T λt=>q5 t a H aC q e.toList K
 | .makeSlice T l c=>dM E T λt=>r7 E t a aC l c K
 | .slice T x l h m=>dM E T λt=>si t H a (aE a x) l h m K
 | .convert o n x=>dM E o λt=>dM E n λu=>sO t u (vd E t u) H (aE a x) λav=>K av []
 | .makeFunc p first j=>match p with
   | .func f=>de (first.toList.isEmpty&&(j.toList.map (aE a)).all aaM) (K (.fn f (j.toList.map (aE a))) [])
   |_=>False
 | .call c=>match c.callee with
   | .value x=>Ap E H aC (aE a x) (c.args.toList.map (aE a)) K
   | .builtin b=>match b with
     | .len=>match c.args.toList,c.argTypes.toList with
       |[x],[T]=>dM E T λt=>de (Ht t (aE a x)) (qs H (aE a x) λav=>K av [])
       |_,_=>False
     | .append=>match c.args.toList,c.argTypes.toList with
       |[x,y],[T,k]=>dM E T λt=>dM E k λg=>de (g.d.isStr||g.d.tY) (oI t g.d.isStr H aC (aE a x) (aE a y) K)
       |_,_=>False
     | .min=>match c.args.toList with
       |[x,y]=>zk (aE a x) (aE a y) λav=>K av []
       |_=>False
     | .max=>match c.args.toList with
       |[x,y]=>zi (aE a x) (aE a y) λav=>K av []
       |_=>False
     |_=>False
   |_=>False
 |_=>False
def r0:Op->Bool
 | .alloc _| .box .. | .buildSlice .. | .makeSlice .. =>true
 | .call c=>match c.callee with
   | .value _=>true
   | .builtin .append=>true
   |_=>false
 |_=>false
section
variable {E:Env} {S:eb} {ι:Nat->Option Nat} {st:O} {a:Act} {w:World}
def j6{T:TypeId}{K:bS->Prop}(a:E.dE)(h:dM E T K): ∃t,gS E.P T t/\E.ty T=some t/\K t:=by
 unfold dM at h
 cases e:E.ty T with
 |none=>rw[e]at h;exact h.elim
 |some t=>rw[e]at h;exact⟨t,a.ty T t e,rfl,h⟩
def aAS{o:Oper}{x:Operand}(m:o.op= .nilCheck x)(h:aY S ι st a w){K:J->Prop}(b:uo st.k (aE st.D x) K){next:Act->World->Prop}{Q:Exit->Act->World->Prop}
  (f: ∀av v,K av->bz S ι st.k w av v->next (a.put o.dst v) w):o.wp E.P a w next Q:=by
 have c:=h.eval x;have i: ∀(p:Addr),a.eval x= .pointer (some p)->(execOp a.eval o).run E.P w= .ok (.value (a.eval x)) w:=λp e=>by simp [execOp,m,e]
 cases e:aE st.D x<;>rw[e]at b c<;>simp only[uo]at b<;>try exact b.elim
 .obtain⟨_,y,_,d⟩:=(show eE S ι st.k w (.ptr _ _) _ from c);exact dx (i _ d) (f _ _ b c)
 .obtain⟨_,s,t,n,g,k,q,l⟩:=(show eE S ι st.k w (.fN _ _ _ _) _ from c);rw[k]at b;simp only at b;obtain⟨y,r,d⟩:=l b.1;exact dx (i _ d) (f _ _ b.2 c)
 .rename_i cs;have j:a1 w (aT S ι st.k w) (.ref cs) (a.eval x):=c;generalize d:a.eval x=v at j
  cases j
  exact dx (i _ d) (f _ _ b c)
def aal(n:E.dE){o:Oper}(h:aY S ι st a w){aC:Nat}{oF:Nat->Prop}(s:r0 o.op=true->oF aC/\ ∀b,oF b->(∀p,I st.k b p= .undef)/\ι b=none){K:J->b5->Prop}(GI: ∀av G,K av G-> ∀b p c,(b,p,c)∈G->aC<b->oF b)(d:iw E aC st.D st.k o.op K){next:Act->World->Prop}{Q:Exit->Act->World->Prop}
  (F: ∀az av G v w',K av G->aY S az ⟨st.D,bJ st.k G⟩ a w'->bz S az (bJ st.k G) w' av v->(∀b,az b≠none->ι b≠none\/ ∃p c,(b,p,c)∈G)->next (a.put o.dst v) w'):o.wp E.P a w next Q:=by
 have u: ∀av v,K av []->bz S ι st.k w av v->next (a.put o.dst v) w:=λav v z N=>F ι av [] v w z h N λb D=> .inl D
 have afj: ∀(cs:List J),cs.isEmpty=false-> ∃p c,(aC,p,c)∈h3 aC cs 0:=λcs L=>by
  cases cs with
  |nil=>cases L
  |cons c cs=>exact⟨0,c,by simp [h3]⟩
 cases j:o.op<;>rw[j]at d s<;>simp only[iw]at d<;>try exact d.elim
 case move x=>exact dx (by simp [execOp,j]) (u _ _ d (h.eval x))
 case assign x=>exact dx (by simp [execOp,j]) (u _ _ d (h.eval x))
 case pick c x y=>
  have L:=h.eval c
  cases e:aE st.D c<;>rw[e]at d L<;>simp only at d<;>try exact d.elim
  .exact aip j L.bool h d u
  .exact aip j L.lit h d u
 case alloc T=>
  obtain⟨t,k,_,d⟩:=j6 n d;simp only[aF,jn]at d;obtain⟨P,z⟩:=d;obtain⟨B,C⟩:=(s rfl).2 aC (s rfl).1;exact an9 j k h B C (by intro e;rw[e]at P;cases P) λaz w' v W M N=>F az _ _ v w' z M N λb D=>(W b D).imp id λe=>by subst e;exact afj _ P
 case box T x=>
  simp only[aF,b4,jn]at d;obtain⟨⟨fe,P⟩,z⟩:=d;obtain⟨B,C⟩:=(s rfl).2 aC (s rfl).1;exact aov j h B C fe (by intro e;rw[e]at P;cases P) λaz w' v W M N=>F az _ _ v w' z M N λb D=>(W b D).imp id λe=>by subst e;exact afj _ P
 case build T C2=>
  obtain⟨t,k,_,d⟩:=j6 n d
  cases Z:t.d<;>rw[Z]at d<;>simp only at d<;>try exact d.elim
  exact aoA j k Z h d u
 case load T x=>
  obtain⟨t,k,_,d⟩:=j6 n d;exact azF j k h d u
 case store T x y=>
  obtain⟨t,k,_,d⟩:=j6 n d;exact aDP j k h d λG w' z M=>F ι _ G _ w' z M trivial λb D=> .inl D
 case nilCheck x=>exact aAS j h d u
 case binOp op T x y lx=>
  obtain⟨t,k,_,d⟩:=j6 n d;exact aos j k h d u
 case unOp op T x=>exact aEw j h d u
 case fieldAddr T x f=>
  obtain⟨t,k,_,d⟩:=j6 n d;exact aqy j k h d u
 case indexAddr T x y=>
  obtain⟨t,k,_,d⟩:=j6 n d;exact avJ j k h d u
 case index T x y=>
  obtain⟨t,k,_,d⟩:=j6 n d;exact avB n.ty j k h d u
 case extract x i=>exact aqj j h d u
 case buildSlice T len C2=>
  obtain⟨t,k,_,d⟩:=j6 n d;obtain⟨B,C⟩:=(s rfl).2 aC (s rfl).1;exact aoz j k h B C d F
 case makeSlice T l c=>
  obtain⟨t,k,_,d⟩:=j6 n d;obtain⟨B,C⟩:=(s rfl).2 aC (s rfl).1;exact azZ n j k h B C d F
 case slice T x l hh m=>
  obtain⟨t,k,_,d⟩:=j6 n d;exact aDE j k h d λav G v z M N=>F ι av G v w z M N λb D=> .inl D
 case convert Z9 Z3 x=>
  obtain⟨t,k,_,d⟩:=j6 n d;obtain⟨h1,wc,_,d⟩:=j6 n d;exact aps n j k wc h d λav v w' z M N=>F ι av [] v w' z M N λb D=> .inl D
 case makeFunc fn first X=>
  cases hD:fn<;>rw[hD]at d<;>simp only at d<;>try exact d.elim
  rename_i f;obtain⟨L,z⟩:=aF.1 d;simp only[b4]at L;have aum:first= #[]:=py (by simpa using L.1)
  refine dx (v:= .func (.func f) #[] (X.map a.eval)) (w':=w) (by simp [execOp,j,hD,aum,Instr.makeFunc]) (u _ _ z ?_);refine⟨X.toList.map a.eval,by apply congrArg (Value.func (.func f) #[]);apply py;simp,?_⟩;refine a6.mk (by simp) λi p q cx jk=> ?_;simp only[g_,mC]at cx jk;obtain⟨g,Y,rfl⟩:=cx;obtain⟨r,R,rfl⟩:=jk;rw[Y]at R;cases R;have yR:=dK.1 L.2 (aE st.D g) (px.2 ⟨g,ft Y,rfl⟩);have yS:=h.eval g;generalize aE st.D g=c at yR yS
  cases c<;>first|(cases yR;done)|exact yS
 case call c=>
  cases A:c.callee with
  |value f=>
   rw[A]at d;simp only at d;have s:=s (by simp [r0,A]);obtain⟨B,C⟩:=s.2 aC s.1;unfold Ap at d
   cases hD:aE st.D f<;>rw[hD]at d<;>simp only at d<;>try exact d.elim
   rename_i eI jx
   cases JJ:y7 E.eA eI (c.args.toList.map (aE st.D)++jx)with
   |true=>
    rw[JJ]at d;exact at5 n j A hD h s.1 s.2 GI d F
   |false=>
    rw[JJ]at d;obtain⟨U7,d⟩:=aF.1 d;exact aoZ n j A hD U7 h B C d F
  |invoke fu m=>rw[A]at d;exact d.elim
  |builtin b=>
   rw[A]at d
   cases b<;>simp only at d<;>try exact d.elim
   case append=>
    have s:=s (by simp [r0,A]);obtain⟨B,C⟩:=s.2 aC s.1
    split at d
    .rename_i x y T w7 O U;obtain⟨t,k,_,d⟩:=j6 n d;obtain⟨t2,UW,_,d⟩:=j6 n d;obtain⟨H,d⟩:=aF.1 d;refine aoh (str:=t2.d.isStr) j A (py (by simpa using O)) (py (by simpa using U)) k ?_ h B C d F;have V:=UW.d
     cases e:t2.d<;>rw[e]at H V<;>simp only[sG.isStr,sG.tY]at H |- <;>first|(cases H;done)|exact V|exact⟨_,V.1⟩
    .exact d.elim
   case min=>
    split at d
    .rename_i x y O;exact az9 j A (py (by simpa using O)) h d u
    .exact d.elim
   case max=>
    split at d
    .rename_i x y O;exact az4 j A (py (by simpa using O)) h d u
    .exact d.elim
   case len=>
    split at d
    .rename_i x T O U;obtain⟨t,k,_,d⟩:=j6 n d;obtain⟨H,d⟩:=aF.1 d;refine azw j A (py (by simpa using O)) (py (by simpa using U)) k h ?_ d ?_ u
     .unfold Ht at H;cases e:t.d<;>rw[e]at H<;>first|rfl|(cases H;done)
     .unfold Ht at H;cases e:t.d<;>cases R:aE st.D x<;>rw[e,R]at H<;>first|rfl|(cases H;done)
    .exact d.elim
end
def kh(b:Option Nat)(av:J)(a:List J):List J:=
 match b with
 |some d=>a.set d av
 |none=>a
def wa(ops:Array Oper)(o:Oper)(st:O)(a skip:Prop):Prop:=
 match o.guard with
 |none=>a
 |some (j,c)=>match(ops[j]?).bind (·.dst)with
  |some d=>match st.D.getD d .undef with
   | .lit b=>match b==c with
     |true=>a
     |false=>skip
   | .gone=>skip
   |_=>False
  |none=>False
def IE:List Oper->Nat->Bool
 |[],_=>false
 |o::r,i=>(match o.guard with
  |some (j,_)=>j==i
  |none=>false)||IE r i
def Ai(E:Env)(ops:Array Oper):List Oper->Nat->O->(O->Prop)->Prop
 |[],_,st,K=>K st
 |o::a,i,st,K=>wa ops o st (iw E (uk st.D st.k o.op) st.D st.k o.op λav b=>CF (IE a i) av λav=>Ai E ops a (i+1) ⟨kh o.dst av st.D,bJ st.k b⟩ K)
   (Ai E ops a (i+1) ⟨kh o.dst .gone st.D,st.k⟩ K)
section
variable {E:Env} {S:eb} {ι:Nat->Option Nat} {st:O} {a:Act} {w:World}
def aY.dst(h:aY S ι st a w)(d:Option Nat){av:J}{v:Value}(b:bz S ι st.k w av v):aY S ι ⟨kh d av st.D,st.k⟩ (a.put d v) w:=by
 cases d with
 |none=>exact h
 |some d=>exact h.put d b
def I4(av r:J):Prop:=av=r\/ ∃b,av= .bool b/\r= .lit b
def I4.rel{H:Heap}{av r:J}{v:Value}(h:I4 av r)(a:bz S ι H w av v):bz S ι H w r v:=by
 rcases h with rfl|⟨b,rfl,rfl⟩
 .exact a
 .have:a1 w (aT S ι H w) (.bool b) v:=a
  cases this
  exact a1.lit b
def ahg{a:Bool}{av:J}{K:J->Prop}(h:CF a av K): ∃r,I4 av r/\K r:=by
 unfold CF at h
 cases a with
 |false=>exact⟨av,.inl rfl,h⟩
 |true=>
  cases av
  case bool b=>
   cases b
   .exact⟨_,.inr ⟨false,rfl,rfl⟩,h.2 rfl⟩
   .exact⟨_,.inr ⟨true,rfl,rfl⟩,h.1 rfl⟩
  all_goals exact⟨_,.inl rfl,h⟩
def sl(ops:Array Oper)(o:Oper)(a:List J):Option Bool:=
 match o.guard with
 |none=>some true
 |some (j,c)=>match(ops[j]?).bind (·.dst)with
  |some d=>match a.getD d .undef with
   | .lit b=>some (b==c)
   | .gone=>some false
   |_=>none
  |none=>none
def ae2{ops:Array Oper}{o:Oper}{st:O}{g skip:Prop}(a:wa ops o st g skip):
  (sl ops o st.D=some true/\g)\/(sl ops o st.D=some false/\skip):=by
 unfold wa at a;unfold sl
 cases f:o.guard with
 |none=>rw[f]at a;exact .inl ⟨rfl,a⟩
 |some q=>
  obtain⟨j,i⟩:=q;rw[f]at a;simp only at a |-
  cases c:(ops[j]?).bind (·.dst)with
  |none=>rw[c]at a;exact a.elim
  |some d=>
   rw[c]at a;simp only at a |-
   cases h:st.D.getD d .undef<;>rw[h]at a<;>simp only at a<;>try exact a.elim
   .rename_i b
    cases e:(b==i)with
    |true=>rw[e]at a;exact .inl ⟨by simp [e],a⟩
    |false=>rw[e]at a;exact .inr ⟨by simp [e],a⟩
   .exact .inr ⟨rfl,a⟩
def Y5{ops:Array Oper}{o:Oper}(h:aY S ι st a w){b:Bool}(f:sl ops o st.D=some b):Region.wanted o (yielded ops a.tmps)=b:=by
 unfold sl at f;unfold Region.wanted
 cases p:o.guard with
 |none=>rw[p]at f;cases f;rfl
 |some q=>
  obtain⟨j,t⟩:=q;rw[p]at f;simp only at f |-
  cases g:(ops[j]?).bind (·.dst)with
  |none=>rw[g]at f;cases f
  |some d=>
   rw[g]at f;simp only at f;have get: ∀x,st.D.getD d .undef=x->x≠ .undef->st.D[d]? =some x:=λx i s=>by
    cases e:st.D[d]? with
    |none=>simp [List.getD,e]at i;exact absurd i.symm s
    |some av=>simp [List.getD,e]at i;rw[i]
   cases m:st.D.getD d .undef<;>rw[m]at f<;>simp only at f<;>try (cases f;done)
   .rename_i c;obtain⟨v,k,l⟩:=h.D d _ (get _ m (by simp));have:=bz.lit l;subst this;have n:yielded ops a.tmps j=some c:=by simp [yielded,g,k]
    rw[n];simp only[g9]at f;rw[<-f]
    cases c<;>cases t<;>rfl
   .obtain⟨v,k,l⟩:=h.D d _ (get _ m (by simp));have r:v=undef:=l;subst r;have n:yielded ops a.tmps j=none:=by simp [yielded,g,k,undef]
    rw[n]
    cases f;rfl
def Q4(e:E.dE){ops:Array Oper}{Q:Exit->Act->World->Prop} : ∀(l:List Oper) (i:Nat) (ι:Nat->Option Nat) (st:O) (a:Act) (w:World) (K:O->Prop),aY S ι st a w->Ai E ops l i st K->
  (∀ι st a w,aY S ι st a w->K st->Q .normal a w)->wpList E.P ops Q l a w
 |[],_,ι,st,a,w,K,h,g,d=>d ι st a w h g
 |o::l,i,ι,st,a,w,K,h,g,d=>by
  unfold wpList;rcases ae2 g with⟨k,j⟩|⟨k,j⟩
  .rw[a5 (Y5 h k)];refine .inl (aal e h (oF:=λb=>uk st.D st.k o.op<=b) (λ_=>⟨bN _,λb c=>⟨λp=>tQ (dP (HE _ _ _) c) p,h.NT (dP (HE _ _ _) c)⟩⟩) (λ_ _ _ b _ _ _ c=>Nat.le_of_lt c) j λaz av s v w' f n q _=> ?_);obtain⟨r,m,f⟩:=ahg f;exact Q4 e l (i+1) az _ _ w' K (aY.dst n o.dst (m.rel q)) f d
  .rw[aS (by rw[Y5 h k];simp)];exact Q4 e l (i+1) ι _ _ w K (aY.dst h o.dst (av:= .gone) rfl) j d
end
end Go.af
