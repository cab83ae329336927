import Derived.Test.YtfmgjpcmcjjoiaaGreatDoorXb
open Go.IntKind (i64 u64 u8)
open Int (toNat)
set_option maxRecDepth 100000
set_option maxHeartbeats 4000000
set_option linter.all false
noncomputable section
namespace Go.af
open Go Go.RowKit
section
variable {E:Env} {S:dM} {ι:Nat→Option Nat} {st:K} {a:Act} {w:World}
theorem agj(h:aP S ι st a w){e:Nat} : ∀(d:List (Nat×Operand)) (k:Nat) (l:List (List J)),kH e st.n d k=some l→
  l.length=d.length∧(d.map fun p=>(p.1,a.eval p.2))=((d.map fun p=>a.eval p.2).zipIdx k).map (fun x=>(x.2,x.1))∧(∀v∈d.map (fun p=>a.eval p.2),v.cells.size=e)∧
  aU (fun cs v=>aU (eg S ι st.k w) cs v.cells.toList) l (d.map fun p=>a.eval p.2)
 |[],k,l,b=>by
  simp only[kH,gM]at b;subst b;exact⟨rfl,rfl,fun v c=>by simp at c,trivial⟩
 |(i,x)::r,k,l,b=>by
  simp only[kH]at b
  split at b
  ·rename_i j;simp only[bL]at j;obtain⟨f,⟨u,g⟩,A⟩:=j;have f:i=k:=dQ f;subst f;have g:(cellsOf (eD (ax st.n x))).length=e:=dQ g
   split at b
   ·rename_i z t;simp only[gM]at b;subst b;obtain⟨n,o,q,s⟩:=agj h r (i+1) z t;have m:=eh.cells (Bw (h.eval x)) u;have y:(a.eval x).cells.size=e:=by rw[←g,m.length];simp
    refine⟨by simp [n],by simp [List.zipIdx_cons,o],fun v c=> ?_,m,s⟩;simp only[G8,hS]at c;rcases c with rfl|c
    ·exact y
    ·exact q v c
   ·cases b
  ·cases b
theorem aal{H:Heap}(h:aP S ι st a w): ∀(e:List (List J)) (us:List Value) (K:List (List J)→Prop),(∀b∈e.flatten.flatMap oh,∀p k n f,B H b 0= .ad p k n f→B st.k b 0= .ad true k n f)→aU (fun cs (v:Value)=>aU (eg S ι st.k w) cs v.cells.toList) e us→mJ H e K→ ∃g,K g∧aU (fun cs (v:Value)=>aU (aR w (aK S ι st.k w)) cs v.cells.toList) g us
 |[],[],K,_,_,c=>⟨[],c,trivial⟩
 |l::e,u::us,K,j,d,c=>by
  simp only[mJ]at c;obtain⟨y,c,m⟩:=QE h l _ _ (fun b i=>j b (by simp only[yI,yJ,g8];exact .inl i)) d.1 c;obtain⟨g,c,o⟩:=aal h e us _ (fun b i=>j b (by simp only[yI,yJ,g8];exact .inr i)) d.2 c;exact⟨y::g,c,m,o⟩
 |[],_::_,_,_,d,_=>d.elim
 |_::_,[],_,_,d,_=>d.elim
theorem ayV{c:J}{b:Nat}(h:b∈oh c):b∈qW c:=by
 cases c<;>simp only[oh,qW]at h ⊢ <;>first|exact h|(cases h;done)
theorem amp{o:Oper}{T:TypeId}{t:bD}{len:Nat}{k:Array (Nat×Operand)}(ed:o.op= .buildSlice T len k)(jc:gl E.P T t)(h:aP S ι st a w){au:Nat}(Z: ∀o,B st.k au o= .undef)(pg:ι au=none){K:J→bM→Prop}
  (m:pZ t st.n st.k au len k.toList K) {next:Act→World→Prop} {Q:Exit→Act→World→Prop}
  (qK: ∀an av ws v w',K av ws→aP S an ⟨st.n,bt st.k ws⟩ a w'→bg S an (bt st.k ws) w' av v→(∀b,an b≠none→ι b≠none∨ ∃p c,(b,p,c)∈ws)→next (a.put o.dst v) w'):o.wp E.P a w next Q:=by
 have V:=jc.d;unfold pZ at m
 cases O:t.d<;>rw[O]at m<;>simp only at m<;>try exact m.elim
 rename_i e lo lX;rw[O]at V;obtain⟨hu,i,X,ni,u9,A4,adr⟩:=V;subst ni;obtain⟨N,hf⟩:=Option.isSome_iff_exists.1 A4
 cases I:kH i.size st.n k.toList 0 with
 |none=>rw[I]at m;exact m.elim
 |some l=>
  rw[I]at m;obtain⟨s,m⟩:=ay.1 m;simp only[bL,hj]at s;obtain⟨⟨⟨Y,G⟩,F⟩,Lh⟩:=s;have Y:l.length=len:=dQ Y;have G:len≤4096:=gL G;have F:i.size≤4096:=gL F;obtain⟨hZ,iB,R,k5⟩:=agj h _ _ _ I;have L:(k.toList.map fun p=>a.eval p.2).length=len:=by rw[List.length_map];omega
  obtain⟨W,Fw⟩:=h.freeze (H':=bt st.k (ew st.k l.flatten)) (vr _) (qM _ _);obtain⟨M,⟨hh,u7,pd⟩,r⟩:=aal (H:=st.k) W l _ _ (fun b iF ro b6 n f he=>GG (by
   obtain⟨c,arv,D⟩:=lf.1 iF;exact lf.2 ⟨c,arv,ayV D⟩) he) (k5.imp fun _ _ q=>q.imp fun _ _ c3=>c3.step Fw) m
  have Fp: ∀o,B (bt st.k (ew st.k l.flatten)) au o= .undef:=fun o=>by
   rcases vr (H:=st.k) l.flatten au o with g|⟨_,ro,b6,n,f,g,_⟩
   ·rw[g];exact Z o
   ·rw[Z 0]at g;cases g
  have P: ∀C:Array Value,(Instr.buildSlice T len (k.map fun(i,x)=>(i,a.eval x))).run E.P w= .ok (.slice (some ⟨w.heap.size,0,none⟩) len len) (w.alloc (.cells C e))→C.size=len*i.size→
    (∀d j,d<len→j<i.size→C[d*i.size+j]? =((k.toList.map fun p=>a.eval p.2)[d]?).bind fun v=>v.cells[j]?)→o.wp E.P a w next Q:=fun C n_ kB j2=>by
   have U:Below w.heap.size w (w.alloc (.cells C e)):=(Below.refl _ w).alloc (bC _) _;have gv:pW w.heap.size (w.alloc (.cells C e)) (aK S ι (bt st.k (ew st.k l.flatten)) w) (.ad false i.size len hh) (.slice (some ⟨w.heap.size,0,none⟩) len len):=by
    refine .inr ⟨w.heap.size,len,C,e,bC _,by simp,rfl,bC _,by have nd:dj=549755813888:=rfl;omega,rk w _,kB,fun d j u A=> ?_⟩;have aD7:M.length=len:=by rw[r.length];exact L
    obtain⟨row,adN⟩: ∃row,M[d]? =some row:=⟨_,cI (show d<M.length by omega)⟩;obtain⟨v,gY,fX⟩:=r.get d row adN;have pf:v.cells.size=i.size:=R v (e0 gY);have hlen:row.length=i.size:=by rw[fX.length];simpa using pf
    obtain⟨c,s⟩: ∃c,row[j]? =some c:=⟨_,cI (show j<row.length by omega)⟩;obtain⟨eo,h3,xX⟩:=fX.get j c s;have adF:=u7 d u;rw[List.getD,adN]at adF;obtain⟨z,D,ase⟩:=Me j c adF s;refine⟨z,eo,D,?_,U3 ase (xX.mono (fun y r=>⟨r,fun e=> ?_⟩) fun y o r=>U.cell r.2.1)⟩
    ·rw[j2 d j u A,gY];simpa using h3
    ·subst e;exact absurd r.2.1 (Nat.lt_irrefl _)
   obtain⟨an,av,M4,q1,fh,yk,VS⟩:=V4 (st:=st) (ws:=ew st.k l.flatten) W U gv (fun y r=> .inl r) Fp pg pd;refine di (v:= .slice (some ⟨w.heap.size,0,none⟩) len len) (w':=w.alloc (.cells C e)) ?_ (qK _ _ _ _ _ q1 fh yk VS);simp only[execOp,ed];rw[Sem.run_bind,n_];rfl
  have asr:(k.map fun(i,x)=>(i,a.eval x)).toList=((k.toList.map fun p=>a.eval p.2).zipIdx 0).map (fun x=>(x.2,x.1)):=by rw[←iB];simp
  by_cases eW:len=0
  ·subst eW;refine P #[] ?_ (by simp) (fun d j u=>by omega);have ass:k.toList=[]:=by
    have:k.toList.length=0:=by omega
    exact WU this
   have Ty:k= #[]:=oy (by simpa using ass);have asu:(Array.range 0)= #[]:=rfl;simp [asu,Instr.buildSlice,eY hu,sizeOf,typeInfo,X,Ty,Instr.fill,newRow]
  ·obtain⟨C,Gz,VW,az4⟩:=Great.fill_dense Lh (k.toList.map fun p=>a.eval p.2) 0 ((Array.range (len*i.size)).map (N.cells[· %N.cells.size]!)) R (by rw[L];simp);have hmul:len*i.size≤16777216:=Nat.mul_le_mul G F;refine P C (run_buildSlice w T e len _ C i N hu X hf (by omega) (fun h=>by rcases Nat.mul_eq_zero.1 h with h|h<;>omega) (by rw[asr];exact Gz)) (by rw[VW];simp) (fun d j u A=> ?_);have gu:d*i.size+j<len*i.size:=by
    have:(d+1)*i.size≤len*i.size:=g7 _ u;rw[ir]at this;omega
   have jS:(d*i.size+j)/i.size=d:=by
    rw[tB,Nat.mul_add_div (by omega),Nc A];omega
   have fJ:(d*i.size+j)%i.size=j:=by
    rw[tB,Nat.mul_add_mod,Nd A]
   rw[az4,L,bf ⟨by simp,by rw[c1];exact gu⟩,jS,fJ,Nat.sub_zero]
theorem amk(h:aP S ι st a w){x:Operand}{k:IntKind}{z:Int}(b:ax st.n x= .int k z):a.eval x= .int k z:=by
 have:=h.eval x;rw[b]at this;exact bg.int this
def k8(m:Option Operand)(c:Nat)(a:Int):Nat:=
 match m with
 |none=>c
 |some _=>a.toNat
theorem PL(h:aP S ι st a w)(C:Bool)(o n:Nat)(l hh m:Option Operand){K:Int→Int→Int→Prop}(b:cH st.n 0 l fun j=>cH st.n o hh fun f=>cH st.n f m fun g=>(0≤j∧j≤f∧f≤g∧g≤o)∧K j f g)(H:o≤n)(B:hh=none→m=none):
  ∃j f g:Int,(0≤j∧j≤f∧f≤g∧g≤o)∧K j f g∧(m=none→g=f)∧(Instr.sliceBounds C o n (l.map a.eval) (hh.map a.eval) (m.map a.eval)).run E.P w= .ok (j.toNat,f.toNat,k8 m n g) w:=by
 have q: ∀{x:Operand} {s:Int→Prop} (d:Int),cH st.n d (some x) s→ ∃k z,a.eval x= .int k z∧s z:=fun {x s} d b=>by
  simp only[cH]at b
  cases e:ax st.n x<;>rw[e]at b<;>simp only at b<;>try exact b.elim
  exact⟨_,_,amk h e,b⟩
 cases l with
 |none=>
  simp only[cH]at b
  cases hh with
  |none=>
   have:=B rfl;subst this;simp only[cH]at b;refine⟨_,_,_,b.1,b.2,fun _=>rfl,?_⟩;simp [k8,Instr.sliceBounds]
  |some D=>
   obtain⟨r,c,p,b⟩:=q 0 b
   cases m with
   |none=>
    simp only[cH]at b;refine⟨_,_,_,b.1,b.2,fun _=>rfl,?_⟩;simp [k8,Instr.sliceBounds,p,run_sliceBound w r c n _ (by omega) (by omega)]
   |some F=>
    obtain⟨v,i,u,b⟩:=q 0 b;refine⟨_,_,_,b.1,b.2,fun h=>(by cases h),?_⟩;have A:(i.toNat:Int)=i:=Na (by omega);simp [k8,Instr.sliceBounds,p,u,run_sliceBound w v i n _ (by omega) (by omega),run_sliceBound w r c i.toNat _ (by omega) (by omega)]
 |some I=>
  obtain⟨ar,y,t,b⟩:=q 0 b
  cases hh with
  |none=>
   have:=B rfl;subst this;simp only[cH]at b;refine⟨_,_,_,b.1,b.2,fun _=>rfl,?_⟩;simp [k8,Instr.sliceBounds,t,run_sliceBound w ar y o _ (by omega) (by omega)]
  |some D=>
   obtain⟨r,c,p,b⟩:=q 0 b
   cases m with
   |none=>
    simp only[cH]at b;refine⟨_,_,_,b.1,b.2,fun _=>rfl,?_⟩;have A:(c.toNat:Int)=c:=Na (by omega);simp [k8,Instr.sliceBounds,t,p,run_sliceBound w r c n _ (by omega) (by omega),run_sliceBound w ar y c.toNat _ (by omega) (by omega)]
   |some F=>
    obtain⟨v,i,u,b⟩:=q 0 b;refine⟨_,_,_,b.1,b.2,fun h=>(by cases h),?_⟩;have A:(i.toNat:Int)=i:=Na (by omega);have G:(c.toNat:Int)=c:=Na (by omega);simp [k8,Instr.sliceBounds,t,p,u,run_sliceBound w v i n _ (by omega) (by omega),run_sliceBound w r c i.toNat _ (by omega) (by omega),run_sliceBound w ar y c.toNat _ (by omega) (by omega)]
end
section
variable {E:Env} {S:dM} {ι:Nat→Option Nat} {st:K} {a:Act} {w:World}
theorem aR.part{F:Nat→Prop}{k n c m l hh p:Nat}{f:Nat→List J}{a:Option Addr}(A:k=p)(h:aR w F (.arr k n f) (.slice a n c))(C:l≤hh)(D:hh≤n)(E:hh≤m)(z:n=0→a=none→m=0):
  aR w F (.arr k (hh-l) fun i=>f (l+i)) (.slice (if m=l then a else a.map (·.add (l*p))) (hh-l) (m-l)):=by
 subst A
 by_cases u:hh-l=0
 ·rw[u]
  cases a with
  |none=>
   cases h with
   |nil=>
    have y:=z rfl rfl;have x:l=0:=by omega
    subst y;subst x;exact .nil _ _
  |some a=>
   by_cases e:m=l
   ·rw[bf e];exact .mt _ _ _ _
   ·rw[a7 e];exact .mt _ _ _ _
 ·have e:m≠l:=by omega
  rw[a7 e]
  cases h with
  |nil=>omega
  |mt=>omega
  |arr _ _ _ b o c g B H G v r s t=>
   simp only[rj,Addr.add_lit];refine .arr k (hh-l) _ b (o+l*k) (m-l) (fun i=>g (l+i)) (fun i=>B (l+i)) (by omega) (by omega) (fun _=>v (by omega)) (fun i j q d=>r _ _ (by omega) d) (fun i j q d=> ?_) (fun i j q d=>t _ _ (by omega) d);have:=s (l+i) j (by omega) d;rw[←this,hi]
   congr 2;omega
theorem aA3{o:Oper}{T:TypeId}{t:bD}{x:Operand}{l hh m:Option Operand}(ed:o.op= .slice T x l hh m)(jc:gl E.P T t)(h:aP S ι st a w){K:J→bM→Prop}(q:q8 t st.k st.n (ax st.n x) l hh m K){next:Act→World→Prop}{Q:Exit→Act→World→Prop}
  (P: ∀av F v,K av F→aP S ι ⟨st.n,bt st.k F⟩ a w→bg S ι (bt st.k F) w av v→next (a.put o.dst v) w):o.wp E.P a w next Q:=by
 have I:=h.eval x;have C:=jc.d;unfold q8 at q;obtain⟨M,q⟩:=ay.1 q;have M:hh=none→m=none:=fun e=>by
  subst e
  cases m with
  |none=>rfl
  |some _=>simp at M
 cases nJ:t.d<;>rw[nJ]at q C<;>simp only at q<;>try exact q.elim
 ·
  cases O:ax st.n x<;>rw[O]at q I<;>simp only at q<;>try exact q.elim
  rename_i s
  cases m with
  |some _=>exact q.elim
  |none=>
   have ar2:cH st.n 0 l fun j=>cH st.n s.size hh fun g=>cH st.n g none fun k=>(0≤j∧j≤g∧g≤k∧k≤s.size)∧K (.str (s.extract j.toNat g.toNat)) []:=by
    have mono: ∀{d:Int} {o:Option Operand} {y K2:Int→Prop},(∀z,y z→K2 z)→cH st.n d o y→cH st.n d o K2:=fun {d o y K2} u p=>by
     cases o with
     |none=>exact u _ p
     |some x=>
      simp only[cH]at p ⊢
      cases e:ax st.n x<;>rw[e]at p<;>simp only at p ⊢ <;>first|exact p.elim|exact u _ p
    refine mono (fun j p=>mono (fun g G=> ?_) p) q;simp only[cH];exact⟨⟨G.1.1,G.1.2.1,cR _,G.1.2.2⟩,G.2⟩
   obtain⟨j,g,k,p,u,_,D⟩:=PL (E:=E) h false s.size s.size l hh none (K:=fun j g k=>K (.str (s.extract j.toNat g.toNat)) []) ar2 (bC _) (fun _=>rfl);have H:=bg.str I;have jA:=bg.Wz I;refine di (v:= .string (s.extract j.toNat g.toNat)) (w':=w) ?_ (P _ _ _ u h (bg.mkStr _ (by rw[ByteArray.size_extract];omega)));simp only[Option.map_none]at D;simp [execOp,ed,H,Instr.sliceAt,eY C,Instr.slice];rw[D];rfl
 ·rename_i e X lX;obtain⟨hu,i,A3,ni,_⟩:=C;have Y: ∀(A:Option Addr) (n c:Nat) (j g k:Int),a.eval x= .slice A n c→(Instr.sliceBounds true n c (l.map a.eval) (hh.map a.eval) (m.map a.eval)).run E.P w= .ok (j.toNat,g.toNat,(k8 m c k)) w→
    (execOp a.eval o).run E.P w= .ok (.value (.slice (if(k8 m c k)=j.toNat then A else A.map (·.add (j.toNat*X))) (g.toNat-j.toNat) ((k8 m c k)-j.toNat))) w:=fun A n c j g k H D=>by
   generalize k8 m c k=Bo at D ⊢;simp [execOp,ed,H,Instr.sliceAt,eY hu,Instr.slice,D,sizeOf,typeInfo,A3,ni]
  have arr: ∀(H':Heap) (F:bM) (r n:Nat) (f:Nat→List J),H'=bt st.k F→aP S ι ⟨st.n,H'⟩ a w→r=X→aR w (aK S ι H' w) (.arr r n f) (a.eval x)→(cH st.n 0 l fun j=>cH st.n n hh fun g=>cH st.n g m fun k=>((0≤j∧j≤g∧g≤k∧k≤n)∧(kk m r=true→g=k))∧K (tb (kk m r) r (g-j).toNat fun i=>f (j.toNat+i)) F)→o.wp E.P a w next Q:=fun H' F r n f KN oa L R q=>by
   have mono: ∀{d:Int} {o:Option Operand} {y K2:Int→Prop},(∀z,y z→K2 z)→cH st.n d o y→cH st.n d o K2:=fun {d o y K2} u p=>by
    cases o with
    |none=>exact u _ p
    |some x=>
     simp only[cH]at p ⊢
     cases e:ax st.n x<;>rw[e]at p<;>simp only at p ⊢ <;>first|exact p.elim|exact u _ p
   have q:=mono (K2:=fun j=>cH st.n n hh fun g=>cH st.n g m fun k=>(0≤j∧j≤g∧g≤k∧k≤n)∧((kk m r=true→g=k)∧K (tb (kk m r) r (g-j).toNat fun i=>f (j.toNat+i)) F)) (fun j p=>mono (fun g G=>mono (fun k C=>⟨C.1.1,C.1.2,C.2⟩) G) p) q;have asN: ∃A c,a.eval x= .slice A n c∧n≤c∧(A=none→c=0):=by
    generalize a.eval x=v at R
    cases R with
    |nil=>exact⟨none,0,rfl,bC _,fun _=>rfl⟩
    |mt _ _ A c=>exact⟨some A,c,rfl,cf _,fun h=>by cases h⟩
    |arr _ _ _ b o c eo cv eX=>exact⟨_,c,rfl,eX,fun h=>by cases h⟩
   obtain⟨A,c,H,me,ac7⟩:=asN;obtain⟨j,g,k,⟨gB,bG,iS,lU⟩,⟨Fg,u⟩,aDQ,D⟩:=PL (E:=E) h true n c l hh m (K:=fun j g k=>(kk m r=true→g=k)∧K (tb (kk m r) r (g-j).toNat fun i=>f (j.toNat+i)) F) q me M;have adJ:=R;rw[H]at adJ;have b6:=aR.part (m:=(k8 m c k)) (l:=j.toNat) (hh:=g.toNat) L adJ (by omega) (by omega) (by cases m<;>simp only[k8]<;>omega) (fun eX xF=>by
    cases m with
    |none=>exact ac7 xF
    |some _=>simp only[k8];omega)
   refine di (Y A n c j g k H D) (P _ _ _ u (by rw[←KN];exact oa) ?_);rw[←KN];have N:(g-j).toNat=g.toNat-j.toNat:=by omega
   rw[N]
   cases W:kk m r with
   |false=>exact b6
   |true=>
    have U:=Fg W;refine aR.jO _ _ _ _ _ b6 ?_
    cases m with
    |none=>cases W
    |some _=>simp only[k8];omega
  cases O:ax st.n x<;>rw[O]at q I<;>simp only at q<;>try exact q.elim
  ·
   have mono: ∀{d:Int} {o:Option Operand} {y K2:Int→Prop},(∀z,y z→K2 z)→cH st.n d o y→cH st.n d o K2:=fun {d o y K2} u p=>by
    cases o with
    |none=>exact u _ p
    |some x=>
     simp only[cH]at p ⊢
     cases e:ax st.n x<;>rw[e]at p<;>simp only at p ⊢ <;>first|exact p.elim|exact u _ p
   have xM:aR w (aK S ι st.k w) .aA (a.eval x):=I;have H:a.eval x= .slice none 0 0:=by
    generalize a.eval x=v at xM
    cases xM;rfl
   obtain⟨j,g,k,⟨gB,bG,iS,lU⟩,u,_,D⟩:=PL (E:=E) h true 0 0 l hh m (K:=fun _ _ _=>K .aA []) (mono (fun j p=>mono (fun g G=>mono (fun k C=>⟨by omega,C.2⟩) G) p) q) (bC _) M;refine di (Y none 0 0 j g k H D) (P _ _ _ u h ?_);have N:j=0:=by omega
   have U:g=0:=by omega
   have aZ:k=0:=by omega
   subst N U aZ
   cases m<;>simp [k8]<;>exact aR.aA
  ·rename_i r n f;obtain⟨L,q⟩:=ay.1 q;exact arr st.k [] r n f rfl h (al L) I q
  ·rename_i b e2
   cases V:B st.k b 0<;>rw[V]at q<;>simp only at q
   rename_i ro r n f;obtain⟨L,Fl,q⟩:=ay.1 q;obtain⟨Z,Fw⟩:=h.freeze (H':=bt st.k [(b,0,.ad true r n f)]) (fun kj Mf=>by
    rw[A_,eG]
    by_cases e:kj=b∧Mf=0
    ·obtain⟨rfl,rfl⟩:=e;rw[bf ⟨rfl,rfl⟩];exact .inr ⟨rfl,ro,r,n,f,V,by rw[eG,bf ⟨rfl,rfl⟩]⟩
    ·rw[a7 e];exact .inl rfl) (qM _ _)
   refine arr _ _ r n f rfl Z (al L) (Ml Z (by rw[A_,eG,bf ⟨rfl,rfl⟩]) Fl (b8.step Fw I)) q
theorem foldl_push: ∀(l:List Int) (r:u),l.foldl (fun r n=>r.push (UInt8.ofNat n.toNat)) r=⟨r.data++(l.map fun n=>UInt8.ofNat n.toNat).toArray⟩
 |[],r=>by simp
 |n::l,r=>by
  simp only[G4,foldl_push l,G8];simp [ByteArray.push]
theorem ang{o m e:TypeId}(G:E.P.underlying o=some (.slice e))(B:E.P.underlying e=some (.int .u8))(A:E.P.underlying m=some .string){n x p c:Nat}{f:Nat→List J}{u:Nat→Value}{F:Nat→Prop}
  (y: ∀i,i<n→FK ((f i).getD 0 .undef)=true) (q: ∀i,i<n→w.cell? ⟨x,p+i,none⟩=some (u i)∧aR w F ((f i).getD 0 .undef) (u i)):
  (convert o m (.slice (some ⟨x,p,none⟩) n c)).run E.P w= .ok (.string (bytesOf n f)) w:=by
 rw[run_convert_bytes_string w o m e _ n c G B A];have H: ∀i,i<n→u i= .int .u8 ((ahS ((f i).getD 0 .undef):Nat):Int)∨ ∃z,(f i).getD 0 .undef= .int .u8 z∧u i= .int .u8 z:=fun i l=>by
  have d:=y i l;have a:=(q i l).2;generalize (f i).getD 0 .undef=av at d a;generalize u i=v at a
  cases a<;>first|(cases d;done)|skip
  rename_i k z
  cases k<;>first|(cases d;done)|exact .inr ⟨z,rfl,rfl⟩
 let b:List Int:=(List.range n).map fun i=>match u i with| .int _ z=>z|_=>0
 have t:=Nb (P:=E.P) w ⟨x,p,none⟩ (b.map (Value.int .u8)) (fun j v g=>by
  have r:j<n:=by
   have:=(hv.1 g).1;simpa[b]using this
  rw[Addr.add_lit,(q j r).1];simp [b,Cf r]at g;rcases H j r with h|⟨z,_,h⟩<;>rw[h]at g ⊢ <;>simp only at g<;>rw[←g]<;>simp)
 have D:(b.map (Value.int .u8)).length=n:=by simp [b]
 rw[D]at t;rw[run_bytesToString w ⟨x,p,none⟩ n c b t,foldl_push];have C:ByteArray.empty.data= #[]:=rfl;rw[C]
 congr 2
 unfold bytesOf
 congr 1
 simp only[Array.empty_append,b,List.map_map]
 congr 1
 apply Hd;intro i l;have s:i<n:=tA.1 l;simp only[Function.comp];have d:=y i s;have a:=(q i s).2;generalize (f i).getD 0 .undef=av at d a;generalize u i=v at a
 cases a<;>first|(cases d;done)|rfl
end
section
variable {E:Env} {S:dM} {ι:Nat→Option Nat} {st:K} {a:Act} {w:World}
theorem amv(n:Nat)(f:Nat→List J):(bytesOf n f).size=n:=by simp [bytesOf,ByteArray.size]
def tW(E:Env)(t u:bD):Option bD:=
 match u.d with
 | .slice e _ _=>E.ty e
 |_=>match t.d with
  | .slice e _ _=>E.ty e
  |_=>none
theorem YF(n:E.dm){T:TypeId}{t:bD}{i:Option bD}(o:gl E.P T t)(p: ∀e c a,t.d= .slice e c a→i=E.ty e)(h:nG t i=true): ∃e,E.P.underlying T=some (.slice e)∧E.P.underlying e=some (.int .u8):=by
 have j:=o.d;unfold nG at h
 cases g:t.d<;>rw[g]at h j<;>simp only at h<;>try (cases h;done)
 rename_i e c a;rw[p e c a g]at h;simp only[bL]at h
 cases b:E.ty e with
 |none=>rw[b]at h;cases h.2
 |some m=>
  rw[b]at h;have l:=(n.ty e m b).d;have d:=h.2
  cases f:m.d<;>rw[f]at l<;>simp only[f]at d<;>try (cases d;done)
  rename_i k
  cases k<;>first|(cases d;done)|exact⟨e,j.1,l⟩
theorem anh(mb:E.dm){o:Oper}{N H:TypeId}{t u:bD}{x:Operand}(ed:o.op= .convert N H x)(jc:gl E.P N t)(u6:gl E.P H u)
  (h:aP S ι st a w) {K:J→Prop} (d:rJ t u (tW E t u) st.k (ax st.n x) K) {next:Act→World→Prop} {Q:Exit→Act→World→Prop}
  (Y: ∀av v w',K av→aP S ι st a w'→bg S ι st.k w' av v→next (a.put o.dst v) w'):o.wp E.P a w next Q:=by
 have A:=h.eval x;have R:=jc.d;have I:=u6.d;have Z: ∀v w',(convert N H (a.eval x)).run E.P w= .ok v w'→(execOp a.eval o).run E.P w= .ok (.value v) w':=fun v w' r=>by
  simp only[execOp,ed];rw[Sem.run_bind,r];rfl
 have adQ:u.d.isStr=true→E.P.underlying H=some .string:=fun e=>by
  cases D:u.d<;>rw[D]at e I<;>first|exact I|(cases e;done)
 have Tk:u.d.isStr=true→ ∀e lo lX,t.d= .slice e lo lX→tW E t u=E.ty e:=fun M e lo lX O=>by
  unfold tW
  cases D:u.d<;>rw[D]at M<;>first|(cases M;done)|simp only[O]
 have core: ∀(n:Nat) (f:Nat→List J),n≤dj→u.d.isStr=true→nG t (tW E t u)=true→(∀i,i<n→FK ((f i).getD 0 .undef)=true)→K (.str (bytesOf n f))→(∃m c,a.eval x= .slice m n c∧(m=none→n=0)∧(n=0∨ ∃(q p:Nat) (u:Nat→Value),m=some ⟨q,p,none⟩∧ ∀i,i<n→w.cell? ⟨q,p+i,none⟩=some (u i)∧aR w (aK S ι st.k w) ((f i).getD 0 .undef) (u i)))→o.wp E.P a w next Q:=by
  intro n f L M U T y ⟨m,c,r,ac7,k⟩;obtain⟨e,V,W⟩:=YF mb jc (Tk M) U;refine di (Z _ w ?_) (Y _ _ _ y h (bg.mkStr _ (by rw[amv];exact L)));rcases k with rfl|⟨q,p,u,rfl,k⟩
  ·rw[r];have ark:bytesOf 0 f=⟨#[]⟩:=rfl;rw[ark,run_convert_bytes_string w N H e m 0 c V W (adQ M)]
   cases m with
   |none=>simp [Conv.bytesToString];rfl
   |some m=>
    have z:=Nb (P:=E.P) w m [] (fun j v X=>by simp at X);have:=run_bytesToString (P:=E.P) w m 0 c [] (by simpa using z);rw[this];rfl
  ·rw[r];exact ang V W (adQ M) T k
 cases ex:ax st.n x<;>rw[ex]at d A<;>simp only[rJ]at d<;>try exact d.elim
 case int b6 hA=>
  cases D:u.d<;>rw[D]at d I<;>simp only at d<;>try exact d.elim
  rename_i aEb
  cases O:t.d<;>rw[O]at d R<;>simp only at d<;>try exact d.elim
  refine di (Z _ w ?_) (Y _ _ _ d h (bg.mkInt _ _));rw[bg.int A];simp [convert,eY R,eY I,Conv.intToInt]
 case str s=>
  have L:=bg.Wz A
  cases O:t.d<;>rw[O]at d R<;>simp only at d<;>try exact d.elim
  have ab:c0 (nG u (tW E t u)) (K (.arr 1 s.size (vQ s)))→o.wp E.P a w next Q:=fun d=>by
   obtain⟨U,y⟩:=ay.1 d;obtain⟨e,V,W⟩:=YF mb u6 (fun e lo lX jS=>by simp [tW,jS]) U;have gv:=run_bytes_of_string (P:=E.P) w N H e s R V W;generalize Fg:grownCap w s.size 0 e=g at gv;have sI:s.size≤g:=by
    have:=vA w s.size 0 e;rw[Fg]at this;exact this
   have A1:Below w.heap.size w (w.drew.alloc (.cells (bytesRow s g) e ((bytesRow s g).size,(bytesRow s g).size+1))):=(Below.drew (Below.refl _ w)).alloc (bC _) _;obtain⟨eM,gX⟩:=h.world A1;rw[←bg.str A]at gv;refine di (Z _ _ gv) (Y _ _ _ y eM ?_);have mf:aK S ι st.k (w.drew.alloc (.cells (bytesRow s g) e ((bytesRow s g).size,(bytesRow s g).size+1))) w.heap.size:=⟨.inr h.below.size,by simp,fun b _ e=>by have:=(h.fresh b _ e).2;omega⟩;have xI: ∀i,i<s.size→(w.drew.alloc (.cells (bytesRow s g) e ((bytesRow s g).size,(bytesRow s g).size+1))).cell? ⟨w.heap.size,0+i*1+0,none⟩=some (.int .u8 ((s.data.toList.getD i 0).toNat:Int)):=fun i l=>by
    have asl:(w.drew.alloc (.cells (bytesRow s g) e ((bytesRow s g).size,(bytesRow s g).size+1))).heap[w.heap.size]? =some (.cells (bytesRow s g) e ((bytesRow s g).size,(bytesRow s g).size+1)):=rk w.drew _;rw[tC _ w.heap.size _ _ e _ asl];have ni:i<s.data.size:=l;have u9:i<(s.data.map (fun b=>Value.int .u8 b.toNat)).size:=by simpa using ni
    simp only[c1,Nat.mul_one,lN];unfold bytesRow;rw[pG u9];have e4:s.data.toList.getD i 0=s.data[i]:=by simp [List.getD,pH ni]
    rw[e4,Array.getElem?_map,pH ni];rfl
   exact aR.arr 1 s.size (vQ s) w.heap.size 0 g (fun i _=> .int .u8 ((s.data.toList.getD i 0).toNat:Int)) (fun i _=> .int .u8 ((s.data.toList.getD i 0).toNat:Int)) sI L (fun _=>mf)
    (fun i j l X=>by have:j=0:=by omega
                     subst this;rfl) (fun i j l X=>by
     have:j=0:=by omega
     subst this;exact xI i l) (fun i j l X=> .int _ _)
  cases D:u.d<;>rw[D]at d I<;>simp only at d<;>first|exact ab d|skip
  ·refine di (Z _ w ?_) (Y _ _ _ d h (bg.mkStr _ L));rw[bg.str A];simp [convert,eY R,eY I]
 case aA=>
  obtain⟨k,y⟩:=ay.1 d;simp only[bL]at k;have G:aR w (aK S ι st.k w) .aA (a.eval x):=A;have r:a.eval x= .slice none 0 0:=by
   generalize a.eval x=v at G
   cases G;rfl
  exact core 0 (fun _=>[]) (cf _) k.1 k.2 (fun i l=>by omega) y ⟨none,0,r,fun _=>rfl,.inl rfl⟩
 case arr eo n f=>
  obtain⟨k,T,y⟩:=ay.1 d;simp only[bL]at k;have nk:eo=1:=dQ k.2;subst nk;have G:aR w (aK S ι st.k w) (.arr 1 n f) (a.eval x):=A;refine core n f ?_ k.1.1 k.1.2 T y ?_
  ·generalize a.eval x=v at G
   cases G<;>first|exact cf _|assumption
  ·generalize a.eval x=v at G
   cases G with
   |nil=>exact⟨none,0,rfl,fun _=>rfl,.inl rfl⟩
   |mt _ _ m c=>exact⟨_,c,rfl,(fun h=>by cases h),.inl rfl⟩
   |arr _ _ _ b o c e2 cv eX U nf hZ F fe=>
    refine⟨_,c,rfl,(fun h=>by cases h),.inr ⟨b,o,fun i=>cv i 0,rfl,fun i l=>⟨?_,?_⟩⟩⟩
    ·have:=F i 0 l (by omega);simpa using this
    ·have eM:=hZ i 0 l (by omega);have:(f i).getD 0 .undef=e2 i 0:=by simp [List.getD,eM]
     rw[this];exact fe i 0 l (by omega)
 case own b b6=>
  cases e:B st.k b 0<;>rw[e]at d<;>simp only at d
  rename_i ro eo n f;obtain⟨k,rfl,T,y⟩:=ay.1 d;simp only[bL]at k;have nk:eo=1:=dQ k.2;subst nk;obtain⟨_,nt,ka,ev,fB,fJ,_,e4⟩:=(show eg S ι st.k w (.own b b6) (a.eval x)from A);rw[e]at fJ;cases fJ;have z:=h.k b 0;rw[e]at z;rcases z.2 with dD|⟨L,z⟩
  ·cases dD.2.1
  refine core b6 f L k.1.1 k.1.2 T y ?_;rcases e4 rfl with⟨q,c,C,kV,iI,r,me,j2,kB⟩|⟨rfl,_,r⟩
  ·refine⟨_,c,r,(fun h=>by cases h),.inr ⟨q,0,fun i=>(C[i]?).getD undef,rfl,fun i l=> ?_⟩⟩;rcases z with z|⟨Gu,kd,vM,u_,u5,k6⟩
   ·rw[iI]at z;cases z.2
   ·rw[iI]at u_;cases u_;rw[j2]at u5;cases u5;obtain⟨av,u,hZ,F,fe⟩:=k6 i 0 l (by omega);have F:C[i]? =some u:=by simpa using F
    have k5:(C[i]?).getD undef=u:=by rw[F];rfl
    refine⟨?_,?_⟩
    ·rw[tC w q _ C kV (0,0) j2,c1,F];simp only[F];rfl
    ·have:(f i).getD 0 .undef=av:=by simp [List.getD,hZ]
     rw[this];simp only[k5];exact fe
  ·exact⟨none,0,r,fun _=>rfl,.inl rfl⟩
theorem axx{o:Oper}{c:Go.Call}{x y:Operand}(n:o.op= .call c)(l:c.callee= .builtin .min)(j:c.args= #[x,y])(h:aP S ι st a w){K:J→Prop}(b:x6 (ax st.n x) (ax st.n y) K){next:Act→World→Prop}{Q:Exit→Act→World→Prop}
  (m: ∀av v,K av→bg S ι st.k w av v→next (a.put o.dst v) w):o.wp E.P a w next Q:=by
 have f:=h.eval x;have g:=h.eval y
 cases d:ax st.n x<;>cases e:ax st.n y<;>rw[d,e]at b<;>rw[d]at f<;>rw[e]at g<;>simp only[x6]at b<;>try exact b.elim
 rename_i k p r q;obtain⟨_,i⟩:=ay.1 b;refine di (v:= .int k (cond (decide (q<p)) q p)) (w':=w) ?_ (m _ _ i (bg.mkInt _ _));have:(cond (decide (q<p)) q p)=if q<p then q else p:=by by_cases h:q<p<;>simp [h]
 rw[this];simp [execOp,n,resolve,l,j,invoke,builtin,bg.int f,bg.int g,run_min_int2]
theorem axs{o:Oper}{c:Go.Call}{x y:Operand}(n:o.op= .call c)(l:c.callee= .builtin .max)(j:c.args= #[x,y])(h:aP S ι st a w){K:J→Prop}(b:x5 (ax st.n x) (ax st.n y) K){next:Act→World→Prop}{Q:Exit→Act→World→Prop}
  (m: ∀av v,K av→bg S ι st.k w av v→next (a.put o.dst v) w):o.wp E.P a w next Q:=by
 have f:=h.eval x;have g:=h.eval y
 cases d:ax st.n x<;>cases e:ax st.n y<;>rw[d,e]at b<;>rw[d]at f<;>rw[e]at g<;>simp only[x5]at b<;>try exact b.elim
 rename_i k p r q;obtain⟨_,i⟩:=ay.1 b;refine di (v:= .int k (cond (decide (q>p)) q p)) (w':=w) ?_ (m _ _ i (bg.mkInt _ _));have:(cond (decide (q>p)) q p)=if q>p then q else p:=by by_cases h:q>p<;>simp [h]
 rw[this];simp [execOp,n,resolve,l,j,invoke,builtin,bg.int f,bg.int g,run_max_int2]
end
section
variable {E:Env} {S:dM} {ι:Nat→Option Nat} {st:K} {a:Act} {w:World}
theorem aCF{F:Nat→Prop}{c:J}{v:Value}(a:Mp c=true)(h:kW c v):aR w F c v:=by
 cases c<;>simp only[Mp]at a<;>first|(cases a;done)|skip
 ·have h:v=_:=h;subst h;exact .int _ _
 ·have h:v=_:=h;subst h;exact .bool _
 ·obtain⟨h,b⟩:=(show v=_∧_ from h);subst h;exact .str _ (by rw[b];exact cf _)
theorem axm(mb:E.dm){o:Oper}{T:TypeId}{t:bD}{l c:Operand}(ed:o.op= .makeSlice T l c)(jc:gl E.P T t)(h:aP S ι st a w){au:Nat}(kD: ∀o,B st.k au o= .undef)(pg:ι au=none){K:J→bM→Prop}
  (d:qV E t st.n au l c K) {next:Act→World→Prop} {Q:Exit→Act→World→Prop}
  (qK: ∀an av q v w',K av q→aP S an ⟨st.n,bt st.k q⟩ a w'→bg S an (bt st.k q) w' av v→(∀b,an b≠none→ι b≠none∨ ∃p c,(b,p,c)∈q)→next (a.put o.dst v) w'):o.wp E.P a w next Q:=by
 have G:=jc.d;unfold qV at d
 cases s:t.d<;>rw[s]at d<;>simp only at d<;>try exact d.elim
 rename_i e g lX;rw[s]at G;obtain⟨hu,i,L,N,u9,A4,adr⟩:=G
 cases r:E.ty e with
 |none=>rw[r]at d;exact d.elim
 |some m=>
 rw[r]at d;simp only at d;have R:=h.eval l;have D:=h.eval c
 cases el:ax st.n l<;>rw[el]at d R<;>simp only at d<;>try exact d.elim
 rename_i ar z
 cases Z:ax st.n c<;>rw[Z]at d D<;>simp only at d<;>try exact d.elim
 rename_i X aCu;obtain⟨F,⟨rfl,C,eM⟩,pd⟩:=ay.1 d;simp only[bL]at F;obtain⟨⟨⟨⟨TA,U⟩,I⟩,H⟩,V⟩:=F;have U:=dQ U;have I:=gL I;have H:=gL H;have V:0<g:=gL V;obtain⟨adW,k,u,iB,fe,k5,A⟩:=(mb.ty e m r).info;rw[L]at u;cases u;have Fe:(i.bytes:Int)*z≤281474976710656:=by
  have Y:(i.bytes:Int)≤4096:=by omega
  calc (i.bytes:Int)*z≤4096*4096:=Int.mul_le_mul Y eM C (by omega)
   _≤_:=by omega
 have n_:=run_make (P:=E.P) w T e i k hu L fe ar X z z C (cR _) Fe (by omega);have T0:m.zero.length=k.cells.size:=by rw[A.length];simp
 have FE:k.cells.size=g:=by omega
 have A1:Below w.heap.size w (w.alloc (.cells (madeCells k.cells (z.toNat*i.size)) e)):=(Below.refl _ w).alloc (bC _) _;obtain⟨gY,fX⟩:=h.Gt A1 (b:=au) (x:=w.heap.size) (bC _) (by simp) (f:=fun _=>m.zero) (n:=z.toNat) (M:=g) (c:=z.toNat) (by have nd:dj=549755813888:=rfl;omega) (bC _) (rk w _) (by rw[size_madeCells,N])
  (F':=aK S ι st.k w) (fun y sO=> .inl sO) (fun p j b6 fg=>by
   obtain⟨v,c3,gv⟩:=A.get j _ (cI (by omega));refine⟨m.zero[j]'(by omega),v,cI (by omega),?_,aCF (ds.1 TA _ (oz _)) gv⟩;have gu:p*g+j<z.toNat*i.size:=by
    have:(p+1)*g≤z.toNat*g:=g7 g b6;rw[ir]at this;rw[N];omega
   have asc:(p*g+j)%k.cells.size=j:=by
    rw[FE,Nat.add_comm,Nat.add_mul_mod_self_right,Nd fg]
   have O:j<k.cells.size:=by omega
   have W:k.cells[j]? =some v:=by simpa using c3
   simp only[madeCells,Array.getElem?_map,Array.getElem?_range,gu,kN,rj];rw[asc,getElem!_pos k.cells j O];rw[pH O]at W;exact W) (.inl ⟨kD,pg⟩)
 refine di (v:= .slice (some ⟨w.heap.size,0,none⟩) z.toNat z.toNat) (w':=w.alloc (.cells (madeCells k.cells (z.toNat*i.size)) e)) ?_ (qK _ _ _ _ _ pd gY fX fun b iF=>(B2 _ _ _ b iF).imp id fun e=>⟨0,.ad false g z.toNat fun _=>m.zero,by subst e;simp⟩);have anY:a.eval l= .int ar z:=R.int;have anG:a.eval c= .int X z:=D.int;simp only[execOp,ed];rw[Sem.run_bind,anY,anG,n_];rfl
end
theorem mem_iff{l:List Nat}{b:Nat} :mem l b=true↔b∈l:=by
 simp only[mem,List.any_eq_true];constructor
 ·rintro⟨x,a,h⟩
  rw[dQ h]at a;exact a
 ·intro h;exact⟨b,h,by simp⟩
theorem yj: ∀{l:List Nat} {b:Nat},b∈l→l[pos l b]? =some b
 |[],_,h=>by cases h
 |x::l,b,h=>by
  unfold pos
  cases e:Nat.beq x b with
  |true=>simp [dQ e]
  |false=>
   rcases hS.1 h with h|h
   ·subst h;simp at e
   ·simpa using yj h
theorem E8: ∀{l:List Nat} {i b:Nat},nodup l=true→l[i]? =some b→pos l b=i
 |[],i,b,_,h=>by simp at h
 |x::l,0,b,_,h=>by
  simp at h;subst h;simp [pos]
 |x::l,i+1,b,a,h=>by
  simp only[nodup,bL,iL]at a;have h:l[i]? =some b:=by simpa using h
  have c:b∈l:=e0 h;have e:Nat.beq x b=false:=by
   cases e:Nat.beq x b with
   |false=>rfl
   |true=>
    rw[dQ e]at a;rw[mem_iff.2 c]at a;cases a.1
  simp only[pos,e];rw[E8 a.2 h]
section
variable {kO eb:Nat→Option Nat} {H1 kf:Heap} {w:World} {lP my:Nat→Prop} {ρ:Nat→Nat} {D:Nat→Bool}
theorem BQ{c:J} :b_ (fi ρ c)=b_ c:=by cases c<;>rfl
theorem aAh{c:J} :ot (fi ρ c)=ot c:=by cases c<;>rfl
theorem iv.lJ(f: ∀b,D b=true→eb (ρ b)=kO b)(e: ∀b o,D b=true→B kf (ρ b) o=fi ρ (B H1 b o))(d: ∀x,lP x→my x){c:J}{v:Value}(a:p2 D c=true)(k:iv kO H1 w lP c v):iv eb kf w my (agR ρ c) v:=by
 cases c<;>simp only[p2]at a<;>try (cases a;done)
 case ptr b o=>
  obtain⟨g,x,h,i⟩:=k;exact⟨by rw[e _ _ a,BQ];exact g,x,by rw[f _ a];exact h,i⟩
 all_goals first|(cases a;done)|exact aR.mono d (fun _ _ _=>rfl) k
theorem b8.lJ(l: ∀b,D b=true→eb (ρ b)=kO b)(j: ∀b o,D b=true→B kf (ρ b) o=fi ρ (B H1 b o))(u: ∀x,lP x→my x){c:J}{v:Value}(a:mG D c=true)(k:b8 kO H1 w lP c v):b8 eb kf w my (fi ρ c) v:=by
 cases c<;>simp only[mG]at a
 case undef=>exact k
 case gone=>exact k
 case own b n=>
  obtain⟨m,s,t,r,f,d,g,h⟩:=k;refine⟨m,s,t,r,f,by rw[j _ _ a,d];rfl,g,fun e=> ?_⟩;rw[l _ a];exact h e
 case ptr b o=>
  obtain⟨d,x,g,h⟩:=k;exact⟨by rw[j _ _ a,BQ];exact d,x,by rw[l _ a];exact g,h⟩
 case fp b n i o=>
  obtain⟨m,s,t,r,f,d,g,h⟩:=k;refine⟨m,s,t,r,f,by rw[j _ _ a,d];rfl,g,fun e=> ?_⟩;rw[l _ a];exact h e
 case fn f G=>
  obtain⟨F,rfl,k⟩:=k;refine⟨F,rfl,aU.mk (by simpa using k.length) fun i p q z C=> ?_⟩;simp only[gN,lM]at z;obtain⟨c,y,rfl⟩:=z;obtain⟨H,A,E⟩:=k.get i c y;rw[C]at A;cases A;exact iv.lJ l j u (ds.1 a c (e0 y)) E
 case agg=>exact k.elim
 case c7=>exact k.elim
 case ad=>exact k.elim
 all_goals exact aR.mono u (fun _ _ _=>rfl) k
theorem fR.lJ(j: ∀b,D b=true→eb (ρ b)=kO b)(e: ∀b o,D b=true→B kf (ρ b) o=fi ρ (B H1 b o))(d: ∀x,lP x→my x){c:J}{v:Value}(a:wc D c=true)(k:fR kO H1 w lP c v):fR eb kf w my (kI ρ c) v:=by
 cases c
 case agg cs=>
  obtain⟨n,rfl,k⟩:=k;refine⟨n,rfl,aU.mk (by simpa using k.length) fun i p q g l=> ?_⟩;simp only[gN,lM]at g;obtain⟨c,f,rfl⟩:=g;obtain⟨r,h,m⟩:=k.get i c f;rw[l]at h;cases h;exact b8.lJ j e d (ds.1 a c (e0 f)) m
 case c7=>cases a
 case gone=>cases a
 all_goals
  simp only[fR,wc,kI]at k a ⊢;exact b8.lJ j e d a k
theorem eh.lJ(f: ∀b,D b=true→eb (ρ b)=kO b)(e: ∀b o,D b=true→B kf (ρ b) o=fi ρ (B H1 b o))(d: ∀x,lP x→my x){c:J}{v:Value}(a:wc D c=true)(k:eh kO H1 w lP c v):eh eb kf w my (kI ρ c) v:=by
 cases c
 case undef=>trivial
 case c7=>cases a
 case gone=>cases a
 case agg cs=>exact fR.lJ (c:= .agg cs) f e d a k
 all_goals
  simp only[eh]at k;have k:=fR.lJ f e d a k;simp only[kI,fi]at k ⊢;exact k
theorem eQ.lJ(d: ∀b,D b=true→eb (ρ b)=kO b)(p: ∀b o,D b=true→B kf (ρ b) o=fi ρ (B H1 b o))(m: ∀x,lP x→my x){b o:Nat}{c:J}(a:D b=true)(u:mG D c=true)(k:eQ kO H1 w lP b o c):eQ eb kf w my (ρ b) o (fi ρ c):=by
 have t:b_ (B kf (ρ b) 0)=b_ (B H1 b 0):=by rw[p _ _ a,BQ]
 cases c
 case undef=>trivial
 case ad K L n f=>
  obtain⟨e,l|⟨g,h⟩⟩:=k
  ·exact⟨e,.inl ⟨l.1,l.2.1,by rw[d _ a];exact l.2.2⟩⟩
  refine⟨e,.inr ⟨g,?_⟩⟩;rw[d _ a];exact h.imp id fun⟨x,C,T,q,r,s⟩=>⟨x,C,T,q,r,fun i j y z=>by
   obtain⟨av,v,G,H,I⟩:=s i j y z;exact⟨av,v,G,H,I.mono m fun _ _ _=>rfl⟩⟩
 all_goals
  obtain⟨A,x,v,e,g,h,E⟩:=k;have F:=b8.lJ d p m u E;exact⟨by rw[t];exact A,x,v,by rw[d _ a];exact e,g,h,F⟩
end
theorem FX{H:Heap}{b:Nat}(h:x2 (H.getD b [])=true):mr H b∧(∃z l,H.getD b []=z::l):=by
 unfold x2 at h
 cases e:H.getD b []with
 |nil=>rw[e]at h;cases h
 |cons x r=>
  rw[e]at h;refine⟨?_,x,r,rfl⟩;have a:B H b 0=x:=by unfold B;rw[e];rfl
  cases d:b_ x with
  |true=>
   obtain⟨m,p,n,f,rfl⟩:=LA d;simp only[bL,iL]at h;exact .inl ⟨by rw[a];rfl,by rw[a];simp [ot,h.1]⟩
  |false=>
   have g:((x::r).all (fun c=> !(b_ c))&&(x::r).any ot)=true:=by cases x<;>first|exact h|(cases d;done)
   simp only[bL]at g;obtain⟨c,i,k⟩:=List.any_eq_true.1 g.2;obtain⟨o,j⟩:=ov i;refine .inr ⟨by rw[a];exact d,o,?_⟩;unfold B;rw[e,List.getD,j];exact k
theorem aql{H:Heap}{b:Nat}{z:J}{c:List J}(h:H.getD b []=z::c):b<H.length:=by
 rcases fk b H.length with a|a
 ·exact a
 ·simp [List.getD,eF a]at h
theorem HH{e:Nat→Nat}{b p:Nat}{c:J} : ∀(g:Heap) (i:Nat),(b,p,c)∈rH e i g→ ∃j l,g[j]? =some l∧b=e (i+j)∧p<l.length∧c=fi e (l.getD p .undef)
 |[],_,h=>by cases h
 |l::g,i,h=>by
  simp only[rH,g8]at h;rcases h with h|h
  ·have n: ∀(cs:List J) (o:Nat),(b,p,c)∈hC (e i) cs o→b=e i∧ ∃q,q<cs.length∧p=o+q∧c=cs.getD q .undef:=by
    intro cs
    induction cs with
    |nil=>intro o h;cases h
    |cons x cs m=>
     intro o h;rcases hS.1 h with h|h
     ·cases h;exact⟨rfl,0,by simp,rfl,rfl⟩
     ·obtain⟨d,q,a,f,k⟩:=m (o+1) h;exact⟨d,q+1,by simpa using a,by omega,by simpa using k⟩
   obtain⟨d,q,a,f,k⟩:=n _ _ h;have a:q<l.length:=by simpa using a
   refine⟨0,l,rfl,by simpa using d,by omega,?_⟩;rw[k,f,c1,List.getD,List.getD,gN,cI a];rfl
  ·obtain⟨j,r,d,a,f⟩:=HH g (i+1) h;exact⟨j+1,r,by simpa using d,by rw[a];congr 1;omega,f⟩
theorem CE{σ:Nat→Nat} : ∀(b:Heap) (i j p:Nat) (l:List J),b[j]? =some l→p<l.length→(σ (i+j),p,fi σ (l.getD p .undef))∈rH σ i b
 |[],_,_,_,_,h,_=>by simp at h
 |y::b,i,0,p,l,h,a=>by
  simp at h;subst h;simp only[rH,g8];left;have d: ∀(cs:List J) (o q:Nat),q<cs.length→(σ i,o+q,cs.getD q .undef)∈hC (σ i) cs o:=by
   intro cs
   induction cs with
   |nil=>intro o q h;simp at h
   |cons x cs c=>
    intro o q h
    cases q with
    |zero=>exact hS.2 (.inl rfl)
    |succ q=>
     have:=c (o+1) q (by simpa using h);rw[show o+1+q=o+(q+1) by omega]at this;exact hS.2 (.inr (by simpa using this))
  have:=d (y.map (fi σ)) 0 p (by simpa using a);rw[List.getD,gN,cI a]at this;rw[List.getD,cI a];simpa using this
 |y::b,i,j+1,p,l,h,a=>by
  have:=CE (σ:=σ) b (i+1) j p l (by simpa using h) a;rw[show i+1+j=i+(j+1) by omega]at this;exact g8.2 (.inr this)
section
variable {E:Env} {S:dM} {ι:Nat→Option Nat} {st:K} {a:Act} {w:World}
theorem iv.aBB{H:Heap}{F:Nat→Prop}{c:J}{v:Value}(k:iv ι H w F c v):b8 ι H w F c v:=by
 cases c
 case ptr=>exact k
 case fn f b=>
  have r:aR w F (.fn f b) v:=k
  cases r with
  |fn _ _ s g u n j l m=>
   refine⟨s,rfl,aU.mk n.symm fun i p q h o=> ?_⟩;have a:i<b.length:=(hv.1 h).1;have d:=j i a;have e:=l i a;rw[h]at d;cases d;rw[o]at e;cases e;have aZ:=m i a;generalize g i=x at aZ
   cases x<;>first|exact aZ|(cases aZ;done)
 all_goals
  simp only[iv]at k
  first|exact k|(cases k;done)
def j_(H:Heap)(L:List Nat):Heap:=L.map fun b=>(H.getD b []).map (fi (pos L))
def la(ι:Nat→Option Nat)(L:List Nat)(i:Nat):Option Nat:=(L[i]?).bind ι
theorem MU{L:List Nat}{b:Nat}(a:b∈L):la ι L (pos L b)=ι b:=by simp [la,yj a]
theorem BZ{H:Heap}{L:List Nat}{b:Nat}(a:b∈L)(o:Nat):B (j_ H L) (pos L b) o=fi (pos L) (B H b o):=by
 have e:(j_ H L).getD (pos L b) []=(H.getD b []).map (fi (pos L)):=by
  unfold j_;rw[List.getD,gN,yj a];rfl
 unfold B;rw[e];generalize H.getD b []=l;rw[List.getD,gN,List.getD]
 cases l[o]? <;>rfl
theorem aBh{H:Heap}{L:List Nat}{i:Nat}(a:L.length≤i)(o:Nat):B (j_ H L) i o= .undef:=sJ (by simpa[j_]using a) o
theorem ML{ρ:Nat→Nat}{H H':Heap}{b a:Nat}(h: ∀o,B H' a o=fi ρ (B H b o))(k:mr H' a):mr H b:=by
 unfold mr at*
 simpa only[h,BQ,aAh]using k
theorem arB(mb:E.dm){o:Oper}{c:Go.Call}{A:Operand}{f:FuncId}{iU:List J}(ed:o.op= .call c)(jd:c.callee= .value A)(TX:ax st.n A= .fn f iU)(h:aP S ι st a w){au:Nat}{nC:Nat→Prop}(aq3:nC au)(KQ: ∀b,nC b→(∀p,B st.k b p= .undef)∧ι b=none)
  {eo:J→bM→Prop} (Fa: ∀av ws,eo av ws→ ∀b p c,(b,p,c)∈ws→au<b→nC b) (X:nh E st.k au f (c.args.toList.map (ax st.n)++iU) eo) {next:Act→World→Prop} {Q:Exit→Act→World→Prop}
  (qK: ∀an av ws v w',eo av ws→aP S an ⟨st.n,bt st.k ws⟩ a w'→bg S an (bt st.k ws) w' av v→(∀b,an b≠none→ι b≠none∨ ∃p c,(b,p,c)∈ws)→next (a.put o.dst v) w'):o.wp E.P a w next Q:=by
 have KX:=h.eval A;rw[TX]at KX;obtain⟨ix,Tm,KU⟩:=(show eg S ι st.k w (.fn f iU) _ from KX);have AY:aU (bg S ι st.k w) (c.args.toList.map (ax st.n)++iU) (c.args.toList.map a.eval++ix):=by
  refine aU.append (aU.mk (by simp) fun i x y s M=> ?_) (KU.imp fun _ _ k=>eh.yf (by
   have fX:=iv.aBB k;rename_i p q
   cases p<;>first|exact fX|exact fX.elim|exact(aR.afP k).elim))
  simp only[gN,lM]at s M;obtain⟨yd,jS,rfl⟩:=s;obtain⟨Gd,fJ,rfl⟩:=M;rw[jS]at fJ;cases fJ;exact h.eval yd
 generalize pf:c.args.toList.map a.eval++ix=cv at AY;generalize c.args.toList.map (ax st.n)++iU=aa at X AY;unfold nh at X;generalize dN st.k aa=L at X;obtain⟨adh,X⟩:=ay.1 X;simp only[bL]at adh;obtain⟨⟨Fq,adx⟩,arJ⟩:=adh;have A6: ∀b,b∈L→x2 (st.k.getD b [])=true:=fun b d=>by
  have:=ds.1 adx b d;simp only[bL]at this;exact this.1
 have arH: ∀b,b∈L→ ∀o,mG (mem L) (B st.k b o)=true:=fun b d o=>by
  have:=ds.1 adx b d;simp only[bL]at this;unfold B;rw[List.getD]
  cases e:(st.k.getD b [])[o]? with
  |none=>rfl
  |some x=>exact ds.1 this.2 x (e0 e)
 have aq4: ∀b,nC b→b∉L:=fun b d V=>by
  have gv:=(FX (A6 b V)).1;have hu:=(KQ b d).1;rcases gv with⟨g,_⟩|⟨_,o,g⟩<;>rw[hu]at g<;>cases g
 cases oa:E.nj f (aa.map (kI (pos L))) (j_ st.k L)with
 |none=>rw[show(L.map fun b=>(st.k.getD b []).map (fi (pos L)))=j_ st.k L from rfl,oa]at X;exact X.elim
 |some q=>
  obtain⟨pre,rs,H'⟩:=q;rw[show(L.map fun b=>(st.k.getD b []).map (fi (pos L)))=j_ st.k L from rfl,oa]at X;obtain⟨b6,X⟩:=pw.1 X;obtain⟨adi,pd⟩:=ay.1 X;simp only[bL]at adi;obtain⟨⟨⟨_,hlen⟩,arK⟩,arL⟩:=adi;obtain⟨⟨fn,amU,arR,Tc,Tt⟩,Ff⟩:=mb.nj _ _ _ _ _ _ oa;have Ff:=Ff b6;let oC:Nat→Prop:=fun x=> ∃b,b∈L∧ι b=some x;have aq8: ∀x,oC x→x<w.heap.size:=fun x ⟨b,_,d⟩=>(h.fresh b x d).2;let lP:Nat→Prop:=fun x=>aK S ι st.k w x∨oC x;have asC: ∀i x,la ι L i=some x→ ∃b,b∈L∧pos L b=i∧ι b=some x:=fun i x z=>by
   unfold la at z
   cases e:L[i]? with
   |none=>rw[e]at z;cases z
   |some b=>rw[e]at z;exact⟨b,e0 e,E8 Fq e,z⟩
  have aq1: ∀x,aK S ι st.k w x→tJ lP w.heap.size (la ι L) (j_ st.k L) w x:=fun x s=>⟨.inl (.inl s),s.2.1,fun i z P=>by
   obtain⟨b,d,rfl,A0⟩:=asC i x P;exact s.2.2 b (ML (BZ d) z) A0⟩
  let tN:dM:=⟨lP,w,fun x s=>s.elim (fun g=>g.2.1) (aq8 x),oC,fun x s=> .inr s,la ι L,j_ st.k L,tJ lP w.heap.size (la ι L) (j_ st.k L) w,fun b x d=>by
   unfold la at d
   cases e:L[b]? with
   |none=>rw[e]at d;cases d
   |some y=>simpa[j_]using(hv.1 e).1,fun g=>(h.u2 g).imp id fun k=>k.mono aq1 fun _ _ _=>rfl⟩
  have qL: ∀i x,la ι L i=some x→ ∃b,b∈L∧pos L b=i∧ι b=some x:=fun i x z=>by
   unfold la at z
   cases e:L[i]? with
   |none=>rw[e]at z;cases z
   |some b=>rw[e]at z;exact⟨b,e0 e,E8 Fq e,z⟩
  have KL: ∀x,aK S ι st.k w x→aK tN (la ι L) (j_ st.k L) w x:=fun x s=>⟨.inl (.inl s),s.2.1,fun i z P=>by
   obtain⟨b,d,rfl,A0⟩:=qL i x P;exact s.2.2 b (ML (BZ d) z) A0⟩
  have adU: ∀b,mem L b=true→la ι L (pos L b)=ι b:=fun b d=>MU (mem_iff.1 d);have ac3: ∀b o,mem L b=true→B (j_ st.k L) (pos L b) o=fi (pos L) (B st.k b o):=fun b o d=>BZ (mem_iff.1 d) o;have asz:aP tN (la ι L) ⟨aa.map (kI (pos L)),j_ st.k L⟩ {tmps:=cv.toArray,defers:=[]} w:=by
   refine⟨ia.refl _ _ _,rfl,fun t av h2=> ?_,fun i o=> ?_,fun i j x G O=> ?_,fun i x z=> ?_,fun i x z=>tN.p2 i x z,ec.refl⟩
   ·simp only[gN,lM]at h2;obtain⟨x,s,rfl⟩:=h2;obtain⟨v,c3,gv⟩:=AY.get t x s;exact⟨v,by simpa using c3,eh.lJ adU ac3 KL (ds.1 arJ x (e0 s)) gv⟩
   ·show eQ _ _ _ _ i o (B (j_ st.k L) i o);rcases fk i L.length with z|z
    ·have d:L[i]? =some L[i]:=cI z;have V:L[i]∈L:=e0 d;have e:=E8 Fq d;have k:=eQ.lJ (ρ:=pos L) (D:=mem L) adU ac3 KL (mem_iff.2 V) (arH _ V o) (h.k L[i] o);rw[e]at k;have fJ:=BZ (H:=st.k) V o;rw[e]at fJ;rw[fJ];exact k
    ·rw[aBh z];trivial
   ·obtain⟨gB,qS,rfl,gY⟩:=qL i x G;obtain⟨bG,qT,rfl,fX⟩:=qL j x O;rw[h.inj gB bG x gY fX]
   ·obtain⟨b,m,rfl,k⟩:=qL i x z;exact⟨.inr ⟨b,m,k⟩,(h.fresh b x k).2⟩
  have n_:(execOp a.eval o).run E.P w= .ok (.enter f cv.toArray) w:=by
   have Tv:fn.name≠ "runtime.NumGoroutine" :=by simpa using Tt
   have S7:cv.toArray=c.args.map a.eval++ix.toArray:=by rw[←pf];apply oy;simp
   rw[S7];simp [execOp,ed,resolve,jd,Tm,Deferred.ofValue,invoke,callFunc,arR,Tc,Tv]
  unfold Oper.wp;rw[n_];refine(Ff tN (la ι L) w cv (bC _) (by simpa using AY.length.symm) asz).mono fun e w' ⟨us,an,P,asI,W⟩=> ?_;subst P;let F:Nat→Nat:=tl L au;let ws:bM:=rH F 0 H';have xQ: ∀i,L.length≤i→F i=au+(i-L.length):=fun i z=>by simp [F,tl,List.getD,eF z]
  let R:Nat→Prop:=fun b=>au≤b∧b<au+(H'.length-L.length);have xE: ∀b,R b→ ∃i,L.length≤i∧i<H'.length∧F i=b:=fun b d=>⟨L.length+(b-au),by omega,by have:=d.1;have:=d.2;omega,by rw[xQ _ (by omega)];have:=d.1;omega⟩;have KJ: ∀i,L.length≤i→i<H'.length→R (F i):=fun i G O=>by
   rw[xQ i G];exact⟨by omega,by omega⟩
  let eb:Nat→Option Nat:=fun b=>if mem L b then an (pos L b)else if au≤b∧b<au+(H'.length-L.length)then an (L.length+(b-au))else ι b
  have Ba: ∀b,b∈L→eb b=an (pos L b):=fun b d=>by simp [eb,mem_iff.2 d]
  have adz: ∀b,b∉L→mem L b=false:=fun b d=>by
   cases e:mem L b with
   |false=>rfl
   |true=>exact absurd (mem_iff.1 e) d
  have sP: ∀b,b∉L→ ¬R b→eb b=ι b:=fun b d eX=>by
   simp only[eb,adz b d];rw[a7 (by simp),a7 eX]
  have asB: ∀(l:List Nat) (cq:Heap),pB l st.k cq=true→(∀(i b:Nat),l[i]? =some b→ ∃y,cq[i]? =some y∧(st.k.getD b []).length=y.length)∧l.length≤cq.length∧ ∀(i:Nat) y,l.length≤i→cq[i]? =some y→y≠[]:=by
   intro l
   induction l with
   |nil=>
    intro cq Z;refine⟨fun i b d=>by simp at d,cf _,fun i y _ M e=> ?_⟩;unfold pB at Z;have:=ds.1 Z y (e0 M);rw[e]at this;cases this
   |cons b l kE=>
    intro cq Z;unfold pB at Z
    cases cq with
    |nil=>cases Z
    |cons y cq=>
     simp only[bL]at Z;obtain⟨I,N,k5⟩:=kE cq Z.2;refine⟨fun i kj d=> ?_,by simpa using N,fun i vx z M=> ?_⟩
     ·cases i with
      |zero=>simp at d;subst d;exact⟨y,rfl,dQ Z.1⟩
      |succ i=>simpa using I i kj (by simpa using d)
     ·cases i with
      |zero=>simp at z
      |succ i=>exact k5 i vx (by simpa using z) (by simpa using M)
  obtain⟨adP,aD2,TJ⟩:=asB L H' hlen;have Lu: ∀b,b∈L→F (pos L b)=b:=fun b d=>by simp [F,tl,List.getD,yj d]
  have xP: ∀i,i<L.length→F i∈L∧pos L (F i)=i:=fun i z=>by
   have d:L[i]? =some L[i]:=cI z;have e:F i=L[i]:=by simp [F,tl,List.getD,d]
   rw[e];exact⟨e0 d,E8 Fq d⟩
  have ac4: ∀i,L.length≤i→i<H'.length→nC (F i):=fun i G O=>by
   by_cases e:i=L.length
   ·rw[xQ i G,e,Nat.sub_self,lN];exact aq3
   ·have M:H'[i]? =some H'[i]:=cI O;have V:=CE (σ:=F) H' 0 i 0 _ M (List.length_pos_iff.2 (TJ i _ G M));rw[c1]at V;exact Fa _ _ pd _ _ _ V (by rw[xQ i G];omega)
  have SZ: ∀b,R b→nC b:=fun b d=>by
   obtain⟨i,G,O,rfl⟩:=xE b d;exact ac4 i G O
  have SY: ∀b,R b→b∉L:=fun b d=>aq4 b (SZ b d);have Lr: ∀i,L.length≤i→i<H'.length→eb (F i)=an i:=fun i G O=>by
   have d:=KJ i G O;simp only[eb,adz _ (SY _ d)];rw[a7 (by simp),bf d,xQ i G]
   congr 1;omega
  have adV: ∀i j,i<H'.length→j<H'.length→F i=F j→i=j:=fun i j z fg e=>by
   rcases fk i L.length with U|U<;>rcases fk j L.length with sN|sN
   ·rw[←(xP i U).2,←(xP j sN).2,e]
   ·exact absurd (by rw[←e];exact(xP i U).1) (SY _ (KJ j sN fg))
   ·exact absurd (by rw[e];exact(xP j sN).1) (SY _ (KJ i U z))
   ·rw[xQ i U,xQ j sN]at e;omega
  have KZ: ∀i o,i<H'.length→B (bt st.k ws) (F i) o=fi F (B H' i o):=fun i o z=>by
   have M:H'[i]? =some H'[i]:=cI z;have adq:B H' i o=(H'[i]).getD o .undef:=by simp [B,List.getD,M]
   rcases fk o (H'[i]).length with ed|ed
   ·have V:=CE (σ:=F) H' 0 i o _ M ed;rw[c1]at V;obtain⟨PO,G,O⟩:=TV ws st.k (F i) o _ V;obtain⟨j,l,I,N,fe,k5⟩:=HH H' 0 G;rw[c1]at N;have fg:j<H'.length:=(hv.1 I).1;have sK:i=j:=adV i j z fg N;subst sK;rw[M]at I;cases I;rw[O,k5,adq]
   ·have hu:B H' i o= .undef:=by rw[adq,List.getD,eF ed];rfl
    rw[hu];rcases FC ws st.k (F i) o with G|⟨PO,G,O⟩
    ·rw[G];rcases fk i L.length with U|U
     ·have d:L[i]? =some L[i]:=cI U;obtain⟨y,I,N⟩:=adP i _ d;rw[M]at I;cases I;have e:F i=L[i]:=by simp [F,tl,List.getD,d]
      rw[e];unfold B;rw[List.getD,eF (by rw[N];exact ed)];rfl
     ·exact(KQ _ (ac4 i U z)).1 o
    ·obtain⟨j,l,I,N,fe,k5⟩:=HH H' 0 G;rw[c1]at N;have fg:j<H'.length:=(hv.1 I).1;have sK:i=j:=adV i j z fg N;subst sK;rw[M]at I;cases I;omega
  have K1: ∀b o,b∉L→ ¬R b→B (bt st.k ws) b o=B st.k b o:=fun b o d eX=>by
   rcases FC ws st.k b o with G|⟨PO,G,O⟩
   ·exact G
   ·obtain⟨j,l,I,N,fe,k5⟩:=HH H' 0 G;rw[c1]at N;have fg:j<H'.length:=(hv.1 I).1;rcases fk j L.length with sN|sN
    ·exact absurd (by rw[N];exact(xP j sN).1) d
    ·exact absurd (by rw[N];exact KJ j sN fg) eX
  have KY: ∀b o,b∈L→B (bt st.k ws) b o=fi F (B H' (pos L b) o):=fun b o d=>by
   have b6:=(hv.1 (yj d)).1;have:=KZ (pos L b) o (by omega);rwa [Lu b d]at this
  have aEm: ∀x,aK S ι st.k w x→ ¬oC x:=fun x s ⟨b,d,P⟩=>s.2.2 b (FX (A6 b d)).1 P;have KK: ∀x,aK tN an H' w' x→aK S eb (bt st.k ws) w' x:=fun x s=>by
   have sL:S.oA x∨S.kL.heap.size≤x:=by
    rcases s.1 with(g|⟨b,_,g⟩)|g
    ·exact g.1
    ·exact h.own g
    ·exact .inr (dB h.below.size g)
   refine⟨sL,s.2.1,fun b d P=> ?_⟩
   by_cases u:b∈L
   ·rw[Ba b u]at P;exact s.2.2 _ (ML (fun o=>KY b o u) d) P
   ·by_cases K:R b
    ·obtain⟨i,i1,Y,rfl⟩:=xE b K;rw[Lr i i1 Y]at P;exact s.2.2 _ (ML (fun o=>KZ i o Y) d) P
    ·rw[sP b u K]at P;have ar8:=nv (H:=st.k) (fun o=>K1 b o u K) d;rcases s.1 with(g|⟨kj,xG,g⟩)|g
     ·exact g.2.2 b ar8 P
     ·exact u (by rw[h.inj b kj x P g];exact xG)
     ·have:=(h.fresh b x P).2;have g:w.heap.size≤x:=g;omega
  have K6:ec (la ι L) (j_ st.k L) w (aK tN (la ι L) (j_ st.k L) w) an H' w' (aK tN an H' w'):=W.gr;have xJ: ∀b x,b∉L→ι b=some x→w'.heap[x]? =w.heap[x]? :=fun b x d s=>W.below.block x (h.fresh b x s).2 fun⟨kj,xG,g⟩=>d (by rw[h.inj b kj x s g];exact xG);have TM:ec ι st.k w (aK S ι st.k w) eb (bt st.k ws) w' (aK S eb (bt st.k ws) w'):=by
   refine⟨fun x s=>KK x (K6.hE x (KL x s)),fun x o s=>K6.cell x o (KL x s),fun b x s d=> ?_,fun b ro e2 n f d=> ?_⟩
   ·by_cases u:b∈L
    ·obtain⟨I,N⟩:=K6.box (pos L b) x (by rw[MU u];exact s) (by rw[BZ u,BQ];exact d);exact⟨by rw[Ba b u];exact I,by rw[KY b 0 u,BQ];exact N⟩
    ·have K: ¬R b:=fun e=>by rw[(KQ b (SZ b e)).2]at s;cases s
     exact⟨by rw[sP b u K];exact s,by rw[K1 b 0 u K];exact d⟩
   ·by_cases u:b∈L
    ·obtain⟨nt,ka,ev,fB,I,N,fe⟩:=K6.arr (pos L b) ro e2 n f (by rw[BZ u,d];rfl);refine⟨nt,ka,ev,fB,by rw[KY b 0 u,I];rfl,N,fun e=> ?_⟩;obtain⟨FM,gY,fX⟩:=fe e;rw[Ba b u,gY,MU u];refine⟨FM,rfl,fun x C T s j2=>fX x C T (by rw[MU u];exact s) j2⟩
    ·have K: ¬R b:=fun e=>by rw[(KQ b (SZ b e)).1]at d;cases d
     refine⟨ro,_,n,f,by rw[K1 b 0 u K];exact d,bC _,fun _=>⟨rfl,sP b u K,fun x C T s j2=>⟨C,by rw[xJ b x u s];exact j2,rfl⟩⟩⟩
  have T2: ∀i,pq H'.length i=true→eb (F i)=an i:=fun i z=>by
   have z:i<H'.length:=gL z;rcases fk i L.length with U|U
   ·rw[Ba _ (xP i U).1,(xP i U).2]
   ·exact Lr i U z
  have SW: ∀i o,pq H'.length i=true→B (bt st.k ws) (F i) o=fi F (B H' i o):=fun i o z=>KZ i o (gL z);have adk: ∀i o,mG (pq H'.length) (B H' i o)=true:=fun i o=>by
   unfold B;rw[List.getD,List.getD]
   cases e:H'[i]? with
   |none=>rfl
   |some l=>
    simp only[kM]
    cases fJ:l[o]? with
    |none=>rfl
    |some x=>exact ds.1 (ds.1 arK l (e0 e)) x (e0 fJ)
  have asA:aP S eb ⟨st.n,bt st.k ws⟩ a w':=by
   refine⟨h.below.then ⟨W.below.os,W.below.tape,W.below.output,W.below.size,fun k X eX=>W.below.block k (gk X h.below.size) fun⟨b,_,g⟩=> ?_⟩,h.defers,fun t av h2=> ?_,fun b o=> ?_,fun gB bG x G O=> ?_,fun b x s=> ?_,fun b x s=> ?_,h.gr.trans TM⟩
   ·rcases(h.fresh b k g).1 with I|I
    ·omega
    ·exact eX I
   ·obtain⟨v,G,O⟩:=h.n t av h2;exact⟨v,G,O.step TM⟩
   ·show eQ _ _ _ _ b o (B (bt st.k ws) b o)
    by_cases u:b∈L
    ·have b6:=(hv.1 (yj u)).1;have k:=eQ.lJ (ρ:=F) (D:=pq H'.length) T2 SW KK (b:=pos L b) (o:=o) (by simp only[pq,hj];omega) (adk _ o) (W.k (pos L b) o);rw[Lu b u]at k;rw[KY b o u];exact k
    ·by_cases K:R b
     ·obtain⟨i,i1,Y,rfl⟩:=xE b K;have k:=eQ.lJ (ρ:=F) (D:=pq H'.length) T2 SW KK (b:=i) (o:=o) (by simp only[pq,hj];omega) (adk _ o) (W.k i o);rw[KZ i o Y];exact k
     ·rw[K1 b o u K];exact(h.k b o).step TM (fun _=>sP b u K) (fun x s _=>⟨World.cell?_of_block (xJ b x u s),World.frozen?_of_block (xJ b x u s)⟩) (fun _=>⟨sP b u K,fun x s=>xJ b x u s⟩)
   ·have key: ∀b x,eb b=some x→(∃i,F i=b∧an i=some x)∨(b∉L∧ ¬R b∧ι b=some x):=fun b x s=>by
     by_cases u:b∈L
     ·exact .inl ⟨pos L b,Lu b u,by rw[←Ba b u];exact s⟩
     ·by_cases K:R b
      ·obtain⟨i,i1,Y,rfl⟩:=xE b K;exact .inl ⟨i,rfl,by rw[←Lr i i1 Y];exact s⟩
      ·exact .inr ⟨u,K,by rw[←sP b u K];exact s⟩
    have YU: ∀i b x,an i=some x→b∉L→ι b=some x→False:=fun i b x G O e4=>by
     rcases(W.fresh i x G).1 with g|⟨kj,xG,g⟩
     ·have:=(h.fresh b x e4).2;have g:w.heap.size≤x:=g;omega
     ·exact O (by rw[h.inj b kj x e4 g];exact xG)
    rcases key gB x G with⟨i,jS,I⟩|⟨qS,aEj,I⟩<;>rcases key bG x O with⟨j,fJ,N⟩|⟨qT,UM,N⟩
    ·rw[←jS,←fJ,W.inj i j x I N]
    ·exact(YU i bG x I qT N).elim
    ·exact(YU j gB x N qS I).elim
    ·exact h.inj gB bG x I N
   ·have conv: ∀i,an i=some x→(S.kL.heap.size≤x∨S.oC x)∧x<w'.heap.size:=fun i z=>by
     obtain⟨I,N⟩:=W.fresh i x z;refine⟨?_,N⟩;rcases I with I|⟨kj,_,g⟩
     ·exact .inl (dB h.below.size I)
     ·exact(h.fresh kj x g).1
    by_cases u:b∈L
    ·exact conv _ (by rw[←Ba b u];exact s)
    ·by_cases K:R b
     ·obtain⟨i,i1,Y,rfl⟩:=xE b K;exact conv i (by rw[←Lr i i1 Y];exact s)
     ·rw[sP b u K]at s;exact⟨(h.fresh b x s).1,gk (h.fresh b x s).2 W.below.size⟩
   ·show b<(bt st.k ws).length
    by_cases u:b∈L
    ·obtain⟨_,jM,rm,hf⟩:=FX (A6 b u);exact gk (aql hf) (qM _ _)
    ·by_cases K:R b
     ·obtain⟨i,i1,Y,rfl⟩:=xE b K;have M:H'[i]? =some H'[i]:=cI Y;have V:=CE (σ:=F) H' 0 i 0 _ M (List.length_pos_iff.2 (TJ i _ i1 M));rw[c1]at V;have key: ∀(l:bM) (H:Heap) b p c,(b,p,c)∈l→b<(bt H l).length:=by
       intro l
       induction l with
       |nil=>intro H b p c h;cases h
       |cons q l kE=>
        intro H b p c h;obtain⟨gB,dz,lk⟩:=q;rcases hS.1 h with h|h
        ·cases h
         exact gk (vi H b p c).2 (qM _ _)
        ·exact kE _ b p c h
      exact key _ _ _ _ _ V
     ·rw[sP b u K]at s;exact gk (h.gn b x s) (qM _ _)
  have asM:aU (fR eb (bt st.k ws) w' (aK S eb (bt st.k ws) w')) (rs.map (kI F)) us:=by
   refine aU.mk (by simpa using asI.symm) fun i p q b6 iI=> ?_;simp only[gN,lM]at b6;obtain⟨r,gv,rfl⟩:=b6;have jd:=ds.1 arL r (e0 gv);simp only[bL]at jd;obtain⟨v,G,O⟩:=W.n i r gv;have G:us[i]? =some v:=by simpa using G
   rw[iI]at G;cases G;have Fy:fR an H' w' (aK tN an H' w') r q:=by
    cases r<;>first|exact O|(cases jd.2;done)
   exact fR.lJ T2 SW KK jd.1 Fy
  have asL:bg S eb (bt st.k ws) w' (MY (rs.map (kI F))) (pack us):=by
   unfold pack
   match gv:rs.map (kI F),us,asM with
   |[],[],_=>exact⟨[],rfl,trivial⟩
   |[r],[hA],c3=>
    simp only[MY];have:=c3.1;exact eh.yf this
   |r::aEo::l,hA::ahL::us,c3=>
    rw[dif_neg (by simp)];exact⟨_,rfl,c3⟩
  refine qK eb _ ws (pack us) w' pd asA asL fun b d=> ?_;have ady: ∀i,i<H'.length→(∃y,H'[i]? =some y∧y≠[])→ ∃p c,(F i,p,c)∈ws:=fun i _ ⟨y,M,je⟩=>by
   have:=CE (σ:=F) H' 0 i 0 y M (List.length_pos_iff.2 je);rw[c1]at this;exact⟨0,_,this⟩
  by_cases u:b∈L
  ·right;obtain⟨y,M,Z⟩:=adP _ _ (yj u);obtain⟨_,jM,rm,hf⟩:=FX (A6 b u);have:=ady (pos L b) (hv.1 M).1 ⟨y,M,fun e=>by rw[hf,e]at Z;simp at Z⟩;rwa [Lu b u]at this
  ·by_cases K:R b
   ·right;obtain⟨i,i1,Y,rfl⟩:=xE b K;have M:H'[i]? =some H'[i]:=cI Y;exact ady i Y ⟨_,M,TJ i _ i1 M⟩
   ·left;rw[sP b u K]at d;exact d
end
def dx(E:Env)(T:TypeId)(K:bD→Prop):Prop:=
 match E.ty T with
 |some t=>K t
 |none=>False
def FV(t:bD)(x:J):Bool:=
 match t.d,x with
 | .string,.str _=>true
 | .string,_=>false
 | .slice ..,.str _=>false
 | .slice ..,_=>true
 |_,_=>false
def s9(H:Heap)(x:J)(K:J→Prop):Prop:=
 match x with
 | .ptr .. =>K x
 | .ref _=>K x
 | .fp b k _ _=>match B H b 0 with
   | .ad _ _ n _=>k=n∧K x
   |_=>False
 |_=>False
def xS(a:FuncId→Bool)(f:FuncId)(aa:List J):Bool:=
 match ac9 aa with
 |true=>true
 |false=>a f
def y3(E:Env)(H:Heap)(au:Nat)(c:J)(b:List J)(K:J→bM→Prop):Prop:=
 match c with
 | .fn f a=>match xS E.ed f (b++a)with
   |true=>nh E H au f (b++a) K
   |false=>c0 (a.all mD) (tT E H au f (b++a) K)
 |_=>False
def Yz(a:List J)(d:Op):Bool:=
 match d with
 | .call c=>match c.callee with
   | .value x=>match ax a x with
     | .fn _ b=>ac9 (c.args.toList.map (ax a)++b)
     |_=>false
   | .builtin .append=>match c.args.toList with
     |x::_=>match ax a x with
      | .own .. =>true
      |_=>false
     |[]=>false
   |_=>false
 |_=>false
def s7(b:List J)(H:Heap)(a:Op):Nat:=
 match Yz b a with
 |true=>H.length+32
 |false=>H.length
theorem F4(a:List J)(H:Heap)(op:Op):H.length≤s7 a H op:=by
 unfold s7
 cases Yz a op
 ·exact bC _
 ·exact pJ _ _
def hW(E:Env)(au:Nat)(a:List J)(H:Heap)(d:Op)(K:J→bM→Prop):Prop:=
 match d with
 | .move x=>K (ax a x) []
 | .assign x=>K (ax a x) []
 | .pick c x y=>match ax a c with
   | .bool b=>Gs b (ax a x) (ax a y) fun av=>K av []
   | .lit b=>Gs b (ax a x) (ax a y) fun av=>K av []
   |_=>False
 | .alloc T=>dx E T fun t=>c0 (!t.zero.isEmpty) (K (.ptr au 0) (hC au t.zero 0))
 | .box _ x=>c0 (nx (ax a x)&& !(cellsOf (ax a x)).isEmpty) (K (.ptr au 0) (hC au (cellsOf (ax a x)) 0))
 | .build T e=>dx E T fun t=>match t.d with
   | .struct r=>mC r a e.toList t.zero fun cs=>K (.agg cs) []
   |_=>False
 | .load T x=>dx E T fun t=>np t H (ax a x) fun av=>K av []
 | .store T x y=>dx E T fun t=>tp t H (ax a x) (ax a y) fun s=>K .undef s
 | .nilCheck x=>s9 H (ax a x) fun av=>K av []
 | .binOp d T x y _=>dx E T fun t=>oI t d (eD (ax a x)) (eD (ax a y)) fun av=>K av []
 | .unOp d _ x=>yC d (ax a x) fun av=>K av []
 | .fieldAddr T x f=>dx E T fun t=>rP t H f (ax a x) fun av=>K av []
 | .indexAddr T x y=>dx E T fun t=>sQ t H (ax a x) (ax a y) fun av=>K av []
 | .index T x y=>dx E T fun t=>vb E.ty t (ax a x) (ax a y) fun av=>K av []
 | .extract x i=>zl i (ax a x) fun av=>K av []
 | .buildSlice T q e=>dx E T fun t=>pZ t a H au q e.toList K
 | .makeSlice T l c=>dx E T fun t=>qV E t a au l c K
 | .slice T x l h m=>dx E T fun t=>q8 t H a (ax a x) l h m K
 | .convert o n x=>dx E o fun t=>dx E n fun u=>rJ t u (tW E t u) H (ax a x) fun av=>K av []
 | .makeFunc p first j=>match p with
   | .func f=>c0 (first.toList.isEmpty&&(j.toList.map (ax a)).all YJ) (K (.fn f (j.toList.map (ax a))) [])
   |_=>False
 | .call c=>match c.callee with
   | .value x=>y3 E H au (ax a x) (c.args.toList.map (ax a)) K
   | .builtin b=>match b with
     | .len=>match c.args.toList,c.argTypes.toList with
       |[x],[T]=>dx E T fun t=>c0 (FV t (ax a x)) (po H (ax a x) fun av=>K av [])
       |_,_=>False
     | .append=>match c.args.toList,c.argTypes.toList with
       |[x,y],[T,k]=>dx E T fun t=>dx E k fun g=>c0 (g.d.isStr||g.d.sS) (nF t g.d.isStr H au (ax a x) (ax a y) K)
       |_,_=>False
     | .min=>match c.args.toList with
       |[x,y]=>x6 (ax a x) (ax a y) fun av=>K av []
       |_=>False
     | .max=>match c.args.toList with
       |[x,y]=>x5 (ax a x) (ax a y) fun av=>K av []
       |_=>False
     |_=>False
   |_=>False
 |_=>False
def qN:Op→Bool
 | .alloc _| .box .. | .buildSlice .. | .makeSlice .. =>true
 | .call c=>match c.callee with
   | .value _=>true
   | .builtin .append=>true
   |_=>false
 |_=>false
section
variable {E:Env} {S:dM} {ι:Nat→Option Nat} {st:K} {a:Act} {w:World}
theorem jI{T:TypeId}{K:bD→Prop}(a:E.dm)(h:dx E T K): ∃t,gl E.P T t∧E.ty T=some t∧K t:=by
 unfold dx at h
 cases e:E.ty T with
 |none=>rw[e]at h;exact h.elim
 |some t=>rw[e]at h;exact⟨t,a.ty T t e,rfl,h⟩
theorem aye{o:Oper}{x:Operand}(m:o.op= .nilCheck x)(h:aP S ι st a w){K:J→Prop}(b:s9 st.k (ax st.n x) K){next:Act→World→Prop}{Q:Exit→Act→World→Prop}
  (f: ∀av v,K av→bg S ι st.k w av v→next (a.put o.dst v) w):o.wp E.P a w next Q:=by
 have c:=h.eval x;have i: ∀(p:Addr),a.eval x= .pointer (some p)→(execOp a.eval o).run E.P w= .ok (.value (a.eval x)) w:=fun p e=>by simp [execOp,m,e]
 cases e:ax st.n x<;>rw[e]at b c<;>simp only[s9]at b<;>try exact b.elim
 ·obtain⟨_,y,_,d⟩:=(show eg S ι st.k w (.ptr _ _) _ from c);exact di (i _ d) (f _ _ b c)
 ·obtain⟨_,s,t,n,g,k,q,l⟩:=(show eg S ι st.k w (.fp _ _ _ _) _ from c);rw[k]at b;simp only at b;obtain⟨y,r,d⟩:=l b.1;exact di (i _ d) (f _ _ b.2 c)
 ·rename_i cs;have j:aR w (aK S ι st.k w) (.ref cs) (a.eval x):=c;generalize d:a.eval x=v at j
  cases j
  exact di (i _ d) (f _ _ b c)
theorem Yi(n:E.dm){o:Oper}(h:aP S ι st a w){au:Nat}{nC:Nat→Prop}(s:qN o.op=true→nC au∧ ∀b,nC b→(∀p,B st.k b p= .undef)∧ι b=none){K:J→bM→Prop}(Fa: ∀av H,K av H→ ∀b p c,(b,p,c)∈H→au<b→nC b)(d:hW E au st.n st.k o.op K){next:Act→World→Prop}{Q:Exit→Act→World→Prop}
  (G: ∀an av H v w',K av H→aP S an ⟨st.n,bt st.k H⟩ a w'→bg S an (bt st.k H) w' av v→(∀b,an b≠none→ι b≠none∨ ∃p c,(b,p,c)∈H)→next (a.put o.dst v) w'):o.wp E.P a w next Q:=by
 have u: ∀av v,K av []→bg S ι st.k w av v→next (a.put o.dst v) w:=fun av v z N=>G ι av [] v w z h N fun b F=> .inl F
 have adj: ∀(cs:List J),cs.isEmpty=false→ ∃p c,(au,p,c)∈hC au cs 0:=fun cs L=>by
  cases cs with
  |nil=>cases L
  |cons c cs=>exact⟨0,c,by simp [hC]⟩
 cases j:o.op<;>rw[j]at d s<;>simp only[hW]at d<;>try exact d.elim
 case move x=>exact di (by simp [execOp,j]) (u _ _ d (h.eval x))
 case assign x=>exact di (by simp [execOp,j]) (u _ _ d (h.eval x))
 case pick c x y=>
  have L:=h.eval c
  cases e:ax st.n c<;>rw[e]at d L<;>simp only at d<;>try exact d.elim
  ·exact agn j L.bool h d u
  ·exact agn j L.lit h d u
 case alloc T=>
  obtain⟨t,k,_,d⟩:=jI n d;simp only[ay,iL]at d;obtain⟨P,z⟩:=d;obtain⟨C,D⟩:=(s rfl).2 au (s rfl).1;exact alY j k h C D (by intro e;rw[e]at P;cases P) fun an w' v W M N=>G an _ _ v w' z M N fun b F=>(W b F).imp id fun e=>by subst e;exact adj _ P
 case box T x=>
  simp only[ay,bL,iL]at d;obtain⟨⟨e4,P⟩,z⟩:=d;obtain⟨C,D⟩:=(s rfl).2 au (s rfl).1;exact aml j h C D e4 (by intro e;rw[e]at P;cases P) fun an w' v W M N=>G an _ _ v w' z M N fun b F=>(W b F).imp id fun e=>by subst e;exact adj _ P
 case build T BJ=>
  obtain⟨t,k,_,d⟩:=jI n d
  cases Z:t.d<;>rw[Z]at d<;>simp only at d<;>try exact d.elim
  exact amq j k Z h d u
 case load T x=>
  obtain⟨t,k,_,d⟩:=jI n d;exact aw6 j k h d u
 case store T x y=>
  obtain⟨t,k,_,d⟩:=jI n d;exact aBe j k h d fun H w' z M=>G ι _ H _ w' z M trivial fun b F=> .inl F
 case nilCheck x=>exact aye j h d u
 case binOp op T x y kV=>
  obtain⟨t,k,_,d⟩:=jI n d;exact amg j k h d u
 case unOp op T x=>exact aBT j h d u
 case fieldAddr T x f=>
  obtain⟨t,k,_,d⟩:=jI n d;exact aoo j k h d u
 case indexAddr T x y=>
  obtain⟨t,k,_,d⟩:=jI n d;exact ata j k h d u
 case index T x y=>
  obtain⟨t,k,_,d⟩:=jI n d;exact as3 n.ty j k h d u
 case extract x i=>exact an_ j h d u
 case buildSlice T len BJ=>
  obtain⟨t,k,_,d⟩:=jI n d;obtain⟨C,D⟩:=(s rfl).2 au (s rfl).1;exact amp j k h C D d G
 case makeSlice T l c=>
  obtain⟨t,k,_,d⟩:=jI n d;obtain⟨C,D⟩:=(s rfl).2 au (s rfl).1;exact axm n j k h C D d G
 case slice T x l hh m=>
  obtain⟨t,k,_,d⟩:=jI n d;exact aA3 j k h d fun av H v z M N=>G ι av H v w z M N fun b F=> .inl F
 case convert X5 X4 x=>
  obtain⟨t,k,_,d⟩:=jI n d;obtain⟨hA,u6,_,d⟩:=jI n d;exact anh n j k u6 h d fun av v w' z M N=>G ι av [] v w' z M N fun b F=> .inl F
 case makeFunc fn first X=>
  cases hb:fn<;>rw[hb]at d<;>simp only at d<;>try exact d.elim
  rename_i f;obtain⟨L,z⟩:=ay.1 d;simp only[bL]at L;have arP:first= #[]:=oy (by simpa using L.1)
  refine di (v:= .func (.func f) #[] (X.map a.eval)) (w':=w) (by simp [execOp,j,hb,arP,Instr.makeFunc]) (u _ _ z ?_);refine⟨X.toList.map a.eval,by apply congrArg (Value.func (.func f) #[]);apply oy;simp,?_⟩;refine aU.mk (by simp) fun i p q b6 iI=> ?_;simp only[gN,lM]at b6 iI;obtain⟨g,Y,rfl⟩:=b6;obtain⟨r,R,rfl⟩:=iI;rw[Y]at R;cases R;have xC:=ds.1 L.2 (ax st.n g) (ox.2 ⟨g,e0 Y,rfl⟩);have xD:=h.eval g;generalize ax st.n g=c at xC xD
  cases c<;>first|(cases xC;done)|exact xD
 case call c=>
  cases A:c.callee with
  |value f=>
   rw[A]at d;simp only at d;have s:=s (by simp [qN,A]);obtain⟨C,D⟩:=s.2 au s.1;unfold y3 at d
   cases hb:ax st.n f<;>rw[hb]at d<;>simp only at d<;>try exact d.elim
   rename_i eo iU
   cases Ia:xS E.ed eo (c.args.toList.map (ax st.n)++iU)with
   |true=>
    rw[Ia]at d;exact arB n j A hb h s.1 s.2 Fa d G
   |false=>
    rw[Ia]at d;obtain⟨Tf,d⟩:=ay.1 d;exact amO n j A hb Tf h C D d G
  |invoke e2 m=>rw[A]at d;exact d.elim
  |builtin b=>
   rw[A]at d
   cases b<;>simp only at d<;>try exact d.elim
   case append=>
    have s:=s (by simp [qN,A]);obtain⟨C,D⟩:=s.2 au s.1
    split at d
    ·rename_i x y T vM O U;obtain⟨t,k,_,d⟩:=jI n d;obtain⟨t2,S1,_,d⟩:=jI n d;obtain⟨I,d⟩:=ay.1 d;refine al7 (str:=t2.d.isStr) j A (oy (by simpa using O)) (oy (by simpa using U)) k ?_ h C D d G;have V:=S1.d
     cases e:t2.d<;>rw[e]at I V<;>simp only[rB.isStr,rB.sS]at I ⊢ <;>first|(cases I;done)|exact V|exact⟨_,V.1⟩
    ·exact d.elim
   case min=>
    split at d
    ·rename_i x y O;exact axx j A (oy (by simpa using O)) h d u
    ·exact d.elim
   case max=>
    split at d
    ·rename_i x y O;exact axs j A (oy (by simpa using O)) h d u
    ·exact d.elim
   case len=>
    split at d
    ·rename_i x T O U;obtain⟨t,k,_,d⟩:=jI n d;obtain⟨I,d⟩:=ay.1 d;refine awX j A (oy (by simpa using O)) (oy (by simpa using U)) k h ?_ d ?_ u
     ·unfold FV at I;cases e:t.d<;>rw[e]at I<;>first|rfl|(cases I;done)
     ·unfold FV at I;cases e:t.d<;>cases R:ax st.n x<;>rw[e,R]at I<;>first|rfl|(cases I;done)
    ·exact d.elim
end
def jR(b:Option Nat)(av:J)(a:List J):List J:=
 match b with
 |some d=>a.set d av
 |none=>a
def u4(ops:Array Oper)(o:Oper)(st:K)(a skip:Prop):Prop:=
 match o.guard with
 |none=>a
 |some (j,c)=>match(ops[j]?).bind (·.dst)with
  |some d=>match st.n.getD d .undef with
   | .lit b=>match b==c with
     |true=>a
     |false=>skip
   | .gone=>skip
   |_=>False
  |none=>False
def G1:List Oper→Nat→Bool
 |[],_=>false
 |o::r,i=>(match o.guard with
  |some (j,_)=>j==i
  |none=>false)||G1 r i
def yZ(E:Env)(ops:Array Oper):List Oper→Nat→K→(K→Prop)→Prop
 |[],_,st,a=>a st
 |o::b,i,st,a=>u4 ops o st (hW E (s7 st.n st.k o.op) st.n st.k o.op fun av c=>Bh (G1 b i) av fun av=>yZ E ops b (i+1) ⟨jR o.dst av st.n,bt st.k c⟩ a)
   (yZ E ops b (i+1) ⟨jR o.dst .gone st.n,st.k⟩ a)
section
variable {E:Env} {S:dM} {ι:Nat→Option Nat} {st:K} {a:Act} {w:World}
theorem aP.dst(h:aP S ι st a w)(d:Option Nat){av:J}{v:Value}(b:bg S ι st.k w av v):aP S ι ⟨jR d av st.n,st.k⟩ (a.put d v) w:=by
 cases d with
 |none=>exact h
 |some d=>exact h.put d b
def Hq(av r:J):Prop:=av=r∨ ∃b,av= .bool b∧r= .lit b
theorem Hq.rel{H:Heap}{av r:J}{v:Value}(h:Hq av r)(a:bg S ι H w av v):bg S ι H w r v:=by
 rcases h with rfl|⟨b,rfl,rfl⟩
 ·exact a
 ·have:aR w (aK S ι H w) (.bool b) v:=a
  cases this
  exact aR.lit b
theorem afd{a:Bool}{av:J}{K:J→Prop}(h:Bh a av K): ∃r,Hq av r∧K r:=by
 unfold Bh at h
 cases a with
 |false=>exact⟨av,.inl rfl,h⟩
 |true=>
  cases av
  case bool b=>
   cases b
   ·exact⟨_,.inr ⟨false,rfl,rfl⟩,h.2 rfl⟩
   ·exact⟨_,.inr ⟨true,rfl,rfl⟩,h.1 rfl⟩
  all_goals exact⟨_,.inl rfl,h⟩
def rb(ops:Array Oper)(o:Oper)(a:List J):Option Bool:=
 match o.guard with
 |none=>some true
 |some (j,c)=>match(ops[j]?).bind (·.dst)with
  |some d=>match a.getD d .undef with
   | .lit b=>some (b==c)
   | .gone=>some false
   |_=>none
  |none=>none
theorem ac0{ops:Array Oper}{o:Oper}{st:K}{g skip:Prop}(a:u4 ops o st g skip):
  (rb ops o st.n=some true∧g)∨(rb ops o st.n=some false∧skip):=by
 unfold u4 at a;unfold rb
 cases f:o.guard with
 |none=>rw[f]at a;exact .inl ⟨rfl,a⟩
 |some q=>
  obtain⟨j,i⟩:=q;rw[f]at a;simp only at a ⊢
  cases c:(ops[j]?).bind (·.dst)with
  |none=>rw[c]at a;exact a.elim
  |some d=>
   rw[c]at a;simp only at a ⊢
   cases h:st.n.getD d .undef<;>rw[h]at a<;>simp only at a<;>try exact a.elim
   ·rename_i b
    cases e:(b==i)with
    |true=>rw[e]at a;exact .inl ⟨by simp [e],a⟩
    |false=>rw[e]at a;exact .inr ⟨by simp [e],a⟩
   ·exact .inr ⟨rfl,a⟩
theorem WO{ops:Array Oper}{o:Oper}(h:aP S ι st a w){b:Bool}(f:rb ops o st.n=some b):Region.wanted o (yielded ops a.tmps)=b:=by
 unfold rb at f;unfold Region.wanted
 cases p:o.guard with
 |none=>rw[p]at f;cases f;rfl
 |some q=>
  obtain⟨j,t⟩:=q;rw[p]at f;simp only at f ⊢
  cases g:(ops[j]?).bind (·.dst)with
  |none=>rw[g]at f;cases f
  |some d=>
   rw[g]at f;simp only at f;have get: ∀x,st.n.getD d .undef=x→x≠ .undef→st.n[d]? =some x:=fun x i s=>by
    cases e:st.n[d]? with
    |none=>simp [List.getD,e]at i;exact absurd i.symm s
    |some av=>simp [List.getD,e]at i;rw[i]
   cases m:st.n.getD d .undef<;>rw[m]at f<;>simp only at f<;>try (cases f;done)
   ·rename_i c;obtain⟨v,k,l⟩:=h.n d _ (get _ m (by simp));have:=bg.lit l;subst this;have n:yielded ops a.tmps j=some c:=by simp [yielded,g,k]
    rw[n];simp only[gM]at f;rw[←f]
    cases c<;>cases t<;>rfl
   ·obtain⟨v,k,l⟩:=h.n d _ (get _ m (by simp));have r:v=undef:=l;subst r;have n:yielded ops a.tmps j=none:=by simp [yielded,g,k,undef]
    rw[n]
    cases f;rfl
theorem PA(f:E.dm){ops:Array Oper}{Q:Exit→Act→World→Prop} : ∀(l:List Oper) (i:Nat) (ι:Nat→Option Nat) (st:K) (a:Act) (w:World) (c:K→Prop),aP S ι st a w→yZ E ops l i st c→
  (∀ι st a w,aP S ι st a w→c st→Q .normal a w)→wpList E.P ops Q l a w
 |[],_,ι,st,a,w,c,h,j,e=>e ι st a w h j
 |o::l,i,ι,st,a,w,c,h,j,e=>by
  unfold wpList;rcases ac0 j with⟨m,k⟩|⟨m,k⟩
  ·rw[bf (WO h m)];refine .inl (Yi f h (nC:=fun b=>s7 st.n st.k o.op≤b) (fun _=>⟨bC _,fun b d=>⟨fun p=>sJ (dB (F4 _ _ _) d) p,h.L9 (dB (F4 _ _ _) d)⟩⟩) (fun _ _ _ b _ _ _ d=>Nat.le_of_lt d) k fun an av t v w' g q s _=> ?_);obtain⟨r,n,g⟩:=afd g;exact PA f l (i+1) an _ _ w' c (aP.dst q o.dst (n.rel s)) g e
  ·rw[a7 (by rw[WO h m];simp)];exact PA f l (i+1) ι _ _ w c (aP.dst h o.dst (av:= .gone) rfl) k e
end
end Go.af
