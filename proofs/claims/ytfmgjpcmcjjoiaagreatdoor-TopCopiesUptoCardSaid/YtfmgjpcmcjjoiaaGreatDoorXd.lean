/- Part of a proof: the executor and its soundness. -/
import Derived.Test.YtfmgjpcmcjjoiaaGreatDoorXb
open Go.IntKind (i64 u64 u8)
open Int (toNat)
set_option maxRecDepth 100000
set_option maxHeartbeats 4000000
set_option linter.all false
noncomputable section
namespace Go.ah
open Go Go.RowKit
section
variable {E:Env} {S:dR} {ι:Nat→Option Nat} {st:D} {a:Act} {w:World}
theorem agJ(h:aU S ι st a w){e:Nat} : ∀(d:List (Nat×Operand)) (k:Nat) (l:List (List J)),kM e st.n d k=some l→
  l.length=d.length∧(d.map fun p=>(p.1,a.eval p.2))=((d.map fun p=>a.eval p.2).zipIdx k).map (fun x=>(x.2,x.1))∧(∀v∈d.map (fun p=>a.eval p.2),v.cells.size=e)∧
  aY (fun cs v=>aY (ej S ι st.k w) cs v.cells.toList) l (d.map fun p=>a.eval p.2)
 |[],k,l,b=>by
  simp only[kM,hd]at b;subst b;exact⟨rfl,rfl,fun v c=>by simp at c,trivial⟩
 |(i,x)::r,k,l,b=>by
  simp only[kM]at b
  split at b
  ·rename_i j;simp only[bY]at j;obtain⟨f,⟨u,g⟩,A⟩:=j;have f:i=k:=dX f;subst f;have g:(cellsOf (eE (aC st.n x))).length=e:=dX g
   split at b
   ·rename_i z t;simp only[hd]at b;subst b;obtain⟨n,o,q,s⟩:=agJ h r (i+1) z t;have m:=ek.cells (A6 (h.eval x)) u;have y:(a.eval x).cells.size=e:=by rw[←g,m.length];simp
    refine⟨by simp [n],by simp [List.zipIdx_cons,o],fun v c=> ?_,m,s⟩;simp only[Gh,hf]at c;rcases c with rfl|c
    ·exact y
    ·exact q v c
   ·cases b
  ·cases b
theorem Y3{H:Heap}(h:aU S ι st a w): ∀(e:List (List J)) (us:List Value) (K:List (List J)→Prop),(∀b∈e.flatten.flatMap oz,∀p k n f,I H b 0= .ae p k n f→I st.k b 0= .ae true k n f)→aY (fun cs (v:Value)=>aY (ej S ι st.k w) cs v.cells.toList) e us→m1 H e K→ ∃g,K g∧aY (fun cs (v:Value)=>aY (aR w (aM S ι st.k w)) cs v.cells.toList) g us
 |[],[],K,_,_,c=>⟨[],c,trivial⟩
 |l::e,u::us,K,j,d,c=>by
  simp only[m1]at c;obtain⟨y,c,m⟩:=PE h l _ _ (fun b i=>j b (by simp only[yF,BL,hq];exact .inl i)) d.1 c;obtain⟨g,c,o⟩:=Y3 h e us _ (fun b i=>j b (by simp only[yF,BL,hq];exact .inr i)) d.2 c;exact⟨y::g,c,m,o⟩
 |[],_::_,_,_,d,_=>d.elim
 |_::_,[],_,_,d,_=>d.elim
theorem azD{c:J}{b:Nat}(h:b∈oz c):b∈qR c:=by
 cases c<;>simp only[oz,qR]at h ⊢ <;>first|exact h|(cases h;done)
theorem am9{o:Oper}{T:TypeId}{t:bB}{len:Nat}{k:Array (Nat×Operand)}(eh:o.op= .buildSlice T len k)(jl:gu E.P T t)(h:aU S ι st a w){aA:Nat}(Z: ∀o,I st.k aA o= .undef)(pe:ι aA=none){N:J→bX→Prop}
  (m:pW t st.n st.k aA len k.toList N) {next:Act→World→Prop} {Q:Exit→Act→World→Prop}
  (qE: ∀ay ab ws v ag,N ab ws→aU S ay ⟨st.n,bt st.k ws⟩ a ag→bk S ay (bt st.k ws) ag ab v→(∀b,ay b≠none→ι b≠none∨ ∃p c,(b,p,c)∈ws)→next (a.put o.dst v) ag):o.wp E.P a w next Q:=by
 have V:=jl.d;unfold pW at m
 cases O:t.d<;>rw[O]at m<;>simp only at m<;>try exact m.elim
 rename_i e lG mg;rw[O]at V;obtain⟨hu,i,X,nq,uD,AH,adU⟩:=V;subst nq;obtain⟨z,hE⟩:=Option.isSome_iff_exists.1 AH
 cases G:kM i.size st.n k.toList 0 with
 |none=>rw[G]at m;exact m.elim
 |some l=>
  rw[G]at m;obtain⟨s,m⟩:=aD.1 m;simp only[bY,fU]at s;obtain⟨⟨⟨Y,F⟩,D⟩,Kz⟩:=s;have Y:l.length=len:=dX Y;have F:len≤4096:=gW F;have D:i.size≤4096:=gW D;obtain⟨h5,iK,R,lb⟩:=agJ h _ _ _ G;have L:(k.toList.map fun p=>a.eval p.2).length=len:=by rw[List.length_map];omega
  obtain⟨W,ES⟩:=h.freeze (al:=bt st.k (ev st.k l.flatten)) (uX _) (qG _ _);obtain⟨M,⟨aZ,uC,pb⟩,r⟩:=Y3 (H:=st.k) W l _ _ (fun b iP ro cP n f he=>F1 (by
   obtain⟨c,asq,B⟩:=lx.1 iP;exact lx.2 ⟨c,asq,azD B⟩) he) (lb.imp fun _ _ q=>q.imp fun _ _ c4=>c4.step ES) m
  have Se: ∀o,I (bt st.k (ev st.k l.flatten)) aA o= .undef:=fun o=>by
   rcases uX (H:=st.k) l.flatten aA o with g|⟨_,ro,cP,n,f,g,_⟩
   ·rw[g];exact Z o
   ·rw[Z 0]at g;cases g
  have P: ∀C:Array Value,(Instr.buildSlice T len (k.map fun(i,x)=>(i,a.eval x))).run E.P w= .ok (.slice (some ⟨w.heap.size,0,none⟩) len len) (w.alloc (.cells C e))→C.size=len*i.size→
    (∀d j,d<len→j<i.size→C[d*i.size+j]? =((k.toList.map fun p=>a.eval p.2)[d]?).bind fun v=>v.cells[j]?)→o.wp E.P a w next Q:=fun C om kF j_=>by
   have U:Below w.heap.size w (w.alloc (.cells C e)):=(Below.refl _ w).alloc (bx _) _;have gD:pR w.heap.size (w.alloc (.cells C e)) (aM S ι (bt st.k (ev st.k l.flatten)) w) (.ae false i.size len aZ) (.slice (some ⟨w.heap.size,0,none⟩) len len):=by
    refine .inr ⟨w.heap.size,len,C,e,bx _,by simp,rfl,bx _,by have nk:dm=549755813888:=rfl;omega,rf w _,kF,fun d j u A=> ?_⟩;have aFi:M.length=len:=by rw[r.length];exact L
    obtain⟨row,aef⟩: ∃row,M[d]? =some row:=⟨_,cT (show d<M.length by omega)⟩;obtain⟨v,hl,gh⟩:=r.get d row aef;have pd:v.cells.size=i.size:=R v (e4 hl);have hlen:row.length=i.size:=by rw[gh.length];simpa using pd
    obtain⟨c,s⟩: ∃c,row[j]? =some c:=⟨_,cT (show j<row.length by omega)⟩;obtain⟨fY,iS,Fe⟩:=gh.get j c s;have ad8:=uC d u;rw[List.getD,aef]at ad8;obtain⟨K,B,as_⟩:=LB j c ad8 s;refine⟨K,fY,B,?_,TP as_ (Fe.mono (fun y r=>⟨r,fun e=> ?_⟩) fun y o r=>U.cell r.2.1)⟩
    ·rw[j_ d j u A,hl];simpa using iS
    ·subst e;exact absurd r.2.1 (Nat.lt_irrefl _)
   obtain⟨ay,ab,Mk,q1,fp,yh,Ux⟩:=UI (st:=st) (ws:=ev st.k l.flatten) W U gD (fun y r=> .inl r) Se pe pb;refine dk (v:= .slice (some ⟨w.heap.size,0,none⟩) len len) (ag:=w.alloc (.cells C e)) ?_ (qE _ _ _ _ _ q1 fp yh Ux);simp only[execOp,eh];rw[Sem.run_bind,om];rfl
  have atl:(k.map fun(i,x)=>(i,a.eval x)).toList=((k.toList.map fun p=>a.eval p.2).zipIdx 0).map (fun x=>(x.2,x.1)):=by rw[←iK];simp
  by_cases jH:len=0
  ·subst jH;refine P #[] ?_ (by simp) (fun d j u=>by omega);have atm:k.toList=[]:=by
    have:k.toList.length=0:=by omega
    exact Vy this
   have Sk:k= #[]:=oG (by simpa using atm);have ato:(Array.range 0)= #[]:=rfl;simp [ato,Instr.buildSlice,e3 hu,sizeOf,typeInfo,X,Sk,Instr.fill,newRow]
  ·obtain⟨C,FX,UB,aAU⟩:=Great.fill_dense Kz (k.toList.map fun p=>a.eval p.2) 0 ((Array.range (len*i.size)).map (z.cells[· %z.cells.size]!)) R (by rw[L];simp);have hmul:len*i.size≤16777216:=Nat.mul_le_mul F D;refine P C (run_buildSlice w T e len _ C i z hu X hE (by omega) (fun h=>by rcases Nat.mul_eq_zero.1 h with h|h<;>omega) (by rw[atl];exact FX)) (by rw[UB];simp) (fun d j u A=> ?_);have gC:d*i.size+j<len*i.size:=by
    have:(d+1)*i.size≤len*i.size:=hc _ u;rw[iY]at this;omega
   have jg:(d*i.size+j)/i.size=d:=by
    rw[ta,Nat.mul_add_div (by omega),Mr A];omega
   have fL:(d*i.size+j)%i.size=j:=by
    rw[ta,Nat.mul_add_mod,Ms A]
   rw[aAU,L,bF ⟨by simp,by rw[cN];exact gC⟩,jg,fL,Nat.sub_zero]
theorem am4(h:aU S ι st a w){x:Operand}{k:IntKind}{z:Int}(b:aC st.n x= .int k z):a.eval x= .int k z:=by
 have:=h.eval x;rw[b]at this;exact bk.int this
def lj(m:Option Operand)(c:Nat)(a:Int):Nat:=
 match m with
 |none=>c
 |some _=>a.toNat
theorem OH(h:aU S ι st a w)(C:Bool)(o n:Nat)(l aZ m:Option Operand){K:Int→Int→Int→Prop}(b:cL st.n 0 l fun j=>cL st.n o aZ fun f=>cL st.n f m fun g=>(0≤j∧j≤f∧f≤g∧g≤o)∧K j f g)(I:o≤n)(B:aZ=none→m=none):
  ∃j f g:Int,(0≤j∧j≤f∧f≤g∧g≤o)∧K j f g∧(m=none→g=f)∧(Instr.sliceBounds C o n (l.map a.eval) (aZ.map a.eval) (m.map a.eval)).run E.P w= .ok (j.toNat,f.toNat,lj m n g) w:=by
 have q: ∀{x:Operand} {s:Int→Prop} (d:Int),cL st.n d (some x) s→ ∃k z,a.eval x= .int k z∧s z:=fun {x s} d b=>by
  simp only[cL]at b
  cases e:aC st.n x<;>rw[e]at b<;>simp only at b<;>try exact b.elim
  exact⟨_,_,am4 h e,b⟩
 cases l with
 |none=>
  simp only[cL]at b
  cases aZ with
  |none=>
   have:=B rfl;subst this;simp only[cL]at b;refine⟨_,_,_,b.1,b.2,fun _=>rfl,?_⟩;simp [lj,Instr.sliceBounds]
  |some D=>
   obtain⟨r,c,p,b⟩:=q 0 b
   cases m with
   |none=>
    simp only[cL]at b;refine⟨_,_,_,b.1,b.2,fun _=>rfl,?_⟩;simp [lj,Instr.sliceBounds,p,run_sliceBound w r c n _ (by omega) (by omega)]
   |some F=>
    obtain⟨v,i,u,b⟩:=q 0 b;refine⟨_,_,_,b.1,b.2,fun h=>(by cases h),?_⟩;have A:(i.toNat:Int)=i:=Mp (by omega);simp [lj,Instr.sliceBounds,p,u,run_sliceBound w v i n _ (by omega) (by omega),run_sliceBound w r c i.toNat _ (by omega) (by omega)]
 |some J=>
  obtain⟨G,y,t,b⟩:=q 0 b
  cases aZ with
  |none=>
   have:=B rfl;subst this;simp only[cL]at b;refine⟨_,_,_,b.1,b.2,fun _=>rfl,?_⟩;simp [lj,Instr.sliceBounds,t,run_sliceBound w G y o _ (by omega) (by omega)]
  |some D=>
   obtain⟨r,c,p,b⟩:=q 0 b
   cases m with
   |none=>
    simp only[cL]at b;refine⟨_,_,_,b.1,b.2,fun _=>rfl,?_⟩;have A:(c.toNat:Int)=c:=Mp (by omega);simp [lj,Instr.sliceBounds,t,p,run_sliceBound w r c n _ (by omega) (by omega),run_sliceBound w G y c.toNat _ (by omega) (by omega)]
   |some F=>
    obtain⟨v,i,u,b⟩:=q 0 b;refine⟨_,_,_,b.1,b.2,fun h=>(by cases h),?_⟩;have A:(i.toNat:Int)=i:=Mp (by omega);have H:(c.toNat:Int)=c:=Mp (by omega);simp [lj,Instr.sliceBounds,t,p,u,run_sliceBound w v i n _ (by omega) (by omega),run_sliceBound w r c i.toNat _ (by omega) (by omega),run_sliceBound w G y c.toNat _ (by omega) (by omega)]
end
section
variable {E:Env} {S:dR} {ι:Nat→Option Nat} {st:D} {a:Act} {w:World}
theorem aR.part{F:Nat→Prop}{k n c m l aZ p:Nat}{f:Nat→List J}{a:Option Addr}(A:k=p)(h:aR w F (.arr k n f) (.slice a n c))(C:l≤aZ)(D:aZ≤n)(E:aZ≤m)(z:n=0→a=none→m=0):
  aR w F (.arr k (aZ-l) fun i=>f (l+i)) (.slice (if m=l then a else a.map (·.add (l*p))) (aZ-l) (m-l)):=by
 subst A
 by_cases u:aZ-l=0
 ·rw[u]
  cases a with
  |none=>
   cases h with
   |nil=>
    have y:=z rfl rfl;have x:l=0:=by omega
    subst y;subst x;exact .nil _ _
  |some a=>
   by_cases e:m=l
   ·rw[bF e];exact .mt _ _ _ _
   ·rw[bH e];exact .mt _ _ _ _
 ·have e:m≠l:=by omega
  rw[bH e]
  cases h with
  |nil=>omega
  |mt=>omega
  |arr _ _ _ b o c g B H G v r s t=>
   simp only[rb,Addr.add_lit];refine .arr k (aZ-l) _ b (o+l*k) (m-l) (fun i=>g (l+i)) (fun i=>B (l+i)) (by omega) (by omega) (fun _=>v (by omega)) (fun i j q d=>r _ _ (by omega) d) (fun i j q d=> ?_) (fun i j q d=>t _ _ (by omega) d);have:=s (l+i) j (by omega) d;rw[←this,hr]
   congr 2;omega
theorem aBO{o:Oper}{T:TypeId}{t:bB}{x:Operand}{l aZ m:Option Operand}(eh:o.op= .slice T x l aZ m)(jl:gu E.P T t)(h:aU S ι st a w){K:J→bX→Prop}(q:q3 t st.k st.n (aC st.n x) l aZ m K){next:Act→World→Prop}{Q:Exit→Act→World→Prop}
  (P: ∀ab D v,K ab D→aU S ι ⟨st.n,bt st.k D⟩ a w→bk S ι (bt st.k D) w ab v→next (a.put o.dst v) w):o.wp E.P a w next Q:=by
 have H:=h.eval x;have B:=jl.d;unfold q3 at q;obtain⟨M,q⟩:=aD.1 q;have M:aZ=none→m=none:=fun e=>by
  subst e
  cases m with
  |none=>rfl
  |some _=>simp at M
 cases nW:t.d<;>rw[nW]at q B<;>simp only at q<;>try exact q.elim
 ·
  cases O:aC st.n x<;>rw[O]at q H<;>simp only at q<;>try exact q.elim
  rename_i s
  cases m with
  |some _=>exact q.elim
  |none=>
   have asX:cL st.n 0 l fun j=>cL st.n s.size aZ fun g=>cL st.n g none fun k=>(0≤j∧j≤g∧g≤k∧k≤s.size)∧K (.str (s.extract j.toNat g.toNat)) []:=by
    have mono: ∀{d:Int} {o:Option Operand} {y eI:Int→Prop},(∀z,y z→eI z)→cL st.n d o y→cL st.n d o eI:=fun {d o y eI} u p=>by
     cases o with
     |none=>exact u _ p
     |some x=>
      simp only[cL]at p ⊢
      cases e:aC st.n x<;>rw[e]at p<;>simp only at p ⊢ <;>first|exact p.elim|exact u _ p
    refine mono (fun j p=>mono (fun g F=> ?_) p) q;simp only[cL];exact⟨⟨F.1.1,F.1.2.1,dp _,F.1.2.2⟩,F.2⟩
   obtain⟨j,g,k,p,u,_,C⟩:=OH (E:=E) h false s.size s.size l aZ none (K:=fun j g k=>K (.str (s.extract j.toNat g.toNat)) []) asX (bx _) (fun _=>rfl);have G:=bk.str H;have jI:=bk.Va H;refine dk (v:= .string (s.extract j.toNat g.toNat)) (ag:=w) ?_ (P _ _ _ u h (bk.mkStr _ (by rw[ByteArray.size_extract];omega)));simp only[Option.map_none]at C;simp [execOp,eh,G,Instr.sliceAt,e3 B,Instr.slice];rw[C];rfl
 ·rename_i e X mg;obtain⟨hu,i,AG,nq,_⟩:=B;have Y: ∀(A:Option Addr) (n c:Nat) (j g k:Int),a.eval x= .slice A n c→(Instr.sliceBounds true n c (l.map a.eval) (aZ.map a.eval) (m.map a.eval)).run E.P w= .ok (j.toNat,g.toNat,(lj m c k)) w→
    (execOp a.eval o).run E.P w= .ok (.value (.slice (if(lj m c k)=j.toNat then A else A.map (·.add (j.toNat*X))) (g.toNat-j.toNat) ((lj m c k)-j.toNat))) w:=fun A n c j g k G C=>by
   generalize lj m c k=cd at C ⊢;simp [execOp,eh,G,Instr.sliceAt,e3 hu,Instr.slice,C,sizeOf,typeInfo,AG,nq]
  have arr: ∀(al:Heap) (D:bX) (r n:Nat) (f:Nat→List J),al=bt st.k D→aU S ι ⟨st.n,al⟩ a w→r=X→aR w (aM S ι al w) (.arr r n f) (a.eval x)→(cL st.n 0 l fun j=>cL st.n n aZ fun g=>cL st.n g m fun k=>((0≤j∧j≤g∧g≤k∧k≤n)∧(kr m r=true→g=k))∧K (sR (kr m r) r (g-j).toNat fun i=>f (j.toNat+i)) D)→o.wp E.P a w next Q:=fun al D r n f J0 oo L R q=>by
   have mono: ∀{d:Int} {o:Option Operand} {y eI:Int→Prop},(∀z,y z→eI z)→cL st.n d o y→cL st.n d o eI:=fun {d o y eI} u p=>by
    cases o with
    |none=>exact u _ p
    |some x=>
     simp only[cL]at p ⊢
     cases e:aC st.n x<;>rw[e]at p<;>simp only at p ⊢ <;>first|exact p.elim|exact u _ p
   have q:=mono (eI:=fun j=>cL st.n n aZ fun g=>cL st.n g m fun k=>(0≤j∧j≤g∧g≤k∧k≤n)∧((kr m r=true→g=k)∧K (sR (kr m r) r (g-j).toNat fun i=>f (j.toNat+i)) D)) (fun j p=>mono (fun g F=>mono (fun k B=>⟨B.1.1,B.1.2,B.2⟩) F) p) q;have atH: ∃A c,a.eval x= .slice A n c∧n≤c∧(A=none→c=0):=by
    generalize a.eval x=v at R
    cases R with
    |nil=>exact⟨none,0,rfl,bx _,fun _=>rfl⟩
    |mt _ _ A c=>exact⟨some A,c,rfl,cA _,fun h=>by cases h⟩
    |arr _ _ _ b o c fY cv e8=>exact⟨_,c,rfl,e8,fun h=>by cases h⟩
   obtain⟨A,c,G,mD,adA⟩:=atH;obtain⟨j,g,k,⟨gJ,bG,je,mb⟩,⟨EF,u⟩,aE2,C⟩:=OH (E:=E) h true n c l aZ m (K:=fun j g k=>(kr m r=true→g=k)∧K (sR (kr m r) r (g-j).toNat fun i=>f (j.toNat+i)) D) q mD M;have aeb:=R;rw[G]at aeb;have cP:=aR.part (m:=(lj m c k)) (l:=j.toNat) (aZ:=g.toNat) L aeb (by omega) (by omega) (by cases m<;>simp only[lj]<;>omega) (fun e8 xo=>by
    cases m with
    |none=>exact adA xo
    |some _=>simp only[lj];omega)
   refine dk (Y A n c j g k G C) (P _ _ _ u (by rw[←J0];exact oo) ?_);rw[←J0];have N:(g-j).toNat=g.toNat-j.toNat:=by omega
   rw[N]
   cases W:kr m r with
   |false=>exact cP
   |true=>
    have U:=EF W;refine aR.jV _ _ _ _ _ cP ?_
    cases m with
    |none=>cases W
    |some _=>simp only[lj];omega
  cases O:aC st.n x<;>rw[O]at q H<;>simp only at q<;>try exact q.elim
  ·
   have mono: ∀{d:Int} {o:Option Operand} {y eI:Int→Prop},(∀z,y z→eI z)→cL st.n d o y→cL st.n d o eI:=fun {d o y eI} u p=>by
    cases o with
    |none=>exact u _ p
    |some x=>
     simp only[cL]at p ⊢
     cases e:aC st.n x<;>rw[e]at p<;>simp only at p ⊢ <;>first|exact p.elim|exact u _ p
   have xv:aR w (aM S ι st.k w) .aE (a.eval x):=H;have G:a.eval x= .slice none 0 0:=by
    generalize a.eval x=v at xv
    cases xv;rfl
   obtain⟨j,g,k,⟨gJ,bG,je,mb⟩,u,_,C⟩:=OH (E:=E) h true 0 0 l aZ m (K:=fun _ _ _=>K .aE []) (mono (fun j p=>mono (fun g F=>mono (fun k B=>⟨by omega,B.2⟩) F) p) q) (bx _) M;refine dk (Y none 0 0 j g k G C) (P _ _ _ u h ?_);have N:j=0:=by omega
   have U:g=0:=by omega
   have bl:k=0:=by omega
   subst N U bl
   cases m<;>simp [lj]<;>exact aR.aE
  ·rename_i r n f;obtain⟨L,q⟩:=aD.1 q;exact arr st.k [] r n f rfl h (aq L) H q
  ·rename_i b hg
   cases V:I st.k b 0<;>rw[V]at q<;>simp only at q
   rename_i ro r n f;obtain⟨L,EJ,q⟩:=aD.1 q;obtain⟨Z,ES⟩:=h.freeze (al:=bt st.k [(b,0,.ae true r n f)]) (fun ko LC=>by
    rw[AN,eK]
    by_cases e:ko=b∧LC=0
    ·obtain⟨rfl,rfl⟩:=e;rw[bF ⟨rfl,rfl⟩];exact .inr ⟨rfl,ro,r,n,f,V,by rw[eK,bF ⟨rfl,rfl⟩]⟩
    ·rw[bH e];exact .inl rfl) (qG _ _)
   refine arr _ _ r n f rfl Z (aq L) (LJ Z (by rw[AN,eK,bF ⟨rfl,rfl⟩]) EJ (cf.step ES H)) q
theorem foldl_push: ∀(l:List Int) (r:z),l.foldl (fun r n=>r.push (UInt8.ofNat n.toNat)) r=⟨r.data++(l.map fun n=>UInt8.ofNat n.toNat).toArray⟩
 |[],r=>by simp
 |n::l,r=>by
  simp only[Ge,foldl_push l,Gh];simp [ByteArray.push]
theorem anJ{o m e:TypeId}(G:E.P.underlying o=some (.slice e))(B:E.P.underlying e=some (.int .u8))(A:E.P.underlying m=some .string){n x p c:Nat}{f:Nat→List J}{u:Nat→Value}{F:Nat→Prop}
  (y: ∀i,i<n→E6 ((f i).getD 0 .undef)=true) (q: ∀i,i<n→w.cell? ⟨x,p+i,none⟩=some (u i)∧aR w F ((f i).getD 0 .undef) (u i)):
  (convert o m (.slice (some ⟨x,p,none⟩) n c)).run E.P w= .ok (.string (bytesOf n f)) w:=by
 rw[run_convert_bytes_string w o m e _ n c G B A];have H: ∀i,i<n→u i= .int .u8 ((aic ((f i).getD 0 .undef):Nat):Int)∨ ∃z,(f i).getD 0 .undef= .int .u8 z∧u i= .int .u8 z:=fun i l=>by
  have d:=y i l;have a:=(q i l).2;generalize (f i).getD 0 .undef=ab at d a;generalize u i=v at a
  cases a<;>first|(cases d;done)|skip
  rename_i k z
  cases k<;>first|(cases d;done)|exact .inr ⟨z,rfl,rfl⟩
 let b:List Int:=(List.range n).map fun i=>match u i with| .int _ z=>z|_=>0
 have t:=Mq (P:=E.P) w ⟨x,p,none⟩ (b.map (Value.int .u8)) (fun j v g=>by
  have r:j<n:=by
   have:=(iW.1 g).1;simpa[b]using this
  rw[Addr.add_lit,(q j r).1];simp [b,BK r]at g;rcases H j r with h|⟨z,_,h⟩<;>rw[h]at g ⊢ <;>simp only at g<;>rw[←g]<;>simp)
 have D:(b.map (Value.int .u8)).length=n:=by simp [b]
 rw[D]at t;rw[run_bytesToString w ⟨x,p,none⟩ n c b t,foldl_push];have C:ByteArray.empty.data= #[]:=rfl;rw[C]
 congr 2
 unfold bytesOf
 congr 1
 simp only[Array.empty_append,b,List.map_map]
 congr 1
 apply Gs;intro i l;have s:i<n:=vg.1 l;simp only[Function.comp];have d:=y i s;have a:=(q i s).2;generalize (f i).getD 0 .undef=ab at d a;generalize u i=v at a
 cases a<;>first|(cases d;done)|rfl
end
section
variable {E:Env} {S:dR} {ι:Nat→Option Nat} {st:D} {a:Act} {w:World}
theorem anc(n:Nat)(f:Nat→List J):(bytesOf n f).size=n:=by simp [bytesOf,ByteArray.size]
def tw(E:Env)(t u:bB):Option bB:=
 match u.d with
 | .slice e _ _=>E.ty e
 |_=>match t.d with
  | .slice e _ _=>E.ty e
  |_=>none
theorem Xl(n:E.dq){T:TypeId}{t:bB}{i:Option bB}(o:gu E.P T t)(p: ∀e c a,t.d= .slice e c a→i=E.ty e)(h:nS t i=true): ∃e,E.P.underlying T=some (.slice e)∧E.P.underlying e=some (.int .u8):=by
 have j:=o.d;unfold nS at h
 cases g:t.d<;>rw[g]at h j<;>simp only at h<;>try (cases h;done)
 rename_i e c a;rw[p e c a g]at h;simp only[bY]at h
 cases b:E.ty e with
 |none=>rw[b]at h;cases h.2
 |some m=>
  rw[b]at h;have l:=(n.ty e m b).d;have d:=h.2
  cases f:m.d<;>rw[f]at l<;>simp only[f]at d<;>try (cases d;done)
  rename_i k
  cases k<;>first|(cases d;done)|exact⟨e,j.1,l⟩
theorem anK(mB:E.dq){o:Oper}{N G:TypeId}{t u:bB}{x:Operand}(eh:o.op= .convert N G x)(jl:gu E.P N t)(J7:gu E.P G u)
  (h:aU S ι st a w) {K:J→Prop} (d:rI t u (tw E t u) st.k (aC st.n x) K) {next:Act→World→Prop} {Q:Exit→Act→World→Prop}
  (Y: ∀ab v ag,K ab→aU S ι st a ag→bk S ι st.k ag ab v→next (a.put o.dst v) ag):o.wp E.P a w next Q:=by
 have A:=h.eval x;have R:=jl.d;have H:=J7.d;have Z: ∀v ag,(convert N G (a.eval x)).run E.P w= .ok v ag→(execOp a.eval o).run E.P w= .ok (.value v) ag:=fun v ag r=>by
  simp only[execOp,eh];rw[Sem.run_bind,r];rfl
 have aei:u.d.isStr=true→E.P.underlying G=some .string:=fun e=>by
  cases B:u.d<;>rw[B]at e H<;>first|exact H|(cases e;done)
 have R3:u.d.isStr=true→ ∀e lG mg,t.d= .slice e lG mg→tw E t u=E.ty e:=fun M e lG mg O=>by
  unfold tw
  cases B:u.d<;>rw[B]at M<;>first|(cases M;done)|simp only[O]
 have core: ∀(n:Nat) (f:Nat→List J),n≤dm→u.d.isStr=true→nS t (tw E t u)=true→(∀i,i<n→E6 ((f i).getD 0 .undef)=true)→K (.str (bytesOf n f))→(∃m c,a.eval x= .slice m n c∧(m=none→n=0)∧(n=0∨ ∃(q p:Nat) (u:Nat→Value),m=some ⟨q,p,none⟩∧ ∀i,i<n→w.cell? ⟨q,p+i,none⟩=some (u i)∧aR w (aM S ι st.k w) ((f i).getD 0 .undef) (u i)))→o.wp E.P a w next Q:=by
  intro n f L M U T y ⟨m,c,r,adA,k⟩;obtain⟨e,V,W⟩:=Xl mB jl (R3 M) U;refine dk (Z _ w ?_) (Y _ _ _ y h (bk.mkStr _ (by rw[anc];exact L)));rcases k with rfl|⟨q,p,u,rfl,k⟩
  ·rw[r];have asf:bytesOf 0 f=⟨#[]⟩:=rfl;rw[asf,run_convert_bytes_string w N G e m 0 c V W (aei M)]
   cases m with
   |none=>simp [Conv.bytesToString];rfl
   |some m=>
    have z:=Mq (P:=E.P) w m [] (fun j v X=>by simp at X);have:=run_bytesToString (P:=E.P) w m 0 c [] (by simpa using z);rw[this];rfl
  ·rw[r];exact anJ V W (aei M) T k
 cases ex:aC st.n x<;>rw[ex]at d A<;>simp only[rI]at d<;>try exact d.elim
 case int cP mT=>
  cases B:u.d<;>rw[B]at d H<;>simp only at d<;>try exact d.elim
  rename_i aFn
  cases O:t.d<;>rw[O]at d R<;>simp only at d<;>try exact d.elim
  refine dk (Z _ w ?_) (Y _ _ _ d h (bk.mkInt _ _));rw[bk.int A];simp [convert,e3 R,e3 H,Conv.intToInt]
 case str s=>
  have L:=bk.Va A
  cases O:t.d<;>rw[O]at d R<;>simp only at d<;>try exact d.elim
  have af:c2 (nS u (tw E t u)) (K (.arr 1 s.size (vr s)))→o.wp E.P a w next Q:=fun d=>by
   obtain⟨U,y⟩:=aD.1 d;obtain⟨e,V,W⟩:=Xl mB J7 (fun e lG mg jg=>by simp [tw,jg]) U;have gD:=run_bytes_of_string (P:=E.P) w N G e s R V W;generalize EF:grownCap w s.size 0 e=g at gD;have sn:s.size≤g:=by
    have:=vc w s.size 0 e;rw[EF]at this;exact this
   have AE:Below w.heap.size w (w.drew.alloc (.cells (bytesRow s g) e ((bytesRow s g).size,(bytesRow s g).size+1))):=(Below.drew (Below.refl _ w)).alloc (bx _) _;obtain⟨iC,g3⟩:=h.world AE;rw[←bk.str A]at gD;refine dk (Z _ _ gD) (Y _ _ _ y iC ?_);have mE:aM S ι st.k (w.drew.alloc (.cells (bytesRow s g) e ((bytesRow s g).size,(bytesRow s g).size+1))) w.heap.size:=⟨.inr h.below.size,by simp,fun b _ e=>by have:=(h.fresh b _ e).2;omega⟩;have xq: ∀i,i<s.size→(w.drew.alloc (.cells (bytesRow s g) e ((bytesRow s g).size,(bytesRow s g).size+1))).cell? ⟨w.heap.size,0+i*1+0,none⟩=some (.int .u8 ((s.data.toList.getD i 0).toNat:Int)):=fun i l=>by
    have atf:(w.drew.alloc (.cells (bytesRow s g) e ((bytesRow s g).size,(bytesRow s g).size+1))).heap[w.heap.size]? =some (.cells (bytesRow s g) e ((bytesRow s g).size,(bytesRow s g).size+1)):=rf w.drew _;rw[tb _ w.heap.size _ _ e _ atf];have nq:i<s.data.size:=l;have uD:i<(s.data.map (fun b=>Value.int .u8 b.toNat)).size:=by simpa using nq
    simp only[cN,Nat.mul_one,lA];unfold bytesRow;rw[pF uD];have e5:s.data.toList.getD i 0=s.data[i]:=by simp [List.getD,pG nq]
    rw[e5,Array.getElem?_map,pG nq];rfl
   exact aR.arr 1 s.size (vr s) w.heap.size 0 g (fun i _=> .int .u8 ((s.data.toList.getD i 0).toNat:Int)) (fun i _=> .int .u8 ((s.data.toList.getD i 0).toNat:Int)) sn L (fun _=>mE)
    (fun i j l X=>by have:j=0:=by omega
                     subst this;rfl) (fun i j l X=>by
     have:j=0:=by omega
     subst this;exact xq i l) (fun i j l X=> .int _ _)
  cases B:u.d<;>rw[B]at d H<;>simp only at d<;>first|exact af d|skip
  ·refine dk (Z _ w ?_) (Y _ _ _ d h (bk.mkStr _ L));rw[bk.str A];simp [convert,e3 R,e3 H]
 case aE=>
  obtain⟨k,y⟩:=aD.1 d;simp only[bY]at k;have F:aR w (aM S ι st.k w) .aE (a.eval x):=A;have r:a.eval x= .slice none 0 0:=by
   generalize a.eval x=v at F
   cases F;rfl
  exact core 0 (fun _=>[]) (cA _) k.1 k.2 (fun i l=>by omega) y ⟨none,0,r,fun _=>rfl,.inl rfl⟩
 case arr fY n f=>
  obtain⟨k,T,y⟩:=aD.1 d;simp only[bY]at k;have ns:fY=1:=dX k.2;subst ns;have F:aR w (aM S ι st.k w) (.arr 1 n f) (a.eval x):=A;refine core n f ?_ k.1.1 k.1.2 T y ?_
  ·generalize a.eval x=v at F
   cases F<;>first|exact cA _|assumption
  ·generalize a.eval x=v at F
   cases F with
   |nil=>exact⟨none,0,rfl,fun _=>rfl,.inl rfl⟩
   |mt _ _ m c=>exact⟨_,c,rfl,(fun h=>by cases h),.inl rfl⟩
   |arr _ _ _ b o c hg cv e8 U nm h5 D fb=>
    refine⟨_,c,rfl,(fun h=>by cases h),.inr ⟨b,o,fun i=>cv i 0,rfl,fun i l=>⟨?_,?_⟩⟩⟩
    ·have:=D i 0 l (by omega);simpa using this
    ·have iC:=h5 i 0 l (by omega);have:(f i).getD 0 .undef=hg i 0:=by simp [List.getD,iC]
     rw[this];exact fb i 0 l (by omega)
 case own b cP=>
  cases e:I st.k b 0<;>rw[e]at d<;>simp only at d
  rename_i ro fY n f;obtain⟨k,rfl,T,y⟩:=aD.1 d;simp only[bY]at k;have ns:fY=1:=dX k.2;subst ns;obtain⟨_,nE,ki,eu,fB,fL,_,e5⟩:=(show ej S ι st.k w (.own b cP) (a.eval x)from A);rw[e]at fL;cases fL;have z:=h.k b 0;rw[e]at z;rcases z.2 with dK|⟨L,z⟩
  ·cases dK.2.1
  refine core cP f L k.1.1 k.1.2 T y ?_;rcases e5 rfl with⟨q,c,C,k0,iR,r,mD,j_,kF⟩|⟨rfl,_,r⟩
  ·refine⟨_,c,r,(fun h=>by cases h),.inr ⟨q,0,fun i=>(C[i]?).getD undef,rfl,fun i l=> ?_⟩⟩;rcases z with z|⟨FW,kk,vl,uE,uA,lg⟩
   ·rw[iR]at z;cases z.2
   ·rw[iR]at uE;cases uE;rw[j_]at uA;cases uA;obtain⟨ab,u,h5,D,fb⟩:=lg i 0 l (by omega);have D:C[i]? =some u:=by simpa using D
    have lb:(C[i]?).getD undef=u:=by rw[D];rfl
    refine⟨?_,?_⟩
    ·rw[tb w q _ C k0 (0,0) j_,cN,D];simp only[D];rfl
    ·have:(f i).getD 0 .undef=ab:=by simp [List.getD,h5]
     rw[this];simp only[lb];exact fb
  ·exact⟨none,0,r,fun _=>rfl,.inl rfl⟩
theorem ayp{o:Oper}{c:Go.Call}{x y:Operand}(n:o.op= .call c)(l:c.callee= .builtin .min)(j:c.args= #[x,y])(h:aU S ι st a w){K:J→Prop}(b:x3 (aC st.n x) (aC st.n y) K){next:Act→World→Prop}{Q:Exit→Act→World→Prop}
  (m: ∀ab v,K ab→bk S ι st.k w ab v→next (a.put o.dst v) w):o.wp E.P a w next Q:=by
 have f:=h.eval x;have g:=h.eval y
 cases d:aC st.n x<;>cases e:aC st.n y<;>rw[d,e]at b<;>rw[d]at f<;>rw[e]at g<;>simp only[x3]at b<;>try exact b.elim
 rename_i k p r q;obtain⟨_,i⟩:=aD.1 b;refine dk (v:= .int k (cond (decide (q<p)) q p)) (ag:=w) ?_ (m _ _ i (bk.mkInt _ _));have:(cond (decide (q<p)) q p)=if q<p then q else p:=by by_cases h:q<p<;>simp [h]
 rw[this];simp [execOp,n,resolve,l,j,invoke,builtin,bk.int f,bk.int g,run_min_int2]
theorem ayk{o:Oper}{c:Go.Call}{x y:Operand}(n:o.op= .call c)(l:c.callee= .builtin .max)(j:c.args= #[x,y])(h:aU S ι st a w){K:J→Prop}(b:x2 (aC st.n x) (aC st.n y) K){next:Act→World→Prop}{Q:Exit→Act→World→Prop}
  (m: ∀ab v,K ab→bk S ι st.k w ab v→next (a.put o.dst v) w):o.wp E.P a w next Q:=by
 have f:=h.eval x;have g:=h.eval y
 cases d:aC st.n x<;>cases e:aC st.n y<;>rw[d,e]at b<;>rw[d]at f<;>rw[e]at g<;>simp only[x2]at b<;>try exact b.elim
 rename_i k p r q;obtain⟨_,i⟩:=aD.1 b;refine dk (v:= .int k (cond (decide (q>p)) q p)) (ag:=w) ?_ (m _ _ i (bk.mkInt _ _));have:(cond (decide (q>p)) q p)=if q>p then q else p:=by by_cases h:q>p<;>simp [h]
 rw[this];simp [execOp,n,resolve,l,j,invoke,builtin,bk.int f,bk.int g,run_max_int2]
end
section
variable {E:Env} {S:dR} {ι:Nat→Option Nat} {st:D} {a:Act} {w:World}
theorem aDN{F:Nat→Prop}{c:J}{v:Value}(a:LN c=true)(h:k1 c v):aR w F c v:=by
 cases c<;>simp only[LN]at a<;>first|(cases a;done)|skip
 ·have h:v=_:=h;subst h;exact .int _ _
 ·have h:v=_:=h;subst h;exact .bool _
 ·obtain⟨h,b⟩:=(show v=_∧_ from h);subst h;exact .str _ (by rw[b];exact cA _)
theorem aye(mB:E.dq){o:Oper}{T:TypeId}{t:bB}{l c:Operand}(eh:o.op= .makeSlice T l c)(jl:gu E.P T t)(h:aU S ι st a w){aA:Nat}(kH: ∀o,I st.k aA o= .undef)(pe:ι aA=none){K:J→bX→Prop}
  (d:qO E t st.n aA l c K) {next:Act→World→Prop} {Q:Exit→Act→World→Prop}
  (qE: ∀ay ab q v ag,K ab q→aU S ay ⟨st.n,bt st.k q⟩ a ag→bk S ay (bt st.k q) ag ab v→(∀b,ay b≠none→ι b≠none∨ ∃p c,(b,p,c)∈q)→next (a.put o.dst v) ag):o.wp E.P a w next Q:=by
 have F:=jl.d;unfold qO at d
 cases s:t.d<;>rw[s]at d<;>simp only at d<;>try exact d.elim
 rename_i e g mg;rw[s]at F;obtain⟨hu,i,N,O,uD,AH,adU⟩:=F
 cases r:E.ty e with
 |none=>rw[r]at d;exact d.elim
 |some m=>
 rw[r]at d;simp only at d;have U:=h.eval l;have C:=h.eval c
 cases el:aC st.n l<;>rw[el]at d U<;>simp only at d<;>try exact d.elim
 rename_i G z
 cases aog:aC st.n c<;>rw[aog]at d C<;>simp only at d<;>try exact d.elim
 rename_i Y aDH;obtain⟨D,⟨rfl,B,iC⟩,pb⟩:=aD.1 d;simp only[bY]at D;obtain⟨⟨⟨⟨Sm,V⟩,L⟩,H⟩,W⟩:=D;have V:=dX V;have L:=gW L;have H:=gW H;have W:0<g:=gW W;obtain⟨aeo,k,u,iK,fb,lb,A⟩:=(mB.ty e m r).info;rw[N]at u;cases u;have ED:(i.bytes:Int)*z≤281474976710656:=by
  have Z:(i.bytes:Int)≤4096:=by omega
  calc (i.bytes:Int)*z≤4096*4096:=Int.mul_le_mul Z iC B (by omega)
   _≤_:=by omega
 have om:=run_make (P:=E.P) w T e i k hu N fb G Y z z B (dp _) ED (by omega);have SN:m.zero.length=k.cells.size:=by rw[A.length];simp
 have E0:k.cells.size=g:=by omega
 have AE:Below w.heap.size w (w.alloc (.cells (madeCells k.cells (z.toNat*i.size)) e)):=(Below.refl _ w).alloc (bx _) _;obtain⟨hl,gh⟩:=h.FV AE (b:=aA) (x:=w.heap.size) (bx _) (by simp) (f:=fun _=>m.zero) (n:=z.toNat) (M:=g) (c:=z.toNat) (by have nk:dm=549755813888:=rfl;omega) (bx _) (rf w _) (by rw[size_madeCells,O])
  (dO:=aM S ι st.k w) (fun y sv=> .inl sv) (fun p j cP fe=>by
   obtain⟨v,c4,gD⟩:=A.get j _ (cT (by omega));refine⟨m.zero[j]'(by omega),v,cT (by omega),?_,aDN (dw.1 Sm _ (vf _)) gD⟩;have gC:p*g+j<z.toNat*i.size:=by
    have:(p+1)*g≤z.toNat*g:=hc g cP;rw[iY]at this;rw[O];omega
   have as8:(p*g+j)%k.cells.size=j:=by
    rw[E0,Nat.add_comm,Nat.add_mul_mod_self_right,Ms fe]
   have R:j<k.cells.size:=by omega
   have X:k.cells[j]? =some v:=by simpa using c4
   simp only[madeCells,Array.getElem?_map,Array.getElem?_range,gC,kT,rb];rw[as8,getElem!_pos k.cells j R];rw[pG R]at X;exact X) (.inl ⟨kH,pe⟩)
 refine dk (v:= .slice (some ⟨w.heap.size,0,none⟩) z.toNat z.toNat) (ag:=w.alloc (.cells (madeCells k.cells (z.toNat*i.size)) e)) ?_ (qE _ _ _ _ _ pb hl gh fun b iP=>(BB _ _ _ b iP).imp id fun e=>⟨0,.ae false g z.toNat fun _=>m.zero,by subst e;simp⟩);have aoz:a.eval l= .int G z:=U.int;have aoh:a.eval c= .int Y z:=C.int;simp only[execOp,eh];rw[Sem.run_bind,aoz,aoh,om];rfl
end
theorem mem_iff{l:List Nat}{b:Nat} :mem l b=true↔b∈l:=by
 simp only[mem,List.any_eq_true];constructor
 ·rintro⟨x,a,h⟩
  rw[dX h]at a;exact a
 ·intro h;exact⟨b,h,by simp⟩
theorem yf: ∀{l:List Nat} {b:Nat},b∈l→l[pos l b]? =some b
 |[],_,h=>by cases h
 |x::l,b,h=>by
  unfold pos
  cases e:Nat.beq x b with
  |true=>simp [dX e]
  |false=>
   rcases hf.1 h with h|h
   ·subst h;simp at e
   ·simpa using yf h
theorem Ey: ∀{l:List Nat} {i b:Nat},nodup l=true→l[i]? =some b→pos l b=i
 |[],i,b,_,h=>by simp at h
 |x::l,0,b,_,h=>by
  simp at h;subst h;simp [pos]
 |x::l,i+1,b,a,h=>by
  simp only[nodup,bY,iX]at a;have h:l[i]? =some b:=by simpa using h
  have c:b∈l:=e4 h;have e:Nat.beq x b=false:=by
   cases e:Nat.beq x b with
   |false=>rfl
   |true=>
    rw[dX e]at a;rw[mem_iff.2 c]at a;cases a.1
  simp only[pos,e];rw[Ey a.2 h]
section
variable {kU ef:Nat→Option Nat} {H1 km:Heap} {w:World} {l_ mQ:Nat→Prop} {ρ:Nat→Nat} {D:Nat→Bool}
theorem Bo{c:J} :ch (ff ρ c)=ch c:=by cases c<;>rfl
theorem aA9{c:J} :oE (ff ρ c)=oE c:=by cases c<;>rfl
theorem iH.l5(f: ∀b,D b=true→ef (ρ b)=kU b)(e: ∀b o,D b=true→I km (ρ b) o=ff ρ (I H1 b o))(d: ∀x,l_ x→mQ x){c:J}{v:Value}(a:pZ D c=true)(k:iH kU H1 w l_ c v):iH ef km w mQ (ahj ρ c) v:=by
 cases c<;>simp only[pZ]at a<;>try (cases a;done)
 case ptr b o=>
  obtain⟨g,x,h,i⟩:=k;exact⟨by rw[e _ _ a,Bo];exact g,x,by rw[f _ a];exact h,i⟩
 all_goals first|(cases a;done)|exact aR.mono d (fun _ _ _=>rfl) k
theorem cf.l5(l: ∀b,D b=true→ef (ρ b)=kU b)(j: ∀b o,D b=true→I km (ρ b) o=ff ρ (I H1 b o))(u: ∀x,l_ x→mQ x){c:J}{v:Value}(a:mZ D c=true)(k:cf kU H1 w l_ c v):cf ef km w mQ (ff ρ c) v:=by
 cases c<;>simp only[mZ]at a
 case undef=>exact k
 case gone=>exact k
 case own b n=>
  obtain⟨m,s,t,r,f,d,g,h⟩:=k;refine⟨m,s,t,r,f,by rw[j _ _ a,d];rfl,g,fun e=> ?_⟩;rw[l _ a];exact h e
 case ptr b o=>
  obtain⟨d,x,g,h⟩:=k;exact⟨by rw[j _ _ a,Bo];exact d,x,by rw[l _ a];exact g,h⟩
 case fl b n i o=>
  obtain⟨m,s,t,r,f,d,g,h⟩:=k;refine⟨m,s,t,r,f,by rw[j _ _ a,d];rfl,g,fun e=> ?_⟩;rw[l _ a];exact h e
 case fn f F=>
  obtain⟨E,rfl,k⟩:=k;refine⟨E,rfl,aY.mk (by simpa using k.length) fun i p q z B=> ?_⟩;simp only[fq,jQ]at z;obtain⟨c,y,rfl⟩:=z;obtain⟨G,A,C⟩:=k.get i c y;rw[B]at A;cases A;exact iH.l5 l j u (dw.1 a c (e4 y)) C
 case agg=>exact k.elim
 case c9=>exact k.elim
 case ae=>exact k.elim
 all_goals exact aR.mono u (fun _ _ _=>rfl) k
theorem fX.l5(j: ∀b,D b=true→ef (ρ b)=kU b)(e: ∀b o,D b=true→I km (ρ b) o=ff ρ (I H1 b o))(d: ∀x,l_ x→mQ x){c:J}{v:Value}(a:vG D c=true)(k:fX kU H1 w l_ c v):fX ef km w mQ (kP ρ c) v:=by
 cases c
 case agg cs=>
  obtain⟨n,rfl,k⟩:=k;refine⟨n,rfl,aY.mk (by simpa using k.length) fun i p q g l=> ?_⟩;simp only[fq,jQ]at g;obtain⟨c,f,rfl⟩:=g;obtain⟨r,h,m⟩:=k.get i c f;rw[l]at h;cases h;exact cf.l5 j e d (dw.1 a c (e4 f)) m
 case c9=>cases a
 case gone=>cases a
 all_goals
  simp only[fX,vG,kP]at k a ⊢;exact cf.l5 j e d a k
theorem ek.l5(f: ∀b,D b=true→ef (ρ b)=kU b)(e: ∀b o,D b=true→I km (ρ b) o=ff ρ (I H1 b o))(d: ∀x,l_ x→mQ x){c:J}{v:Value}(a:vG D c=true)(k:ek kU H1 w l_ c v):ek ef km w mQ (kP ρ c) v:=by
 cases c
 case undef=>trivial
 case c9=>cases a
 case gone=>cases a
 case agg cs=>exact fX.l5 (c:= .agg cs) f e d a k
 all_goals
  simp only[ek]at k;have k:=fX.l5 f e d a k;simp only[kP,ff]at k ⊢;exact k
theorem eQ.l5(d: ∀b,D b=true→ef (ρ b)=kU b)(p: ∀b o,D b=true→I km (ρ b) o=ff ρ (I H1 b o))(m: ∀x,l_ x→mQ x){b o:Nat}{c:J}(a:D b=true)(u:mZ D c=true)(k:eQ kU H1 w l_ b o c):eQ ef km w mQ (ρ b) o (ff ρ c):=by
 have t:ch (I km (ρ b) 0)=ch (I H1 b 0):=by rw[p _ _ a,Bo]
 cases c
 case undef=>trivial
 case ae K L n f=>
  obtain⟨e,l|⟨g,h⟩⟩:=k
  ·exact⟨e,.inl ⟨l.1,l.2.1,by rw[d _ a];exact l.2.2⟩⟩
  refine⟨e,.inr ⟨g,?_⟩⟩;rw[d _ a];exact h.imp id fun⟨x,C,T,q,r,s⟩=>⟨x,C,T,q,r,fun i j y z=>by
   obtain⟨ab,v,F,G,H⟩:=s i j y z;exact⟨ab,v,F,G,H.mono m fun _ _ _=>rfl⟩⟩
 all_goals
  obtain⟨A,x,v,e,g,h,B⟩:=k;have E:=cf.l5 d p m u B;exact⟨by rw[t];exact A,x,v,by rw[d _ a];exact e,g,h,E⟩
end
theorem Fm{H:Heap}{b:Nat}(h:x0 (H.getD b [])=true):mL H b∧(∃z l,H.getD b []=z::l):=by
 unfold x0 at h
 cases e:H.getD b []with
 |nil=>rw[e]at h;cases h
 |cons x r=>
  rw[e]at h;refine⟨?_,x,r,rfl⟩;have a:I H b 0=x:=by unfold I;rw[e];rfl
  cases d:ch x with
  |true=>
   obtain⟨m,p,n,f,rfl⟩:=KP d;simp only[bY,iX]at h;exact .inl ⟨by rw[a];rfl,by rw[a];simp [oE,h.1]⟩
  |false=>
   have g:((x::r).all (fun c=> !(ch c))&&(x::r).any oE)=true:=by cases x<;>first|exact h|(cases d;done)
   simp only[bY]at g;obtain⟨c,i,k⟩:=List.any_eq_true.1 g.2;obtain⟨o,j⟩:=pI i;refine .inr ⟨by rw[a];exact d,o,?_⟩;unfold I;rw[e,List.getD,j];exact k
theorem arf{H:Heap}{b:Nat}{z:J}{c:List J}(h:H.getD b []=z::c):b<H.length:=by
 rcases fh b H.length with a|a
 ·exact a
 ·simp [List.getD,e0 a]at h
theorem GR{e:Nat→Nat}{b p:Nat}{c:J} : ∀(g:Heap) (i:Nat),(b,p,c)∈rF e i g→ ∃j l,g[j]? =some l∧b=e (i+j)∧p<l.length∧c=ff e (l.getD p .undef)
 |[],_,h=>by cases h
 |l::g,i,h=>by
  simp only[rF,hq]at h;rcases h with h|h
  ·have n: ∀(cs:List J) (o:Nat),(b,p,c)∈hL (e i) cs o→b=e i∧ ∃q,q<cs.length∧p=o+q∧c=cs.getD q .undef:=by
    intro cs
    induction cs with
    |nil=>intro o h;cases h
    |cons x cs m=>
     intro o h;rcases hf.1 h with h|h
     ·cases h;exact⟨rfl,0,by simp,rfl,rfl⟩
     ·obtain⟨d,q,a,f,k⟩:=m (o+1) h;exact⟨d,q+1,by simpa using a,by omega,by simpa using k⟩
   obtain⟨d,q,a,f,k⟩:=n _ _ h;have a:q<l.length:=by simpa using a
   refine⟨0,l,rfl,by simpa using d,by omega,?_⟩;rw[k,f,cN,List.getD,List.getD,fq,cT a];rfl
  ·obtain⟨j,r,d,a,f⟩:=GR g (i+1) h;exact⟨j+1,r,by simpa using d,by rw[a];congr 1;omega,f⟩
theorem B4{σ:Nat→Nat} : ∀(b:Heap) (i j p:Nat) (l:List J),b[j]? =some l→p<l.length→(σ (i+j),p,ff σ (l.getD p .undef))∈rF σ i b
 |[],_,_,_,_,h,_=>by simp at h
 |y::b,i,0,p,l,h,a=>by
  simp at h;subst h;simp only[rF,hq];left;have d: ∀(cs:List J) (o q:Nat),q<cs.length→(σ i,o+q,cs.getD q .undef)∈hL (σ i) cs o:=by
   intro cs
   induction cs with
   |nil=>intro o q h;simp at h
   |cons x cs c=>
    intro o q h
    cases q with
    |zero=>exact hf.2 (.inl rfl)
    |succ q=>
     have:=c (o+1) q (by simpa using h);rw[show o+1+q=o+(q+1) by omega]at this;exact hf.2 (.inr (by simpa using this))
  have:=d (y.map (ff σ)) 0 p (by simpa using a);rw[List.getD,fq,cT a]at this;rw[List.getD,cT a];simpa using this
 |y::b,i,j+1,p,l,h,a=>by
  have:=B4 (σ:=σ) b (i+1) j p l (by simpa using h) a;rw[show i+1+j=i+(j+1) by omega]at this;exact hq.2 (.inr this)
section
variable {E:Env} {S:dR} {ι:Nat→Option Nat} {st:D} {a:Act} {w:World}
theorem iH.aCt{H:Heap}{F:Nat→Prop}{c:J}{v:Value}(k:iH ι H w F c v):cf ι H w F c v:=by
 cases c
 case ptr=>exact k
 case fn f b=>
  have r:aR w F (.fn f b) v:=k
  cases r with
  |fn _ _ s g u n j l m=>
   refine⟨s,rfl,aY.mk n.symm fun i p q h o=> ?_⟩;have a:i<b.length:=(iW.1 h).1;have d:=j i a;have e:=l i a;rw[h]at d;cases d;rw[o]at e;cases e;have bl:=m i a;generalize g i=x at bl
   cases x<;>first|exact bl|(cases bl;done)
 all_goals
  simp only[iH]at k
  first|exact k|(cases k;done)
def kh(H:Heap)(L:List Nat):Heap:=L.map fun b=>(H.getD b []).map (ff (pos L))
def lr(ι:Nat→Option Nat)(L:List Nat)(i:Nat):Option Nat:=(L[i]?).bind ι
theorem Mc{L:List Nat}{b:Nat}(a:b∈L):lr ι L (pos L b)=ι b:=by simp [lr,yf a]
theorem By{H:Heap}{L:List Nat}{b:Nat}(a:b∈L)(o:Nat):I (kh H L) (pos L b) o=ff (pos L) (I H b o):=by
 have e:(kh H L).getD (pos L b) []=(H.getD b []).map (ff (pos L)):=by
  unfold kh;rw[List.getD,fq,yf a];rfl
 unfold I;rw[e];generalize H.getD b []=l;rw[List.getD,fq,List.getD]
 cases l[o]? <;>rfl
theorem aB5{H:Heap}{L:List Nat}{i:Nat}(a:L.length≤i)(o:Nat):I (kh H L) i o= .undef:=so (by simpa[kh]using a) o
theorem L7{ρ:Nat→Nat}{H al:Heap}{b a:Nat}(h: ∀o,I al a o=ff ρ (I H b o))(k:mL al a):mL H b:=by
 unfold mL at*
 simpa only[h,Bo,aA9]using k
theorem asw(mB:E.dq){o:Oper}{c:Go.Call}{d:Operand}{f:FuncId}{jf:List J}(eh:o.op= .call c)(jm:c.callee= .value d)(SK:aC st.n d= .fn f jf)(h:aU S ι st a w){aA:Nat}{nN:Nat→Prop}(arZ:nN aA)(J5: ∀b,nN b→(∀p,I st.k b p= .undef)∧ι b=none)
  {fY:J→bX→Prop} (EB: ∀ab ws,fY ab ws→ ∀b p c,(b,p,c)∈ws→aA<b→nN b) (X:np E st.k aA f (c.args.toList.map (aC st.n)++jf) fY) {next:Act→World→Prop} {Q:Exit→Act→World→Prop}
  (qE: ∀ay ab ws v ag,fY ab ws→aU S ay ⟨st.n,bt st.k ws⟩ a ag→bk S ay (bt st.k ws) ag ab v→(∀b,ay b≠none→ι b≠none∨ ∃p c,(b,p,c)∈ws)→next (a.put o.dst v) ag):o.wp E.P a w next Q:=by
 have Km:=h.eval d;rw[SK]at Km;obtain⟨ir,R4,J_⟩:=(show ej S ι st.k w (.fn f jf) _ from Km);have AA:aY (bk S ι st.k w) (c.args.toList.map (aC st.n)++jf) (c.args.toList.map a.eval++ir):=by
  refine aY.append (aY.mk (by simp) fun i x y u M=> ?_) (J_.imp fun _ _ k=>ek.yc (by
   have gh:=iH.aCt k;rename_i p q
   cases p<;>first|exact gh|exact gh.elim|exact(aR.agj k).elim))
  simp only[fq,jQ]at u M;obtain⟨ya,jg,rfl⟩:=u;obtain⟨FE,fL,rfl⟩:=M;rw[jg]at fL;cases fL;exact h.eval ya
 generalize pd:c.args.toList.map a.eval++ir=cv at AA;generalize c.args.toList.map (aC st.n)++jf=aa at X AA;unfold np at X;generalize dS st.k aa=L at X;obtain⟨adJ,X⟩:=aD.1 X;simp only[bY]at adJ;obtain⟨⟨EM,ad0⟩,asE⟩:=adJ;have AJ: ∀b,b∈L→x0 (st.k.getD b [])=true:=fun b s=>by
  have:=dw.1 ad0 b s;simp only[bY]at this;exact this.1
 have asC: ∀b,b∈L→ ∀o,mZ (mem L) (I st.k b o)=true:=fun b s o=>by
  have:=dw.1 ad0 b s;simp only[bY]at this;unfold I;rw[List.getD]
  cases e:(st.k.getD b [])[o]? with
  |none=>rfl
  |some x=>exact dw.1 this.2 x (e4 e)
 have ar0: ∀b,nN b→b∉L:=fun b s V=>by
  have gD:=(Fm (AJ b V)).1;have hu:=(J5 b s).1;rcases gD with⟨g,_⟩|⟨_,o,g⟩<;>rw[hu]at g<;>cases g
 cases oo:E.nr f (aa.map (kP (pos L))) (kh st.k L)with
 |none=>rw[show(L.map fun b=>(st.k.getD b []).map (ff (pos L)))=kh st.k L from rfl,oo]at X;exact X.elim
 |some q=>
  obtain⟨pre,rs,al⟩:=q;rw[show(L.map fun b=>(st.k.getD b []).map (ff (pos L)))=kh st.k L from rfl,oo]at X;obtain⟨cP,X⟩:=pt.1 X;obtain⟨adK,pb⟩:=aD.1 X;simp only[bY]at adK;obtain⟨⟨⟨_,hlen⟩,asF⟩,asG⟩:=adK;obtain⟨⟨fn,ano,asM,RU,Sf⟩,EE⟩:=mB.nr _ _ _ _ _ _ oo;have EE:=EE cP;let oO:Nat→Prop:=fun x=> ∃b,b∈L∧ι b=some x;have ar4: ∀x,oO x→x<w.heap.size:=fun x ⟨b,_,s⟩=>(h.fresh b x s).2;let l_:Nat→Prop:=fun x=>aM S ι st.k w x∨oO x;have atw: ∀i x,lr ι L i=some x→ ∃b,b∈L∧pos L b=i∧ι b=some x:=fun i x A=>by
   unfold lr at A
   cases e:L[i]? with
   |none=>rw[e]at A;cases A
   |some b=>rw[e]at A;exact⟨b,e4 e,Ey EM e,A⟩
  have arX: ∀x,aM S ι st.k w x→th l_ w.heap.size (lr ι L) (kh st.k L) w x:=fun x u=>⟨.inl (.inl u),u.2.1,fun i A P=>by
   obtain⟨b,s,rfl,AD⟩:=atw i x P;exact u.2.2 b (L7 (By s) A) AD⟩
  let tk:dR:=⟨l_,w,fun x u=>u.elim (fun g=>g.2.1) (ar4 x),oO,fun x u=> .inr u,lr ι L,kh st.k L,th l_ w.heap.size (lr ι L) (kh st.k L) w,fun b x s=>by
   unfold lr at s
   cases e:L[b]? with
   |none=>rw[e]at s;cases s
   |some y=>simpa[kh]using(iW.1 e).1,fun g=>(h.ux g).imp id fun k=>k.mono arX fun _ _ _=>rfl⟩
  have qF: ∀i x,lr ι L i=some x→ ∃b,b∈L∧pos L b=i∧ι b=some x:=fun i x A=>by
   unfold lr at A
   cases e:L[i]? with
   |none=>rw[e]at A;cases A
   |some b=>rw[e]at A;exact⟨b,e4 e,Ey EM e,A⟩
  have JY: ∀x,aM S ι st.k w x→aM tk (lr ι L) (kh st.k L) w x:=fun x u=>⟨.inl (.inl u),u.2.1,fun i A P=>by
   obtain⟨b,s,rfl,AD⟩:=qF i x P;exact u.2.2 b (L7 (By s) A) AD⟩
  have aem: ∀b,mem L b=true→lr ι L (pos L b)=ι b:=fun b s=>Mc (mem_iff.1 s);have adw: ∀b o,mem L b=true→I (kh st.k L) (pos L b) o=ff (pos L) (I st.k b o):=fun b o s=>By (mem_iff.1 s) o;have att:aU tk (lr ι L) ⟨aa.map (kP (pos L)),kh st.k L⟩ {tmps:=cv.toArray,defers:=[]} w:=by
   refine⟨il.refl _ _ _,rfl,fun t ab ia=> ?_,fun i o=> ?_,fun i j x F O=> ?_,fun i x A=> ?_,fun i x A=>tk.pZ i x A,eg.refl⟩
   ·simp only[fq,jQ]at ia;obtain⟨x,u,rfl⟩:=ia;obtain⟨v,c4,gD⟩:=AA.get t x u;exact⟨v,by simpa using c4,ek.l5 aem adw JY (dw.1 asE x (e4 u)) gD⟩
   ·show eQ _ _ _ _ i o (I (kh st.k L) i o);rcases fh i L.length with A|A
    ·have s:L[i]? =some L[i]:=cT A;have V:L[i]∈L:=e4 s;have e:=Ey EM s;have k:=eQ.l5 (ρ:=pos L) (D:=mem L) aem adw JY (mem_iff.2 V) (asC _ V o) (h.k L[i] o);rw[e]at k;have fL:=By (H:=st.k) V o;rw[e]at fL;rw[fL];exact k
    ·rw[aB5 A];trivial
   ·obtain⟨gJ,qM,rfl,hl⟩:=qF i x F;obtain⟨bG,qN,rfl,gh⟩:=qF j x O;rw[h.inj gJ bG x hl gh]
   ·obtain⟨b,m,rfl,k⟩:=qF i x A;exact⟨.inr ⟨b,m,k⟩,(h.fresh b x k).2⟩
  have om:(execOp a.eval o).run E.P w= .ok (.enter f cv.toArray) w:=by
   have Sh:fn.name≠ "runtime.NumGoroutine" :=by simpa using Sf
   have RQ:cv.toArray=c.args.map a.eval++ir.toArray:=by rw[←pd];apply oG;simp
   rw[RQ];simp [execOp,eh,resolve,jm,R4,Deferred.ofValue,invoke,callFunc,asM,RU,Sh]
  unfold Oper.wp;rw[om];refine(EE tk (lr ι L) w cv (bx _) (by simpa using AA.length.symm) att).mono fun e ag ⟨us,ay,P,atC,W⟩=> ?_;subst P;let B:Nat→Nat:=sZ L aA;let ws:bX:=rF B 0 al;have xz: ∀i,L.length≤i→B i=aA+(i-L.length):=fun i A=>by simp [B,sZ,List.getD,e0 A]
  let R:Nat→Prop:=fun b=>aA≤b∧b<aA+(al.length-L.length);have xn: ∀b,R b→ ∃i,L.length≤i∧i<al.length∧B i=b:=fun b s=>⟨L.length+(b-aA),by omega,by have:=s.1;have:=s.2;omega,by rw[xz _ (by omega)];have:=s.1;omega⟩;have JW: ∀i,L.length≤i→i<al.length→R (B i):=fun i F O=>by
   rw[xz i F];exact⟨by omega,by omega⟩
  let ef:Nat→Option Nat:=fun b=>if mem L b then ay (pos L b)else if aA≤b∧b<aA+(al.length-L.length)then ay (L.length+(b-aA))else ι b
  have AO: ∀b,b∈L→ef b=ay (pos L b):=fun b s=>by simp [ef,mem_iff.2 s]
  have ad2: ∀b,b∉L→mem L b=false:=fun b s=>by
   cases e:mem L b with
   |false=>rfl
   |true=>exact absurd (mem_iff.1 e) s
  have sw: ∀b,b∉L→ ¬R b→ef b=ι b:=fun b s e8=>by
   simp only[ef,ad2 b s];rw[bH (by simp),bH e8]
  have atv: ∀(l:List Nat) (cu:Heap),pz l st.k cu=true→(∀(i b:Nat),l[i]? =some b→ ∃y,cu[i]? =some y∧(st.k.getD b []).length=y.length)∧l.length≤cu.length∧ ∀(i:Nat) y,l.length≤i→cu[i]? =some y→y≠[]:=by
   intro l
   induction l with
   |nil=>
    intro cu Z;refine⟨fun i b s=>by simp at s,cA _,fun i y _ M e=> ?_⟩;unfold pz at Z;have:=dw.1 Z y (e4 M);rw[e]at this;cases this
   |cons b l lX=>
    intro cu Z;unfold pz at Z
    cases cu with
    |nil=>cases Z
    |cons y cu=>
     simp only[bY]at Z;obtain⟨G,N,lb⟩:=lX cu Z.2;refine⟨fun i ko s=> ?_,by simpa using N,fun i u_ A M=> ?_⟩
     ·cases i with
      |zero=>simp at s;subst s;exact⟨y,rfl,dX Z.1⟩
      |succ i=>simpa using G i ko (by simpa using s)
     ·cases i with
      |zero=>simp at A
      |succ i=>exact lb i u_ (by simpa using A) (by simpa using M)
  obtain⟨aeh,aFd,Sw⟩:=atv L al hlen;have KK: ∀b,b∈L→B (pos L b)=b:=fun b s=>by simp [B,sZ,List.getD,yf s]
  have xy: ∀i,i<L.length→B i∈L∧pos L (B i)=i:=fun i A=>by
   have s:L[i]? =some L[i]:=cT A;have e:B i=L[i]:=by simp [B,sZ,List.getD,s]
   rw[e];exact⟨e4 s,Ey EM s⟩
  have adx: ∀i,L.length≤i→i<al.length→nN (B i):=fun i F O=>by
   by_cases e:i=L.length
   ·rw[xz i F,e,Nat.sub_self,lA];exact arZ
   ·have M:al[i]? =some al[i]:=cT O;have V:=B4 (σ:=B) al 0 i 0 _ M (List.length_pos_iff.2 (Sw i _ F M));rw[cN]at V;exact EB _ _ pb _ _ _ V (by rw[xz i F];omega)
  have RK: ∀b,R b→nN b:=fun b s=>by
   obtain⟨i,F,O,rfl⟩:=xn b s;exact adx i F O
  have RJ: ∀b,R b→b∉L:=fun b s=>ar0 b (RK b s);have KI: ∀i,L.length≤i→i<al.length→ef (B i)=ay i:=fun i F O=>by
   have s:=JW i F O;simp only[ef,ad2 _ (RJ _ s)];rw[bH (by simp),bF s,xz i F]
   congr 1;omega
  have aen: ∀i j,i<al.length→j<al.length→B i=B j→i=j:=fun i j A fe e=>by
   rcases fh i L.length with U|U<;>rcases fh j L.length with su|su
   ·rw[←(xy i U).2,←(xy j su).2,e]
   ·exact absurd (by rw[←e];exact(xy i U).1) (RJ _ (JW j su fe))
   ·exact absurd (by rw[e];exact(xy j su).1) (RJ _ (JW i U A))
   ·rw[xz i U,xz j su]at e;omega
  have Ko: ∀i o,i<al.length→I (bt st.k ws) (B i) o=ff B (I al i o):=fun i o A=>by
   have M:al[i]? =some al[i]:=cT A;have adT:I al i o=(al[i]).getD o .undef:=by simp [I,List.getD,M]
   rcases fh o (al[i]).length with eh|eh
   ·have V:=B4 (σ:=B) al 0 i o _ M eh;rw[cN]at V;obtain⟨OK,F,O⟩:=SI ws st.k (B i) o _ V;obtain⟨j,l,G,N,fb,lb⟩:=GR al 0 F;rw[cN]at N;have fe:j<al.length:=(iW.1 G).1;have sq:i=j:=aen i j A fe N;subst sq;rw[M]at G;cases G;rw[O,lb,adT]
   ·have hu:I al i o= .undef:=by rw[adT,List.getD,e0 eh];rfl
    rw[hu];rcases EY ws st.k (B i) o with F|⟨OK,F,O⟩
    ·rw[F];rcases fh i L.length with U|U
     ·have s:L[i]? =some L[i]:=cT U;obtain⟨y,G,N⟩:=aeh i _ s;rw[M]at G;cases G;have e:B i=L[i]:=by simp [B,sZ,List.getD,s]
      rw[e];unfold I;rw[List.getD,e0 (by rw[N];exact eh)];rfl
     ·exact(J5 _ (adx i U A)).1 o
    ·obtain⟨j,l,G,N,fb,lb⟩:=GR al 0 F;rw[cN]at N;have fe:j<al.length:=(iW.1 G).1;have sq:i=j:=aen i j A fe N;subst sq;rw[M]at G;cases G;omega
  have Kq: ∀b o,b∉L→ ¬R b→I (bt st.k ws) b o=I st.k b o:=fun b o s e8=>by
   rcases EY ws st.k b o with F|⟨OK,F,O⟩
   ·exact F
   ·obtain⟨j,l,G,N,fb,lb⟩:=GR al 0 F;rw[cN]at N;have fe:j<al.length:=(iW.1 G).1;rcases fh j L.length with su|su
    ·exact absurd (by rw[N];exact(xy j su).1) s
    ·exact absurd (by rw[N];exact JW j su fe) e8
  have Kn: ∀b o,b∈L→I (bt st.k ws) b o=ff B (I al (pos L b) o):=fun b o s=>by
   have cP:=(iW.1 (yf s)).1;have:=Ko (pos L b) o (by omega);rwa [KK b s]at this
  have aFu: ∀x,aM S ι st.k w x→ ¬oO x:=fun x u ⟨b,s,P⟩=>u.2.2 b (Fm (AJ b s)).1 P;have JX: ∀x,aM tk ay al ag x→aM S ef (bt st.k ws) ag x:=fun x u=>by
   have sr:S.oK x∨S.kS.heap.size≤x:=by
    rcases u.1 with(g|⟨b,_,g⟩)|g
    ·exact g.1
    ·exact h.own g
    ·exact .inr (fg h.below.size g)
   refine⟨sr,u.2.1,fun b s P=> ?_⟩
   by_cases z:b∈L
   ·rw[AO b z]at P;exact u.2.2 _ (L7 (fun o=>Kn b o z) s) P
   ·by_cases K:R b
    ·obtain⟨i,i1,Y,rfl⟩:=xn b K;rw[KI i i1 Y]at P;exact u.2.2 _ (L7 (fun o=>Ko i o Y) s) P
    ·rw[sw b z K]at P;have as3:=nG (H:=st.k) (fun o=>Kq b o z K) s;rcases u.1 with(g|⟨ko,xp,g⟩)|g
     ·exact g.2.2 b as3 P
     ·exact z (by rw[h.inj b ko x P g];exact xp)
     ·have:=(h.fresh b x P).2;have g:w.heap.size≤x:=g;omega
  have Kr:eg (lr ι L) (kh st.k L) w (aM tk (lr ι L) (kh st.k L) w) ay al ag (aM tk ay al ag):=W.gB;have xr: ∀b x,b∉L→ι b=some x→ag.heap[x]? =w.heap[x]? :=fun b x s u=>W.below.block x (h.fresh b x u).2 fun⟨ko,xp,g⟩=>s (by rw[h.inj b ko x u g];exact xp);have Sz:eg ι st.k w (aM S ι st.k w) ef (bt st.k ws) ag (aM S ef (bt st.k ws) ag):=by
   refine⟨fun x u=>JX x (Kr.hN x (JY x u)),fun x o u=>Kr.cell x o (JY x u),fun b x u s=> ?_,fun b ro hg n f s=> ?_⟩
   ·by_cases z:b∈L
    ·obtain⟨G,N⟩:=Kr.box (pos L b) x (by rw[Mc z];exact u) (by rw[By z,Bo];exact s);exact⟨by rw[AO b z];exact G,by rw[Kn b 0 z,Bo];exact N⟩
    ·have K: ¬R b:=fun e=>by rw[(J5 b (RK b e)).2]at u;cases u
     exact⟨by rw[sw b z K];exact u,by rw[Kq b 0 z K];exact s⟩
   ·by_cases z:b∈L
    ·obtain⟨nE,ki,eu,fB,G,N,fb⟩:=Kr.arr (pos L b) ro hg n f (by rw[By z,s];rfl);refine⟨nE,ki,eu,fB,by rw[Kn b 0 z,G];rfl,N,fun e=> ?_⟩;obtain⟨E8,hl,gh⟩:=fb e;rw[AO b z,hl,Mc z];refine⟨E8,rfl,fun x C T u j_=>gh x C T (by rw[Mc z];exact u) j_⟩
    ·have K: ¬R b:=fun e=>by rw[(J5 b (RK b e)).1]at s;cases s
     refine⟨ro,_,n,f,by rw[Kq b 0 z K];exact s,bx _,fun _=>⟨rfl,sw b z K,fun x C T u j_=>⟨C,by rw[xr b x z u];exact j_,rfl⟩⟩⟩
  have SP: ∀i,pn al.length i=true→ef (B i)=ay i:=fun i A=>by
   have A:i<al.length:=gW A;rcases fh i L.length with U|U
   ·rw[AO _ (xy i U).1,(xy i U).2]
   ·exact KI i U A
  have RH: ∀i o,pn al.length i=true→I (bt st.k ws) (B i) o=ff B (I al i o):=fun i o A=>Ko i o (gW A);have adM: ∀i o,mZ (pn al.length) (I al i o)=true:=fun i o=>by
   unfold I;rw[List.getD,List.getD]
   cases e:al[i]? with
   |none=>rfl
   |some l=>
    simp only[ly]
    cases fL:l[o]? with
    |none=>rfl
    |some x=>exact dw.1 (dw.1 asF l (e4 e)) x (e4 fL)
  have atu:aU S ef ⟨st.n,bt st.k ws⟩ a ag:=by
   refine⟨h.below.then ⟨W.below.os,W.below.tape,W.below.output,W.below.size,fun k X e8=>W.below.block k (gG X h.below.size) fun⟨b,_,g⟩=> ?_⟩,h.defers,fun t ab ia=> ?_,fun b o=> ?_,fun gJ bG x F O=> ?_,fun b x u=> ?_,fun b x u=> ?_,h.gB.trans Sz⟩
   ·rcases(h.fresh b k g).1 with G|G
    ·omega
    ·exact e8 G
   ·obtain⟨v,F,O⟩:=h.n t ab ia;exact⟨v,F,O.step Sz⟩
   ·show eQ _ _ _ _ b o (I (bt st.k ws) b o)
    by_cases z:b∈L
    ·have cP:=(iW.1 (yf z)).1;have k:=eQ.l5 (ρ:=B) (D:=pn al.length) SP RH JX (b:=pos L b) (o:=o) (by simp only[pn,fU];omega) (adM _ o) (W.k (pos L b) o);rw[KK b z]at k;rw[Kn b o z];exact k
    ·by_cases K:R b
     ·obtain⟨i,i1,Y,rfl⟩:=xn b K;have k:=eQ.l5 (ρ:=B) (D:=pn al.length) SP RH JX (b:=i) (o:=o) (by simp only[pn,fU];omega) (adM _ o) (W.k i o);rw[Ko i o Y];exact k
     ·rw[Kq b o z K];exact(h.k b o).step Sz (fun _=>sw b z K) (fun x u _=>⟨World.cell?_of_block (xr b x z u),World.frozen?_of_block (xr b x z u)⟩) (fun _=>⟨sw b z K,fun x u=>xr b x z u⟩)
   ·have key: ∀b x,ef b=some x→(∃i,B i=b∧ay i=some x)∨(b∉L∧ ¬R b∧ι b=some x):=fun b x u=>by
     by_cases z:b∈L
     ·exact .inl ⟨pos L b,KK b z,by rw[←AO b z];exact u⟩
     ·by_cases K:R b
      ·obtain⟨i,i1,Y,rfl⟩:=xn b K;exact .inl ⟨i,rfl,by rw[←KI i i1 Y];exact u⟩
      ·exact .inr ⟨z,K,by rw[←sw b z K];exact u⟩
    have XA: ∀i b x,ay i=some x→b∉L→ι b=some x→False:=fun i b x F O e5=>by
     rcases(W.fresh i x F).1 with g|⟨ko,xp,g⟩
     ·have:=(h.fresh b x e5).2;have g:w.heap.size≤x:=g;omega
     ·exact O (by rw[h.inj b ko x e5 g];exact xp)
    rcases key gJ x F with⟨i,jg,G⟩|⟨qM,aFr,G⟩<;>rcases key bG x O with⟨j,fL,N⟩|⟨qN,TC,N⟩
    ·rw[←jg,←fL,W.inj i j x G N]
    ·exact(XA i bG x G qN N).elim
    ·exact(XA j gJ x N qM G).elim
    ·exact h.inj gJ bG x G N
   ·have conv: ∀i,ay i=some x→(S.kS.heap.size≤x∨S.oO x)∧x<ag.heap.size:=fun i A=>by
     obtain⟨G,N⟩:=W.fresh i x A;refine⟨?_,N⟩;rcases G with G|⟨ko,_,g⟩
     ·exact .inl (fg h.below.size G)
     ·exact(h.fresh ko x g).1
    by_cases z:b∈L
    ·exact conv _ (by rw[←AO b z];exact u)
    ·by_cases K:R b
     ·obtain⟨i,i1,Y,rfl⟩:=xn b K;exact conv i (by rw[←KI i i1 Y];exact u)
     ·rw[sw b z K]at u;exact⟨(h.fresh b x u).1,gG (h.fresh b x u).2 W.below.size⟩
   ·show b<(bt st.k ws).length
    by_cases z:b∈L
    ·obtain⟨_,pT,rl,hE⟩:=Fm (AJ b z);exact gG (arf hE) (qG _ _)
    ·by_cases K:R b
     ·obtain⟨i,i1,Y,rfl⟩:=xn b K;have M:al[i]? =some al[i]:=cT Y;have V:=B4 (σ:=B) al 0 i 0 _ M (List.length_pos_iff.2 (Sw i _ i1 M));rw[cN]at V;have key: ∀(l:bX) (H:Heap) b p c,(b,p,c)∈l→b<(bt H l).length:=by
       intro l
       induction l with
       |nil=>intro H b p c h;cases h
       |cons q l lX=>
        intro H b p c h;obtain⟨gJ,dF,ai⟩:=q;rcases hf.1 h with h|h
        ·cases h
         exact gG (uO H b p c).2 (qG _ _)
        ·exact lX _ b p c h
      exact key _ _ _ _ _ V
     ·rw[sw b z K]at u;exact gG (h.gw b x u) (qG _ _)
  have atG:aY (fX ef (bt st.k ws) ag (aM S ef (bt st.k ws) ag)) (rs.map (kP B)) us:=by
   refine aY.mk (by simpa using atC.symm) fun i p q cP iR=> ?_;simp only[fq,jQ]at cP;obtain⟨r,gD,rfl⟩:=cP;have jm:=dw.1 asG r (e4 gD);simp only[bY]at jm;obtain⟨v,F,O⟩:=W.n i r gD;have F:us[i]? =some v:=by simpa using F
   rw[iR]at F;cases F;have EU:fX ay al ag (aM tk ay al ag) r q:=by
    cases r<;>first|exact O|(cases jm.2;done)
   exact fX.l5 SP RH JX jm.1 EU
  have atF:bk S ef (bt st.k ws) ag (Mg (rs.map (kP B))) (pack us):=by
   unfold pack
   match gD:rs.map (kP B),us,atG with
   |[],[],_=>exact⟨[],rfl,trivial⟩
   |[r],[mT],c4=>
    simp only[Mg];have:=c4.1;exact ek.yc this
   |r::aFv::l,mT::ah6::us,c4=>
    rw[dif_neg (by simp)];exact⟨_,rfl,c4⟩
  refine qE ef _ ws (pack us) ag pb atu atF fun b s=> ?_;have ad1: ∀i,i<al.length→(∃y,al[i]? =some y∧y≠[])→ ∃p c,(B i,p,c)∈ws:=fun i _ ⟨y,M,jn⟩=>by
   have:=B4 (σ:=B) al 0 i 0 y M (List.length_pos_iff.2 jn);rw[cN]at this;exact⟨0,_,this⟩
  by_cases z:b∈L
  ·right;obtain⟨y,M,Z⟩:=aeh _ _ (yf z);obtain⟨_,pT,rl,hE⟩:=Fm (AJ b z);have:=ad1 (pos L b) (iW.1 M).1 ⟨y,M,fun e=>by rw[hE,e]at Z;simp at Z⟩;rwa [KK b z]at this
  ·by_cases K:R b
   ·right;obtain⟨i,i1,Y,rfl⟩:=xn b K;have M:al[i]? =some al[i]:=cT Y;exact ad1 i Y ⟨_,M,Sw i _ i1 M⟩
   ·left;rw[sw b z K]at s;exact s
end
def dz(E:Env)(T:TypeId)(K:bB→Prop):Prop:=
 match E.ty T with
 |some t=>K t
 |none=>False
def Fk(t:bB)(x:J):Bool:=
 match t.d,x with
 | .string,.str _=>true
 | .string,_=>false
 | .slice ..,.str _=>false
 | .slice ..,_=>true
 |_,_=>false
def sN(H:Heap)(x:J)(K:J→Prop):Prop:=
 match x with
 | .ptr .. =>K x
 | .ref _=>K x
 | .fl b k _ _=>match I H b 0 with
   | .ae _ _ n _=>k=n∧K x
   |_=>False
 |_=>False
def xB(a:FuncId→Bool)(f:FuncId)(aa:List J):Bool:=
 match adC aa with
 |true=>true
 |false=>a f
def yY(E:Env)(H:Heap)(aA:Nat)(c:J)(b:List J)(K:J→bX→Prop):Prop:=
 match c with
 | .fn f a=>match xB E.eh f (b++a)with
   |true=>np E H aA f (b++a) K
   |false=>c2 (a.all mW) (tr E H aA f (b++a) K)
 |_=>False
def WZ(a:List J)(d:Op):Bool:=
 match d with
 | .call c=>match c.callee with
   | .value x=>match aC a x with
     | .fn _ b=>adC (c.args.toList.map (aC a)++b)
     |_=>false
   | .builtin .append=>match c.args.toList with
     |x::_=>match aC a x with
      | .own .. =>true
      |_=>false
     |[]=>false
   |_=>false
 |_=>false
def sL(b:List J)(H:Heap)(a:Op):Nat:=
 match WZ b a with
 |true=>H.length+32
 |false=>H.length
theorem Fu(a:List J)(H:Heap)(op:Op):H.length≤sL a H op:=by
 unfold sL
 cases WZ a op
 ·exact bx _
 ·exact ra _ _
def h2(E:Env)(aA:Nat)(a:List J)(H:Heap)(d:Op)(K:J→bX→Prop):Prop:=
 match d with
 | .move x=>K (aC a x) []
 | .assign x=>K (aC a x) []
 | .pick c x y=>match aC a c with
   | .bool b=>FR b (aC a x) (aC a y) fun ab=>K ab []
   | .lit b=>FR b (aC a x) (aC a y) fun ab=>K ab []
   |_=>False
 | .alloc T=>dz E T fun t=>c2 (!t.zero.isEmpty) (K (.ptr aA 0) (hL aA t.zero 0))
 | .box _ x=>c2 (nH (aC a x)&& !(cellsOf (aC a x)).isEmpty) (K (.ptr aA 0) (hL aA (cellsOf (aC a x)) 0))
 | .build T e=>dz E T fun t=>match t.d with
   | .struct r=>mV r a e.toList t.zero fun cs=>K (.agg cs) []
   |_=>False
 | .load T x=>dz E T fun t=>nx t H (aC a x) fun ab=>K ab []
 | .store T x y=>dz E T fun t=>s3 t H (aC a x) (aC a y) fun s=>K .undef s
 | .nilCheck x=>sN H (aC a x) fun ab=>K ab []
 | .binOp d T x y _=>dz E T fun t=>oT t d (eE (aC a x)) (eE (aC a y)) fun ab=>K ab []
 | .unOp d _ x=>yy d (aC a x) fun ab=>K ab []
 | .fieldAddr T x f=>dz E T fun t=>rN t H f (aC a x) fun ab=>K ab []
 | .indexAddr T x y=>dz E T fun t=>sx t H (aC a x) (aC a y) fun ab=>K ab []
 | .index T x y=>dz E T fun t=>uG E.ty t (aC a x) (aC a y) fun ab=>K ab []
 | .extract x i=>zj i (aC a x) fun ab=>K ab []
 | .buildSlice T q e=>dz E T fun t=>pW t a H aA q e.toList K
 | .makeSlice T l c=>dz E T fun t=>qO E t a aA l c K
 | .slice T x l h m=>dz E T fun t=>q3 t H a (aC a x) l h m K
 | .convert o n x=>dz E o fun t=>dz E n fun u=>rI t u (tw E t u) H (aC a x) fun ab=>K ab []
 | .makeFunc p first j=>match p with
   | .func f=>c2 (first.toList.isEmpty&&(j.toList.map (aC a)).all Xp) (K (.fn f (j.toList.map (aC a))) [])
   |_=>False
 | .call c=>match c.callee with
   | .value x=>yY E H aA (aC a x) (c.args.toList.map (aC a)) K
   | .builtin b=>match b with
     | .len=>match c.args.toList,c.argTypes.toList with
       |[x],[T]=>dz E T fun t=>c2 (Fk t (aC a x)) (pk H (aC a x) fun ab=>K ab [])
       |_,_=>False
     | .append=>match c.args.toList,c.argTypes.toList with
       |[x,y],[T,k]=>dz E T fun t=>dz E k fun g=>c2 (g.d.isStr||g.d.sz) (nR t g.d.isStr H aA (aC a x) (aC a y) K)
       |_,_=>False
     | .min=>match c.args.toList with
       |[x,y]=>x3 (aC a x) (aC a y) fun ab=>K ab []
       |_=>False
     | .max=>match c.args.toList with
       |[x,y]=>x2 (aC a x) (aC a y) fun ab=>K ab []
       |_=>False
     |_=>False
   |_=>False
 |_=>False
def qH:Op→Bool
 | .alloc _| .box .. | .buildSlice .. | .makeSlice .. =>true
 | .call c=>match c.callee with
   | .value _=>true
   | .builtin .append=>true
   |_=>false
 |_=>false
section
variable {E:Env} {S:dR} {ι:Nat→Option Nat} {st:D} {a:Act} {w:World}
theorem jO{T:TypeId}{K:bB→Prop}(a:E.dq)(h:dz E T K): ∃t,gu E.P T t∧E.ty T=some t∧K t:=by
 unfold dz at h
 cases e:E.ty T with
 |none=>rw[e]at h;exact h.elim
 |some t=>rw[e]at h;exact⟨t,a.ty T t e,rfl,h⟩
theorem ay3{o:Oper}{x:Operand}(m:o.op= .nilCheck x)(h:aU S ι st a w){K:J→Prop}(b:sN st.k (aC st.n x) K){next:Act→World→Prop}{Q:Exit→Act→World→Prop}
  (f: ∀ab v,K ab→bk S ι st.k w ab v→next (a.put o.dst v) w):o.wp E.P a w next Q:=by
 have c:=h.eval x;have i: ∀(p:Addr),a.eval x= .pointer (some p)→(execOp a.eval o).run E.P w= .ok (.value (a.eval x)) w:=fun p e=>by simp [execOp,m,e]
 cases e:aC st.n x<;>rw[e]at b c<;>simp only[sN]at b<;>try exact b.elim
 ·obtain⟨_,y,_,d⟩:=(show ej S ι st.k w (.ptr _ _) _ from c);exact dk (i _ d) (f _ _ b c)
 ·obtain⟨_,s,t,n,g,k,q,l⟩:=(show ej S ι st.k w (.fl _ _ _ _) _ from c);rw[k]at b;simp only at b;obtain⟨y,r,d⟩:=l b.1;exact dk (i _ d) (f _ _ b.2 c)
 ·rename_i cs;have j:aR w (aM S ι st.k w) (.ref cs) (a.eval x):=c;generalize d:a.eval x=v at j
  cases j
  exact dk (i _ d) (f _ _ b c)
theorem WI(n:E.dq){o:Oper}(h:aU S ι st a w){aA:Nat}{nN:Nat→Prop}(r:qH o.op=true→nN aA∧ ∀b,nN b→(∀p,I st.k b p= .undef)∧ι b=none){K:J→bX→Prop}(EB: ∀ab G,K ab G→ ∀b p c,(b,p,c)∈G→aA<b→nN b)(d:h2 E aA st.n st.k o.op K){next:Act→World→Prop}{Q:Exit→Act→World→Prop}
  (F: ∀ay ab G v ag,K ab G→aU S ay ⟨st.n,bt st.k G⟩ a ag→bk S ay (bt st.k G) ag ab v→(∀b,ay b≠none→ι b≠none∨ ∃p c,(b,p,c)∈G)→next (a.put o.dst v) ag):o.wp E.P a w next Q:=by
 have s: ∀ab v,K ab []→bk S ι st.k w ab v→next (a.put o.dst v) w:=fun ab v z N=>F ι ab [] v w z h N fun b D=> .inl D
 have adL: ∀(cs:List J),cs.isEmpty=false→ ∃p c,(aA,p,c)∈hL aA cs 0:=fun cs L=>by
  cases cs with
  |nil=>cases L
  |cons c cs=>exact⟨0,c,by simp [hL]⟩
 cases j:o.op<;>rw[j]at d r<;>simp only[h2]at d<;>try exact d.elim
 case move x=>exact dk (by simp [execOp,j]) (s _ _ d (h.eval x))
 case assign x=>exact dk (by simp [execOp,j]) (s _ _ d (h.eval x))
 case pick c x y=>
  have L:=h.eval c
  cases e:aC st.n c<;>rw[e]at d L<;>simp only at d<;>try exact d.elim
  ·exact agO j L.bool h d s
  ·exact agO j L.lit h d s
 case alloc T=>
  obtain⟨t,k,_,d⟩:=jO n d;simp only[aD,iX]at d;obtain⟨P,z⟩:=d;obtain⟨B,C⟩:=(r rfl).2 aA (r rfl).1;exact amG j k h B C (by intro e;rw[e]at P;cases P) fun ay ag v W M N=>F ay _ _ v ag z M N fun b D=>(W b D).imp id fun e=>by subst e;exact adL _ P
 case box T x=>
  simp only[aD,bY,iX]at d;obtain⟨⟨e5,P⟩,z⟩:=d;obtain⟨B,C⟩:=(r rfl).2 aA (r rfl).1;exact am5 j h B C e5 (by intro e;rw[e]at P;cases P) fun ay ag v W M N=>F ay _ _ v ag z M N fun b D=>(W b D).imp id fun e=>by subst e;exact adL _ P
 case build T Bh=>
  obtain⟨t,k,_,d⟩:=jO n d
  cases Z:t.d<;>rw[Z]at d<;>simp only at d<;>try exact d.elim
  exact am_ j k Z h d s
 case load T x=>
  obtain⟨t,k,_,d⟩:=jO n d;exact axY j k h d s
 case store T x y=>
  obtain⟨t,k,_,d⟩:=jO n d;exact aB3 j k h d fun G ag z M=>F ι _ G _ ag z M trivial fun b D=> .inl D
 case nilCheck x=>exact ay3 j h d s
 case binOp op T x y k0=>
  obtain⟨t,k,_,d⟩:=jO n d;exact am0 j k h d s
 case unOp op T x=>exact aC4 j h d s
 case fieldAddr T x f=>
  obtain⟨t,k,_,d⟩:=jO n d;exact ao1 j k h d s
 case indexAddr T x y=>
  obtain⟨t,k,_,d⟩:=jO n d;exact auc j k h d s
 case index T x y=>
  obtain⟨t,k,_,d⟩:=jO n d;exact at2 n.ty j k h d s
 case extract x i=>exact aoM j h d s
 case buildSlice T len Bh=>
  obtain⟨t,k,_,d⟩:=jO n d;obtain⟨B,C⟩:=(r rfl).2 aA (r rfl).1;exact am9 j k h B C d F
 case makeSlice T l c=>
  obtain⟨t,k,_,d⟩:=jO n d;obtain⟨B,C⟩:=(r rfl).2 aA (r rfl).1;exact aye n j k h B C d F
 case slice T x l aZ m=>
  obtain⟨t,k,_,d⟩:=jO n d;exact aBO j k h d fun ab G v z M N=>F ι ab G v w z M N fun b D=> .inl D
 case convert Wo Wn x=>
  obtain⟨t,k,_,d⟩:=jO n d;obtain⟨mT,J7,_,d⟩:=jO n d;exact anK n j k J7 h d fun ab v ag z M N=>F ι ab [] v ag z M N fun b D=> .inl D
 case makeFunc fn first X=>
  cases hi:fn<;>rw[hi]at d<;>simp only at d<;>try exact d.elim
  rename_i f;obtain⟨L,z⟩:=aD.1 d;simp only[bY]at L;have asK:first= #[]:=oG (by simpa using L.1)
  refine dk (v:= .func (.func f) #[] (X.map a.eval)) (ag:=w) (by simp [execOp,j,hi,asK,Instr.makeFunc]) (s _ _ z ?_);refine⟨X.toList.map a.eval,by apply congrArg (Value.func (.func f) #[]);apply oG;simp,?_⟩;refine aY.mk (by simp) fun i p q cP iR=> ?_;simp only[fq,jQ]at cP iR;obtain⟨g,Y,rfl⟩:=cP;obtain⟨u,R,rfl⟩:=iR;rw[Y]at R;cases R;have xl:=dw.1 L.2 (aC st.n g) (pJ.2 ⟨g,e4 Y,rfl⟩);have xm:=h.eval g;generalize aC st.n g=c at xl xm
  cases c<;>first|(cases xl;done)|exact xm
 case call c=>
  cases A:c.callee with
  |value f=>
   rw[A]at d;simp only at d;have r:=r (by simp [qH,A]);obtain⟨B,C⟩:=r.2 aA r.1;unfold yY at d
   cases hi:aC st.n f<;>rw[hi]at d<;>simp only at d<;>try exact d.elim
   rename_i fY jf
   cases Hd:xB E.eh fY (c.args.toList.map (aC st.n)++jf)with
   |true=>
    rw[Hd]at d;exact asw n j A hi h r.1 r.2 EB d F
   |false=>
    rw[Hd]at d;obtain⟨RX,d⟩:=aD.1 d;exact ani n j A hi RX h B C d F
  |invoke hg m=>rw[A]at d;exact d.elim
  |builtin b=>
   rw[A]at d
   cases b<;>simp only at d<;>try exact d.elim
   case append=>
    have r:=r (by simp [qH,A]);obtain⟨B,C⟩:=r.2 aA r.1
    split at d
    ·rename_i x y T vl O U;obtain⟨t,k,_,d⟩:=jO n d;obtain⟨t2,RM,_,d⟩:=jO n d;obtain⟨H,d⟩:=aD.1 d;refine amR (str:=t2.d.isStr) j A (oG (by simpa using O)) (oG (by simpa using U)) k ?_ h B C d F;have V:=RM.d
     cases e:t2.d<;>rw[e]at H V<;>simp only[ry.isStr,ry.sz]at H ⊢ <;>first|(cases H;done)|exact V|exact⟨_,V.1⟩
    ·exact d.elim
   case min=>
    split at d
    ·rename_i x y O;exact ayp j A (oG (by simpa using O)) h d s
    ·exact d.elim
   case max=>
    split at d
    ·rename_i x y O;exact ayk j A (oG (by simpa using O)) h d s
    ·exact d.elim
   case len=>
    split at d
    ·rename_i x T O U;obtain⟨t,k,_,d⟩:=jO n d;obtain⟨H,d⟩:=aD.1 d;refine axP j A (oG (by simpa using O)) (oG (by simpa using U)) k h ?_ d ?_ s
     ·unfold Fk at H;cases e:t.d<;>rw[e]at H<;>first|rfl|(cases H;done)
     ·unfold Fk at H;cases e:t.d<;>cases R:aC st.n x<;>rw[e,R]at H<;>first|rfl|(cases H;done)
    ·exact d.elim
end
def jY(b:Option Nat)(ab:J)(a:List J):List J:=
 match b with
 |some d=>a.set d ab
 |none=>a
def uz(ops:Array Oper)(o:Oper)(st:D)(a skip:Prop):Prop:=
 match o.guard with
 |none=>a
 |some (j,c)=>match(ops[j]?).bind (·.dst)with
  |some d=>match st.n.getD d .undef with
   | .lit b=>match b==c with
     |true=>a
     |false=>skip
   | .gone=>skip
   |_=>False
  |none=>False
def Gd:List Oper→Nat→Bool
 |[],_=>false
 |o::r,i=>(match o.guard with
  |some (j,_)=>j==i
  |none=>false)||Gd r i
def yV(E:Env)(ops:Array Oper):List Oper→Nat→D→(D→Prop)→Prop
 |[],_,st,K=>K st
 |o::a,i,st,K=>uz ops o st (h2 E (sL st.n st.k o.op) st.n st.k o.op fun ab b=>AV (Gd a i) ab fun ab=>yV E ops a (i+1) ⟨jY o.dst ab st.n,bt st.k b⟩ K)
   (yV E ops a (i+1) ⟨jY o.dst .gone st.n,st.k⟩ K)
section
variable {E:Env} {S:dR} {ι:Nat→Option Nat} {st:D} {a:Act} {w:World}
theorem aU.dst(h:aU S ι st a w)(d:Option Nat){ab:J}{v:Value}(b:bk S ι st.k w ab v):aU S ι ⟨jY d ab st.n,st.k⟩ (a.put d v) w:=by
 cases d with
 |none=>exact h
 |some d=>exact h.put d b
def Gz(ab r:J):Prop:=ab=r∨ ∃b,ab= .bool b∧r= .lit b
theorem Gz.rel{H:Heap}{ab r:J}{v:Value}(h:Gz ab r)(a:bk S ι H w ab v):bk S ι H w r v:=by
 rcases h with rfl|⟨b,rfl,rfl⟩
 ·exact a
 ·have:aR w (aM S ι H w) (.bool b) v:=a
  cases this
  exact aR.lit b
theorem afJ{a:Bool}{ab:J}{K:J→Prop}(h:AV a ab K): ∃r,Gz ab r∧K r:=by
 unfold AV at h
 cases a with
 |false=>exact⟨ab,.inl rfl,h⟩
 |true=>
  cases ab
  case bool b=>
   cases b
   ·exact⟨_,.inr ⟨false,rfl,rfl⟩,h.2 rfl⟩
   ·exact⟨_,.inr ⟨true,rfl,rfl⟩,h.1 rfl⟩
  all_goals exact⟨_,.inl rfl,h⟩
def q6(ops:Array Oper)(o:Oper)(a:List J):Option Bool:=
 match o.guard with
 |none=>some true
 |some (j,c)=>match(ops[j]?).bind (·.dst)with
  |some d=>match a.getD d .undef with
   | .lit b=>some (b==c)
   | .gone=>some false
   |_=>none
  |none=>none
theorem adt{ops:Array Oper}{o:Oper}{st:D}{g skip:Prop}(a:uz ops o st g skip):
  (q6 ops o st.n=some true∧g)∨(q6 ops o st.n=some false∧skip):=by
 unfold uz at a;unfold q6
 cases f:o.guard with
 |none=>rw[f]at a;exact .inl ⟨rfl,a⟩
 |some q=>
  obtain⟨j,i⟩:=q;rw[f]at a;simp only at a ⊢
  cases c:(ops[j]?).bind (·.dst)with
  |none=>rw[c]at a;exact a.elim
  |some d=>
   rw[c]at a;simp only at a ⊢
   cases h:st.n.getD d .undef<;>rw[h]at a<;>simp only at a<;>try exact a.elim
   ·rename_i b
    cases e:(b==i)with
    |true=>rw[e]at a;exact .inl ⟨by simp [e],a⟩
    |false=>rw[e]at a;exact .inr ⟨by simp [e],a⟩
   ·exact .inr ⟨rfl,a⟩
theorem Vt{ops:Array Oper}{o:Oper}(h:aU S ι st a w){b:Bool}(f:q6 ops o st.n=some b):Region.wanted o (yielded ops a.tmps)=b:=by
 unfold q6 at f;unfold Region.wanted
 cases p:o.guard with
 |none=>rw[p]at f;cases f;rfl
 |some q=>
  obtain⟨j,t⟩:=q;rw[p]at f;simp only at f ⊢
  cases g:(ops[j]?).bind (·.dst)with
  |none=>rw[g]at f;cases f
  |some d=>
   rw[g]at f;simp only at f;have get: ∀x,st.n.getD d .undef=x→x≠ .undef→st.n[d]? =some x:=fun x i s=>by
    cases e:st.n[d]? with
    |none=>simp [List.getD,e]at i;exact absurd i.symm s
    |some ab=>simp [List.getD,e]at i;rw[i]
   cases m:st.n.getD d .undef<;>rw[m]at f<;>simp only at f<;>try (cases f;done)
   ·rename_i c;obtain⟨v,k,l⟩:=h.n d _ (get _ m (by simp));have:=bk.lit l;subst this;have n:yielded ops a.tmps j=some c:=by simp [yielded,g,k]
    rw[n];simp only[hd]at f;rw[←f]
    cases c<;>cases t<;>rfl
   ·obtain⟨v,k,l⟩:=h.n d _ (get _ m (by simp));have r:v=undef:=l;subst r;have n:yielded ops a.tmps j=none:=by simp [yielded,g,k,undef]
    rw[n]
    cases f;rfl
theorem Ox(e:E.dq){ops:Array Oper}{Q:Exit→Act→World→Prop} : ∀(l:List Oper) (i:Nat) (ι:Nat→Option Nat) (st:D) (a:Act) (w:World) (K:D→Prop),aU S ι st a w→yV E ops l i st K→
  (∀ι st a w,aU S ι st a w→K st→Q .normal a w)→wpList E.P ops Q l a w
 |[],_,ι,st,a,w,K,h,g,d=>d ι st a w h g
 |o::l,i,ι,st,a,w,K,h,g,d=>by
  unfold wpList;rcases adt g with⟨k,j⟩|⟨k,j⟩
  ·rw[bF (Vt h k)];refine .inl (WI e h (nN:=fun b=>sL st.n st.k o.op≤b) (fun _=>⟨bx _,fun b c=>⟨fun p=>so (fg (Fu _ _ _) c) p,h.Ls (fg (Fu _ _ _) c)⟩⟩) (fun _ _ _ b _ _ _ c=>Nat.le_of_lt c) j fun ay ab s v ag f n q _=> ?_);obtain⟨r,m,f⟩:=afJ f;exact Ox e l (i+1) ay _ _ ag K (aU.dst n o.dst (m.rel q)) f d
  ·rw[bH (by rw[Vt h k];simp)];exact Ox e l (i+1) ι _ _ w K (aU.dst h o.dst (ab:= .gone) rfl) j d
end
end Go.ah
