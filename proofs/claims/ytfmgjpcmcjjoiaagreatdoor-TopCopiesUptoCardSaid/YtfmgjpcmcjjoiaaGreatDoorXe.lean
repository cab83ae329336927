/- Part of a proof: the executor and its soundness. -/
import Derived.Test.YtfmgjpcmcjjoiaaGreatDoorXd
open Go.IntKind (i64 u64 u8)
open Int (toNat)
set_option maxRecDepth 100000
set_option maxHeartbeats 4000000
set_option linter.all false
noncomputable section
namespace Go.ah
open Go Go.RowKit
structure Rec where
 val:J
 ws:bX
 rd:List (Nat×Nat)
 g8:List Nat
 aA:Nat
 run:Bool
def hh(o:Oper)(r:Rec)(st:D):D:=⟨jY o.dst r.val st.n,bt st.k r.ws⟩
def K9(b o n:Nat):List (Nat×Nat):=(List.range n).map fun j=>(b,o+j)
def jr:J→List (Nat×Nat)
 | .own b _=>[(b,0)]
 |_=>[]
def js:J→List (Nat×Nat)
 | .agg cs=>cs.flatMap jr
 |ab=>jr ab
def kf(E:Env)(a:List J)(d:Op):List (Nat×Nat):=
 match d with
 | .load T x=>match aC a x with
   | .ptr b o=>match E.ty T with
     |some t=>K9 b o t.size
     |none=>[]
   | .fl b _ _ _=>[(b,0)]
   |_=>[]
 | .store T x _=>match aC a x with
   | .ptr b o=>match E.ty T with
     |some t=>(b,0)::K9 b o t.size
     |none=>[]
   | .fl b _ _ _=>[(b,0)]
   |_=>[]
 | .fieldAddr _ x _| .nilCheck x=>match aC a x with
   | .fl b _ _ _=>[(b,0)]
   |_=>[]
 | .indexAddr _ x _=>match aC a x with
   | .own b _=>[(b,0)]
   |_=>[]
 | .call c=>c.args.toList.flatMap fun x=>js (aC a x)
 | .slice _ x _ _ _| .convert _ _ x=>js (aC a x)
 | .buildSlice _ _ e=>e.toList.flatMap fun p=>js (eE (aC a p.2))
 |_=>[]
def pv(a:List J)(H:Heap)(d:Op):List Nat:=
 match d with
 | .call c=>match c.callee with
   | .value f=>match aC a f with
     | .fn _ b=>dS H (c.args.toList.map (aC a)++b)
     |_=>[]
   |_=>[]
 |_=>[]
section
variable {E:Env}
theorem Ll{b:Nat} : ∀{l:List Nat},b∈l→b∈dedup l
 |[],h=>by cases h
 |x::l,h=>by
  simp only[dedup];rcases hf.1 h with rfl|h
  ·split
   ·rename_i e;obtain⟨y,c,a⟩:=List.any_eq_true.1 e;have:=dX a;subst this;exact Ll c
   ·simp
  ·split
   ·exact Ll h
   ·simp [Ll h]
theorem am1{H al:Heap}{aa:List J}(h: ∀b∈dS H aa,al.getD b []=H.getD b []):dS al aa=dS H aa:=by
 have d: ∀(g:J→List Nat) (l:List Nat),(∀b∈l,al.getD b []=H.getD b [])→(l.flatMap fun b=>(al.getD b []).flatMap g)=l.flatMap fun b=>(H.getD b []).flatMap g:=by
  intro g l
  induction l with
  |nil=>intro _;rfl
  |cons x l f=>
   intro c;rw[l9,l9,c x (by simp),f fun b a=>c b (by simp [a])]
 have e:Cb al aa=Cb H aa:=by
  unfold Cb;rw[d Uv _ fun b a=>h b (hq.2 (.inl (Ll (hq.2 (.inl a)))))]
 unfold dS;rw[e,d LK _ fun b a=>h b (hq.2 (.inl a))]
theorem ahD{H al:Heap} : ∀{L:List Nat} {a:Heap},(∀b∈L,al.getD b []=H.getD b [])→pz L al a=pz L H a
 |[],_,_=>rfl
 |b::L,a,h=>by
  unfold pz;rw[h b (by simp)]
  cases a with
  |nil=>rfl
  |cons y a=>simp only;rw[ahD fun b c=>h b (by simp [c])]
theorem ass{aA:Nat}{H al:Heap}{f:FuncId}{aa:List J}{K:J→bX→Prop}(h: ∀b∈dS H aa,al.getD b []=H.getD b [])(c:np E H aA f aa K):np E al aA f aa K:=by
 have e:=am1 h;unfold np at c ⊢;rw[e];have i:((dS H aa).all fun b=>x0 (al.getD b [])&&(al.getD b []).all (mZ (mem (dS H aa))))=(dS H aa).all fun b=>x0 (H.getD b [])&&(H.getD b []).all (mZ (mem (dS H aa))):=by
  rw[Bool.eq_iff_iff,dw,dw];exact⟨fun g b a=>by rw[←h b a];exact g b a,fun g b a=>by rw[h b a];exact g b a⟩
 have bl:((dS H aa).map fun b=>(al.getD b []).map (ff (pos (dS H aa))))=(dS H aa).map fun b=>(H.getD b []).map (ff (pos (dS H aa))):=Gs fun b a=>by rw[h b a]
 rw[i,bl]
 cases d:E.nr f (aa.map (kP (pos (dS H aa)))) ((dS H aa).map fun b=>(H.getD b []).map (ff (pos (dS H aa))))with
 |none=>rw[d]at c;exact c
 |some q=>
  obtain⟨j,rs,k⟩:=q;rw[d]at c;simp only at c ⊢;rw[ahD h];exact c
theorem ast{aA:Nat}{H:Heap}{f:FuncId}{aa:List J}{K:J→bX→Prop}(a:np E H aA f aa K): ∃ab ws,np E H aA f aa (fun x y=>x=ab∧y=ws)∧K ab ws:=by
 unfold np at a;obtain⟨d,a⟩:=aD.1 a
 cases c:E.nr f (aa.map (kP (pos (dS H aa)))) ((dS H aa).map fun b=>(H.getD b []).map (ff (pos (dS H aa))))with
 |none=>rw[c]at a;exact a.elim
 |some q=>
  obtain⟨h,rs,i⟩:=q;rw[c]at a;obtain⟨e,a⟩:=pt.1 a;obtain⟨g,a⟩:=aD.1 a;refine⟨_,_,?_,a⟩;unfold np;refine aD.2 ⟨d,?_⟩;rw[c];exact pt.2 ⟨e,aD.2 ⟨g,rfl,rfl⟩⟩
theorem Xr{H al:Heap}{b o n:Nat}(h: ∀l∈K9 b o n,I al l.1 l.2=I H l.1 l.2):ks al b o n=ks H b o n:=by
 unfold ks;apply Gs;intro j a;exact h (b,o+j) (by simp [K9];simpa using a)
theorem W_{b:List (Nat×Nat)}{f g:List J}{K:List J→Prop} : ∀(a:List (Nat×Operand)) (cs:List J),(∀x∈a,aC g x.2=aC f x.2)→mV b f a cs K→mV b g a cs K
 |[],cs,_,h=>h
 |(i,x)::a,cs,d,h=>by
  simp only[mV]at h ⊢
  cases e:b[i]? with
  |none=>rw[e]at h;exact h.elim
  |some q=>
   rw[e]at h;simp only at h ⊢;have c:=d (i,x) (by simp);simp only at c;rw[c];rw[aD]at h ⊢;exact⟨h.1,W_ a _ (fun y j=>d y (by simp [j])) h.2⟩
theorem YQ{H al:Heap}{x:J}{K:J→Prop}(a: ∀l∈jr x,I al l.1 l.2=I H l.1 l.2)(h:iv H x K):iv al x K:=by
 cases x<;>simp only[iv]at h ⊢ <;>try exact h
 rename_i b k;rw[show I al b 0=I H b 0 from a (b,0) (by simp [jr])];exact h
theorem PF{H al:Heap} : ∀{cs:List J} {K:List J→Prop},(∀l∈cs.flatMap jr,I al l.1 l.2=I H l.1 l.2)→lH H cs K→lH al cs K
 |[],_,_,h=>h
 |c::cs,K,e,h=>by
  simp only[lH]at h ⊢;refine YQ (fun l d=>e l (by simp [d])) ?_;have f: ∀{a eI:J→Prop},(∀y,a y→eI y)→iv H c a→iv H c eI:=fun {a eI} b h=>by
   cases c<;>simp only[iv]at h ⊢ <;>try first|exact b _ h|exact(aD.2 ⟨(aD.1 h).1,b _ (aD.1 h).2⟩)
   split at h
   ·exact⟨h.1,b _ h.2⟩
   ·exact h
  exact f (fun y=>PF fun l d=>e l (by simp only[l9,hq];exact .inr d)) h
theorem aph{H al:Heap}{x:J}{K:J→Prop}(a: ∀l∈js x,I al l.1 l.2=I H l.1 l.2)(h:ku H x K):ku al x K:=by
 cases x
 case agg cs=>exact PF (K:=fun b=>K (.agg b)) a h
 all_goals
  simp only[js]at a;simp only[ku]at h ⊢;exact YQ a h
theorem PA{H:Heap}{c:J}{b eI:J→Prop}(a: ∀y,b y→eI y)(h:iv H c b):iv H c eI:=by
 cases c<;>simp only[iv]at h ⊢ <;>try first|exact a _ h|exact(aD.2 ⟨(aD.1 h).1,a _ (aD.1 h).2⟩)
 split at h
 ·exact⟨h.1,a _ h.2⟩
 ·exact h
theorem vS{H:Heap} : ∀{cs:List J} {Gy eI:List J→Prop},(∀y,Gy y→eI y)→lH H cs Gy→lH H cs eI
 |[],_,_,a,h=>a _ h
 |c::cs,Gy,eI,a,h=>by
  simp only[lH]at h ⊢;exact PA (fun y=>vS fun b=>a _) h
theorem PB{H:Heap}{c:J}{b eI:J→Prop}(d: ∀y,b y→eI y)(h:ku H c b):ku H c eI:=by
 cases c
 case agg cs=>exact vS (Gy:=fun a=>b (.agg a)) (eI:=fun a=>eI (.agg a)) (fun a=>d _) h
 all_goals
  simp only[ku]at h ⊢;exact PA d h
theorem CK{H:Heap} : ∀{cs:List J} {a eI:List J→Prop},(∀y,a y→eI y)→mh H cs a→mh H cs eI
 |[],_,_,b,h=>b _ h
 |c::cs,a,eI,b,h=>by
  simp only[mh]at h ⊢;exact PB (fun y=>CK fun d=>b _) h
theorem YU{H al:Heap} : ∀{cs:List J} {K:List J→Prop},(∀l∈cs.flatMap js,I al l.1 l.2=I H l.1 l.2)→mh H cs K→mh al cs K
 |[],_,_,h=>h
 |c::cs,K,b,h=>by
  simp only[mh]at h ⊢;refine aph (fun l a=>b l (by simp only[l9,hq];exact .inl a)) ?_;exact PB (fun y=>YU fun l a=>b l (by simp only[l9,hq];exact .inr a)) h
theorem Ht{H:Heap} : ∀{c:List (List J)} {a eI:List (List J)→Prop},(∀y,a y→eI y)→m1 H c a→m1 H c eI
 |[],_,_,b,h=>b _ h
 |l::c,a,eI,b,h=>by
  simp only[m1]at h ⊢;exact vS (fun y=>Ht fun d=>b _) h
theorem Y6{H al:Heap} : ∀{a:List (List J)} {K:List (List J)→Prop},(∀l∈a.flatten.flatMap jr,I al l.1 l.2=I H l.1 l.2)→m1 H a K→m1 al a K
 |[],_,_,h=>h
 |l::a,K,c,h=>by
  simp only[m1]at h ⊢;refine PF (fun q b=>c q (by simp only[yF,BL,hq];exact .inl b)) ?_;exact vS (fun y=>Y6 fun q b=>c q (by simp only[yF,BL,hq];exact .inr b)) h
theorem anp{y:J}{q:Nat×Nat}(h:q∈(cellsOf y).flatMap jr):q∈js y:=by
 cases y<;>simp only[cellsOf,js,jr,l9,List.flatMap_nil,lz,hq,oH,or_false]at h ⊢ <;>first|exact h|(cases h;done)
theorem agI{g:Nat}{f:List J} : ∀{e:List (Nat×Operand)} {k:Nat} {l:List (List J)},kM g f e k=some l→
  (∀q∈l.flatten.flatMap jr,q∈e.flatMap fun p=>js (eE (aC f p.2)))∧ ∀c∈l.flatten,Y7 c=true
 |[],k,l,h=>by
  simp only[kM,hd]at h;subst h;exact⟨fun q d=>by simp at d,fun c b=>by simp at b⟩
 |(i,x)::r,k,l,h=>by
  simp only[kM]at h
  split at h
  ·rename_i b;simp only[bY]at b
   split at h
   ·rename_i o n;simp only[hd]at h;subst h;obtain⟨j,m⟩:=agI n;refine⟨fun q d=> ?_,fun c a=> ?_⟩
    ·simp only[yF,BL,hq]at d;simp only[l9,hq];exact d.imp anp (j q)
    ·simp only[yF,hq]at a;rcases a with a|a
     ·exact dw.1 b.2.2 c a
     ·exact m c a
   ·cases h
  ·cases h
def SS(H:Heap)(c:Nat)(x:J)(z:Int)(K:J→Prop):Prop:=
 match x with
 | .arr a n f=>c2 (decide (a=c)) ((0≤z∧z<n)∧K (.ref ((f z.toNat).take a)))
 | .own b k=>match I H b 0 with
   | .ae _ a n _=>c2 (decide (a=c)) (k=n∧(0≤z∧z<n)∧K (.fl b k z.toNat 0))
   |_=>False
 |_=>False
theorem aub{H al:Heap}{lG:Nat}{x:J}{z:Int}{K:J→Prop}(a: ∀b k,x= .own b k→I al b 0=I H b 0)(h:SS H lG x z K):SS al lG x z K:=by
 cases x
 case own b k=>
  unfold SS at h ⊢;simp only at h ⊢;rw[a b k rfl];exact h
 all_goals exact h
theorem agH{a:Nat}{c d:List J} : ∀{Bh:List (Nat×Operand)} {k:Nat},(∀x∈Bh,aC d x.2=aC c x.2)→kM a d Bh k=kM a c Bh k
 |[],_,_=>rfl
 |(i,x)::r,k,h=>by
  have b:=h (i,x) (by simp);simp only at b;simp only[kM,b,agH (Bh:=r) (k:=k+1) fun y e=>h y (by simp [e])]
theorem B9{b c:List J}{d:Int}{o:Option Operand}{K:Int→Prop}(h: ∀y,o=some y→aC c y=aC b y)(a:cL b d o K):cL c d o K:=by
 cases o with
 |none=>exact a
 |some x=>simp only[cL]at a ⊢;rw[h x rfl];exact a
theorem tp{b:List J}{d:Int}{o:Option Operand}{c eI:Int→Prop}(f: ∀z,c z→eI z)(a:cL b d o c):cL b d o eI:=by
 cases o with
 |none=>exact f _ a
 |some x=>
  simp only[cL]at a ⊢
  cases e:aC b x<;>rw[e]at a<;>simp only at a ⊢ <;>first|exact a.elim|exact f _ a
theorem aBL{t:bB}{H al:Heap}{h i:List J}{x:J}{l aZ m:Option Operand}{K:J→bX→Prop}(o: ∀y,(l=some y∨aZ=some y∨m=some y)→aC i y=aC h y)(v: ∀p∈js x,I al p.1 p.2=I H p.1 p.2)(a:q3 t H h x l aZ m K):q3 t al i x l aZ m K:=by
 unfold q3 at a ⊢;rw[aD]at a ⊢;obtain⟨w,a⟩:=a;refine⟨w,?_⟩;have q: ∀{j n:Int} {K:Int→Int→Int→Prop},(cL h j l fun g=>cL h n aZ fun c=>cL h c m fun r=>K g c r)→(cL i j l fun g=>cL i n aZ fun c=>cL i c m fun r=>K g c r):=fun d=>
  B9 (fun y f=>o y (.inl f)) (tp (fun g d=>B9 (fun y f=>o y (.inr (.inl f))) (tp (fun c d=>B9 (fun y f=>o y (.inr (.inr f))) d) d)) d)
 have s: ∀{j n:Int} {K:Int→Int→Prop},(cL h j l fun g=>cL h n aZ fun c=>K g c)→(cL i j l fun g=>cL i n aZ fun c=>K g c):=fun d=>
  B9 (fun y f=>o y (.inl f)) (tp (fun g d=>B9 (fun y f=>o y (.inr (.inl f))) d) d)
 cases u:t.d<;>rw[u]at a<;>simp only at a ⊢ <;>try exact a.elim
 ·cases x<;>simp only at a ⊢ <;>try exact a.elim
  cases m with
  |none=>exact s a
  |some _=>exact a.elim
 ·cases x<;>simp only at a ⊢ <;>try exact a.elim
  ·exact q a
  ·rw[aD]at a ⊢;exact⟨a.1,q a.2⟩
  ·rename_i b k;rw[show I al b 0=I H b 0 from v (b,0) (by simp [js,jr])]
   cases e:I H b 0<;>rw[e]at a<;>simp only at a ⊢
   rw[aD]at a ⊢;exact⟨a.1,a.2.1,q a.2.2⟩
theorem UO{H al:Heap}{x:J}(a: ∀l∈jr x,I al l.1 l.2=I H l.1 l.2):sV al x=sV H x:=by
 cases x<;>first|rfl|skip
 rename_i b k;simp only[sV];rw[show I al b 0=I H b 0 from a (b,0) (by simp [jr])]
theorem Hp{α β:Type}{f g:α→List β} : ∀{l:List α},(∀x∈l,f x=g x)→l.flatMap f=l.flatMap g
 |[],_=>rfl
 |x::l,h=>by
  rw[l9,l9,h x (by simp),Hp fun y a=>h y (by simp [a])]
theorem aBl{H al:Heap}{r:J}{aa:List J}(b: ∀l∈aa.flatMap js,I al l.1 l.2=I H l.1 l.2):nF al r aa=nF H r aa:=by
 unfold nF
 split
 ·rfl
 ·unfold ev;apply Hp;intro x e;have a: ∀l∈js x,I al l.1 l.2=I H l.1 l.2:=fun l a=>b l (lx.2 ⟨x,e,a⟩)
  cases x
  case agg cs=>
   simp only[Br];apply Hp;intro c d;exact UO fun l h=>a l (lx.2 ⟨c,d,h⟩)
  all_goals
   simp only[js]at a;simp only[Br];exact UO a
theorem ahS{H al:Heap}{h:Bool}{f:Nat}{y:J}{K d:Nat→(Nat→List J)→Prop}(i: ∀b k,y= .own b k→I al b 0=I H b 0)(c: ∀m g,K m g→d m g)(a:mM H h f y K):mM al h f y d:=by
 cases y<;>simp only[mM]at a ⊢ <;>try exact a.elim
 ·exact aD.2 ((aD.1 a).imp id (c _ _))
 ·exact aD.2 ((aD.1 a).imp id (c _ _))
 ·exact aD.2 ((aD.1 a).imp id (c _ _))
 ·rename_i b k;rw[i b k rfl]
  cases e:I H b 0<;>rw[e]at a<;>simp only at a ⊢
  rw[aD]at a ⊢;exact⟨a.1,a.2.1,c _ _ a.2.2⟩
theorem amN{t:bB}{c:Bool}{H al:Heap}{aA:Nat}{x y:J}{K:J→bX→Prop}(e: ∀b k,x= .own b k→I al b 0=I H b 0)(f: ∀b k,y= .own b k→I al b 0=I H b 0)(a:nR t c H aA x y K):nR t c al aA x y K:=by
 unfold nR at a ⊢
 cases d:t.d<;>rw[d]at a<;>simp only at a ⊢ <;>try exact a.elim
 rw[aD]at a ⊢;refine⟨a.1,ahS f (fun m g h=> ?_) a.2⟩
 cases x<;>simp only at h ⊢ <;>try exact h
 rename_i b k;rw[e b k rfl];exact h
theorem amI{aA:Nat}{n F:List J}{H al:Heap}{A:Op}{K:J→bX→Prop}(d: ∀x∈A.operands,aC F x=aC n x)(j: ∀l∈kf E n A,I al l.1 l.2=I H l.1 l.2)(nk: ∀b∈pv n H A,al.getD b []=H.getD b [])(a:h2 E aA n H A K):h2 E aA F al A K:=by
 cases A<;>simp only[h2]at a ⊢ <;>try exact a.elim
 case move x=>rw[d x (by simp [Op.operands])];exact a
 case assign x=>rw[d x (by simp [Op.operands])];exact a
 case pick c x y=>rw[d c (by simp [Op.operands]),d x (by simp [Op.operands]),d y (by simp [Op.operands])];exact a
 case alloc T=>exact a
 case box T x=>rw[d x (by simp [Op.operands])];exact a
 case build T N=>
  unfold dz at a ⊢
  cases e:E.ty T with
  |none=>rw[e]at a;exact a.elim
  |some t=>
   rw[e]at a;simp only at a ⊢
   cases B:t.d<;>rw[B]at a<;>simp only at a ⊢ <;>try exact a.elim
   exact W_ _ _ (fun x D=>d x.2 (by simp [Op.operands];exact⟨x.1,by simpa using D⟩)) a
 case load T x=>
  have r:=d x (by simp [Op.operands]);unfold dz at a ⊢
  cases e:E.ty T with
  |none=>rw[e]at a;exact a.elim
  |some t=>
   rw[e]at a;simp only[kf,e]at a j ⊢;rw[r]
   cases s:aC n x<;>rw[s]at a j<;>simp only[nx]at a ⊢ <;>try exact a
   ·rw[Xr j];exact a
   ·rename_i b k i o;rw[show I al b 0=I H b 0 from j (b,0) (by simp)];exact a
 case store T x y=>
  have r:=d x (by simp [Op.operands]);have v:=d y (by simp [Op.operands]);unfold dz at a ⊢
  cases e:E.ty T with
  |none=>rw[e]at a;exact a.elim
  |some t=>
   rw[e]at a;simp only[kf,e]at a j ⊢;rw[r,v]
   cases s:aC n x<;>rw[s]at a j<;>simp only[s3]at a ⊢ <;>try exact a
   ·rename_i b o;rw[Xr (fun l p=>j l (by simp [p])),show I al b 0=I H b 0 from j (b,0) (by simp)];exact a
   ·rename_i b k i o;rw[show I al b 0=I H b 0 from j (b,0) (by simp)];exact a
 case makeSlice T l c=>
  have r:=d l (by simp [Op.operands]);have v:=d c (by simp [Op.operands]);unfold dz at a ⊢
  cases e:E.ty T with
  |none=>rw[e]at a;exact a.elim
  |some t=>
   rw[e]at a;simp only at a ⊢;unfold qO at a ⊢;rw[r,v];exact a
 case nilCheck x=>
  have r:=d x (by simp [Op.operands]);simp only[kf]at j;rw[r]
  cases s:aC n x<;>rw[s]at a j<;>simp only[sN]at a ⊢ <;>try exact a
  rename_i b k i o;rw[show I al b 0=I H b 0 from j (b,0) (by simp)];exact a
 case binOp A T x y k0=>rw[d x (by simp [Op.operands]),d y (by simp [Op.operands])];exact a
 case unOp A T x=>rw[d x (by simp [Op.operands])];exact a
 case fieldAddr T x f=>
  have r:=d x (by simp [Op.operands]);unfold dz at a ⊢
  cases e:E.ty T with
  |none=>rw[e]at a;exact a.elim
  |some t=>
   rw[e]at a;simp only[kf]at a j ⊢;rw[r];simp only[rN]at a ⊢
   cases B:t.d<;>rw[B]at a<;>simp only at a ⊢ <;>try exact a.elim
   rename_i FH
   cases U:FH[f]? with
   |none=>rw[U]at a;exact a.elim
   |some q=>
    rw[U]at a;simp only at a ⊢
    cases s:aC n x<;>rw[s]at a j<;>simp only at a ⊢ <;>try exact a
    rename_i b k i o;rw[show I al b 0=I H b 0 from j (b,0) (by simp)];exact a
 case indexAddr T x y=>
  have r:=d x (by simp [Op.operands]);have v:=d y (by simp [Op.operands]);unfold dz at a ⊢
  cases e:E.ty T with
  |none=>rw[e]at a;exact a.elim
  |some t=>
   rw[e]at a;simp only[kf]at a j ⊢;rw[r,v];simp only[sx]at a ⊢
   cases B:t.d<;>rw[B]at a<;>simp only at a ⊢ <;>try exact a.elim
   case array=>exact a
   cases aoN:aC n y<;>rw[aoN]at a<;>simp only at a ⊢ <;>try exact a.elim
   rename_i C _ _ z;exact aub (H:=H) (lG:=C) (x:=aC n x) (z:=z) (K:=fun ab=>K ab []) (fun b k e=>j (b,0) (by rw[e];simp)) a
 case index T x y=>
  have r:=d x (by simp [Op.operands]);have v:=d y (by simp [Op.operands]);rw[r,v];exact a
 case extract x i=>rw[d x (by simp [Op.operands])];exact a
 case buildSlice T len N=>
  unfold dz at a ⊢
  cases e:E.ty T with
  |none=>rw[e]at a;exact a.elim
  |some t=>
   rw[e]at a;have cP: ∀C,kM C F N.toList 0=kM C n N.toList 0:=fun C=>agH (fun x D=>d x.2 (by simp [Op.operands];exact⟨x.1,by simpa using D⟩));simp only[kf]at j;simp only[pW,cP]at a ⊢
   cases B:t.d<;>rw[B]at a<;>simp only at a ⊢ <;>try exact a.elim
   rename_i aEd C mg
   cases p:kM C n N.toList 0 with
   |none=>rw[p]at a;exact a.elim
   |some l=>
    rw[p]at a;simp only at a ⊢;obtain⟨iC,g3⟩:=aD.1 a;obtain⟨ya,FE⟩:=agI p;have M: ∀q∈l.flatten.flatMap jr,I al q.1 q.2=I H q.1 q.2:=fun q P=>j q (ya q P);have St:ev al l.flatten=ev H l.flatten:=by
     unfold ev;apply Hp;intro c W;have asr:=FE c W;have as1: ∀q∈jr c,I al q.1 q.2=I H q.1 q.2:=fun q P=>M q (lx.2 ⟨c,W,P⟩)
     cases c
     case agg cs=>cases asr
     all_goals
      simp only[Br];exact UO as1
    refine aD.2 ⟨iC,Y6 M (Ht (fun Z h=> ?_) g3)⟩;obtain⟨f,f1,f2⟩:=h;exact⟨f,f1,by rw[St];exact f2⟩
 case slice T x l aZ m=>
  have r:=d x (by simp [Op.operands]);unfold dz at a ⊢
  cases e:E.ty T with
  |none=>rw[e]at a;exact a.elim
  |some t=>
   rw[e]at a;simp only at a ⊢;rw[r];refine aBL (fun y w=>d y ?_) (fun l p=>j l p) a;simp only[Op.operands,Array.mem_append,Option.mem_toArray];rcases w with w|w|w
   ·exact .inl (.inl (.inr w))
   ·exact .inl (.inr w)
   ·exact .inr w
 case makeFunc fn first S=>
  cases hi:fn<;>rw[hi]at a<;>simp only at a ⊢ <;>try exact a.elim
  have:S.toList.map (aC F)=S.toList.map (aC n):=Gs fun x D=>d x (by
   simp only[Op.operands];exact Array.mem_append.2 (.inr (by simpa using D)))
  rw[this];exact a
 case convert Wo Wn x=>
  have r:=d x (by simp [Op.operands]);unfold dz at a ⊢
  cases e:E.ty Wo with
  |none=>rw[e]at a;exact a.elim
  |some t=>
   rw[e]at a;simp only at a ⊢
   cases G:E.ty Wn with
   |none=>rw[G]at a;exact a.elim
   |some hg=>
    rw[G]at a;simp only at a ⊢;rw[r]
    cases s:aC n x<;>rw[s]at a<;>simp only[rI]at a ⊢ <;>try exact a
    rename_i b k;rw[show I al b 0=I H b 0 from j (b,0) (by simp [kf,s,js,jr])];exact a
 case call c=>
  have u: ∀x∈c.args.toList,aC F x=aC n x:=fun x D=>d x (by
   simp only[Op.operands,Call.operands];exact Array.mem_append.2 (.inr (by simpa using D)))
  have O: ∀{x:J},(∃y∈c.args.toList,x=aC n y)→ ∀b k,x= .own b k→I al b 0=I H b 0:=fun {x} d b k e=>by
   obtain⟨y,w,rfl⟩:=d;exact j (b,0) (lx.2 ⟨y,w,by rw[e];simp [js,jr]⟩)
  cases L:c.callee with
  |value f=>
   rw[L]at a;simp only at a ⊢;have EH:aC F f=aC n f:=d f (by simp only[Op.operands,Call.operands,L];simp);rw[EH];unfold yY at a ⊢
   cases hi:aC n f<;>rw[hi]at a<;>simp only at a ⊢ <;>try exact a.elim
   rename_i g R;rw[Gs u]
   cases V:xB E.eh g (c.args.toList.map (aC n)++R)with
   |true=>
    rw[V]at a;simp only at a ⊢;refine ass (fun b iP=>nk b ?_) a;simp only[pv,L,hi];exact iP
   |false=>
   rw[V]at a;simp only at a ⊢;rw[aD]at a ⊢;obtain⟨X,a⟩:=a;refine⟨X,?_⟩;have key: ∀z:J,jr (Fy z)=jr z:=fun z=>by cases z<;>rfl
   have M: ∀l∈((c.args.toList.map (aC n)++R).map eE).flatMap js,I al l.1 l.2=I H l.1 l.2:=fun l p=>by
    rw[List.map_append,BL,hq]at p;rcases p with p|p
    ·refine j l ?_;simp only[lx,pJ]at p;obtain⟨y,⟨Q,⟨x,SL,rfl⟩,rfl⟩,p⟩:=p;refine lx.2 ⟨x,SL,?_⟩
     cases Yu:aC n x<;>rw[Yu]at p<;>first|exact p|skip
     simp only[js,eE,lx,pJ]at p ⊢;obtain⟨aDH,⟨z,hE,rfl⟩,p⟩:=p;exact⟨z,hE,by rw[key]at p;exact p⟩
    ·simp only[lx,pJ]at p;obtain⟨y,⟨Q,SM,rfl⟩,p⟩:=p;have xl:=dw.1 X Q SM
     cases Q<;>first|(cases xl;done)|(simp [eE,Fy,js,jr]at p;done)
   unfold tr at a ⊢;refine YU M (CK (fun Z h=> ?_) a)
   cases Y:E.spec g Z with
   |none=>rw[Y]at h;exact h.elim
   |some q=>
    rw[Y]at h;obtain⟨pre,fY⟩:=q;simp only at h ⊢;rwa [aBl M]
  |invoke fY m=>rw[L]at a;exact a.elim
  |builtin b=>
   rw[L]at a
   cases b<;>simp only at a ⊢ <;>try exact a.elim
   case append=>
    split at a
    ·rename_i x y T vl s aof;rw[s]at u O;have r:=u x (by simp);have v:=u y (by simp);unfold dz at a ⊢
     cases e:E.ty T with
     |none=>rw[e]at a;exact a.elim
     |some t=>
      rw[e]at a;simp only at a ⊢
      cases G:E.ty vl with
      |none=>rw[G]at a;exact a.elim
      |some t2=>
       rw[G]at a;simp only at a ⊢;rw[aD]at a ⊢;rw[r,v];exact⟨a.1,amN (O ⟨x,by simp,rfl⟩) (O ⟨y,by simp,rfl⟩) a.2⟩
    ·exact a.elim
   case min=>
    split at a
    ·rename_i x y s;rw[s]at u;rw[u x (by simp),u y (by simp)];exact a
    ·exact a.elim
   case max=>
    split at a
    ·rename_i x y s;rw[s]at u;rw[u x (by simp),u y (by simp)];exact a
    ·exact a.elim
   case len=>
    simp only[kf]at j
    split at a
    ·rename_i x T s aof;rw[s]at u j;have r:=u x (by simp);rw[r];unfold dz at a ⊢
     cases e:E.ty T with
     |none=>rw[e]at a;exact a.elim
     |some t=>
      rw[e]at a;simp only at a ⊢;rw[aD]at a ⊢;refine⟨a.1,?_⟩;have a:=a.2
      cases s:aC n x<;>rw[s]at a<;>simp only[pk]at a ⊢ <;>try exact a
      rename_i b k;rw[show I al b 0=I H b 0 from j (b,0) (by simp [s,js,jr])];exact a
    ·exact a.elim
theorem agM{b:Bool}{x y:J}{K:J→Prop}(h:FR b x y K): ∃ab,FR b x y (fun z=>z=ab)∧K ab:=by
 cases b<;>exact⟨_,rfl,h⟩
theorem axX{t:bB}{H:Heap}{x:J}{K:J→Prop}(h:nx t H x K): ∃ab,nx t H x (fun z=>z=ab)∧K ab:=by
 cases x<;>simp only[nx,aD]at h ⊢ <;>try exact h.elim
 ·exact⟨_,⟨h.1,rfl⟩,h.2⟩
 ·split at h
  ·exact⟨_,⟨h.1,h.2.1,h.2.2.1,rfl⟩,h.2.2.2⟩
  ·exact h.elim
 ·exact⟨_,⟨h.1,rfl⟩,h.2⟩
theorem aB1{t:bB}{H:Heap}{x y:J}{K:bX→Prop}(h:s3 t H x y K): ∃ws,s3 t H x y (fun z=>z=ws)∧K ws:=by
 cases x<;>simp only[s3,aD]at h ⊢ <;>try exact h.elim
 ·exact⟨_,⟨h.1,rfl⟩,h.2⟩
 ·rename_i b k i o
  cases e:I H b 0<;>rw[e]at h<;>simp only at h ⊢ <;>try exact h.elim
  obtain⟨a,c,d,g,j,f⟩:=h;exact⟨_,⟨a,c,d,g,j,rfl⟩,f⟩
theorem ayc{E:Env}{t:bB}{a:List J}{aA:Nat}{l c:Operand}{K:J→bX→Prop}(h:qO E t a aA l c K): ∃ab ws,qO E t a aA l c (fun x y=>x=ab∧y=ws)∧K ab ws:=by
 unfold qO at h ⊢
 cases d:t.d<;>rw[d]at h<;>simp only at h ⊢ <;>try exact h.elim
 rename_i e n m
 cases g:E.ty e<;>rw[g]at h<;>simp only at h ⊢
 cases f:aC a l<;>rw[f]at h<;>simp only at h ⊢ <;>try exact h.elim
 cases b:aC a c<;>rw[b]at h<;>simp only at h ⊢ <;>try exact h.elim
 obtain⟨i,j,k⟩:=aD.1 h;exact⟨_,_,aD.2 ⟨i,j,rfl,rfl⟩,k⟩
theorem aoZ{t:bB}{H:Heap}{f:Nat}{x:J}{K:J→Prop}(h:rN t H f x K): ∃ab,rN t H f x (fun z=>z=ab)∧K ab:=by
 unfold rN at h ⊢
 cases a:t.d<;>rw[a]at h<;>simp only at h ⊢ <;>try exact h.elim
 rename_i c
 cases b:c[f]? <;>rw[b]at h<;>simp only at h ⊢
 cases x<;>simp only at h ⊢ <;>try exact h.elim
 ·exact⟨_,rfl,h⟩
 ·split at h
  ·exact⟨_,⟨h.1,rfl⟩,h.2⟩
  ·exact h.elim
 ·exact⟨_,rfl,h⟩
theorem at7{t:bB}{H:Heap}{x y:J}{K:J→Prop}(h:sx t H x y K): ∃ab,sx t H x y (fun z=>z=ab)∧K ab:=by
 unfold sx at h ⊢
 cases a:t.d<;>rw[a]at h<;>simp only at h ⊢ <;>try exact h.elim
 case array=>
  cases y<;>simp only at h ⊢ <;>try exact h.elim
  cases x<;>simp only[aD]at h ⊢ <;>first|exact h.elim|exact⟨_,⟨h.1,rfl⟩,h.2⟩
 cases y<;>simp only at h ⊢ <;>try exact h.elim
 cases x<;>simp only at h ⊢ <;>try exact h.elim
 ·rw[aD]at h;exact⟨_,aD.2 ⟨h.1,h.2.1,rfl⟩,h.2.2⟩
 ·split at h
  ·rw[aD]at h;exact⟨_,aD.2 ⟨h.1,h.2.1,h.2.2.1,rfl⟩,h.2.2.2⟩
  ·exact h.elim
theorem atZ{E:TypeId→Option bB}{t:bB}{x y:J}{K:J→Prop}(h:uG E t x y K): ∃ab,uG E t x y (fun z=>z=ab)∧K ab:=by
 unfold uG at h ⊢
 cases a:t.d<;>rw[a]at h<;>simp only at h ⊢ <;>try exact h.elim
 cases y<;>simp only at h ⊢ <;>try exact h.elim
 cases x<;>simp only at h ⊢ <;>try exact h.elim
 rename_i n e c _ _ _
 cases b:E e<;>rw[b]at h<;>simp only[aD]at h ⊢ <;>first|exact h.elim|exact⟨_,⟨h.1,rfl⟩,h.2⟩
theorem aui{a:BinOp}{k:IntKind}{p q:Int}{K:J→Prop}(h:uJ a k p q K): ∃ab,uJ a k p q (fun z=>z=ab)∧K ab:=by
 cases a<;>simp only[uJ]at h ⊢ <;>first|exact h.elim|exact⟨_,rfl,h⟩|exact⟨_,⟨h.1,rfl⟩,h.2⟩
theorem amY{t:bB}{a:BinOp}{x y:J}{K:J→Prop}(h:oT t a x y K): ∃ab,oT t a x y (fun z=>z=ab)∧K ab:=by
 cases x<;>cases y<;>simp only[oT]at h ⊢ <;>try exact h.elim
 ·cases d:KR a with
  |true=>
   rw[d]at h;simp only[Mb]at h ⊢;obtain⟨f,h⟩:=h
   cases a<;>simp only at h ⊢ <;>first|exact h.elim|exact⟨_,⟨f,rfl⟩,h⟩
  |false=>
   rw[d]at h;simp only at h ⊢;rw[aD]at h;obtain⟨ab,b,g⟩:=aui h.2;exact⟨ab,aD.2 ⟨h.1,b⟩,g⟩
 ·cases e:t.d<;>rw[e]at h<;>simp only at h ⊢ <;>try exact h.elim
  cases a<;>simp only at h ⊢ <;>first|exact h.elim|exact⟨_,rfl,h⟩
 ·cases a<;>simp only at h ⊢ <;>first|exact h.elim|exact⟨_,rfl,h⟩|exact⟨_,⟨h.1,rfl⟩,h.2⟩
 ·rw[aD]at h;obtain⟨b,c⟩:=h
  cases a<;>simp only at c ⊢ <;>first|exact c.elim|exact⟨_,aD.2 ⟨b,rfl⟩,c⟩
theorem aC2{a:UnOp}{x:J}{K:J→Prop}(h:yy a x K): ∃ab,yy a x (fun z=>z=ab)∧K ab:=by
 cases a<;>cases x<;>simp only[yy]at h ⊢ <;>first|exact h.elim|exact⟨_,rfl,h⟩
theorem axN{H:Heap}{x:J}{K:J→Prop}(h:pk H x K): ∃ab,pk H x (fun z=>z=ab)∧K ab:=by
 cases x<;>simp only[pk]at h ⊢ <;>try first|exact h.elim|exact⟨_,rfl,h⟩
 split at h
 ·exact⟨_,⟨h.1,rfl⟩,h.2⟩
 ·exact h.elim
theorem ay1{H:Heap}{x:J}{K:J→Prop}(h:sN H x K): ∃ab,sN H x (fun z=>z=ab)∧K ab:=by
 cases x<;>simp only[sN]at h ⊢ <;>try first|exact h.elim|exact⟨_,rfl,h⟩
 split at h
 ·exact⟨_,⟨h.1,rfl⟩,h.2⟩
 ·exact h.elim
theorem Xi{c:List (Nat×Nat)}{d:List J}{K:List J→Prop} : ∀(b:List (Nat×Operand)) (cs:List J),mV c d b cs K→ ∃a,mV c d b cs (fun z=>z=a)∧K a
 |[],cs,h=>⟨cs,rfl,h⟩
 |(i,x)::b,cs,h=>by
  simp only[mV]at h ⊢
  cases e:c[i]? with
  |none=>rw[e]at h;exact h.elim
  |some q=>
   rw[e]at h;simp only at h ⊢;rw[aD]at h;obtain⟨a,f,g⟩:=Xi b _ h.2;exact⟨a,aD.2 ⟨h.1,f⟩,g⟩
theorem YT{H:Heap}{x:J}{K:J→Prop}(h:iv H x K): ∃y,iv H x (fun z=>z=y)∧K y:=by
 cases x<;>simp only[iv]at h ⊢ <;>try first|exact⟨_,rfl,h⟩|exact⟨_,aD.2 ⟨(aD.1 h).1,rfl⟩,(aD.1 h).2⟩
 split at h
 ·exact⟨_,⟨h.1,rfl⟩,h.2⟩
 ·exact h.elim
theorem PG{H:Heap} : ∀{cs:List J} {K:List J→Prop},lH H cs K→ ∃a,lH H cs (fun z=>z=a)∧K a
 |[],_,h=>⟨[],rfl,h⟩
 |c::cs,K,h=>by
  obtain⟨y,b,d⟩:=YT h;obtain⟨a,e,f⟩:=PG d;exact⟨y::a,PA (fun z g=>by subst g;exact vS (fun j i=>by rw[i]) e) b,f⟩
theorem PH{H:Heap} : ∀{b:List (List J)} {K:List (List J)→Prop},m1 H b K→ ∃a,m1 H b (fun z=>z=a)∧K a
 |[],_,h=>⟨[],rfl,h⟩
 |c::cs,K,h=>by
  obtain⟨y,d,e⟩:=PG h;obtain⟨a,f,g⟩:=PH e;exact⟨y::a,vS (fun z i=>by subst i;exact Ht (fun k j=>by rw[j]) f) d,g⟩
theorem apj{H:Heap}{x:J}{K:J→Prop}(h:ku H x K): ∃y,ku H x (fun z=>z=y)∧K y:=by
 cases x
 case agg cs=>
  obtain⟨a,b,c⟩:=PG (K:=fun a=>K (.agg a)) h;exact⟨.agg a,vS (eI:=fun z=>J.agg z= .agg a) (fun z d=>by rw[d]) b,c⟩
 all_goals
  simp only[ku]at h ⊢;exact YT h
theorem YX{H:Heap} : ∀{cs:List J} {K:List J→Prop},mh H cs K→ ∃a,mh H cs (fun z=>z=a)∧K a
 |[],_,h=>⟨[],rfl,h⟩
 |c::cs,K,h=>by
  obtain⟨y,b,d⟩:=apj h;obtain⟨a,e,f⟩:=YX d;exact⟨y::a,PB (fun z g=>by subst g;exact CK (fun j i=>by rw[i]) e) b,f⟩
theorem aBa{aA:Nat}{r:J}{a:bX}{K:J→bX→Prop}(h:sU aA r a K): ∃ab b,sU aA r a (fun x y=>x=ab∧y=b)∧K ab b:=by
 cases r<;>exact⟨_,_,⟨rfl,rfl⟩,h⟩
theorem anf{H:Heap}{aA:Nat}{f:FuncId}{c:List J}{K:J→bX→Prop}(h:tr E H aA f c K): ∃ab ws,tr E H aA f c (fun x y=>x=ab∧y=ws)∧K ab ws:=by
 obtain⟨l,d,a⟩:=YX h
 cases b:E.spec f l with
 |none=>rw[b]at a;exact a.elim
 |some q=>
  obtain⟨m,r⟩:=q;rw[b]at a;obtain⟨e,g⟩:=pt.1 a;obtain⟨ab,ws,i,j⟩:=aBa g;refine⟨ab,ws,CK (fun z k=> ?_) d,j⟩;subst k;rw[b];exact pt.2 ⟨e,i⟩
theorem B_{a:List J}{d:Int}{o:Option Operand}{K:Int→Prop}(h:cL a d o K): ∃z,cL a d o (fun y=>y=z)∧K z:=by
 cases o with
 |none=>exact⟨_,rfl,h⟩
 |some x=>
  simp only[cL]at h ⊢
  cases e:aC a x<;>rw[e]at h<;>simp only at h ⊢ <;>first|exact h.elim|exact⟨_,rfl,h⟩
theorem OG{d:List J}{f g:Int}{l aZ m:Option Operand}{C:Int→Int→Int→Prop}{A:Int→Int→Int→J}{ws:bX}{K:J→bX→Prop}(h:cL d f l fun b=>cL d g aZ fun a=>cL d a m fun c=>C b a c∧K (A b a c) ws):
  ∃ab,(cL d f l fun b=>cL d g aZ fun a=>cL d a m fun c=>C b a c∧(A b a c=ab∧ws=ws))∧K ab ws:=by
 obtain⟨b,i,h⟩:=B_ h;obtain⟨a,j,h⟩:=B_ h;obtain⟨c,k,h⟩:=B_ h;refine⟨A b a c,tp (fun z e=> ?_) i,h.2⟩;subst e;refine tp (fun z e=> ?_) j;subst e;refine tp (fun z e=> ?_) k;subst e;exact⟨h.1,rfl,rfl⟩
theorem aBM{t:bB}{H:Heap}{u:List J}{x:J}{l aZ m:Option Operand}{K:J→bX→Prop}(h:q3 t H u x l aZ m K): ∃ab ws,q3 t H u x l aZ m (fun p q=>p=ab∧q=ws)∧K ab ws:=by
 unfold q3 at h ⊢;rw[aD]at h;obtain⟨j,h⟩:=h
 cases v:t.d<;>rw[v]at h<;>simp only at h<;>try exact h.elim
 ·cases x<;>simp only at h ⊢ <;>try exact h.elim
  cases m with
  |some _=>exact h.elim
  |none=>
   obtain⟨d,a,h⟩:=B_ h;obtain⟨o,c,h⟩:=B_ h;refine⟨_,[],aD.2 ⟨j,tp (fun z s=> ?_) a⟩,h.2⟩;subst s;refine tp (fun z s=> ?_) c;subst s;exact⟨h.1,rfl,rfl⟩
 ·cases x<;>simp only at h ⊢ <;>try exact h.elim
  ·obtain⟨ab,a,c⟩:=OG (A:=fun _ _ _=>J.aE) h;exact⟨ab,[],aD.2 ⟨j,a⟩,c⟩
  ·rename_i g n f;rw[aD]at h;obtain⟨r,h⟩:=h;obtain⟨ab,a,c⟩:=OG (A:=fun d o _=>sR (kr m g) g (o-d).toNat (fun i=>f (d.toNat+i))) h;exact⟨ab,[],aD.2 ⟨j,aD.2 ⟨r,a⟩⟩,c⟩
  ·rename_i b k
   cases e:I H b 0<;>rw[e]at h<;>simp only at h ⊢ <;>try exact h.elim
   rename_i y g n f;obtain⟨r,w,h⟩:=aD.1 h;obtain⟨ab,a,c⟩:=OG (A:=fun d o _=>sR (kr m g) g (o-d).toNat (fun i=>f (d.toNat+i))) h;exact⟨ab,_,aD.2 ⟨j,aD.2 ⟨r,w,a⟩⟩,c⟩
theorem anH{t u:bB}{c:Option bB}{H:Heap}{x:J}{K:J→Prop}(h:rI t u c H x K): ∃ab,rI t u c H x (fun z=>z=ab)∧K ab:=by
 cases x<;>simp only[rI]at h ⊢ <;>try exact h.elim
 ·cases b:u.d<;>rw[b]at h<;>simp only at h ⊢ <;>try exact h.elim
  cases a:t.d<;>rw[a]at h<;>simp only at h ⊢ <;>first|exact h.elim|exact⟨_,rfl,h⟩
 ·cases a:t.d<;>rw[a]at h<;>simp only at h ⊢ <;>try exact h.elim
  cases b:u.d<;>rw[b]at h<;>simp only at h ⊢ <;>first|exact⟨_,rfl,h⟩|exact⟨_,aD.2 ⟨(aD.1 h).1,rfl⟩,(aD.1 h).2⟩
 ·exact⟨_,aD.2 ⟨(aD.1 h).1,rfl⟩,(aD.1 h).2⟩
 ·exact⟨_,aD.2 ⟨(aD.1 h).1,(aD.1 h).2.1,rfl⟩,(aD.1 h).2.2⟩
 ·split at h
  ·exact⟨_,aD.2 ⟨(aD.1 h).1,(aD.1 h).2.1,(aD.1 h).2.2.1,rfl⟩,(aD.1 h).2.2.2⟩
  ·exact h.elim
theorem aBT{H:Heap}{d:Bool}{c:Nat}{y:J}{K:Nat→(Nat→List J)→Prop}(h:mM H d c y K): ∃m g,mM H d c y (fun a b=>a=m∧b=g)∧K m g:=by
 cases y<;>simp only[mM]at h ⊢ <;>try exact h.elim
 ·exact⟨_,_,aD.2 ⟨(aD.1 h).1,rfl,rfl⟩,(aD.1 h).2⟩
 ·exact⟨_,_,aD.2 ⟨(aD.1 h).1,rfl,rfl⟩,(aD.1 h).2⟩
 ·exact⟨_,_,aD.2 ⟨(aD.1 h).1,rfl,rfl⟩,(aD.1 h).2⟩
 ·split at h
  ·exact⟨_,_,aD.2 ⟨(aD.1 h).1,(aD.1 h).2.1,rfl,rfl⟩,(aD.1 h).2.2⟩
  ·exact h.elim
theorem amO{t:bB}{r:Bool}{H:Heap}{aA:Nat}{x y:J}{K:J→bX→Prop}(h:nR t r H aA x y K): ∃ab ws,nR t r H aA x y (fun p q=>p=ab∧q=ws)∧K ab ws:=by
 unfold nR at h ⊢
 cases s:t.d<;>rw[s]at h<;>simp only at h ⊢ <;>try exact h.elim
 rw[aD]at h;obtain⟨n,h⟩:=h;obtain⟨m,g,u,c⟩:=aBT h;clear h;have d: ∀{Z:Nat→(Nat→List J)→Prop},Z m g→mM H r _ y Z:=fun v=>ahS (fun _ _ _=>rfl) (fun a b w=>by obtain⟨rfl,rfl⟩:=w;exact v) u
 cases x<;>simp only at c ⊢ <;>try exact c.elim
 ·exact⟨_,_,aD.2 ⟨n,d ⟨c.1,rfl,rfl⟩⟩,c.2⟩
 ·rename_i b k
  cases e:I H b 0<;>rw[e]at c<;>simp only at c ⊢ <;>try exact c.elim
  obtain⟨o,f,i,aZ,l,j⟩:=aD.1 c;exact⟨_,_,aD.2 ⟨n,d (aD.2 ⟨o,f,i,aZ,l,rfl,rfl⟩)⟩,j⟩
 ·obtain⟨o,f,i,aZ,l,j⟩:=aD.1 c;exact⟨_,_,aD.2 ⟨n,d (aD.2 ⟨o,f,i,aZ,l,rfl,rfl⟩)⟩,j⟩
theorem am7{t:bB}{b:List J}{H:Heap}{aA c:Nat}{a:List (Nat×Operand)}{K:J→bX→Prop}(h:pW t b H aA c a K): ∃ab ws,pW t b H aA c a (fun p q=>p=ab∧q=ws)∧K ab ws:=by
 unfold pW at h ⊢
 cases d:t.d<;>rw[d]at h<;>simp only at h ⊢ <;>try exact h.elim
 rename_i e f o
 cases m:kM f b a 0<;>rw[m]at h<;>simp only at h ⊢
 obtain⟨g,i⟩:=aD.1 h;obtain⟨r,j,aZ,k,l⟩:=PH i;exact⟨_,_,aD.2 ⟨g,Ht (fun z n=>by subst n;exact⟨aZ,k,rfl,rfl⟩) j⟩,l⟩
theorem ayn{x y:J}{K:J→Prop}(h:x3 x y K): ∃ab,x3 x y (fun z=>z=ab)∧K ab:=by
 cases x<;>cases y<;>simp only[x3]at h ⊢ <;>try exact h.elim
 exact⟨_,aD.2 ⟨(aD.1 h).1,rfl⟩,(aD.1 h).2⟩
theorem ayi{x y:J}{K:J→Prop}(h:x2 x y K): ∃ab,x2 x y (fun z=>z=ab)∧K ab:=by
 cases x<;>cases y<;>simp only[x2]at h ⊢ <;>try exact h.elim
 exact⟨_,aD.2 ⟨(aD.1 h).1,rfl⟩,(aD.1 h).2⟩
theorem amK{aA:Nat}{o:List J}{H:Heap}{u:Op}{K:J→bX→Prop}(a:h2 E aA o H u K): ∃ab ws,h2 E aA o H u (fun x y=>x=ab∧y=ws)∧K ab ws:=by
 have q: ∀{p:(J→Prop)→Prop},(∃ab,p (fun z=>z=ab)∧K ab [])→(∀ab,p (fun z=>z=ab)→p (fun z=>z=ab∧([]:bX)=[]))→ ∃ab ws,p (fun x=>x=ab∧([]:bX)=ws)∧K ab ws:=fun⟨ab,j,n⟩ P=>⟨ab,[],P ab j,n⟩;have e: ∀ab:J,(fun z=>z=ab∧([]:bX)=[])=(fun z=>z=ab):=fun ab=>by funext z;simp
 cases u<;>simp only[h2]at a ⊢ <;>try exact a.elim
 case move x=>exact⟨_,_,⟨rfl,rfl⟩,a⟩
 case assign x=>exact⟨_,_,⟨rfl,rfl⟩,a⟩
 case pick c x y=>
  cases s:aC o c<;>rw[s]at a<;>simp only at a ⊢ <;>try exact a.elim
  ·exact q (agM a) fun ab h=>by rw[e];exact h
  ·exact q (agM a) fun ab h=>by rw[e];exact h
 case alloc T=>
  unfold dz at a ⊢
  cases d:E.ty T<;>rw[d]at a<;>simp only at a ⊢
  rw[aD]at a;exact⟨_,_,aD.2 ⟨a.1,rfl,rfl⟩,a.2⟩
 case box T x=>
  rw[aD]at a;exact⟨_,_,aD.2 ⟨a.1,rfl,rfl⟩,a.2⟩
 case build T Q=>
  unfold dz at a ⊢
  cases d:E.ty T<;>rw[d]at a<;>simp only at a ⊢
  rename_i t
  cases N:t.d<;>rw[N]at a<;>simp only at a ⊢ <;>try exact a.elim
  obtain⟨I,j,n⟩:=Xi _ _ a;refine⟨.agg I,[],?_,n⟩;simpa using j
 case load T x=>
  unfold dz at a ⊢
  cases d:E.ty T<;>rw[d]at a<;>simp only at a ⊢
  exact q (axX a) fun ab h=>by rw[e];exact h
 case store T x y=>
  unfold dz at a ⊢
  cases d:E.ty T<;>rw[d]at a<;>simp only at a ⊢
  obtain⟨ws,j,n⟩:=aB1 a;exact⟨.undef,ws,by simpa using j,n⟩
 case nilCheck x=>exact q (ay1 a) fun ab h=>by rw[e];exact h
 case binOp u T x y R=>
  unfold dz at a ⊢
  cases d:E.ty T<;>rw[d]at a<;>simp only at a ⊢
  exact q (amY a) fun ab h=>by rw[e];exact h
 case unOp u T x=>exact q (aC2 a) fun ab h=>by rw[e];exact h
 case fieldAddr T x f=>
  unfold dz at a ⊢
  cases d:E.ty T<;>rw[d]at a<;>simp only at a ⊢
  exact q (aoZ a) fun ab h=>by rw[e];exact h
 case indexAddr T x y=>
  unfold dz at a ⊢
  cases d:E.ty T<;>rw[d]at a<;>simp only at a ⊢
  exact q (at7 a) fun ab h=>by rw[e];exact h
 case index T x y=>
  unfold dz at a ⊢
  cases d:E.ty T<;>rw[d]at a<;>simp only at a ⊢
  exact q (atZ a) fun ab h=>by rw[e];exact h
 case extract x i=>
  cases v:aC o x<;>rw[v]at a<;>simp only[zj]at a ⊢ <;>try exact a.elim
  rw[aD]at a;exact⟨_,_,aD.2 ⟨a.1,rfl,rfl⟩,a.2⟩
 case buildSlice T len Q=>
  unfold dz at a ⊢
  cases d:E.ty T<;>rw[d]at a<;>simp only at a ⊢
  exact am7 a
 case makeSlice T l c=>
  unfold dz at a ⊢
  cases d:E.ty T<;>rw[d]at a<;>simp only at a ⊢
  exact ayc a
 case slice T x l aZ m=>
  unfold dz at a ⊢
  cases d:E.ty T<;>rw[d]at a<;>simp only at a ⊢
  exact aBM a
 case makeFunc O first S=>
  cases hi:O<;>rw[hi]at a<;>simp only at a ⊢ <;>try exact a.elim
  obtain⟨j,n⟩:=aD.1 a;exact⟨_,_,aD.2 ⟨j,rfl,rfl⟩,n⟩
 case convert F D x=>
  unfold dz at a ⊢
  cases d:E.ty F<;>rw[d]at a<;>simp only at a ⊢
  cases M:E.ty D<;>rw[M]at a<;>simp only at a ⊢
  exact q (anH a) fun ab h=>by rw[e];exact h
 case call c=>
  cases s:c.callee with
  |value f=>
   rw[s]at a;simp only at a ⊢;unfold yY at a ⊢
   cases hi:aC o f<;>rw[hi]at a<;>simp only at a ⊢ <;>try exact a.elim
   rename_i g G
   cases B:xB E.eh g (c.args.toList.map (aC o)++G)with
   |true=>
    rw[B]at a;exact ast a
   |false=>
    rw[B]at a;obtain⟨j,n⟩:=aD.1 a;obtain⟨ab,ws,w,A⟩:=anf n;exact⟨ab,ws,aD.2 ⟨j,w⟩,A⟩
  |invoke r m=>rw[s]at a;exact a.elim
  |builtin b=>
   rw[s]at a
   cases b<;>simp only at a ⊢ <;>try exact a.elim
   case append=>
    split at a
    ·unfold dz at a ⊢;rename_i x y T C v d
     cases d:E.ty T<;>rw[d]at a<;>simp only at a ⊢
     cases L:E.ty C<;>rw[L]at a<;>simp only at a ⊢
     obtain⟨j,n⟩:=aD.1 a;obtain⟨ab,ws,w,A⟩:=amO n;exact⟨ab,ws,aD.2 ⟨j,w⟩,A⟩
    ·exact a.elim
   case min=>
    split at a
    ·exact q (ayn a) fun ab h=>by rw[e];exact h
    ·exact a.elim
   case max=>
    split at a
    ·exact q (ayi a) fun ab h=>by rw[e];exact h
    ·exact a.elim
   case len=>
    split at a
    ·unfold dz at a ⊢;rename_i x T v d
     cases d:E.ty T<;>rw[d]at a<;>simp only at a ⊢
     rw[aD]at a;exact q (p:=fun k=>c2 (Fk _ _) (pk H (aC o x) k)) (by obtain⟨ab,j,n⟩:=axN a.2;exact⟨ab,aD.2 ⟨a.1,j⟩,n⟩) fun ab h=>by rw[e];exact h
    ·exact a.elim
end
structure VU (E:Env) (ops:Array Oper) (o:Oper) (st:D) (r:Rec):Prop where
 wanted:q6 ops o st.n=some r.run
 yes:r.run=true→(∃ab,h2 E r.aA st.n st.k o.op (fun x y=>x=ab∧y=r.ws)∧Gz ab r.val)∧r.rd=kf E st.n o.op∧r.g8=pv st.n st.k o.op∧st.k.length≤r.aA
 no:r.run=false→r.val= .gone∧r.ws=[]
inductive tf (E:Env) (ops:Array Oper):List Oper→D→List Rec→D→Prop
 |nil (st:D):tf E ops [] st [] st
 |cons (o:Oper) (l:List Oper) (st:D) (r:Rec) (rs:List Rec) (kg:D) (h:VU E ops o st r) (k:tf E ops l (hh o r st) rs kg):tf E ops (o::l) st (r::rs) kg
def rC(E:Env)(ops:Array Oper):List Oper→Nat→D→List Rec→(List Rec→D→Prop)→Prop
 |[],_,st,rs,K=>K rs.reverse st
 |o::a,i,st,rs,K=>uz ops o st (∃aA,st.k.length≤aA∧h2 E aA st.n st.k o.op fun ab b=>AV (Gd a i) ab fun ab=>rC E ops a (i+1) ⟨jY o.dst ab st.n,bt st.k b⟩ (⟨ab,b,kf E st.n o.op,pv st.n st.k o.op,aA,true⟩::rs) K)
   (rC E ops a (i+1) ⟨jY o.dst .gone st.n,st.k⟩ (⟨.gone,[],[],[],0,false⟩::rs) K)
theorem Ov{E:Env}{ops:Array Oper} : ∀(l:List Oper) (i:Nat) (st:D) (acc:List Rec) (K:List Rec→D→Prop),rC E ops l i st acc K→
  ∃rs a,tf E ops l st rs a∧K (acc.reverse++rs) a
 |[],_,st,acc,K,h=>⟨[],st,.nil st,by simpa[rC]using h⟩
 |o::l,i,st,acc,K,h=>by
  rcases adt h with⟨g,b⟩|⟨g,b⟩
  ·obtain⟨aA,m,b⟩:=b;obtain⟨ab,n,j,c⟩:=amK b;obtain⟨r,k,c⟩:=afJ c;obtain⟨rs,a,d,f⟩:=Ov l _ _ _ K c;refine⟨_::rs,a,.cons o l st ⟨r,n,kf E st.n o.op,pv st.n st.k o.op,aA,true⟩ rs a ⟨g,fun _=>⟨⟨ab,j,k⟩,rfl,rfl,m⟩,(fun e=>by cases e)⟩ d,by simpa using f⟩
  ·obtain⟨rs,a,d,f⟩:=Ov l _ _ _ K b;refine⟨_::rs,a,.cons o l st ⟨.gone,[],[],[],0,false⟩ rs a ⟨g,(fun e=>by cases e),fun _=>⟨rfl,rfl⟩⟩ d,by simpa using f⟩
def acc(L:Nat→Bool):List (Oper×Rec)→Nat→D→D
 |[],_,st=>st
 |(o,r)::l,i,st=>acc L l (i+1) (cond (L i) (hh o r st) st)
def writes(a:bX)(b p:Nat):Prop:= ∃c,(b,p,c)∈a
theorem KG: ∀(a:bX) (H:Heap) (b p:Nat),¬writes a b p→I (bt H a) b p=I H b p
 |[],_,_,_,_=>rfl
 |(f,g,c)::a,H,b,p,h=>by
  rw[bt,KG a _ b p (fun⟨d,e⟩=>h ⟨d,by simp [e]⟩),eK,bH]
  rintro⟨rfl,rfl⟩
  exact h ⟨c,by simp⟩
theorem SH: ∀(a:bX) (H al:Heap) (b p:Nat),(writes a b p∨I al b p=I H b p)→I (bt al a) b p=I (bt H a) b p
 |[],_,_,_,_,h=>h.elim (fun⟨_,h⟩=>by cases h) id
 |(g,j,c)::a,H,al,b,p,h=>by
  rw[bt,bt];refine SH a _ _ b p ?_
  by_cases f:writes a b p
  ·exact .inl f
  ·refine .inr ?_;rw[eK,eK]
   by_cases e:b=g∧p=j
   ·rw[bF e,bF e]
   ·rw[bH e,bH e];rcases h with⟨i,d⟩|h
    ·rcases hf.1 d with d|d
     ·cases d;exact absurd ⟨rfl,rfl⟩ e
     ·exact absurd ⟨i,d⟩ f
    ·exact h
theorem Tp: ∀(d:bX) (H:Heap),H.length≤(bt H d).length∧ ∀b p,writes d b p→b<(bt H d).length
 |[],_=>⟨bx _,fun _ _ ⟨_,h⟩=>by cases h⟩
 |(b,p,c)::d,H=>by
  have f:=uO H b p c;have e:=Tp d (bs H b p c);refine⟨fg f.1 e.1,fun g j ⟨i,a⟩=> ?_⟩;rcases hf.1 a with a|a
  ·cases a;exact gG f.2 e.1
  ·exact e.2 g j ⟨i,a⟩
theorem Cz(d:Option Nat)(ab:J)(a:List J)(t:Nat):(jY d ab a)[t]? =if d=some t then(a[t]?).map (fun _=>ab)else a[t]? :=by
 cases d with
 |none=>simp [jY]
 |some d=>
  simp only[jY,s9,hd]
  by_cases e:d=t
  ·subst e;simp only[kT]
   split
   ·rename_i h;simp [cT h]
   ·rename_i h;rw[e0 (by omega)];rfl
  ·simp [e]
theorem GH{L b:Nat→Bool}{t:Nat} : ∀(l:List (Oper×Rec)) (k:Nat) (st a:D),(st.n[t]? =a.n[t]?)→(∀(i:Nat) o r,l[i]? =some (o,r)→o.dst=some t→L (k+i)=b (k+i))→(acc L l k st).n[t]? =(acc b l k a).n[t]?
 |[],_,_,_,h,_=>h
 |(o,r)::l,k,st,a,h,c=>by
  rw[acc,acc];refine GH l (k+1) _ _ ?_ fun i m n j g=>by
   have:=c (i+1) m n (by simpa using j) g;rwa [show k+(i+1)=k+1+i by omega]at this
  by_cases e:o.dst=some t
  ·have:=c 0 o r rfl e;rw[lA]at this;rw[this]
   cases b k
   ·exact h
   ·simp only[aN,hh,Cz,e,kT,h]
  ·have d:(hh o r st).n[t]? =st.n[t]? :=by simp [hh,Cz,e]
   have f:(hh o r a).n[t]? =a.n[t]? :=by simp [hh,Cz,e]
   cases L k<;>cases b k<;>simp only[aN,aQ,d,f,h]
theorem BX{L c:Nat→Bool}{b p:Nat} : ∀(l:List (Oper×Rec)) (k:Nat) (st a:D),(I st.k b p=I a.k b p)→(∀(i:Nat) o r,l[i]? =some (o,r)→writes r.ws b p→L (k+i)=c (k+i))→I (acc L l k st).k b p=I (acc c l k a).k b p
 |[],_,_,_,h,_=>h
 |(o,r)::l,k,st,a,h,d=>by
  rw[acc,acc];refine BX l (k+1) _ _ ?_ fun i n q m j=>by
   have:=d (i+1) n q (by simpa using m) j;rwa [show k+(i+1)=k+1+i by omega]at this
  by_cases e:writes r.ws b p
  ·have:=d 0 o r rfl e;rw[lA]at this;rw[this]
   cases c k
   ·exact h
   ·simp only[aN,hh];exact SH r.ws a.k st.k b p (.inl e)
  ·have f:I (hh o r st).k b p=I st.k b p:=KG _ _ _ _ e;have g:I (hh o r a).k b p=I a.k b p:=KG _ _ _ _ e
   cases L k<;>cases c k<;>simp only[aN,aQ,f,g,h]
theorem atN{a:bX}{b:Nat} : ∀{H:Heap},(∀p,¬writes a b p)→(bt H a).getD b []=H.getD b []:=by
 induction a with
 |nil=>intro H _;rfl
 |cons q a g=>
  obtain⟨j,i,c⟩:=q;intro H h;rw[bt,g fun p ⟨d,f⟩=>h p ⟨d,by simp [f]⟩];unfold bs;rw[o_,bH];intro e;exact h i ⟨c,by simp [e]⟩
theorem aek{b:Nat} : ∀{a:bX} {H al:Heap},H.getD b []=al.getD b []→(bt H a).getD b []=(bt al a).getD b []
 |[],_,_,h=>h
 |(d,f,c)::a,H,al,h=>by
  rw[bt,bt];refine aek ?_;unfold bs;rw[o_,o_]
  by_cases e:b=d
  ·subst e;rw[bF rfl,bF rfl,h]
  ·rw[bH e,bH e];exact h
theorem Wv{L a:Nat→Bool}{b:Nat} : ∀(l:List (Oper×Rec)) (k:Nat) (st c:D),(st.k.getD b []=c.k.getD b [])→(∀(i:Nat) o r,l[i]? =some (o,r)→(∃p,writes r.ws b p)→L (k+i)=a (k+i))→
  (acc L l k st).k.getD b []=(acc a l k c).k.getD b []
 |[],_,_,_,h,_=>h
 |(o,r)::l,k,st,c,h,f=>by
  rw[acc,acc];refine Wv l (k+1) _ _ ?_ (fun i q s m j=>by
   have:=f (i+1) q s (by simpa using m) j;rwa [show k+(i+1)=k+1+i by omega]at this)
  by_cases e: ∃p,writes r.ws b p
  ·have d:=f 0 o r rfl e;rw[lA]at d;rw[d]
   cases a k
   ·exact h
   ·exact aek h
  ·have g: ∀st:D,(hh o r st).k.getD b []=st.k.getD b []:=fun st=>atN fun p n=>e ⟨p,n⟩
   cases L k<;>cases a k<;>simp only[aN,aQ,g,h]
theorem BY{L:Nat→Bool} : ∀(l:List (Oper×Rec)) (k:Nat) (st:D),(acc L l k st).n.length=st.n.length∧st.k.length≤(acc L l k st).k.length∧
  ∀(i:Nat) o r,l[i]? =some (o,r)→L (k+i)=true→ ∀b p,writes r.ws b p→b<(acc L l k st).k.length
 |[],_,_=>⟨rfl,bx _,fun i o r h=>by simp at h⟩
 |(o,r)::l,k,st=>by
  obtain⟨g,c,j⟩:=BY (L:=L) l (k+1) (cond (L k) (hh o r st) st);have e:(cond (L k) (hh o r st) st).n.length=st.n.length∧st.k.length≤(cond (L k) (hh o r st) st).k.length:=by
   cases L k
   ·exact⟨rfl,bx _⟩
   ·refine⟨?_,(Tp _ _).1⟩;simp only[aN,hh]
    cases o.dst<;>simp [jY]
  refine⟨by rw[acc,g,e.1],by rw[acc];exact fg e.2 c,fun i m n a d b p f=> ?_⟩;rw[acc]
  cases i with
  |zero=>
   simp at a;obtain⟨rfl,rfl⟩:=a;rw[lA]at d;refine gG ?_ c;rw[d];exact(Tp _ _).2 b p f
  |succ i=>exact j i m n (by simpa using a) (by rwa [show k+1+i=k+(i+1) by omega]) b p f
theorem BW{L:Nat→Bool} : ∀(l:List (Oper×Rec)) (k:Nat) (st:D),(∀i,k≤i→L i=false)→acc L l k st=st
 |[],_,_,_=>rfl
 |(o,r)::l,k,st,h=>by
  rw[acc,h k (bx _)];exact BW l (k+1) st fun i a=>h i (by omega)
theorem tf.at{E:Env}{ops:Array Oper}{l:List Oper}{st b:D}{rs:List Rec}(h:tf E ops l st rs b): ∀k,l.length=rs.length∧b=acc (fun _=>true) (l.zip rs) k st∧
  ∀(j:Nat) o r,(l.zip rs)[j]? =some (o,r)→VU E ops o (acc (fun i=>decide (i<k+j)) (l.zip rs) k st) r:=by
 induction h with
 |nil st=>exact fun k=>⟨rfl,rfl,fun j o r h=>by simp at h⟩
 |cons o l st r rs b h k m=>
  intro n;obtain⟨c,d,e⟩:=m (n+1);refine⟨by simp [c],?_,fun j p q a=> ?_⟩
  ·rw[d];rfl
  ·cases j with
   |zero=>
    simp at a;obtain⟨rfl,rfl⟩:=a;rw[BW _ _ _ (fun i g=>by simpa using g)];exact h
   |succ j=>
    have:=e j p q (by simpa using a);rw[List.zip_cons_cons,acc];have f:decide (n<n+(j+1))=true:=by simp
    rw[f];rw[show n+(j+1)=n+1+j by omega];exact this
def Fo(a:List Edge)(acc:List Nat):Nat:=a.foldl (fun m e=>if Region.binds .any e then m|||2^e.on|||acc.getD e.on 0 else m) 0
def A0:List Oper→List Nat→List Nat
 |[],acc=>acc
 |o::r,acc=>A0 r (acc++[Fo o.after.toList acc])
def G8(a b:List (Nat×Nat)):Bool:=a.all fun x=> !b.contains x
def q7(a:bX):List (Nat×Nat):=a.map fun x=>(x.1,x.2.1)
def Fw(b:Nat)(l:List (Nat×Nat)):Bool:=l.all fun x=>x.1 !=b
def sM(r:Rec):List Nat:=r.aA::(r.ws.map (·.1)).filter (Nat.blt r.aA)
theorem ayX{r:Rec}{b:Nat}(h:b∈sM r):r.aA≤b:=by
 simp only[sM,hf,Gf,fU]at h;omega
theorem ayY{r:Rec}{b p:Nat}{c:J}(h:(b,p,c)∈r.ws)(a:r.aA<b):b∈sM r:=by
 simp only[sM,hf,Gf,fU,pJ];exact .inr ⟨⟨_,h,rfl⟩,a⟩
def aex(b o:Nat)(c:J):Bool:=
 match c with
 | .ptr a d=>Nat.beq a b&&Nat.beq d o
 |_=>false
def Lx(H:Heap)(rs:List Rec)(b p:Nat):Bool:=
 match I H b p with
 | .ptr a c=>rs.all fun r=>r.ws.all fun x=> !(Nat.beq x.1 b&&Nat.beq x.2.1 p)||aex a c x.2.2
 |_=>false
theorem agm{H:Heap}{rs:List Rec}{b p:Nat}(h:Lx H rs b p=true){r:Rec}(f:r∈rs){c:J}(d:(b,p,c)∈r.ws):c=I H b p:=by
 unfold Lx at h
 split at h<;>try (cases h;done)
 rename_i g i e;rw[e];have a:=dw.1 (dw.1 h r f) _ d;simp only[nK,Bool.and_self,Bool.not_true,Bool.false_or]at a;unfold aex at a
 split at a<;>try (cases a;done)
 rw[bY]at a;rw[dX a.1,dX a.2]
def LR(N:Nat→Nat→Bool)(l:List (Nat×Nat)):List (Nat×Nat):=l.filter fun x=> !(N x.1 x.2)
def Bd(N:Nat→Nat→Bool)(ops:Array Oper)(ms:List Nat)(i j:Nat)(d e:Oper)(a c:Rec):Bool:=
 (!(qH e.op)||(sM c).all fun b=>Fw b (q7 a.ws))&&
 ((ms.getD j 0).testBit i||
   (G8 (LR N (q7 a.ws)) c.rd&&G8 (LR N (q7 a.ws)) (q7 c.ws)&&G8 a.rd (LR N (q7 c.ws))&&(!(qH d.op&& !a.ws.isEmpty)||(sM a).all fun b=>Fw b (q7 c.ws))&&d.apart ops e&&c.g8.all (fun b=>Fw b (q7 a.ws))&&a.g8.all (fun b=>Fw b (q7 c.ws))))
def L2(N:Nat→Nat→Bool)(ops:Array Oper)(ms:List Nat)(a:Oper)(b:Rec)(i:Nat):List (Oper×Rec)→Nat→Bool
 |[],_=>true
 |(c,d)::l,j=>Bd N ops ms i j a c b d&&L2 N ops ms a b i l (j+1)
def GI(N:Nat→Nat→Bool)(ops:Array Oper)(ms:List Nat):List (Oper×Rec)→Nat→Bool
 |[],_=>true
 |(o,r)::l,i=>L2 N ops ms o r i l (i+1)&&GI N ops ms l (i+1)
def GQ:List Oper→Nat→Bool
 |[],_=>true
 |o::l,i=>o.after.all (fun e=> !Region.binds .any e||decide (e.on<i))&&GQ l (i+1)
def xA(N:Nat→Nat→Bool)(ops:Array Oper)(rs:List Rec):Bool:=GQ ops.toList 0&&GI N ops (A0 ops.toList []) (ops.toList.zip rs) 0
def indep(H:Heap)(ops:Array Oper)(rs:List Rec):Bool:=xA (Lx H rs) ops rs
def al9(N:Nat→Nat→Bool)(H:Heap)(rs:List Rec):Prop:= ∀b p,N b p=true→ ∀r∈rs,∀c,(b,p,c)∈r.ws→c=I H b p
def yP(H:Heap)(ops:Array Oper)(rs:List Rec):Prop:= ∃N,al9 N H rs∧xA N ops rs=true
theorem yP.of{H:Heap}{ops:Array Oper}{rs:List Rec}(h:indep H ops rs=true):yP H ops rs:=⟨_,fun _ _ a _ c _ b=>agm a c b,h⟩
def Wz(E:Env)(ops:Array Oper)(st:D)(K:D→Prop):Prop:=
 rC E ops ops.toList 0 st [] fun rs a=>yP st.k ops rs∧K a
theorem G9{a b:List (Nat×Nat)}(h:G8 a b=true): ∀x,x∈a→x∉b:=fun x d c=>by
 have:=dw.1 h x d;simp at this;exact this c
theorem LS{N:Nat→Nat→Bool}{l:List (Nat×Nat)}{b p:Nat}(h:(b,p)∈l)(a:N b p=false):(b,p)∈LR N l:=Gf.2 ⟨h,by simp [a]⟩
theorem po{a:bX}{b p:Nat} :(b,p)∈q7 a↔writes a b p:=by
 simp only[q7,pJ,writes];constructor
 ·rintro⟨⟨d,f,c⟩,h,e⟩
  simp only[s_]at e;obtain⟨rfl,rfl⟩:=e;exact⟨c,h⟩
 ·rintro⟨c,h⟩
  exact⟨(b,p,c),h,rfl⟩
theorem Fx{b:Nat}{l:List (Nat×Nat)}(h:Fw b l=true): ∀p,(b,p)∉l:=fun p a=>by
 have:=dw.1 h _ a;simp at this
theorem ahr{N:Nat→Nat→Bool}{ops:Array Oper}{ms:List Nat}{d:Oper}{e:Rec}{i:Nat} : ∀(l:List (Oper×Rec)) (k:Nat),L2 N ops ms d e i l k=true→ ∀(j:Nat) a b,l[j]? =some (a,b)→Bd N ops ms i (k+j) d a e b=true
 |[],_,_,j,a,b,h=>by simp at h
 |(o,r)::l,k,h,j,a,b,c=>by
  simp only[L2,bY]at h
  cases j with
  |zero=>simp at c;obtain⟨rfl,rfl⟩:=c;exact h.1
  |succ j=>
   have:=ahr l (k+1) h.2 j a b (by simpa using c);rwa [show k+1+j=k+(j+1) by omega]at this
theorem GJ{N:Nat→Nat→Bool}{ops:Array Oper}{ms:List Nat} : ∀(l:List (Oper×Rec)) (k:Nat),GI N ops ms l k=true→ ∀(i j:Nat) c d a b,i<j→l[i]? =some (c,d)→l[j]? =some (a,b)→Bd N ops ms (k+i) (k+j) c a d b=true
 |[],_,_,i,j,c,d,a,b,_,h,_=>by simp at h
 |(o,r)::l,k,h,i,j,c,d,a,b,m,e,f=>by
  simp only[GI,bY]at h;obtain⟨j,rfl⟩: ∃g,j=g+1:=⟨j-1,by omega⟩
  cases i with
  |zero=>
   simp at e;obtain⟨rfl,rfl⟩:=e;have:=ahr l (k+1) h.1 j a b (by simpa using f);rwa [show k+1+j=k+(j+1) by omega]at this
  |succ i=>
   have:=GJ l (k+1) h.2 i j c d a b (by omega) (by simpa using e) (by simpa using f);rwa [show k+1+i=k+(i+1) by omega,show k+1+j=k+(j+1) by omega]at this
theorem WW: ∀(l:List Oper) (k:Nat),GQ l k=true→ ∀(i:Nat) o,l[i]? =some o→ ∀e∈o.after,Region.binds .any e=true→e.on<k+i
 |[],_,_,i,o,h=>by simp at h
 |o::l,k,h,i,d,c=>by
  simp only[GQ,bY]at h
  cases i with
  |zero=>
   simp at c;subst c;intro e b a;have:=Array.all_eq_true_iff_forall_mem.1 h.1 e b;simpa[a]using this
  |succ i=>
   have:=WW l (k+1) h.2 i d (by simpa using c);intro e b a;have:=this e b a;omega
theorem afU{acc:List Nat}{i:Nat} : ∀(a:List Edge) (m:Nat),(a.foldl (fun m e=>if Region.binds .any e then m|||2^e.on|||acc.getD e.on 0 else m) m).testBit i=true→
  m.testBit i=true∨ ∃e∈a,Region.binds .any e=true∧(i=e.on∨(acc.getD e.on 0).testBit i=true)
 |[],m,h=> .inl h
 |e::a,m,h=>by
  simp only[Ge]at h;rcases afU a _ h with h|⟨c,d,b,f⟩
  ·split at h
   ·rename_i b;simp only[Nat.testBit_or,Gg]at h;rcases h with(h|h)|h
    ·exact .inl h
    ·refine .inr ⟨e,by simp,b,.inl ?_⟩;rw[Nat.testBit_two_pow]at h;exact(aq h).symm
    ·exact .inr ⟨e,by simp,b,.inr h⟩
   ·exact .inl h
  ·exact .inr ⟨c,by simp [d],b,f⟩
theorem afV{L:Nat→Prop} : ∀(l:List Oper) (done:List Oper) (acc:List Nat),acc.length=done.length→
  (∀(j:Nat) o,(done++l)[j]? =some o→L j→ ∀e∈o.after,Region.binds .any e=true→L e.on)→
  (∀(j:Nat) o i,done[j]? =some o→(acc.getD j 0).testBit i=true→(∀e∈o.after,Region.binds .any e=true→L e.on)→L i)→
  ∀(j:Nat) o i,(done++l)[j]? =some o→((A0 l acc).getD j 0).testBit i=true→(∀e∈o.after,Region.binds .any e=true→L e.on)→L i
 |[],done,acc,f,_,b=>by simpa[A0]using b
 |x::l,done,acc,f,m,b=>by
  have:=afV l (done++[x]) (acc++[Fo x.after.toList acc]) (by simp [f]) (by simpa using m) (fun j o i a c n=>by
   rcases fh j done.length with h|h
   ·rw[s7 h]at a;have:(acc++[Fo x.after.toList acc]).getD j 0=acc.getD j 0:=by simp [List.getD,s7 (by omega:j<acc.length)]
    rw[this]at c;exact b j o i a c n
   ·have u:j=done.length:=by
     rcases fh j (done.length+1)with g|g
     ·omega
     ·rw[e0 (by simpa using g)]at a;cases a
    subst u;simp at a;subst a;have:(acc++[Fo x.after.toList acc]).getD done.length 0=Fo x.after.toList acc:=by simp [List.getD,←f]
    rw[this]at c;rcases afU _ _ c with r|⟨e,s,t,d⟩
    ·simp at r
    ·have k:=n e (by simpa using s) t;rcases d with rfl|d
     ·exact k
     ·have q:e.on<done.length:=by
       rcases fh e.on acc.length with h|h
       ·omega
       ·simp [List.getD,e0 h]at d
      have p:done[e.on]? =some done[e.on]:=cT q;exact b e.on _ i p d (m e.on _ (by rw[s7 q];exact p) k))
  simpa[A0]using this
theorem anC(n:Nat)(p q:Nat→Bool)(i:Nat)(h:i<n)(b:p i=true)(c:q i=false)(a: ∀k,k≠i→q k=p k):((List.range n).filter p).length=((List.range n).filter q).length+1:=by
 induction n with
 |zero=>omega
 |succ n g=>
  rw[List.range_succ,Gt,Gt,iF,iF]
  by_cases e:i=n
  ·subst e;have:(List.range i).filter p=(List.range i).filter q:=by
    apply List.filter_congr;intro k f;exact(a k (by have:=vg.1 f;omega)).symm
   simp [this,b,c]
  ·have:=g (by omega);have d:=a n (by omega);simp only[List.filter_cons,List.filter_nil,d];omega
theorem Ww{L NA:Nat→Bool} : ∀(l:List (Oper×Rec)) (k:Nat) (st:D),(∀i,i<l.length→L (k+i)=NA (k+i))→acc L l k st=acc NA l k st
 |[],_,_,_=>rfl
 |(o,r)::l,k,st,h=>by
  rw[acc,acc];have a:=h 0 (by simp);rw[lA]at a;rw[a];exact Ww l (k+1) _ fun i b=>by have:=h (i+1) (by simp;omega);rwa [show k+(i+1)=k+1+i by omega]at this
theorem Wx: ∀(l:List (Oper×Rec)) (k j:Nat) (st:D) o r,l[j]? =some (o,r)→acc (fun i=>decide (i<k+j+1)) l k st=hh o r (acc (fun i=>decide (i<k+j)) l k st)
 |[],_,j,_,o,r,h=>by simp at h
 |(c,d)::l,k,0,st,o,r,h=>by
  simp at h;obtain⟨rfl,rfl⟩:=h;rw[acc,acc];have a:decide (k<k+0+1)=true:=by simp
  have b:decide (k<k+0)=false:=by simp
  rw[a,b,BW _ _ _ (fun i e=>by simp;omega),BW _ _ _ (fun i e=>by simp;omega)];rfl
 |(c,d)::l,k,j+1,st,o,r,h=>by
  rw[acc,acc];have a:decide (k<k+(j+1)+1)=true:=by simp;omega
  have b:decide (k<k+(j+1))=true:=by simp
  rw[a,b];have:=Wx l (k+1) j (hh c d st) o r (by simpa using h);simp only[aN];rw[show k+(j+1)=k+1+j by omega];exact this
theorem aoJ{a b:List J}{x:Operand}(h: ∀t,x= .tmp t→b[t]? =a[t]?):aC b x=aC a x:=by
 cases x with
 |tmp t=>simp only[aC,List.getD,h t rfl]
 |_=>rfl
theorem aDC{ops:Array Oper}{o:Oper}{n a:List J}(h: ∀t∈o.looksAt ops,a[t]? =n[t]?):q6 ops o a=q6 ops o n:=by
 unfold q6
 cases c:o.guard with
 |none=>rfl
 |some q=>
  obtain⟨j,e⟩:=q;simp only
  cases b:(ops[j]?).bind (·.dst)with
  |none=>rfl
  |some d=>
   simp only;have:=h d (by simp [Oper.looksAt,c,b]);simp only[List.getD,this]
theorem axZ{ops:Array Oper}{o:Oper}{t:Nat}(h: .tmp t∈o.op.operands):t∈o.looksAt ops:=by
 simp only[Oper.looksAt,hq,List.mem_filterMap];exact .inl ⟨.tmp t,by simpa using h,rfl⟩
section
variable {E:Env} {S:dR} {ops:Array Oper} {rs:List Rec} {cH:D} {i_:Nat→Option Nat}
structure VQ (N:Nat→Nat→Bool) (ops:Array Oper) (TS:Oper) (FZ:Rec) (ok:Oper) (uW:Rec):Prop where
 rd: ∀b p,N b p=false→writes uW.ws b p→(b,p)∉FZ.rd
 ws: ∀b p,N b p=false→writes uW.ws b p→ ¬writes FZ.ws b p
 look: ∀t,ok.dst=some t→t∉TS.looksAt ops
 dst: ∀t,ok.dst=some t→TS.dst≠some t
 g8: ∀b,b∈FZ.g8→ ∀p,¬writes uW.ws b p
 aA:qH TS.op=true→FZ.ws≠[]→ ∀b∈sM FZ,∀p,¬writes uW.ws b p
theorem aoR{N:Nat→Nat→Bool}(z:xA N ops rs=true){L:Nat→Bool}(H: ∀(j:Nat) o,ops[j]? =some o→L j=true→ ∀e∈o.after,Region.binds .any e=true→L e.on=true)
  {j k:Nat} {l ok:Oper} {m u:Rec} (A:(ops.toList.zip rs)[j]? =some (l,m)) (B:(ops.toList.zip rs)[k]? =some (ok,u)) (Q:k≠j) (O:L j=false)
  (V: ∀e∈l.after,Region.binds .any e=true→L e.on=true):L k=decide (k<j)∨VQ N ops l m ok u:=by
 have U:ops[j]? =some l:=by
  have:=Vz.1 A;simpa using this.1
 have J:ops[k]? =some ok:=by
  have:=Vz.1 B;simpa using this.1
 simp only[xA,bY]at z;have K: ∀(j:Nat) o i,ops[j]? =some o→((A0 ops.toList []).getD j 0).testBit i=true→(∀e∈o.after,Region.binds .any e=true→L e.on=true)→L i=true:=fun j o i q n r=>
  afV (L:=fun i=>L i=true) ops.toList [] [] rfl (fun j o h M=>H j o (by simpa using h) M) (fun j o i h=>by simp at h) j o i (by simpa using q) n r
 rcases Nat.lt_or_gt_of_ne Q with I|P
 ·have a:=GJ _ 0 z.2 k j ok u l m I B A;simp only[Bd,bY,Gg,cN]at a;obtain⟨x,a⟩:=a;rcases a with a|a
  ·left;rw[K j l k U a V];simp [I]
  ·right;obtain⟨⟨⟨⟨⟨⟨q,n⟩,r⟩,s⟩,w⟩,F⟩,G⟩:=a;obtain⟨D,v,E⟩:=Oper.apart_spec w;refine⟨fun b p d c=>G9 q _ (LS (po.2 c) d),fun b p d c C=>G9 n _ (LS (po.2 c) d) (po.2 C),fun t g=>D t g,fun t g=>v t g,fun b f p c=>Fx (dw.1 F b f) p (po.2 c),fun y _ b f p c=> ?_⟩;rw[y]at x;exact Fx (dw.1 (by simpa using x) b f) p (po.2 c)
 ·have a:=GJ _ 0 z.2 j k l m ok u P A B;simp only[Bd,bY,Gg,cN]at a;obtain⟨x,a⟩:=a;rcases a with a|a
  ·left;have R:L k=false:=by
    cases e:L k with
    |false=>rfl
    |true=>
     have:=K k ok j J a (H k ok J e);rw[O]at this;cases this
   rw[R];simp;omega
  ·right;obtain⟨⟨⟨⟨⟨⟨q,n⟩,r⟩,s⟩,w⟩,F⟩,G⟩:=a;obtain⟨D,v,E⟩:=Oper.apart_spec w;refine⟨fun b p d c W=>G9 r _ W (LS (po.2 c) d),fun b p d c C=>G9 n _ (LS (po.2 C) d) (po.2 c),fun t g=>E t g,fun t g X=>v t X g,fun b f p c=>Fx (dw.1 G b f) p (po.2 c),fun y S b f p c=> ?_⟩;rw[y]at s;have T:m.ws.isEmpty=false:=by cases e:m.ws with
    |nil=>exact absurd e S
    |cons=>rfl
   rw[T]at s;exact Fx (dw.1 (by simpa using s) b f) p (po.2 c)
end
section
variable {S:dR} {ι:Nat→Option Nat} {st:D} {a:Act} {w:World}
def pB(H:Heap)(b a:Nat)(x:J):Heap:=bs (bs H b 0 dn) a 0 x
theorem aU.Mh(h:aU S ι st a w){ag:World}{b bG x s n eu c:Nat}{f fB:Nat→List J}{C kk:Array Value}{T:TypeId}
  (G:I st.k b 0= .ae false s n f) (B:ι b=some x) (j_:w.heap[x]? =some (.cells C T (0,0)))
  (ati:ag.os=w.os) (aty:ag.tape=w.tape) (atj:ag.output=w.output) (ns:ag.heap.size=w.heap.size) (N: ∀k,k≠x→ag.heap[k]? =w.heap[k]?)
  (Z:ag.heap[x]? =some (.cells kk T (0,0))) (kF:kk.size=c*s) (jI:eu≤dm) (EF:eu≤c)
  (c4: ∀i j,i<eu→j<s→ ∃ab u,(fB i)[j]? =some ab∧kk[i*s+j]? =some u∧aR w (aM S ι st.k w) ab u)
  (R:(bG=b∧(n<eu∨(n=eu∧kk.size=C.size)))∨(bG≠b∧(∀o,I st.k bG o= .undef)∧ι bG=none)):
  ∃ay,aU S ay ⟨st.n,pB st.k b bG (.ae false s eu fB)⟩ a ag∧cf ay (pB st.k b bG (.ae false s eu fB)) ag (aM S ay (pB st.k b bG (.ae false s eu fB)) ag) (.own bG eu) (.slice (some ⟨x,0,none⟩) eu c):=by
 have ad4:n≤dm:=by
  have v:=h.k b 0;rw[G]at v;rcases v.2 with dK|dK
  ·cases dK.1
  ·exact dK.1
 generalize V:pB st.k b bG (.ae false s eu fB)=al;have M:I al bG 0= .ae false s eu fB:=by rw[←V];unfold pB;rw[eK,bF ⟨rfl,rfl⟩]
 have adn:bG≠b→I al b 0=dn:=fun e=>by rw[←V];unfold pB;rw[eK,bH (fun g=>e g.1.symm),eK,bF ⟨rfl,rfl⟩]
 have F: ∀k o,(k≠b∧k≠bG)∨o≠0→I al k o=I st.k k o:=fun k o g=>by
  rw[←V];unfold pB;rw[eK,bH (fun e=>g.elim (fun g=>g.2 e.1) fun g=>g e.2),eK,bH (fun e=>g.elim (fun g=>g.1 e.1) fun g=>g e.2)]
 have hlen:st.k.length≤al.length∧bG<al.length:=by
  rw[←V];unfold pB;exact⟨fg (uO _ _ _ _).1 (uO _ _ _ _).1,(uO _ _ _ _).2⟩
 have adF: ∀o,o≠0→I st.k b o= .undef:=fun o eh=>by
  have v:=h.k b o
  cases e:I st.k b o<;>rw[e]at v<;>first|rfl|(have:=v.1;rw[G]at this;cases this;done)|exact absurd v.1 eh
 have ash: ∀o,o≠0→I st.k bG o= .undef:=fun o eh=>by
  rcases R with⟨e,_⟩|⟨_,e,_⟩
  ·rw[e];exact adF o eh
  ·exact e o
 let ay:Nat→Option Nat:=fun k=>if k=bG then some x else if k=b then none else ι k
 have X:ay bG=some x:=bF rfl;have aep:bG≠b→ay b=none:=fun e=>by simp only[ay];rw[bH (fun g=>e g.symm)];simp
 have O: ∀k,k≠b→k≠bG→ay k=ι k:=fun k h5 M=>by simp only[ay];rw[bH M,bH h5]
 have P: ∀k y,ay k=some y→(k=bG∧y=x)∨(k≠b∧k≠bG∧ι k=some y):=fun k y d=>by
  by_cases m:k=bG
  ·subst m;rw[X]at d;cases d;exact .inl ⟨rfl,rfl⟩
  ·by_cases l:k=b
   ·rw[l,aep (fun g=>m (by rw[g,l]))]at d;cases d
   ·rw[O k l m]at d;exact .inr ⟨l,m,d⟩
 have EP:mL st.k b:= .inl ⟨by rw[G];rfl,by rw[G];rfl⟩;have H: ∀k y,ι k=some y→k≠b→y≠x:=fun k y d jn e=>jn (h.inj _ _ _ d (by rw[e];exact B));have xq: ∀y p,y≠x→ag.cell? ⟨y,p,none⟩=w.cell? ⟨y,p,none⟩:=fun y p d=>World.cell?_of_block (N y d);have nm: ∀y,aM S ι st.k w y→aM S ay al ag y:=fun y ⟨q1,Q,L⟩=>⟨q1,by rw[ns];exact Q,fun k v d=>by
  rcases P k y d with⟨rfl,rfl⟩|⟨l,m,d⟩
  ·exact L b EP B
  ·exact L k (nG (fun o=>F k o (.inl ⟨l,m⟩)) v) d⟩
 have W:eg ι st.k w (aM S ι st.k w) ay al ag (aM S ay al ag):=by
  refine⟨nm,fun y o ⟨_,_,L⟩=>xq y o fun e=>L b EP (by rw[e];exact B),fun k mT hE r=> ?_,fun k F0 iE x7 f0 r=> ?_⟩
  ·have l:k≠b:=fun e=>by rw[e,G]at r;cases r
   have m:k≠bG:=fun e=>by
    rcases R with⟨z,_⟩|⟨_,_,z⟩
    ·exact l (e.trans z)
    ·rw[e,z]at hE;cases hE
   exact⟨by rw[O k l m];exact hE,by rw[F k 0 (.inl ⟨l,m⟩)];exact r⟩
  ·by_cases l:k=b
   ·subst l;rw[G]at r;cases r;rcases R with⟨e,gC⟩|⟨e,_,_⟩
    ·subst e;refine⟨false,_,eu,fB,M,by rcases gC with h|⟨h,_⟩<;>omega,fun e=> ?_⟩;rcases gC with gC|⟨_,atx⟩
     ·omega
     ·refine⟨rfl,by rw[X,B],fun y D k0 d U=> ?_⟩;rw[B]at d;cases d;rw[j_]at U;cases U;exact⟨kk,Z,atx⟩
    ·exact⟨true,0,dm+1,fun _=>[],adn e,by omega,fun e=>by omega⟩
   ·have m:k≠bG:=fun e=>by
     rcases R with⟨z,_⟩|⟨_,z,_⟩
     ·exact l (e.trans z)
     ·rw[e,z]at r;cases r
    refine⟨F0,iE,x7,f0,by rw[F k 0 (.inl ⟨l,m⟩)];exact r,bx _,fun _=>⟨rfl,O k l m,fun y D k0 d U=>⟨D,?_,rfl⟩⟩⟩;rw[N y (H _ _ d l)];exact U
 refine⟨ay,⟨h.below.then ⟨ati,aty,atj,by rw[ns];exact bx _,fun k r e8=>N k fun e=> ?_⟩,h.defers,fun t ab ia=> ?_,fun k o=> ?_,fun hl gh y iC e5=> ?_,fun k y d=> ?_,fun k y d=> ?_,h.gB.trans W⟩,rfl,false,s,eu,fB,M,bx _,fun _=> .inl ⟨x,c,kk,T,X,rfl,EF,Z,kF⟩⟩
 ·rcases(h.fresh b x B).1 with g|g
  ·omega
  ·exact e8 (by rw[e];exact g)
 ·obtain⟨hg,q1,Q⟩:=h.n t ab ia;exact⟨hg,q1,Q.step W⟩
 ·show eQ ay al ag (aM S ay al ag) k o (I al k o)
  by_cases m:k=bG
  ·subst m
   by_cases A:o=0
   ·subst A;rw[M];refine⟨rfl,.inr ⟨jI,.inr ⟨x,kk,T,X,Z,fun i j iQ fe=> ?_⟩⟩⟩;obtain⟨ab,u,q1,Q,L⟩:=c4 i j iQ fe;exact⟨ab,u,q1,Q,L.mono nm W.cell⟩
   ·rw[F k o (.inr A),ash o A];trivial
  ·by_cases l:k=b
   ·subst l
    by_cases A:o=0
    ·subst A;rw[adn (fun g=>m g.symm)];exact⟨rfl,.inl ⟨rfl,rfl,aep (fun g=>m g.symm)⟩⟩
    ·rw[F k o (.inr A),adF o A];trivial
   ·rw[F k o (.inl ⟨l,m⟩)];exact(h.k k o).step W (fun _=>O k l m) (fun y d _=>⟨xq y o (H _ _ d l),World.frozen?_of_block (N y (H _ _ d l))⟩) (fun _=>⟨O k l m,fun y d=>N y (H _ _ d l)⟩)
 ·rcases P hl y iC with⟨rfl,rfl⟩|⟨Y,fY,E⟩<;>rcases P gh y e5 with⟨rfl,q⟩|⟨ai,K,an⟩
  ·rfl
  ·exact absurd rfl (H _ _ an ai)
  ·subst q;exact absurd rfl (H _ _ E Y)
  ·exact h.inj hl gh y E an
 ·rw[ns];rcases P k y d with⟨rfl,rfl⟩|⟨Y,fY,E⟩
  ·exact h.fresh b _ B
  ·exact h.fresh k y E
 ·rcases P k y d with⟨rfl,rfl⟩|⟨Y,fY,E⟩
  ·exact hlen.2
  ·exact gG (h.gw k y E) hlen.1
end
theorem y1{w:World}{x:Nat}{C:Array Value}{T:TypeId}{z:Nat×Nat}(h:w.heap[x]? =some (.cells C T z))(o:Nat):w.cell? ⟨x,o,none⟩=C[o]? :=by
 simp [World.cell?,h]
theorem CJ{w:World}{x:Nat}{C:Array Value}{T:TypeId}(h:w.heap[x]? =some (.cells C T (0,0)))(o:Nat):w.frozen? ⟨x,o,none⟩=false:=by
 simp [World.frozen?,h]
theorem aU.FP{S:dR}{ι:Nat→Option Nat}{st:D}{a:Act}{w:World}(h:aU S ι st a w){b n M:Nat}{g:Nat→List J}{v:Value}(o:I st.k b 0= .ae false M n g)(e:ej S ι st.k w (.own b n) v):
  n≤dm∧((∃x c C T,ι b=some x∧v= .slice (some ⟨x,0,none⟩) n c∧n≤c∧w.heap[x]? =some (.cells C T (0,0))∧C.size=c*M∧ ∀i j,i<n→j<M→ ∃ab u,(g i)[j]? =some ab∧C[i*M+j]? =some u∧aR w (aM S ι st.k w) ab u)∨
   (n=0∧ι b=none∧v= .slice none 0 0)):=by
 obtain⟨_,K,L,H,G,k,_,r⟩:=e;rw[o]at k;cases k;have d:=h.k b 0;rw[o]at d;obtain⟨_,z|⟨t,d⟩⟩:=d
 ·cases z.1
 refine⟨t,?_⟩;rcases r rfl with⟨x,c,C,T,f,e,B,l,s⟩|⟨q,A,e⟩
 ·rcases d with d|⟨N,E,F,p,m,y⟩
  ·rw[f]at d;cases d.2
  ·rw[f]at p;cases p;rw[l]at m;cases m;exact .inl ⟨x,c,C,T,f,e,B,l,s,y⟩
 ·exact .inr ⟨q,A,e⟩
theorem aR.TV{w:World}{F:Nat→Prop}{ab:J}{v:Value}(h:aR w F ab v):v.oneCell'=true:=agt h.one
theorem mF{i j M n:Nat}(a:i<n)(b:j<M):i*M+j<n*M:=by
 have:(i+1)*M≤n*M:=hc M a;rw[iY]at this;omega
end Go.ah
namespace Go.ah
open Go Go.Proofs Go.RowKit Go.Shelf
section
variable {P:Program}
def vE(g:Nat→List J)(i j t:Nat):List J:=bif Nat.blt t i then g t else g (t+(j-i))
def MA(P:Program)(f:FuncId)(k:Nat)(z:Value):Prop:= ∀(a d n i j:Nat) (w:World) (b c:List Value) (_:(Builtin.zeroCells z.cells (j-i)).toList=c) (_:c.length=(j-i)*k) (_: ∀v∈c,v.oneCell'=true)
    (_:b.length=(n-j)*k) (_: ∀v∈b,v.oneCell'=true) (_: ∀t u,b[t]? =some u→w.cell? ⟨a,j*k+t,none⟩=some u)
    (_: ∀t,t<n*k→(w.cell? ⟨a,t,none⟩).isSome=true) (_: ∀t,w.frozen? ⟨a,t,none⟩=false)
    (_:n≤d) (_:i<j) (_:j≤n),
    Calls P f #[.slice (some ⟨a,0,none⟩) n d,.int .i64 i,.int .i64 j] w fun e ag=>e= .returned (.slice (some ⟨a,0,none⟩) (n- (j-i)) d)∧ag=(w.drew.setCells a (i*k) b).setCells a ((i+(n-j))*k) c
theorem an5{f:FuncId}{M:Nat}{z:Value}(om:MA P f M z)(hE: ∀m,(Builtin.zeroCells z.cells m).toList.length=m*M∧ ∀v∈(Builtin.zeroCells z.cells m).toList,v.oneCell'=true)(n i j:Nat)(g:Nat→List J)(sq:i<j)(fe:j≤n):
  fj P f [.own 0 n,.int .i64 i,.int .i64 j] [[.ae false M n g]] [.own 1 (n- (j-i))] [[dn],[.ae false M (n- (j-i)) (vE g i j)]]:=by
 intro S ι w cv sm xt r
 match cv,xt with
 |[v0,v1,v2],_=>
 obtain⟨_,Y,Uy⟩:=r.n 0 _ rfl;obtain⟨_,q1,H⟩:=r.n 1 _ rfl;obtain⟨_,Z,K⟩:=r.n 2 _ rfl;simp only[s8,List.getElem?_cons_zero,List.getElem?_cons_succ,hd]at Y q1 Z;subst Y q1 Z;have H:v1= .int .i64 i:=by
  have:aR w (aM S ι [[.ae false M n g]] w) (.int .i64 i) v1:=H
  cases this;rfl
 have K:v2= .int .i64 j:=by
  have:aR w (aM S ι [[.ae false M n g]] w) (.int .i64 j) v2:=K
  cases this;rfl
 subst H K;obtain⟨jI,⟨x,c,C,T,kb,rfl,O,A,L,G⟩|⟨jH,_⟩⟩:=r.FP (b:=0) (g:=g) (M:=M) rfl Uy
 case inr=>omega
 have atd:n*M≤C.size:=by rw[L];exact hc M O
 have aE1:j*M+(n-j)*M=n*M:=by rw[←hr];congr 1;omega
 have U: ∀t,t<n*M→ ∃u,C[t]? =some u∧u.oneCell'=true:=fun t a=>by
  have W:0<M:=by
   rcases nL M with e|e
   ·rw[e]at a;omega
   ·exact e
  have B:t/M<n:=(Nat.div_lt_iff_lt_mul W).2 a;obtain⟨ab,u,_,o,E⟩:=G (t/M) (t%M) B (Nat.mod_lt _ W);rw[ta,Nat.div_add_mod]at o;exact⟨u,o,E.TV⟩
 let d:List Value:=(C.toList.drop (j*M)).take ((n-j)*M);have R:d.length=(n-j)*M:=by simp only[d,nJ,rj,Array.length_toList];omega
 have Q: ∀t u,d[t]? =some u→C[j*M+t]? =some u∧t<(n-j)*M:=fun t u s=>by
  have a:t<d.length:=(iW.1 s).1;rw[R]at a;simp only[d]at s;rw[yE a,ht,Mo]at s;exact⟨s,a⟩
 have atc: ∀v∈d,v.oneCell'=true:=fun v c4=>by
  obtain⟨t,a⟩:=pI c4;obtain⟨B,g3⟩:=Q t v a;obtain⟨u,l,o⟩:=U (j*M+t) (by omega);rw[B]at l;cases l;exact o
 obtain⟨SN,EZ⟩:=hE (j-i);have aEV:i*M+(n-j)*M+(j-i)*M=n*M:=by rw[←hr,←hr];congr 1;omega
 refine(om x c n i j w d _ rfl SN EZ R atc (fun t u s=>by rw[y1 A];exact(Q t u s).1) (fun t a=>by
  rw[y1 A];obtain⟨u,l,_⟩:=U t a;rw[l];rfl) (fun t=>CJ A t) O sq fe).mono ?_
 rintro e ag ⟨rfl,rfl⟩
 have RG:w.drew.heap[x]? =some (.cells C T (0,0)):=A;obtain⟨⟨aiU,cP,fY,a3⟩,a4,hg,mT,pT,pU⟩:=qD x d (i*M) w.drew C T (0,0) RG;obtain⟨⟨td,gJ,bG,je⟩,mb,lE,GM,GN,GO⟩:=qD x (Builtin.zeroCells z.cells (j-i)).toList ((i+(n-j))*M) (w.drew.setCells x (i*M) d) aiU T (0,0) cP;generalize (w.drew.setCells x (i*M) d).setCells x ((i+(n-j))*M) (Builtin.zeroCells z.cells (j-i)).toList=ag at*
 have hmul:(i+(n-j))*M=i*M+(n-j)*M:=hr _ _ _;obtain⟨ay,h,X⟩:=aU.Mh (b:=0) (bG:=1) (f:=g) (fB:=vE g i j) (eu:=n- (j-i)) (c:=c) (ag:=ag) (kk:=td) r rfl kb A (by rw[GM,mT];rfl) (by rw[GN,pT];rfl) (by rw[GO,pU];rfl) (by rw[mb,a4];rfl)
  (fun k N=>by rw[lE k N,hg k N];rfl) gJ (by rw[bG,fY];exact L) (by omega) (by omega) (fun p q cS D=>by
   have Sn:=mF cS D;have atb:(n- (j-i))*M=i*M+(n-j)*M:=by rw[←hr];congr 1;omega
   rw[je,bH (by omega),a3];unfold vE
   by_cases V:p<i
   ·have F:Nat.blt p i=true:=by simpa[fU]using V
    have:=mF V D;rw[bH (by omega),F];exact G p q (by omega) D
   ·have F:Nat.blt p i=false:=by
     cases e:Nat.blt p i with
     |false=>rfl
     |true=>exact absurd (gW e) (by omega)
    have B:i*M≤p*M:=hc M (by omega);have g3:(p-i)*M=p*M-i*M:=BF _ _ _;have e5:(p+(j-i))*M=p*M+(j-i)*M:=hr _ _ _;have Ay:j*M=i*M+(j-i)*M:=by rw[←hr];congr 1;omega
    rw[bF ⟨by omega,by omega,by omega⟩,F];obtain⟨ab,u,l,o,E⟩:=G (p+(j-i)) q (by omega) D;refine⟨ab,u,l,?_,E⟩;have a:p*M+q-i*M<(n-j)*M:=by omega
    simp only[d];rw[yE a,ht,Mo,←o]
    congr 1;omega) (.inr ⟨by simp,fun aD5=>by simp [I],by
    cases e:ι 1 with
    |none=>rfl
    |some y=>have:=r.gw 1 y e;simp at this⟩)
 have jl:pB [[J.ae false M n g]] 0 1 (.ae false M (n- (j-i)) (vE g i j))=[[dn],[.ae false M (n- (j-i)) (vE g i j)]]:=rfl;rw[jl]at h X;refine⟨[.slice (some ⟨x,0,none⟩) (n- (j-i)) c],ay,rfl,rfl,h.below,rfl,fun t ab a=> ?_,h.k,h.inj,h.fresh,h.gw,h.gB⟩
 match t with
 |0=>cases a;exact⟨_,rfl,X⟩
 |t+1=>simp at a
end
section
variable {P:Program} {ρ:Ren}
def kI(g:Nat→List J)(i:Nat)(v:Nat→List J)(t:Nat):List J:=bif Nat.blt t i then g t else bif Nat.beq t i then v 0 else g (t-1)
theorem KM{g v:Nat→List J}{i t:Nat}(h:t<i):kI g i v t=g t:=by
 unfold kI;rw[show Nat.blt t i=true by simpa[fU]using h];rfl
theorem WY{a b:Nat}(h:b≤a):Nat.blt a b=false:=by
 cases e:Nat.blt a b with
 |false=>rfl
 |true=>exact absurd (gW e) (by omega)
theorem E3{g v:Nat→List J}{i:Nat} :kI g i v i=v 0:=by
 unfold kI;rw[WY (bx _),nK];rfl
theorem aev{g v:Nat→List J}{i t:Nat}(h:i<t):kI g i v t=g (t-1):=by
 unfold kI;rw[WY (by omega),show Nat.beq t i=false by
  cases e:Nat.beq t i with
  |false=>rfl
  |true=>have:=dX e;omega];rfl
theorem Below.ahN{B:Nat}{a w:World}(h:Below B a w){x:Nat}(f:B≤x): ∀(b:List Value) (o:Nat),Below B a (w.setCells x o b)
 |b,o=>by
  induction b generalizing w o with
  |nil=>exact h
  |cons v b d=>
   rw[World.setCells];have c:Below B w (w.setCell ⟨x,o,none⟩ v):=⟨rfl,rfl,rfl,by simp,fun k e=>Below.heap_setCell w ⟨x,o,none⟩ v k (by show k≠x;omega)⟩;exact d (h.trans c) _
theorem Xt{w:World}{F:Nat→Prop}{n M c:Nat}{g:Nat→List J}{C:Array Value}(s:n≤c)(r:C.size=c*M)(l: ∀i j,i<n→j<M→ ∃ab u,(g i)[j]? =some ab∧C[i*M+j]? =some u∧aR w F ab u):
  ∃cs:List Value,cs.length=n*M∧(∀t u,cs[t]? =some u→C[t]? =some u∧t<n*M)∧(∀v∈cs,v.oneCell'=true)∧ ∀i j,i<n→j<M→ ∃ab u,(g i)[j]? =some ab∧cs[i*M+j]? =some u∧aR w F ab u:=by
 have y:n*M≤C.size:=by rw[r];exact hc M s
 have k:(C.toList.take (n*M)).length=n*M:=by simp only[nJ,Array.length_toList];omega
 have h: ∀t,t<n*M→(C.toList.take (n*M))[t]? =C[t]? :=fun t a=>by rw[yE a,Mo]
 refine⟨C.toList.take (n*M),k,fun t u b=> ?_,fun v x=> ?_,fun i j m o=> ?_⟩
 ·have a:t<n*M:=by have:=(iW.1 b).1;rwa [k]at this
  rw[h t a]at b;exact⟨b,a⟩
 ·obtain⟨t,b⟩:=pI x;have a:t<n*M:=by have:=(iW.1 b).1;rwa [k]at this
  rw[h t a]at b;have p:0<M:=by
   rcases nL M with e|e
   ·rw[e]at a;omega
   ·exact e
  obtain⟨ab,u,_,d,f⟩:=l (t/M) (t%M) ((Nat.div_lt_iff_lt_mul p).2 a) (Nat.mod_lt _ p);rw[ta,Nat.div_add_mod]at d;rw[b]at d;cases d;exact f.TV
 ·obtain⟨ab,u,q,d,f⟩:=l i j m o;exact⟨ab,u,q,by rw[h _ (mF m o)];exact d,f⟩
theorem aud{k bytes:Nat}{cS:Value}(L:pN P ρ k bytes cS)(Kt:0<k)(EC:bytes≤255)(xx: ∀m,(Builtin.zeroCells cS.cells m).size=m*k)(n i:Nat)(g v:Nat→List J)(iQ:i≤n)(e8:n+1≤dm):
  fj P (ρ.f 22) [.own 0 n,.int .i64 i,.own 1 1] [[.ae false k n g],[.ae false k 1 v]] [.own 0 (n+1)] [[.ae false k (n+1) (kI g i v)],[.ae false k 1 v]]:=by
 intro S ι w cv sm xt O
 match cv,xt with
 |[v0,v1,v2],_=>
 obtain⟨_,g6,Uy⟩:=O.n 0 _ rfl;obtain⟨_,q1,FX⟩:=O.n 1 _ rfl;obtain⟨_,fp,UB⟩:=O.n 2 _ rfl;simp only[s8,List.getElem?_cons_zero,List.getElem?_cons_succ,hd]at g6 q1 fp;subst g6 q1 fp;have FX:v1= .int .i64 i:=by
  have:aR w (aM S ι [[.ae false k n g],[.ae false k 1 v]] w) (.int .i64 i) v1:=FX
  cases this;rfl
 subst FX;obtain⟨_,⟨y,K,D,vl,sv,rfl,ata,Az,arW,arV⟩|⟨jH,_⟩⟩:=O.FP (b:=1) (g:=v) (M:=k) rfl UB
 case inr=>omega
 obtain⟨o,z,fL,bl,aod⟩:=Xt ata arW arV;rw[Nat.one_mul]at z;have RR:(n+1)*bytes≤140737488355328:=by
  have:(n+1)*bytes≤549755813888*255:=Nat.mul_le_mul e8 EC;omega
 have AK:n≤549755813888:=by have:dm=549755813888:=rfl;omega
 have pd: ∀j u,o[j]? =some u→w.cell? ⟨y,j,none⟩=some u:=fun j u hu=>by rw[y1 Az];exact(fL j u hu).1
 have ET: ∀j,j<k→ ∃ab u,(v 0)[j]? =some ab∧o[j]? =some u∧aR w (aM S ι [[.ae false k n g],[.ae false k 1 v]] w) ab u:=fun j fe=>by
  have:=aod 0 j (by omega) fe;rwa [Nat.zero_mul,cN]at this
 have aEX:(i+1)*k=i*k+k:=iY _ _;have aE5:(n+1)*k=n*k+k:=iY _ _;have fin: ∀(ag:World) (ay:Nat→Option Nat) (u:Value) (al:Heap),al=[[.ae false k (n+1) (kI g i v)],[.ae false k 1 v]]→aU S ay ⟨[.own 0 n,.int .i64 i,.own 1 1],al⟩ {tmps:= #[v0,.int .i64 i,.slice (some ⟨y,0,none⟩) 1 K],defers:=[]} ag→cf ay al ag (aM S ay al ag) (.own 0 (n+1)) u→
   ∃us ay,Ending.returned u= .returned (pack us)∧us.length=1∧aU S ay ⟨[.own 0 (n+1)],[[.ae false k (n+1) (kI g i v)],[.ae false k 1 v]]⟩ {tmps:=us.toArray,defers:=[]} ag:=fun ag ay u al e E hu=>by
  subst e;refine⟨[u],ay,rfl,rfl,E.below,rfl,fun t ab ia=> ?_,E.k,E.inj,E.fresh,E.gw,E.gB⟩
  match t with
  |0=>cases ia;exact⟨_,rfl,hu⟩
  |t+1=>simp at ia
 have place: ∀(x c:Nat) (C X:Array Value) (T:TypeId) (ag:World),ι 0=some x→n+1≤c→w.heap[x]? =some (.cells C T (0,0))→C.size=c*k→ag.os=w.os→ag.tape=w.tape→ag.output=w.output→ag.heap.size=w.heap.size→(∀q,q≠x→ag.heap[q]? =w.heap[q]?)→
   ag.heap[x]? =some (.cells X T (0,0))→X.size=C.size→(∀p q,p<n+1→q<k→ ∃ab u,(kI g i v p)[q]? =some ab∧X[p*k+q]? =some u∧aR w (aM S ι [[.ae false k n g],[.ae false k 1 v]] w) ab u)→
   ∃us ay,Ending.returned (.slice (some ⟨x,0,none⟩) (n+1) c)= .returned (pack us)∧us.length=1∧aU S ay ⟨[.own 0 (n+1)],[[.ae false k (n+1) (kI g i v)],[.ae false k 1 v]]⟩ {tmps:=us.toArray,defers:=[]} ag:=fun x c C X T ag kb jm r W V g3 e5 Ay JV adu xl xm=>by
  obtain⟨ay,E,SE⟩:=aU.Mh (b:=0) (bG:=0) (f:=g) (fB:=kI g i v) (eu:=n+1) (c:=c) (ag:=ag) (kk:=X) O rfl kb r V g3 e5 Ay JV adu (by rw[xl];exact W) e8 jm xm (.inl ⟨rfl,.inl (by omega)⟩);exact fin ag ay _ _ rfl E SE
 have fresh: ∀(G:Nat) (R:Array Value) (T:TypeId) (ag:World),n+1≤G→Below w.heap.size w ag→w.heap.size<ag.heap.size→ag.heap[w.heap.size]? =some (.cells R T (0,0))→R.size=G*k→
   (∀p q,p<n+1→q<k→ ∃ab u,(kI g i v p)[q]? =some ab∧R[p*k+q]? =some u∧aR w (aM S ι [[.ae false k n g],[.ae false k 1 v]] w) ab u)→
   ∃us ay,Ending.returned (.slice (some ⟨w.heap.size,0,none⟩) (n+1) G)= .returned (pack us)∧us.length=1∧aU S ay ⟨[.own 0 (n+1)],[[.ae false k (n+1) (kI g i v)],[.ae false k 1 v]]⟩ {tmps:=us.toArray,defers:=[]} ag:=fun G R T ag N nk gC ar5 J6 xm=>by
  obtain⟨E,SE⟩:=aU.FV O nk (b:=0) (x:=w.heap.size) (bx _) gC (M:=k) (n:=n+1) (c:=G) (f:=kI g i v) (C:=R) (T:=T) e8 N ar5 J6 (dO:=aM S ι [[.ae false k n g],[.ae false k 1 v]] w) (fun _ h=> .inl h)
   (fun p q H d=>by
    obtain⟨ab,u,Q,I,s⟩:=xm p q H d;exact⟨ab,u,Q,I,s.mono (fun _ h=>h) fun u_ aD5 SM=>nk.cell SM.2.1⟩) (.inr ⟨n,g,rfl,by omega⟩)
  exact fin ag _ _ _ rfl E SE
 obtain⟨_,⟨x,c,C,T,kb,rfl,mD,r,W,lg⟩|⟨jH,aFk,rfl⟩⟩:=O.FP (b:=0) (g:=g) (M:=k) rfl Uy
 ·obtain⟨cs,A,f2,f3,f4⟩:=Xt mD W lg;have atQ:y≠x:=fun e=>by have:=O.inj 0 1 x kb (by rw[←e];exact sv);omega
  have EG: ∀j u,cs[j]? =some u→w.cell? ⟨x,j,none⟩=some u:=fun j u hu=>by rw[y1 r];exact(f2 j u hu).1
  have aER: ∀j,j<n*k→cs[j]? =C[j]? :=fun j fe=>by
   have V:cs[j]? =some (cs[j]'(by omega)):=cT (by omega);rw[V,(f2 j _ V).1]
  have Z:(n+1)≤c→(n+1)*k≤C.size:=fun h=>by rw[W];exact hc k h
  have AM:n+1≤c→ ∀j,j<(n+1)*k→(w.cell? ⟨x,j,none⟩).isSome=true:=fun h j fe=>by
   have:=Z h;rw[y1 r,pG (by omega)];rfl
  by_cases sr:i=n
  ·subst sr
   by_cases B:i+1≤c
   ·refine(aue L x i c y K o w B z (AM B) (fun j=>CJ r j) pd bl).mono ?_
    rintro e ag ⟨rfl,rfl⟩
    obtain⟨⟨U,Q,I,s⟩,Y,hg,mT,pT,pU⟩:=qD x o (i*k) w C T (0,0) r;refine place x c C U T _ kb B r W mT pT pU Y hg Q I fun p q H d=> ?_;have:=Z B
    by_cases l:p<i
    ·have:=mF l d;rw[KM l,s,bH (by omega)];exact lg p q l d
    ·have l:p=i:=by omega
     subst l;rw[E3,s,bF ⟨by omega,by omega,by omega⟩,show p*k+q-p*k=q by omega];exact ET q d
   ·refine(aew L (some ⟨x,0,none⟩) i c y K cs o w mD (by omega) RR AK A z (fun h=>by cases h) (fun a xo j u fe=>by cases xo;rw[Addr.add_lit,cN];exact EG j u fe) pd bl).mono ?_
    rintro e ag ⟨rfl,rfl⟩
    have N:=vc w (i+1) c (ρ.t 9);generalize grownCap w (i+1) c (ρ.t 9)=G at*
    refine fresh G _ (ρ.t 9) _ N ((Below.drew (Below.refl _ w)).alloc (bx _) _) (by simp) (rf w.drew _) (by
     simp only[vd,pH,iF,xx,A,z];have:(G- (i+1))*k+(i+1)*k=G*k:=by rw[←hr];congr 1;omega
     omega) fun p q H d=> ?_
    have Sn:=mF H d;rw[pF (by simp only[pH,iF,A,z];omega)];simp only[s8]
    by_cases l:p<i
    ·have:=mF l d;rw[KM l,s7 (by omega)];exact f4 p q l d
    ·have l:p=i:=by omega
     subst l;rw[E3,BG (by omega),A,show p*k+q-p*k=q by omega];exact ET q d
  ·have gC:i<n:=by omega
   have aE3:(n-i)*k+i*k=n*k:=by rw[←hr];congr 1;omega
   have aES:(cs.drop (i*k)).length=(n-i)*k:=by rw[rj,A];omega
   by_cases B:n+1≤c
   ·have RG:C.size≠0:=by have:=Z B;have:0<(n+1)*k:=Nat.mul_pos (by omega) Kt;omega
    refine(aug L x n c i y K cs o w gC B AK atQ A z EG (AM B) (fun j=>CJ r j) pd f3 bl vl T D.size C.size (by simp [World.shape?,Az]) (by simp [World.shape?,r]) RG (fun j=>CJ Az j)).mono ?_
    rintro e ag ⟨rfl,rfl⟩
    have arU:w.drew.heap[x]? =some (.cells C T (0,0)):=r;obtain⟨⟨U,Q,I,s⟩,Y,hg,mT,pT,pU⟩:=qD x (cs.drop (i*k)) (i*k+k) w.drew C T (0,0) arU;obtain⟨⟨td,gJ,bG,je⟩,mb,lE,GM,GN,GO⟩:=qD x o (i*k) (w.drew.setCells x (i*k+k) (cs.drop (i*k))) U T (0,0) Q;refine place x c C td T _ kb B r W (by rw[GM,mT];rfl) (by rw[GN,pT];rfl) (by rw[GO,pU];rfl) (by rw[mb,Y];rfl) (fun q d=>by rw[lE q d,hg q d];rfl) gJ (by rw[bG,I]) fun p q H d=> ?_;have Z:=Z B;have Sn:=mF H d;rw[je]
    by_cases l:p<i
    ·have:=mF l d;rw[KM l,bH (by omega),s,bH (by omega)];exact lg p q (by omega) d
    ·by_cases Sl:p=i
     ·subst Sl;rw[E3,bF ⟨by omega,by omega,by omega⟩,show p*k+q-p*k=q by omega];exact ET q d
     ·have V:(i+1)*k≤p*k:=hc k (by omega);have g3:(p-1)*k+k=p*k:=by rw[←iY];congr 1;omega
      rw[aev (by omega),bH (by omega),s,bF ⟨by omega,by omega,by omega⟩,ht,show i*k+(p*k+q- (i*k+k))=(p-1)*k+q by omega];exact f4 (p-1) q (by omega) d
   ·refine(auf L Kt xx x n c i y K cs o w gC mD (by omega) RR AK A z EG pd f3 bl).mono ?_
    rintro e ag ⟨rfl,rfl⟩
    have N:=vc w (n+1) c (ρ.t 9);generalize grownCap w (n+1) c (ρ.t 9)=G at*
    have aEC:(G- (n+1))*k+(n+1)*k=G*k:=by rw[←hr];congr 1;omega
    have aE4:(n+1-i)*k+i*k=(n+1)*k:=by rw[←hr];congr 1;omega
    generalize ady:(cs.take (i*k)).toArray++Builtin.zeroCells cS.cells (n+1-i)++Builtin.zeroCells cS.cells (G- (n+1))=F;have J6:F.size=G*k:=by
     rw[←ady];simp only[vd,pH,nJ,xx,A];omega
    have ar6:(w.alloc (.cells F (ρ.t 9))).drew.heap[w.heap.size]? =some (.cells F (ρ.t 9) (0,0)):=rf w _;obtain⟨⟨U,Q,I,s⟩,Y,hg,mT,pT,pU⟩:=qD w.heap.size o (i*k) (w.alloc (.cells F (ρ.t 9))).drew F (ρ.t 9) (0,0) ar6;have amq:((w.alloc (.cells F (ρ.t 9))).drew.setCells w.heap.size (i*k) o).drew.heap[w.heap.size]? =some (.cells U (ρ.t 9) (0,0)):=Q;obtain⟨⟨td,gJ,bG,je⟩,mb,lE,GM,GN,GO⟩:=qD w.heap.size (cs.drop (i*k)) (i*k+k) ((w.alloc (.cells F (ρ.t 9))).drew.setCells w.heap.size (i*k) o).drew U (ρ.t 9) (0,0) amq;refine fresh G td (ρ.t 9) _ N ?_ (by rw[mb];show w.heap.size<((w.alloc (.cells F (ρ.t 9))).drew.setCells w.heap.size (i*k) o).heap.size;rw[Y];show w.heap.size<(w.alloc (.cells F (ρ.t 9))).heap.size;simp) gJ (by rw[bG,I,J6]) fun p q H d=> ?_
    ·exact Below.ahN (Below.drew (Below.ahN (Below.drew ((Below.refl _ w).alloc (bx _) _)) (bx _) _ _)) (bx _) _ _
    have Sn:=mF H d;rw[je]
    by_cases l:p<i
    ·have:=mF l d;rw[KM l,bH (by omega),s,bH (by omega),←ady,pF (by simp only[vd,pH,nJ,xx,A];omega),pF (by simp only[pH,nJ,A];omega)];simp only[s8];rw[yE (by omega)];exact f4 p q (by omega) d
    ·by_cases Sl:p=i
     ·subst Sl;rw[E3,bH (by omega),s,bF ⟨by omega,by omega,by omega⟩,show p*k+q-p*k=q by omega];exact ET q d
     ·have V:(i+1)*k≤p*k:=hc k (by omega);have g3:(p-1)*k+k=p*k:=by rw[←iY];congr 1;omega
      have e5:=mF (show p-1<n by omega) d;rw[aev (by omega),bF ⟨by omega,by omega,by rw[I,J6];have:(n+1)*k≤G*k:=hc k N;omega⟩,ht,show i*k+(p*k+q- (i*k+k))=(p-1)*k+q by omega];exact f4 (p-1) q (by omega) d
 ·subst jH;have asT:i=0:=by omega
  subst asT;refine(aew L none 0 0 y K [] o w (bx _) (by omega) RR AK (by simp) z (fun _=>rfl) (fun a xo=>by cases xo) pd bl).mono ?_
  rintro e ag ⟨rfl,rfl⟩
  have N:=vc w (0+1) 0 (ρ.t 9);generalize grownCap w (0+1) 0 (ρ.t 9)=G at*
  refine fresh G _ (ρ.t 9) _ N ((Below.drew (Below.refl _ w)).alloc (bx _) _) (by simp) (rf w.drew _) (by
   simp only[re,vd,pH,xx,z];have:(G- (0+1))*k+(0+1)*k=G*k:=by rw[←hr];congr 1;omega
   omega) fun p q H d=> ?_
  have Sk:p=0:=by omega
  subst Sk;rw[E3,re,pF (by simp only[pH,z];omega)];simp only[s8,Nat.zero_mul,cN];exact ET q d
end
end Go.ah
