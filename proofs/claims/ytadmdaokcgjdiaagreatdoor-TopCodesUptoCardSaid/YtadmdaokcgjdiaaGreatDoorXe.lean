import Derived.Test.YtadmdaokcgjdiaaGreatDoorXd
open Go.IntKind (i64 u64 u8)
open Int (toNat)
set_option maxRecDepth 100000
set_option maxHeartbeats 4000000
set_option linter.all false
noncomputable section
namespace Go.af
open Go Go.RowKit
structure Rec where
 val:J
 ws:b5
 rd:List (Nat×Nat)
 f_:List Nat
 aC:Nat
 run:Bool
def hB(o:Oper)(r:Rec)(st:O):O:=⟨kh o.dst r.val st.D,bJ st.k r.ws⟩
def NC(b o n:Nat):List (Nat×Nat):=(List.range n).map λj=>(b,o+j)
def jK:J->List (Nat×Nat)
 | .own b _=>[(b,0)]
 |_=>[]
def jL:J->List (Nat×Nat)
 | .agg cs=>cs.flatMap jK
 |av=>jK av
def kC(E:Env)(a:List J)(d:Op):List (Nat×Nat):=
 match d with
 | .load T x=>match aE a x with
   | .ptr b o=>match E.ty T with
     |some t=>NC b o t.size
     |none=>[]
   | .fN b _ _ _=>[(b,0)]
   |_=>[]
 | .store T x _=>match aE a x with
   | .ptr b o=>match E.ty T with
     |some t=>(b,0)::NC b o t.size
     |none=>[]
   | .fN b _ _ _=>[(b,0)]
   |_=>[]
 | .fieldAddr _ x _| .nilCheck x=>match aE a x with
   | .fN b _ _ _=>[(b,0)]
   |_=>[]
 | .indexAddr _ x _=>match aE a x with
   | .own b _=>[(b,0)]
   |_=>[]
 | .call c=>c.args.toList.flatMap λx=>jL (aE a x)
 | .slice _ x _ _ _| .convert _ _ x=>jL (aE a x)
 | .buildSlice _ _ e=>e.toList.flatMap λp=>jL (eT (aE a p.2))
 |_=>[]
def qz(a:List J)(H:Heap)(d:Op):List Nat:=
 match d with
 | .call c=>match c.callee with
   | .value f=>match aE a f with
     | .fn _ b=>ec H (c.args.toList.map (aE a)++b)
     |_=>[]
   |_=>[]
 |_=>[]
section
variable {E:Env}
def NL{b:Nat} : ∀{l:List Nat},b∈l->b∈dedup l
 |[],h=>by cases h
 |x::l,h=>by
  simp only[dedup];rcases iI.1 h with rfl|h
  .split
   .rename_i e;obtain⟨y,c,a⟩:=List.any_eq_true.1 e;have:=eg a;subst this;exact NL c
   .simp
  .split
   .exact NL h
   .simp [NL h]
def aot{H H':Heap}{aa:List J}(h: ∀b∈ec H aa,H'.getD b []=H.getD b []):ec H' aa=ec H aa:=by
 have d: ∀(g:J->List Nat) (l:List Nat),(∀b∈l,H'.getD b []=H.getD b [])->(l.flatMap λb=>(H'.getD b []).flatMap g)=l.flatMap λb=>(H.getD b []).flatMap g:=by
  intro g l
  induction l with
  |nil=>intro _;rfl
  |cons x l f=>
   intro c;rw[g0,g0,c x (by simp),f λb a=>c b (by simp [a])]
 have e:D_ H' aa=D_ H aa:=by
  unfold D_;rw[d XX _ λb a=>h b (gj.2 (.inl (NL (gj.2 (.inl a)))))]
 unfold ec;rw[e,d N8 _ λb a=>h b (gj.2 (.inl a))]
def ajf{H H':Heap} : ∀{L:List Nat} {a:Heap},(∀b∈L,H'.getD b []=H.getD b [])->qD L H' a=qD L H a
 |[],_,_=>rfl
 |b::L,a,h=>by
  unfold qD;rw[h b (by simp)]
  cases a with
  |nil=>rfl
  |cons y a=>simp only;rw[ajf λb c=>h b (by simp [c])]
def at1{aC:Nat}{H H':Heap}{f:FuncId}{aa:List J}{K:J->b5->Prop}(h: ∀b∈ec H aa,H'.getD b []=H.getD b [])(c:og E H aC f aa K):og E H' aC f aa K:=by
 have e:=aot h;unfold og at c |-;rw[e];have i:((ec H aa).all λb=>zf (H'.getD b [])&&(H'.getD b []).all (nC (mem (ec H aa))))=(ec H aa).all λb=>zf (H.getD b [])&&(H.getD b []).all (nC (mem (ec H aa))):=by
  rw[Bool.eq_iff_iff,dK,dK];exact⟨λg b a=>by rw[<-h b a];exact g b a,λg b a=>by rw[h b a];exact g b a⟩
 have bk:((ec H aa).map λb=>(H'.getD b []).map (fH (pos (ec H aa))))=(ec H aa).map λb=>(H.getD b []).map (fH (pos (ec H aa))):=IS λb a=>by rw[h b a]
 rw[i,bk]
 cases d:E.oi f (aa.map (lj (pos (ec H aa)))) ((ec H aa).map λb=>(H.getD b []).map (fH (pos (ec H aa))))with
 |none=>rw[d]at c;exact c
 |some q=>
  obtain⟨j,rs,k⟩:=q;rw[d]at c;simp only at c |-;rw[ajf h];exact c
def at2{aC:Nat}{H:Heap}{f:FuncId}{aa:List J}{K:J->b5->Prop}(a:og E H aC f aa K): ∃av ws,og E H aC f aa (λx y=>x=av/\y=ws)/\K av ws:=by
 unfold og at a;obtain⟨d,a⟩:=aF.1 a
 cases c:E.oi f (aa.map (lj (pos (ec H aa)))) ((ec H aa).map λb=>(H.getD b []).map (fH (pos (ec H aa))))with
 |none=>rw[c]at a;exact a.elim
 |some q=>
  obtain⟨h,rs,i⟩:=q;rw[c]at a;obtain⟨e,a⟩:=qy.1 a;obtain⟨g,a⟩:=aF.1 a;refine⟨_,_,?_,a⟩;unfold og;refine aF.2 ⟨d,?_⟩;rw[c];exact qy.2 ⟨e,aF.2 ⟨g,rfl,rfl⟩⟩
def aaO{H H':Heap}{b o n:Nat}(h: ∀l∈NC b o n,I H' l.1 l.2=I H l.1 l.2):kP H' b o n=kP H b o n:=by
 unfold kP;apply IS;intro j a;exact h (b,o+j) (by simp [NC];simpa using a)
def aaE{b:List (Nat×Nat)}{f g:List J}{K:List J->Prop} : ∀(a:List (Nat×Operand)) (cs:List J),(∀x∈a,aE g x.2=aE f x.2)->nw b f a cs K->nw b g a cs K
 |[],cs,_,h=>h
 |(i,x)::a,cs,d,h=>by
  simp only[nw]at h |-
  cases e:b[i]? with
  |none=>rw[e]at h;exact h.elim
  |some q=>
   rw[e]at h;simp only at h |-;have c:=d (i,x) (by simp);simp only at c;rw[c];rw[aF]at h |-;exact⟨h.1,aaE a _ (λy j=>d y (by simp [j])) h.2⟩
def aca{H H':Heap}{x:J}{K:J->Prop}(a: ∀l∈jK x,I H' l.1 l.2=I H l.1 l.2)(h:iR H x K):iR H' x K:=by
 cases x<;>simp only[iR]at h |- <;>try exact h
 rename_i b k;rw[show I H' b 0=I H b 0 from a (b,0) (by simp [jK])];exact h
def R9{H H':Heap} : ∀{cs:List J} {K:List J->Prop},(∀l∈cs.flatMap jK,I H' l.1 l.2=I H l.1 l.2)->l9 H cs K->l9 H' cs K
 |[],_,_,h=>h
 |c::cs,K,e,h=>by
  simp only[l9]at h |-;refine aca (λl d=>e l (by simp [d])) ?_;have f: ∀{a K2:J->Prop},(∀y,a y->K2 y)->iR H c a->iR H c K2:=λ{a K2} b h=>by
   cases c<;>simp only[iR]at h |- <;>try first|exact b _ h|exact(aF.2 ⟨(aF.1 h).1,b _ (aF.1 h).2⟩)
   split at h
   .exact⟨h.1,b _ h.2⟩
   .exact h
  exact f (λy=>R9 λl d=>e l (by simp only[g0,gj];exact .inr d)) h
def aqQ{H H':Heap}{x:J}{K:J->Prop}(a: ∀l∈jL x,I H' l.1 l.2=I H l.1 l.2)(h:kR H x K):kR H' x K:=by
 cases x
 case agg cs=>exact R9 (K:=λb=>K (.agg b)) a h
 all_goals
  simp only[jL]at a;simp only[kR]at h |-;exact aca a h
def R4{H:Heap}{c:J}{b K2:J->Prop}(a: ∀y,b y->K2 y)(h:iR H c b):iR H c K2:=by
 cases c<;>simp only[iR]at h |- <;>try first|exact a _ h|exact(aF.2 ⟨(aF.1 h).1,a _ (aF.1 h).2⟩)
 split at h
 .exact⟨h.1,a _ h.2⟩
 .exact h
def xz{H:Heap} : ∀{cs:List J} {I2 K2:List J->Prop},(∀y,I2 y->K2 y)->l9 H cs I2->l9 H cs K2
 |[],_,_,a,h=>a _ h
 |c::cs,I2,K2,a,h=>by
  simp only[l9]at h |-;exact R4 (λy=>xz λb=>a _) h
def R5{H:Heap}{c:J}{b K2:J->Prop}(d: ∀y,b y->K2 y)(h:kR H c b):kR H c K2:=by
 cases c
 case agg cs=>exact xz (I2:=λa=>b (.agg a)) (K2:=λa=>K2 (.agg a)) (λa=>d _) h
 all_goals
  simp only[kR]at h |-;exact R4 d h
def EA{H:Heap} : ∀{cs:List J} {a K2:List J->Prop},(∀y,a y->K2 y)->mQ H cs a->mQ H cs K2
 |[],_,_,b,h=>b _ h
 |c::cs,a,K2,b,h=>by
  simp only[mQ]at h |-;exact R5 (λy=>EA λd=>b _) h
def acf{H H':Heap} : ∀{cs:List J} {K:List J->Prop},(∀l∈cs.flatMap jL,I H' l.1 l.2=I H l.1 l.2)->mQ H cs K->mQ H' cs K
 |[],_,_,h=>h
 |c::cs,K,b,h=>by
  simp only[mQ]at h |-;refine aqQ (λl a=>b l (by simp only[g0,gj];exact .inl a)) ?_;exact R5 (λy=>acf λl a=>b l (by simp only[g0,gj];exact .inr a)) h
def JW{H:Heap} : ∀{c:List (List J)} {a K2:List (List J)->Prop},(∀y,a y->K2 y)->nF H c a->nF H c K2
 |[],_,_,b,h=>b _ h
 |l::c,a,K2,b,h=>by
  simp only[nF]at h |-;exact xz (λy=>JW λd=>b _) h
def acp{H H':Heap} : ∀{a:List (List J)} {K:List (List J)->Prop},(∀l∈a.flatten.flatMap jK,I H' l.1 l.2=I H l.1 l.2)->nF H a K->nF H' a K
 |[],_,_,h=>h
 |l::a,K,c,h=>by
  simp only[nF]at h |-;refine R9 (λq b=>c q (by simp only[zX,zY,gj];exact .inl b)) ?_;exact xz (λy=>acp λq b=>c q (by simp only[zX,zY,gj];exact .inr b)) h
def ao6{y:J}{q:Nat×Nat}(h:q∈(cellsOf y).flatMap jK):q∈jL y:=by
 cases y<;>simp only[cellsOf,jL,jK,g0,List.flatMap_nil,im,gj,zZ,or_false]at h |- <;>first|exact h|(cases h;done)
def aik{g:Nat}{f:List J} : ∀{e:List (Nat×Operand)} {k:Nat} {l:List (List J)},lh g f e k=some l->
  (∀q∈l.flatten.flatMap jK,q∈e.flatMap λp=>jL (eT (aE f p.2)))/\ ∀c∈l.flatten,acq c=true
 |[],k,l,h=>by
  simp only[lh,g9]at h;subst h;exact⟨λq d=>by simp at d,λc b=>by simp at b⟩
 |(i,x)::r,k,l,h=>by
  simp only[lh]at h
  split at h
  .rename_i b;simp only[b4]at b
   split at h
   .rename_i o n;simp only[g9]at h;subst h;obtain⟨j,m⟩:=aik n;refine⟨λq d=> ?_,λc a=> ?_⟩
    .simp only[zX,zY,gj]at d;simp only[g0,gj];exact d.imp ao6 (j q)
    .simp only[zX,gj]at a;rcases a with a|a
     .exact dK.1 b.2.2 c a
     .exact m c a
   .cases h
  .cases h
def VU(H:Heap)(c:Nat)(x:J)(z:Int)(K:J->Prop):Prop:=
 match x with
 | .arr a n f=>de (decide (a=c)) ((0<=z/\z<n)/\K (.ref ((f z.toNat).take a)))
 | .own b k=>match I H b 0 with
   | .ad _ a n _=>de (decide (a=c)) (k=n/\(0<=z/\z<n)/\K (.fN b k z.toNat 0))
   |_=>False
 |_=>False
def avI{H H':Heap}{l8:Nat}{x:J}{z:Int}{K:J->Prop}(a: ∀b k,x= .own b k->I H' b 0=I H b 0)(h:VU H l8 x z K):VU H' l8 x z K:=by
 cases x
 case own b k=>
  unfold VU at h |-;simp only at h |-;rw[a b k rfl];exact h
 all_goals exact h
def aij{a:Nat}{c d:List J} : ∀{C2:List (Nat×Operand)} {k:Nat},(∀x∈C2,aE d x.2=aE c x.2)->lh a d C2 k=lh a c C2 k
 |[],_,_=>rfl
 |(i,x)::r,k,h=>by
  have b:=h (i,x) (by simp);simp only at b;simp only[lh,b,aij (C2:=r) (k:=k+1) λy e=>h y (by simp [e])]
def D7{b c:List J}{d:Int}{o:Option Operand}{K:Int->Prop}(h: ∀y,o=some y->aE c y=aE b y)(a:cV b d o K):cV c d o K:=by
 cases o with
 |none=>exact a
 |some x=>simp only[cV]at a |-;rw[h x rfl];exact a
def u9{b:List J}{d:Int}{o:Option Operand}{c K2:Int->Prop}(f: ∀z,c z->K2 z)(a:cV b d o c):cV b d o K2:=by
 cases o with
 |none=>exact f _ a
 |some x=>
  simp only[cV]at a |-
  cases e:aE b x<;>rw[e]at a<;>simp only at a |- <;>first|exact a.elim|exact f _ a
def aDB{t:bS}{H H':Heap}{h i:List J}{x:J}{l hh m:Option Operand}{K:J->b5->Prop}(o: ∀y,(l=some y\/hh=some y\/m=some y)->aE i y=aE h y)(v: ∀p∈jL x,I H' p.1 p.2=I H p.1 p.2)(a:si t H h x l hh m K):si t H' i x l hh m K:=by
 unfold si at a |-;rw[aF]at a |-;obtain⟨w,a⟩:=a;refine⟨w,?_⟩;have q: ∀{j n:Int} {K:Int->Int->Int->Prop},(cV h j l λg=>cV h n hh λc=>cV h c m λr=>K g c r)->(cV i j l λg=>cV i n hh λc=>cV i c m λr=>K g c r):=λd=>
  D7 (λy f=>o y (.inl f)) (u9 (λg d=>D7 (λy f=>o y (.inr (.inl f))) (u9 (λc d=>D7 (λy f=>o y (.inr (.inr f))) d) d)) d)
 have s: ∀{j n:Int} {K:Int->Int->Prop},(cV h j l λg=>cV h n hh λc=>K g c)->(cV i j l λg=>cV i n hh λc=>K g c):=λd=>
  D7 (λy f=>o y (.inl f)) (u9 (λg d=>D7 (λy f=>o y (.inr (.inl f))) d) d)
 cases u:t.d<;>rw[u]at a<;>simp only at a |- <;>try exact a.elim
 .cases x<;>simp only at a |- <;>try exact a.elim
  cases m with
  |none=>exact s a
  |some _=>exact a.elim
 .cases x<;>simp only at a |- <;>try exact a.elim
  .exact q a
  .rw[aF]at a |-;exact⟨a.1,q a.2⟩
  .rename_i b k;rw[show I H' b 0=I H b 0 from v (b,0) (by simp [jL,jK])]
   cases e:I H b 0<;>rw[e]at a<;>simp only at a |-
   rw[aF]at a |-;exact⟨a.1,a.2.1,q a.2.2⟩
def Yn{H H':Heap}{x:J}(a: ∀l∈jK x,I H' l.1 l.2=I H l.1 l.2):uD H' x=uD H x:=by
 cases x<;>first|rfl|skip
 rename_i b k;simp only[uD];rw[show I H' b 0=I H b 0 from a (b,0) (by simp [jK])]
def JT{α β:Type}{f g:α->List β} : ∀{l:List α},(∀x∈l,f x=g x)->l.flatMap f=l.flatMap g
 |[],_=>rfl
 |x::l,h=>by
  rw[g0,g0,h x (by simp),JT λy a=>h y (by simp [a])]
def aC7{H H':Heap}{r:J}{aa:List J}(b: ∀l∈aa.flatMap jL,I H' l.1 l.2=I H l.1 l.2):ox H' r aa=ox H r aa:=by
 unfold ox
 split
 .rfl
 .unfold eO;apply JT;intro x e;have a: ∀l∈jL x,I H' l.1 l.2=I H l.1 l.2:=λl a=>b l (lX.2 ⟨x,e,a⟩)
  cases x
  case agg cs=>
   simp only[Da];apply JT;intro c d;exact Yn λl h=>a l (lX.2 ⟨c,d,h⟩)
  all_goals
   simp only[jL]at a;simp only[Da];exact Yn a
def ajt{H H':Heap}{h:Bool}{f:Nat}{y:J}{K d:Nat->(Nat->List J)->Prop}(i: ∀b k,y= .own b k->I H' b 0=I H b 0)(c: ∀m g,K m g->d m g)(a:nk H h f y K):nk H' h f y d:=by
 cases y<;>simp only[nk]at a |- <;>try exact a.elim
 .exact aF.2 ((aF.1 a).imp id (c _ _))
 .exact aF.2 ((aF.1 a).imp id (c _ _))
 .exact aF.2 ((aF.1 a).imp id (c _ _))
 .rename_i b k;rw[i b k rfl]
  cases e:I H b 0<;>rw[e]at a<;>simp only at a |-
  rw[aF]at a |-;exact⟨a.1,a.2.1,c _ _ a.2.2⟩
def aod{t:bS}{c:Bool}{H H':Heap}{aC:Nat}{x y:J}{K:J->b5->Prop}(e: ∀b k,x= .own b k->I H' b 0=I H b 0)(f: ∀b k,y= .own b k->I H' b 0=I H b 0)(a:oI t c H aC x y K):oI t c H' aC x y K:=by
 unfold oI at a |-
 cases d:t.d<;>rw[d]at a<;>simp only at a |- <;>try exact a.elim
 rw[aF]at a |-;refine⟨a.1,ajt f (λm g h=> ?_) a.2⟩
 cases x<;>simp only at h |- <;>try exact h
 rename_i b k;rw[e b k rfl];exact h
def aoa{aC:Nat}{D F:List J}{H H':Heap}{w:Op}{K:J->b5->Prop}(d: ∀x∈w.operands,aE F x=aE D x)(j: ∀l∈kC E D w,I H' l.1 l.2=I H l.1 l.2)(oc: ∀b∈qz D H w,H'.getD b []=H.getD b [])(a:iw E aC D H w K):iw E aC F H' w K:=by
 cases w<;>simp only[iw]at a |- <;>try exact a.elim
 case move x=>rw[d x (by simp [Op.operands])];exact a
 case assign x=>rw[d x (by simp [Op.operands])];exact a
 case pick c x y=>rw[d c (by simp [Op.operands]),d x (by simp [Op.operands]),d y (by simp [Op.operands])];exact a
 case alloc T=>exact a
 case box T x=>rw[d x (by simp [Op.operands])];exact a
 case build T N=>
  unfold dM at a |-
  cases e:E.ty T with
  |none=>rw[e]at a;exact a.elim
  |some t=>
   rw[e]at a;simp only at a |-
   cases A:t.d<;>rw[A]at a<;>simp only at a |- <;>try exact a.elim
   exact aaE _ _ (λx C=>d x.2 (by simp [Op.operands];exact⟨x.1,by simpa using C⟩)) a
 case load T x=>
  have p:=d x (by simp [Op.operands]);unfold dM at a |-
  cases e:E.ty T with
  |none=>rw[e]at a;exact a.elim
  |some t=>
   rw[e]at a;simp only[kC,e]at a j |-;rw[p]
   cases r:aE D x<;>rw[r]at a j<;>simp only[oq]at a |- <;>try exact a
   .rw[aaO j];exact a
   .rename_i b k i o;rw[show I H' b 0=I H b 0 from j (b,0) (by simp)];exact a
 case store T x y=>
  have p:=d x (by simp [Op.operands]);have u:=d y (by simp [Op.operands]);unfold dM at a |-
  cases e:E.ty T with
  |none=>rw[e]at a;exact a.elim
  |some t=>
   rw[e]at a;simp only[kC,e]at a j |-;rw[p,u]
   cases r:aE D x<;>rw[r]at a j<;>simp only[uJ]at a |- <;>try exact a
   .rename_i b o;rw[aaO (λl n=>j l (by simp [n])),show I H' b 0=I H b 0 from j (b,0) (by simp)];exact a
   .rename_i b k i o;rw[show I H' b 0=I H b 0 from j (b,0) (by simp)];exact a
 case makeSlice T l c=>
  have p:=d l (by simp [Op.operands]);have u:=d c (by simp [Op.operands]);unfold dM at a |-
  cases e:E.ty T with
  |none=>rw[e]at a;exact a.elim
  |some t=>
   rw[e]at a;simp only at a |-;unfold r7 at a |-;rw[p,u];exact a
 case nilCheck x=>
  have p:=d x (by simp [Op.operands]);simp only[kC]at j;rw[p]
  cases r:aE D x<;>rw[r]at a j<;>simp only[uo]at a |- <;>try exact a
  rename_i b k i o;rw[show I H' b 0=I H b 0 from j (b,0) (by simp)];exact a
 case binOp w T x y lx=>rw[d x (by simp [Op.operands]),d y (by simp [Op.operands])];exact a
 case unOp w T x=>rw[d x (by simp [Op.operands])];exact a
 case fieldAddr T x f=>
  have p:=d x (by simp [Op.operands]);unfold dM at a |-
  cases e:E.ty T with
  |none=>rw[e]at a;exact a.elim
  |some t=>
   rw[e]at a;simp only[kC]at a j |-;rw[p];simp only[sV]at a |-
   cases A:t.d<;>rw[A]at a<;>simp only at a |- <;>try exact a.elim
   rename_i HS
   cases U:HS[f]? with
   |none=>rw[U]at a;exact a.elim
   |some q=>
    rw[U]at a;simp only at a |-
    cases r:aE D x<;>rw[r]at a j<;>simp only at a |- <;>try exact a
    rename_i b k i o;rw[show I H' b 0=I H b 0 from j (b,0) (by simp)];exact a
 case indexAddr T x y=>
  have p:=d x (by simp [Op.operands]);have u:=d y (by simp [Op.operands]);unfold dM at a |-
  cases e:E.ty T with
  |none=>rw[e]at a;exact a.elim
  |some t=>
   rw[e]at a;simp only[kC]at a j |-;rw[p,u];simp only[tW]at a |-
   cases A:t.d<;>rw[A]at a<;>simp only at a |- <;>try exact a.elim
   case array=>exact a
   cases aqk:aE D y<;>rw[aqk]at a<;>simp only at a |- <;>try exact a.elim
   rename_i B _ _ z;exact avI (H:=H) (l8:=B) (x:=aE D x) (z:=z) (K:=λav=>K av []) (λb k e=>j (b,0) (by rw[e];simp)) a
 case index T x y=>
  have p:=d x (by simp [Op.operands]);have u:=d y (by simp [Op.operands]);rw[p,u];exact a
 case extract x i=>rw[d x (by simp [Op.operands])];exact a
 case buildSlice T len N=>
  unfold dM at a |-
  cases e:E.ty T with
  |none=>rw[e]at a;exact a.elim
  |some t=>
   rw[e]at a;have cx: ∀B,lh B F N.toList 0=lh B D N.toList 0:=λB=>aij (λx C=>d x.2 (by simp [Op.operands];exact⟨x.1,by simpa using C⟩));simp only[kC]at j;simp only[q5,cx]at a |-
   cases A:t.d<;>rw[A]at a<;>simp only at a |- <;>try exact a.elim
   rename_i aFD B mP
   cases n:lh B D N.toList 0 with
   |none=>rw[n]at a;exact a.elim
   |some l=>
    rw[n]at a;simp only at a |-;obtain⟨e5,hl⟩:=aF.1 a;obtain⟨zs,HP⟩:=aik n;have M: ∀q∈l.flatten.flatMap jK,I H' q.1 q.2=I H q.1 q.2:=λq P=>j q (zs q P);have Vw:eO H' l.flatten=eO H l.flatten:=by
     unfold eO;apply JT;intro c W;have at0:=HP c W;have auE: ∀q∈jK c,I H' q.1 q.2=I H q.1 q.2:=λq P=>M q (lX.2 ⟨c,W,P⟩)
     cases c
     case agg cs=>cases at0
     all_goals
      simp only[Da];exact Yn auE
    refine aF.2 ⟨e5,acp M (JW (λZ h=> ?_) hl)⟩;obtain⟨f,f1,f2⟩:=h;exact⟨f,f1,by rw[Vw];exact f2⟩
 case slice T x l hh m=>
  have p:=d x (by simp [Op.operands]);unfold dM at a |-
  cases e:E.ty T with
  |none=>rw[e]at a;exact a.elim
  |some t=>
   rw[e]at a;simp only at a |-;rw[p];refine aDB (λy v=>d y ?_) (λl n=>j l n) a;simp only[Op.operands,Array.mem_append,Option.mem_toArray];rcases v with v|v|v
   .exact .inl (.inl (.inr v))
   .exact .inl (.inr v)
   .exact .inr v
 case makeFunc fn first S=>
  cases hD:fn<;>rw[hD]at a<;>simp only at a |- <;>try exact a.elim
  have:S.toList.map (aE F)=S.toList.map (aE D):=IS λx C=>d x (by
   simp only[Op.operands];exact Array.mem_append.2 (.inr (by simpa using C)))
  rw[this];exact a
 case convert Z9 Z3 x=>
  have p:=d x (by simp [Op.operands]);unfold dM at a |-
  cases e:E.ty Z9 with
  |none=>rw[e]at a;exact a.elim
  |some t=>
   rw[e]at a;simp only at a |-
   cases G:E.ty Z3 with
   |none=>rw[G]at a;exact a.elim
   |some fu=>
    rw[G]at a;simp only at a |-;rw[p]
    cases r:aE D x<;>rw[r]at a<;>simp only[sO]at a |- <;>try exact a
    rename_i b k;rw[show I H' b 0=I H b 0 from j (b,0) (by simp [kC,r,jL,jK])];exact a
 case call c=>
  have s: ∀x∈c.args.toList,aE F x=aE D x:=λx C=>d x (by
   simp only[Op.operands,Call.operands];exact Array.mem_append.2 (.inr (by simpa using C)))
  have O: ∀{x:J},(∃y∈c.args.toList,x=aE D y)-> ∀b k,x= .own b k->I H' b 0=I H b 0:=λ{x} d b k e=>by
   obtain⟨y,v,rfl⟩:=d;exact j (b,0) (lX.2 ⟨y,v,by rw[e];simp [jL,jK]⟩)
  cases L:c.callee with
  |value f=>
   rw[L]at a;simp only at a |-;have GO:aE F f=aE D f:=d f (by simp only[Op.operands,Call.operands,L];simp);rw[GO];unfold Ap at a |-
   cases hD:aE D f<;>rw[hD]at a<;>simp only at a |- <;>try exact a.elim
   rename_i g R;rw[IS s]
   cases V:y7 E.eA g (c.args.toList.map (aE D)++R)with
   |true=>
    rw[V]at a;simp only at a |-;refine at1 (λb jh=>oc b ?_) a;simp only[qz,L,hD];exact jh
   |false=>
   rw[V]at a;simp only at a |-;rw[aF]at a |-;obtain⟨X,a⟩:=a;refine⟨X,?_⟩;have key: ∀z:J,jK (HJ z)=jK z:=λz=>by cases z<;>rfl
   have M: ∀l∈((c.args.toList.map (aE D)++R).map eT).flatMap jL,I H' l.1 l.2=I H l.1 l.2:=λl n=>by
    rw[List.map_append,zY,gj]at n;rcases n with n|n
    .refine j l ?_;simp only[lX,px]at n;obtain⟨y,⟨Q,⟨x,VN,rfl⟩,rfl⟩,n⟩:=n;refine lX.2 ⟨x,VN,?_⟩
     cases abN:aE D x<;>rw[abN]at n<;>first|exact n|skip
     simp only[jL,eT,lX,px]at n |-;obtain⟨aE6,⟨z,hG,rfl⟩,n⟩:=n;exact⟨z,hG,by rw[key]at n;exact n⟩
    .simp only[lX,px]at n;obtain⟨y,⟨Q,VO,rfl⟩,n⟩:=n;have yR:=dK.1 X Q VO
     cases Q<;>first|(cases yR;done)|(simp [eT,HJ,jL,jK]at n;done)
   unfold va at a |-;refine acf M (EA (λZ h=> ?_) a)
   cases Y:E.spec g Z with
   |none=>rw[Y]at h;exact h.elim
   |some q=>
    rw[Y]at h;obtain⟨pre,eI⟩:=q;simp only at h |-;rwa [aC7 M]
  |invoke eI m=>rw[L]at a;exact a.elim
  |builtin b=>
   rw[L]at a
   cases b<;>simp only at a |- <;>try exact a.elim
   case append=>
    split at a
    .rename_i x y T w7 r apP;rw[r]at s O;have p:=s x (by simp);have u:=s y (by simp);unfold dM at a |-
     cases e:E.ty T with
     |none=>rw[e]at a;exact a.elim
     |some t=>
      rw[e]at a;simp only at a |-
      cases G:E.ty w7 with
      |none=>rw[G]at a;exact a.elim
      |some t2=>
       rw[G]at a;simp only at a |-;rw[aF]at a |-;rw[p,u];exact⟨a.1,aod (O ⟨x,by simp,rfl⟩) (O ⟨y,by simp,rfl⟩) a.2⟩
    .exact a.elim
   case min=>
    split at a
    .rename_i x y r;rw[r]at s;rw[s x (by simp),s y (by simp)];exact a
    .exact a.elim
   case max=>
    split at a
    .rename_i x y r;rw[r]at s;rw[s x (by simp),s y (by simp)];exact a
    .exact a.elim
   case len=>
    simp only[kC]at j
    split at a
    .rename_i x T r apP;rw[r]at s j;have p:=s x (by simp);rw[p];unfold dM at a |-
     cases e:E.ty T with
     |none=>rw[e]at a;exact a.elim
     |some t=>
      rw[e]at a;simp only at a |-;rw[aF]at a |-;refine⟨a.1,?_⟩;have a:=a.2
      cases r:aE D x<;>rw[r]at a<;>simp only[qs]at a |- <;>try exact a
      rename_i b k;rw[show I H' b 0=I H b 0 from j (b,0) (by simp [r,jL,jK])];exact a
    .exact a.elim
def aio{b:Bool}{x y:J}{K:J->Prop}(h:H4 b x y K): ∃av,H4 b x y (λz=>z=av)/\K av:=by
 cases b<;>exact⟨_,rfl,h⟩
def azE{t:bS}{H:Heap}{x:J}{K:J->Prop}(h:oq t H x K): ∃av,oq t H x (λz=>z=av)/\K av:=by
 cases x<;>simp only[oq,aF]at h |- <;>try exact h.elim
 .exact⟨_,⟨h.1,rfl⟩,h.2⟩
 .split at h
  .exact⟨_,⟨h.1,h.2.1,h.2.2.1,rfl⟩,h.2.2.2⟩
  .exact h.elim
 .exact⟨_,⟨h.1,rfl⟩,h.2⟩
def aDN{t:bS}{H:Heap}{x y:J}{K:b5->Prop}(h:uJ t H x y K): ∃ws,uJ t H x y (λz=>z=ws)/\K ws:=by
 cases x<;>simp only[uJ,aF]at h |- <;>try exact h.elim
 .exact⟨_,⟨h.1,rfl⟩,h.2⟩
 .rename_i b k i o
  cases e:I H b 0<;>rw[e]at h<;>simp only at h |- <;>try exact h.elim
  obtain⟨a,c,d,g,j,f⟩:=h;exact⟨_,⟨a,c,d,g,j,rfl⟩,f⟩
def azX{E:Env}{t:bS}{a:List J}{aC:Nat}{l c:Operand}{K:J->b5->Prop}(h:r7 E t a aC l c K): ∃av ws,r7 E t a aC l c (λx y=>x=av/\y=ws)/\K av ws:=by
 unfold r7 at h |-
 cases d:t.d<;>rw[d]at h<;>simp only at h |- <;>try exact h.elim
 rename_i e n m
 cases g:E.ty e<;>rw[g]at h<;>simp only at h |-
 cases f:aE a l<;>rw[f]at h<;>simp only at h |- <;>try exact h.elim
 cases b:aE a c<;>rw[b]at h<;>simp only at h |- <;>try exact h.elim
 obtain⟨i,j,k⟩:=aF.1 h;exact⟨_,_,aF.2 ⟨i,j,rfl,rfl⟩,k⟩
def aqw{t:bS}{H:Heap}{f:Nat}{x:J}{K:J->Prop}(h:sV t H f x K): ∃av,sV t H f x (λz=>z=av)/\K av:=by
 unfold sV at h |-
 cases a:t.d<;>rw[a]at h<;>simp only at h |- <;>try exact h.elim
 rename_i c
 cases b:c[f]? <;>rw[b]at h<;>simp only at h |-
 cases x<;>simp only at h |- <;>try exact h.elim
 .exact⟨_,rfl,h⟩
 .split at h
  .exact⟨_,⟨h.1,rfl⟩,h.2⟩
  .exact h.elim
 .exact⟨_,rfl,h⟩
def avG{t:bS}{H:Heap}{x y:J}{K:J->Prop}(h:tW t H x y K): ∃av,tW t H x y (λz=>z=av)/\K av:=by
 unfold tW at h |-
 cases a:t.d<;>rw[a]at h<;>simp only at h |- <;>try exact h.elim
 case array=>
  cases y<;>simp only at h |- <;>try exact h.elim
  cases x<;>simp only[aF]at h |- <;>first|exact h.elim|exact⟨_,⟨h.1,rfl⟩,h.2⟩
 cases y<;>simp only at h |- <;>try exact h.elim
 cases x<;>simp only at h |- <;>try exact h.elim
 .rw[aF]at h;exact⟨_,aF.2 ⟨h.1,h.2.1,rfl⟩,h.2.2⟩
 .split at h
  .rw[aF]at h;exact⟨_,aF.2 ⟨h.1,h.2.1,h.2.2.1,rfl⟩,h.2.2.2⟩
  .exact h.elim
def avy{E:TypeId->Option bS}{t:bS}{x y:J}{K:J->Prop}(h:wj E t x y K): ∃av,wj E t x y (λz=>z=av)/\K av:=by
 unfold wj at h |-
 cases a:t.d<;>rw[a]at h<;>simp only at h |- <;>try exact h.elim
 cases y<;>simp only at h |- <;>try exact h.elim
 cases x<;>simp only at h |- <;>try exact h.elim
 rename_i n e c _ _ _
 cases b:E e<;>rw[b]at h<;>simp only[aF]at h |- <;>first|exact h.elim|exact⟨_,⟨h.1,rfl⟩,h.2⟩
def avP{a:BinOp}{k:IntKind}{p q:Int}{K:J->Prop}(h:wo a k p q K): ∃av,wo a k p q (λz=>z=av)/\K av:=by
 cases a<;>simp only[wo]at h |- <;>first|exact h.elim|exact⟨_,rfl,h⟩|exact⟨_,⟨h.1,rfl⟩,h.2⟩
def aoq{t:bS}{a:BinOp}{x y:J}{K:J->Prop}(h:pJ t a x y K): ∃av,pJ t a x y (λz=>z=av)/\K av:=by
 cases x<;>cases y<;>simp only[pJ]at h |- <;>try exact h.elim
 .cases d:M6 a with
  |true=>
   rw[d]at h;simp only[OG]at h |-;obtain⟨f,h⟩:=h
   cases a<;>simp only at h |- <;>first|exact h.elim|exact⟨_,⟨f,rfl⟩,h⟩
  |false=>
   rw[d]at h;simp only at h |-;rw[aF]at h;obtain⟨av,b,g⟩:=avP h.2;exact⟨av,aF.2 ⟨h.1,b⟩,g⟩
 .cases e:t.d<;>rw[e]at h<;>simp only at h |- <;>try exact h.elim
  cases a<;>simp only at h |- <;>first|exact h.elim|exact⟨_,rfl,h⟩
 .cases a<;>simp only at h |- <;>first|exact h.elim|exact⟨_,rfl,h⟩|exact⟨_,⟨h.1,rfl⟩,h.2⟩
 .rw[aF]at h;obtain⟨b,c⟩:=h
  cases a<;>simp only at c |- <;>first|exact c.elim|exact⟨_,aF.2 ⟨b,rfl⟩,c⟩
def aEu{a:UnOp}{x:J}{K:J->Prop}(h:zQ a x K): ∃av,zQ a x (λz=>z=av)/\K av:=by
 cases a<;>cases x<;>simp only[zQ]at h |- <;>first|exact h.elim|exact⟨_,rfl,h⟩
def azu{H:Heap}{x:J}{K:J->Prop}(h:qs H x K): ∃av,qs H x (λz=>z=av)/\K av:=by
 cases x<;>simp only[qs]at h |- <;>try first|exact h.elim|exact⟨_,rfl,h⟩
 split at h
 .exact⟨_,⟨h.1,rfl⟩,h.2⟩
 .exact h.elim
def aAQ{H:Heap}{x:J}{K:J->Prop}(h:uo H x K): ∃av,uo H x (λz=>z=av)/\K av:=by
 cases x<;>simp only[uo]at h |- <;>try first|exact h.elim|exact⟨_,rfl,h⟩
 split at h
 .exact⟨_,⟨h.1,rfl⟩,h.2⟩
 .exact h.elim
def aaF{c:List (Nat×Nat)}{d:List J}{K:List J->Prop} : ∀(b:List (Nat×Operand)) (cs:List J),nw c d b cs K-> ∃a,nw c d b cs (λz=>z=a)/\K a
 |[],cs,h=>⟨cs,rfl,h⟩
 |(i,x)::b,cs,h=>by
  simp only[nw]at h |-
  cases e:c[i]? with
  |none=>rw[e]at h;exact h.elim
  |some q=>
   rw[e]at h;simp only at h |-;rw[aF]at h;obtain⟨a,f,g⟩:=aaF b _ h.2;exact⟨a,aF.2 ⟨h.1,f⟩,g⟩
def ace{H:Heap}{x:J}{K:J->Prop}(h:iR H x K): ∃y,iR H x (λz=>z=y)/\K y:=by
 cases x<;>simp only[iR]at h |- <;>try first|exact⟨_,rfl,h⟩|exact⟨_,aF.2 ⟨(aF.1 h).1,rfl⟩,(aF.1 h).2⟩
 split at h
 .exact⟨_,⟨h.1,rfl⟩,h.2⟩
 .exact h.elim
def R_{H:Heap} : ∀{cs:List J} {K:List J->Prop},l9 H cs K-> ∃a,l9 H cs (λz=>z=a)/\K a
 |[],_,h=>⟨[],rfl,h⟩
 |c::cs,K,h=>by
  obtain⟨y,b,d⟩:=ace h;obtain⟨a,e,f⟩:=R_ d;exact⟨y::a,R4 (λz g=>by subst g;exact xz (λj i=>by rw[i]) e) b,f⟩
def Se{H:Heap} : ∀{b:List (List J)} {K:List (List J)->Prop},nF H b K-> ∃a,nF H b (λz=>z=a)/\K a
 |[],_,h=>⟨[],rfl,h⟩
 |c::cs,K,h=>by
  obtain⟨y,d,e⟩:=R_ h;obtain⟨a,f,g⟩:=Se e;exact⟨y::a,xz (λz i=>by subst i;exact JW (λk j=>by rw[j]) f) d,g⟩
def aqS{H:Heap}{x:J}{K:J->Prop}(h:kR H x K): ∃y,kR H x (λz=>z=y)/\K y:=by
 cases x
 case agg cs=>
  obtain⟨a,b,c⟩:=R_ (K:=λa=>K (.agg a)) h;exact⟨.agg a,xz (K2:=λz=>J.agg z= .agg a) (λz d=>by rw[d]) b,c⟩
 all_goals
  simp only[kR]at h |-;exact ace h
def aci{H:Heap} : ∀{cs:List J} {K:List J->Prop},mQ H cs K-> ∃a,mQ H cs (λz=>z=a)/\K a
 |[],_,h=>⟨[],rfl,h⟩
 |c::cs,K,h=>by
  obtain⟨y,b,d⟩:=aqS h;obtain⟨a,e,f⟩:=aci d;exact⟨y::a,R5 (λz g=>by subst g;exact EA (λj i=>by rw[i]) e) b,f⟩
def aCV{aC:Nat}{r:J}{a:b5}{K:J->b5->Prop}(h:uC aC r a K): ∃av b,uC aC r a (λx y=>x=av/\y=b)/\K av b:=by
 cases r<;>exact⟨_,_,⟨rfl,rfl⟩,h⟩
def aoW{H:Heap}{aC:Nat}{f:FuncId}{c:List J}{K:J->b5->Prop}(h:va E H aC f c K): ∃av ws,va E H aC f c (λx y=>x=av/\y=ws)/\K av ws:=by
 obtain⟨l,d,a⟩:=aci h
 cases b:E.spec f l with
 |none=>rw[b]at a;exact a.elim
 |some q=>
  obtain⟨m,r⟩:=q;rw[b]at a;obtain⟨e,g⟩:=qy.1 a;obtain⟨av,ws,i,j⟩:=aCV g;refine⟨av,ws,EA (λz k=> ?_) d,j⟩;subst k;rw[b];exact qy.2 ⟨e,i⟩
def D8{a:List J}{d:Int}{o:Option Operand}{K:Int->Prop}(h:cV a d o K): ∃z,cV a d o (λy=>y=z)/\K z:=by
 cases o with
 |none=>exact⟨_,rfl,h⟩
 |some x=>
  simp only[cV]at h |-
  cases e:aE a x<;>rw[e]at h<;>simp only at h |- <;>first|exact h.elim|exact⟨_,rfl,h⟩
def Rd{d:List J}{f g:Int}{l hh m:Option Operand}{C:Int->Int->Int->Prop}{A:Int->Int->Int->J}{ws:b5}{K:J->b5->Prop}(h:cV d f l λb=>cV d g hh λa=>cV d a m λc=>C b a c/\K (A b a c) ws):
  ∃av,(cV d f l λb=>cV d g hh λa=>cV d a m λc=>C b a c/\(A b a c=av/\ws=ws))/\K av ws:=by
 obtain⟨b,i,h⟩:=D8 h;obtain⟨a,j,h⟩:=D8 h;obtain⟨c,k,h⟩:=D8 h;refine⟨A b a c,u9 (λz e=> ?_) i,h.2⟩;subst e;refine u9 (λz e=> ?_) j;subst e;refine u9 (λz e=> ?_) k;subst e;exact⟨h.1,rfl,rfl⟩
def aDC{t:bS}{H:Heap}{u:List J}{x:J}{l hh m:Option Operand}{K:J->b5->Prop}(h:si t H u x l hh m K): ∃av ws,si t H u x l hh m (λp q=>p=av/\q=ws)/\K av ws:=by
 unfold si at h |-;rw[aF]at h;obtain⟨j,h⟩:=h
 cases v:t.d<;>rw[v]at h<;>simp only at h<;>try exact h.elim
 .cases x<;>simp only at h |- <;>try exact h.elim
  cases m with
  |some _=>exact h.elim
  |none=>
   obtain⟨d,a,h⟩:=D8 h;obtain⟨o,c,h⟩:=D8 h;refine⟨_,[],aF.2 ⟨j,u9 (λz s=> ?_) a⟩,h.2⟩;subst s;refine u9 (λz s=> ?_) c;subst s;exact⟨h.1,rfl,rfl⟩
 .cases x<;>simp only at h |- <;>try exact h.elim
  .obtain⟨av,a,c⟩:=Rd (A:=λ_ _ _=>J.aG) h;exact⟨av,[],aF.2 ⟨j,a⟩,c⟩
  .rename_i g n f;rw[aF]at h;obtain⟨r,h⟩:=h;obtain⟨av,a,c⟩:=Rd (A:=λd o _=>uv (kO m g) g (o-d).toNat (λi=>f (d.toNat+i))) h;exact⟨av,[],aF.2 ⟨j,aF.2 ⟨r,a⟩⟩,c⟩
  .rename_i b k
   cases e:I H b 0<;>rw[e]at h<;>simp only at h |- <;>try exact h.elim
   rename_i y g n f;obtain⟨r,w,h⟩:=aF.1 h;obtain⟨av,a,c⟩:=Rd (A:=λd o _=>uv (kO m g) g (o-d).toNat (λi=>f (d.toNat+i))) h;exact⟨av,_,aF.2 ⟨j,aF.2 ⟨r,w,a⟩⟩,c⟩
def apo{t u:bS}{c:Option bS}{H:Heap}{x:J}{K:J->Prop}(h:sO t u c H x K): ∃av,sO t u c H x (λz=>z=av)/\K av:=by
 cases x<;>simp only[sO]at h |- <;>try exact h.elim
 .cases b:u.d<;>rw[b]at h<;>simp only at h |- <;>try exact h.elim
  cases a:t.d<;>rw[a]at h<;>simp only at h |- <;>first|exact h.elim|exact⟨_,rfl,h⟩
 .cases a:t.d<;>rw[a]at h<;>simp only at h |- <;>try exact h.elim
  cases b:u.d<;>rw[b]at h<;>simp only at h |- <;>first|exact⟨_,rfl,h⟩|exact⟨_,aF.2 ⟨(aF.1 h).1,rfl⟩,(aF.1 h).2⟩
 .exact⟨_,aF.2 ⟨(aF.1 h).1,rfl⟩,(aF.1 h).2⟩
 .exact⟨_,aF.2 ⟨(aF.1 h).1,(aF.1 h).2.1,rfl⟩,(aF.1 h).2.2⟩
 .split at h
  .exact⟨_,aF.2 ⟨(aF.1 h).1,(aF.1 h).2.1,(aF.1 h).2.2.1,rfl⟩,(aF.1 h).2.2.2⟩
  .exact h.elim
def aDI{H:Heap}{d:Bool}{c:Nat}{y:J}{K:Nat->(Nat->List J)->Prop}(h:nk H d c y K): ∃m g,nk H d c y (λa b=>a=m/\b=g)/\K m g:=by
 cases y<;>simp only[nk]at h |- <;>try exact h.elim
 .exact⟨_,_,aF.2 ⟨(aF.1 h).1,rfl,rfl⟩,(aF.1 h).2⟩
 .exact⟨_,_,aF.2 ⟨(aF.1 h).1,rfl,rfl⟩,(aF.1 h).2⟩
 .exact⟨_,_,aF.2 ⟨(aF.1 h).1,rfl,rfl⟩,(aF.1 h).2⟩
 .split at h
  .exact⟨_,_,aF.2 ⟨(aF.1 h).1,(aF.1 h).2.1,rfl,rfl⟩,(aF.1 h).2.2⟩
  .exact h.elim
def aoe{t:bS}{r:Bool}{H:Heap}{aC:Nat}{x y:J}{K:J->b5->Prop}(h:oI t r H aC x y K): ∃av ws,oI t r H aC x y (λp q=>p=av/\q=ws)/\K av ws:=by
 unfold oI at h |-
 cases s:t.d<;>rw[s]at h<;>simp only at h |- <;>try exact h.elim
 rw[aF]at h;obtain⟨n,h⟩:=h;obtain⟨m,g,u,c⟩:=aDI h;clear h;have d: ∀{Z:Nat->(Nat->List J)->Prop},Z m g->nk H r _ y Z:=λv=>ajt (λ_ _ _=>rfl) (λa b w=>by obtain⟨rfl,rfl⟩:=w;exact v) u
 cases x<;>simp only at c |- <;>try exact c.elim
 .exact⟨_,_,aF.2 ⟨n,d ⟨c.1,rfl,rfl⟩⟩,c.2⟩
 .rename_i b k
  cases e:I H b 0<;>rw[e]at c<;>simp only at c |- <;>try exact c.elim
  obtain⟨o,f,i,hh,l,j⟩:=aF.1 c;exact⟨_,_,aF.2 ⟨n,d (aF.2 ⟨o,f,i,hh,l,rfl,rfl⟩)⟩,j⟩
 .obtain⟨o,f,i,hh,l,j⟩:=aF.1 c;exact⟨_,_,aF.2 ⟨n,d (aF.2 ⟨o,f,i,hh,l,rfl,rfl⟩)⟩,j⟩
def aox{t:bS}{b:List J}{H:Heap}{aC c:Nat}{a:List (Nat×Operand)}{K:J->b5->Prop}(h:q5 t b H aC c a K): ∃av ws,q5 t b H aC c a (λp q=>p=av/\q=ws)/\K av ws:=by
 unfold q5 at h |-
 cases d:t.d<;>rw[d]at h<;>simp only at h |- <;>try exact h.elim
 rename_i e f o
 cases m:lh f b a 0<;>rw[m]at h<;>simp only at h |-
 obtain⟨g,i⟩:=aF.1 h;obtain⟨r,j,hh,k,l⟩:=Se i;exact⟨_,_,aF.2 ⟨g,JW (λz n=>by subst n;exact⟨hh,k,rfl,rfl⟩) j⟩,l⟩
def az7{x y:J}{K:J->Prop}(h:zk x y K): ∃av,zk x y (λz=>z=av)/\K av:=by
 cases x<;>cases y<;>simp only[zk]at h |- <;>try exact h.elim
 exact⟨_,aF.2 ⟨(aF.1 h).1,rfl⟩,(aF.1 h).2⟩
def az2{x y:J}{K:J->Prop}(h:zi x y K): ∃av,zi x y (λz=>z=av)/\K av:=by
 cases x<;>cases y<;>simp only[zi]at h |- <;>try exact h.elim
 exact⟨_,aF.2 ⟨(aF.1 h).1,rfl⟩,(aF.1 h).2⟩
def aoc{aC:Nat}{o:List J}{H:Heap}{u:Op}{K:J->b5->Prop}(a:iw E aC o H u K): ∃av ws,iw E aC o H u (λx y=>x=av/\y=ws)/\K av ws:=by
 have q: ∀{p:(J->Prop)->Prop},(∃av,p (λz=>z=av)/\K av [])->(∀av,p (λz=>z=av)->p (λz=>z=av/\([]:b5)=[]))-> ∃av ws,p (λx=>x=av/\([]:b5)=ws)/\K av ws:=λ⟨av,j,n⟩ P=>⟨av,[],P av j,n⟩;have e: ∀av:J,(λz=>z=av/\([]:b5)=[])=(λz=>z=av):=λav=>by funext z;simp
 cases u<;>simp only[iw]at a |- <;>try exact a.elim
 case move x=>exact⟨_,_,⟨rfl,rfl⟩,a⟩
 case assign x=>exact⟨_,_,⟨rfl,rfl⟩,a⟩
 case pick c x y=>
  cases s:aE o c<;>rw[s]at a<;>simp only at a |- <;>try exact a.elim
  .exact q (aio a) λav h=>by rw[e];exact h
  .exact q (aio a) λav h=>by rw[e];exact h
 case alloc T=>
  unfold dM at a |-
  cases d:E.ty T<;>rw[d]at a<;>simp only at a |-
  rw[aF]at a;exact⟨_,_,aF.2 ⟨a.1,rfl,rfl⟩,a.2⟩
 case box T x=>
  rw[aF]at a;exact⟨_,_,aF.2 ⟨a.1,rfl,rfl⟩,a.2⟩
 case build T Q=>
  unfold dM at a |-
  cases d:E.ty T<;>rw[d]at a<;>simp only at a |-
  rename_i t
  cases N:t.d<;>rw[N]at a<;>simp only at a |- <;>try exact a.elim
  obtain⟨I,j,n⟩:=aaF _ _ a;refine⟨.agg I,[],?_,n⟩;simpa using j
 case load T x=>
  unfold dM at a |-
  cases d:E.ty T<;>rw[d]at a<;>simp only at a |-
  exact q (azE a) λav h=>by rw[e];exact h
 case store T x y=>
  unfold dM at a |-
  cases d:E.ty T<;>rw[d]at a<;>simp only at a |-
  obtain⟨ws,j,n⟩:=aDN a;exact⟨.undef,ws,by simpa using j,n⟩
 case nilCheck x=>exact q (aAQ a) λav h=>by rw[e];exact h
 case binOp u T x y R=>
  unfold dM at a |-
  cases d:E.ty T<;>rw[d]at a<;>simp only at a |-
  exact q (aoq a) λav h=>by rw[e];exact h
 case unOp u T x=>exact q (aEu a) λav h=>by rw[e];exact h
 case fieldAddr T x f=>
  unfold dM at a |-
  cases d:E.ty T<;>rw[d]at a<;>simp only at a |-
  exact q (aqw a) λav h=>by rw[e];exact h
 case indexAddr T x y=>
  unfold dM at a |-
  cases d:E.ty T<;>rw[d]at a<;>simp only at a |-
  exact q (avG a) λav h=>by rw[e];exact h
 case index T x y=>
  unfold dM at a |-
  cases d:E.ty T<;>rw[d]at a<;>simp only at a |-
  exact q (avy a) λav h=>by rw[e];exact h
 case extract x i=>
  cases v:aE o x<;>rw[v]at a<;>simp only[AL]at a |- <;>try exact a.elim
  rw[aF]at a;exact⟨_,_,aF.2 ⟨a.1,rfl,rfl⟩,a.2⟩
 case buildSlice T len Q=>
  unfold dM at a |-
  cases d:E.ty T<;>rw[d]at a<;>simp only at a |-
  exact aox a
 case makeSlice T l c=>
  unfold dM at a |-
  cases d:E.ty T<;>rw[d]at a<;>simp only at a |-
  exact azX a
 case slice T x l hh m=>
  unfold dM at a |-
  cases d:E.ty T<;>rw[d]at a<;>simp only at a |-
  exact aDC a
 case makeFunc O first S=>
  cases hD:O<;>rw[hD]at a<;>simp only at a |- <;>try exact a.elim
  obtain⟨j,n⟩:=aF.1 a;exact⟨_,_,aF.2 ⟨j,rfl,rfl⟩,n⟩
 case convert F D x=>
  unfold dM at a |-
  cases d:E.ty F<;>rw[d]at a<;>simp only at a |-
  cases M:E.ty D<;>rw[M]at a<;>simp only at a |-
  exact q (apo a) λav h=>by rw[e];exact h
 case call c=>
  cases s:c.callee with
  |value f=>
   rw[s]at a;simp only at a |-;unfold Ap at a |-
   cases hD:aE o f<;>rw[hD]at a<;>simp only at a |- <;>try exact a.elim
   rename_i g G
   cases B:y7 E.eA g (c.args.toList.map (aE o)++G)with
   |true=>
    rw[B]at a;exact at2 a
   |false=>
    rw[B]at a;obtain⟨j,n⟩:=aF.1 a;obtain⟨av,ws,w,A⟩:=aoW n;exact⟨av,ws,aF.2 ⟨j,w⟩,A⟩
  |invoke r m=>rw[s]at a;exact a.elim
  |builtin b=>
   rw[s]at a
   cases b<;>simp only at a |- <;>try exact a.elim
   case append=>
    split at a
    .unfold dM at a |-;rename_i x y T C v d
     cases d:E.ty T<;>rw[d]at a<;>simp only at a |-
     cases L:E.ty C<;>rw[L]at a<;>simp only at a |-
     obtain⟨j,n⟩:=aF.1 a;obtain⟨av,ws,w,A⟩:=aoe n;exact⟨av,ws,aF.2 ⟨j,w⟩,A⟩
    .exact a.elim
   case min=>
    split at a
    .exact q (az7 a) λav h=>by rw[e];exact h
    .exact a.elim
   case max=>
    split at a
    .exact q (az2 a) λav h=>by rw[e];exact h
    .exact a.elim
   case len=>
    split at a
    .unfold dM at a |-;rename_i x T v d
     cases d:E.ty T<;>rw[d]at a<;>simp only at a |-
     rw[aF]at a;exact q (p:=λk=>de (Ht _ _) (qs H (aE o x) k)) (by obtain⟨av,j,n⟩:=azu a.2;exact⟨av,aF.2 ⟨a.1,j⟩,n⟩) λav h=>by rw[e];exact h
    .exact a.elim
end
structure Zy (E:Env) (ops:Array Oper) (o:Oper) (st:O) (r:Rec):Prop where
 wanted:sl ops o st.D=some r.run
 yes:r.run=true->(∃av,iw E r.aC st.D st.k o.op (λx y=>x=av/\y=r.ws)/\I4 av r.val)/\r.rd=kC E st.D o.op/\r.f_=qz st.D st.k o.op/\st.k.length<=r.aC
 no:r.run=false->r.val= .gone/\r.ws=[]
inductive uX (E:Env) (ops:Array Oper):List Oper->O->List Rec->O->Prop
 |nil (st:O):uX E ops [] st [] st
 |cons (o:Oper) (l:List Oper) (st:O) (r:Rec) (rs:List Rec) (kD:O) (h:Zy E ops o st r) (k:uX E ops l (hB o r st) rs kD):uX E ops (o::l) st (r::rs) kD
def sJ(E:Env)(ops:Array Oper):List Oper->Nat->O->List Rec->(List Rec->O->Prop)->Prop
 |[],_,st,rs,K=>K rs.reverse st
 |o::a,i,st,rs,K=>wa ops o st (∃aC,st.k.length<=aC/\iw E aC st.D st.k o.op λav b=>CF (IE a i) av λav=>sJ E ops a (i+1) ⟨kh o.dst av st.D,bJ st.k b⟩ (⟨av,b,kC E st.D o.op,qz st.D st.k o.op,aC,true⟩::rs) K)
   (sJ E ops a (i+1) ⟨kh o.dst .gone st.D,st.k⟩ (⟨.gone,[],[],[],0,false⟩::rs) K)
def Q1{E:Env}{ops:Array Oper} : ∀(l:List Oper) (i:Nat) (st:O) (acc:List Rec) (K:List Rec->O->Prop),sJ E ops l i st acc K->
  ∃rs a,uX E ops l st rs a/\K (acc.reverse++rs) a
 |[],_,st,acc,K,h=>⟨[],st,.nil st,by simpa[sJ]using h⟩
 |o::l,i,st,acc,K,h=>by
  rcases ae2 h with⟨g,b⟩|⟨g,b⟩
  .obtain⟨aC,m,b⟩:=b;obtain⟨av,n,j,c⟩:=aoc b;obtain⟨r,k,c⟩:=ahg c;obtain⟨rs,a,d,f⟩:=Q1 l _ _ _ K c;refine⟨_::rs,a,.cons o l st ⟨r,n,kC E st.D o.op,qz st.D st.k o.op,aC,true⟩ rs a ⟨g,λ_=>⟨⟨av,j,k⟩,rfl,rfl,m⟩,(λe=>by cases e)⟩ d,by simpa using f⟩
  .obtain⟨rs,a,d,f⟩:=Q1 l _ _ _ K b;refine⟨_::rs,a,.cons o l st ⟨.gone,[],[],[],0,false⟩ rs a ⟨g,(λe=>by cases e),λ_=>⟨rfl,rfl⟩⟩ d,by simpa using f⟩
def acc(L:Nat->Bool):List (Oper×Rec)->Nat->O->O
 |[],_,st=>st
 |(o,r)::l,i,st=>acc L l (i+1) (cond (L i) (hB o r st) st)
def writes(a:b5)(b p:Nat):Prop:= ∃c,(b,p,c)∈a
def MU: ∀(a:b5) (H:Heap) (b p:Nat),¬writes a b p->I (bJ H a) b p=I H b p
 |[],_,_,_,_=>rfl
 |(b',f,c)::a,H,b,p,h=>by
  rw[bJ,MU a _ b p (λ⟨d,e⟩=>h ⟨d,by simp [e]⟩),eZ,aS]
  rintro⟨rfl,rfl⟩
  exact h ⟨c,by simp⟩
def VJ: ∀(a:b5) (H H':Heap) (b p:Nat),(writes a b p\/I H' b p=I H b p)->I (bJ H' a) b p=I (bJ H a) b p
 |[],_,_,_,_,h=>h.elim (λ⟨_,h⟩=>by cases h) id
 |(b',i,c)::a,H,H',b,p,h=>by
  rw[bJ,bJ];refine VJ a _ _ b p ?_
  by_cases f:writes a b p
  .exact .inl f
  .refine .inr ?_;rw[eZ,eZ]
   by_cases e:b=b'/\p=i
   .rw[a5 e,a5 e]
   .rw[aS e,aS e];rcases h with⟨g,d⟩|h
    .rcases iI.1 d with d|d
     .cases d;exact absurd ⟨rfl,rfl⟩ e
     .exact absurd ⟨g,d⟩ f
    .exact h
def Wk: ∀(d:b5) (H:Heap),H.length<=(bJ H d).length/\ ∀b p,writes d b p->b<(bJ H d).length
 |[],_=>⟨bN _,λ_ _ ⟨_,h⟩=>by cases h⟩
 |(b,p,c)::d,H=>by
  have f:=wx H b p c;have e:=Wk d (bI H b p c);refine⟨dP f.1 e.1,λb' i ⟨g,a⟩=> ?_⟩;rcases iI.1 a with a|a
  .cases a;exact gR f.2 e.1
  .exact e.2 b' i ⟨g,a⟩
def Em(d:Option Nat)(av:J)(a:List J)(t:Nat):(kh d av a)[t]? =if d=some t then(a[t]?).map (λ_=>av)else a[t]? :=by
 cases d with
 |none=>simp [kh]
 |some d=>
  simp only[kh,uQ,g9]
  by_cases e:d=t
  .subst e;simp only[lp]
   split
   .rename_i h;simp [cM h]
   .rename_i h;rw[eX Ω];rfl
  .simp [e]
def Ja{L b:Nat->Bool}{t:Nat} : ∀(l:List (Oper×Rec)) (k:Nat) (st a:O),(st.D[t]? =a.D[t]?)->(∀(i:Nat) o r,l[i]? =some (o,r)->o.dst=some t->L (k+i)=b (k+i))->(acc L l k st).D[t]? =(acc b l k a).D[t]?
 |[],_,_,_,h,_=>h
 |(o,r)::l,k,st,a,h,c=>by
  rw[acc,acc];refine Ja l (k+1) _ _ ?_ λi m n j g=>by
   have:=c (i+1) m n (by simpa using j) g;rwa [show k+(i+1)=k+1+i by omega]at this
  by_cases e:o.dst=some t
  .have:=c 0 o r rfl e;rw[mD]at this;rw[this]
   cases b k
   .exact h
   .simp only[aR,hB,Em,e,lp,h]
  .have d:(hB o r st).D[t]? =st.D[t]? :=by simp [hB,Em,e]
   have f:(hB o r a).D[t]? =a.D[t]? :=by simp [hB,Em,e]
   cases L k<;>cases b k<;>simp only[aR,aX,d,f,h]
def DT{L c:Nat->Bool}{b p:Nat} : ∀(l:List (Oper×Rec)) (k:Nat) (st a:O),(I st.k b p=I a.k b p)->(∀(i:Nat) o r,l[i]? =some (o,r)->writes r.ws b p->L (k+i)=c (k+i))->I (acc L l k st).k b p=I (acc c l k a).k b p
 |[],_,_,_,h,_=>h
 |(o,r)::l,k,st,a,h,d=>by
  rw[acc,acc];refine DT l (k+1) _ _ ?_ λi n q m j=>by
   have:=d (i+1) n q (by simpa using m) j;rwa [show k+(i+1)=k+1+i by omega]at this
  by_cases e:writes r.ws b p
  .have:=d 0 o r rfl e;rw[mD]at this;rw[this]
   cases c k
   .exact h
   .simp only[aR,hB];exact VJ r.ws a.k st.k b p (.inl e)
  .have f:I (hB o r st).k b p=I st.k b p:=MU _ _ _ _ e;have g:I (hB o r a).k b p=I a.k b p:=MU _ _ _ _ e
   cases L k<;>cases c k<;>simp only[aR,aX,f,g,h]
def avr{a:b5}{b:Nat} : ∀{H:Heap},(∀p,¬writes a b p)->(bJ H a).getD b []=H.getD b []:=by
 induction a with
 |nil=>intro H _;rfl
 |cons q a g=>
  obtain⟨b',i,c⟩:=q;intro H h;rw[bJ,g λp ⟨d,f⟩=>h p ⟨d,by simp [f]⟩];unfold bI;rw[qh,aS];intro e;exact h i ⟨c,by simp [e]⟩
def afT{b:Nat} : ∀{a:b5} {H H':Heap},H.getD b []=H'.getD b []->(bJ H a).getD b []=(bJ H' a).getD b []
 |[],_,_,h=>h
 |(b',d,c)::a,H,H',h=>by
  rw[bJ,bJ];refine afT ?_;unfold bI;rw[qh,qh]
  by_cases e:b=b'
  .subst e;rw[a5 rfl,a5 rfl,h]
  .rw[aS e,aS e];exact h
def aab{L a:Nat->Bool}{b:Nat} : ∀(l:List (Oper×Rec)) (k:Nat) (st c:O),(st.k.getD b []=c.k.getD b [])->(∀(i:Nat) o r,l[i]? =some (o,r)->(∃p,writes r.ws b p)->L (k+i)=a (k+i))->
  (acc L l k st).k.getD b []=(acc a l k c).k.getD b []
 |[],_,_,_,h,_=>h
 |(o,r)::l,k,st,c,h,f=>by
  rw[acc,acc];refine aab l (k+1) _ _ ?_ (λi q s m j=>by
   have:=f (i+1) q s (by simpa using m) j;rwa [show k+(i+1)=k+1+i by omega]at this)
  by_cases e: ∃p,writes r.ws b p
  .have d:=f 0 o r rfl e;rw[mD]at d;rw[d]
   cases a k
   .exact h
   .exact afT h
  .have g: ∀st:O,(hB o r st).k.getD b []=st.k.getD b []:=λst=>avr λp n=>e ⟨p,n⟩
   cases L k<;>cases a k<;>simp only[aR,aX,g,h]
def DU{L:Nat->Bool} : ∀(l:List (Oper×Rec)) (k:Nat) (st:O),(acc L l k st).D.length=st.D.length/\st.k.length<=(acc L l k st).k.length/\
  ∀(i:Nat) o r,l[i]? =some (o,r)->L (k+i)=true-> ∀b p,writes r.ws b p->b<(acc L l k st).k.length
 |[],_,_=>⟨rfl,bN _,λi o r h=>by simp at h⟩
 |(o,r)::l,k,st=>by
  obtain⟨g,c,j⟩:=DU (L:=L) l (k+1) (cond (L k) (hB o r st) st);have e:(cond (L k) (hB o r st) st).D.length=st.D.length/\st.k.length<=(cond (L k) (hB o r st) st).k.length:=by
   cases L k
   .exact⟨rfl,bN _⟩
   .refine⟨?_,(Wk _ _).1⟩;simp only[aR,hB]
    cases o.dst<;>simp [kh]
  refine⟨by rw[acc,g,e.1],by rw[acc];exact dP e.2 c,λi m n a d b p f=> ?_⟩;rw[acc]
  cases i with
  |zero=>
   simp at a;obtain⟨rfl,rfl⟩:=a;rw[mD]at d;refine gR ?_ c;rw[d];exact(Wk _ _).2 b p f
  |succ i=>exact j i m n (by simpa using a) (by rwa [show k+1+i=k+(i+1) by omega]) b p f
def DS{L:Nat->Bool} : ∀(l:List (Oper×Rec)) (k:Nat) (st:O),(∀i,k<=i->L i=false)->acc L l k st=st
 |[],_,_,_=>rfl
 |(o,r)::l,k,st,h=>by
  rw[acc,h k (bN _)];exact DS l (k+1) st λi a=>h i Ω
def uX.at{E:Env}{ops:Array Oper}{l:List Oper}{st b:O}{rs:List Rec}(h:uX E ops l st rs b): ∀k,l.length=rs.length/\b=acc (λ_=>true) (l.zip rs) k st/\
  ∀(j:Nat) o r,(l.zip rs)[j]? =some (o,r)->Zy E ops o (acc (λi=>decide (i<k+j)) (l.zip rs) k st) r:=by
 induction h with
 |nil st=>exact λk=>⟨rfl,rfl,λj o r h=>by simp at h⟩
 |cons o l st r rs b h k m=>
  intro n;obtain⟨c,d,e⟩:=m (n+1);refine⟨by simp [c],?_,λj p q a=> ?_⟩
  .rw[d];rfl
  .cases j with
   |zero=>
    simp at a;obtain⟨rfl,rfl⟩:=a;rw[DS _ _ _ (λi g=>by simpa using g)];exact h
   |succ j=>
    have:=e j p q (by simpa using a);rw[List.zip_cons_cons,acc];have f:decide (n<n+(j+1))=true:=by simp
    rw[f];rw[show n+(j+1)=n+1+j by omega];exact this
def Hy(a:List Edge)(acc:List Nat):Nat:=a.foldl (λm e=>if Region.binds .any e then m|||2^e.on|||acc.getD e.on 0 else m) 0
def CK:List Oper->List Nat->List Nat
 |[],acc=>acc
 |o::r,acc=>CK r (acc++[Hy o.after.toList acc])
def JA(a b:List (Nat×Nat)):Bool:=a.all λx=> !b.contains x
def sm(a:b5):List (Nat×Nat):=a.map λx=>(x.1,x.2.1)
def HH(b:Nat)(l:List (Nat×Nat)):Bool:=l.all λx=>x.1 !=b
def um(r:Rec):List Nat:=r.aC::(r.ws.map (·.1)).filter (Nat.blt r.aC)
def aAM{r:Rec}{b:Nat}(h:b∈um r):r.aC<=b:=by
 simp only[um,iI,II,iY]at h;omega
def aAN{r:Rec}{b p:Nat}{c:J}(h:(b,p,c)∈r.ws)(a:r.aC<b):b∈um r:=by
 simp only[um,iI,II,iY,px];exact .inr ⟨⟨_,h,rfl⟩,a⟩
def af2(b o:Nat)(c:J):Bool:=
 match c with
 | .ptr b' a=>Nat.beq b' b&&Nat.beq a o
 |_=>false
def NW(H:Heap)(rs:List Rec)(b p:Nat):Bool:=
 match I H b p with
 | .ptr a c=>rs.all λr=>r.ws.all λx=> !(Nat.beq x.1 b&&Nat.beq x.2.1 p)||af2 a c x.2.2
 |_=>false
def ahW{H:Heap}{rs:List Rec}{b p:Nat}(h:NW H rs b p=true){r:Rec}(f:r∈rs){c:J}(d:(b,p,c)∈r.ws):c=I H b p:=by
 unfold NW at h
 split at h<;>try (cases h;done)
 rename_i g i e;rw[e];have a:=dK.1 (dK.1 h r f) _ d;simp only[oC,Bool.and_self,Bool.not_true,Bool.false_or]at a;unfold af2 at a
 split at a<;>try (cases a;done)
 rw[b4]at a;rw[eg a.1,eg a.2]
def Oh(N:Nat->Nat->Bool)(l:List (Nat×Nat)):List (Nat×Nat):=l.filter λx=> !(N x.1 x.2)
def CZ(N:Nat->Nat->Bool)(ops:Array Oper)(ms:List Nat)(i j:Nat)(d e:Oper)(a c:Rec):Bool:=
 (!(r0 e.op)||(um c).all λb=>HH b (sm a.ws))&&
 ((ms.getD j 0).testBit i||
   (JA (Oh N (sm a.ws)) c.rd&&JA (Oh N (sm a.ws)) (sm c.ws)&&JA a.rd (Oh N (sm c.ws))&&(!(r0 d.op&& !a.ws.isEmpty)||(um a).all λb=>HH b (sm c.ws))&&d.apart ops e&&c.f_.all (λb=>HH b (sm a.ws))&&a.f_.all (λb=>HH b (sm c.ws))))
def Ou(N:Nat->Nat->Bool)(ops:Array Oper)(ms:List Nat)(a:Oper)(b:Rec)(i:Nat):List (Oper×Rec)->Nat->Bool
 |[],_=>true
 |(c,d)::l,j=>CZ N ops ms i j a c b d&&Ou N ops ms a b i l (j+1)
def Jc(N:Nat->Nat->Bool)(ops:Array Oper)(ms:List Nat):List (Oper×Rec)->Nat->Bool
 |[],_=>true
 |(o,r)::l,i=>Ou N ops ms o r i l (i+1)&&Jc N ops ms l (i+1)
def Jk:List Oper->Nat->Bool
 |[],_=>true
 |o::l,i=>o.after.all (λe=> !Region.binds .any e||decide (e.on<i))&&Jk l (i+1)
def y6(N:Nat->Nat->Bool)(ops:Array Oper)(rs:List Rec):Bool:=Jk ops.toList 0&&Jc N ops (CK ops.toList []) (ops.toList.zip rs) 0
def indep(H:Heap)(ops:Array Oper)(rs:List Rec):Bool:=y6 (NW H rs) ops rs
def anJ(N:Nat->Nat->Bool)(H:Heap)(rs:List Rec):Prop:= ∀b p,N b p=true-> ∀r∈rs,∀c,(b,p,c)∈r.ws->c=I H b p
def Aa(H:Heap)(ops:Array Oper)(rs:List Rec):Prop:= ∃N,anJ N H rs/\y6 N ops rs=true
def Aa.of{H:Heap}{ops:Array Oper}{rs:List Rec}(h:indep H ops rs=true):Aa H ops rs:=⟨_,λ_ _ a _ c _ b=>ahW a c b,h⟩
def aae(E:Env)(ops:Array Oper)(st:O)(K:O->Prop):Prop:=
 sJ E ops ops.toList 0 st [] λrs a=>Aa st.k ops rs/\K a
def JB{a b:List (Nat×Nat)}(h:JA a b=true): ∀x,x∈a->x∉b:=λx d c=>by
 have:=dK.1 h x d;simp at this;exact this c
def Oi{N:Nat->Nat->Bool}{l:List (Nat×Nat)}{b p:Nat}(h:(b,p)∈l)(a:N b p=false):(b,p)∈Oh N l:=II.2 ⟨h,by simp [a]⟩
def qv{a:b5}{b p:Nat} :(b,p)∈sm a↔writes a b p:=by
 simp only[sm,px,writes];constructor
 .rintro⟨⟨b',d,c⟩,h,e⟩
  simp only[pz]at e;obtain⟨rfl,rfl⟩:=e;exact⟨c,h⟩
 .rintro⟨c,h⟩
  exact⟨(b,p,c),h,rfl⟩
def HI{b:Nat}{l:List (Nat×Nat)}(h:HH b l=true): ∀p,(b,p)∉l:=λp a=>by
 have:=dK.1 h _ a;simp at this
def ai0{N:Nat->Nat->Bool}{ops:Array Oper}{ms:List Nat}{d:Oper}{e:Rec}{i:Nat} : ∀(l:List (Oper×Rec)) (k:Nat),Ou N ops ms d e i l k=true-> ∀(j:Nat) a b,l[j]? =some (a,b)->CZ N ops ms i (k+j) d a e b=true
 |[],_,_,j,a,b,h=>by simp at h
 |(o,r)::l,k,h,j,a,b,c=>by
  simp only[Ou,b4]at h
  cases j with
  |zero=>simp at c;obtain⟨rfl,rfl⟩:=c;exact h.1
  |succ j=>
   have:=ai0 l (k+1) h.2 j a b (by simpa using c);rwa [show k+1+j=k+(j+1) by omega]at this
def Jd{N:Nat->Nat->Bool}{ops:Array Oper}{ms:List Nat} : ∀(l:List (Oper×Rec)) (k:Nat),Jc N ops ms l k=true-> ∀(i j:Nat) c d a b,i<j->l[i]? =some (c,d)->l[j]? =some (a,b)->CZ N ops ms (k+i) (k+j) c a d b=true
 |[],_,_,i,j,c,d,a,b,_,h,_=>by simp at h
 |(o,r)::l,k,h,i,j,c,d,a,b,m,e,f=>by
  simp only[Jc,b4]at h;obtain⟨j,rfl⟩: ∃g,j=g+1:=⟨j-1,Ω⟩
  cases i with
  |zero=>
   simp at e;obtain⟨rfl,rfl⟩:=e;have:=ai0 l (k+1) h.1 j a b (by simpa using f);rwa [show k+1+j=k+(j+1) by omega]at this
  |succ i=>
   have:=Jd l (k+1) h.2 i j c d a b Ω (by simpa using e) (by simpa using f);rwa [show k+1+i=k+(i+1) by omega,show k+1+j=k+(j+1) by omega]at this
def aay: ∀(l:List Oper) (k:Nat),Jk l k=true-> ∀(i:Nat) o,l[i]? =some o-> ∀e∈o.after,Region.binds .any e=true->e.on<k+i
 |[],_,_,i,o,h=>by simp at h
 |o::l,k,h,i,d,c=>by
  simp only[Jk,b4]at h
  cases i with
  |zero=>
   simp at c;subst c;intro e b a;have:=Array.all_eq_true_iff_forall_mem.1 h.1 e b;simpa[a]using this
  |succ i=>
   have:=aay l (k+1) h.2 i d (by simpa using c);intro e b a;have:=this e b a;omega
def ahp{acc:List Nat}{i:Nat} : ∀(a:List Edge) (m:Nat),(a.foldl (λm e=>if Region.binds .any e then m|||2^e.on|||acc.getD e.on 0 else m) m).testBit i=true->
  m.testBit i=true\/ ∃e∈a,Region.binds .any e=true/\(i=e.on\/(acc.getD e.on 0).testBit i=true)
 |[],m,h=> .inl h
 |e::a,m,h=>by
  simp only[IH]at h;rcases ahp a _ h with h|⟨c,d,b,f⟩
  .split at h
   .rename_i b;simp only[Nat.testBit_or,IJ]at h;rcases h with(h|h)|h
    .exact .inl h
    .refine .inr ⟨e,by simp,b,.inl ?_⟩;rw[Nat.testBit_two_pow]at h;exact(an h).symm
    .exact .inr ⟨e,by simp,b,.inr h⟩
   .exact .inl h
  .exact .inr ⟨c,by simp [d],b,f⟩
def ahq{L:Nat->Prop} : ∀(l:List Oper) (done:List Oper) (acc:List Nat),acc.length=done.length->
  (∀(j:Nat) o,(done++l)[j]? =some o->L j-> ∀e∈o.after,Region.binds .any e=true->L e.on)->
  (∀(j:Nat) o i,done[j]? =some o->(acc.getD j 0).testBit i=true->(∀e∈o.after,Region.binds .any e=true->L e.on)->L i)->
  ∀(j:Nat) o i,(done++l)[j]? =some o->((CK l acc).getD j 0).testBit i=true->(∀e∈o.after,Region.binds .any e=true->L e.on)->L i
 |[],done,acc,f,_,b=>by simpa[CK]using b
 |x::l,done,acc,f,m,b=>by
  have:=ahq l (done++[x]) (acc++[Hy x.after.toList acc]) (by simp [f]) (by simpa using m) (λj o i a c n=>by
   rcases fE j done.length with h|h
   .rw[uO h]at a;have:(acc++[Hy x.after.toList acc]).getD j 0=acc.getD j 0:=by simp [List.getD,uO (by omega:j<acc.length)]
    rw[this]at c;exact b j o i a c n
   .have u:j=done.length:=by
     rcases fE j (done.length+1)with g|g
     .omega
     .rw[eX (by simpa using g)]at a;cases a
    subst u;simp at a;subst a;have:(acc++[Hy x.after.toList acc]).getD done.length 0=Hy x.after.toList acc:=by simp [List.getD,<-f]
    rw[this]at c;rcases ahp _ _ c with r|⟨e,s,t,d⟩
    .simp at r
    .have k:=n e (by simpa using s) t;rcases d with rfl|d
     .exact k
     .have q:e.on<done.length:=by
       rcases fE e.on acc.length with h|h
       .omega
       .simp [List.getD,eX h]at d
      have p:done[e.on]? =some done[e.on]:=cM q;exact b e.on _ i p d (m e.on _ (by rw[uO q];exact p) k))
  simpa[CK]using this
def apj(n:Nat)(p q:Nat->Bool)(i:Nat)(h:i<n)(b:p i=true)(c:q i=false)(a: ∀k,k≠i->q k=p k):((List.range n).filter p).length=((List.range n).filter q).length+1:=by
 induction n with
 |zero=>omega
 |succ n g=>
  rw[List.range_succ,IT,IT,dq,dq]
  by_cases e:i=n
  .subst e;have:(List.range i).filter p=(List.range i).filter q:=by
    apply List.filter_congr;intro k f;exact(a k (by have:=uR.1 f;omega)).symm
   simp [this,b,c]
  .have:=g Ω;have d:=a n Ω;simp only[List.filter_cons,List.filter_nil,d];omega
def aac{L P4:Nat->Bool} : ∀(l:List (Oper×Rec)) (k:Nat) (st:O),(∀i,i<l.length->L (k+i)=P4 (k+i))->acc L l k st=acc P4 l k st
 |[],_,_,_=>rfl
 |(o,r)::l,k,st,h=>by
  rw[acc,acc];have a:=h 0 (by simp);rw[mD]at a;rw[a];exact aac l (k+1) _ λi b=>by have:=h (i+1) (by simp;omega);rwa [show k+(i+1)=k+1+i by omega]at this
def aad: ∀(l:List (Oper×Rec)) (k j:Nat) (st:O) o r,l[j]? =some (o,r)->acc (λi=>decide (i<k+j+1)) l k st=hB o r (acc (λi=>decide (i<k+j)) l k st)
 |[],_,j,_,o,r,h=>by simp at h
 |(c,d)::l,k,0,st,o,r,h=>by
  simp at h;obtain⟨rfl,rfl⟩:=h;rw[acc,acc];have a:decide (k<k+0+1)=true:=by simp
  have b:decide (k<k+0)=false:=by simp
  rw[a,b,DS _ _ _ (λi e=>by simp;omega),DS _ _ _ (λi e=>by simp;omega)];rfl
 |(c,d)::l,k,j+1,st,o,r,h=>by
  rw[acc,acc];have a:decide (k<k+(j+1)+1)=true:=by simp;omega
  have b:decide (k<k+(j+1))=true:=by simp
  rw[a,b];have:=aad l (k+1) j (hB c d st) o r (by simpa using h);simp only[aR];rw[show k+(j+1)=k+1+j by omega];exact this
def aqg{a b:List J}{x:Operand}(h: ∀t,x= .tmp t->b[t]? =a[t]?):aE b x=aE a x:=by
 cases x with
 |tmp t=>simp only[aE,List.getD,h t rfl]
 |_=>rfl
def aES{ops:Array Oper}{o:Oper}{D a:List J}(h: ∀t∈o.looksAt ops,a[t]? =D[t]?):sl ops o a=sl ops o D:=by
 unfold sl
 cases c:o.guard with
 |none=>rfl
 |some q=>
  obtain⟨j,e⟩:=q;simp only
  cases b:(ops[j]?).bind (·.dst)with
  |none=>rfl
  |some d=>
   simp only;have:=h d (by simp [Oper.looksAt,c,b]);simp only[List.getD,this]
def azH{ops:Array Oper}{o:Oper}{t:Nat}(h: .tmp t∈o.op.operands):t∈o.looksAt ops:=by
 simp only[Oper.looksAt,gj,List.mem_filterMap];exact .inl ⟨.tmp t,by simpa using h,rfl⟩
section
variable {E:Env} {S:eb} {ops:Array Oper} {rs:List Rec} {cS:O} {jq:Nat->Option Nat}
structure Zv (N:Nat->Nat->Bool) (ops:Array Oper) (Xi:Oper) (Ii:Rec) (ok:Oper) (wK:Rec):Prop where
 rd: ∀b p,N b p=false->writes wK.ws b p->(b,p)∉Ii.rd
 ws: ∀b p,N b p=false->writes wK.ws b p-> ¬writes Ii.ws b p
 look: ∀t,ok.dst=some t->t∉Xi.looksAt ops
 dst: ∀t,ok.dst=some t->Xi.dst≠some t
 f_: ∀b,b∈Ii.f_-> ∀p,¬writes wK.ws b p
 aC:r0 Xi.op=true->Ii.ws≠[]-> ∀b∈um Ii,∀p,¬writes wK.ws b p
def aqo{N:Nat->Nat->Bool}(z:y6 N ops rs=true){L:Nat->Bool}(H: ∀(j:Nat) o,ops[j]? =some o->L j=true-> ∀e∈o.after,Region.binds .any e=true->L e.on=true)
  {j k:Nat} {l ok:Oper} {m u:Rec} (A:(ops.toList.zip rs)[j]? =some (l,m)) (B:(ops.toList.zip rs)[k]? =some (ok,u)) (Q:k≠j) (O:L j=false)
  (V: ∀e∈l.after,Region.binds .any e=true->L e.on=true):L k=decide (k<j)\/Zv N ops l m ok u:=by
 have U:ops[j]? =some l:=by
  have:=Y_.1 A;simpa using this.1
 have J:ops[k]? =some ok:=by
  have:=Y_.1 B;simpa using this.1
 simp only[y6,b4]at z;have K: ∀(j:Nat) o i,ops[j]? =some o->((CK ops.toList []).getD j 0).testBit i=true->(∀e∈o.after,Region.binds .any e=true->L e.on=true)->L i=true:=λj o i q n r=>
  ahq (L:=λi=>L i=true) ops.toList [] [] rfl (λj o h M=>H j o (by simpa using h) M) (λj o i h=>by simp at h) j o i (by simpa using q) n r
 rcases Nat.lt_or_gt_of_ne Q with I|P
 .have a:=Jd _ 0 z.2 k j ok u l m I B A;simp only[CZ,b4,IJ,db]at a;obtain⟨x,a⟩:=a;rcases a with a|a
  .left;rw[K j l k U a V];simp [I]
  .right;obtain⟨⟨⟨⟨⟨⟨q,n⟩,r⟩,s⟩,w⟩,F⟩,G⟩:=a;obtain⟨D,v,E⟩:=Oper.apart_spec w;refine⟨λb p d c=>JB q _ (Oi (qv.2 c) d),λb p d c C=>JB n _ (Oi (qv.2 c) d) (qv.2 C),λt g=>D t g,λt g=>v t g,λb f p c=>HI (dK.1 F b f) p (qv.2 c),λy _ b f p c=> ?_⟩;rw[y]at x;exact HI (dK.1 (by simpa using x) b f) p (qv.2 c)
 .have a:=Jd _ 0 z.2 j k l m ok u P A B;simp only[CZ,b4,IJ,db]at a;obtain⟨x,a⟩:=a;rcases a with a|a
  .left;have R:L k=false:=by
    cases e:L k with
    |false=>rfl
    |true=>
     have:=K k ok j J a (H k ok J e);rw[O]at this;cases this
   rw[R];simp;omega
  .right;obtain⟨⟨⟨⟨⟨⟨q,n⟩,r⟩,s⟩,w⟩,F⟩,G⟩:=a;obtain⟨D,v,E⟩:=Oper.apart_spec w;refine⟨λb p d c W=>JB r _ W (Oi (qv.2 c) d),λb p d c C=>JB n _ (Oi (qv.2 C) d) (qv.2 c),λt g=>E t g,λt g X=>v t X g,λb f p c=>HI (dK.1 G b f) p (qv.2 c),λy S b f p c=> ?_⟩;rw[y]at s;have T:m.ws.isEmpty=false:=by cases e:m.ws with
    |nil=>exact absurd e S
    |cons=>rfl
   rw[T]at s;exact HI (dK.1 (by simpa using s) b f) p (qv.2 c)
end
section
variable {S:eb} {ι:Nat->Option Nat} {st:O} {a:Act} {w:World}
def qF(H:Heap)(b a:Nat)(x:J):Heap:=bI (bI H b 0 dB) a 0 x
def aY.OM(h:aY S ι st a w){w':World}{b bU x s n n' c:Nat}{f fW:Nat->List J}{C kJ:Array Value}{T:TypeId}
  (H:I st.k b 0= .ad false s n f) (E:ι b=some x) (ku:w.heap[x]? =some (.cells C T (0,0)))
  (auW:w'.os=w.os) (avb:w'.tape=w.tape) (auX:w'.output=w.output) (oj:w'.heap.size=w.heap.size) (N: ∀k,k≠x->w'.heap[k]? =w.heap[k]?)
  (Z:w'.heap[x]? =some (.cells kJ T (0,0))) (la:kJ.size=c*s) (jY:n'<=dz) (GM:n'<=c)
  (dh: ∀i j,i<n'->j<s-> ∃av u,(fW i)[j]? =some av/\kJ[i*s+j]? =some u/\a1 w (aT S ι st.k w) av u)
  (R:(bU=b/\(n<n'\/(n=n'/\kJ.size=C.size)))\/(bU≠b/\(∀o,I st.k bU o= .undef)/\ι bU=none)):
  ∃az,aY S az ⟨st.D,qF st.k b bU (.ad false s n' fW)⟩ a w'/\cq az (qF st.k b bU (.ad false s n' fW)) w' (aT S az (qF st.k b bU (.ad false s n' fW)) w') (.own bU n') (.slice (some ⟨x,0,none⟩) n' c):=by
 have afC:n<=dz:=by
  have v:=h.k b 0;rw[H]at v;rcases v.2 with dQ|dQ
  .cases dQ.1
  .exact dQ.1
 generalize V:qF st.k b bU (.ad false s n' fW)=H';have M:I H' bU 0= .ad false s n' fW:=by rw[<-V];unfold qF;rw[eZ,a5 ⟨rfl,rfl⟩]
 have aeL:bU≠b->I H' b 0=dB:=λe=>by rw[<-V];unfold qF;rw[eZ,aS (λg=>e g.1.symm),eZ,a5 ⟨rfl,rfl⟩]
 have G: ∀k o,(k≠b/\k≠bU)\/o≠0->I H' k o=I st.k k o:=λk o g=>by
  rw[<-V];unfold qF;rw[eZ,aS (λe=>g.elim (λg=>g.2 e.1) λg=>g e.2),eZ,aS (λe=>g.elim (λg=>g.1 e.1) λg=>g e.2)]
 have hlen:st.k.length<=H'.length/\bU<H'.length:=by
  rw[<-V];unfold qF;exact⟨dP (wx _ _ _ _).1 (wx _ _ _ _).1,(wx _ _ _ _).2⟩
 have afd: ∀o,o≠0->I st.k b o= .undef:=λo eA=>by
  have v:=h.k b o
  cases e:I st.k b o<;>rw[e]at v<;>first|rfl|(have:=v.1;rw[H]at this;cases this;done)|exact absurd v.1 eA
 have atS: ∀o,o≠0->I st.k bU o= .undef:=λo eA=>by
  rcases R with⟨e,_⟩|⟨_,e,_⟩
  .rw[e];exact afd o eA
  .exact e o
 let az:Nat->Option Nat:=λk=>if k=bU then some x else if k=b then none else ι k
 have X:az bU=some x:=a5 rfl;have afY:bU≠b->az b=none:=λe=>by simp only[az];rw[aS (λg=>e g.symm)];simp
 have O: ∀k,k≠b->k≠bU->az k=ι k:=λk jc M=>by simp only[az];rw[aS M,aS jc]
 have P: ∀k y,az k=some y->(k=bU/\y=x)\/(k≠b/\k≠bU/\ι k=some y):=λk y d=>by
  by_cases m:k=bU
  .subst m;rw[X]at d;cases d;exact .inl ⟨rfl,rfl⟩
  .by_cases l:k=b
   .rw[l,afY (λg=>m (by rw[g,l]))]at d;cases d
   .rw[O k l m]at d;exact .inr ⟨l,m,d⟩
 have G2:ni st.k b:= .inl ⟨by rw[H];rfl,by rw[H];rfl⟩;have K: ∀k y,ι k=some y->k≠b->y≠x:=λk y d jG e=>jG (h.inj _ _ _ d (by rw[e];exact E));have yX: ∀y p,y≠x->w'.cell? ⟨y,p,none⟩=w.cell? ⟨y,p,none⟩:=λy p d=>World.cell?_of_block (N y d);have od: ∀y,aT S ι st.k w y->aT S az H' w' y:=λy ⟨q1,Q,L⟩=>⟨q1,by rw[oj];exact Q,λk v d=>by
  rcases P k y d with⟨rfl,rfl⟩|⟨l,m,d⟩
  .exact L b G2 E
  .exact L k (oy (λo=>G k o (.inl ⟨l,m⟩)) v) d⟩
 have W:ey ι st.k w (aT S ι st.k w) az H' w' (aT S az H' w'):=by
  refine⟨od,λy o ⟨_,_,L⟩=>yX y o λe=>L b G2 (by rw[e];exact E),λk l4 hG r=> ?_,λk Il mA wC f0 r=> ?_⟩
  .have l:k≠b:=λe=>by rw[e,H]at r;cases r
   have m:k≠bU:=λe=>by
    rcases R with⟨A,_⟩|⟨_,_,A⟩
    .exact l (e.trans A)
    .rw[e,A]at hG;cases hG
   exact⟨by rw[O k l m];exact hG,by rw[G k 0 (.inl ⟨l,m⟩)];exact r⟩
  .by_cases l:k=b
   .subst l;rw[H]at r;cases r;rcases R with⟨e,gX⟩|⟨e,_,_⟩
    .subst e;refine⟨false,_,n',fW,M,by rcases gX with h|⟨h,_⟩<;>omega,λe=> ?_⟩;rcases gX with gX|⟨_,ava⟩
     .omega
     .refine⟨rfl,by rw[X,E],λy D lx d U=> ?_⟩;rw[E]at d;cases d;rw[ku]at U;cases U;exact⟨kJ,Z,ava⟩
    .exact⟨true,0,dz+1,λ_=>[],aeL e,Ω,λe=>by omega⟩
   .have m:k≠bU:=λe=>by
     rcases R with⟨A,_⟩|⟨_,A,_⟩
     .exact l (e.trans A)
     .rw[e,A]at r;cases r
    refine⟨Il,mA,wC,f0,by rw[G k 0 (.inl ⟨l,m⟩)];exact r,bN _,λ_=>⟨rfl,O k l m,λy D lx d U=>⟨D,?_,rfl⟩⟩⟩;rw[N y (K _ _ d l)];exact U
 refine⟨az,⟨h.below.then ⟨auW,avb,auX,by rw[oj];exact bN _,λk r fP=>N k λe=> ?_⟩,h.defers,λt av iC=> ?_,λk o=> ?_,λhn gE y e5 fe=> ?_,λk y d=> ?_,λk y d=> ?_,h.gW.trans W⟩,rfl,false,s,n',fW,M,bN _,λ_=> .inl ⟨x,c,kJ,T,X,rfl,GM,Z,la⟩⟩
 .rcases(h.fresh b x E).1 with g|g
  .omega
  .exact fP (by rw[e];exact g)
 .obtain⟨kc,q1,Q⟩:=h.D t av iC;exact⟨kc,q1,Q.step W⟩
 .show e9 az H' w' (aT S az H' w') k o (I H' k o)
  by_cases m:k=bU
  .subst m
   by_cases B:o=0
   .subst B;rw[M];refine⟨rfl,.inr ⟨jY,.inr ⟨x,kJ,T,X,Z,λi j ji fX=> ?_⟩⟩⟩;obtain⟨av,u,q1,Q,L⟩:=dh i j ji fX;exact⟨av,u,q1,Q,L.mono od W.cell⟩
   .rw[G k o (.inr B),atS o B];trivial
  .by_cases l:k=b
   .subst l
    by_cases B:o=0
    .subst B;rw[aeL (λg=>m g.symm)];exact⟨rfl,.inl ⟨rfl,rfl,afY (λg=>m g.symm)⟩⟩
    .rw[G k o (.inr B),afd o B];trivial
   .rw[G k o (.inl ⟨l,m⟩)];exact(h.k k o).step W (λ_=>O k l m) (λy d _=>⟨yX y o (K _ _ d l),World.frozen?_of_block (N y (K _ _ d l))⟩) (λ_=>⟨O k l m,λy d=>N y (K _ _ d l)⟩)
 .rcases P hn y e5 with⟨rfl,rfl⟩|⟨Y,eI,F⟩<;>rcases P gE y fe with⟨rfl,q⟩|⟨h1,z,fu⟩
  .rfl
  .exact absurd rfl (K _ _ fu h1)
  .subst q;exact absurd rfl (K _ _ F Y)
  .exact h.inj hn gE y F fu
 .rw[oj];rcases P k y d with⟨rfl,rfl⟩|⟨Y,eI,F⟩
  .exact h.fresh b _ E
  .exact h.fresh k y F
 .rcases P k y d with⟨rfl,rfl⟩|⟨Y,eI,F⟩
  .exact hlen.2
  .exact gR (h.gT k y F) hlen.1
end
def Ar{w:World}{x:Nat}{C:Array Value}{T:TypeId}{z:Nat×Nat}(h:w.heap[x]? =some (.cells C T z))(o:Nat):w.cell? ⟨x,o,none⟩=C[o]? :=by
 simp [World.cell?,h]
def Ez{w:World}{x:Nat}{C:Array Value}{T:TypeId}(h:w.heap[x]? =some (.cells C T (0,0)))(o:Nat):w.frozen? ⟨x,o,none⟩=false:=by
 simp [World.frozen?,h]
def aY.H0{S:eb}{ι:Nat->Option Nat}{st:O}{a:Act}{w:World}(h:aY S ι st a w){b n V:Nat}{g:Nat->List J}{v:Value}(o:I st.k b 0= .ad false V n g)(e:eE S ι st.k w (.own b n) v):
  n<=dz/\((∃x c C T,ι b=some x/\v= .slice (some ⟨x,0,none⟩) n c/\n<=c/\w.heap[x]? =some (.cells C T (0,0))/\C.size=c*V/\ ∀i j,i<n->j<V-> ∃av u,(g i)[j]? =some av/\C[i*V+j]? =some u/\a1 w (aT S ι st.k w) av u)\/
   (n=0/\ι b=none/\v= .slice none 0 0)):=by
 obtain⟨_,H,K,G,F,k,_,r⟩:=e;rw[o]at k;cases k;have d:=h.k b 0;rw[o]at d;obtain⟨_,z|⟨t,d⟩⟩:=d
 .cases z.1
 refine⟨t,?_⟩;rcases r rfl with⟨x,c,C,T,f,e,B,l,s⟩|⟨q,A,e⟩
 .rcases d with d|⟨L,D,E,p,m,y⟩
  .rw[f]at d;cases d.2
  .rw[f]at p;cases p;rw[l]at m;cases m;exact .inl ⟨x,c,C,T,f,e,B,l,s,y⟩
 .exact .inr ⟨q,A,e⟩
def a1.Xl{w:World}{F:Nat->Prop}{av:J}{v:Value}(h:a1 w F av v):v.oneCell'=true:=ah3 h.one
def m8{i j V n:Nat}(a:i<n)(b:j<V):i*V+j<n*V:=by
 have:(i+1)*V<=n*V:=hy V a;rw[iX]at this;omega
end Go.af
namespace Go.af
open Go Go.Proofs Go.RowKit Go.Shelf
section
variable {P:Program}
def xm(g:Nat->List J)(i j t:Nat):List J:=bif Nat.blt t i then g t else g (t+(j-i))
def O9(P:Program)(f:FuncId)(k:Nat)(z:Value):Prop:= ∀(a d n i j:Nat) (w:World) (b c:List Value) (_:(Builtin.zeroCells z.cells (j-i)).toList=c) (_:c.length=(j-i)*k) (_: ∀v∈c,v.oneCell'=true)
    (_:b.length=(n-j)*k) (_: ∀v∈b,v.oneCell'=true) (_: ∀t u,b[t]? =some u->w.cell? ⟨a,j*k+t,none⟩=some u)
    (_: ∀t,t<n*k->(w.cell? ⟨a,t,none⟩).isSome=true) (_: ∀t,w.frozen? ⟨a,t,none⟩=false)
    (_:n<=d) (_:i<j) (_:j<=n),
    Calls P f #[.slice (some ⟨a,0,none⟩) n d,.int .i64 i,.int .i64 j] w λe w'=>e= .returned (.slice (some ⟨a,0,none⟩) (n- (j-i)) d)/\w'=(w.drew.setCells a (i*k) b).setCells a ((i+(n-j))*k) c
def apJ{f:FuncId}{V:Nat}{z:Value}(pd:O9 P f V z)(hG: ∀m,(Builtin.zeroCells z.cells m).toList.length=m*V/\ ∀v∈(Builtin.zeroCells z.cells m).toList,v.oneCell'=true)(n i j:Nat)(g:Nat->List J)(tR:i<j)(fX:j<=n):
  fL P f [.own 0 n,.int .i64 i,.int .i64 j] [[.ad false V n g]] [.own 1 (n- (j-i))] [[dB],[.ad false V (n- (j-i)) (xm g i j)]]:=by
 intro S ι w cI tO yY r
 match cI,yY with
 |[v0,v1,v2],_=>
 obtain⟨_,Y,X7⟩:=r.D 0 _ rfl;obtain⟨_,q1,H⟩:=r.D 1 _ rfl;obtain⟨_,Z,K⟩:=r.D 2 _ rfl;simp only[uP,List.getElem?_cons_zero,List.getElem?_cons_succ,g9]at Y q1 Z;subst Y q1 Z;have H:v1= .int .i64 i:=by
  have:a1 w (aT S ι [[.ad false V n g]] w) (.int .i64 i) v1:=H
  cases this;rfl
 have K:v2= .int .i64 j:=by
  have:a1 w (aT S ι [[.ad false V n g]] w) (.int .i64 j) v2:=K
  cases this;rfl
 subst H K;obtain⟨jY,⟨x,c,C,T,j0,rfl,N,A,L,G⟩|⟨fq,_⟩⟩:=r.H0 (b:=0) (g:=g) (V:=V) rfl X7
 case inr=>omega
 have auR:n*V<=C.size:=by rw[L];exact hy V N
 have aGo:j*V+(n-j)*V=n*V:=by rw[<-hI];congr 1;omega
 have R: ∀t,t<n*V-> ∃u,C[t]? =some u/\u.oneCell'=true:=λt a=>by
  have W:0<V:=by
   rcases wX V with e|e
   .rw[e]at a;omega
   .exact e
  have B:t/V<n:=(Nat.div_lt_iff_lt_mul W).2 a;obtain⟨av,u,_,o,E⟩:=G (t/V) (t%V) B (Nat.mod_lt _ W);rw[uS,Nat.div_add_mod]at o;exact⟨u,o,E.Xl⟩
 let d:List Value:=(C.toList.drop (j*V)).take ((n-j)*V);have Q:d.length=(n-j)*V:=by simp only[d,iJ,pB,Array.length_toList];omega
 have O: ∀t u,d[t]? =some u->C[j*V+t]? =some u/\t<(n-j)*V:=λt u s=>by
  have a:t<d.length:=(il.1 s).1;rw[Q]at a;simp only[d]at s;rw[zV a,pv,OX]at s;exact⟨s,a⟩
 have auQ: ∀v∈d,v.oneCell'=true:=λv dh=>by
  obtain⟨t,a⟩:=qN dh;obtain⟨B,hl⟩:=O t v a;obtain⟨u,l,o⟩:=R (j*V+t) Ω;rw[B]at l;cases l;exact o
 obtain⟨VP,Ha⟩:=hG (j-i);have aGi:i*V+(n-j)*V+(j-i)*V=n*V:=by rw[<-hI,<-hI];congr 1;omega
 refine(pd x c n i j w d _ rfl VP Ha Q auQ (λt u s=>by rw[Ar A];exact(O t u s).1) (λt a=>by
  rw[Ar A];obtain⟨u,l,_⟩:=R t a;rw[l];rfl) (λt=>Ez A t) N tR fX).mono ?_
 rintro e w' ⟨rfl,rfl⟩
 have UP:w.drew.heap[x]? =some (.cells C T (0,0)):=A;obtain⟨⟨akB,cx,eI,a3⟩,a4,fu,h1,kc,l4⟩:=rV x d (i*V) w.drew C T (0,0) UP;obtain⟨⟨uW,g1,bU,jv⟩,mK,l6,Jh,Ji,Jj⟩:=rV x (Builtin.zeroCells z.cells (j-i)).toList ((i+(n-j))*V) (w.drew.setCells x (i*V) d) akB T (0,0) cx;generalize (w.drew.setCells x (i*V) d).setCells x ((i+(n-j))*V) (Builtin.zeroCells z.cells (j-i)).toList=w' at*
 have hmul:(i+(n-j))*V=i*V+(n-j)*V:=hI _ _ _;obtain⟨az,h,X⟩:=aY.OM (b:=0) (bU:=1) (f:=g) (fW:=xm g i j) (n':=n- (j-i)) (c:=c) (w':=w') (kJ:=uW) r rfl j0 A (by rw[Jh,h1];rfl) (by rw[Ji,kc];rfl) (by rw[Jj,l4];rfl) (by rw[mK,a4];rfl)
  (λk M=>by rw[l6 k M,fu k M];rfl) g1 (by rw[bU,eI];exact L) Ω Ω (λp q c1 D=>by
   have Vr:=m8 c1 D;have auP:(n- (j-i))*V=i*V+(n-j)*V:=by rw[<-hI];congr 1;omega
   rw[jv,aS Ω,a3];unfold xm
   by_cases U:p<i
   .have F:Nat.blt p i=true:=by simpa[iY]using U
    have:=m8 U D;rw[aS Ω,F];exact G p q Ω D
   .have F:Nat.blt p i=false:=by
     cases e:Nat.blt p i with
     |false=>rfl
     |true=>exact absurd (g8 e) Ω
    have B:i*V<=p*V:=hy V Ω;have hl:(p-i)*V=p*V-i*V:=Dy _ _ _;have fe:(p+(j-i))*V=p*V+(j-i)*V:=hI _ _ _;have yQ:j*V=i*V+(j-i)*V:=by rw[<-hI];congr 1;omega
    rw[a5 ⟨Ω,Ω,Ω⟩,F];obtain⟨av,u,l,o,E⟩:=G (p+(j-i)) q Ω D;refine⟨av,u,l,?_,E⟩;have a:p*V+q-i*V<(n-j)*V:=by omega
    simp only[d];rw[zV a,pv,OX,<-o]
    congr 1;omega) (.inr ⟨by simp,λaop=>by simp [I],by
    cases e:ι 1 with
    |none=>rfl
    |some y=>have:=r.gT 1 y e;simp at this⟩)
 have iU:qF [[J.ad false V n g]] 0 1 (.ad false V (n- (j-i)) (xm g i j))=[[dB],[.ad false V (n- (j-i)) (xm g i j)]]:=rfl;rw[iU]at h X;refine⟨[.slice (some ⟨x,0,none⟩) (n- (j-i)) c],az,rfl,rfl,h.below,rfl,λt av a=> ?_,h.k,h.inj,h.fresh,h.gT,h.gW⟩
 match t with
 |0=>cases a;exact⟨_,rfl,X⟩
 |t+1=>simp at a
end
section
variable {P:Program} {ρ:Ren}
def lf(g:Nat->List J)(i:Nat)(v:Nat->List J)(t:Nat):List J:=bif Nat.blt t i then g t else bif Nat.beq t i then v 0 else g (t-1)
def MZ{g v:Nat->List J}{i t:Nat}(h:t<i):lf g i v t=g t:=by
 unfold lf;rw[show Nat.blt t i=true by simpa[iY]using h];rfl
def aaA{a b:Nat}(h:b<=a):Nat.blt a b=false:=by
 cases e:Nat.blt a b with
 |false=>rfl
 |true=>exact absurd (g8 e) Ω
def He{g v:Nat->List J}{i:Nat} :lf g i v i=v 0:=by
 unfold lf;rw[aaA (bN _),oC];rfl
def af0{g v:Nat->List J}{i t:Nat}(h:i<t):lf g i v t=g (t-1):=by
 unfold lf;rw[aaA Ω,show Nat.beq t i=false by
  cases e:Nat.beq t i with
  |false=>rfl
  |true=>have:=eg e;omega];rfl
def Below.ajo{B:Nat}{a w:World}(h:Below B a w){x:Nat}(f:B<=x): ∀(b:List Value) (o:Nat),Below B a (w.setCells x o b)
 |b,o=>by
  induction b generalizing w o with
  |nil=>exact h
  |cons v b d=>
   rw[World.setCells];have c:Below B w (w.setCell ⟨x,o,none⟩ v):=⟨rfl,rfl,rfl,by simp,λk e=>Below.heap_setCell w ⟨x,o,none⟩ v k (by show k≠x;omega)⟩;exact d (h.trans c) _
def aaQ{w:World}{F:Nat->Prop}{n V c:Nat}{g:Nat->List J}{C:Array Value}(s:n<=c)(r:C.size=c*V)(l: ∀i j,i<n->j<V-> ∃av u,(g i)[j]? =some av/\C[i*V+j]? =some u/\a1 w F av u):
  ∃cs:List Value,cs.length=n*V/\(∀t u,cs[t]? =some u->C[t]? =some u/\t<n*V)/\(∀v∈cs,v.oneCell'=true)/\ ∀i j,i<n->j<V-> ∃av u,(g i)[j]? =some av/\cs[i*V+j]? =some u/\a1 w F av u:=by
 have y:n*V<=C.size:=by rw[r];exact hy V s
 have k:(C.toList.take (n*V)).length=n*V:=by simp only[iJ,Array.length_toList];omega
 have h: ∀t,t<n*V->(C.toList.take (n*V))[t]? =C[t]? :=λt a=>by rw[zV a,OX]
 refine⟨C.toList.take (n*V),k,λt u b=> ?_,λv x=> ?_,λi j m o=> ?_⟩
 .have a:t<n*V:=by have:=(il.1 b).1;rwa [k]at this
  rw[h t a]at b;exact⟨b,a⟩
 .obtain⟨t,b⟩:=qN x;have a:t<n*V:=by have:=(il.1 b).1;rwa [k]at this
  rw[h t a]at b;have p:0<V:=by
   rcases wX V with e|e
   .rw[e]at a;omega
   .exact e
  obtain⟨av,u,_,d,f⟩:=l (t/V) (t%V) ((Nat.div_lt_iff_lt_mul p).2 a) (Nat.mod_lt _ p);rw[uS,Nat.div_add_mod]at d;rw[b]at d;cases d;exact f.Xl
 .obtain⟨av,u,q,d,f⟩:=l i j m o;exact⟨av,u,q,by rw[h _ (m8 m o)];exact d,f⟩
def avK{k bytes:Nat}{c1:Value}(L:qV P ρ k bytes c1)(MG:0<k)(GJ:bytes<=255)(y2: ∀m,(Builtin.zeroCells c1.cells m).size=m*k)(n i:Nat)(g v:Nat->List J)(ji:i<=n)(fP:n+1<=dz):
  fL P (ρ.f 22) [.own 0 n,.int .i64 i,.own 1 1] [[.ad false k n g],[.ad false k 1 v]] [.own 0 (n+1)] [[.ad false k (n+1) (lf g i v)],[.ad false k 1 v]]:=by
 intro S ι w cI tO yY N
 match cI,yY with
 |[v0,v1,v2],_=>
 obtain⟨_,hq,X7⟩:=N.D 0 _ rfl;obtain⟨_,q1,Ih⟩:=N.D 1 _ rfl;obtain⟨_,fQ,X9⟩:=N.D 2 _ rfl;simp only[uP,List.getElem?_cons_zero,List.getElem?_cons_succ,g9]at hq q1 fQ;subst hq q1 fQ;have Ih:v1= .int .i64 i:=by
  have:a1 w (aT S ι [[.ad false k n g],[.ad false k 1 v]] w) (.int .i64 i) v1:=Ih
  cases this;rfl
 subst Ih;obtain⟨_,⟨y,z,D,w7,tU,rfl,auO,Cf,atv,atu⟩|⟨fq,_⟩⟩:=N.H0 (b:=1) (g:=v) (V:=k) rfl X9
 case inr=>omega
 obtain⟨o,A,hC,bk,apN⟩:=aaQ auO atv atu;rw[Nat.one_mul]at A;have U1:(n+1)*bytes<=140737488355328:=by
  have:(n+1)*bytes<=549755813888*255:=Nat.mul_le_mul fP GJ;omega
 have Cs:n<=549755813888:=by have:dz=549755813888:=rfl;omega
 have ql: ∀j u,o[j]? =some u->w.cell? ⟨y,j,none⟩=some u:=λj u hu=>by rw[Ar Cf];exact(hC j u hu).1
 have G5: ∀j,j<k-> ∃av u,(v 0)[j]? =some av/\o[j]? =some u/\a1 w (aT S ι [[.ad false k n g],[.ad false k 1 v]] w) av u:=λj fX=>by
  have:=apN 0 j Ω fX;rwa [Nat.zero_mul,db]at this
 have aGk:(i+1)*k=i*k+k:=iX _ _;have aGs:(n+1)*k=n*k+k:=iX _ _;have fin: ∀(w':World) (az:Nat->Option Nat) (u:Value) (H':Heap),H'=[[.ad false k (n+1) (lf g i v)],[.ad false k 1 v]]->aY S az ⟨[.own 0 n,.int .i64 i,.own 1 1],H'⟩ {tmps:= #[v0,.int .i64 i,.slice (some ⟨y,0,none⟩) 1 z],defers:=[]} w'->cq az H' w' (aT S az H' w') (.own 0 (n+1)) u->
   ∃us az,Ending.returned u= .returned (pack us)/\us.length=1/\aY S az ⟨[.own 0 (n+1)],[[.ad false k (n+1) (lf g i v)],[.ad false k 1 v]]⟩ {tmps:=us.toArray,defers:=[]} w':=λw' az u H' e F hu=>by
  subst e;refine⟨[u],az,rfl,rfl,F.below,rfl,λt av iC=> ?_,F.k,F.inj,F.fresh,F.gT,F.gW⟩
  match t with
  |0=>cases iC;exact⟨_,rfl,hu⟩
  |t+1=>simp at iC
 have place: ∀(x c:Nat) (C X:Array Value) (T:TypeId) (w':World),ι 0=some x->n+1<=c->w.heap[x]? =some (.cells C T (0,0))->C.size=c*k->w'.os=w.os->w'.tape=w.tape->w'.output=w.output->w'.heap.size=w.heap.size->(∀q,q≠x->w'.heap[q]? =w.heap[q]?)->
   w'.heap[x]? =some (.cells X T (0,0))->X.size=C.size->(∀p q,p<n+1->q<k-> ∃av u,(lf g i v p)[q]? =some av/\X[p*k+q]? =some u/\a1 w (aT S ι [[.ad false k n g],[.ad false k 1 v]] w) av u)->
   ∃us az,Ending.returned (.slice (some ⟨x,0,none⟩) (n+1) c)= .returned (pack us)/\us.length=1/\aY S az ⟨[.own 0 (n+1)],[[.ad false k (n+1) (lf g i v)],[.ad false k 1 v]]⟩ {tmps:=us.toArray,defers:=[]} w':=λx c C X T w' j0 jF r W U hl fe yQ Mk ae3 yR yS=>by
  obtain⟨az,F,VG⟩:=aY.OM (b:=0) (bU:=0) (f:=g) (fW:=lf g i v) (n':=n+1) (c:=c) (w':=w') (kJ:=X) N rfl j0 r U hl fe yQ Mk ae3 (by rw[yR];exact W) fP jF yS (.inl ⟨rfl,.inl Ω⟩);exact fin w' az _ _ rfl F VG
 have fresh: ∀(G:Nat) (R:Array Value) (T:TypeId) (w':World),n+1<=G->Below w.heap.size w w'->w.heap.size<w'.heap.size->w'.heap[w.heap.size]? =some (.cells R T (0,0))->R.size=G*k->
   (∀p q,p<n+1->q<k-> ∃av u,(lf g i v p)[q]? =some av/\R[p*k+q]? =some u/\a1 w (aT S ι [[.ad false k n g],[.ad false k 1 v]] w) av u)->
   ∃us az,Ending.returned (.slice (some ⟨w.heap.size,0,none⟩) (n+1) G)= .returned (pack us)/\us.length=1/\aY S az ⟨[.own 0 (n+1)],[[.ad false k (n+1) (lf g i v)],[.ad false k 1 v]]⟩ {tmps:=us.toArray,defers:=[]} w':=λG R T w' M oc gX atE Mt yS=>by
  obtain⟨F,VG⟩:=aY.H_ N oc (b:=0) (x:=w.heap.size) (bN _) gX (V:=k) (n:=n+1) (c:=G) (f:=lf g i v) (C:=R) (T:=T) fP M atE Mt (F':=aT S ι [[.ad false k n g],[.ad false k 1 v]] w) (λ_ h=> .inl h)
   (λp q I d=>by
    obtain⟨av,u,O,K,s⟩:=yS p q I d;exact⟨av,u,O,K,s.mono (λ_ h=>h) λwS aop VO=>oc.cell VO.2.1⟩) (.inr ⟨n,g,rfl,Ω⟩)
  exact fin w' _ _ _ rfl F VG
 obtain⟨_,⟨x,c,C,T,j0,rfl,m6,r,W,lN⟩|⟨fq,aGJ,rfl⟩⟩:=N.H0 (b:=0) (g:=g) (V:=k) rfl X7
 .obtain⟨cs,B,f2,f3,f4⟩:=aaQ m6 W lN;have avu:y≠x:=λe=>by have:=N.inj 0 1 x j0 (by rw[<-e];exact tU);omega
  have GN: ∀j u,cs[j]? =some u->w.cell? ⟨x,j,none⟩=some u:=λj u hu=>by rw[Ar r];exact(f2 j u hu).1
  have aGe: ∀j,j<n*k->cs[j]? =C[j]? :=λj fX=>by
   have U:cs[j]? =some (cs[j]' Ω):=cM Ω;rw[U,(f2 j _ U).1]
  have Z:(n+1)<=c->(n+1)*k<=C.size:=λh=>by rw[W];exact hy k h
  have Cu:n+1<=c-> ∀j,j<(n+1)*k->(w.cell? ⟨x,j,none⟩).isSome=true:=λh j fX=>by
   have:=Z h;rw[Ar r,qK Ω];rfl
  by_cases tS:i=n
  .subst tS
   by_cases E:i+1<=c
   .refine(avL L x i c y z o w E A (Cu E) (λj=>Ez r j) ql bk).mono ?_
    rintro e w' ⟨rfl,rfl⟩
    obtain⟨⟨Q,O,K,s⟩,Y,fu,h1,kc,l4⟩:=rV x o (i*k) w C T (0,0) r;refine place x c C Q T _ j0 E r W h1 kc l4 Y fu O K λp q I d=> ?_;have:=Z E
    by_cases l:p<i
    .have:=m8 l d;rw[MZ l,s,aS Ω];exact lN p q l d
    .have l:p=i:=by omega
     subst l;rw[He,s,a5 ⟨Ω,Ω,Ω⟩,show p*k+q-p*k=q by omega];exact G5 q d
   .refine(af1 L (some ⟨x,0,none⟩) i c y z cs o w m6 Ω U1 Cs B A (λh=>by cases h) (λa yU j u fX=>by cases yU;rw[Addr.add_lit,db];exact GN j u fX) ql bk).mono ?_
    rintro e w' ⟨rfl,rfl⟩
    have M:=wV w (i+1) c (ρ.t 9);generalize grownCap w (i+1) c (ρ.t 9)=G at*
    refine fresh G _ (ρ.t 9) _ M ((Below.drew (Below.refl _ w)).alloc (bN _) _) (by simp) (ss w.drew _) (by
     simp only[wW,qM,dq,y2,B,A];have:(G- (i+1))*k+(i+1)*k=G*k:=by rw[<-hI];congr 1;omega
     omega) λp q I d=> ?_
    have Vr:=m8 I d;rw[qJ (by simp only[qM,dq,B,A];omega)];simp only[uP]
    by_cases l:p<i
    .have:=m8 l d;rw[MZ l,uO Ω];exact f4 p q l d
    .have l:p=i:=by omega
     subst l;rw[He,zW Ω,B,show p*k+q-p*k=q by omega];exact G5 q d
  .have gX:i<n:=by omega
   have aGq:(n-i)*k+i*k=n*k:=by rw[<-hI];congr 1;omega
   have aGf:(cs.drop (i*k)).length=(n-i)*k:=by rw[pB,B];omega
   by_cases E:n+1<=c
   .have UP:C.size≠0:=by have:=Z E;have:0<(n+1)*k:=Nat.mul_pos Ω MG;omega
    refine(avN L x n c i y z cs o w gX E Cs avu B A GN (Cu E) (λj=>Ez r j) ql f3 bk w7 T D.size C.size (by simp [World.shape?,Cf]) (by simp [World.shape?,r]) UP (λj=>Ez Cf j)).mono ?_
    rintro e w' ⟨rfl,rfl⟩
    have att:w.drew.heap[x]? =some (.cells C T (0,0)):=r;obtain⟨⟨Q,O,K,s⟩,Y,fu,h1,kc,l4⟩:=rV x (cs.drop (i*k)) (i*k+k) w.drew C T (0,0) att;obtain⟨⟨uW,g1,bU,jv⟩,mK,l6,Jh,Ji,Jj⟩:=rV x o (i*k) (w.drew.setCells x (i*k+k) (cs.drop (i*k))) Q T (0,0) O;refine place x c C uW T _ j0 E r W (by rw[Jh,h1];rfl) (by rw[Ji,kc];rfl) (by rw[Jj,l4];rfl) (by rw[mK,Y];rfl) (λq d=>by rw[l6 q d,fu q d];rfl) g1 (by rw[bU,K]) λp q I d=> ?_;have Z:=Z E;have Vr:=m8 I d;rw[jv]
    by_cases l:p<i
    .have:=m8 l d;rw[MZ l,aS Ω,s,aS Ω];exact lN p q Ω d
    .by_cases Vp:p=i
     .subst Vp;rw[He,a5 ⟨Ω,Ω,Ω⟩,show p*k+q-p*k=q by omega];exact G5 q d
     .have U:(i+1)*k<=p*k:=hy k Ω;have hl:(p-1)*k+k=p*k:=by rw[<-iX];congr 1;omega
      rw[af0 Ω,aS Ω,s,a5 ⟨Ω,Ω,Ω⟩,pv,show i*k+(p*k+q- (i*k+k))=(p-1)*k+q by omega];exact f4 (p-1) q Ω d
   .refine(avM L MG y2 x n c i y z cs o w gX m6 Ω U1 Cs B A GN ql f3 bk).mono ?_
    rintro e w' ⟨rfl,rfl⟩
    have M:=wV w (n+1) c (ρ.t 9);generalize grownCap w (n+1) c (ρ.t 9)=G at*
    have aF1:(G- (n+1))*k+(n+1)*k=G*k:=by rw[<-hI];congr 1;omega
    have aGr:(n+1-i)*k+i*k=(n+1)*k:=by rw[<-hI];congr 1;omega
    generalize ae7:(cs.take (i*k)).toArray++Builtin.zeroCells c1.cells (n+1-i)++Builtin.zeroCells c1.cells (G- (n+1))=H;have Mt:H.size=G*k:=by
     rw[<-ae7];simp only[wW,qM,iJ,y2,B];omega
    have atF:(w.alloc (.cells H (ρ.t 9))).drew.heap[w.heap.size]? =some (.cells H (ρ.t 9) (0,0)):=ss w _;obtain⟨⟨Q,O,K,s⟩,Y,fu,h1,kc,l4⟩:=rV w.heap.size o (i*k) (w.alloc (.cells H (ρ.t 9))).drew H (ρ.t 9) (0,0) atF;have anZ:((w.alloc (.cells H (ρ.t 9))).drew.setCells w.heap.size (i*k) o).drew.heap[w.heap.size]? =some (.cells Q (ρ.t 9) (0,0)):=O;obtain⟨⟨uW,g1,bU,jv⟩,mK,l6,Jh,Ji,Jj⟩:=rV w.heap.size (cs.drop (i*k)) (i*k+k) ((w.alloc (.cells H (ρ.t 9))).drew.setCells w.heap.size (i*k) o).drew Q (ρ.t 9) (0,0) anZ;refine fresh G uW (ρ.t 9) _ M ?_ (by rw[mK];show w.heap.size<((w.alloc (.cells H (ρ.t 9))).drew.setCells w.heap.size (i*k) o).heap.size;rw[Y];show w.heap.size<(w.alloc (.cells H (ρ.t 9))).heap.size;simp) g1 (by rw[bU,K,Mt]) λp q I d=> ?_
    .exact Below.ajo (Below.drew (Below.ajo (Below.drew ((Below.refl _ w).alloc (bN _) _)) (bN _) _ _)) (bN _) _ _
    have Vr:=m8 I d;rw[jv]
    by_cases l:p<i
    .have:=m8 l d;rw[MZ l,aS Ω,s,aS Ω,<-ae7,qJ (by simp only[wW,qM,iJ,y2,B];omega),qJ (by simp only[qM,iJ,B];omega)];simp only[uP];rw[zV Ω];exact f4 p q Ω d
    .by_cases Vp:p=i
     .subst Vp;rw[He,aS Ω,s,a5 ⟨Ω,Ω,Ω⟩,show p*k+q-p*k=q by omega];exact G5 q d
     .have U:(i+1)*k<=p*k:=hy k Ω;have hl:(p-1)*k+k=p*k:=by rw[<-iX];congr 1;omega
      have fe:=m8 (show p-1<n by omega) d;rw[af0 Ω,a5 ⟨Ω,Ω,by rw[K,Mt];have:(n+1)*k<=G*k:=hy k M;omega⟩,pv,show i*k+(p*k+q- (i*k+k))=(p-1)*k+q by omega];exact f4 (p-1) q Ω d
 .subst fq;have auv:i=0:=by omega
  subst auv;refine(af1 L none 0 0 y z [] o w (bN _) Ω U1 Cs (by simp) A (λ_=>rfl) (λa yU=>by cases yU) ql bk).mono ?_
  rintro e w' ⟨rfl,rfl⟩
  have M:=wV w (0+1) 0 (ρ.t 9);generalize grownCap w (0+1) 0 (ρ.t 9)=G at*
  refine fresh G _ (ρ.t 9) _ M ((Below.drew (Below.refl _ w)).alloc (bN _) _) (by simp) (ss w.drew _) (by
   simp only[qP,wW,qM,y2,A];have:(G- (0+1))*k+(0+1)*k=G*k:=by rw[<-hI];congr 1;omega
   omega) λp q I d=> ?_
  have Vo:p=0:=by omega
  subst Vo;rw[He,qP,qJ (by simp only[qM,A];omega)];simp only[uP,Nat.zero_mul,db];exact G5 q d
end
end Go.af
