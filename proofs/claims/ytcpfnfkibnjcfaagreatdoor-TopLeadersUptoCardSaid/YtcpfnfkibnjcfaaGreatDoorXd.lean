import Derived.Test.YtcpfnfkibnjcfaaGreatDoorXb
import Derived.Test.YtcpfnfkibnjcfaaGreatDoorRows
open Go.IntKind (i64 u64 u8)
open Int (toNat)
set_option maxRecDepth 100000
set_option maxHeartbeats 4000000
set_option linter.all false
noncomputable section
namespace Go.ag
open Go Go.RowKit
structure Rec where
 val:J
 ws:b3
 rd:List (Nat×Nat)
 gI:List Nat
 aD:Nat
 run:Bool
def h7(o:Oper)(r:Rec)(st:O):O:=⟨k0 o.dst r.val st.n,bN st.k r.ws⟩
def O4(b o n:Nat):List (Nat×Nat):=(List.range n).map λj=>(b,o+j)
def ko:J->List (Nat×Nat)
 | .own b _=>[(b,0)]
 |_=>[]
def kp:J->List (Nat×Nat)
 | .agg cs=>cs.flatMap ko
 |av=>ko av
def lp(E:Env)(a:List J)(d:Op):List (Nat×Nat):=
 match d with
 | .load T x=>match aE a x with
   | .ptr b o=>match E.ty T with
     |some t=>O4 b o t.size
     |none=>[]
   | .gr b _ _ _=>[(b,0)]
   |_=>[]
 | .store T x _=>match aE a x with
   | .ptr b o=>match E.ty T with
     |some t=>(b,0)::O4 b o t.size
     |none=>[]
   | .gr b _ _ _=>[(b,0)]
   |_=>[]
 | .fieldAddr _ x _| .nilCheck x=>match aE a x with
   | .gr b _ _ _=>[(b,0)]
   |_=>[]
 | .indexAddr _ x _=>match aE a x with
   | .own b _=>[(b,0)]
   |_=>[]
 | .call c=>c.args.toList.flatMap λx=>kp (aE a x)
 | .slice _ x _ _ _| .convert _ _ x=>kp (aE a x)
 | .buildSlice _ _ e=>e.toList.flatMap λp=>kp (fh (aE a p.2))
 |_=>[]
def rT(a:List J)(H:Heap)(d:Op):List Nat:=
 match d with
 | .call c=>match c.callee with
   | .value f=>match aE a f with
     | .fn _ b=>eA H (c.args.toList.map (aE a)++b)
     |_=>[]
   |_=>[]
 |_=>[]
section
variable {E:Env}
def Pf{b:Nat} : ∀{l:List Nat},b∈l->b∈dedup l
 |[],h=>by cases h
 |x::l,h=>by
  simp only[dedup];rcases ih.1 h with rfl|h
  .split
   .rename_i e;have⟨y,c,a⟩:=List.any_eq_true.1 e;have:=ey a;subst this;exact Pf c
   .simp
  .split
   .exact Pf h
   .simp [Pf h]
def aqE{H H':Heap}{aa:List J}(h: ∀b∈eA H aa,H'.getD b []=H.getD b []):eA H' aa=eA H aa:=by
 have d: ∀(g:J->List Nat) (l:List Nat),(∀b∈l,H'.getD b []=H.getD b [])->(l.flatMap λb=>(H'.getD b []).flatMap g)=l.flatMap λb=>(H.getD b []).flatMap g:=by
  intro g l
  induction l with
  |nil=>intro _;rfl
  |cons x l f=>
   intro c;rw[gO,gO,c x Χ,f λb a=>c b (by simp [a])]
 have e:FH H' aa=FH H aa:=by
  unfold FH;rw[d Zq _ λb a=>h b (fj.2 (.inl (Pf (fj.2 (.inl a)))))]
 unfold eA;rw[e,d PG _ λb a=>h b (fj.2 (.inl a))]
def alj{H H':Heap} : ∀{L:List Nat} {a:Heap},(∀b∈L,H'.getD b []=H.getD b [])->rX L H' a=rX L H a
 |[],_,_=>rfl
 |b::L,a,h=>by
  unfold rX;rw[h b Χ]
  cases a with
  |nil=>rfl
  |cons y a=>simp only;rw[alj λb c=>h b (by simp [c])]
def awi{aD:Nat}{H H':Heap}{f:FuncId}{aa:List J}{K:J->b3->Prop}(h: ∀b∈eA H aa,H'.getD b []=H.getD b [])(c:pa E H aD f aa K):pa E H' aD f aa K:=by
 have e:=aqE h;unfold pa at c |-;rw[e];have i:((eA H aa).all λb=>AG (H'.getD b [])&&(H'.getD b []).all (ow (mem (eA H aa))))=(eA H aa).all λb=>AG (H.getD b [])&&(H.getD b []).all (ow (mem (eA H aa))):=by
  rw[Bool.eq_iff_iff,d_,d_];exact⟨λg b a=>by rw[<-h b a];exact g b a,λg b a=>by rw[h b a];exact g b a⟩
 have bo:((eA H aa).map λb=>(H'.getD b []).map (gk (pos (eA H aa))))=(eA H aa).map λb=>(H.getD b []).map (gk (pos (eA H aa))):=J8 λb a=>by rw[h b a]
 rw[i,bo]
 cases d:E.pc f (aa.map (l7 (pos (eA H aa)))) ((eA H aa).map λb=>(H.getD b []).map (gk (pos (eA H aa))))with
 |none=>rw[d]at c;exact c
 |some q=>
  obtain⟨j,rs,k⟩:=q;rw[d]at c;simp only at c |-;rw[alj h];exact c
def awj{aD:Nat}{H:Heap}{f:FuncId}{aa:List J}{K:J->b3->Prop}(a:pa E H aD f aa K): ∃av ws,pa E H aD f aa (λx y=>x=av/\y=ws)/\K av ws:=by
 unfold pa at a;have⟨d,a⟩:=aF.1 a
 cases c:E.pc f (aa.map (l7 (pos (eA H aa)))) ((eA H aa).map λb=>(H.getD b []).map (gk (pos (eA H aa))))with
 |none=>rw[c]at a;exact a.elim
 |some q=>
  obtain⟨h,rs,i⟩:=q;rw[c]at a;have⟨e,a⟩:=rS.1 a;have⟨g,a⟩:=aF.1 a;refine⟨_,_,?_,a⟩;unfold pa;refine aF.2 ⟨d,?_⟩;rw[c];exact rS.2 ⟨e,aF.2 ⟨g,rfl,rfl⟩⟩
def acK{H H':Heap}{b o n:Nat}(h: ∀l∈O4 b o n,M H' l.1 l.2=M H l.1 l.2):lH H' b o n=lH H b o n:=by
 unfold lH;apply J8;intro j a;exact h (b,o+j) (by simp [O4];simpa using a)
def acA{b:List (Nat×Nat)}{f g:List J}{K:List J->Prop} : ∀(a:List (Nat×Operand)) (cs:List J),(∀x∈a,aE g x.2=aE f x.2)->oq b f a cs K->oq b g a cs K
 |[],cs,_,h=>h
 |(i,x)::a,cs,d,h=>by
  simp only[oq]at h |-
  cases e:b[i]? with
  |none=>rw[e]at h;exact h.elim
  |some q=>
   rw[e]at h;simp only at h |-;have c:=d (i,x) Χ;simp only at c;rw[c];rw[aF]at h |-;exact⟨h.1,acA a _ (λy j=>d y (by simp [j])) h.2⟩
def aep{H H':Heap}{x:J}{K:J->Prop}(a: ∀l∈ko x,M H' l.1 l.2=M H l.1 l.2)(h:jy H x K):jy H' x K:=by
 cases x<;>simp only[jy]at h |- <;>try exact h
 rename_i b k;rw[show M H' b 0=M H b 0 from a (b,0) (by simp [ko])];exact h
def T7{H H':Heap} : ∀{cs:List J} {K:List J->Prop},(∀l∈cs.flatMap ko,M H' l.1 l.2=M H l.1 l.2)->m0 H cs K->m0 H' cs K
 |[],_,_,h=>h
 |c::cs,K,e,h=>by
  simp only[m0]at h |-;refine aep (λl d=>e l (by simp [d])) ?_;have f: ∀{a K2:J->Prop},(∀y,a y->K2 y)->jy H c a->jy H c K2:=λ{a K2} b h=>by
   cases c<;>simp only[jy]at h |- <;>try first|exact b _ h|exact(aF.2 ⟨(aF.1 h).1,b _ (aF.1 h).2⟩)
   split at h
   .exact⟨h.1,b _ h.2⟩
   .exact h
  exact f (λy=>T7 λl d=>e l (by simp only[gO,fj];exact .inr d)) h
def att{H H':Heap}{x:J}{K:J->Prop}(a: ∀l∈kp x,M H' l.1 l.2=M H l.1 l.2)(h:lL H x K):lL H' x K:=by
 cases x
 case agg cs=>exact T7 (K:=λb=>K (.agg b)) a h
 all_goals
  simp only[kp]at a;simp only[lL]at h |-;exact aep a h
def T2{H:Heap}{c:J}{b K2:J->Prop}(a: ∀y,b y->K2 y)(h:jy H c b):jy H c K2:=by
 cases c<;>simp only[jy]at h |- <;>try first|exact a _ h|exact(aF.2 ⟨(aF.1 h).1,a _ (aF.1 h).2⟩)
 split at h
 .exact⟨h.1,a _ h.2⟩
 .exact h
def y3{H:Heap} : ∀{cs:List J} {Kt K2:List J->Prop},(∀y,Kt y->K2 y)->m0 H cs Kt->m0 H cs K2
 |[],_,_,a,h=>a _ h
 |c::cs,Kt,K2,a,h=>by
  simp only[m0]at h |-;exact T2 (λy=>y3 λb=>a _) h
def T3{H:Heap}{c:J}{b K2:J->Prop}(d: ∀y,b y->K2 y)(h:lL H c b):lL H c K2:=by
 cases c
 case agg cs=>exact y3 (Kt:=λa=>b (.agg a)) (K2:=λa=>K2 (.agg a)) (λa=>d _) h
 all_goals
  simp only[lL]at h |-;exact T2 d h
def F7{H:Heap} : ∀{cs:List J} {a K2:List J->Prop},(∀y,a y->K2 y)->nF H cs a->nF H cs K2
 |[],_,_,b,h=>b _ h
 |c::cs,a,K2,b,h=>by
  simp only[nF]at h |-;exact T3 (λy=>F7 λd=>b _) h
def aet{H H':Heap} : ∀{cs:List J} {K:List J->Prop},(∀l∈cs.flatMap kp,M H' l.1 l.2=M H l.1 l.2)->nF H cs K->nF H' cs K
 |[],_,_,h=>h
 |c::cs,K,b,h=>by
  simp only[nF]at h |-;refine att (λl a=>b l (by simp only[gO,fj];exact .inl a)) ?_;exact T3 (λy=>aet λl a=>b l (by simp only[gO,fj];exact .inr a)) h
def LG{H:Heap} : ∀{c:List (List J)} {a K2:List (List J)->Prop},(∀y,a y->K2 y)->oB H c a->oB H c K2
 |[],_,_,b,h=>b _ h
 |l::c,a,K2,b,h=>by
  simp only[oB]at h |-;exact y3 (λy=>LG λd=>b _) h
def aeC{H H':Heap} : ∀{a:List (List J)} {K:List (List J)->Prop},(∀l∈a.flatten.flatMap ko,M H' l.1 l.2=M H l.1 l.2)->oB H a K->oB H' a K
 |[],_,_,h=>h
 |l::a,K,c,h=>by
  simp only[oB]at h |-;refine T7 (λq b=>c q (by simp only[Bt,tP,fj];exact .inl b)) ?_;exact y3 (λy=>aeC λq b=>c q (by simp only[Bt,tP,fj];exact .inr b)) h
def ark{y:J}{q:Nat×Nat}(h:q∈(cellsOf y).flatMap ko):q∈kp y:=by
 cases y<;>simp only[cellsOf,kp,ko,gO,List.flatMap_nil,iE,fj,tQ,or_false]at h |- <;>first|exact h|(cases h;done)
def ako{g:Nat}{f:List J} : ∀{e:List (Nat×Operand)} {k:Nat} {l:List (List J)},l6 g f e k=some l->
  (∀q∈l.flatten.flatMap ko,q∈e.flatMap λp=>kp (fh (aE f p.2)))/\ ∀c∈l.flatten,aeD c=true
 |[],k,l,h=>by
  simp only[l6,hI]at h;subst h;exact⟨λq d=>by simp at d,λc b=>by simp at b⟩
 |(i,x)::r,k,l,h=>by
  simp only[l6]at h
  split at h
  .rename_i b;simp only[b2]at b
   split at h
   .rename_i o n;simp only[hI]at h;subst h;have⟨j,m⟩:=ako n;refine⟨λq d=> ?_,λc a=> ?_⟩
    .simp only[Bt,tP,fj]at d;simp only[gO,fj];exact d.imp ark (j q)
    .simp only[Bt,fj]at a;rcases a with a|a
     .exact d_.1 b.2.2 c a
     .exact m c a
   .cases h
  .cases h
def Xx(H:Heap)(c:Nat)(x:J)(z:Int)(K:J->Prop):Prop:=
 match x with
 | .arr a n f=>dm (decide (a=c)) ((0<=z/\z<n)/\K (.ref ((f z.toNat).take a)))
 | .own b k=>match M H b 0 with
   | .ad _ a n _=>dm (decide (a=c)) (k=n/\(0<=z/\z<n)/\K (.gr b k z.toNat 0))
   |_=>False
 |_=>False
def axV{H H':Heap}{mZ:Nat}{x:J}{z:Int}{K:J->Prop}(a: ∀b k,x= .own b k->M H' b 0=M H b 0)(h:Xx H mZ x z K):Xx H' mZ x z K:=by
 cases x
 case own b k=>
  unfold Xx at h |-;simp only at h |-;rw[a b k rfl];exact h
 all_goals exact h
def akn{a:Nat}{c d:List J} : ∀{Ew:List (Nat×Operand)} {k:Nat},(∀x∈Ew,aE d x.2=aE c x.2)->l6 a d Ew k=l6 a c Ew k
 |[],_,_=>rfl
 |(i,x)::r,k,h=>by
  have b:=h (i,x) Χ;simp only at b;simp only[l6,b,akn (Ew:=r) (k:=k+1) λy e=>h y (by simp [e])]
def FE{b c:List J}{d:Int}{o:Option Operand}{K:Int->Prop}(h: ∀y,o=some y->aE c y=aE b y)(a:c4 b d o K):c4 c d o K:=by
 cases o with
 |none=>exact a
 |some x=>simp only[c4]at a |-;rw[h x rfl];exact a
def wD{b:List J}{d:Int}{o:Option Operand}{c K2:Int->Prop}(f: ∀z,c z->K2 z)(a:c4 b d o c):c4 b d o K2:=by
 cases o with
 |none=>exact f _ a
 |some x=>
  simp only[c4]at a |-
  cases e:aE b x<;>rw[e]at a<;>simp only at a |- <;>first|exact a.elim|exact f _ a
def aFM{t:bU}{H H':Heap}{h i:List J}{x:J}{l hh m:Option Operand}{K:J->b3->Prop}(o: ∀y,(l=some y\/hh=some y\/m=some y)->aE i y=aE h y)(u: ∀p∈kp x,M H' p.1 p.2=M H p.1 p.2)(a:tF t H h x l hh m K):tF t H' i x l hh m K:=by
 unfold tF at a |-;rw[aF]at a |-;obtain⟨v,a⟩:=a;refine⟨v,?_⟩;have q: ∀{j n:Int} {K:Int->Int->Int->Prop},(c4 h j l λg=>c4 h n hh λc=>c4 h c m λr=>K g c r)->(c4 i j l λg=>c4 i n hh λc=>c4 i c m λr=>K g c r):=λd=>
  FE (λy f=>o y (.inl f)) (wD (λg d=>FE (λy f=>o y (.inr (.inl f))) (wD (λc d=>FE (λy f=>o y (.inr (.inr f))) d) d)) d)
 have a5: ∀{j n:Int} {K:Int->Int->Prop},(c4 h j l λg=>c4 h n hh λc=>K g c)->(c4 i j l λg=>c4 i n hh λc=>K g c):=λd=>
  FE (λy f=>o y (.inl f)) (wD (λg d=>FE (λy f=>o y (.inr (.inl f))) d) d)
 cases s:t.d<;>rw[s]at a<;>simp only at a |- <;>try exact a.elim
 .cases x<;>simp only at a |- <;>try exact a.elim
  cases m with
  |none=>exact a5 a
  |some _=>exact a.elim
 .cases x<;>simp only at a |- <;>try exact a.elim
  .exact q a
  .rw[aF]at a |-;exact⟨a.1,q a.2⟩
  .rename_i b k;rw[show M H' b 0=M H b 0 from u (b,0) (by simp [kp,ko])]
   cases e:M H b 0<;>rw[e]at a<;>simp only at a |-
   rw[aF]at a |-;exact⟨a.1,a.2.1,q a.2.2⟩
def ZS{H H':Heap}{x:J}(a: ∀l∈ko x,M H' l.1 l.2=M H l.1 l.2):vT H' x=vT H x:=by
 cases x<;>first|rfl|skip
 rename_i b k;simp only[vT];rw[show M H' b 0=M H b 0 from a (b,0) (by simp [ko])]
def LB{α β:Type}{f g:α->List β} : ∀{l:List α},(∀x∈l,f x=g x)->l.flatMap f=l.flatMap g
 |[],_=>rfl
 |x::l,h=>by
  rw[gO,gO,h x Χ,LB λy a=>h y (by simp [a])]
def aFg{H H':Heap}{r:J}{aa:List J}(b: ∀l∈aa.flatMap kp,M H' l.1 l.2=M H l.1 l.2):pq H' r aa=pq H r aa:=by
 unfold pq
 split
 .rfl
 .unfold e_;apply LB;intro x e;have a: ∀l∈kp x,M H' l.1 l.2=M H l.1 l.2:=λl a=>b l (mL.2 ⟨x,e,a⟩)
  cases x
  case agg cs=>
   simp only[EI];apply LB;intro c d;exact ZS λl h=>a l (mL.2 ⟨c,d,h⟩)
  all_goals
   simp only[kp]at a;simp only[EI];exact ZS a
def alE{H H':Heap}{h:Bool}{f:Nat}{y:J}{K d:Nat->(Nat->List J)->Prop}(i: ∀b k,y= .own b k->M H' b 0=M H b 0)(c: ∀m g,K m g->d m g)(a:n9 H h f y K):n9 H' h f y d:=by
 cases y<;>simp only[n9]at a |- <;>try exact a.elim
 .exact aF.2 ((aF.1 a).imp id (c _ _))
 .exact aF.2 ((aF.1 a).imp id (c _ _))
 .exact aF.2 ((aF.1 a).imp id (c _ _))
 .rename_i b k;rw[i b k rfl]
  cases e:M H b 0<;>rw[e]at a<;>simp only at a |-
  rw[aF]at a |-;exact⟨a.1,a.2.1,c _ _ a.2.2⟩
def aqo{t:bU}{c:Bool}{H H':Heap}{aD:Nat}{x y:J}{K:J->b3->Prop}(e: ∀b k,x= .own b k->M H' b 0=M H b 0)(f: ∀b k,y= .own b k->M H' b 0=M H b 0)(a:pG t c H aD x y K):pG t c H' aD x y K:=by
 unfold pG at a |-
 cases d:t.d<;>rw[d]at a<;>simp only at a |- <;>try exact a.elim
 rw[aF]at a |-;refine⟨a.1,alE f (λm g h=> ?_) a.2⟩
 cases x<;>simp only at h |- <;>try exact h
 rename_i b k;rw[e b k rfl];exact h
def aql{aD:Nat}{n F:List J}{H H':Heap}{A:Op}{K:J->b3->Prop}(d: ∀x∈A.operands,aE F x=aE n x)(j: ∀l∈lp E n A,M H' l.1 l.2=M H l.1 l.2)(o8: ∀b∈rT n H A,H'.getD b []=H.getD b [])(a:jc E aD n H A K):jc E aD F H' A K:=by
 cases A<;>simp only[jc]at a |- <;>try exact a.elim
 case move x=>rw[d x Η];exact a
 case assign x=>rw[d x Η];exact a
 case pick c x y=>rw[d c Η,d x Η,d y Η];exact a
 case alloc T=>exact a
 case box T x=>rw[d x Η];exact a
 case build T N=>
  unfold eb at a |-
  cases e:E.ty T with
  |none=>rw[e]at a;exact a.elim
  |some t=>
   rw[e]at a;simp only at a |-
   cases B:t.d<;>rw[B]at a<;>simp only at a |- <;>try exact a.elim
   exact acA _ _ (λx D=>d x.2 (by simp [Op.operands];exact⟨x.1,by simpa using D⟩)) a
 case load T x=>
  have r:=d x Η;unfold eb at a |-
  cases e:E.ty T with
  |none=>rw[e]at a;exact a.elim
  |some t=>
   rw[e]at a;simp only[lp,e]at a j |-;rw[r]
   cases s:aE n x<;>rw[s]at a j<;>simp only[pg]at a |- <;>try exact a
   .rw[acK j];exact a
   .rename_i b k i o;rw[show M H' b 0=M H b 0 from j (b,0) Χ];exact a
 case store T x y=>
  have r:=d x Η;have v:=d y Η;unfold eb at a |-
  cases e:E.ty T with
  |none=>rw[e]at a;exact a.elim
  |some t=>
   rw[e]at a;simp only[lp,e]at a j |-;rw[r,v]
   cases s:aE n x<;>rw[s]at a j<;>simp only[vZ]at a |- <;>try exact a
   .rename_i b o;rw[acK (λl p=>j l (by simp [p])),show M H' b 0=M H b 0 from j (b,0) Χ];exact a
   .rename_i b k i o;rw[show M H' b 0=M H b 0 from j (b,0) Χ];exact a
 case makeSlice T l c=>
  have r:=d l Η;have v:=d c Η;unfold eb at a |-
  cases e:E.ty T with
  |none=>rw[e]at a;exact a.elim
  |some t=>
   rw[e]at a;simp only at a |-;unfold tp at a |-;rw[r,v];exact a
 case nilCheck x=>
  have r:=d x Η;simp only[lp]at j;rw[r]
  cases s:aE n x<;>rw[s]at a j<;>simp only[vI]at a |- <;>try exact a
  rename_i b k i o;rw[show M H' b 0=M H b 0 from j (b,0) Χ];exact a
 case binOp A T x y mh=>rw[d x Η,d y Η];exact a
 case unOp A T x=>rw[d x Η];exact a
 case fieldAddr T x f=>
  have r:=d x Η;unfold eb at a |-
  cases e:E.ty T with
  |none=>rw[e]at a;exact a.elim
  |some t=>
   rw[e]at a;simp only[lp]at a j |-;rw[r];simp only[uu]at a |-
   cases B:t.d<;>rw[B]at a<;>simp only at a |- <;>try exact a.elim
   rename_i Jl
   cases U:Jl[f]? with
   |none=>rw[U]at a;exact a.elim
   |some q=>
    rw[U]at a;simp only at a |-
    cases s:aE n x<;>rw[s]at a j<;>simp only at a |- <;>try exact a
    rename_i b k i o;rw[show M H' b 0=M H b 0 from j (b,0) Χ];exact a
 case indexAddr T x y=>
  have r:=d x Η;have v:=d y Η;unfold eb at a |-
  cases e:E.ty T with
  |none=>rw[e]at a;exact a.elim
  |some t=>
   rw[e]at a;simp only[lp]at a j |-;rw[r,v];simp only[vo]at a |-
   cases B:t.d<;>rw[B]at a<;>simp only at a |- <;>try exact a.elim
   case array=>exact a
   cases asY:aE n y<;>rw[asY]at a<;>simp only at a |- <;>try exact a.elim
   rename_i C _ _ z;exact axV (H:=H) (mZ:=C) (x:=aE n x) (z:=z) (K:=λav=>K av []) (λb k e=>j (b,0) (by rw[e];simp)) a
 case index T x y=>
  have r:=d x Η;have v:=d y Η;rw[r,v];exact a
 case extract x i=>rw[d x Η];exact a
 case buildSlice T len N=>
  unfold eb at a |-
  cases e:E.ty T with
  |none=>rw[e]at a;exact a.elim
  |some t=>
   rw[e]at a;have aL: ∀C,l6 C F N.toList 0=l6 C n N.toList 0:=λC=>akn (λx D=>d x.2 (by simp [Op.operands];exact⟨x.1,by simpa using D⟩));simp only[lp]at j;simp only[sm,aL]at a |-
   cases B:t.d<;>rw[B]at a<;>simp only at a |- <;>try exact a.elim
   rename_i aHZ C nD
   cases p:l6 C n N.toList 0 with
   |none=>rw[p]at a;exact a.elim
   |some l=>
    rw[p]at a;simp only at a |-;have⟨fw,hU⟩:=aF.1 a;have⟨AR,Jh⟩:=ako p;have L: ∀q∈l.flatten.flatMap ko,M H' q.1 q.2=M H q.1 q.2:=λq P=>j q (AR q P);have WR:e_ H' l.flatten=e_ H l.flatten:=by
     unfold e_;apply LB;intro c W;have awh:=Jh c W;have awS: ∀q∈ko c,M H' q.1 q.2=M H q.1 q.2:=λq P=>L q (mL.2 ⟨c,W,P⟩)
     cases c
     case agg cs=>cases awh
     all_goals
      simp only[EI];exact ZS awS
    refine aF.2 ⟨fw,aeC L (LG (λZ h=> ?_) hU)⟩;obtain⟨f,f1,f2⟩:=h;exact⟨f,f1,by rw[WR];exact f2⟩
 case slice T x l hh m=>
  have r:=d x Η;unfold eb at a |-
  cases e:E.ty T with
  |none=>rw[e]at a;exact a.elim
  |some t=>
   rw[e]at a;simp only at a |-;rw[r];refine aFM (λy w=>d y ?_) (λl p=>j l p) a;simp only[Op.operands,Array.mem_append,Option.mem_toArray];rcases w with w|w|w
   .exact .inl (.inl (.inr w))
   .exact .inl (.inr w)
   .exact .inr w
 case makeFunc fn first S=>
  cases h8:fn<;>rw[h8]at a<;>simp only at a |- <;>try exact a.elim
  have:S.toList.map (aE F)=S.toList.map (aE n):=J8 λx D=>d x (by
   simp only[Op.operands];exact Array.mem_append.2 (.inr (by simpa using D)))
  rw[this];exact a
 case convert abY abX x=>
  have r:=d x Η;unfold eb at a |-
  cases e:E.ty abY with
  |none=>rw[e]at a;exact a.elim
  |some t=>
   rw[e]at a;simp only at a |-
   cases G:E.ty abX with
   |none=>rw[G]at a;exact a.elim
   |some hA=>
    rw[G]at a;simp only at a |-;rw[r]
    cases s:aE n x<;>rw[s]at a<;>simp only[uk]at a |- <;>try exact a
    rename_i b k;rw[show M H' b 0=M H b 0 from j (b,0) (by simp [lp,s,kp,ko])];exact a
 case call c=>
  have u: ∀x∈c.args.toList,aE F x=aE n x:=λx D=>d x (by
   simp only[Op.operands,Call.operands];exact Array.mem_append.2 (.inr (by simpa using D)))
  have O: ∀{x:J},(∃y∈c.args.toList,x=aE n y)-> ∀b k,x= .own b k->M H' b 0=M H b 0:=λ{x} d b k e=>by
   obtain⟨y,w,rfl⟩:=d;exact j (b,0) (mL.2 ⟨y,w,by rw[e];simp [kp,ko]⟩)
  cases I:c.callee with
  |value f=>
   rw[I]at a;simp only at a |-;have xO:aE F f=aE n f:=d f (by simp only[Op.operands,Call.operands,I];simp);rw[xO];unfold BP at a |-
   cases h8:aE n f<;>rw[h8]at a<;>simp only at a |- <;>try exact a.elim
   rename_i g R;rw[J8 u]
   cases V:Au E.eV g (c.args.toList.map (aE n)++R)with
   |true=>
    rw[V]at a;simp only at a |-;refine awi (λb jH=>o8 b ?_) a;simp only[rT,I,h8];exact jH
   |false=>
   rw[V]at a;simp only at a |-;rw[aF]at a |-;obtain⟨X,a⟩:=a;refine⟨X,?_⟩;have key: ∀z:J,ko (Jc z)=ko z:=λz=>by cases z<;>rfl
   have L: ∀l∈((c.args.toList.map (aE n)++R).map fh).flatMap kp,M H' l.1 l.2=M H l.1 l.2:=λl p=>by
    rw[List.map_append,tP,fj]at p;rcases p with p|p
    .refine j l ?_;simp only[mL,oc]at p;obtain⟨y,⟨Q,⟨x,Xo,rfl⟩,rfl⟩,p⟩:=p;refine mL.2 ⟨x,Xo,?_⟩
     cases adY:aE n x<;>rw[adY]at p<;>first|exact p|skip
     simp only[kp,fh,mL,oc]at p |-;obtain⟨aHr,⟨z,iw,rfl⟩,p⟩:=p;exact⟨z,iw,by rw[key]at p;exact p⟩
    .simp only[mL,oc]at p;obtain⟨y,⟨Q,Xp,rfl⟩,p⟩:=p;have Ab:=d_.1 X Q Xp
     cases Q<;>first|(cases Ab;done)|(simp [fh,Jc,kp,ko]at p;done)
   unfold wF at a |-;refine aet L (F7 (λZ h=> ?_) a)
   cases Y:E.spec g Z with
   |none=>rw[Y]at h;exact h.elim
   |some q=>
    rw[Y]at h;obtain⟨pre,aO⟩:=q;simp only at h |-;rwa [aFg L]
  |invoke aO m=>rw[I]at a;exact a.elim
  |builtin b=>
   rw[I]at a
   cases b<;>simp only at a |- <;>try exact a.elim
   case append=>
    split at a
    .rename_i x y T tY s ar3;rw[s]at u O;have r:=u x Χ;have v:=u y Χ;unfold eb at a |-
     cases e:E.ty T with
     |none=>rw[e]at a;exact a.elim
     |some t=>
      rw[e]at a;simp only at a |-
      cases G:E.ty tY with
      |none=>rw[G]at a;exact a.elim
      |some t2=>
       rw[G]at a;simp only at a |-;rw[aF]at a |-;rw[r,v];exact⟨a.1,aqo (O ⟨x,by simp,rfl⟩) (O ⟨y,by simp,rfl⟩) a.2⟩
    .exact a.elim
   case min=>
    split at a
    .rename_i x y s;rw[s]at u;rw[u x Χ,u y Χ];exact a
    .exact a.elim
   case max=>
    split at a
    .rename_i x y s;rw[s]at u;rw[u x Χ,u y Χ];exact a
    .exact a.elim
   case len=>
    simp only[lp]at j
    split at a
    .rename_i x T s ar3;rw[s]at u j;have r:=u x Χ;rw[r];unfold eb at a |-
     cases e:E.ty T with
     |none=>rw[e]at a;exact a.elim
     |some t=>
      rw[e]at a;simp only at a |-;rw[aF]at a |-;refine⟨a.1,?_⟩;have a:=a.2
      cases s:aE n x<;>rw[s]at a<;>simp only[rM]at a |- <;>try exact a
      rename_i b k;rw[show M H' b 0=M H b 0 from j (b,0) (by simp [s,kp,ko])];exact a
    .exact a.elim
def aks{b:Bool}{x y:J}{K:J->Prop}(h:Jv b x y K): ∃av,Jv b x y (λz=>z=av)/\K av:=by
 cases b<;>exact⟨_,rfl,h⟩
def aBO{t:bU}{H:Heap}{x:J}{K:J->Prop}(h:pg t H x K): ∃av,pg t H x (λz=>z=av)/\K av:=by
 cases x<;>simp only[pg,aF]at h |- <;>try exact h.elim
 .exact⟨_,⟨h.1,rfl⟩,h.2⟩
 .split at h
  .exact⟨_,⟨h.1,h.2.1,h.2.2.1,rfl⟩,h.2.2.2⟩
  .exact h.elim
 .exact⟨_,⟨h.1,rfl⟩,h.2⟩
def aF9{t:bU}{H:Heap}{x y:J}{K:b3->Prop}(h:vZ t H x y K): ∃ws,vZ t H x y (λz=>z=ws)/\K ws:=by
 cases x<;>simp only[vZ,aF]at h |- <;>try exact h.elim
 .exact⟨_,⟨h.1,rfl⟩,h.2⟩
 .rename_i b k i o
  cases e:M H b 0<;>rw[e]at h<;>simp only at h |- <;>try exact h.elim
  obtain⟨a,c,d,g,j,f⟩:=h;exact⟨_,⟨a,c,d,g,j,rfl⟩,f⟩
def aB4{E:Env}{t:bU}{a:List J}{aD:Nat}{l c:Operand}{K:J->b3->Prop}(h:tp E t a aD l c K): ∃av ws,tp E t a aD l c (λx y=>x=av/\y=ws)/\K av ws:=by
 unfold tp at h |-
 cases d:t.d<;>rw[d]at h<;>simp only at h |- <;>try exact h.elim
 rename_i e n m
 cases g:E.ty e<;>rw[g]at h<;>simp only at h |-
 cases f:aE a l<;>rw[f]at h<;>simp only at h |- <;>try exact h.elim
 cases b:aE a c<;>rw[b]at h<;>simp only at h |- <;>try exact h.elim
 have⟨i,j,k⟩:=aF.1 h;exact⟨_,_,aF.2 ⟨i,j,rfl,rfl⟩,k⟩
def ata{t:bU}{H:Heap}{f:Nat}{x:J}{K:J->Prop}(h:uu t H f x K): ∃av,uu t H f x (λz=>z=av)/\K av:=by
 unfold uu at h |-
 cases a:t.d<;>rw[a]at h<;>simp only at h |- <;>try exact h.elim
 rename_i c
 cases b:c[f]? <;>rw[b]at h<;>simp only at h |-
 cases x<;>simp only at h |- <;>try exact h.elim
 .exact⟨_,rfl,h⟩
 .split at h
  .exact⟨_,⟨h.1,rfl⟩,h.2⟩
  .exact h.elim
 .exact⟨_,rfl,h⟩
def axT{t:bU}{H:Heap}{x y:J}{K:J->Prop}(h:vo t H x y K): ∃av,vo t H x y (λz=>z=av)/\K av:=by
 unfold vo at h |-
 cases a:t.d<;>rw[a]at h<;>simp only at h |- <;>try exact h.elim
 case array=>
  cases y<;>simp only at h |- <;>try exact h.elim
  cases x<;>simp only[aF]at h |- <;>first|exact h.elim|exact⟨_,⟨h.1,rfl⟩,h.2⟩
 cases y<;>simp only at h |- <;>try exact h.elim
 cases x<;>simp only at h |- <;>try exact h.elim
 .rw[aF]at h;exact⟨_,aF.2 ⟨h.1,h.2.1,rfl⟩,h.2.2⟩
 .split at h
  .rw[aF]at h;exact⟨_,aF.2 ⟨h.1,h.2.1,h.2.2.1,rfl⟩,h.2.2.2⟩
  .exact h.elim
def axL{E:TypeId->Option bU}{t:bU}{x y:J}{K:J->Prop}(h:xT E t x y K): ∃av,xT E t x y (λz=>z=av)/\K av:=by
 unfold xT at h |-
 cases a:t.d<;>rw[a]at h<;>simp only at h |- <;>try exact h.elim
 cases y<;>simp only at h |- <;>try exact h.elim
 cases x<;>simp only at h |- <;>try exact h.elim
 rename_i n e c _ _ _
 cases b:E e<;>rw[b]at h<;>simp only[aF]at h |- <;>first|exact h.elim|exact⟨_,⟨h.1,rfl⟩,h.2⟩
def ax2{a:BinOp}{k:IntKind}{p q:Int}{K:J->Prop}(h:xW a k p q K): ∃av,xW a k p q (λz=>z=av)/\K av:=by
 cases a<;>simp only[xW]at h |- <;>first|exact h.elim|exact⟨_,rfl,h⟩|exact⟨_,⟨h.1,rfl⟩,h.2⟩
def aqB{t:bU}{a:BinOp}{x y:J}{K:J->Prop}(h:qP t a x y K): ∃av,qP t a x y (λz=>z=av)/\K av:=by
 cases x<;>cases y<;>simp only[qP]at h |- <;>try exact h.elim
 .cases es:OO a with
  |true=>
   rw[es]at h;simp only[Qr]at h |-;obtain⟨e,h⟩:=h
   cases a<;>simp only at h |- <;>first|exact h.elim|exact⟨_,⟨e,rfl⟩,h⟩
  |false=>
   rw[es]at h;simp only at h |-;rw[aF]at h;have⟨av,b,f⟩:=ax2 h.2;exact⟨av,aF.2 ⟨h.1,b⟩,f⟩
 .cases d:t.d<;>rw[d]at h<;>simp only at h |- <;>try exact h.elim
  cases a<;>simp only at h |- <;>first|exact h.elim|exact⟨_,rfl,h⟩
 .cases a<;>simp only at h |- <;>first|exact h.elim|exact⟨_,rfl,h⟩|exact⟨_,⟨h.1,rfl⟩,h.2⟩
 .rw[aF]at h;obtain⟨b,c⟩:=h
  cases a<;>simp only at c |- <;>first|exact c.elim|exact⟨_,aF.2 ⟨b,rfl⟩,c⟩
def aGQ{a:UnOp}{x:J}{K:J->Prop}(h:Bk a x K): ∃av,Bk a x (λz=>z=av)/\K av:=by
 cases a<;>cases x<;>simp only[Bk]at h |- <;>first|exact h.elim|exact⟨_,rfl,h⟩
def aBE{H:Heap}{x:J}{K:J->Prop}(h:rM H x K): ∃av,rM H x (λz=>z=av)/\K av:=by
 cases x<;>simp only[rM]at h |- <;>try first|exact h.elim|exact⟨_,rfl,h⟩
 split at h
 .exact⟨_,⟨h.1,rfl⟩,h.2⟩
 .exact h.elim
def aCZ{H:Heap}{x:J}{K:J->Prop}(h:vI H x K): ∃av,vI H x (λz=>z=av)/\K av:=by
 cases x<;>simp only[vI]at h |- <;>try first|exact h.elim|exact⟨_,rfl,h⟩
 split at h
 .exact⟨_,⟨h.1,rfl⟩,h.2⟩
 .exact h.elim
def acB{c:List (Nat×Nat)}{d:List J}{K:List J->Prop} : ∀(b:List (Nat×Operand)) (cs:List J),oq c d b cs K-> ∃a,oq c d b cs (λz=>z=a)/\K a
 |[],cs,h=>⟨cs,rfl,h⟩
 |(i,x)::b,cs,h=>by
  simp only[oq]at h |-
  cases e:c[i]? with
  |none=>rw[e]at h;exact h.elim
  |some q=>
   rw[e]at h;simp only at h |-;rw[aF]at h;have⟨a,f,g⟩:=acB b _ h.2;exact⟨a,aF.2 ⟨h.1,f⟩,g⟩
def aes{H:Heap}{x:J}{K:J->Prop}(h:jy H x K): ∃y,jy H x (λz=>z=y)/\K y:=by
 cases x<;>simp only[jy]at h |- <;>try first|exact⟨_,rfl,h⟩|exact⟨_,aF.2 ⟨(aF.1 h).1,rfl⟩,(aF.1 h).2⟩
 split at h
 .exact⟨_,⟨h.1,rfl⟩,h.2⟩
 .exact h.elim
def T8{H:Heap} : ∀{cs:List J} {K:List J->Prop},m0 H cs K-> ∃a,m0 H cs (λz=>z=a)/\K a
 |[],_,h=>⟨[],rfl,h⟩
 |c::cs,K,h=>by
  have⟨y,b,d⟩:=aes h;have⟨a,e,f⟩:=T8 d;exact⟨y::a,T2 (λz g=>by subst g;exact y3 (λj i=>by rw[i]) e) b,f⟩
def T9{H:Heap} : ∀{b:List (List J)} {K:List (List J)->Prop},oB H b K-> ∃a,oB H b (λz=>z=a)/\K a
 |[],_,h=>⟨[],rfl,h⟩
 |c::cs,K,h=>by
  have⟨y,d,e⟩:=T8 h;have⟨a,f,g⟩:=T9 e;exact⟨y::a,y3 (λz i=>by subst i;exact LG (λk j=>by rw[j]) f) d,g⟩
def atv{H:Heap}{x:J}{K:J->Prop}(h:lL H x K): ∃y,lL H x (λz=>z=y)/\K y:=by
 cases x
 case agg cs=>
  have⟨a,b,c⟩:=T8 (K:=λa=>K (.agg a)) h;exact⟨.agg a,y3 (K2:=λz=>J.agg z= .agg a) (λz d=>by rw[d]) b,c⟩
 all_goals
  simp only[lL]at h |-;exact aes h
def aew{H:Heap} : ∀{cs:List J} {K:List J->Prop},nF H cs K-> ∃a,nF H cs (λz=>z=a)/\K a
 |[],_,h=>⟨[],rfl,h⟩
 |c::cs,K,h=>by
  have⟨y,b,d⟩:=atv h;have⟨a,e,f⟩:=aew d;exact⟨y::a,T3 (λz g=>by subst g;exact F7 (λj i=>by rw[i]) e) b,f⟩
def aEZ{aD:Nat}{r:J}{a:b3}{K:J->b3->Prop}(h:vS aD r a K): ∃av b,vS aD r a (λx y=>x=av/\y=b)/\K av b:=by
 cases r<;>exact⟨_,_,⟨rfl,rfl⟩,h⟩
def aq8{H:Heap}{aD:Nat}{f:FuncId}{c:List J}{K:J->b3->Prop}(h:wF E H aD f c K): ∃av ws,wF E H aD f c (λx y=>x=av/\y=ws)/\K av ws:=by
 have⟨l,d,a⟩:=aew h
 cases b:E.spec f l with
 |none=>rw[b]at a;exact a.elim
 |some q=>
  obtain⟨m,r⟩:=q;rw[b]at a;have⟨e,g⟩:=rS.1 a;have⟨av,ws,i,j⟩:=aEZ g;refine⟨av,ws,F7 (λz k=> ?_) d,j⟩;subst k;rw[b];exact rS.2 ⟨e,i⟩
def FF{a:List J}{d:Int}{o:Option Operand}{K:Int->Prop}(h:c4 a d o K): ∃z,c4 a d o (λy=>y=z)/\K z:=by
 cases o with
 |none=>exact⟨_,rfl,h⟩
 |some x=>
  simp only[c4]at h |-
  cases e:aE a x<;>rw[e]at h<;>simp only at h |- <;>first|exact h.elim|exact⟨_,rfl,h⟩
def S4{d:List J}{f g:Int}{l hh m:Option Operand}{C:Int->Int->Int->Prop}{A:Int->Int->Int->J}{ws:b3}{K:J->b3->Prop}(h:c4 d f l λb=>c4 d g hh λa=>c4 d a m λc=>C b a c/\K (A b a c) ws):
  ∃av,(c4 d f l λb=>c4 d g hh λa=>c4 d a m λc=>C b a c/\A b a c=av/\ws=ws)/\K av ws:=by
 have⟨b,i,h⟩:=FF h;have⟨a,j,h⟩:=FF h;have⟨c,k,h⟩:=FF h;refine⟨A b a c,wD (λz e=> ?_) i,h.2⟩;subst e;refine wD (λz e=> ?_) j;subst e;refine wD (λz e=> ?_) k;subst e;exact⟨h.1,rfl,rfl⟩
def aFN{t:bU}{H:Heap}{u:List J}{x:J}{l hh m:Option Operand}{K:J->b3->Prop}(h:tF t H u x l hh m K): ∃av ws,tF t H u x l hh m (λp q=>p=av/\q=ws)/\K av ws:=by
 unfold tF at h |-;rw[aF]at h;obtain⟨j,h⟩:=h
 cases v:t.d<;>rw[v]at h<;>simp only at h<;>try exact h.elim
 .cases x<;>simp only at h |- <;>try exact h.elim
  cases m with
  |some _=>exact h.elim
  |none=>
   have⟨d,a,h⟩:=FF h;have⟨o,c,h⟩:=FF h;refine⟨_,[],aF.2 ⟨j,wD (λz s=> ?_) a⟩,h.2⟩;subst s;refine wD (λz s=> ?_) c;subst s;exact⟨h.1,rfl,rfl⟩
 .cases x<;>simp only at h |- <;>try exact h.elim
  .obtain⟨av,a,c⟩:=S4 (A:=λ_ _ _=>J.aH) h;exact⟨av,[],aF.2 ⟨j,a⟩,c⟩
  .rename_i g n f;rw[aF]at h;obtain⟨r,h⟩:=h;have⟨av,a,c⟩:=S4 (A:=λd o _=>vL (lG m g) g (o-d).toNat (λi=>f (d.toNat+i))) h;exact⟨av,[],aF.2 ⟨j,aF.2 ⟨r,a⟩⟩,c⟩
  .rename_i b k
   cases e:M H b 0<;>rw[e]at h<;>simp only at h |- <;>try exact h.elim
   rename_i y g n f;have⟨r,w,h⟩:=aF.1 h;have⟨av,a,c⟩:=S4 (A:=λd o _=>vL (lG m g) g (o-d).toNat (λi=>f (d.toNat+i))) h;exact⟨av,_,aF.2 ⟨j,aF.2 ⟨r,w,a⟩⟩,c⟩
def arD{t u:bU}{c:Option bU}{H:Heap}{x:J}{K:J->Prop}(h:uk t u c H x K): ∃av,uk t u c H x (λz=>z=av)/\K av:=by
 cases x<;>simp only[uk]at h |- <;>try exact h.elim
 .cases b:u.d<;>rw[b]at h<;>simp only at h |- <;>try exact h.elim
  cases a:t.d<;>rw[a]at h<;>simp only at h |- <;>first|exact h.elim|exact⟨_,rfl,h⟩
 .cases a:t.d<;>rw[a]at h<;>simp only at h |- <;>try exact h.elim
  cases b:u.d<;>rw[b]at h<;>simp only at h |- <;>first|exact⟨_,rfl,h⟩|exact⟨_,aF.2 ⟨(aF.1 h).1,rfl⟩,(aF.1 h).2⟩
 .exact⟨_,aF.2 ⟨(aF.1 h).1,rfl⟩,(aF.1 h).2⟩
 .exact⟨_,aF.2 ⟨(aF.1 h).1,(aF.1 h).2.1,rfl⟩,(aF.1 h).2.2⟩
 .split at h
  .exact⟨_,aF.2 ⟨(aF.1 h).1,(aF.1 h).2.1,(aF.1 h).2.2.1,rfl⟩,(aF.1 h).2.2.2⟩
  .exact h.elim
def aF0{H:Heap}{d:Bool}{c:Nat}{y:J}{K:Nat->(Nat->List J)->Prop}(h:n9 H d c y K): ∃m g,n9 H d c y (λa b=>a=m/\b=g)/\K m g:=by
 cases y<;>simp only[n9]at h |- <;>try exact h.elim
 .exact⟨_,_,aF.2 ⟨(aF.1 h).1,rfl,rfl⟩,(aF.1 h).2⟩
 .exact⟨_,_,aF.2 ⟨(aF.1 h).1,rfl,rfl⟩,(aF.1 h).2⟩
 .exact⟨_,_,aF.2 ⟨(aF.1 h).1,rfl,rfl⟩,(aF.1 h).2⟩
 .split at h
  .exact⟨_,_,aF.2 ⟨(aF.1 h).1,(aF.1 h).2.1,rfl,rfl⟩,(aF.1 h).2.2⟩
  .exact h.elim
def aqp{t:bU}{r:Bool}{H:Heap}{aD:Nat}{x y:J}{K:J->b3->Prop}(h:pG t r H aD x y K): ∃av ws,pG t r H aD x y (λp q=>p=av/\q=ws)/\K av ws:=by
 unfold pG at h |-
 cases s:t.d<;>rw[s]at h<;>simp only at h |- <;>try exact h.elim
 rw[aF]at h;obtain⟨n,h⟩:=h;have⟨m,g,u,c⟩:=aF0 h;clear h;have d: ∀{Z:Nat->(Nat->List J)->Prop},Z m g->n9 H r _ y Z:=λv=>alE (λ_ _ _=>rfl) (λa b w=>by obtain⟨rfl,rfl⟩:=w;exact v) u
 cases x<;>simp only at c |- <;>try exact c.elim
 .exact⟨_,_,aF.2 ⟨n,d ⟨c.1,rfl,rfl⟩⟩,c.2⟩
 .rename_i b k
  cases e:M H b 0<;>rw[e]at c<;>simp only at c |- <;>try exact c.elim
  have⟨o,f,i,hh,l,j⟩:=aF.1 c;exact⟨_,_,aF.2 ⟨n,d (aF.2 ⟨o,f,i,hh,l,rfl,rfl⟩)⟩,j⟩
 .obtain⟨o,f,i,hh,l,j⟩:=aF.1 c;exact⟨_,_,aF.2 ⟨n,d (aF.2 ⟨o,f,i,hh,l,rfl,rfl⟩)⟩,j⟩
def aqI{t:bU}{b:List J}{H:Heap}{aD c:Nat}{a:List (Nat×Operand)}{K:J->b3->Prop}(h:sm t b H aD c a K): ∃av ws,sm t b H aD c a (λp q=>p=av/\q=ws)/\K av ws:=by
 unfold sm at h |-
 cases d:t.d<;>rw[d]at h<;>simp only at h |- <;>try exact h.elim
 rename_i e f o
 cases m:l6 f b a 0<;>rw[m]at h<;>simp only at h |-
 have⟨g,i⟩:=aF.1 h;have⟨r,j,hh,k,l⟩:=T9 i;exact⟨_,_,aF.2 ⟨g,LG (λz n=>by subst n;exact⟨hh,k,rfl,rfl⟩) j⟩,l⟩
def aCe{x y:J}{K:J->Prop}(h:AJ x y K): ∃av,AJ x y (λz=>z=av)/\K av:=by
 cases x<;>cases y<;>simp only[AJ]at h |- <;>try exact h.elim
 exact⟨_,aF.2 ⟨(aF.1 h).1,rfl⟩,(aF.1 h).2⟩
def aB_{x y:J}{K:J->Prop}(h:AI x y K): ∃av,AI x y (λz=>z=av)/\K av:=by
 cases x<;>cases y<;>simp only[AI]at h |- <;>try exact h.elim
 exact⟨_,aF.2 ⟨(aF.1 h).1,rfl⟩,(aF.1 h).2⟩
def aqn{aD:Nat}{o:List J}{H:Heap}{u:Op}{K:J->b3->Prop}(a:jc E aD o H u K): ∃av ws,jc E aD o H u (λx y=>x=av/\y=ws)/\K av ws:=by
 have q: ∀{p:(J->Prop)->Prop},(∃av,p (λz=>z=av)/\K av [])->(∀av,p (λz=>z=av)->p (λz=>z=av/\([]:b3)=[]))-> ∃av ws,p (λx=>x=av/\([]:b3)=ws)/\K av ws:=λ⟨av,j,n⟩ P=>⟨av,[],P av j,n⟩;have e: ∀av:J,(λz=>z=av/\([]:b3)=[])=(λz=>z=av):=λav=>by funext z;simp
 cases u<;>simp only[jc]at a |- <;>try exact a.elim
 case move x=>exact⟨_,_,⟨rfl,rfl⟩,a⟩
 case assign x=>exact⟨_,_,⟨rfl,rfl⟩,a⟩
 case pick c x y=>
  cases s:aE o c<;>rw[s]at a<;>simp only at a |- <;>try exact a.elim
  .exact q (aks a) λav h=>by rw[e];exact h
  .exact q (aks a) λav h=>by rw[e];exact h
 case alloc T=>
  unfold eb at a |-
  cases d:E.ty T<;>rw[d]at a<;>simp only at a |-
  rw[aF]at a;exact⟨_,_,aF.2 ⟨a.1,rfl,rfl⟩,a.2⟩
 case box T x=>
  rw[aF]at a;exact⟨_,_,aF.2 ⟨a.1,rfl,rfl⟩,a.2⟩
 case build T Q=>
  unfold eb at a |-
  cases d:E.ty T<;>rw[d]at a<;>simp only at a |-
  rename_i t
  cases N:t.d<;>rw[N]at a<;>simp only at a |- <;>try exact a.elim
  have⟨I,j,n⟩:=acB _ _ a;refine⟨.agg I,[],?_,n⟩;simpa using j
 case load T x=>
  unfold eb at a |-
  cases d:E.ty T<;>rw[d]at a<;>simp only at a |-
  exact q (aBO a) λav h=>by rw[e];exact h
 case store T x y=>
  unfold eb at a |-
  cases d:E.ty T<;>rw[d]at a<;>simp only at a |-
  have⟨ws,j,n⟩:=aF9 a;exact⟨.undef,ws,by simpa using j,n⟩
 case nilCheck x=>exact q (aCZ a) λav h=>by rw[e];exact h
 case binOp u T x y R=>
  unfold eb at a |-
  cases d:E.ty T<;>rw[d]at a<;>simp only at a |-
  exact q (aqB a) λav h=>by rw[e];exact h
 case unOp u T x=>exact q (aGQ a) λav h=>by rw[e];exact h
 case fieldAddr T x f=>
  unfold eb at a |-
  cases d:E.ty T<;>rw[d]at a<;>simp only at a |-
  exact q (ata a) λav h=>by rw[e];exact h
 case indexAddr T x y=>
  unfold eb at a |-
  cases d:E.ty T<;>rw[d]at a<;>simp only at a |-
  exact q (axT a) λav h=>by rw[e];exact h
 case index T x y=>
  unfold eb at a |-
  cases d:E.ty T<;>rw[d]at a<;>simp only at a |-
  exact q (axL a) λav h=>by rw[e];exact h
 case extract x i=>
  cases v:aE o x<;>rw[v]at a<;>simp only[Ca]at a |- <;>try exact a.elim
  rw[aF]at a;exact⟨_,_,aF.2 ⟨a.1,rfl,rfl⟩,a.2⟩
 case buildSlice T len Q=>
  unfold eb at a |-
  cases d:E.ty T<;>rw[d]at a<;>simp only at a |-
  exact aqI a
 case makeSlice T l c=>
  unfold eb at a |-
  cases d:E.ty T<;>rw[d]at a<;>simp only at a |-
  exact aB4 a
 case slice T x l hh m=>
  unfold eb at a |-
  cases d:E.ty T<;>rw[d]at a<;>simp only at a |-
  exact aFN a
 case makeFunc O first S=>
  cases h8:O<;>rw[h8]at a<;>simp only at a |- <;>try exact a.elim
  have⟨j,n⟩:=aF.1 a;exact⟨_,_,aF.2 ⟨j,rfl,rfl⟩,n⟩
 case convert F D x=>
  unfold eb at a |-
  cases d:E.ty F<;>rw[d]at a<;>simp only at a |-
  cases M:E.ty D<;>rw[M]at a<;>simp only at a |-
  exact q (arD a) λav h=>by rw[e];exact h
 case call c=>
  cases s:c.callee with
  |value f=>
   rw[s]at a;simp only at a |-;unfold BP at a |-
   cases h8:aE o f<;>rw[h8]at a<;>simp only at a |- <;>try exact a.elim
   rename_i g G
   cases B:Au E.eV g (c.args.toList.map (aE o)++G)with
   |true=>
    rw[B]at a;exact awj a
   |false=>
    rw[B]at a;have⟨j,n⟩:=aF.1 a;have⟨av,ws,w,A⟩:=aq8 n;exact⟨av,ws,aF.2 ⟨j,w⟩,A⟩
  |invoke r m=>rw[s]at a;exact a.elim
  |builtin b=>
   rw[s]at a
   cases b<;>simp only at a |- <;>try exact a.elim
   case append=>
    split at a
    .unfold eb at a |-;rename_i x y T C v d
     cases d:E.ty T<;>rw[d]at a<;>simp only at a |-
     cases L:E.ty C<;>rw[L]at a<;>simp only at a |-
     have⟨j,n⟩:=aF.1 a;have⟨av,ws,w,A⟩:=aqp n;exact⟨av,ws,aF.2 ⟨j,w⟩,A⟩
    .exact a.elim
   case min=>
    split at a
    .exact q (aCe a) λav h=>by rw[e];exact h
    .exact a.elim
   case max=>
    split at a
    .exact q (aB_ a) λav h=>by rw[e];exact h
    .exact a.elim
   case len=>
    split at a
    .unfold eb at a |-;rename_i x T v d
     cases d:E.ty T<;>rw[d]at a<;>simp only at a |-
     rw[aF]at a;exact q (p:=λk=>dm (IY _ _) (rM H (aE o x) k)) (by have⟨av,j,n⟩:=aBE a.2;exact⟨av,aF.2 ⟨a.1,j⟩,n⟩) λav h=>by rw[e];exact h
    .exact a.elim
end
structure abn (E:Env) (ops:Array Oper) (o:Oper) (st:O) (r:Rec):Prop where
 wanted:tI ops o st.n=some r.run
 yes:r.run=true->(∃av,jc E r.aD st.n st.k o.op (λx y=>x=av/\y=r.ws)/\Kv av r.val)/\r.rd=lp E st.n o.op/\r.gI=rT st.n st.k o.op/\st.k.length<=r.aD
 no:r.run=false->r.val= .gone/\r.ws=[]
inductive wo (E:Env) (ops:Array Oper):List Oper->O->List Rec->O->Prop
 |nil (st:O):wo E ops [] st [] st
 |cons (o:Oper) (l:List Oper) (st:O) (r:Rec) (rs:List Rec) (lq:O) (h:abn E ops o st r) (k:wo E ops l (h7 o r st) rs lq):wo E ops (o::l) st (r::rs) lq
def ud(E:Env)(ops:Array Oper):List Oper->Nat->O->List Rec->(List Rec->O->Prop)->Prop
 |[],_,st,rs,K=>K rs.reverse st
 |o::a,i,st,rs,K=>xL ops o st (∃aD,st.k.length<=aD/\jc E aD st.n st.k o.op λav b=>D5 (JW a i) av λav=>ud E ops a (i+1) ⟨k0 o.dst av st.n,bN st.k b⟩ (⟨av,b,lp E st.n o.op,rT st.n st.k o.op,aD,true⟩::rs) K)
   (ud E ops a (i+1) ⟨k0 o.dst .gone st.n,st.k⟩ (⟨.gone,[],[],[],0,false⟩::rs) K)
def SP{E:Env}{ops:Array Oper} : ∀(l:List Oper) (i:Nat) (st:O) (acc:List Rec) (K:List Rec->O->Prop),ud E ops l i st acc K->
  ∃rs a,wo E ops l st rs a/\K (acc.reverse++rs) a
 |[],_,st,acc,K,h=>⟨[],st,.nil st,by simpa[ud]using h⟩
 |o::l,i,st,acc,K,h=>by
  rcases agV h with⟨g,b⟩|⟨g,b⟩
  .obtain⟨aD,m,b⟩:=b;obtain⟨av,n,j,c⟩:=aqn b;obtain⟨r,k,c⟩:=ajd c;obtain⟨rs,a,d,f⟩:=SP l _ _ _ K c;refine⟨_::rs,a,.cons o l st ⟨r,n,lp E st.n o.op,rT st.n st.k o.op,aD,true⟩ rs a ⟨g,λ_=>⟨⟨av,j,k⟩,rfl,rfl,m⟩,(λe=>by cases e)⟩ d,by simpa using f⟩
  .obtain⟨rs,a,d,f⟩:=SP l _ _ _ K b;refine⟨_::rs,a,.cons o l st ⟨.gone,[],[],[],0,false⟩ rs a ⟨g,(λe=>by cases e),λ_=>⟨rfl,rfl⟩⟩ d,by simpa using f⟩
def acc(L:Nat->Bool):List (Oper×Rec)->Nat->O->O
 |[],_,st=>st
 |(o,r)::l,i,st=>acc L l (i+1) (cond (L i) (h7 o r st) st)
def writes(a:b3)(b p:Nat):Prop:= ∃c,(b,p,c)∈a
def OE: ∀(a:b3) (H:Heap) (b p:Nat),¬writes a b p->M (bN H a) b p=M H b p
 |[],_,_,_,_=>rfl
 |(b',f,c)::a,H,b,p,h=>by
  rw[bN,OE a _ b p (λ⟨d,e⟩=>h ⟨d,by simp [e]⟩),fo,aW]
  rintro⟨rfl,rfl⟩
  exact h ⟨c,by simp⟩
def Xk: ∀(a:b3) (H H':Heap) (b p:Nat),(writes a b p\/M H' b p=M H b p)->M (bN H' a) b p=M (bN H a) b p
 |[],_,_,_,_,h=>h.elim (λ⟨_,h⟩=>by cases h) id
 |(b',i,c)::a,H,H',b,p,h=>by
  rw[bN,bN];refine Xk a _ _ b p ?_
  by_cases f:writes a b p
  .exact .inl f
  .refine .inr ?_;rw[fo,fo]
   by_cases e:b=b'/\p=i
   .rw[bg e,bg e]
   .rw[aW e,aW e];rcases h with⟨g,d⟩|h
    .rcases ih.1 d with d|d
     .cases d;exact absurd ⟨rfl,rfl⟩ e
     .exact absurd ⟨g,d⟩ f
    .exact h
def X_: ∀(d:b3) (H:Heap),H.length<=(bN H d).length/\ ∀b p,writes d b p->b<(bN H d).length
 |[],_=>⟨bH _,λ_ _ ⟨_,h⟩=>by cases h⟩
 |(b,p,c)::d,H=>by
  have f:=x1 H b p c;have e:=X_ d (bM H b p c);refine⟨ec f.1 e.1,λb' i ⟨g,a⟩=> ?_⟩;rcases ih.1 a with a|a
  .cases a;exact hj f.2 e.1
  .exact e.2 b' i ⟨g,a⟩
def FU(d:Option Nat)(av:J)(a:List J)(t:Nat):(k0 d av a)[t]? =if d=some t then(a[t]?).map (λ_=>av)else a[t]? :=by
 cases d with
 |none=>simp [k0]
 |some d=>
  simp only[k0,we,hI]
  by_cases e:d=t
  .subst e;simp only[ma]
   split
   .rename_i h;simp [cG h]
   .rename_i h;rw[fk Ω];rfl
  .simp [e]
def KC{L b:Nat->Bool}{t:Nat} : ∀(l:List (Oper×Rec)) (k:Nat) (st a:O),st.n[t]? =a.n[t]?->(∀(i:Nat) o r,l[i]? =some (o,r)->o.dst=some t->L (k+i)=b (k+i))->(acc L l k st).n[t]? =(acc b l k a).n[t]?
 |[],_,_,_,h,_=>h
 |(o,r)::l,k,st,a,h,c=>by
  rw[acc,acc];refine KC l (k+1) _ _ ?_ λi m n j g=>by
   have:=c (i+1) m n (by simpa using j) g;rwa [show k+(i+1)=k+1+i by omega]at this
  by_cases e:o.dst=some t
  .have:=c 0 o r rfl e;rw[nu]at this;rw[this]
   cases b k
   .exact h
   .simp only[au,h7,FU,e,ma,h]
  .have d:(h7 o r st).n[t]? =st.n[t]? :=by simp [h7,FU,e]
   have f:(h7 o r a).n[t]? =a.n[t]? :=by simp [h7,FU,e]
   cases L k<;>cases b k<;>simp only[au,aB,d,f,h]
def Fo{L c:Nat->Bool}{b p:Nat} : ∀(l:List (Oper×Rec)) (k:Nat) (st a:O),M st.k b p=M a.k b p->(∀(i:Nat) o r,l[i]? =some (o,r)->writes r.ws b p->L (k+i)=c (k+i))->M (acc L l k st).k b p=M (acc c l k a).k b p
 |[],_,_,_,h,_=>h
 |(o,r)::l,k,st,a,h,d=>by
  rw[acc,acc];refine Fo l (k+1) _ _ ?_ λi n q m j=>by
   have:=d (i+1) n q (by simpa using m) j;rwa [show k+(i+1)=k+1+i by omega]at this
  by_cases e:writes r.ws b p
  .have:=d 0 o r rfl e;rw[nu]at this;rw[this]
   cases c k
   .exact h
   .simp only[au,h7];exact Xk r.ws a.k st.k b p (.inl e)
  .have f:M (h7 o r st).k b p=M st.k b p:=OE _ _ _ _ e;have g:M (h7 o r a).k b p=M a.k b p:=OE _ _ _ _ e
   cases L k<;>cases c k<;>simp only[au,aB,f,g,h]
def axE{a:b3}{b:Nat} : ∀{H:Heap},(∀p,¬writes a b p)->(bN H a).getD b []=H.getD b []:=by
 induction a with
 |nil=>intro H _;rfl
 |cons q a g=>
  obtain⟨b',i,c⟩:=q;intro H h;rw[bN,g λp ⟨d,f⟩=>h p ⟨d,by simp [f]⟩];unfold bM;rw[rC,aW];intro e;exact h i ⟨c,by simp [e]⟩
def ahL{b:Nat} : ∀{a:b3} {H H':Heap},H.getD b []=H'.getD b []->(bN H a).getD b []=(bN H' a).getD b []
 |[],_,_,h=>h
 |(b',d,c)::a,H,H',h=>by
  rw[bN,bN];refine ahL ?_;unfold bM;rw[rC,rC]
  by_cases e:b=b'
  .subst e;rw[bg rfl,bg rfl,h]
  .rw[aW e,aW e];exact h
def ab2{L a:Nat->Bool}{b:Nat} : ∀(l:List (Oper×Rec)) (k:Nat) (st c:O),st.k.getD b []=c.k.getD b []->(∀(i:Nat) o r,l[i]? =some (o,r)->(∃p,writes r.ws b p)->L (k+i)=a (k+i))->
  (acc L l k st).k.getD b []=(acc a l k c).k.getD b []
 |[],_,_,_,h,_=>h
 |(o,r)::l,k,st,c,h,f=>by
  rw[acc,acc];refine ab2 l (k+1) _ _ ?_ (λi q s m j=>by
   have:=f (i+1) q s (by simpa using m) j;rwa [show k+(i+1)=k+1+i by omega]at this)
  by_cases e: ∃p,writes r.ws b p
  .have d:=f 0 o r rfl e;rw[nu]at d;rw[d]
   cases a k
   .exact h
   .exact ahL h
  .have g: ∀st:O,(h7 o r st).k.getD b []=st.k.getD b []:=λst=>axE λp n=>e ⟨p,n⟩
   cases L k<;>cases a k<;>simp only[au,aB,g,h]
def Fp{L:Nat->Bool} : ∀(l:List (Oper×Rec)) (k:Nat) (st:O),(acc L l k st).n.length=st.n.length/\st.k.length<=(acc L l k st).k.length/\
  ∀(i:Nat) o r,l[i]? =some (o,r)->L (k+i)=true-> ∀b p,writes r.ws b p->b<(acc L l k st).k.length
 |[],_,_=>⟨rfl,bH _,λi o r h=>by simp at h⟩
 |(o,r)::l,k,st=>by
  have⟨g,c,j⟩:=Fp (L:=L) l (k+1) (cond (L k) (h7 o r st) st);have e:(cond (L k) (h7 o r st) st).n.length=st.n.length/\st.k.length<=(cond (L k) (h7 o r st) st).k.length:=by
   cases L k
   .exact⟨rfl,bH _⟩
   .refine⟨?_,(X_ _ _).1⟩;simp only[au,h7]
    cases o.dst<;>simp [k0]
  refine⟨by rw[acc,g,e.1],by rw[acc];exact ec e.2 c,λi m n a d b p f=> ?_⟩;rw[acc]
  cases i with
  |zero=>
   simp at a;obtain⟨rfl,rfl⟩:=a;rw[nu]at d;refine hj ?_ c;rw[d];exact(X_ _ _).2 b p f
  |succ i=>exact j i m n (by simpa using a) (by rwa [show k+1+i=k+(i+1) by omega]) b p f
def Fm{L:Nat->Bool} : ∀(l:List (Oper×Rec)) (k:Nat) (st:O),(∀i,k<=i->L i=false)->acc L l k st=st
 |[],_,_,_=>rfl
 |(o,r)::l,k,st,h=>by
  rw[acc,h k (bH _)];exact Fm l (k+1) st λi a=>h i Ω
def wo.at{E:Env}{ops:Array Oper}{l:List Oper}{st b:O}{rs:List Rec}(h:wo E ops l st rs b): ∀k,l.length=rs.length/\b=acc (λ_=>true) (l.zip rs) k st/\
  ∀(j:Nat) o r,(l.zip rs)[j]? =some (o,r)->abn E ops o (acc (λi=>decide (i<k+j)) (l.zip rs) k st) r:=by
 induction h with
 |nil st=>exact λk=>⟨rfl,rfl,λj o r h=>by simp at h⟩
 |cons o l st r rs b h k m=>
  intro n;have⟨c,d,e⟩:=m (n+1);refine⟨by simp [c],?_,λj p q a=> ?_⟩
  .rw[d];rfl
  .cases j with
   |zero=>
    simp at a;obtain⟨rfl,rfl⟩:=a;rw[Fm _ _ _ (λi g=>by simpa using g)];exact h
   |succ j=>
    have:=e j p q (by simpa using a);rw[List.zip_cons_cons,acc];have f:decide (n<n+(j+1))=true:=by simp
    rw[f];rw[show n+(j+1)=n+1+j by omega];exact this
def I1(es:List Edge)(acc:List Nat):Nat:=es.foldl (λm e=>if Region.binds .any e then m|||2^e.on|||acc.getD e.on 0 else m) 0
def Eb:List Oper->List Nat->List Nat
 |[],acc=>acc
 |o::r,acc=>Eb r (acc++[I1 o.after.toList acc])
def K9(a b:List (Nat×Nat)):Bool:=a.all λx=> !b.contains x
def tJ(a:b3):List (Nat×Nat):=a.map λx=>(x.1,x.2.1)
def Ja(b:Nat)(l:List (Nat×Nat)):Bool:=l.all λx=>x.1 !=b
def vH(r:Rec):List Nat:=r.aD::(r.ws.map (·.1)).filter (Nat.blt r.aD)
def aCV{r:Rec}{b:Nat}(h:b∈vH r):r.aD<=b:=by
 simp only[vH,ih,JZ,jL]at h;omega
def aCW{r:Rec}{b p:Nat}{c:J}(h:(b,p,c)∈r.ws)(a:r.aD<b):b∈vH r:=by
 simp only[vH,ih,JZ,jL,oc];exact .inr ⟨⟨_,h,rfl⟩,a⟩
def ahV(b o:Nat)(c:J):Bool:=
 match c with
 | .ptr b' a=>Nat.beq b' b&&Nat.beq a o
 |_=>false
def Pv(H:Heap)(rs:List Rec)(b p:Nat):Bool:=
 match M H b p with
 | .ptr ch a=>rs.all λr=>r.ws.all λx=> !(Nat.beq x.1 b&&Nat.beq x.2.1 p)||ahV ch a x.2.2
 |_=>false
def ajZ{H:Heap}{rs:List Rec}{b p:Nat}(h:Pv H rs b p=true){r:Rec}(f:r∈rs){c:J}(d:(b,p,c)∈r.ws):c=M H b p:=by
 unfold Pv at h
 split at h<;>try exact Ζ
 rename_i ch g e;rw[e];have a:=d_.1 (d_.1 h r f) _ d;simp only[ob,Bool.and_self,Bool.not_true,Bool.false_or]at a;unfold ahV at a
 split at a<;>try exact Ζ
 rw[b2]at a;rw[ey a.1,ey a.2]
def PR(N:Nat->Nat->Bool)(l:List (Nat×Nat)):List (Nat×Nat):=l.filter λx=> !(N x.1 x.2)
def Et(N:Nat->Nat->Bool)(ops:Array Oper)(ms:List Nat)(i j:Nat)(d e:Oper)(a c:Rec):Bool:=
 (!(tg e.op)||(vH c).all λb=>Ja b (tJ a.ws))&&
 ((ms.getD j 0).testBit i||
   (K9 (PR N (tJ a.ws)) c.rd&&K9 (PR N (tJ a.ws)) (tJ c.ws)&&K9 a.rd (PR N (tJ c.ws))&&(!(tg d.op&& !a.ws.isEmpty)||(vH a).all λb=>Ja b (tJ c.ws))&&d.apart ops e&&c.gI.all (λb=>Ja b (tJ a.ws))&&a.gI.all (λb=>Ja b (tJ c.ws))))
def P3(N:Nat->Nat->Bool)(ops:Array Oper)(ms:List Nat)(a:Oper)(b:Rec)(i:Nat):List (Oper×Rec)->Nat->Bool
 |[],_=>true
 |(c,d)::l,j=>Et N ops ms i j a c b d&&P3 N ops ms a b i l (j+1)
def KF(N:Nat->Nat->Bool)(ops:Array Oper)(ms:List Nat):List (Oper×Rec)->Nat->Bool
 |[],_=>true
 |(o,r)::l,i=>P3 N ops ms o r i l (i+1)&&KF N ops ms l (i+1)
def KO:List Oper->Nat->Bool
 |[],_=>true
 |o::l,i=>o.after.all (λe=> !Region.binds .any e||decide (e.on<i))&&KO l (i+1)
def At(N:Nat->Nat->Bool)(ops:Array Oper)(rs:List Rec):Bool:=KO ops.toList 0&&KF N ops (Eb ops.toList []) (ops.toList.zip rs) 0
def indep(H:Heap)(ops:Array Oper)(rs:List Rec):Bool:=At (Pv H rs) ops rs
def apS(N:Nat->Nat->Bool)(H:Heap)(rs:List Rec):Prop:= ∀b p,N b p=true-> ∀r∈rs,∀c,(b,p,c)∈r.ws->c=M H b p
def BE(H:Heap)(ops:Array Oper)(rs:List Rec):Prop:= ∃N,apS N H rs/\At N ops rs=true
def BE.of{H:Heap}{ops:Array Oper}{rs:List Rec}(h:indep H ops rs=true):BE H ops rs:=⟨_,λ_ _ a _ c _ b=>ajZ a c b,h⟩
def ab6(E:Env)(ops:Array Oper)(st:O)(K:O->Prop):Prop:=
 ud E ops ops.toList 0 st [] λrs a=>BE st.k ops rs/\K a
def K_{a b:List (Nat×Nat)}(h:K9 a b=true): ∀x,x∈a->x∉b:=λx d c=>by
 have:=d_.1 h x d;simp at this;exact this c
def PS{N:Nat->Nat->Bool}{l:List (Nat×Nat)}{b p:Nat}(h:(b,p)∈l)(a:N b p=false):(b,p)∈PR N l:=JZ.2 ⟨h,by simp [a]⟩
def rP{a:b3}{b p:Nat} :(b,p)∈tJ a↔writes a b p:=by
 simp only[tJ,oc,writes];constructor
 .rintro⟨⟨b',d,c⟩,h,e⟩
  simp only[od]at e;obtain⟨rfl,rfl⟩:=e;exact⟨c,h⟩
 .rintro⟨c,h⟩
  exact⟨(b,p,c),h,rfl⟩
def Jb{b:Nat}{l:List (Nat×Nat)}(h:Ja b l=true): ∀p,(b,p)∉l:=λp a=>by
 have:=d_.1 h _ a;simp at this
def ak2{N:Nat->Nat->Bool}{ops:Array Oper}{ms:List Nat}{d:Oper}{e:Rec}{i:Nat} : ∀(l:List (Oper×Rec)) (k:Nat),P3 N ops ms d e i l k=true-> ∀(j:Nat) a b,l[j]? =some (a,b)->Et N ops ms i (k+j) d a e b=true
 |[],_,_,j,a,b,h=>by simp at h
 |(o,r)::l,k,h,j,a,b,c=>by
  simp only[P3,b2]at h
  cases j with
  |zero=>simp at c;obtain⟨rfl,rfl⟩:=c;exact h.1
  |succ j=>
   have:=ak2 l (k+1) h.2 j a b (by simpa using c);rwa [show k+1+j=k+(j+1) by omega]at this
def KG{N:Nat->Nat->Bool}{ops:Array Oper}{ms:List Nat} : ∀(l:List (Oper×Rec)) (k:Nat),KF N ops ms l k=true-> ∀(i j:Nat) c d a b,i<j->l[i]? =some (c,d)->l[j]? =some (a,b)->Et N ops ms (k+i) (k+j) c a d b=true
 |[],_,_,i,j,c,d,a,b,_,h,_=>by simp at h
 |(o,r)::l,k,h,i,j,c,d,a,b,m,e,f=>by
  simp only[KF,b2]at h;obtain⟨j,rfl⟩: ∃g,j=g+1:=⟨j-1,Ω⟩
  cases i with
  |zero=>
   simp at e;obtain⟨rfl,rfl⟩:=e;have:=ak2 l (k+1) h.1 j a b (by simpa using f);rwa [show k+1+j=k+(j+1) by omega]at this
  |succ i=>
   have:=KG l (k+1) h.2 i j c d a b Ω (by simpa using e) (by simpa using f);rwa [show k+1+i=k+(i+1) by omega,show k+1+j=k+(j+1) by omega]at this
def acs: ∀(l:List Oper) (k:Nat),KO l k=true-> ∀(i:Nat) o,l[i]? =some o-> ∀e∈o.after,Region.binds .any e=true->e.on<k+i
 |[],_,_,i,o,h=>by simp at h
 |o::l,k,h,i,d,c=>by
  simp only[KO,b2]at h
  cases i with
  |zero=>
   simp at c;subst c;intro e b a;have:=Array.all_eq_true_iff_forall_mem.1 h.1 e b;simpa[a]using this
  |succ i=>
   have:=acs l (k+1) h.2 i d (by simpa using c);intro e b a;have:=this e b a;omega
def ajn{acc:List Nat}{i:Nat} : ∀(es:List Edge) (m:Nat),(es.foldl (λm e=>if Region.binds .any e then m|||2^e.on|||acc.getD e.on 0 else m) m).testBit i=true->
  m.testBit i=true\/ ∃e∈es,Region.binds .any e=true/\(i=e.on\/(acc.getD e.on 0).testBit i=true)
 |[],m,h=> .inl h
 |e::es,m,h=>by
  simp only[Bq]at h;rcases ajn es _ h with h|⟨b,c,a,d⟩
  .split at h
   .rename_i a;simp only[Nat.testBit_or,J0]at h;rcases h with(h|h)|h
    .exact .inl h
    .refine .inr ⟨e,by simp,a,.inl ?_⟩;rw[Nat.testBit_two_pow]at h;exact(al h).symm
    .exact .inr ⟨e,by simp,a,.inr h⟩
   .exact .inl h
  .exact .inr ⟨b,by simp [c],a,d⟩
def ajo{L:Nat->Prop} : ∀(l done:List Oper) (acc:List Nat),acc.length=done.length->
  (∀(j:Nat) o,(done++l)[j]? =some o->L j-> ∀e∈o.after,Region.binds .any e=true->L e.on)->
  (∀(j:Nat) o i,done[j]? =some o->(acc.getD j 0).testBit i=true->(∀e∈o.after,Region.binds .any e=true->L e.on)->L i)->
  ∀(j:Nat) o i,(done++l)[j]? =some o->((Eb l acc).getD j 0).testBit i=true->(∀e∈o.after,Region.binds .any e=true->L e.on)->L i
 |[],done,acc,f,_,b=>by simpa[Eb]using b
 |x::l,done,acc,f,m,b=>by
  have:=ajo l (done++[x]) (acc++[I1 x.after.toList acc]) (by simp [f]) (by simpa using m) (λj o i a c n=>by
   rcases ga j done.length with h|h
   .rw[wb h]at a;have:(acc++[I1 x.after.toList acc]).getD j 0=acc.getD j 0:=by simp [List.getD,wb (by omega:j<acc.length)]
    rw[this]at c;exact b j o i a c n
   .have u:j=done.length:=by
     rcases ga j (done.length+1)with g|g
     .omega
     .rw[fk (by simpa using g)]at a;cases a
    subst u;simp at a;subst a;have:(acc++[I1 x.after.toList acc]).getD done.length 0=I1 x.after.toList acc:=by simp [List.getD,<-f]
    rw[this]at c;rcases ajn _ _ c with r|⟨e,s,t,d⟩
    .simp at r
    .have k:=n e (by simpa using s) t;rcases d with rfl|d
     .exact k
     .have q:e.on<done.length:=by
       rcases ga e.on acc.length with h|h
       .omega
       .simp [List.getD,fk h]at d
      have p:done[e.on]? =some done[e.on]:=cG q;exact b e.on _ i p d (m e.on _ (by rw[wb q];exact p) k))
  simpa[Eb]using this
def arA(n:Nat)(p q:Nat->Bool)(i:Nat)(h:i<n)(b:p i=true)(c:q i=false)(a: ∀k,k≠i->q k=p k):((List.range n).filter p).length=((List.range n).filter q).length+1:=by
 induction n with
 |zero=>omega
 |succ n g=>
  rw[List.range_succ,J9,J9,db,db]
  by_cases e:i=n
  .subst e;have:(List.range i).filter p=(List.range i).filter q:=by
    apply List.filter_congr;intro k f;exact(a k (have:=wg.1 f;Ω)).symm
   simp [this,b,c]
  .have:=g Ω;have d:=a n Ω;simp only[List.filter_cons,List.filter_nil,d];omega
def ab3{L RJ:Nat->Bool} : ∀(l:List (Oper×Rec)) (k:Nat) (st:O),(∀i,i<l.length->L (k+i)=RJ (k+i))->acc L l k st=acc RJ l k st
 |[],_,_,_=>rfl
 |(o,r)::l,k,st,h=>by
  rw[acc,acc];have a:=h 0 Χ;rw[nu]at a;rw[a];exact ab3 l (k+1) _ λi b=>by have:=h (i+1) (by simp;omega);rwa [show k+(i+1)=k+1+i by omega]at this
def ab4: ∀(l:List (Oper×Rec)) (k j:Nat) (st:O) o r,l[j]? =some (o,r)->acc (λi=>decide (i<k+j+1)) l k st=h7 o r (acc (λi=>decide (i<k+j)) l k st)
 |[],_,j,_,o,r,h=>by simp at h
 |(c,d)::l,k,0,st,o,r,h=>by
  simp at h;obtain⟨rfl,rfl⟩:=h;rw[acc,acc];have a:decide (k<k+0+1)=true:=by simp
  have b:decide (k<k+0)=false:=by simp
  rw[a,b,Fm _ _ _ (λi e=>by simp;omega),Fm _ _ _ (λi e=>by simp;omega)];rfl
 |(c,d)::l,k,j+1,st,o,r,h=>by
  rw[acc,acc];have a:decide (k<k+(j+1)+1)=true:=by simp;omega
  have b:decide (k<k+(j+1))=true:=by simp
  rw[a,b];have:=ab4 l (k+1) j (h7 c d st) o r (by simpa using h);simp only[au];rw[show k+(j+1)=k+1+j by omega];exact this
def asP{a b:List J}{x:Operand}(h: ∀t,x= .tmp t->b[t]? =a[t]?):aE b x=aE a x:=by
 cases x with
 |tmp t=>simp only[aE,List.getD,h t rfl]
 |_=>rfl
def aHf{ops:Array Oper}{o:Oper}{n a:List J}(h: ∀t∈o.looksAt ops,a[t]? =n[t]?):tI ops o a=tI ops o n:=by
 unfold tI
 cases c:o.guard with
 |none=>rfl
 |some q=>
  obtain⟨j,e⟩:=q;simp only
  cases b:(ops[j]?).bind (·.dst)with
  |none=>rfl
  |some d=>
   simp only;have:=h d (by simp [Oper.looksAt,c,b]);simp only[List.getD,this]
def aBQ{ops:Array Oper}{o:Oper}{t:Nat}(h: .tmp t∈o.op.operands):t∈o.looksAt ops:=by
 simp only[Oper.looksAt,fj,List.mem_filterMap];exact .inl ⟨.tmp t,by simpa using h,rfl⟩
section
variable {E:Env} {S:ez} {ops:Array Oper} {rs:List Rec} {c1:O} {j6:Nat->Option Nat}
structure abi (N:Nat->Nat->Bool) (ops:Array Oper) (YJ:Oper) (JC:Rec) (ok:Oper) (hZ:Rec):Prop where
 rd: ∀b p,N b p=false->writes hZ.ws b p->(b,p)∉JC.rd
 ws: ∀b p,N b p=false->writes hZ.ws b p-> ¬writes JC.ws b p
 look: ∀t,ok.dst=some t->t∉YJ.looksAt ops
 dst: ∀t,ok.dst=some t->YJ.dst≠some t
 gI: ∀b,b∈JC.gI-> ∀p,¬writes hZ.ws b p
 aD:tg YJ.op=true->JC.ws≠[]-> ∀b∈vH JC,∀p,¬writes hZ.ws b p
def as3{N:Nat->Nat->Bool}(x:At N ops rs=true){L:Nat->Bool}(E: ∀(j:Nat) o,ops[j]? =some o->L j=true-> ∀e∈o.after,Region.binds .any e=true->L e.on=true)
  {j k:Nat} {l ok:Oper} {m hZ:Rec} (y:(ops.toList.zip rs)[j]? =some (l,m)) (z:(ops.toList.zip rs)[k]? =some (ok,hZ)) (M:k≠j) (J:L j=false)
  (S: ∀e∈l.after,Region.binds .any e=true->L e.on=true):L k=decide (k<j)\/abi N ops l m ok hZ:=by
 have R:ops[j]? =some l:=by
  have:=aaT.1 y;simpa using this.1
 have G:ops[k]? =some ok:=by
  have:=aaT.1 z;simpa using this.1
 simp only[At,b2]at x;have H: ∀(j:Nat) o i,ops[j]? =some o->((Eb ops.toList []).getD j 0).testBit i=true->(∀e∈o.after,Region.binds .any e=true->L e.on=true)->L i=true:=λj o i q n r=>
  ajo (L:=λi=>L i=true) ops.toList [] [] rfl (λj o h I=>E j o (by simpa using h) I) (λj o i h=>by simp at h) j o i (by simpa using q) n r
 rcases Nat.lt_or_gt_of_ne M with F|K
 .have a:=KG _ 0 x.2 k j ok hZ l m F z y;simp only[Et,b2,J0,dj]at a;obtain⟨v,a⟩:=a;rcases a with a|a
  .left;rw[H j l k R a S];simp [F]
  .right;obtain⟨⟨⟨⟨⟨⟨q,n⟩,r⟩,s⟩,u⟩,C⟩,D⟩:=a;have⟨aL,aO,B⟩:=Oper.apart_spec u;refine⟨λb p d c=>K_ q _ (PS (rP.2 c) d),λb p d c A=>K_ n _ (PS (rP.2 c) d) (rP.2 A),λt g=>aL t g,λt g=>aO t g,λb f p c=>Jb (d_.1 C b f) p (rP.2 c),λw _ b f p c=> ?_⟩;rw[w]at v;exact Jb (d_.1 (by simpa using v) b f) p (rP.2 c)
 .have a:=KG _ 0 x.2 j k l m ok hZ K y z;simp only[Et,b2,J0,dj]at a;obtain⟨v,a⟩:=a;rcases a with a|a
  .left;have O:L k=false:=by
    cases e:L k with
    |false=>rfl
    |true=>
     have:=H k ok j G a (E k ok G e);rw[J]at this;cases this
   rw[O];simp;omega
  .right;obtain⟨⟨⟨⟨⟨⟨q,n⟩,r⟩,s⟩,u⟩,C⟩,D⟩:=a;have⟨aL,aO,B⟩:=Oper.apart_spec u;refine⟨λb p d c T=>K_ r _ T (PS (rP.2 c) d),λb p d c A=>K_ n _ (PS (rP.2 A) d) (rP.2 c),λt g=>B t g,λt g U=>aO t U g,λb f p c=>Jb (d_.1 D b f) p (rP.2 c),λw P b f p c=> ?_⟩;rw[w]at s;have Q:m.ws.isEmpty=false:=by cases e:m.ws with
    |nil=>exact absurd e P
    |cons=>rfl
   rw[Q]at s;exact Jb (d_.1 (by simpa using s) b f) p (rP.2 c)
end
section
variable {E:Env} {S:ez} {ops:Array Oper} {rs:List Rec} {c1:O} {j6:Nat->Option Nat}
def acL{b o:Nat} : ∀{cs:List J},cs.isEmpty=false->iI b cs o≠[]
 |[],h=>by cases h
 |_::_,_=>by simp [iI]
def aEY{aD c:Nat}{r b:J}{a:b3}(h:vS aD r a λav a=>av=b/\a=[]):vS c r a λav a=>av=b/\a=[]:=by
 cases r<;>simp only[vS]at h |- <;>first|exact h|exact absurd h.2 Χ
def awk{E:Env}{aD:Nat}{H:Heap}{f:FuncId}{aa:List J}{n:J}(a:pa E H aD f aa λav t=>av=n/\t=[]):False:=by
 unfold pa at a;have⟨h,a⟩:=aF.1 a
 cases l:E.pc f (aa.map (l7 (pos (eA H aa)))) ((eA H aa).map λb=>(H.getD b []).map (gk (pos (eA H aa))))with
 |none=>rw[l]at a;exact a
 |some q=>
  obtain⟨v,rs,m⟩:=q;rw[l]at a;have⟨u,a⟩:=rS.1 a;have⟨i,_,p⟩:=aF.1 a;simp only[b2,j4]at h i;obtain⟨⟨_,k⟩,_⟩:=h;obtain⟨⟨⟨o,d⟩,_⟩,_⟩:=i
  cases m with
  |nil=>cases o
  |cons y m=>
   have r:y≠[]:=by
    cases g:eA H aa with
    |nil=>
     rw[g]at d;simp only[rX,Bv,b2]at d;intro e;rw[e]at d;cases d.1
    |cons b L=>
     rw[g]at d k;have j:=d_.1 k b Χ;simp only[b2]at j;have⟨_,z,w,s⟩:=I0 j.1;simp only[rX,b2]at d;have:=ey d.1;rw[s]at this;intro e;rw[e]at this;simp at this
   cases y with
   |nil=>exact r rfl
   |cons c y=>simp [uh,iI]at p
def aqm{E:Env}{aD C:Nat}{n:List J}{H:Heap}{e:Op}{p:J}(a:tg e=true)(h:jc E aD n H e λav o=>av=p/\o=[]):jc E C n H e λav o=>av=p/\o=[]:=by
 cases e<;>simp only[tg]at a<;>try exact Ζ
 case alloc T=>
  simp only[jc,eb]at h |-
  split at h
  .simp only[aF,j4]at h;exact absurd h.2.2 (acL h.1)
  .exact h.elim
 case box T x=>
  simp only[jc,aF,b2,j4]at h;exact absurd h.2.2 (acL h.1.2)
 case buildSlice T D F=>
  simp only[jc,eb]at h
  split at h
  .unfold sm at h
   split at h
   .split at h
    .obtain⟨_,h⟩:=aF.1 h;have⟨_,_,_,_,_,j⟩:=T9 h;simp at j
    .exact h.elim
   .exact h.elim
  .exact h.elim
 case makeSlice T l c=>
  simp only[jc,eb]at h
  split at h
  .unfold tp at h
   split at h
   .split at h
    .split at h
     .split at h
      .obtain⟨_,_,_,j⟩:=aF.1 h
       cases j
      .exact h.elim
     .exact h.elim
    .exact h.elim
   .exact h.elim
  .exact h.elim
 case call c=>
  simp only[jc]at h |-
  cases i:c.callee with
  |value f=>
   rw[i]at h;simp only at h |-;unfold BP at h |-
   split at h
   .rename_i g v h8
    cases q:Au E.eV g (c.args.toList.map (aE n)++v)with
    |true=>
     rw[q]at h;simp only at h;exact(awk h).elim
    |false=>
    rw[q]at h;simp only at h |-;have⟨w,h⟩:=aF.1 h;refine aF.2 ⟨w,?_⟩;unfold wF at h |-;refine F7 (λy k=> ?_) h;revert k
    split
    .intro k;have⟨z,A⟩:=rS.1 k;exact rS.2 ⟨z,aEY A⟩
    .exact id
   .exact h.elim
  |invoke r m=>rw[i]at a;cases a
  |builtin b=>
   rw[i]at h a
   cases b<;>simp only at a h |- <;>try exact Ζ
   split at h
   .simp only[eb]at h
    split at h
    .split at h
     .obtain⟨_,h⟩:=aF.1 h;unfold pG at h
      split at h
      .obtain⟨_,h⟩:=aF.1 h;have B: ∀{y:J} {K:Nat->(Nat->List J)->Prop},(∀m g,¬K m g)-> ∀{u:Bool} {s:Nat},¬n9 H u s y K:=λ{y K} t u s d=>by
        cases y<;>simp only[n9]at d<;>first|exact d|exact t _ _ (aF.1 d).2|skip
        split at d
        .exact t _ _ (aF.1 d).2.2
        .exact d
       refine absurd h (B λm g hh=> ?_)
       split at hh
       .cases hh.2.2
       .split at hh
        .obtain⟨_,_,_,_,_,hh⟩:=aF.1 hh
         cases hh.2
        .exact hh
       .obtain⟨_,_,_,_,_,hh⟩:=aF.1 hh
        cases hh.2
       .exact hh
      .exact h.elim
     .exact h.elim
    .exact h.elim
   .exact h.elim
structure Inv (S:ez) (ops:Array Oper) (z:List (Oper×Rec)) (c1:O) (j6:Nat->Option Nat) (listed:Array Bool) (a:Act) (w:World):Prop where
 size:listed.size=ops.size
 closed: ∀(j:Nat) o,ops[j]? =some o->listed.getD j false=true-> ∀e∈o.after,Region.binds .any e=true->listed.getD e.on false=true
 alA: ∃ι,a2 S ι (acc (λi=>listed.getD i false) z 0 c1) a w/\ ∀b,ι b≠none->j6 b≠none\/ ∃(i:Nat) (o:Oper) (r:Rec) (p:Nat),listed.getD i false=true/\z[i]? =some (o,r)/\writes r.ws b p
def Xm{b p:Nat}{v:J} : ∀(a:b3) (H:Heap),M H b p=v->(∀c,(b,p,c)∈a->c=v)->M (bN H a) b p=v
 |[],_,h,_=>h
 |(b',i,c)::a,H,h,d=>by
  rw[bN];refine Xm a _ ?_ λf g=>d f (List.mem_cons_of_mem _ g);rw[fo]
  by_cases e:b=b'/\p=i
  .obtain⟨rfl,rfl⟩:=e;rw[bg ⟨rfl,rfl⟩];exact d c (List.mem_cons_self ..)
  .rw[aW e];exact h
def Fq{L:Nat->Bool}{b p:Nat}{v:J} : ∀(l:List (Oper×Rec)) (k:Nat) (st:O),M st.k b p=v->(∀o r,(o,r)∈l-> ∀c,(b,p,c)∈r.ws->c=v)->M (acc L l k st).k b p=v
 |[],_,_,h,_=>h
 |(o,r)::l,k,st,h,a=>by
  rw[acc];refine Fq l (k+1) _ ?_ λe f d=>a e f (List.mem_cons_of_mem _ d)
  cases L k
  .exact h
  .exact Xm r.ws st.k h (a o r (List.mem_cons_self ..))
def N0{l:Array Bool}{i:Nat}(h:i<l.size)(d a:Bool):l.getD i d=l.getD i a:=by simp [h]
def aF7(nT:E.dU){Q:Exit->Act->World->Prop}{lq:O}(awo:wo E ops ops.toList c1 rs lq)(Y:BE c1.k ops rs)(ahe: ∀b x,j6 b=some x->b<c1.k.length)
  {C:Array Bool} {a:Act} {w:World} (I:Inv S ops (ops.toList.zip rs) c1 j6 C a w) {j:Nat} (ia:j∈Region.ready .any ops C) {next:Act->World->Prop}
  (gT: ∀a w,Inv S ops (ops.toList.zip rs) c1 j6 (C.setIfInBounds j true) a w->next a w):wpOp E.P ops Q j next a w:=by
 obtain⟨N,avT,Y⟩:=Y;have⟨axt,g,Ou,ag3⟩:=mem_ready.1 ia;have⟨hlen,_,av7⟩:=awo.at 0;have Om:j<ops.size:=(tL.1 Ou).1;have awM:j<rs.length:=by rw[<-hlen];simpa using Om
 obtain⟨d,axg⟩: ∃d,rs[j]? =some d:=⟨_,cG awM⟩;have F:(ops.toList.zip rs)[j]? =some (g,d):=aaT.2 ⟨by simpa using Ou,axg⟩;have Ov:=av7 j g d F;rw[dj]at Ov;have⟨ι,OB,Xr⟩:=I.alA;have Iw: ∀b p,N b p=true-> ∀o r,(o,r)∈ops.toList.zip rs-> ∀c,(b,p,c)∈r.ws->c=M c1.k b p:=λb p s o r U c X=>avT b p s r (List.of_mem_zip U).2 c X;generalize iw:ops.toList.zip rs=z at*
 let L:Nat->Bool:=λi=>C.getD i false;let T:Nat->Bool:=λi=>decide (i<j);have K:L j=false:=by
  have:C.getD j false=C.getD j true:=N0 (by rw[I.size];exact Om) _ _;show C.getD j false=false;rw[this];exact axt
 have P: ∀(k:Nat) ok hZ,z[k]? =some (ok,hZ)->k≠j->L k=T k\/abi N ops g d ok hZ:=λk ok hZ f awR=>by
  subst iw;exact as3 Y (L:=L) I.closed F f awR K ag3
 have WY: ∀t∈g.looksAt ops,(acc L z 0 c1).n[t]? =(acc T z 0 c1).n[t]? :=λt jI=>by
  refine KC z 0 c1 c1 rfl λk o r f q=> ?_;rw[dj]
  by_cases e:k=j
  .subst e;rw[K];simp [T]
  .exact(P k o r f e).elim id λm=>absurd jI (m.look t q)
 have axD:tI ops g (acc L z 0 c1).n=some d.run:=by rw[aHf WY];exact Ov.wanted
 have hw:=aaO OB axD;let B:Nat->Bool:=λi=>(C.setIfInBounds j true).getD i false;have R: ∀i,B i=if i=j then true else L i:=λi=>by
  by_cases e:i=j
  .subst e;simp [B,I.size,Om]
  .rw[aW e];exact getD_set_ne false (λB5=>e B5.symm)
 have ag1:acc (λi=>decide (i<j+1)) z 0 c1=h7 g d (acc T z 0 c1):=by
  have:=ab4 z 0 j c1 g d F;simpa[T]using this
 have fin: ∀(eQ:Nat->Option Nat) (a':Act) (w':World),a2 S eQ (h7 g d (acc L z 0 c1)) a' w'->(∀b,eQ b≠none->ι b≠none\/ ∃p c,(b,p,c)∈d.ws)->next a' w':=λeQ a' w' ql A=>by
  refine gT a' w' ⟨by simp [I.size],λk ok f ahp=> ?_,eQ,?_,λb DO=> ?_⟩
  .intro e he ag6
   by_cases adB:k=j
   .subst adB;rw[Ou]at f;cases f;exact getD_set_true (ag3 e he ag6)
   .rw[getD_set_ne false (λB5=>adB B5.symm)]at ahp;exact getD_set_true (I.closed k ok f ahp e he ag6)
  .have axp:(acc B z 0 c1).n=(h7 g d (acc L z 0 c1)).n:=by
    apply yt;intro t
    by_cases pP:g.dst=some t
    .have u:(acc B z 0 c1).n[t]? =(acc (λi=>decide (i<j+1)) z 0 c1).n[t]? :=by
      refine KC z 0 c1 c1 rfl λk o r f q=> ?_;rw[dj,R]
      by_cases e:k=j
      .subst e;simp
      .rw[aW e];refine(P k o r f e).elim (λh=> ?_) λm=>absurd pP (m.dst t q);rw[h];simp only[T]
       congr 1;exact propext ⟨λh=>by omega,λh=>by omega⟩
     rw[u,ag1];simp only[h7,FU,pP,ma];have iQ:=(Fp (L:=T) z 0 c1).1;have aI8:=(Fp (L:=L) z 0 c1).1;rcases ga t c1.n.length with h|h
     .rw[cG Ω,cG Ω];rfl
     .rw[fk Ω,fk Ω]
    .simp only[h7,FU,pP,oe];refine KC z 0 c1 c1 rfl λk o r f q=> ?_;rw[dj,R]
     by_cases e:k=j
     .subst e;rw[F]at f;cases f;exact absurd q pP
     .rw[aW e]
   have awI: ∀b p,M (acc B z 0 c1).k b p=M (h7 g d (acc L z 0 c1)).k b p:=λb p=>by
    by_cases s:N b p=true
    .have u:=Fq (L:=B) z 0 c1 rfl (Iw b p s);have D:=Fq (L:=L) z 0 c1 rfl (Iw b p s);rw[u];exact(Xm d.ws _ D (Iw b p s g d (fr F))).symm
    have s:N b p=false:=by simpa using s
    by_cases Lp:writes d.ws b p
    .have u:M (acc B z 0 c1).k b p=M (acc (λi=>decide (i<j+1)) z 0 c1).k b p:=by
      refine Fo z 0 c1 c1 rfl λk o r f q=> ?_;rw[dj,R]
      by_cases e:k=j
      .subst e;simp
      .rw[aW e];refine(P k o r f e).elim (λh=> ?_) λm=>absurd Lp (m.ws b p s q);rw[h];simp only[T]
       congr 1;exact propext ⟨λh=>by omega,λh=>by omega⟩
     rw[u,ag1];exact Xk _ _ _ _ _ (.inl Lp)
    .rw[show M (h7 g d (acc L z 0 c1)).k b p=M (acc L z 0 c1).k b p from OE _ _ _ _ Lp];refine Fo z 0 c1 c1 rfl λk o r f q=> ?_;rw[dj,R]
     by_cases e:k=j
     .subst e;rw[F]at f;cases f;exact absurd q Lp
     .rw[aW e]
   have It:=Fp (L:=B) z 0 c1;show a2 S eQ ⟨(acc B z 0 c1).n,(acc B z 0 c1).k⟩ a' w';rw[axp];refine a2.ext (H:=(h7 g d (acc L z 0 c1)).k) ql awI λb x l2=> ?_;rcases A b (by rw[l2];simp)with h|⟨p,c,X⟩
   .rcases Xr b h with h|⟨i,o,r,p,u,D,W⟩
    .cases e:j6 b with
     |none=>exact absurd e h
     |some y=>exact hj (ahe b y e) It.2.1
    .refine It.2.2 i o r D ?_ b p W;rw[dj,R]
     by_cases e:i=j
     .rw[bg e]
     .rw[aW e];exact u
   .exact It.2.2 j g d F (by rw[dj,R,bg rfl]) b p ⟨c,X⟩
  .rcases A b DO with h|⟨p,c,X⟩
   .rcases Xr b h with h|⟨i,o,r,p,u,D,W⟩
    .exact .inl h
    .exact .inr ⟨i,o,r,p,getD_set_true u,D,W⟩
   .exact .inr ⟨j,g,d,p,by simp [I.size,Om],F,⟨c,X⟩⟩
 unfold wpOp;rw[Ou];simp only;rw[hw]
 cases qk:d.run with
 |false=>
  have⟨u,D⟩:=Ov.no qk;rw[aW Χ];refine fin ι _ w ?_ λb A=> .inl A;have:=a2.dst OB g.dst (av:= .gone) (v:=undef) rfl;simp only[h7,u,D,bN];exact this
 |true=>
  rw[bg rfl];left;have⟨⟨SY,u,awW⟩,D,avi,W⟩:=Ov.yes qk;have Z:jc E d.aD (acc L z 0 c1).n (acc L z 0 c1).k g.op (λav G=>av=SY/\G=d.ws):=by
   refine aql (n:=(acc T z 0 c1).n) (H:=(acc T z 0 c1).k) (λx l2=>asP λt e=>WY t (by subst e;exact aBQ l2)) (λl nV=> ?_) (λb A=> ?_) u
   .by_cases s:N l.1 l.2=true
    .rw[Fq (L:=L) z 0 c1 rfl (Iw _ _ s),Fq (L:=T) z 0 c1 rfl (Iw _ _ s)]
    have s:N l.1 l.2=false:=by simpa using s
    refine Fo z 0 c1 c1 rfl λk o r f q=> ?_;rw[dj]
    by_cases e:k=j
    .subst e;rw[K];simp [T]
    .exact(P k o r f e).elim id λm=>absurd (by rw[D];exact nV) (m.rd l.1 l.2 s q)
   .refine ab2 z 0 c1 c1 rfl λk o r f ⟨p,q⟩=> ?_;rw[dj]
    by_cases e:k=j
    .subst e;rw[K];simp [T]
    .exact(P k o r f e).elim id λm=>absurd q (m.gI b (by rw[avi];exact A) p)
  obtain⟨aD,V,Z,awE,Ie⟩: ∃(aD:Nat) (V:Nat->Prop),jc E aD (acc L z 0 c1).n (acc L z 0 c1).k g.op (λav G=>av=SY/\G=d.ws)/\(tg g.op=true->V aD/\ ∀b,V b->(∀p,M (acc L z 0 c1).k b p= .undef)/\ι b=none)/\
    ∀(av:J) (G:b3),av=SY/\G=d.ws-> ∀b p c,(b,p,c)∈G->aD<b->V b:=by
   by_cases OF:d.ws=[]/\tg g.op=true
   .refine⟨(acc L z 0 c1).k.length,λb=>b=(acc L z 0 c1).k.length,by rw[OF.1]at Z |-;exact aqm OF.2 Z,λ_=>⟨rfl,λb A=> ?_⟩,λav G h b p c U=>by rw[h.2,OF.1]at U;cases U⟩;subst A;refine⟨λp=>vj (bH _) p,?_⟩
    cases e:ι (acc L z 0 c1).k.length with
    |none=>rfl
    |some x=>exact absurd (OB.hn _ x e) (Nat.lt_irrefl _)
   refine⟨d.aD,(· ∈vH d),Z,λOa=>⟨by simp [vH],λb Ob=> ?_⟩,λav G h b p c U A=>aCW (by rw[<-h.2];exact U) A⟩;have kl:d.ws≠[]:=λe=>OF ⟨e,Oa⟩;have vi:(acc T z 0 c1).k.length<=b:=ec W (aCV Ob);refine⟨λp=> ?_,?_⟩
   .have:M (acc L z 0 c1).k b p=M (acc T z 0 c1).k b p:=by
     refine Fo z 0 c1 c1 rfl λk o r f q=> ?_;rw[dj]
     by_cases e:k=j
     .subst e;rw[K];simp [T]
     .exact(P k o r f e).elim id λm=>absurd q (m.aD Oa kl b Ob p)
    rw[this];exact vj vi p
   .cases e:ι b with
    |none=>rfl
    |some x=>
     exfalso;rcases Xr b (by rw[e];simp)with h|⟨i,o,r,p,jS,kF,gh⟩
     .cases nB:j6 b with
      |none=>exact h nB
      |some y=>
       have q1:=ahe _ y nB;have gw:=(Fp (L:=T) z 0 c1).2.1;omega
     .by_cases adA:i=j
      .subst adA;rw[show L i=C.getD i false from rfl,jS]at K;cases K
      .rcases P i o r kF adA with m|m
       .rw[show L i=C.getD i false from rfl,jS]at m;have vk:i<j:=by simpa[T]using m.symm
        subst iw;simp only[At,b2]at Y;have aL:=KG _ 0 Y.2 i j o r g d vk kF F;simp only[Et,b2,J0]at aL;have agX:=aL.1;rw[Oa]at agX;exact Jb (d_.1 (by simpa using agX) b Ob) p (rP.2 gh)
       .exact m.aD Oa kl b Ob p gh
  refine acd nT OB (aD:=aD) (pB:=V) awE Ie Z λeQ av G v w' rE ql dq A=> ?_
  .obtain⟨rfl,rfl⟩:=rE;exact fin eQ _ w' (a2.dst ql g.dst (awW.rel dq)) A
def aqk(B:E.dU){Q:Exit->Act->World->Prop}{z:O}(u:wo E ops ops.toList c1 rs z)(j:BE c1.k ops rs)(F: ∀b x,j6 b=some x->b<c1.k.length)
  (R: ∀ι a w,a2 S ι z a w->Q .normal a w): ∀(m:Nat) (c:Array Bool) (a:Act) (w:World),Inv S ops (ops.toList.zip rs) c1 j6 c a w->
  ((List.range ops.size).filter λi=> !c.getD i false).length=m->wpAny E.P .any ops Q m c a w:=by
 intro m
 induction m with
 |zero=>
  intro c a w f g;have t: ∀i,i<ops.size->c.getD i false=true:=λi d=>by
   cases e:c.getD i false with
   |true=>rfl
   |false=>
    have:i∈(List.range ops.size).filter λi=> !c.getD i false:=by exact JZ.2 ⟨wg.2 d,by simp only[e];rfl⟩
    rw[J6.1 g]at this
    cases this
  refine⟨?_,?_⟩
  .apply List.eq_nil_iff_forall_not_mem.2;intro i d;have⟨p,o,q,_⟩:=mem_ready.1 d;have l:i<ops.size:=(tL.1 q).1;have:=t i l;rw[N0 (by rw[f.size];exact l) false true,p]at this
   cases this
  .obtain⟨ι,U,_⟩:=f.alA;have⟨nV,r,_⟩:=u.at 0;refine R ι a w ?_;rw[r];rwa [ab3 (RJ:=λ_=>true) _ _ _ (λi d=>by rw[dj];exact t i (by simp at d;omega))]at U
 |succ m W=>
  intro c a w f g;refine⟨λT=> ?_,λi d=> ?_⟩
  .exfalso;have M:(List.range ops.size).filter (λi=> !c.getD i false)≠[]:=λe=>by rw[e]at g;simp at g
   have G: ∃i,i<ops.size/\c.getD i false=false:=by
    have⟨i,d⟩:=List.exists_mem_of_ne_nil _ M;simp at d;exact⟨i,d.1,by simp [d.2]⟩
   obtain⟨i,⟨v,H⟩,K⟩: ∃i,(i<ops.size/\c.getD i false=false)/\ ∀k,k<i-> ¬(k<ops.size/\c.getD k false=false):=by
    obtain⟨V,A⟩:=G
    induction V using Nat.strongRecOn with
    |_ n X=>
     by_cases h: ∃k,k<n/\(k<ops.size/\c.getD k false=false)
     .obtain⟨k,p,q⟩:=h;exact X k p q
     .exact⟨n,A,λk s J=>h ⟨k,s,J⟩⟩
   have aII:=j;obtain⟨N,_,j⟩:=j;simp only[At,b2]at j;have P:ops[i]? =some ops[i]:=r3 v;have y:i∈Region.ready .any ops c:=mem_ready.2 ⟨by rw[N0 (by rw[f.size];exact v) true false];exact H,ops[i],P,λe r D=>by
    have:=acs ops.toList 0 j.1 i ops[i] Χ e r D;rw[dj]at this;have L:=K e.on this
    cases g:c.getD e.on false with
    |true=>rfl
    |false=>exact absurd ⟨Ω,g⟩ L⟩
   rw[T]at y
   cases y
  .refine aF7 B u j F f d λa' w' C=>W _ a' w' C ?_;have⟨p,o,q,_⟩:=mem_ready.1 d;have l:i<ops.size:=(tL.1 q).1;have I:c.getD i false=false:=by rw[N0 (by rw[f.size];exact l) false true];exact p
   have:=arA ops.size (λi=> !c.getD i false) (λk=> !(c.setIfInBounds i true).getD k false) i l (by simp only[I];rfl) (by
    have:(c.setIfInBounds i true).getD i false=true:=by simp [f.size,l]
    simp only[this];rfl) (λk s=>by simp only[getD_set_ne false (λe=>s e.symm)])
   omega
def aqh(c:E.dU){id:Nat}{Q:Exit->Act->World->Prop}{ι:Nat->Option Nat}{st:O}{a:Act}{w:World}{K:O->Prop}(h:a2 S ι st a w)(n:ab6 E ops st K)
  (p: ∀ι st a w,a2 S ι st a w->K st->Q .normal a w):(Code.region id ops true).wp E.P Q a w:=by
 have⟨rs,s,l,d,g⟩:=SP _ _ _ _ _ n;simp only[List.reverse_nil,r6]at d;refine wp_region_any c.mixed ?_;have r:a2 S ι st a w.drew:=(h.world (w':=w.drew) ⟨rfl,rfl,rfl,bH _,λ_ _=>rfl⟩).1;refine aqk c l d h.hn (λι a w q=>p ι s a w q g) ops.size (Array.replicate ops.size false) a w.drew ⟨by simp,λj o t f=> ?_,ι,?_,λb k=> .inl k⟩ ?_
 .have:(Array.replicate ops.size false).getD j false=false:=by
   by_cases e:j<ops.size<;>simp [e]
  rw[this]at f;cases f
 .rw[Fm _ _ _ (λi _=>by by_cases e:i<ops.size<;>simp [e])];exact r
 .have:((List.range ops.size).filter λi=> !(Array.replicate ops.size false).getD i false)=List.range ops.size:=by
   apply List.filter_eq_self.2;intro i m;have:=wg.1 m;simp [this]
  rw[this];simp
end
def iT(next:O->Prop)(Q:Exit->O->Prop):Exit->O->Prop
 | .normal,st=>next st
 | .exit id,st=>Q (.exit id) st
 | .ret,st=>Q .ret st
 |_,_=>False
def FC(id:Nat)(Q:Exit->O->Prop):Exit->O->Prop
 | .normal,st=>Q .normal st
 | .exit j,st=>if j=id then Q .normal st else Q (.exit j) st
 | .ret,st=>Q .ret st
 |_,_=>False
def cB(m:Nat)(st b:O):Prop:= ∀(S:ez),S.wv.length<=m-> ∀(ι:Nat->Option Nat) (a:Act) (w:World),a2 S ι st a w-> ∃aC,a2 S aC b a w
def cB.refl{m:Nat}(st:O):cB m st st:=λ_ _ ι _ _ h=>⟨ι,h⟩
def cB.trans{m:Nat}{a b c:O}(h:cB m a b)(k:cB m b c):cB m a c:=λS d ι x w f=>let⟨aC,e⟩:=h S d ι x w f;k S d aC x w e
def ajg(m:Nat){α:Type}(Q:Exit->O->Prop)(b:α->O)(a:α->Nat)(x:α):Exit->O->Prop
 | .normal,st=> ∃y,a y<a x/\cB m st (b y)
 | .exit id,st=>Q (.exit id) st
 | .ret,st=>Q .ret st
 |_,_=>False
def aBS(m:Nat)(b:(Exit->O->Prop)->O->Prop)(Q:Exit->O->Prop)(st:O):Prop:=
 ∃(α:Type) (a:α->O) (c:α->Nat) (A:α),cB m st (a A)/\ ∀x,b (ajg m Q a c x) (a x)
def ny(E:Env):Code->(Exit->O->Prop)->O->Prop
 | .skip,Q,st=>Q .normal st
 | .region _ ops a,Q,st=>match a with
   |true=>ab6 E ops st (Q .normal)
   |false=>BL E ops ops.toList 0 st (Q .normal)
 | .seq x y,Q,st=>ny E x (iT (ny E y Q) Q) st
 | .cond c x y,Q,st=>match aE st.n c with
   | .bool b=>(b=true->ny E x Q st)/\(b=false->ny E y Q st)
   | .lit b=>match b with
     |true=>ny E x Q st
     |false=>ny E y Q st
   |_=>False
 | .block id x,Q,st=>ny E x (FC id Q) st
 | .loop x,Q,st=>aBS E.m (ny E x) Q st
 | .exit id,Q,st=>Q (.exit id) st
 | .ret,Q,st=>Q .ret st
 | .label _,Q,st=>Q .normal st
 |_,_,_=>False
section
variable {E:Env}
def abZ(S:ez)(Q:Exit->O->Prop)(e:Exit)(a:Act)(w:World):Prop:= ∃ι st,a2 S ι st a w/\Q e st
def aqv(I:E.dU){S:ez}(J:S.wv.length<=E.m): ∀(c:Code) (Q:Exit->O->Prop) (ι:Nat->Option Nat) (st:O) (a:Act) (w:World),a2 S ι st a w->ny E c Q st->c.wp E.P (abZ S Q) a w:=by
 intro c
 induction c with
 |skip=>exact λQ ι st a w h d=>wp_skip ⟨ι,st,h,d⟩
 |region id ops N=>
  intro Q ι st a w h d
  cases N with
  |true=>exact aqh I h d λι st a w g v=>⟨ι,st,g,v⟩
  |false=>exact wp_region_list (SS I _ _ ι st a w _ h d λι st a w g v=>⟨ι,st,g,v⟩)
 |seq x y r s=>
  intro Q ι st a w h d;refine wp_seq (r1 (r _ ι st a w h d) λe a w ⟨aC,i,g,f⟩=> ?_)
  cases e<;>simp only[iT]at f<;>try exact f.elim
  .exact s Q aC i a w g f
  .exact⟨aC,i,g,f⟩
  .exact⟨aC,i,g,f⟩
 |cond c x y r s=>
  intro Q ι st a w h d;have B:=h.eval c;simp only[ny]at d
  cases e:aE st.n c<;>rw[e]at d B<;>simp only at d<;>try exact d.elim
  .rename_i b;refine wp_cond B.bool ?_
   cases b
   .exact s Q ι st a w h (d.2 rfl)
   .exact r Q ι st a w h (d.1 rfl)
  .rename_i b;refine wp_cond B.lit ?_
   cases b
   .exact s Q ι st a w h d
   .exact r Q ι st a w h d
 |block M x G=>
  intro Q ι st a w h d;refine wp_block (r1 (G _ ι st a w h d) λe a w ⟨aC,i,g,f⟩=> ?_)
  cases e<;>simp only[FC]at f<;>try exact f.elim
  .exact⟨aC,i,g,f⟩
  .rename_i j _;simp only[Exit.inBlock]
   by_cases H:j=M
   .rw[bg H]at f |-;exact⟨aC,i,g,f⟩
   .rw[aW H]at f |-;exact⟨aC,i,g,f⟩
  .exact⟨aC,i,g,f⟩
 |loop x G=>
  intro Q ι st a w h d;obtain⟨α,L,t,A,C,U⟩:=d;have⟨j6,P⟩:=C S J ι a w h;let p:Act->World->Nat->Prop:=λa w n=> ∃y ι,t y=n/\a2 S ι (L y) a w;let q:Act->World->Nat:=λa w=>Classical.epsilon λn=>p a w n/\ ∀m,m<n-> ¬p a w m;have K: ∀a w n,p a w n->p a w (q a w)/\ ∀m,m<q a w-> ¬p a w m:=λa w n D=>by
   have V: ∃n,p a w n/\ ∀m,m<n-> ¬p a w m:=by
    induction n using Nat.strongRecOn with
    |_ n X=>
     by_cases h: ∃k,k<n/\p a w k
     .obtain⟨k,R,u⟩:=h;exact X k R u
     .exact⟨n,D,λm W o=>h ⟨m,W,o⟩⟩
   exact Classical.epsilon_spec V
  refine wp_loop (λa w=> ∃n,p a w n) q ⟨_,A,j6,rfl,P⟩ λa w ⟨n,D⟩=> ?_;have⟨⟨y,mc,Y,g⟩,_⟩:=K a w n D;refine r1 (G _ mc (L y) a w g (U y)) λe a' w' ⟨aC,i,F,f⟩=> ?_
  cases e<;>simp only[ajg]at f<;>try exact f.elim
  .obtain⟨z,Z,C⟩:=f;have⟨eQ,u⟩:=C S J aC a' w' F;have o:p a' w' (t z):=⟨z,eQ,rfl,u⟩;refine⟨⟨_,o⟩,?_⟩;have T:=(K a' w' _ o).2;have:q a' w'<=t z:=by
    rcases ga (t z) (q a' w')with h|h
    .exact absurd o (T _ h)
    .exact h
   omega
  .exact⟨aC,i,F,f⟩
  .exact⟨aC,i,F,f⟩
 |exit id=>exact λQ ι st a w h d=>wp_exit ⟨ι,st,h,d⟩
 |ret=>exact λQ ι st a w h d=>wp_ret ⟨ι,st,h,d⟩
 |label l=>exact λQ ι st a w h d=>wp_label ⟨ι,st,h,d⟩
 |_=>exact λQ ι st a w h d=>d.elim
def WP(E:Env)(c:Code)(Q:Exit->O->Prop)(st:O):Prop:= ∀(S:ez),S.wv.length<=E.m-> ∀(ι:Nat->Option Nat) (a:Act) (w:World),a2 S ι st a w->c.wp E.P (abZ S Q) a w
def WP.YI(b:E.dU){c:Code}{Q:Exit->O->Prop}{st:O}(h:ny E c Q st):WP E c Q st:=λ_ d ι a w e=>aqv b d c Q ι st a w e h
def WP.mono{c:Code}{Q R:Exit->O->Prop}{st:O}(h:WP E c R st)(i: ∀e s,R e s->Q e s):WP E c Q st:=λS g ι a w j=>r1 (h S g ι a w j) λe _ _ ⟨aC,b,d,f⟩=>⟨aC,b,d,i e b f⟩
def WP.le{c:Code}{Q:Exit->O->Prop}{st d:O}(f:cB E.m st d)(h:WP E c Q d):WP E c Q st:=λS b ι a w g=>let⟨aC,e⟩:=f S b ι a w g;h S b aC a w e
def WP.seq{x y:Code}{Q:Exit->O->Prop}{st:O}(h:WP E x (iT (WP E y Q) Q) st):WP E (.seq x y) Q st:=λS d ι a w c=>by
 refine wp_seq (r1 (h S d ι a w c) λe a w ⟨aC,f,c,b⟩=> ?_)
 cases e<;>simp only[iT]at b<;>try exact b.elim
 .exact b S d aC a w c
 .exact⟨aC,f,c,b⟩
 .exact⟨aC,f,c,b⟩
def WP.cut{x y:Code}{Q:Exit->O->Prop}{st:O}(b:O)(h:WP E x (iT (λs=>cB E.m s b) Q) st)(k:WP E y Q b):WP E (.seq x y) Q st:=
 WP.seq (h.mono λe s a=>by cases e<;>simp only[iT]at a |- <;>first|exact WP.le a k|exact a)
def WP.cond{c:Operand}{x y:Code}{Q:Exit->O->Prop}{st:O}{b:Bool}(f:aE st.n c= .bool b)(g:b=true->WP E x Q st)(i:b=false->WP E y Q st):WP E (.cond c x y) Q st:=λS e ι a w d=>by
 have h:=d.eval c;rw[f]at h;refine wp_cond h.bool ?_
 cases b
 .exact i rfl S e ι a w d
 .exact g rfl S e ι a w d
def WP.block{id:Nat}{x:Code}{Q:Exit->O->Prop}{st:O}(h:WP E x (FC id Q) st):WP E (.block id x) Q st:=λS g ι a w c=>by
 refine wp_block (r1 (h S g ι a w c) λe a w ⟨aC,d,c,b⟩=> ?_)
 cases e<;>simp only[FC]at b<;>try exact b.elim
 .exact⟨aC,d,c,b⟩
 .rename_i j _;simp only[Exit.inBlock]
  by_cases f:j=id
  .rw[bg f]at b |-;exact⟨aC,d,c,b⟩
  .rw[aW f]at b |-;exact⟨aC,d,c,b⟩
 .exact⟨aC,d,c,b⟩
def WP.skip{Q:Exit->O->Prop}{st:O}(h:Q .normal st):WP E .skip Q st:=λ_ _ ι _ _ a=>wp_skip ⟨ι,st,a,h⟩
def WP.ret{Q:Exit->O->Prop}{st:O}(h:Q .ret st):WP E .ret Q st:=λ_ _ ι _ _ a=>wp_ret ⟨ι,st,a,h⟩
def WP.exit{id:Nat}{Q:Exit->O->Prop}{st:O}(h:Q (.exit id) st):WP E (.exit id) Q st:=λ_ _ ι _ _ a=>wp_exit ⟨ι,st,a,h⟩
def WP.label{l:_}{Q:Exit->O->Prop}{st:O}(h:Q .normal st):WP E (.label l) Q st:=λ_ _ ι _ _ a=>wp_label ⟨ι,st,a,h⟩
def Yb(m:Nat){α:Type}(Q:Exit->O->Prop)(b:α->O)(I:α->Prop)(a:α->Nat)(x:α):Exit->O->Prop
 | .normal,st=> ∃y,I y/\a y<a x/\cB m st (b y)
 | .exit id,st=>Q (.exit id) st
 | .ret,st=>Q .ret st
 |_,_=>False
def WP.A6(E:Env)(x:Code)(Q:Exit->O->Prop):Nat->O->Prop
 |0,_=>False
 |n+1,st=>WP E x (iT (WP.A6 E x Q n) Q) st
def WP.rounds{x:Code}{Q:Exit->O->Prop}(n:Nat){st:O}(h:WP.A6 E x Q n st):WP E (.loop x) Q st:=by
 intro S f ι a w g;refine wp_loop_rounds n ?_
 induction n generalizing st ι a w with
 |zero=>exact h.elim
 |succ n i=>
  refine r1 (h S f ι a w g) λe a' w' ⟨aC,d,c,b⟩=> ?_
  cases e<;>simp only[iT]at b<;>try exact b.elim
  .exact i b aC a' w' c
  .exact⟨aC,d,c,b⟩
  .exact⟨aC,d,c,b⟩
def WP.loop{α:Type}{x:Code}{Q:Exit->O->Prop}{st:O}(g:α->O)(I:α->Prop)(f:α->Nat)(A:α)(v:I A)(l:cB E.m st (g A))(h: ∀s,I s->WP E x (Yb E.m Q g I f s) (g s)):WP E (.loop x) Q st:=by
 intro S j ι a w q;have⟨j6,B⟩:=l S j ι a w q;let p:Act->World->Nat->Prop:=λa w n=> ∃y ι,I y/\f y=n/\a2 S ι (g y) a w;let d:Act->World->Nat:=λa w=>Classical.epsilon λn=>p a w n/\ ∀m,m<n-> ¬p a w m;have t: ∀a w n,p a w n->p a w (d a w)/\ ∀m,m<d a w-> ¬p a w m:=λa w n o=>by
  have G: ∃n,p a w n/\ ∀m,m<n-> ¬p a w m:=by
   induction n using Nat.strongRecOn with
   |_ n K=>
    by_cases h: ∃k,k<n/\p a w k
    .obtain⟨k,C,i⟩:=h;exact K k C i
    .exact⟨n,o,λm H b=>h ⟨m,H,b⟩⟩
  exact Classical.epsilon_spec G
 refine wp_loop (λa w=> ∃n,p a w n) d ⟨_,A,j6,v,rfl,B⟩ λa w ⟨n,o⟩=> ?_;have⟨⟨y,mc,F,L,q⟩,_⟩:=t a w n o;refine r1 (h y F S j mc a w q) λe a' w' ⟨aC,u,r,c⟩=> ?_
 cases e<;>simp only[Yb]at c<;>try exact c.elim
 .obtain⟨z,J,M,l⟩:=c;have⟨eQ,i⟩:=l S j aC a' w' r;have b:p a' w' (f z):=⟨z,eQ,J,rfl,i⟩;refine⟨⟨_,b⟩,?_⟩;have D:=(t a' w' _ b).2;have:d a' w'<=f z:=by
   rcases ga (f z) (d a' w')with h|h
   .exact absurd b (D _ h)
   .exact h
  omega
 .exact⟨aC,u,r,c⟩
 .exact⟨aC,u,r,c⟩
end
def PY(E:Env)(st:O)(r:ResultVar)(K:J->Prop):Prop:=
 match r with
 | .tmp t=>lL st.k (st.n.getD t .undef) K
 | .cell t T=>eb E T λa=>pg a st.k (st.n.getD t .undef) λav=>lL st.k av K
def A4(E:Env)(st:O):List ResultVar->(List J->Prop)->Prop
 |[],K=>K []
 |x::r,K=>PY E st x λy=>A4 E st r λa=>K (y::a)
def qw:List J->J
 |[x]=>x
 |a=> .du a
def hN:J->J->Prop
 | .arr b n f,.arr c a g=>b=c/\n=a/\ ∀i,i<n->f i=g i
 | .aH,.arr _ a _=>a=0
 |x,y=>x=y
def lD:J->J->Prop
 | .agg cs,.agg a=>bb hN cs a
 |x,y=>hN x y
def ye:J->J->Prop
 | .du aa,.du a=>bb lD aa a
 |x,y=>lD x y
def Er(H:Heap)(e n:Nat)(f:Nat->List J)(x:J):Prop:=
 match x with
 | .own b k=>match M H b 0 with
   | .ad d g a c=>dm (!d&&Nat.beq g e) (k=a/\a=n/\ ∀i,i<n->c i=f i)
   |_=>False
 | .aH=>n=0
 |_=>False
def EG(E:Env)(st:O)(rs:List ResultVar)(a n:Nat)(f:Nat->List J):Prop:=
 match rs with
 |[x]=>match x with
  | .tmp t=>Er st.k a n f (st.n.getD t .undef)
  | .cell t T=>eb E T λb=>pg b st.k (st.n.getD t .undef) λav=>Er st.k a n f av
 |_=>False
def aE5(E:Env)(rs:List ResultVar)(r:J)(st:O):Prop:=
 match r with
 | .ad _ a n f=>EG E st rs a n f
 |r=>A4 E st rs λb=>ye (qw b) r
def aE4(E:Env)(rs:List ResultVar)(r:J)(e:Exit)(st:O):Prop:=
 (match e with
  | .normal=>True
  | .ret=>True
  |_=>False)/\aE5 E rs r st
section
variable {E:Env} {S:ez} {ι:Nat->Option Nat} {st:O} {a:Act} {w:World}
def hN.rel{F:Nat->Prop}{x y:J}{v:Value}(h:hN x y)(k:a6 w F x v):a6 w F y v:=by
 cases k with
 |arr d n f b o c g q G t r e l m=>
  cases y<;>simp only[hN]at h<;>try exact Ζ
  obtain⟨rfl,rfl,h⟩:=h;exact .arr d n _ b o c g q G t r (λi j z D=>by rw[<-h i z];exact e i j z D) l m
 |nil d f=>
  cases y<;>simp only[hN]at h<;>try exact Ζ
  obtain⟨rfl,rfl,h⟩:=h;exact .nil d _
 |mt d f a c=>
  cases y<;>simp only[hN]at h<;>try exact Ζ
  obtain⟨rfl,rfl,h⟩:=h;exact .mt d _ a c
 |aH=>
  cases y<;>simp only[hN]at h<;>first|(cases h;done)|(subst h;exact .nil _ _)|exact .aH
 |int k n=>simp only[hN]at h;subst h;exact .int k n
 |bool b=>simp only[hN]at h;subst h;exact .bool b
 |kn=>simp only[hN]at h;subst h;exact .kn
 |kX d n f p c B C=>simp only[hN]at h;subst h;exact .kX d n f p c B C
 |lit b=>simp only[hN]at h;subst h;exact .lit b
 |str s t=>simp only[hN]at h;subst h;exact .str s t
 |ref cs b o g q r e l m=>simp only[hN]at h;subst h;exact .ref cs b o g q r e l m
 |fn f A q g u E e l m=>simp only[hN]at h;subst h;exact .fn f A q g u E e l m
def lD.rel{F:Nat->Prop}{x y:J}{v:Value}(h:lD x y)(k:gm w F x v):gm w F y v:=by
 cases x
 case agg cs=>
  cases y<;>simp only[lD,hN]at h<;>try exact Ζ
  obtain⟨g,rfl,k⟩:=k;refine⟨g,rfl,bb.mk (h.length.symm.trans k.length) λi p q a d=> ?_⟩;have⟨j,b,e⟩:=k.get i _ (cG (by rw[h.length];exact(hk.1 a).1));rw[d]at b;cases b;have⟨l,c,f⟩:=h.get i _ (cG (by rw[h.length];exact(hk.1 a).1));rw[a]at c;cases c;exact f.rel e
 case undef=>exact k.elim
 all_goals
  simp only[gm]at k
  cases y<;>first|(simp [lD,hN]at h;done)|(simp only[gm];exact(λhh=>hN.rel hh k) h)
def ye.rel{F:Nat->Prop}{x y:J}{v:Value}(h:ye x y)(k:kW w F x v):kW w F y v:=by
 cases x
 case du aa=>
  cases y<;>simp only[ye,lD,hN]at h<;>try exact Ζ
  obtain⟨g,rfl,k⟩:=k;refine⟨g,rfl,bb.mk (h.length.symm.trans k.length) λi p q a d=> ?_⟩;have⟨j,b,e⟩:=k.get i _ (cG (by rw[h.length];exact(hk.1 a).1));rw[d]at b;cases b;have⟨l,c,f⟩:=h.get i _ (cG (by rw[h.length];exact(hk.1 a).1));rw[a]at c;cases c;exact f.rel e
 all_goals
  simp only[kW]at k
  cases y<;>first|(simp [ye,lD,hN]at h;done)|(simp only[kW];exact(λhh=>lD.rel hh k) h)
def rV(P:Program)(w:World)(b:Array Value)(r:ResultVar)(v:Value):Prop:=
 (match r with
  | .tmp t=>(pure (b.getD t undef):Sem Value)
  | .cell a t=>do loadVar t (<-asAddr (b.getD a undef))).run P w= .ok v w
def aE3(k:E.dU)(h:a2 S ι st a w){r:ResultVar}{K:J->Prop}(b:PY E st r K): ∃y v,K y/\gm w (mf S w) y v/\rV E.P w a.tmps r v:=by
 cases r with
 |tmp t=>
  have⟨y,c,d⟩:=T4 h (h.eval (.tmp t)) b;exact⟨y,_,c,d,rfl⟩
 |cell t T=>
  have⟨m,l,_,b⟩:=kR k b;have⟨p,av,u,c,d,f,g⟩:=O3 l h (h.eval (.tmp t)) b;have⟨y,i,j⟩:=T4 h f d;refine⟨y,u,i,j,?_⟩;have e:a.tmps.getD t undef= .pointer (some p):=c;simp only[rV];rw[Sem.run_bind,e];simp [asAddr,g]
def akS(e:E.dU)(h:a2 S ι st a w): ∀(rs:List ResultVar) (K:List J->Prop),A4 E st rs K-> ∃d c,K d/\bb (gm w (mf S w)) d c/\bb (rV E.P w a.tmps) rs c
 |[],K,b=>⟨[],[],b,trivial,trivial⟩
 |r::rs,K,b=>by
  have⟨y,v,b,f,g⟩:=aE3 e h b;have⟨d,c,b,i,j⟩:=akS e h rs _ b;exact⟨y::d,v::c,b,⟨f,i⟩,g,j⟩
def ZQ{P:Program}{fn:Func}{tmps:Array Value}{cQ:List Value}(h:bb (rV P w tmps) fn.results.toList cQ):
  (results fn tmps).run P w= .ok (if h:cQ.toArray.size=1 then cQ.toArray[0]else .tuple cQ.toArray) w:=by
 have e: ∀(rs:List ResultVar) (cQ:List Value),bb (rV P w tmps) rs cQ->Sem.run P (rs.mapM λ(r:ResultVar)=>match r with
  | .tmp t=>(pure (tmps.getD t undef):Sem Value)
  | .cell a t=>do loadVar t (<-asAddr (tmps.getD a undef))) w=Result.ok cQ w:=by
  intro rs
  induction rs with
  |nil=>intro cQ h;cases cQ;simp;exact h.elim
  |cons r rs d=>
   intro cQ h
   cases cQ with
   |nil=>exact h.elim
   |cons v cQ=>
    have b:=h.1;have c:=d cQ h.2;unfold rV at b;simp only[List.mapM_cons];rw[Sem.run_bind]
    cases r<;>simp only at b<;>rw[b]<;>simp only[Result.andThen]<;>rw[Sem.run_bind,c]<;>rfl
 unfold results;rw[Array.mapM_eq_mapM_toList];rw[Sem.run_bind];have:=e fn.results.toList cQ h;simp only[Functor.map];rw[Sem.run_bind']
 erw [this]
 rfl
def akg(h:a2 S ι st a w){F:Nat}(V: ∀b x,ι b=some x->F<=x){Y:Bool}{G n:Nat}{f:Nat->List J}{x:J}{v:Value}(D:bA S ι st.k w x v)(d:Er st.k G n f x):sj F w (mf S w) (.ad Y G n f) v:=by
 cases x<;>simp only[Er]at d<;>try exact d.elim
 .subst d;have X:a6 w (aX S ι st.k w) .aH v:=D
  cases X
  exact .inl ⟨rfl,rfl⟩
 .rename_i b k
  cases e:M st.k b 0<;>rw[e]at d<;>simp only at d
  rename_i po lu n' gD;obtain⟨t,rfl,rfl,T⟩:=aF.1 d;simp only[b2,j4]at t;obtain⟨rfl,m⟩:=t;have m:=ey m;subst m;have⟨_,aFe,aGh,Yp,f2,p,_,N⟩:=(show eY S ι st.k w (.own b k) v from D);rw[e]at p;cases p;rcases N rfl with⟨q,c,C,H,g,o,W,r,O⟩|⟨rfl,_,o⟩
  .have l:=h.k b 0;rw[e]at l;obtain⟨_,z|⟨P,l|⟨Jx,Z,tY,B,s,Q⟩⟩⟩:=l
   .rw[g]at z;cases z.2.2
   .rw[g]at l;cases l.2
   .rw[g]at B;cases B;rw[r]at s;cases s;refine .inr ⟨q,c,C,H,V b q g,(h.fresh b q g).2,o,W,P,r,O,λi j A U=> ?_⟩;have⟨av,u,I,K,L⟩:=Q i j A U;refine⟨av,u,by rw[<-T i A];exact I,K,L.mono (λy E=>⟨RG E,λR=> ?_⟩) λ_ _ _=>rfl⟩;exact E.2.2 b (.inl ⟨by rw[e];rfl,by rw[e];rfl⟩) (by rw[R];exact g)
  .exact .inl ⟨rfl,o⟩
def aE1(o:E.dU)(h:a2 S ι st a w){AN:Nat}(o8:S.fy.heap.size<=w.heap.size)(e: ∀b x,ι b=some x->AN<=x){rs:List ResultVar}{r:Bool}{g n:Nat}{f:Nat->List J}(c:EG E st rs g n f):
  ∃d v,rs=[d]/\rV E.P w a.tmps d v/\sj AN w (mf S w) (.ad r g n f) v:=by
 unfold EG at c
 split at c
 .rename_i d
  cases d with
  |tmp t=>exact⟨_,_,rfl,rfl,akg h e (h.eval (.tmp t)) c⟩
  |cell t T=>
   have⟨s,q,_,c⟩:=kR o c;have⟨p,av,u,i,k,l,m⟩:=O3 q h (h.eval (.tmp t)) c;refine⟨_,u,rfl,?_,akg h e l k⟩;have j:a.tmps.getD t undef= .pointer (some p):=i;simp only[rV];rw[Sem.run_bind,j];simp [asAddr,m]
 .exact c.elim
def yb(H:E.dU){f:FuncId}{fn:Func}{c:Code}(Q:E.P.funcs[f]? =some fn)(A:fn.body=some c)(aa:List J)(r:J)
  (T:WP E c (aE4 E fn.results.toList r) ⟨aa++List.replicate (fn.ntmps-aa.length) .undef,[]⟩):fR E.P f aa r:=by
 intro w F q l I;let S:ez:=⟨F,w,l.lt,λ_=>False,λ_ h=>h.elim,λ_=>none,[],F,λ_ _ h=>(by cases h),l.xJ⟩;have Z:=I.length;have W:a2 S (λ_=>none) ⟨aa++List.replicate (fn.ntmps-aa.length) .undef,[]⟩ {tmps:=q.toArray++Array.replicate (fn.ntmps-q.toArray.size) undef,defers:=[]} w:=by
  refine⟨js.refl _ _ _,rfl,λt av i=> ?_,λb o=> ?_,λ_ _ _ h=>(by cases h),λ_ _ h=>(by cases h),λ_ _ h=>(by cases h),⟨λx h=>⟨.inl h,l.lt x h,λb A=>Χ⟩,λ_ _ _=>rfl,λ_ _ h=>(by cases h),λb K L n f h=>(by simp [S,M]at h)⟩⟩
  .rcases ga t aa.length with h|h
   .rw[wb h]at i;obtain⟨v,g,z⟩:=I.get t av i;refine⟨v,?_,eZ.AU (g1.PB (z.mono (λx j=>⟨.inl j,l.lt x j,λb A=>Χ⟩) λ_ _ _=>rfl))⟩;rw[r2 (by simp;omega)];simpa using g
   .rw[E2 h]at i;have X:t-aa.length<fn.ntmps-aa.length:=by
     rcases ga (t-aa.length) (fn.ntmps-aa.length)with s|s
     .exact s
     .rw[fk (by simpa using s)]at i;cases i
    rw[aaU,bg X]at i
    cases i
    exact⟨undef,by rw[Array.getElem?_append_right (by simp;omega),Array.getElem?_replicate,bg (by simp;omega)],trivial⟩
  .simp [M,fC]
 refine calls_of_wp Q A (r1 (T S (cd _) _ _ w W) λe a w' ⟨ι,st,d,V⟩=> ?_);obtain⟨m,p⟩:=V
 by_cases B:cv r=true
 .obtain⟨K,L,n,f,rfl⟩:=OM B;obtain⟨aJq,v,N,O,bo⟩:=aE1 H d (o8:=d.below.size) (AN:=w.heap.size) (λb x j=>(d.fresh b x j).1.resolve_right λh=>h) p;have C:=ZQ (w:=w') (fn:=fn) (tmps:=a.tmps) (cQ:=[v]) (by rw[N];exact⟨O,trivial⟩);have D: ∃v,(results fn a.tmps).run E.P w'= .ok v w'/\ ∃k,Ending.returned v= .returned k/\sj w.heap.size w' (λx=>F x\/(w.heap.size<=x/\x<w'.heap.size)) (.ad K L n f) k/\Below w.heap.size w w':=
   ⟨_,C,_,rfl,bo,d.below.plain λ_ h=>h⟩
  cases e<;>simp only at m<;>first|exact⟨d.defers,D⟩|exact m.elim
 have p:A4 E st fn.results.toList λq=>ye (qw q) r:=by cases r<;>first|exact p|(exact absurd rfl B)
 obtain⟨G,us,U,g,z⟩:=akS H d _ _ p;have C:=ZQ z;have P: ∀x,mf S w' x->(F x\/(w.heap.size<=x/\x<w'.heap.size)):=λx j=>j;have Y:kW w' (mf S w') (qw G) (if h:us.toArray.size=1 then us.toArray[0]else .tuple us.toArray):=by
  match G,us,g with
  |[],[],_=>exact⟨[],rfl,trivial⟩
  |[y],[u],g=>
   have:=g.1;simp only[qw]
   cases y<;>first|exact this|exact False.elim this|(cases this)
  |y::ym::G,u::al0::us,g=>
   rw[dif_neg Χ];exact⟨_,rfl,g⟩
 have R:=U.rel Y;have D: ∃v,(results fn a.tmps).run E.P w'= .ok v w'/\ ∃k,Ending.returned v= .returned k/\sj w.heap.size w' (λx=>F x\/(w.heap.size<=x/\x<w'.heap.size)) r k/\Below w.heap.size w w':=
  ⟨_,C,_,rfl,by have:=R.mono P (λ_ _ _=>rfl);cases r<;>first|exact this|(exact absurd rfl B),d.below.plain λ_ h=>h⟩
 cases e<;>simp only at m<;>first|exact⟨d.defers,D⟩|exact m.elim
end
def EZ:J->Value->Bool
 | .int k n,.int a c=>decide (k=a)&&n==c
 | .bool b,.bool b'=>b==b'
 | .str s,.string d=>s.data.toList==d.data.toList&&s.size==0
 | .aH,.slice none 0 0=>true
 | .kn,.pointer none=>true
 | .undef,.pointer _=>true
 | .undef,.func _ _ _=>true
 | .undef,.nilFunc=>true
 | .undef,.nilIface=>true
 |_,_=>false
def QJ:List J->List Value->Bool
 |[],[]=>true
 |a::aa,v::b=>EZ a v&&QJ aa b
 |_,_=>false
def PI:List (Nat×Nat)->List Field->Program->Bool
 |[],[],_=>true
 |(o,s)::r,f::a,P=>(f.offset==o&&s !=0&&(match P.info? f.type with|some i=>i.size==s|none=>false))&&PI r a P
 |_,_,_=>false
def K8(P:Program)(t:bU)(d:TypeDesc):Bool:=
 match t.d,d with
 | .bool,.bool=>t.size==1
 | .string,.string=>t.size==1
 | .int k,.int g=>decide (k=g)&&t.size==1
 | .slice e b c,.slice a=>e==a&&t.size==1&&(match P.info? e with|some i=>i.size==b&&i.bytes==c&&(match i.zero with|some z=>z.cells.size==i.size|none=>false)|none=>false)
 | .pointer e,.pointer a=>e==a&&t.size==1
 | .struct j,.struct f=>PI j f.toList P
 | .array n e b,.array h a=>n==h&&e==a&&(match P.info? e with|some i=>i.size==b|none=>false)
 | .other,.func .. =>t.size==1
 |_,_=>false
def ET(P:Program)(T:TypeId)(t:bU):Bool:=
 match P.info? T,P.underlying T with
 |some i,some d=>i.size==t.size&&(match i.zero with|some z=>z.cells.size==t.size&&QJ t.zero z.cells.toList|none=>false)&&K8 P t d
 |_,_=>false
def aHv{a:J}{v:Value}(h:EZ a v=true):mi a v:=by
 cases a
 case str s=>
  cases v<;>simp only[EZ]at h<;>try exact Ζ
  rename_i c;simp only[b2,gy]at h;obtain⟨b,d⟩:=h;have:s=c:=by
   cases s;cases c
   simp only at b
   congr 1
   exact qC b
  subst this;exact⟨rfl,d⟩
 case kn=>
  cases v
  case pointer p=>cases p<;>simp_all [EZ,mi]
  all_goals cases h
 case aH=>
  cases v
  case slice a n m=>cases a<;>cases n<;>cases m<;>simp_all [EZ,mi]
  all_goals cases h
 all_goals
  cases v<;>simp [EZ]at h<;>simp only[mi]<;>first|rfl|(obtain⟨rfl,rfl⟩:=h;rfl)|(subst h;rfl)|skip
def amA: ∀{aa:List J} {b:List Value},QJ aa b=true->bb mi aa b
 |[],[],_=>trivial
 |a::aa,v::b,h=>by
  simp only[QJ,b2]at h;exact⟨aHv h.1,amA h.2⟩
 |[],_::_,h=>by cases h
 |_::_,[],h=>by cases h
def aku{P:Program} : ∀{j:List (Nat×Nat)} {c:List Field},PI j c P=true->
  c.mapM (λf=>(P.info? f.type).map λi=>(f.offset,i.size))=some j/\ ∀(k b a:Nat),j[k]? =some (b,a)-> ∃f:Field,c[k]? =some f/\f.offset=b/\ ∃i,P.info? f.type=some i/\i.size=a/\a≠0
 |[],[],_=>⟨rfl,λk b a h=>by simp at h⟩
 |(o,s)::r,f::c,h=>by
  simp only[PI,b2]at h;obtain⟨⟨⟨n,p⟩,d⟩,q⟩:=h;have⟨t,u⟩:=aku q
  cases e:P.info? f.type with
  |none=>rw[e]at d;cases d
  |some i=>
   rw[e]at d;have l:f.offset=o:=by simpa using n
   have m:s≠0:=by simpa using p
   have bo:i.size=s:=by simpa using d
   refine⟨by simp [List.mapM_cons,e,t,l,bo],λk b a g=> ?_⟩
   cases k with
   |zero=>simp at g;obtain⟨rfl,rfl⟩:=g;exact⟨f,rfl,l,i,e,bo,m⟩
   |succ k=>exact u k b a (by simpa using g)
 |[],_::_,h=>by cases h
 |_::_,[],h=>by cases h
def aGF{P:Program}{T:TypeId}{t:bU}(h:ET P T t=true)(A:t.cmp=true->Kp P T t.zero):hl P T t:=by
 unfold ET at h
 cases q:P.info? T with
 |none=>rw[q]at h;cases h
 |some i=>
  cases c:P.underlying T with
  |none=>rw[q,c]at h;cases h
  |some d=>
   rw[q,c]at h;simp only[b2]at h;obtain⟨⟨x,g⟩,a⟩:=h
   cases m:i.zero with
   |none=>rw[m]at g;cases g
   |some z=>
    rw[m]at g;simp only[b2]at g;refine⟨⟨i,z,q,by simpa using x,m,by simpa using g.1,amA g.2⟩,⟨d,c,λe=> ?_,λe=> ?_⟩,?_,A⟩
    .unfold K8 at a
     cases o:t.d<;>rw[o]at e a<;>first|(cases e;done)|skip
     all_goals (cases d<;>simp only at a<;>first|(cases a;done)|rfl)
    .unfold K8 at a
     cases o:t.d<;>rw[o]at e a<;>first|(cases e;done)|skip
     all_goals
      cases d<;>simp only at a<;>first|(cases a;done)|(simp only[b2,gy,kS]at a;simp_all)
    .unfold K8 at a
     cases o:t.d<;>rw[o]at a<;>simp only
     all_goals
      cases d<;>simp only at a<;>first|(cases a;done)|trivial|skip
     .simp only[b2,kS]at a;rw[a.1];exact c
     .rename_i e u E s;simp only[b2,gy]at a;obtain⟨⟨rfl,_⟩,b⟩:=a
      cases p:P.info? e with
      |none=>rw[p]at b;cases b
      |some j=>
       rw[p]at b;simp only[b2,gy]at b;obtain⟨b,l⟩:=b
       cases r:j.zero with
       |none=>rw[r]at l;cases l
       |some G=>
        rw[r]at l;exact⟨c,j,rfl,b.1,b.2,by rw[r];rfl,λz m=>by rw[r]at m;cases m;simpa using l⟩
     .simp only[b2,gy]at a;rw[a.1];exact c
     .obtain⟨l,y⟩:=aku a;exact⟨_,c,l,λk C D B=>by have⟨f,v,w⟩:=y k C D B;exact⟨f,by simpa using v,w⟩⟩
     .rename_i n e u F s;simp only[b2,gy]at a;obtain⟨⟨rfl,rfl⟩,b⟩:=a;refine⟨c,?_⟩
      cases p:P.info? e with
      |none=>rw[p]at b;cases b
      |some j=>
       rw[p]at b;exact⟨j,rfl,by simpa using b⟩
def Bj(iA:List (Nat×bU))(T:TypeId):Option bU:=
 match iA with
 |[]=>none
 |(a,t)::r=>if T==a then some t else Bj r T
def alZ{iA:List (Nat×bU)}{T:TypeId}{t:bU}(h:Bj iA T=some t):(T,t)∈iA:=by
 induction iA with
 |nil=>cases h
 |cons x r b=>
  obtain⟨a,c⟩:=x;simp only[Bj]at h
  split at h
  .rename_i e;have:T=a:=by simpa using e
   cases h;rw[this];simp
  .exact List.mem_cons_of_mem _ (b h)
abbrev Spec:=FuncId->List J->Option (Option Prop×J)
def Spec.dU(P:Program)(s:Spec):Prop:= ∀f a pre r,s f a=some (pre,r)->mN P f/\(pj pre True->fR P f a r)
abbrev yy:=FuncId->List J->Heap->Option (Option Prop×List J×Heap)
def yy.dU(P:Program)(s:yy):Prop:= ∀f a H b rs H',s f a H=some (b,rs,H')->mN P f/\(pj b True->gn P f a H rs H')
def asJ{P:Program}{iA:List (Nat×bU)}{s:Spec}{m:Nat}{a:yy}{e:FuncId->Bool}(d:P.follows .mixedOrders=true)(h:(iA.all λx=>ET P x.1 x.2)=true)(c: ∀x∈iA,x.2.cmp=true->Kp P x.1 x.2.zero)(fw:s.dU P)(hU:a.dU P):Env.dU ⟨P,Bj iA,s,m,a,e⟩:=
 ⟨λT t b=>aGF (d_.1 h (T,t) (alZ b)) (c (T,t) (alZ b)),d,fw,hU⟩
def nZ:TypeDesc->Bool
 | .struct _=>true
 | .array _ _=>true
 |_=>false
def tu(b:Bool)(a:List Value):Value:=if b then .agg a.toArray else a.headD undef
def FM(P:Program)(c:TypeId->List J->Bool):List Field->Nat->List J->Bool
 |[],_,a=>a.isEmpty
 |f::d,b,a=>(f.name != "_")&&f.offset==b&&(match P.info? f.type,P.underlying f.type with
  |some i,some _=>decide (0<i.size)&&decide (i.size<=a.length)&&c f.type (a.take i.size)&&FM P c d (b+i.size) (a.drop i.size)
  |_,_=>false)
def uj(P:Program):Nat->TypeId->List J->Bool
 |0,_,_=>false
 |n+1,T,a=>match P.underlying T with
  |some (.int k)=>match a with
   |[.int c _]=>decide (k=c)
   |_=>false
  |some .bool=>match a with
   |[.bool _]=>true
   |_=>false
  |some .string=>match a with
   |[.str _]=>true
   |_=>false
  |some (.struct b)=> !P.stoodInHeld T&&FM P (uj P n) b.toList 0 a
  |_=>false
def yX: ∀{a cs:List J},im a cs=true->a.length=cs.length
 |[],[],_=>rfl
 |_::_,_::_,h=>by simp only[im,b2]at h;simp [yX h.2]
 |[],_::_,h=>by cases h
 |_::_,[],h=>by cases h
def TO(n:Nat): ∀{a cs:List J},im a cs=true->im (a.take n) (cs.take n)=true/\im (a.drop n) (cs.drop n)=true
 |[],[],h=>by simp [im]
 |z::a,c::cs,h=>by
  simp only[im,b2]at h
  cases n with
  |zero=>simp [im,h]
  |succ n=>
   have:=TO n h.2;simp [im,h.1,this]
 |[],_::_,h=>by cases h
 |_::_,[],h=>by cases h
def adS(n:Nat): ∀(cs a:List J),cs.length=a.length->ke cs a=(ke (cs.take n) (a.take n)&&ke (cs.drop n) (a.drop n))
 |[],[],_=>by simp [ke]
 |c::cs,d::a,h=>by
  cases n with
  |zero=>simp [ke]
  |succ n=>simp [ke,adS n cs a (by simpa using h),Bool.and_assoc]
 |[],_::_,h=>by simp at h
 |_::_,[],h=>by simp at h
def bb.drop{α β:Type}{R:α->β->Prop} : ∀{aa:List α} {a:List β} (n:Nat),bb R aa a->bb R (aa.drop n) (a.drop n)
 |[],[],n,_=>by simp [bb]
 |_::_,_::_,0,h=>h
 |_::_,_::_,n+1,h=>bb.drop n h.2
 |[],_::_,_,h=>h.elim
 |_::_,[],_,h=>h.elim
section
variable {P:Program} {w:World}
def ak9{T:TypeId}{i:TypeInfo}{d:TypeDesc}(j:P.info? T=some i)(g:P.underlying T=some d)(c:nZ d=false->i.size=1)(b:List Value)(a:Nat)(k:a+i.size<=b.length):
  (part T b.toArray a).run P w= .ok (tu (nZ d) ((b.drop a).take i.size)) w:=by
 cases e:nZ d with
 |true=>
  have:(isAgg T).run P w= .ok true w:=by cases d<;>simp [nZ]at e<;>simp [isAgg,fN g]
  simp only[part,Sem.run_bind,this,Result.andThen_ok,ma,sizeOf,typeInfo,tu];simp [j]
 |false=>
  have:(isAgg T).run P w= .ok false w:=by cases d<;>simp [nZ]at e<;>simp [isAgg,fN g]
  have c:=c e;have f:a<b.length:=by omega
  simp only[part,Sem.run_bind,this,Result.andThen_ok,tu,c];have h:(b.drop a).take 1=[b[a]]:=by rw[r8 f];rfl
  simp [h,f]
def abd(P:Program)(n:Nat)(T:TypeId)(e:List J):Prop:=
 ∀(d:Nat) (cs a:List J) (c us:List Value) (w:World) (b:TypeDesc),n<=d->P.underlying T=some b->im e cs=true->im e a=true->bb yA cs c->bb yA a us->
  (Op.equalIn d T (tu (nZ b) c) (tu (nZ b) us)).run P w= .ok (ke cs a) w
def arz{n:Nat}{T:TypeId}{b:List J}(h:uj P n T b=true){a:TypeDesc}(d:P.underlying T=some a)(c:nZ a=false):b.length=1:=by
 cases n with
 |zero=>cases h
 |succ n=>
  simp only[uj,d]at h
  cases a<;>simp only at h<;>first|(cases h;done)|(cases c;done)|skip
  all_goals
   split at h<;>first|rfl|cases h
def adT{n:Nat}(v: ∀(T:TypeId) (a:List J),uj P n T a=true->abd P n T a){d:Nat}(s:n<=d)(j us:List Value)(cs b:List J)(r:bb yA cs j)(q:bb yA b us)(C:cs.length=b.length):
  ∀(k:List Field) (off:Nat) (a:List J) (w:World),FM P (uj P n) k off a=true->im a (cs.drop off)=true->im a (b.drop off)=true->
   (Op.eqFields d j.toArray us.toArray k).run P w= .ok (ke (cs.drop off) (b.drop off)) w
 |[],off,a,w,h,l,m=>by
  simp only[FM]at h;have G:a=[]:=by simpa using h
  subst G;have A:=(yX l).symm;have B:=(yX m).symm;rw[J6.1 A,J6.1 B];simp [Op.eqFields,ke]
 |f::k,off,a,w,h,l,m=>by
  simp only[FM,b2]at h;obtain⟨⟨o,p⟩,h⟩:=h;have p:f.offset=off:=by simpa using p
  have o:f.name≠ "_" :=by simpa using o
  cases g:P.info? f.type with
  |none=>rw[g]at h;simp at h
  |some i=>
   cases c:P.underlying f.type with
   |none=>rw[g,c]at h;simp at h
   |some z=>
    rw[g,c]at h;simp only[b2,kS]at h;obtain⟨⟨⟨M,N⟩,u⟩,F⟩:=h;have H:=yX l;have I:=yX m;have Q:=r.length;have O:=q.length;simp only[r_]at H I;have t:nZ z=false->i.size=1:=λe=>by
     have:=arz u c e;simp only[jr]at this;omega
    have K:=ak9 (w:=w) g c t j off Ω;have L:=ak9 (w:=w) g c t us off Ω;have x:=TO i.size l;have y:=TO i.size m;have D:=v f.type (a.take i.size) u d ((cs.drop off).take i.size) ((b.drop off).take i.size) ((j.drop off).take i.size) ((us.drop off).take i.size) w z s c x.1 y.1 (bb.take _ (bb.drop _ r)) (bb.take _ (bb.drop _ q));have E:=adT v s j us cs b r q C k (off+i.size) (a.drop i.size) w F (by rw[<-ys];exact x.2) (by rw[<-ys];exact y.2);simp only[Op.eqFields,p];rw[bg o,Sem.run_bind,K,Result.andThen_ok,Sem.run_bind,L,Result.andThen_ok,Sem.run_bind,D,Result.andThen_ok];rw[adS i.size (cs.drop off) (b.drop off) (by simp;omega),ys,ys]
    cases ke ((cs.drop off).take i.size) ((b.drop off).take i.size)with
    |false=>simp
    |true=>simp only[Bool.not_true,Bool.false_eq_true,oe,Bool.true_and];exact E
def acV: ∀(n:Nat) (T:TypeId) (j:List J),uj P n T j=true->abd P n T j
 |0,_,_,h=>by cases h
 |n+1,T,j,h=>by
  intro d cs g i us w x y f a b e c;simp only[uj,f]at h;obtain⟨d,rfl⟩: ∃o,d=o+1:=⟨d-1,Ω⟩
  cases x<;>simp only at h<;>first|(cases h;done)|skip
  case bool=>
   split at h<;>first|(cases h;done)|skip
   match cs,g,i,us,a,b,e,c with
   |[.bool p],[.bool q],[v],[u],_,_,e,c=>rw[show v= .bool p from e.1,show u= .bool q from c.1];simp [tu,nZ,run_equalIn_bool' w d T p q f,ke,Lm]
  case int k=>
   split at h<;>first|(cases h;done)|skip
   match cs,a with
   | .int _ _::_::_,a=>simp [im]at a
   |[.int s p],a=>
   match g,b with
   | .int _ _::_::_,b=>simp [im]at b
   |[.int t q],b=>
   match i,us,e,c with
   |[v],[u],e,c=>
    rw[show v= .int s p from e.1,show u= .int t q from c.1];simp [im,TN]at a b;rw[<-a,<-b];simp [tu,nZ,run_equalIn_int w d T _ _ p q f,ke,Lm]
  case string=>
   split at h<;>first|(cases h;done)|skip
   match cs,g,i,us,a,b,e,c with
   |[.str p],[.str q],[v],[u],_,_,e,c=>rw[show v= .string p from e.1,show u= .string q from c.1];simp [tu,nZ,run_equalIn_string w d T p q f,ke,Lm]
  case struct l=>
   simp only[b2,j4]at h;have m:P.fieldsOf T=l:=by simp [Program.fieldsOf,f]
   have:=run_equalIn_struct (P:=P) w d T i.toArray us.toArray (by rw[m];exact f) h.1;simp only[tu,nZ,ma];rw[this,m];have r:cs.length=g.length:=(yX a).symm.trans (yX b);exact adT (acV n) Ω i us cs g e c r l.toList 0 j w h.2 (by simpa using a) (by simpa using b)
def asN{T:TypeId}{c:List J}{n:Nat}(h:uj P n T c=true)(i:n<=10000)(a:(match P.underlying T with|some (.struct _)=>true|_=>false)=true)(g:P.eqGuardType P.depth T=false):Kp P T c:=by
 intro m x y cs d p us w j e f l k
 cases b:P.underlying T with
 |none=>rw[b]at a;cases a
 |some o=>
  rw[b]at a
  cases o<;>simp only at a<;>first|(cases a;done)|skip
  rename_i q;have:=acV n T c h 10000 cs d p us w _ i b e f l k;simp only[tu,nZ,ma]at this;rw[Sem.run_bind,run_eqGuard_agg w m T x y _ _ g,Result.andThen_ok];rcases j with rfl|rfl
  .rw[run_eql_struct,this];rfl
  .rw[run_neq_struct,this];rfl
def KT(P:Program)(x:Nat×bU):Bool:= !x.2.cmp||(uj P 9 x.1 x.2.zero&&(match P.underlying x.1 with|some (.struct _)=>true|_=>false)&& !(P.eqGuardType P.depth x.1))
def adP{P:Program}{iA:List (Nat×bU)}{s:Spec}{m:Nat}{a:yy}{f:FuncId->Bool}(e:P.follows .mixedOrders=true)(h:(iA.all λx=>ET P x.1 x.2)=true)(b:(iA.all λx=>KT P x)=true)(g:s.dU P)(d:a.dU P):Env.dU ⟨P,Bj iA,s,m,a,f⟩:=
 asJ e h (fw:=g) (hU:=d) λx i c=>by
  have:=d_.1 b x i;simp only[KT,c,Bool.not_true,Bool.false_or,b2,j4]at this;exact asN (n:=9) this.1.1 Ω this.1.2 this.2
end
def jf(x y:J):Prop:=
 match y with
 | .undef=>True
 | .bool c=>match x with
   | .bool b=>b=c
   | .lit b=>b=c
   |_=>False
 | .int k m=>match x with
   | .int a n=>dm (decide (a=k)) (n=m)
   |_=>False
 | .str t=>match x with
   | .str s=>s=t
   |_=>False
 | .arr e n g=>match x with
   | .arr h d f=>dm (decide (h=e)) (d=n/\ ∀i,i<n->f i=g i)
   | .aH=>n=0
   |_=>False
 |y=>x=y
def Lu:List J->List J->Prop
 |[],[]=>True
 |x::a,y::b=>jf x y/\Lu a b
 |_,_=>False
def y0(x y:J):Prop:=
 match y with
 | .agg a=>match x with
   | .agg cs=>Lu cs a
   |_=>False
 |y=>jf x y
def qX:List J->List J->Prop
 |[],[]=>True
 |x::a,y::b=>match y with
  | .undef=>qX a b
  |y=>y0 x y/\qX a b
 |_,_=>False
def iK(x y:J):Prop:=
 match y with
 | .undef=>cv x=false
 | .gone=>match x with
   | .undef=>False
   | .ad .. =>False
   |_=>True
 | .ad b d n g=>match x with
   | .ad c e a f=>dm (decide (c=b)&&decide (e=d)) (a=n/\ ∀i,i<n->ll (f i) (g i))
   |_=>False
 |y=>dm (!(cv x)) (jf x y)
def uq:List J->List J->Prop
 |a,[]=>dm (a.all λx=> !(cv x)) True
 |x::a,y::b=>iK x y/\uq a b
 |[],_::_=>False
def Ce:Heap->Heap->Prop
 |[],b=>dm (b.all λy=>y.isEmpty) True
 |x::a,y::b=>uq x y/\Ce a b
 |x::a,[]=>dm (x.all λz=> !(cv z)) (Ce a [])
def Cd:Heap->Heap->Prop
 |[],a=>dm (a.all λy=>y.isEmpty) True
 |x::b,y::a=>match y with
  |[]=>Cd b a
  |z::c=>uq x (z::c)/\Cd b a
 |_::_,[]=>True
def alive(H:Heap)(b:Nat):Bool:=
 match H.getD b []with
 |[]=>false
 |_::_=>true
def are(H:Heap):J->Bool
 | .ptr b _=>alive H b
 |x=>ot x
def D8(H:Heap):J->Bool
 | .ptr b _=>alive H b
 | .own b _=>alive H b
 | .gr b _ _ _=>alive H b
 | .fn _ a=>a.all (are H)
 |_=>true
def O6(H:Heap):J->Bool
 | .agg cs=>cs.all (D8 H)
 | .du _=>false
 |av=>D8 H av
def x3(s:O):Bool:=s.n.all (O6 s.k)&&s.k.all λl=>l.all (D8 s.k)
def tT(s a:O):Prop:=qX s.n a.n/\Cd s.k a.k/\x3 a=true
def Fg(s a:O):Prop:=qX s.n a.n/\Ce s.k a.k/\s.k.length<=a.k.length
section
variable {S:ez} {ι:Nat->Option Nat} {a:Act} {w:World} {F:Nat->Prop} {H:Heap}
def wM{x y:J}{v:Value}(h:jf x y)(k:cu ι H w F x v):cu ι H w F y v:=by
 cases y
 case undef=>exact k.one
 case bool c=>
  cases x<;>simp only[jf]at h<;>try exact h.elim
  .subst h;exact k
  .subst h;have k:a6 w F (.lit _) v:=k
   cases k
   exact a6.bool _
 case int d m=>
  cases x<;>simp only[jf]at h<;>try exact h.elim
  rw[aF]at h;obtain⟨a,rfl⟩:=h;have:=al a;subst this;exact k
 case str t=>
  cases x<;>simp only[jf]at h<;>try exact h.elim
  subst h;exact k
 case arr e n g=>
  cases x<;>simp only[jf]at h<;>try exact h.elim
  .subst h;have k:a6 w F .aH v:=k
   cases k
   exact a6.nil _ _
  .rw[aF]at h;obtain⟨a,rfl,b⟩:=h;have:=al a;subst this;exact hN.rel (x:= .arr _ _ _) (y:= .arr _ _ _) ⟨rfl,rfl,b⟩ k
 all_goals
  simp only[jf]at h;subst h;exact k
def ad9: ∀{cs a:List J} {b:List Value},Lu cs a->bb (cu ι H w F) cs b->bb (cu ι H w F) a b
 |[],[],_,_,k=>k
 |_::_,_::_,_::_,h,k=>⟨wM h.1 k.1,ad9 h.2 k.2⟩
 |_::_,_::_,[],_,k=>k.elim
 |[],_::_,_,h,_=>h.elim
 |_::_,[],_,h,_=>h.elim
def as7{x y:J}{v:Value}(h:jf x y)(b:y≠ .undef)(k:eZ ι H w F x v):eZ ι H w F y v:=by
 cases y
 case undef=>exact(b rfl).elim
 case bool c=>
  cases x<;>simp only[jf]at h<;>first|exact h.elim|exact wM (ι:=ι) (H:=H) (x:= .bool _) (y:= .bool c) h k|exact wM (ι:=ι) (H:=H) (x:= .lit _) (y:= .bool c) h k
 case int d m=>
  cases x<;>simp only[jf]at h<;>first|exact h.elim|exact wM (ι:=ι) (H:=H) (x:= .int _ _) (y:= .int d m) h k
 case str t=>
  cases x<;>simp only[jf]at h<;>first|exact h.elim|exact wM (ι:=ι) (H:=H) (x:= .str _) (y:= .str t) h k
 case arr a n g=>
  cases x<;>simp only[jf]at h<;>first|exact h.elim|exact wM (ι:=ι) (H:=H) (x:= .aH) (y:= .arr a n g) h k|exact wM (ι:=ι) (H:=H) (x:= .arr _ _ _) (y:= .arr a n g) h k
 all_goals
  simp only[jf]at h;subst h;exact k
def as8{x y:J}{v:Value}(h:y0 x y)(k:eZ ι H w F x v):eZ ι H w F y v:=by
 cases y
 case undef=>trivial
 case agg b=>
  cases x<;>simp only[y0]at h<;>try exact h.elim
  obtain⟨a,rfl,k⟩:=k;exact⟨a,rfl,ad9 h k⟩
 all_goals
  simp only[y0]at h;exact as7 h Χ k
def aea: ∀{a b:List J} (t:Nat) (y:J),qX a b->b[t]? =some y-> ∃x,a[t]? =some x/\y0 x y
 |[],[],_,_,_,h=>by simp at h
 |x::a,y::b,0,z,h,c=>by
  simp at c;subst c;refine⟨x,rfl,?_⟩;simp only[qX]at h
  split at h
  .trivial
  .exact h.1
 |x::a,y::b,t+1,z,h,c=>by
  have:qX a b:=by
   simp only[qX]at h
   split at h
   .exact h
   .exact h.2
  simpa using aea t z this (by simpa using c)
 |[],_::_,_,_,h,_=>h.elim
 |_::_,[],_,_,h,_=>h.elim
def ad8: ∀{a b:List J} (o:Nat),uq a b->iK (a.getD o .undef) (b.getD o .undef)
 |a,[],o,h=>by
  cases a<;>simp only[uq]at h<;>simp only[List.getD_nil,iK]
  .rfl
  .rename_i x a;have c:=(aF.1 h).1
   cases e:(x::a)[o]? with
   |none=>simp [List.getD,e,cv]
   |some z=>
    have:=d_.1 c z (fr e);simpa[List.getD,e]using this
 |x::a,y::b,0,h=>h.1
 |x::a,y::b,o+1,h=>by simpa using ad8 o h.2
 |[],_::_,_,h=>h.elim
def ur: ∀{a cL:Heap} (b o:Nat),Ce a cL->iK (M a b o) (M cL b o)
 |[],cL,b,o,h=>by
  have c:=(aF.1 h).1;have:M cL b o= .undef:=by
   unfold M
   cases e:cL[b]? with
   |none=>simp [List.getD,e]
   |some z=>
    have:=d_.1 c z (fr e);have f:z=[]:=by simpa using this
    simp [List.getD,e,f]
  rw[this];simp [M,iK,cv]
 |x::a,y::cL,0,o,h=>by simpa[M]using ad8 o h.1
 |x::a,y::cL,b+1,o,h=>by simpa[M]using ur b o h.2
 |x::a,[],0,o,h=>by
  have c:=(aF.1 h).1;have d:iK (x.getD o .undef) .undef:=by
   simp only[iK]
   cases e:x[o]? with
   |none=>simp [List.getD,e,cv]
   |some z=>
    have:=d_.1 c z (fr e);simpa[List.getD,e]using this
  simpa[M]using d
 |x::a,[],b+1,o,h=>by
  have c:=ur (cL:=[]) b o (aF.1 h).2;simpa[M]using c
def Ls{x y:J}(h:iK x y):cv x=cv y:=by
 cases y
 case undef=>exact h
 case ad a b n g=>
  cases x<;>simp only[iK]at h<;>first|exact h.elim|rfl
 case gone=>cases x<;>first|rfl|exact(show False from h).elim
 all_goals
  simp only[iK]at h;have:=(aF.1 h).1;simp only[j4]at this;rw[this];rfl
def ad6{x y:J}(h:jf x y)(a:y≠ .undef):x≠ .undef:=by
 rintro rfl
 cases y<;>simp only[jf]at h<;>first|exact a rfl|exact h.elim|(cases h;done)|exact a h
def ad7{x y:J}(h:iK x y)(a:qy y=true):qy x=true:=by
 cases y
 case undef=>cases a
 case ad e f n g=>
  cases x<;>simp only[iK]at h<;>try exact h.elim
  rw[aF,b2]at h;have:=al h.1.1;subst this;exact a
 case gone=>cases x<;>first|rfl|exact(show False from h).elim
 all_goals
  simp only[iK]at h;have⟨b,c⟩:=aF.1 h;have d:=ad6 c Χ
  cases x<;>first|rfl|(exact(d rfl).elim)|(cases b;done)
def Fg.aGb{st g:O}(h:Fg st g):eS ι st.k w (aX S ι st.k w) ι g.k w (aX S ι g.k w):=by
 refine⟨λx ⟨a,d,k⟩=>⟨a,d,λb j=>k b (j.imp (λ⟨c,i⟩=>⟨by rw[Ls (ur b 0 h.2.1)];exact c,ad7 (ur b 0 h.2.1) i⟩) λ⟨c,o,p⟩=>⟨by rw[Ls (ur b 0 h.2.1)];exact c,o,ad7 (ur b o h.2.1) p⟩)⟩,λ_ _ _=>rfl,λb x q j=>⟨q,by rw[<-Ls (ur b 0 h.2.1)];exact j⟩,λb s t n f m=> ?_⟩;have a:=ur b 0 h.2.1;rw[m]at a;have d:=Ls a
 cases e:M g.k b 0<;>rw[e]at a d<;>first|(cases d;done)|skip
 simp only[iK]at a;rw[aF,b2]at a;obtain⟨⟨c,i⟩,rfl,r⟩:=a;have:=al i;subst this;exact⟨_,_,_,_,rfl,bH _,λ_=>⟨rfl,rfl,λx C T _ l=>⟨C,l,rfl⟩⟩⟩
def Fg.le{m:Nat}{st c:O}(h:Fg st c):cB m st c:=by
 intro S _ ι a w k;have p:eS ι st.k w (aX S ι st.k w) ι c.k w (aX S ι c.k w):=h.aGb;refine⟨ι,k.below,k.defers,λt av R=> ?_,λb o=> ?_,k.inj,k.fresh,λb x K=>hj (k.hn b x K) h.2.2,k.hs.trans p⟩
 .obtain⟨x,U,Q⟩:=aea t av h.1 R;have⟨v,d,f⟩:=k.n t x U;exact⟨v,d,as8 Q (f.step p)⟩
 .have d:=ur b o h.2.1;have f:=k.k b o
  cases e:M c.k b o<;>rw[e]at d
  case undef=>trivial
  case ad Z af n g=>
   cases q:M st.k b o<;>rw[q]at d f<;>simp only[iK]at d<;>try exact d.elim
   rw[aF,b2]at d;obtain⟨⟨A,I⟩,rfl,J⟩:=d;have:=al I;subst this;obtain⟨r,H|⟨L,l⟩⟩:=f
   .exact⟨r,.inl ⟨by have A:=al A;rw[<-A];exact H.1,H.2⟩⟩
   refine⟨r,.inr ⟨L,?_⟩⟩;rcases l with l|⟨x,C,T,s,u,z⟩
   .exact .inl l
   .refine .inr ⟨x,C,T,s,u,λi j G N=> ?_⟩;have⟨av,v,W,X,Y⟩:=z i j G N;have⟨y,V,P⟩:=Py j av (J i G) W;exact⟨y,v,V,X,YF P (Y.mono p.iL p.cell)⟩
  case gone=>
   have f:fC ι c.k w (aX S ι c.k w) b o (M st.k b o):=f.step p (λ_=>rfl) (λ_ _ _=>⟨rfl,rfl⟩) (λ_=>⟨rfl,λ_ _=>rfl⟩);have B:cv (M c.k b 0)=false/\ ∃x v,ι b=some x/\w.cell? ⟨x,o,none⟩=some v/\w.frozen? ⟨x,o,none⟩=false/\cu ι c.k w (aX S ι c.k w) (M st.k b o) v:=by
    cases q:M st.k b o<;>rw[q]at d f<;>first|exact(show False from d).elim|exact f
   obtain⟨D,x,v,s,u,z,E⟩:=B;exact⟨D,x,v,s,u,z,cu.one E⟩
  all_goals
   simp only[iK]at d;have⟨r,l⟩:=aF.1 d;have F:=ad6 l Χ;have f:fC ι c.k w (aX S ι c.k w) b o (M st.k b o):=f.step p (λ_=>rfl) (λ_ _ _=>⟨rfl,rfl⟩) (λ_=>⟨rfl,λ_ _=>rfl⟩);have B:cv (M c.k b 0)=false/\ ∃x v,ι b=some x/\w.cell? ⟨x,o,none⟩=some v/\w.frozen? ⟨x,o,none⟩=false/\cu ι c.k w (aX S ι c.k w) (M st.k b o) v:=by
    cases q:M st.k b o<;>rw[q]at f r F<;>first|exact(F rfl).elim|(cases r;done)|exact f
   obtain⟨D,x,v,s,u,z,E⟩:=B;exact⟨D,x,v,s,u,z,wM l E⟩
def O5{aC:Nat->Option Nat}{H1:Heap}{F':Nat->Prop}(l: ∀b,alive H b=true->aC b=ι b)(j: ∀b,alive H b=true-> ∀o,M H b o=M H1 b o)(t: ∀x,F x->F' x){av:J}{v:Value}(e:D8 H av=true)(k:cu ι H1 w F av v):cu aC H w F' av v:=by
 cases av
 case ptr b o=>
  obtain⟨d,x,a,g⟩:=k;exact⟨by rw[j b e];exact d,x,by rw[l b e];exact a,g⟩
 case own b c=>
  obtain⟨n,r,s,m,f,d,a,g⟩:=k;exact⟨n,r,s,m,f,by rw[j b e];exact d,a,by rw[l b e];exact g⟩
 case gr b c i o=>
  obtain⟨n,r,s,m,f,d,a,g⟩:=k;exact⟨n,r,s,m,f,by rw[j b e];exact d,a,by rw[l b e];exact g⟩
 case fn f G=>
  obtain⟨E,d,a⟩:=k;refine⟨E,d,bb.mk a.length λi p q u D=> ?_⟩;have⟨I,y,z⟩:=a.get i p u;rw[D]at y;cases y;have h:=d_.1 e p (fr u)
  cases p
  case ptr b o=>
   obtain⟨A,x,B,C⟩:=z;have h:alive H b=true:=h;exact⟨by rw[j b h];exact A,x,by rw[l b h];exact B,C⟩
  all_goals first|(cases h;done)|exact a6.mono t (λ_ _ _=>rfl) z
 case undef=>exact k
 case gone=>exact k
 case agg=>exact k.elim
 case du=>exact k.elim
 case ad=>exact k.elim
 all_goals exact a6.mono t (λ_ _ _=>rfl) k
def aji{aC:Nat->Option Nat}{H1:Heap}{F':Nat->Prop}(g: ∀b,alive H b=true->aC b=ι b)(d: ∀b,alive H b=true-> ∀o,M H b o=M H1 b o)(c: ∀x,F x->F' x){av:J}{v:Value}(a:O6 H av=true)(k:eZ ι H1 w F av v):eZ aC H w F' av v:=by
 cases av
 case agg cs=>
  obtain⟨l,rfl,k⟩:=k;refine⟨l,rfl,bb.mk k.length λi p q e h=> ?_⟩;have⟨m,f,j⟩:=k.get i p e;rw[h]at f;cases f;exact O5 g d c (d_.1 a p (fr e)) j
 case du=>cases a
 case undef=>trivial
 case gone=>exact k
 all_goals
  simp only[O6]at a;exact(show cu aC H w F' _ v from O5 (ι:=ι) (H1:=H1) (F:=F) g d c a (show cu ι H1 w F _ v from k))
def iy(m:Nat)(st:O):Bool:=(List.range m).all λb=>alive st.k b
def eS.cut{j6 ι aC:Nat->Option Nat}{a H1 H:Heap}{fy w:World}{G F F':Nat->Prop}(h:eS j6 a fy G ι H1 w F)(sq: ∀b x,j6 b=some x->b<a.length)(m: ∀b,b<a.length->alive H b=true)
  (p: ∀b,alive H b=true->aC b=ι b) (l: ∀b,alive H b=true-> ∀o,M H b o=M H1 b o) (s: ∀x,F x->F' x):eS j6 a fy G aC H w F':=by
 refine⟨λx i=>s x (h.iL x i),h.cell,λb x i d=> ?_,λb u y n f d=> ?_⟩
 .have c:=m b (sq b x i);have⟨j,k⟩:=h.box b x i d;exact⟨by rw[p b c];exact j,by rw[l b c];exact k⟩
 .have c:=m b (by
   rcases ga b a.length with g|g
   .exact g
   .rw[vj g]at d;cases d)
  have⟨v,z,t,q,j,k,r⟩:=h.arr b u y n f d;exact⟨v,z,t,q,by rw[l b c];exact j,k,λe=>by rw[p b c];exact r e⟩
def aBn{m:Nat}{u:List J}{H H1:Heap}(B:x3 ⟨u,H⟩=true)(p: ∀b,alive H b=true-> ∀o,M H b o=M H1 b o)(Y:iy m ⟨u,H⟩=true):cB m ⟨u,H1⟩ ⟨u,H⟩:=by
 intro S vh ι a w g;simp only[x3,b2]at B;let aC:Nat->Option Nat:=λb=>if alive H b then ι b else none
 have k: ∀b,alive H b=true->aC b=ι b:=λb c=>bg c;have q: ∀b x,aC b=some x->alive H b=true/\ι b=some x:=λb x c=>by
  by_cases h:alive H b=true
  .exact⟨h,by rw[<-k b h];exact c⟩
  .simp [aC,h]at c
 have X: ∀b,alive H b=true->b<H.length:=λb c=>by
  rcases ga b H.length with h|h
  .exact h
  .simp [alive,List.getD,fk h]at c
 have Z: ∀b o,alive H b=false->M H b o= .undef:=λb o h=>by
  unfold alive at h;unfold M
  cases e:H.getD b []with
  |nil=>rfl
  |cons z sa=>rw[e]at h;cases h
 have s: ∀x,aX S ι H1 w x->aX S aC H w x:=λx ⟨r,d,R⟩=>⟨r,d,λb c N=>R b (pr (λo=>p b (q b x N).1 o) c) (q b x N).2⟩;refine⟨aC,g.below,g.defers,λt av L=> ?_,λb o=> ?_,λb b' x r d=>g.inj b b' x (q _ _ r).2 (q _ _ d).2,λb x h=>g.fresh b x (q _ _ h).2,λb x h=>X b (q _ _ h).1,g.hs.cut S.sq (λb c=>d_.1 Y b (wg.2 Ω)) k p s⟩
 .obtain⟨v,r,d⟩:=g.n t av L;exact⟨v,r,aji k p s (d_.1 B.1 av (fr L)) d⟩
 .show fC aC H w (aX S aC H w) b o (M H b o);have d:=g.k b o
  cases c:alive H b with
  |false=>rw[Z b o c];trivial
  |true=>
   have W: ∀av,M H b o=av->av≠ .undef->D8 H av=true:=λav e K=>by
    unfold M at e
    cases y:H[b]? with
    |none=>simp [List.getD,y]at e;exact absurd e.symm K
    |some l=>
     simp only[List.getD,y,mM]at e
     cases A:l[o]? with
     |none=>rw[A]at e;exact absurd e.symm K
     |some z=>
      rw[A]at e;simp only[mM]at e;subst e;exact d_.1 (d_.1 B.2 l (fr y)) z (fr A)
   have Q:cv (M H b 0)=cv (M H1 b 0):=by rw[p b c 0]
   have d:fC ι H1 w (aX S ι H1 w) b o (M H b o):=by rw[p b c o];exact d
   cases e:M H b o<;>rw[e]at d
   case undef=>trivial
   case ad ro af n f=>
    obtain⟨I,G|⟨O,P⟩⟩:=d
    .exact⟨I,.inl ⟨G.1,G.2.1,by rw[k b c];exact G.2.2⟩⟩
    refine⟨I,.inr ⟨O,?_⟩⟩;rw[k b c];exact P.imp id λ⟨x,C,T,D,E,F⟩=>⟨x,C,T,D,E,λi j U V=>by
     have⟨av,v,tl,tm,AH⟩:=F i j U V;exact⟨av,v,tl,tm,AH.mono s λ_ _ _=>rfl⟩⟩
   all_goals
    obtain⟨IN,x,v,D,E,F,IU⟩:=d;exact⟨by rw[Q];exact IN,x,v,by rw[k b c];exact D,E,F,O5 k p s (W _ e Χ) IU⟩
def as6(x:J):jf x x:=by
 cases x<;>first|exact trivial|exact rfl|exact aF.2 ⟨bm rfl,rfl⟩|exact aF.2 ⟨bm rfl,rfl,λ_ _=>rfl⟩
def as9{x:J}(h:cv x=false):iK x x:=by
 have a:=as6 x;have b:(!(cv x))=true:=by rw[h];rfl
 unfold iK
 split
 .exact h
 .trivial
 .cases h
 .exact aF.2 ⟨b,a⟩
def as_(x:J):iK x x:=by
 cases a:cv x with
 |false=>exact as9 a
 |true=>
  obtain⟨b,c,n,f,rfl⟩:=OM a;exact aF.2 ⟨by simp,rfl,λ_ _=>AQ _⟩
def TW: ∀(a:List J),uq a a
 |[]=>aF.2 ⟨rfl,trivial⟩
 |x::a=>⟨as_ x,TW a⟩
def yn:Heap->Heap->Heap
 |[],b=>b
 |x::a,y::b=>(match y with|[]=>x|z::c=>z::c)::yn a b
 |x::a,[]=>x::a
def ad_: ∀(H:Heap),Ce H H
 |[]=>aF.2 ⟨rfl,trivial⟩
 |x::a=>⟨TW x,ad_ a⟩
def aaR: ∀{xs cL:Heap},Cd xs cL->Ce xs (yn xs cL)/\xs.length<=(yn xs cL).length
 |[],cL,h=>⟨h,cd _⟩
 |x::xs,[],h=>⟨ad_ _,bH _⟩
 |x::xs,[]::cL,h=>by
  have⟨a,b⟩:=aaR (xs:=xs) (cL:=cL) h;exact⟨⟨TW x,a⟩,by simp [yn,b]⟩
 |x::xs,(z::c)::cL,h=>by
  have⟨a,b⟩:=aaR (xs:=xs) (cL:=cL) h.2;exact⟨⟨h.1,a⟩,by simp [yn,b]⟩
def amC: ∀{xs cL:Heap} (b:Nat),alive cL b=true-> ∀o,M cL b o=M (yn xs cL) b o
 |[],cL,b,h,o=>rfl
 |x::xs,[],b,h,o=>by simp [alive]at h
 |x::xs,y::cL,0,h,o=>by
  cases y with
  |nil=>simp [alive]at h
  |cons z a=>rfl
 |x::xs,y::cL,b+1,h,o=>by
  have:=amC (xs:=xs) (cL:=cL) b (by simpa[alive]using h) o;simpa[M,yn]using this
def tT.le{m:Nat}{st a:O}(h:tT st a)(f:iy m a=true):cB m st a:=by
 have⟨c,d⟩:=aaR h.2.1;have g:Fg st ⟨a.n,yn st.k a.k⟩:=⟨h.1,c,d⟩;exact g.le.trans (aBn h.2.2 (λb e o=>amC b e o) f)
end
section
variable {E:Env} {x y:Code} {Q:Exit->O->Prop} {st:O}
def WP.step(c:E.dU)(a:O)(p:Prop)(e:ny E x (iT (λs=>tT s a) Q) st=p)(h:p)(k:WP E y Q a)(d:iy E.m a=true:=by rfl):WP E (.seq x y) Q st:=
 WP.cut a ((WP.YI c (Eq.mpr e h)).mono λe s b=>by cases e<;>simp only[iT]at b |- <;>first|exact tT.le b d|exact b) k
def WP.join(a:O)(h:WP E x (iT (λs=>tT s a) Q) st)(k:WP E y Q a)(c:iy E.m a=true:=by rfl):WP E (.seq x y) Q st:=
 WP.cut a (h.mono λe s b=>by cases e<;>simp only[iT]at b |- <;>first|exact tT.le b c|exact b) k
def WP.aBR(h:WP E x (iT (λ_=>False) Q) st):WP E (.loop x) Q st:=
 WP.loop (α:=Unit) (λ_=>st) (λ_=>True) (λ_=>0) () trivial (cB.refl st) λ_ _=>h.mono λe s a=>by
  cases e<;>simp only[iT,Yb]at a |- <;>first|exact a.elim|exact a
def WP.FQ{c:Operand}(b:Bool)(a:aE st.n c= .bool b)(d:b=true->WP E x Q st)(e:b=false->WP E y Q st):WP E (.cond c x y) Q st:=WP.cond a d e
def WP.rW(p:Prop)(e:Q .ret st=p)(h:p):WP E .ret Q st:=WP.ret (Eq.mpr e h)
def WP.JK(p:Prop)(e:Q .normal st=p)(h:p):WP E .skip Q st:=WP.skip (Eq.mpr e h)
end
abbrev wj:=List J->Option (Option Prop×J)
structure ap4 (P:Program) (f:FuncId) (s:wj):Prop where
 yE:mN P f
 pure: ∀args pre r,s args=some (pre,r)->pj pre True->fR P f args r
def JM:List (Nat×wj)->Spec
 |[]=>λ_ _=>none
 |(g,s)::r=>λf aa=>match Nat.beq f g with
  |true=>match s aa with
   |some q=>some q
   |none=>JM r f aa
  |false=>JM r f aa
def Kx(P:Program):List (Nat×wj)->Prop
 |[]=>True
 |x::r=>ap4 P x.1 x.2/\Kx P r
def aaq{P:Program} : ∀{l:List (Nat×wj)},Kx P l->Spec.dU P (JM l)
 |[],_=>λf a c r h=>by cases h
 |(g,s)::l,b=>λf a c r h=>by
  simp only[JM]at h
  split at h
  .rename_i e;have:f=g:=ey e;subst this
   cases d:s a with
   |some q=>
    rw[d]at h
    cases h
    exact⟨b.1.yE,b.1.pure a c r d⟩
   |none=>
    rw[d]at h;exact aaq b.2 f a c r h
  .exact aaq b.2 f a c r h
abbrev BD:=List J->Heap->Option (Option Prop×List J×Heap)
structure apM (P:Program) (f:FuncId) (s:BD):Prop where
 yE:mN P f
 call: ∀args H pre rs H',s args H=some (pre,rs,H')->pj pre True->gn P f args H rs H'
def Iz:List (Nat×BD)->yy
 |[]=>λ_ _ _=>none
 |(g,s)::r=>λf aa H=>match Nat.beq f g with
  |true=>match s aa H with
   |some q=>some q
   |none=>Iz r f aa H
  |false=>Iz r f aa H
def RH(P:Program):List (Nat×BD)->Prop
 |[]=>True
 |x::r=>apM P x.1 x.2/\RH P r
def WV{P:Program} : ∀{l:List (Nat×BD)},RH P l->yy.dU P (Iz l)
 |[],_=>λf a H c rs H' h=>by cases h
 |(g,s)::l,b=>λf a H c rs H' h=>by
  simp only[Iz]at h
  split at h
  .rename_i e;have:f=g:=ey e;subst this
   cases d:s a H with
   |some q=>
    rw[d]at h
    cases h
    exact⟨b.1.yE,b.1.call a H c rs H' d⟩
   |none=>
    rw[d]at h;exact WV b.2 f a H c rs H' h
  .exact WV b.2 f a H c rs H' h
section
variable {E:Env} {S:ez} {ι:Nat->Option Nat} {st:O} {a:Act} {w:World}
def WO(E:Env)(st:O)(r:ResultVar)(K:J->Prop):Prop:=
 match r with
 | .tmp t=>K (st.n.getD t .undef)
 | .cell t T=>eb E T λa=>pg a st.k (st.n.getD t .undef) λav=>K av
def xS(E:Env)(st:O):List ResultVar->(List J->Prop)->Prop
 |[],K=>K []
 |x::r,K=>WO E st x λy=>xS E st r λa=>K (y::a)
def ahE(j:E.dU)(h:a2 S ι st a w): ∀(rs:List ResultVar) (K:List J->Prop),xS E st rs K-> ∃c d,K c/\bb (bA S ι st.k w) c d/\bb (rV E.P w a.tmps) rs d
 |[],K,b=>⟨[],[],b,trivial,trivial⟩
 |r::rs,K,b=>by
  have m: ∃y v,xS E st rs (λc=>K (y::c))/\bA S ι st.k w y v/\rV E.P w a.tmps r v:=by
   cases r with
   |tmp t=>exact⟨_,_,b,h.eval (.tmp t),rfl⟩
   |cell t T=>
    have⟨n,l,_,b⟩:=kR j b;have⟨p,av,u,e,f,g,i⟩:=O3 l h (h.eval (.tmp t)) b;refine⟨av,u,f,g,?_⟩;have k:a.tmps.getD t undef= .pointer (some p):=e;simp only[rV];rw[Sem.run_bind,k];simp [asAddr,i]
  obtain⟨y,v,b,e,f⟩:=m;have⟨c,d,b,g,i⟩:=ahE j h rs _ b;exact⟨y::c,v::d,b,⟨e,g⟩,f,i⟩
def Cf: ∀{a b:List J},qX a b->a.length=b.length
 |[],[],_=>rfl
 |[],_::_,h=>h.elim
 |_::_,[],h=>h.elim
 |x::a,y::b,h=>by
  have:qX a b:=by cases y<;>first|exact h|exact h.2
  simp [Cf this]
end
end Go.ag
namespace Go.ag
open Go Go.ChangeShapes Go.RowKit Go.WideShapes
def tiled(P:Program):List Field->Nat->Nat->Bool
 |[],a,b=>a==b
 |f::c,a,b=>f.offset==a&&tiled P c (a+P.cellsOf f.type) b
def tw(P:Program):Nat->TypeId->Bool
 |0,_=>false
 |n+1,t=>match P.underlying t with
  |some .bool=>true
  |some (.int _)=>true
  |some .string=>true
  |some (.slice e)=>tw P n e&&P.cellsOf e !=0
  |some (.struct a)=>tiled P a.toList 0 (P.cellsOf t)&&a.toList.all λf=>tw P n f.type
  |_=>false
def aag(c:TypeId->(List J->Prop)->Prop):List Field->(List J->Prop)->Prop
 |[],K=>K []
 |f::d,K=>c f.type λa=>aag c d λb=>K (a++b)
structure E9 {H:Type} (ka:DataW H->Nat):Prop where
 str: ∀l:List UInt8,l.length<=ka (.lit (.string l))
 len: ∀e r:List (DataW H),e.length<=ka (.slice e r)
 elem: ∀e r:List (DataW H),∀d∈e,ka d<=ka (.slice e r)
 part: ∀e:List (DataW H),∀d∈e,ka d<=ka (.agg e)
def mX(P:Program):Nat->TypeId->List J
 |0,_=>[]
 |n+1,t=>match P.underlying t with
  |some .bool=>[.bool false]
  |some (.int k)=>[.int k 0]
  |some .string=>[.str ε]
  |some (.slice e)=>[.arr (P.cellsOf e) 0 λ_=>mX P n e]
  |some (.struct a)=>a.toList.flatMap λf=>mX P n f.type
  |_=>[]
def lC(P:Program)(B:Nat):Nat->TypeId->(List J->Prop)->Prop
 |0,_,_=>False
 |n+1,t,K=>match P.underlying t with
  |some .bool=> ∀b,K [.bool b]
  |some (.int k)=> ∀x:Int,(Lit.int k x).wf=true->K [.int k x]
  |some .string=> ∀s:z,s.size<=B->K [.str s]
  |some (.slice e)=> ∀(m:Nat) (f:Nat->List J),m<=B->(∀i,m<=i->f i=mX P n e)->(∀i,i<m-> ∀a,lC P B n e a->a (f i))->K [.arr (P.cellsOf e) m f]
  |some (.struct c)=>aag (lC P B n) c.toList K
  |_=>False
section
variable {H:Type} {enc:TypeId×Value->H} {P:Program} {w:World} {base:Nat} {spare:Nat->Bool} {held:Bool} {B:Nat} {ka:DataW H->Nat}
theorem aqg{a:Addr}(h:a.spot=none)(i j:Nat):(a.add i).add j=⟨a.block,a.off+i+j,none⟩:=by
 obtain⟨b,o,s⟩:=a;simp only at h;subst h;unfold Addr.add
 by_cases c:i=0<;>by_cases d:j=0<;>simp [c,d,r7]
theorem aj9{n:Nat}(o: ∀(t:TypeId) (cs:List Value) (i:Nat) (x:DataW H×List MemPlace),tw P n t=true->ka x.1<=B->DataW.trod enc P w base spare held i t cs=some x->
   ∃d,bb (a6 w λy=>y<w.heap.size) d cs/\ ∀K,lC P B n t K->K d) {cs:List Value} : ∀(a:List Field) (c:Nat),tiled P a c cs.length=true->(a.all λf=>tw P n f.type)=true->
  (∀f∈a,∃i x,ka x.1<=B/\DataW.trod enc P w base spare held i f.type ((cs.drop f.offset).take (P.cellsOf f.type))=some x)->
  ∃d,bb (a6 w λy=>y<w.heap.size) d (cs.drop c)/\ ∀K,aag (lC P B n) a K->K d
 |[],c,e,_,_=>by
  have:c=cs.length:=by simpa[tiled]using e
  subst this;exact⟨[],by simp [bb],λK h=>h⟩
 |f::a,c,e,j,m=>by
  simp only[tiled,b2,gy]at e;simp only[Bv,b2]at j;have⟨i,x,v,A⟩:=m f Χ;have⟨k,l,q⟩:=o _ _ _ _ j.1 v A;have⟨p,r,s⟩:=aj9 o a (c+P.cellsOf f.type) e.2 j.2 (λg z=>m g (by simp [z]));rw[e.1]at l;refine⟨k++p,?_,λK u=>s (λb=>K (k++b)) (q _ u)⟩;have:=bb.append l r;rwa [<-ys,qz]at this
theorem YO(M:B<=dL)(C:E9 ka): ∀(n:Nat) (t:TypeId) (cs:List Value) (F:Nat) (x:DataW H×List MemPlace),tw P n t=true->ka x.1<=B->DataW.trod enc P w base spare held F t cs=some x->
  ∃p,bb (a6 w λy=>y<w.heap.size) p cs/\ ∀K,lC P B n t K->K p
 |0,t,cs,F,x,r,_,h=>by cases r
 |n+1,t,cs,F,x,r,N,h=>by
  unfold tw at r
  cases q:P.underlying t with
  |none=>rw[q]at r;cases r
  |some d=>
   rw[q]at r
   cases d<;>simp only at r<;>try exact Ζ
   case bool=>
    obtain⟨b,rfl,_⟩:=DataW.trod_bool q h;exact⟨[.bool b],⟨.bool b,trivial⟩,λK c=>by unfold lC at c;rw[q]at c;exact c b⟩
   case int k=>
    obtain⟨y,rfl,_,Ao⟩:=DataW.trod_int q h;exact⟨[.int k y],⟨.int k y,trivial⟩,λK c=>by unfold lC at c;rw[q]at c;exact c y Ao⟩
   case string=>
    obtain⟨s,rfl,rfl,_⟩:=DataW.trod_string q h;have V:s.size<=B:=by
     have:=C.str s.data.toList;rw[Array.length_toList]at this;exact ec this N
    exact⟨[.str s],⟨.str s (ec V M),trivial⟩,λK c=>by unfold lC at c;rw[q]at c;exact c s V⟩
   case slice e=>
    simp only[b2,bne_iff_ne]at r;rcases DataW.trod_slice q h with⟨rfl,_⟩|⟨a,u,Z,T,Y,m,_,rfl,rfl,jH,nV,hm,Wv,R,_,_⟩
    .exact⟨[.arr (P.cellsOf e) 0 λ_=>mX P n e],⟨.nil _ _,trivial⟩,λK c=>by unfold lC at c;rw[q]at c;exact c 0 _ (cd _) (λ_ _=>rfl) λi g=>absurd g Ω⟩
    .have A:u<=B:=by
      have:=C.len (T.map (·.1)) (Y.map (·.1));rw[List.length_map,Wv]at this;exact ec this N
     have X: ∀i,i<u-> ∃p l,bb (a6 w λy=>y<w.heap.size) p l/\(∀K,lC P B n e K->K p)/\l.length=P.cellsOf e/\ ∀j,j<P.cellsOf e->w.cell? ((a.add (i*P.cellsOf e)).add j)=l[j]? :=λi g=>by
      have z:=R i g;rw[cG Ω]at z
      cases I:w.cells? base (a.add (i*P.cellsOf e)) (P.cellsOf e)with
      |none=>rw[I]at z;cases z
      |some l=>
       rw[I]at z;have⟨p,Q,fG⟩:=YO M C n e l m _ r.1 (ec (C.elem (T.map (·.1)) (Y.map (·.1)) _ (List.mem_map_of_mem (mb _))) N) z;have⟨_,DK,N2⟩:=World.cells?_some I;exact⟨p,l,Q,fG,DK,N2⟩
     by_cases fv:u=0
     .subst fv;exact⟨[.arr (P.cellsOf e) 0 λ_=>mX P n e],⟨.mt _ _ _ _,trivial⟩,λK c=>by unfold lC at c;rw[q]at c;exact c 0 _ (cd _) (λ_ _=>rfl) λi g=>absurd g Ω⟩
     .have W:a.spot=none/\a.block<w.heap.size:=by
       have⟨_,l,_,_,A,I⟩:=X 0 Ω;have:=I 0 Ω;rw[cG Ω]at this;simp only[Nat.zero_mul,Addr.add,ma]at this;unfold World.cell? at this
       cases hh:w.heap[a.block]? with
       |none=>rw[hh]at this;cases this
       |some nn=>
        refine⟨?_,(tL.1 hh).1⟩;rw[hh]at this
        cases nn<;>simp only at this<;>try exact Ζ
        split at this
        .cases this
        .rename_i DW;simpa using DW
      obtain⟨b,o,s⟩:=a;simp only at W;obtain⟨rfl,awd⟩:=W;have S: ∀i,∃p:List J,i<u-> ∃l,bb (a6 w λy=>y<w.heap.size) p l/\(∀K,lC P B n e K->K p)/\l.length=P.cellsOf e/\ ∀j,j<P.cellsOf e->w.cell? ⟨b,o+i*P.cellsOf e+j,none⟩=l[j]? :=λi=>by
       by_cases g:i<u
       .obtain⟨p,l,v,kF,L,G⟩:=X i g;exact⟨p,λ_=>⟨l,v,kF,L,λj E=>by rw[<-G j E,aqg rfl]⟩⟩
       .exact⟨[],λh=>absurd h g⟩
      let f:Nat->List J:=λi=>if i<u then Classical.choose (S i)else mX P n e
      have awC: ∀i,i<u->f i=Classical.choose (S i):=λi g=>bg g;have D: ∀i,i<u-> ∃l,bb (a6 w λy=>y<w.heap.size) (f i) l/\(∀K,lC P B n e K->K (f i))/\l.length=P.cellsOf e/\ ∀j,j<P.cellsOf e->w.cell? ⟨b,o+i*P.cellsOf e+j,none⟩=l[j]? :=λi g=>by rw[awC i g];exact Classical.choose_spec (S i) g
      refine⟨[.arr (P.cellsOf e) u f],⟨.arr (P.cellsOf e) u f b o Z (λi j=>(f i).getD j .undef) (λi j=>(w.cell? ⟨b,o+i*P.cellsOf e+j,none⟩).getD undef) nV (ec A M) (λ_=>awd) ?_ ?_ ?_,trivial⟩,?_⟩
      .intro i j g E;have⟨l,v,_,L,_⟩:=D i g;have A:=v.length;rw[List.getD,cG Ω];rfl
      .intro i j g E;have⟨l,v,_,L,G⟩:=D i g;rw[G j E,cG Ω];rfl
      .intro i j g E;have⟨l,v,_,L,G⟩:=D i g;have A:=v.length;have⟨aL,mY,iJ⟩:=v.get j ((f i)[j]' Ω) (cG _);rw[G j E,mY,List.getD,cG Ω];exact iJ
      .intro K c;unfold lC at c;rw[q]at c;exact c u f A (λi g=>aW Ω) λi g=>(D i g).choose_spec.2.1
   case struct O=>
    simp only[b2]at r;obtain⟨xs,m,_,rfl,A,aI1,R⟩:=DataW.trod_struct q h;have⟨p,z,Q⟩:=aj9 (n:=n) (λt cs F x=>YO M C n t cs F x) (cs:=cs) O.toList 0 (by rw[A];exact r.1) r.2 λf D=>by
     have⟨i,g⟩:=l_ D;have U:O[i]? =some f:=by simpa using g
     have aIH:i<O.size:=(tL.1 U).1;have:=R i f U;rw[cG Ω]at this;exact⟨_,_,ec (C.part (xs.map (·.1)) _ (List.mem_map_of_mem (mb _))) N,this⟩
    exact⟨p,by simpa using z,λK c=>Q K (by unfold lC at c;rw[q]at c;exact c)⟩
def JR(P:Program)(t:TypeId)(cs:List J):J:=
 match P.underlying t with
 |some (.struct _)=> .agg cs
 |_=>cs.headD .undef
def Qq(P:Program)(B n:Nat):List TypeId->(List J->Prop)->Prop
 |[],K=>K []
 |t::c,K=>lC P B n t λa=>Qq P B n c λb=>K (JR P t a::b)
theorem aDC(u:B<=dL)(x:E9 ka){n:Nat}{r:Reach}{ch:Nat}{t:TypeId}{v:Value}{d:DataW H}{A:List MemPlace}(g:tw P n t=true)(j:Value.okWide P w r ch t v)(z:ka d<=B)(h:DataW.Trod enc P w base spare held t v d A):
  ∃f,gm w (λy=>y<w.heap.size) (JR P t f) v/\ ∀K,lC P B n t K->K f:=by
 obtain⟨p,h⟩:=h;have⟨f,c,q⟩:=YO u x n t _ p _ g z h;refine⟨f,?_,q⟩
 cases n with
 |zero=>cases g
 |succ n=>
  unfold tw at g;unfold JR
  cases i:P.underlying t with
  |none=>rw[i]at g;cases g
  |some d=>
   rw[i]at g
   cases d<;>simp only at g<;>try exact Ζ
   case struct C=>
    obtain⟨cs,rfl,_⟩:=okWide_struct i j;exact⟨cs.toList,by simp,by simpa[Value.cells]using c⟩
   case bool=>
    obtain⟨b,rfl⟩:=okWide_bool i j
    match f,c with
    |[av],c=>cases c.1<;>first|exact a6.bool b|exact a6.lit b
   case int k=>
    obtain⟨b,rfl⟩:=okWide_int i j
    match f,c with
    |[av],c=>cases c.1;exact a6.int k b
   case string=>
    obtain⟨b,rfl⟩:=okWide_string i j
    match f,c with
    |[av],c=>cases c.1;exact a6.str b Ψ
   case slice e=>
    obtain⟨a,o,l,rfl⟩:=okWide_slice i j
    match f,c with
    |[av],c=>
     have m:a6 w (λy=>y<w.heap.size) av (.slice a o l):=c.1;have s:gm w (λy=>y<w.heap.size) av (.slice a o l):=by
      cases av<;>first|exact m|(cases m;done)
     exact s
theorem aj8(g:B<=dL)(i:E9 ka){n:Nat}{r:Reach}{ch:Nat} : ∀(a:List TypeId) (c:List Value) (b:List (DataW H)) (m:List MemPlace),a.all (tw P n)=true->(∀(j:Nat) t v,a[j]? =some t->c[j]? =some v->Value.okWide P w r ch t v)->(∀d∈b,ka d<=B)->
  DataW.TrodAll enc P w base spare held a c b m-> ∃aa,bb (gm w λy=>y<w.heap.size) aa c/\(∀K,Qq P B n a K->K aa)/\b.length=a.length
 |[],[],[],_,_,_,_,_=>⟨[],trivial,λ_ h=>h,rfl⟩
 |t::a,v::c,d::b,m,e,l,k,h=>by
  obtain⟨p,q,u,x,_⟩:=h;simp only[Bv,b2]at e;have⟨f,z,A⟩:=aDC g i e.1 (l 0 t v rfl rfl) (k d Χ) u;have⟨aa,C,D,E⟩:=aj8 g i a c b q e.2 (λj L M I J=>l (j+1) L M (by simpa using I) (by simpa using J)) (λs G=>k s (by simp [G])) x;exact⟨JR P t f::aa,⟨z,C⟩,λK F=>D (λo=>K (JR P t f::o)) (A _ F),by simp [E]⟩
 |[],[],_::_,_,_,_,_,h=>h.elim
 |[],_::_,_,_,_,_,_,h=>by cases h
 |_::_,[],_,_,_,_,_,h=>by cases h
 |_::_,_::_,[],_,_,_,_,h=>by cases h
theorem alV(j:laidOutB P=true){W i:World}{m:Nat->Bool} : ∀(c:List TypeId) (g:List Value) (e:List (DataW H)) (b:List MemPlace),(c.all λt=>P.readableRec t&&decide (t<P.types.size))=true->
  DataW.TrodAll enc P W 0 (λ_=>true) true c g e b->(∀p∈b,W.sameAt i p)->(∀p∈b,m p.block=true)->DataW.TrodAll enc P i 0 m true c g e b
 |[],[],[],_,_,h,_,_=>h
 |t::c,v::g,d::e,b,f,h,k,l=>by
  obtain⟨p,q,n,o,rfl⟩:=h;simp only[Bv,b2,kS]at f;exact⟨p,q,WideElems.Trod_stays j f.1.1 f.1.2 n (λx a=>k x (by simp [a])) (λx a=>l x (by simp [a])),alV j c g e q f.2 o (λx a=>k x (by simp [a])) (λx a=>l x (by simp [a])),rfl⟩
 |[],[],_::_,_,_,h,_,_=>h.elim
 |[],_::_,_,_,_,h,_,_=>by cases h
 |_::_,[],_,_,_,h,_,_=>by cases h
 |_::_,_::_,[],_,_,h,_,_=>by cases h
theorem aEs{f:Func}{s:ChangeSpec}{l A C z:Bool}{W d:World}{i:Array Value}{v:Value}{e g:List (DataW H)}{before hC Ez:List MemPlace}
  (k:DataW.Whole enc P f.params.toList s.vars l W i.toList e g before)
  (w: ∀(b:Nat) (c:Nat->Bool) (D:Bool),DataW.TrodAll enc P d b c D f.resultTypes.toList (v.resultList f.resultTypes.size) (s.fn H (e++g)).results [])
  (m: ∀c:Nat->Bool,(∀p∈before,c p.block=true)->DataW.TrodAll enc P d 0 c true f.params.toList i.toList (s.fn H (e++g)).args hC)
  (x: ∀c:Nat->Bool,(∀p∈before,c p.block=true)->DataW.TrodVars enc P d c s.vars (s.fn H (e++g)).vars Ez)
  (h:before=hC++Ez) (n:Below W.heap.size W d)
  (F: ∀(j:Nat) (t:TypeId) (r:Value),f.resultTypes[j]? =some t->(v.resultList f.resultTypes.size)[j]? =some r->Value.okWide P d .any 0 t r):
  s.post enc P f l A C z W i v d:=by
 have q: ∀p∈before,p.block<W.heap.size:=λp a=>k.lt p a;have u: ∀p∈before,(λb=>decide (b<W.heap.size)) p.block=true:=λp a=>by simpa using q p a
 refine⟨e,g,before,[],hC,Ez,k,w _ _ _,m _ u,x _ u,World.keptBut_mono (λp a=>⟨a,?_⟩) (n.frame (· ∈before)),λ_=> ?_⟩
 .rw[h,fj]at a;exact Or.inr a
 .obtain⟨_,_,_,_,_,G,E⟩:=k;refine⟨F,_,_,([]++hC)++Ez,⟨[]++hC,Ez,trodAll_append (m _ (λ_ _=>rfl)) (w _ _ _),x _ (λ_ _=>rfl),rfl,?_,?_⟩,?_⟩
  .intro b y a;have o:MemPlace.cell b y∈before:=by rw[h];simpa using a
   rw[n.frozen (q _ o)];exact G b y o
  .intro B;have:=E B;rw[h]at this;simpa using this
  .intro p a _;rw[h];simpa using a
theorem aBk(Q:B<=dL)(T:E9 ka){f:FuncId}{fn:Func}{s:ChangeSpec}{r M S L:Bool}{n gJ:Nat}{bp:List TypeId}(l:fn.params.toList=bp)
  (X:laidOutB P=true) (Z:(bp.all (tw P n))=true) (axe:(bp.all λt=>P.readableRec t&&decide (t<P.types.size))=true)
  (G:fn.resultTypes= #[gJ]) (F:P.underlying gJ=some .bool) (J:s.vars=[])
  (k: ∀a:List (DataW H),a.length=bp.length->s.fn H a={results:=[.lit (.bool true)],args:=a})
  (WN:Qq P B n bp λaa=>fR P f aa (.bool true)):
  ∀(W:World) (base:Nat) (args:Array Value) (a w:List (DataW H)) (u:List MemPlace),
   (∀(j:Nat) t v,fn.params[j]? =some t->args[j]? =some v->Value.okWide P W .any base t v)->
   DataW.Whole enc P fn.params.toList s.vars r W args.toList a w u->(∀d∈a,ka d<=B)->Fb W (λy=>y<W.heap.size)->
   Calls P f args W λe c=> ∃v,e= .returned v/\s.post enc P fn r M S L W args v c:=by
 intro W base args a w u axv C U R;have D:=C;obtain⟨p,q,h,A,rfl,aID,Iv⟩:=C;rw[J]at A;obtain⟨rfl,rfl⟩:=trodVars_none A;rw[l]at h;have⟨aa,N,O,g⟩:=aj8 Q T bp args.toList a p Z (λj t v I m=>axv j t v (by rw[<-l]at I;simpa using I) (by simpa using m)) U h;have z:=O _ WN W (λy=>y<W.heap.size) args.toList R N;rw[show args.toList.toArray=args by simp]at z;refine z.mono λe c ⟨v,V,i,E⟩=> ?_;refine⟨v,V,?_⟩;have m:v= .bool true:=by
  have i:a6 c _ (.bool true) v:=i
  cases i;rfl
 subst m;have Y:=D.lt;refine aEs (hC:=p) (Ez:=[]) D (λb K eh=> ?_) (λK DW=> ?_) (λK _=> ?_) rfl E (ok_one G rfl (okWide_bool_mk F true))
 .rw[G,iE,k a g];exact⟨[],[],shut_bool F true,rfl,rfl⟩
 .rw[iE,k a g,l];refine alV X bp args.toList a p axe h (λx o=>E.same (Y x (by simp [o]))) λx o=>DW x (by simp [o])
 .rw[J,iE,k a g];rfl
end
end Go.ag
namespace Go.ag
open Go Go.RowKit
structure I (α:Type) where
 n:Nat
 at':Nat->α
instance{α:Type}[Inhabited α]:Inhabited (I α):=⟨⟨0,λ_=>default⟩⟩
def aV{α:Type}(a:Nat)(enc:α->List J)(s:I α):J:= .arr a s.n λi=>enc (s.at' i)
inductive gP:J->Prop
 |int (k:IntKind) (n:Int):gP (.int k n)
 |bool (b:Bool):gP (.bool b)
 |lit (b:Bool):gP (.lit b)
 |str (s:ByteArray) (h:s.size<=dL):gP (.str s)
 |aH:gP .aH
 |kn:gP .kn
 |kX (af n:Nat) (f:Nat->List J):gP (.kX af n f)
 |arr (af n:Nat) (f:Nat->List J) (h:n<=dL) (g:Nat->Nat->J) (fw: ∀i j,i<n->j<af->(f i)[j]? =some (g i j)) (hU: ∀i j,i<n->j<af->gP (g i j)):gP (.arr af n f)
 |ref (cs:List J):gP (.ref cs)
 |fn (f:FuncId) (kb:List J):gP (.fn f kb)
def a6.oz{w:World}{F:Nat->Prop}{av:J}{v:Value}(h:a6 w F av v):gP av:=by
 induction h with
 |int k n=>exact .int k n
 |bool b=>exact .bool b
 |lit b=>exact .lit b
 |str s l=>exact .str s l
 |aH=>exact .aH
 |kn=>exact .kn
 |kX e n f=>exact .kX e n f
 |nil e f=>exact .arr e 0 f (cd _) (λ_ _=> .undef) (λi j d=>absurd d (dJ _)) (λi j d=>absurd d (dJ _))
 |mt e f a c=>exact .arr e 0 f (cd _) (λ_ _=> .undef) (λi j d=>absurd d (dJ _)) (λi j d=>absurd d (dJ _))
 |arr e n f b o c g y x l u p r t q=>exact .arr e n f l g p q
 |ref cs=>exact .ref cs
 |fn f m=>exact .fn f m
def Ly:List J->Prop
 |[]=>True
 |x::a=>gP x/\Ly a
def aeb:J->Prop
 | .agg cs=>Ly cs
 |x=>gP x
def Lx:List J->Prop
 |[]=>True
 |x::a=>aeb x/\Lx a
def aee{w:World}{F:Nat->Prop} : ∀{cs:List J} {a:List Value},bb (a6 w F) cs a->Ly cs
 |[],[],_=>trivial
 |_::_,_::_,h=>⟨h.1.oz,aee h.2⟩
 |[],_::_,h=>h.elim
 |_::_,[],h=>h.elim
def atf{w:World}{F:Nat->Prop}{x:J}{v:Value}(h:gm w F x v):aeb x:=by
 cases x
 case agg cs=>obtain⟨a,_,h⟩:=h;exact aee h
 case undef=>exact h.elim
 all_goals exact a6.oz h
def aec{w:World}{F:Nat->Prop} : ∀{a:List J} {b:List Value},bb (gm w F) a b->Lx a
 |[],[],_=>trivial
 |_::_,_::_,h=>⟨atf h.1,aec h.2⟩
 |[],_::_,h=>h.elim
 |_::_,[],h=>h.elim
def fR.oz{P:Program}{f:FuncId}{a:List J}{r:J}(h:Lx a->fR P f a r):fR P f a r:=λw F d c b=>h (aec b) w F d c b
def gP.len{α:Type}{a:Nat}{enc:α->List J}{s:I α}(h:gP (aV a enc s)):s.n<=dL:=by
 unfold aV at h
 cases h;assumption
def gP.at{α:Type}{c:Nat}{enc:α->List J}{s:I α}(h:gP (aV c enc s)){i j:Nat}{x:J}(a:i<s.n)(b:j<c)(f:(enc (s.at' i))[j]? =some x):gP x:=by
 unfold aV at h
 cases h with
 |arr _ _ _ _ g d e=>
  have:=d i j a b;rw[f]at this
  cases this
  exact e i j a b
def gP.size{s:ByteArray}(h:gP (.str s)):s.size<=dL:=by cases h;assumption
def fR.ami{P:Program}{f:FuncId}{b k:List J}{r:J}(h:fR P f k r)(a:bb lD b k):fR P f b r:=λw F p n e=>
 h w F p n (bb.mk (a.length.symm.trans e.length) λi y v j o=>by
   have g:i<b.length:=by rw[a.length];exact(hk.1 j).1
   have⟨s,c,l⟩:=a.get i _ (cG g);rw[j]at c;cases c;have⟨q,d,m⟩:=e.get i _ (cG g);rw[o]at d;cases d;exact l.rel m)
def vq(a:Nat):J->Bool
 | .arr s _ _=>Nat.beq s a
 | .aH=>true
 |_=>false
def jl{α:Type}[Inhabited α](dec:List J->α):J->I α
 | .arr _ n f=>⟨n,λi=>dec (f i)⟩
 |_=>⟨0,λ_=>default⟩
def aj2{α:Type}(enc:α->List J)(dec:List J->α):J->Prop
 | .arr _ n f=> ∀i,i<n->f i=enc (dec (f i))
 |_=>True
def aFJ{α:Type}[Inhabited α]{b:Nat}{enc:α->List J}{dec:List J->α}{x:J}(a:vq b x=true)(c:aj2 enc dec x):hN x (aV b enc (jl dec x)):=by
 cases x<;>simp only[vq]at a<;>first|(cases a;done)|skip
 .exact rfl
 .exact⟨ey a,rfl,c⟩
def B{α:Type}[Inhabited α]:I α:=⟨0,λ_=>default⟩
def aFK{α:Type}[Inhabited α]{b:Nat}{enc:α->List J}{dec:List J->α}{x:J}(a:vq b x=true)(c:aj2 enc dec x):lD x (aV b enc (jl dec x)):=by
 have h:=aFJ a c
 cases x<;>simp only[vq]at a<;>first|(cases a;done)|exact h
def XT{α β:Type}{R:α->β->Prop} :bb R [] []:=trivial
def iQ{α β:Type}{R:α->β->Prop}{a:α}{b:β}{l:List α}{m:List β}(h:R a b)(t:bb R l m):bb R (a::l) (b::m):=⟨h,t⟩
def wrap64{x:Int}(a: -9223372036854775808<=x)(b:x<=9223372036854775807):i64 x=x:=by
 rw[IntKind.wrap_i64];omega
def _root_.Go.E(x:Int)(a: -9223372036854775808<=x:=by omega)(b:x<=9223372036854775807:=by omega):i64 x=x:=wrap64 a b
end Go.ag
namespace Go.Proofs.YtcpfnfkibnjcfaaGreatDoor
open Go Go.RowKit Go.ag
def S7{H:Type}{d:DataW H}{l:List (DataW H)}(h:d∈l):Rows.uptoBulk d<=Rows.uptoBulkAll l:=by
 induction l with
 |nil=>cases h
 |cons x r a=>
  simp only[Rows.uptoBulkAll]
  cases ih.1 h with
  |inl e=>subst e;omega
  |inr e=>have:=a e;omega
def aqO{H:Type}(d:DataW H):1<=Rows.uptoBulk d:=by
 cases d with
 |lit l=>cases l<;>simp [Rows.uptoBulk]
 |nil=>simp [Rows.uptoBulk]
 |ptr d=>simp [Rows.uptoBulk]
 |slice a spare=>simp [Rows.uptoBulk]
 |agg c=>simp [Rows.uptoBulk]
 |iface t d=>simp [Rows.uptoBulk]
 |map b=>simp [Rows.uptoBulk]
 |held h=>simp [Rows.uptoBulk]
def aqM{H:Type}(l:List (DataW H)):l.length<=Rows.uptoBulkAll l:=by
 induction l with
 |nil=>simp [Rows.uptoBulkAll]
 |cons x r a=>have:=aqO x;simp only[Rows.uptoBulkAll,dE];omega
def aqN(H:Type):E9 (Rows.uptoBulk (H:=H)):=by
 refine⟨λl=> ?_,λe r=> ?_,λe r d a=> ?_,λe d a=> ?_⟩
 .simp [Rows.uptoBulk]
 .have:=aqM e;simp only[Rows.uptoBulk];omega
 .have:=S7 a;simp only[Rows.uptoBulk];omega
 .have:=S7 a;simp only[Rows.uptoBulk];omega
def aqP{H:Type}{l:List (DataW H)}(b:Rows.uptoSmall H l=true): ∀d∈l,Rows.uptoBulk d<=1048576:=λd a=>by
 have h:Rows.uptoBulkAll l<=1048576:=al b;have:=S7 a;omega
end Go.Proofs.YtcpfnfkibnjcfaaGreatDoor
namespace Go.ag
open Go Go.RowKit
section
variable {S:ez} {ι:Nat->Option Nat} {st:O} {a:Act} {w:World}
def a2.akM(h:a2 S ι st a w){b o:Nat}{av:J}(s:M st.k b o≠ .undef)(j:cv (M st.k b o)=false)(E:av≠ .undef)(A:cv av=false)
  (I: ∀v,cu ι st.k w (aX S ι st.k w) (M st.k b o) v->cu ι st.k w (aX S ι st.k w) av v):a2 S ι ⟨st.n,bM st.k b o av⟩ a w:=by
 have i: ∀b' c,M (bM st.k b o av) b' c=if b'=b/\c=o then av else M st.k b' c:=λb' c=>fo _ _ _ _ _ _
 have r:=(h.k b o).aCU s j;have l: ∀b',cv (M (bM st.k b o av) b' 0)=cv (M st.k b' 0):=λb'=>by
  rw[i]
  by_cases e:b'=b/\0=o
  .rw[bg e,A,e.1,r]
  .rw[aW e]
 have m:eS ι st.k w (aX S ι st.k w) ι (bM st.k b o av) w (aX S ι (bM st.k b o av) w):=by
  refine⟨λy ⟨p,q,B⟩=>⟨p,q,λb' F=>B b' ?_⟩,λ_ _ _=>rfl,λb' z L k=>⟨L,by rw[l];exact k⟩,λb' U V n f k=> ?_⟩
  .rcases F with⟨d,g⟩|⟨d,c,g⟩
   .rw[l]at d;refine .inl ⟨d,?_⟩;rw[i]at g
    by_cases e:b'=b/\0=o
    .rw[bg e]at g;rw[e.1,r]at d;cases d
    .rw[aW e]at g;exact g
   .rw[l]at d;rw[i]at g
    by_cases e:b'=b/\c=o
    .refine .inr ⟨d,o,?_⟩;rw[e.1];exact amn s j
    .rw[aW e]at g;exact .inr ⟨d,c,g⟩
  .have e: ¬(b'=b/\0=o):=λe=>by rw[e.1,e.2]at k;rw[k]at j;cases j
   exact⟨U,_,n,f,by rw[i,aW e];exact k,bH _,λ_=>⟨rfl,rfl,λx C T _ D=>⟨C,D,rfl⟩⟩⟩
 refine⟨h.below,h.defers,λt u H=> ?_,λb' c=> ?_,h.inj,h.fresh,λb' y K=>hj (h.hn _ _ K) (nj _ _ _ _).1,h.hs.trans m⟩
 .obtain⟨v,p,q⟩:=h.n t u H;exact⟨v,p,q.step m⟩
 .show fC _ _ _ _ _ _ (M (bM st.k b o av) b' c);rw[i]
  by_cases e:b'=b/\c=o
  .obtain⟨rfl,rfl⟩:=e;rw[bg ⟨rfl,rfl⟩];have⟨x,v,N,O,P,Q⟩:=(h.k b' c).box s j;have R:=(I v Q).step m;have G:cv (M (bM st.k b' c av) b' 0)=false:=by rw[l];exact r
   cases av<;>first|exact absurd rfl E|(cases A;done)|exact⟨G,x,v,N,O,P,R⟩
  .rw[aW e];exact(h.k b' c).step m (λ_=>rfl) (λ_ _ _=>⟨rfl,rfl⟩) (λ_=>⟨rfl,λ_ _=>rfl⟩)
def ajQ{H:Heap}{F:Nat->Prop}{v:Value}(h:cu ι H w F .aH v):v= .slice none 0 0:=by
 have a:a6 w F .aH v:=h
 cases a;rfl
end
section
variable {α:Type}
def I.app(s t:I α):I α:=⟨s.n+t.n,λi=>bif Nat.blt i s.n then s.at' i else t.at' (i-s.n)⟩
def I.lit[Inhabited α](l:List α):I α:=⟨l.length,λi=>l.getD i default⟩
def I.part(s:I α)(l h:Int):I α:=⟨(h-l).toNat,λi=>s.at' (l.toNat+i)⟩
def I.ofStr(s:z):I Int:=⟨s.size,λi=>((s.data.toList.getD i 0).toNat:Int)⟩
def I.toStr(s:I Int):z:=bytesOf s.n λi=>[.int .u8 (s.at' i)]
def I.qN(s t:I α):(s.app t).n=s.n+t.n:=rfl
def I.n1[Inhabited α](l:List α):(I.lit l).n=l.length:=rfl
def I.vM(s:I α)(l h:Int):(s.part l h).n=(h-l).toNat:=rfl
def Ek[Inhabited α]:(B:I α).n=0:=rfl
def ach{e:α->List J}{s t:I α}{n m:Nat}{f g:Nat->List J}(j:n=s.n)(d:m=t.n)(b: ∀i,i<n->f i=e (s.at' i))(c: ∀i,i<m->g i=e (t.at' i)): ∀i,i<n+m->iH n f g i=e ((s.app t).at' i):=λi k=>by
 subst j d;simp only[iH,I.app]
 cases h:Nat.blt i s.n with
 |true=>exact b i (hH h)
 |false=>
  refine c _ ?_;have: ¬i<s.n:=λa=>by rw[show Nat.blt i s.n=true by rw[jL];exact a]at h;cases h
  omega
def aBM[Inhabited α](e:α->List J)(l:List α): ∀i,i<l.length->(l.map e).getD i []=e ((I.lit l).at' i):=λi a=>by
 simp only[I.lit,List.getD,hJ,cG a,tM,mM]
end
section
variable {S:ez} {ι:Nat->Option Nat} {st:O} {a:Act} {w:World}
def rY(H:Heap)(b a5:Nat)(x:J):Heap:=bM (bM H b 0 dP) a5 0 x
def a2.Qz(h:a2 S ι st a w){w':World}{b a5 x s n n' c:Nat}{f gD:Nat->List J}{C lv:Array Value}{T:TypeId}
  (H:M st.k b 0= .ad false s n f) (B:ι b=some x) (lg:w.heap[x]? =some (.cells C T (0,0)))
  (aw9:w'.os=w.os) (axo:w'.tape=w.tape) (aw_:w'.output=w.output) (pd:w'.heap.size=w.heap.size) (O: ∀k,k≠x->w'.heap[k]? =w.heap[k]?)
  (Z:w'.heap[x]? =some (.cells lv T (0,0))) (l0:lv.size=c*s) (kK:n'<=dL) (Im:n'<=c)
  (dq: ∀i j,i<n'->j<s-> ∃av u,(gD i)[j]? =some av/\lv[i*s+j]? =some u/\a6 w (aX S ι st.k w) av u)
  (U:(a5=b/\(n<n'\/(n=n'/\lv.size=C.size)))\/(a5≠b/\(∀o,M st.k a5 o= .undef)/\ι a5=none)):
  ∃aC,a2 S aC ⟨st.n,rY st.k b a5 (.ad false s n' gD)⟩ a w'/\cu aC (rY st.k b a5 (.ad false s n' gD)) w' (aX S aC (rY st.k b a5 (.ad false s n' gD)) w') (.own a5 n') (.slice (some ⟨x,0,none⟩) n' c):=by
 have ahu:n<=dL:=by
  have v:=h.k b 0;rw[H]at v;rcases v.2 with eh|eh
  .cases eh.1
  .exact eh.1
 generalize W:rY st.k b a5 (.ad false s n' gD)=H';have N:M H' a5 0= .ad false s n' gD:=by rw[<-W];unfold rY;rw[fo,bg ⟨rfl,rfl⟩]
 have agO:a5≠b->M H' b 0=dP:=λe=>by rw[<-W];unfold rY;rw[fo,aW (λg=>e g.1.symm),fo,bg ⟨rfl,rfl⟩]
 have F: ∀k o,(k≠b/\k≠a5)\/o≠0->M H' k o=M st.k k o:=λk o g=>by
  rw[<-W];unfold rY;rw[fo,aW (λe=>g.elim (λg=>g.2 e.1) λg=>g e.2),fo,aW (λe=>g.elim (λg=>g.1 e.1) λg=>g e.2)]
 have hlen:st.k.length<=H'.length/\a5<H'.length:=by
  rw[<-W];unfold rY;exact⟨ec (x1 _ _ _ _).1 (x1 _ _ _ _).1,(x1 _ _ _ _).2⟩
 have ag7: ∀o,o≠0->M st.k b o= .undef:=λo eV=>by
  have v:=h.k b o
  cases e:M st.k b o<;>rw[e]at v<;>first|rfl|(have:=v.1;rw[H]at this;cases this;done)|exact absurd v.1 eV
 have av_: ∀o,o≠0->M st.k a5 o= .undef:=λo eV=>by
  rcases U with⟨e,_⟩|⟨_,e,_⟩
  .rw[e];exact ag7 o eV
  .exact e o
 let aC:Nat->Option Nat:=λk=>if k=a5 then some x else if k=b then none else ι k
 have Y:aC a5=some x:=bg rfl;have ahR:a5≠b->aC b=none:=λe=>by simp only[aC];rw[aW (λg=>e g.symm)];simp
 have P: ∀k,k≠b->k≠a5->aC k=ι k:=λk jS N=>by simp only[aC];rw[aW N,aW jS]
 have Q: ∀k y,aC k=some y->(k=a5/\y=x)\/(k≠b/\k≠a5/\ι k=some y):=λk y d=>by
  by_cases m:k=a5
  .subst m;rw[Y]at d;cases d;exact .inl ⟨rfl,rfl⟩
  .by_cases l:k=b
   .rw[l,ahR (λg=>m (by rw[g,l]))]at d;cases d
   .rw[P k l m]at d;exact .inr ⟨l,m,d⟩
 have Iy:n8 st.k b:= .inl ⟨by rw[H];rfl,by rw[H];rfl⟩;have I: ∀k y,ι k=some y->k≠b->y≠x:=λk y d kl e=>kl (h.inj _ _ _ d (by rw[e];exact B));have Ah: ∀y p,y≠x->w'.cell? ⟨y,p,none⟩=w.cell? ⟨y,p,none⟩:=λy p d=>World.cell?_of_block (O y d);have o9: ∀y,aX S ι st.k w y->aX S aC H' w' y:=λy ⟨q1,R,L⟩=>⟨q1,by rw[pd];exact R,λk v d=>by
  rcases Q k y d with⟨rfl,rfl⟩|⟨l,m,d⟩
  .exact L b Iy B
  .exact L k (pr (λo=>F k o (.inl ⟨l,m⟩)) v) d⟩
 have X:eS ι st.k w (aX S ι st.k w) aC H' w' (aX S aC H' w'):=by
  refine⟨o9,λy o ⟨_,_,L⟩=>Ah y o λe=>L b Iy (by rw[e];exact B),λk mS iw r=> ?_,λk JE nr AN f0 r=> ?_⟩
  .have l:k≠b:=λe=>by rw[e,H]at r;cases r
   have m:k≠a5:=λe=>by
    rcases U with⟨z,_⟩|⟨_,_,z⟩
    .exact l (e.trans z)
    .rw[e,z]at iw;cases iw
   exact⟨by rw[P k l m];exact iw,by rw[F k 0 (.inl ⟨l,m⟩)];exact r⟩
  .by_cases l:k=b
   .subst l;rw[H]at r;cases r;rcases U with⟨e,ht⟩|⟨e,_,_⟩
    .subst e;refine⟨false,_,n',gD,N,by rcases ht with h|⟨h,_⟩<;>omega,λe=> ?_⟩;rcases ht with ht|⟨_,axn⟩
     .omega
     .refine⟨rfl,by rw[Y,B],λy D mh d V=> ?_⟩;rw[B]at d;cases d;rw[lg]at V;cases V;exact⟨lv,Z,axn⟩
    .exact⟨true,0,dL+1,λ_=>[],agO e,Ω,λe=>by omega⟩
   .have m:k≠a5:=λe=>by
     rcases U with⟨z,_⟩|⟨_,z,_⟩
     .exact l (e.trans z)
     .rw[e,z]at r;cases r
    refine⟨JE,nr,AN,f0,by rw[F k 0 (.inl ⟨l,m⟩)];exact r,bH _,λ_=>⟨rfl,P k l m,λy D mh d V=>⟨D,?_,rfl⟩⟩⟩;rw[O y (I _ _ d l)];exact V
 refine⟨aC,⟨h.below.then ⟨aw9,axo,aw_,by rw[pd];exact bH _,λk r gT=>O k λe=> ?_⟩,h.defers,λt av jI=> ?_,λk o=> ?_,λix gF y fw fG=> ?_,λk y d=> ?_,λk y d=> ?_,h.hs.trans X⟩,rfl,false,s,n',gD,N,bH _,λ_=> .inl ⟨x,c,lv,T,Y,rfl,Im,Z,l0⟩⟩
 .rcases(h.fresh b x B).1 with g|g
  .omega
  .exact gT (by rw[e];exact g)
 .obtain⟨jb,q1,R⟩:=h.n t av jI;exact⟨jb,q1,R.step X⟩
 .show fC aC H' w' (aX S aC H' w') k o (M H' k o)
  by_cases m:k=a5
  .subst m
   by_cases A:o=0
   .subst A;rw[N];refine⟨rfl,.inr ⟨kK,.inr ⟨x,lv,T,Y,Z,λi j g5 ia=> ?_⟩⟩⟩;have⟨av,u,q1,R,L⟩:=dq i j g5 ia;exact⟨av,u,q1,R,L.mono o9 X.cell⟩
   .rw[F k o (.inr A),av_ o A];trivial
  .by_cases l:k=b
   .subst l
    by_cases A:o=0
    .subst A;rw[agO (λg=>m g.symm)];exact⟨rfl,.inl ⟨rfl,rfl,ahR (λg=>m g.symm)⟩⟩
    .rw[F k o (.inr A),ag7 o A];trivial
   .rw[F k o (.inl ⟨l,m⟩)];exact(h.k k o).step X (λ_=>P k l m) (λy d _=>⟨Ah y o (I _ _ d l),World.frozen?_of_block (O y (I _ _ d l))⟩) (λ_=>⟨P k l m,λy d=>O y (I _ _ d l)⟩)
 .rcases Q ix y fw with⟨rfl,rfl⟩|⟨aL,aO,E⟩<;>rcases Q gF y fG with⟨rfl,q⟩|⟨K,G,hA⟩
  .rfl
  .exact absurd rfl (I _ _ hA K)
  .subst q;exact absurd rfl (I _ _ E aL)
  .exact h.inj ix gF y E hA
 .rw[pd];rcases Q k y d with⟨rfl,rfl⟩|⟨aL,aO,E⟩
  .exact h.fresh b _ B
  .exact h.fresh k y E
 .rcases Q k y d with⟨rfl,rfl⟩|⟨aL,aO,E⟩
  .exact hlen.2
  .exact hj (h.hn k y E) hlen.1
end
def BR{w:World}{x:Nat}{C:Array Value}{T:TypeId}{z:Nat×Nat}(h:w.heap[x]? =some (.cells C T z))(o:Nat):w.cell? ⟨x,o,none⟩=C[o]? :=by
 simp [World.cell?,h]
def F6{w:World}{x:Nat}{C:Array Value}{T:TypeId}(h:w.heap[x]? =some (.cells C T (0,0)))(o:Nat):w.frozen? ⟨x,o,none⟩=false:=by
 simp [World.frozen?,h]
def a2.Jt{S:ez}{ι:Nat->Option Nat}{st:O}{a:Act}{w:World}(h:a2 S ι st a w){b n af:Nat}{g:Nat->List J}{v:Value}(o:M st.k b 0= .ad false af n g)(e:eY S ι st.k w (.own b n) v):
  n<=dL/\((∃x c C T,ι b=some x/\v= .slice (some ⟨x,0,none⟩) n c/\n<=c/\w.heap[x]? =some (.cells C T (0,0))/\C.size=c*af/\ ∀i j,i<n->j<af-> ∃av u,(g i)[j]? =some av/\C[i*af+j]? =some u/\a6 w (aX S ι st.k w) av u)\/
   (n=0/\ι b=none/\v= .slice none 0 0)):=by
 obtain⟨_,H,I,G,F,k,_,r⟩:=e;rw[o]at k;cases k;have d:=h.k b 0;rw[o]at d;obtain⟨_,z|⟨t,d⟩⟩:=d
 .cases z.1
 refine⟨t,?_⟩;rcases r rfl with⟨x,c,C,T,f,e,B,l,s⟩|⟨q,A,e⟩
 .rcases d with d|⟨K,D,E,p,m,y⟩
  .rw[f]at d;cases d.2
  .rw[f]at p;cases p;rw[l]at m;cases m;exact .inl ⟨x,c,C,T,f,e,B,l,s,y⟩
 .exact .inr ⟨q,A,e⟩
def a6.YM{w:World}{F:Nat->Prop}{av:J}{v:Value}(h:a6 w F av v):v.oneCell'=true:=aj7 h.one
def nY{i j af n:Nat}(a:i<n)(b:j<af):i*af+j<n*af:=by
 have:(i+1)*af<=n*af:=h4 af a;rw[jK]at this;omega
end Go.ag
namespace Go.ag
open Go Go.Proofs Go.RowKit Go.Shelf
section
variable {P:Program}
def yR(g:Nat->List J)(i j t:Nat):List J:=bif Nat.blt t i then g t else g (t+(j-i))
def QX(P:Program)(f:FuncId)(k:Nat)(z:Value):Prop:= ∀(a d n i j:Nat) (w:World) (b c:List Value) (_:(Builtin.zeroCells z.cells (j-i)).toList=c) (_:c.length=(j-i)*k) (_: ∀v∈c,v.oneCell'=true)
    (_:b.length=(n-j)*k) (_: ∀v∈b,v.oneCell'=true) (_: ∀t u,b[t]? =some u->w.cell? ⟨a,j*k+t,none⟩=some u)
    (_: ∀t,t<n*k->(w.cell? ⟨a,t,none⟩).isSome=true) (_: ∀t,w.frozen? ⟨a,t,none⟩=false)
    (_:n<=d) (_:i<j) (_:j<=n),
    Calls P f #[.slice (some ⟨a,0,none⟩) n d,.int .i64 i,.int .i64 j] w λe w'=>e= .returned (.slice (some ⟨a,0,none⟩) (n- (j-i)) d)/\w'=(w.drew.setCells a (i*k) b).setCells a ((i+(n-j))*k) c
def arW{f:FuncId}{af:Nat}{z:Value}(qk:QX P f af z)(iw: ∀m,(Builtin.zeroCells z.cells m).toList.length=m*af/\ ∀v∈(Builtin.zeroCells z.cells m).toList,v.oneCell'=true)(n i j:Nat)(g:Nat->List J)(vk:i<j)(ia:j<=n):
  gn P f [.own 0 n,.int .i64 i,.int .i64 j] [[.ad false af n g]] [.own 1 (n- (j-i))] [[dP],[.ad false af (n- (j-i)) (yR g i j)]]:=by
 intro S ι w cQ vh Aj r
 match cQ,Aj with
 |[v0,v1,v2],_=>
 have⟨_,V,hD⟩:=r.n 0 _ rfl;have⟨_,q1,cX⟩:=r.n 1 _ rfl;have⟨_,W,ct⟩:=r.n 2 _ rfl;simp only[wc,List.getElem?_cons_zero,List.getElem?_cons_succ,hI]at V q1 W;subst V q1 W;have cX:v1= .int .i64 i:=by
  have:a6 w (aX S ι [[.ad false af n g]] w) (.int .i64 i) v1:=cX
  cases this;rfl
 have ct:v2= .int .i64 j:=by
  have:a6 w (aX S ι [[.ad false af n g]] w) (.int .i64 j) v2:=ct
  cases this;rfl
 subst cX ct;obtain⟨kK,⟨x,c,C,T,l2,rfl,K,A,H,G⟩|⟨fv,_⟩⟩:=r.Jt (b:=0) (g:=g) (af:=af) rfl hD
 case inr=>omega
 have aw4:n*af<=C.size:=by rw[H];exact h4 af K
 have aIK:j*af+(n-j)*af=n*af:=by rw[<-ig];congr 1;omega
 have O: ∀t,t<n*af-> ∃u,C[t]? =some u/\u.oneCell'=true:=λt a=>by
  have R:0<af:=by
   rcases yr af with e|e
   .rw[e]at a;omega
   .exact e
  have B:t/af<n:=(Nat.div_lt_iff_lt_mul R).2 a;have⟨av,u,_,o,E⟩:=G (t/af) (t%af) B (Nat.mod_lt _ R);rw[wh,Nat.div_add_mod]at o;exact⟨u,o,E.YM⟩
 let d:List Value:=(C.toList.drop (j*af)).take ((n-j)*af);have N:d.length=(n-j)*af:=by simp only[d,jr,r_,Array.length_toList];omega
 have L: ∀t u,d[t]? =some u->C[j*af+t]? =some u/\t<(n-j)*af:=λt u s=>by
  have a:t<d.length:=(hk.1 s).1;rw[N]at a;simp only[d]at s;rw[Bs a,qA,QM]at s;exact⟨s,a⟩
 have aw3: ∀v∈d,v.oneCell'=true:=λv dq=>by
  have⟨t,a⟩:=l_ dq;have⟨B,hU⟩:=L t v a;have⟨u,l,o⟩:=O (j*af+t) Ω;rw[B]at l;cases l;exact o
 have⟨Xq,IE⟩:=iw (j-i);have aIE:i*af+(n-j)*af+(j-i)*af=n*af:=by rw[<-ig,<-ig];congr 1;omega
 refine(qk x c n i j w d _ rfl Xq IE N aw3 (λt u s=>by rw[BR A];exact(L t u s).1) (λt a=>by
  rw[BR A];have⟨u,l,_⟩:=O t a;rw[l];rfl) (λt=>F6 A t) K vk ia).mono ?_
 rintro e w' ⟨rfl,rfl⟩
 have V9:w.drew.heap[x]? =some (.cells C T (0,0)):=A;have⟨⟨X,aL,aO,Z⟩,a4,hA,jb,mS,pE⟩:=ta x d (i*af) w.drew C T (0,0) V9;have⟨⟨Y,cw,a5,j_⟩,nz,mU,KL,KM,KN⟩:=ta x (Builtin.zeroCells z.cells (j-i)).toList ((i+(n-j))*af) (w.drew.setCells x (i*af) d) X T (0,0) aL;generalize (w.drew.setCells x (i*af) d).setCells x ((i+(n-j))*af) (Builtin.zeroCells z.cells (j-i)).toList=w' at*
 have hmul:(i+(n-j))*af=i*af+(n-j)*af:=ig _ _ _;have⟨aC,h,U⟩:=a2.Qz (b:=0) (a5:=1) (f:=g) (gD:=yR g i j) (n':=n- (j-i)) (c:=c) (w':=w') (lv:=Y) r rfl l2 A (by rw[KL,jb];rfl) (by rw[KM,mS];rfl) (by rw[KN,pE];rfl) (by rw[nz,a4];rfl)
  (λk I=>by rw[mU k I,hA k I];rfl) cw (by rw[a5,aO];exact H) Ω Ω (λp q ch D=>by
   have WM:=nY ch D;have aw2:(n- (j-i))*af=i*af+(n-j)*af:=by rw[<-ig];congr 1;omega
   rw[j_,aW Ω,Z];unfold yR
   by_cases Q:p<i
   .have F:Nat.blt p i=true:=by simpa[jL]using Q
    have:=nY Q D;rw[aW Ω,F];exact G p q Ω D
   .have F:Nat.blt p i=false:=by
     cases e:Nat.blt p i with
     |false=>rfl
     |true=>exact absurd (hH e) Ω
    have B:i*af<=p*af:=h4 af Ω;have hU:(p-i)*af=p*af-i*af:=E1 _ _ _;have fG:(p+(j-i))*af=p*af+(j-i)*af:=ig _ _ _;have DK:j*af=i*af+(j-i)*af:=by rw[<-ig];congr 1;omega
    rw[bg ⟨Ω,Ω,Ω⟩,F];have⟨av,u,l,o,E⟩:=G (p+(j-i)) q Ω D;refine⟨av,u,l,?_,E⟩;have a:p*af+q-i*af<(n-j)*af:=by omega
    simp only[d];rw[Bs a,qA,QM,<-o]
    congr 1;omega) (.inr ⟨by simp,λaqz=>by simp [M],by
    cases e:ι 1 with
    |none=>rfl
    |some y=>have:=r.hn 1 y e;simp at this⟩)
 have hV:rY [[J.ad false af n g]] 0 1 (.ad false af (n- (j-i)) (yR g i j))=[[dP],[.ad false af (n- (j-i)) (yR g i j)]]:=rfl;rw[hV]at h U;refine⟨[.slice (some ⟨x,0,none⟩) (n- (j-i)) c],aC,rfl,rfl,h.below,rfl,λt av a=> ?_,h.k,h.inj,h.fresh,h.hn,h.hs⟩
 match t with
 |0=>cases a;exact⟨_,rfl,U⟩
 |t+1=>simp at a
end
section
variable {P:Program} {ρ:Ren}
def l3(g:Nat->List J)(i:Nat)(v:Nat->List J)(t:Nat):List J:=bif Nat.blt t i then g t else bif Nat.beq t i then v 0 else g (t-1)
def OJ{g v:Nat->List J}{i t:Nat}(h:t<i):l3 g i v t=g t:=by
 unfold l3;rw[show Nat.blt t i=true by simpa[jL]using h];rfl
def acw{a b:Nat}(h:b<=a):Nat.blt a b=false:=by
 cases e:Nat.blt a b with
 |false=>rfl
 |true=>exact absurd (hH e) Ω
def II{g v:Nat->List J}{i:Nat} :l3 g i v i=v 0:=by
 unfold l3;rw[acw (bH _),ob];rfl
def ahT{g v:Nat->List J}{i t:Nat}(h:i<t):l3 g i v t=g (t-1):=by
 unfold l3;rw[acw Ω,show Nat.beq t i=false by
  cases e:Nat.beq t i with
  |false=>rfl
  |true=>have:=ey e;omega];rfl
def Below.alx{B:Nat}{a w:World}(h:Below B a w){x:Nat}(f:B<=x): ∀(b:List Value) (o:Nat),Below B a (w.setCells x o b)
 |b,o=>by
  induction b generalizing w o with
  |nil=>exact h
  |cons v b d=>
   rw[World.setCells];have c:Below B w (w.setCell ⟨x,o,none⟩ v):=⟨rfl,rfl,rfl,by simp,λk e=>Below.heap_setCell w ⟨x,o,none⟩ v k (by show k≠x;omega)⟩;exact d (h.trans c) _
def acM{w:World}{F:Nat->Prop}{n af c:Nat}{g:Nat->List J}{C:Array Value}(s:n<=c)(r:C.size=c*af)(l: ∀i j,i<n->j<af-> ∃av u,(g i)[j]? =some av/\C[i*af+j]? =some u/\a6 w F av u):
  ∃cs:List Value,cs.length=n*af/\(∀t u,cs[t]? =some u->C[t]? =some u/\t<n*af)/\(∀v∈cs,v.oneCell'=true)/\ ∀i j,i<n->j<af-> ∃av u,(g i)[j]? =some av/\cs[i*af+j]? =some u/\a6 w F av u:=by
 have y:n*af<=C.size:=by rw[r];exact h4 af s
 have k:(C.toList.take (n*af)).length=n*af:=by simp only[jr,Array.length_toList];omega
 have h: ∀t,t<n*af->(C.toList.take (n*af))[t]? =C[t]? :=λt a=>by rw[Bs a,QM]
 refine⟨C.toList.take (n*af),k,λt u b=> ?_,λv x=> ?_,λi j m o=> ?_⟩
 .have a:t<n*af:=by have:=(hk.1 b).1;rwa [k]at this
  rw[h t a]at b;exact⟨b,a⟩
 .obtain⟨t,b⟩:=l_ x;have a:t<n*af:=by have:=(hk.1 b).1;rwa [k]at this
  rw[h t a]at b;have p:0<af:=by
   rcases yr af with e|e
   .rw[e]at a;omega
   .exact e
  have⟨av,u,_,d,f⟩:=l (t/af) (t%af) ((Nat.div_lt_iff_lt_mul p).2 a) (Nat.mod_lt _ p);rw[wh,Nat.div_add_mod]at d;rw[b]at d;cases d;exact f.YM
 .obtain⟨av,u,q,d,f⟩:=l i j m o;exact⟨av,u,q,by rw[h _ (nY m o)];exact d,f⟩
def axX{k bytes:Nat}{ch:Value}(L:sd P ρ k bytes ch)(On:0<k)(Ih:bytes<=255)(Aq: ∀m,(Builtin.zeroCells ch.cells m).size=m*k)(n i:Nat)(g v:Nat->List J)(g5:i<=n)(gT:n+1<=dL):
  gn P (ρ.f 22) [.own 0 n,.int .i64 i,.own 1 1] [[.ad false k n g],[.ad false k 1 v]] [.own 0 (n+1)] [[.ad false k (n+1) (l3 g i v)],[.ad false k 1 v]]:=by
 intro S ι w cQ vh Aj M
 match cQ,Aj with
 |[v0,v1,v2],_=>
 have⟨_,hX,hD⟩:=M.n 0 _ rfl;have⟨_,q1,cX⟩:=M.n 1 _ rfl;have⟨_,gw,ct⟩:=M.n 2 _ rfl;simp only[wc,List.getElem?_cons_zero,List.getElem?_cons_succ,hI]at hX q1 gw;subst hX q1 gw;have cX:v1= .int .i64 i:=by
  have:a6 w (aX S ι [[.ad false k n g],[.ad false k 1 v]] w) (.int .i64 i) v1:=cX
  cases this;rfl
 subst cX;obtain⟨_,⟨y,G,D,tY,Ao,rfl,aw1,DL,avO,avN⟩|⟨fv,_⟩⟩:=M.Jt (b:=1) (g:=v) (af:=k) rfl ct
 case inr=>omega
 have⟨r,A,iJ,bo,ar1⟩:=acM aw1 avO avN;rw[Nat.one_mul]at A;have Wj:(n+1)*bytes<=140737488355328:=by
  have:(n+1)*bytes<=549755813888*255:=Nat.mul_le_mul gT Ih;omega
 have DU:n<=549755813888:=by have:dL=549755813888:=rfl;omega
 have rG: ∀j u,r[j]? =some u->w.cell? ⟨y,j,none⟩=some u:=λj u Y=>by rw[BR DL];exact(iJ j u Y).1
 have Z: ∀j,j<k-> ∃av u,(v 0)[j]? =some av/\r[j]? =some u/\a6 w (aX S ι [[.ad false k n g],[.ad false k 1 v]] w) av u:=λj X=>by
  have:=ar1 0 j Ω X;rwa [Nat.zero_mul,dj]at this
 have aIG:(i+1)*k=i*k+k:=jK _ _;have aIO:(n+1)*k=n*k+k:=jK _ _;have fin: ∀(w':World) (aC:Nat->Option Nat) (u:Value) (H':Heap),H'=[[.ad false k (n+1) (l3 g i v)],[.ad false k 1 v]]->a2 S aC ⟨[.own 0 n,.int .i64 i,.own 1 1],H'⟩ {tmps:= #[v0,.int .i64 i,.slice (some ⟨y,0,none⟩) 1 G],defers:=[]} w'->cu aC H' w' (aX S aC H' w') (.own 0 (n+1)) u->
   ∃us aC,Ending.returned u= .returned (pack us)/\us.length=1/\a2 S aC ⟨[.own 0 (n+1)],[[.ad false k (n+1) (l3 g i v)],[.ad false k 1 v]]⟩ {tmps:=us.toArray,defers:=[]} w':=λw' aC u H' e F Y=>by
  subst e;refine⟨[u],aC,rfl,rfl,F.below,rfl,λt av jI=> ?_,F.k,F.inj,F.fresh,F.hn,F.hs⟩
  match t with
  |0=>cases jI;exact⟨_,rfl,Y⟩
  |t+1=>simp at jI
 have place: ∀(x c:Nat) (C U:Array Value) (T:TypeId) (w':World),ι 0=some x->n+1<=c->w.heap[x]? =some (.cells C T (0,0))->C.size=c*k->w'.os=w.os->w'.tape=w.tape->w'.output=w.output->w'.heap.size=w.heap.size->(∀q,q≠x->w'.heap[q]? =w.heap[q]?)->
   w'.heap[x]? =some (.cells U T (0,0))->U.size=C.size->(∀p q,p<n+1->q<k-> ∃av u,(l3 g i v p)[q]? =some av/\U[p*k+q]? =some u/\a6 w (aX S ι [[.ad false k n g],[.ad false k 1 v]] w) av u)->
   ∃us aC,Ending.returned (.slice (some ⟨x,0,none⟩) (n+1) c)= .returned (pack us)/\us.length=1/\a2 S aC ⟨[.own 0 (n+1)],[[.ad false k (n+1) (l3 g i v)],[.ad false k 1 v]]⟩ {tmps:=us.toArray,defers:=[]} w':=λx c C U T w' l2 kk s Q O hU fG DK N2 agW Ab Ac=>by
  have⟨aC,F,W_⟩:=a2.Qz (b:=0) (a5:=0) (f:=g) (gD:=l3 g i v) (n':=n+1) (c:=c) (w':=w') (lv:=U) M rfl l2 s O hU fG DK N2 agW (by rw[Ab];exact Q) gT kk Ac (.inl ⟨rfl,.inl Ω⟩);exact fin w' aC _ _ rfl F W_
 have fresh: ∀(l:Nat) (R:Array Value) (T:TypeId) (w':World),n+1<=l->Below w.heap.size w w'->w.heap.size<w'.heap.size->w'.heap[w.heap.size]? =some (.cells R T (0,0))->R.size=l*k->
   (∀p q,p<n+1->q<k-> ∃av u,(l3 g i v p)[q]? =some av/\R[p*k+q]? =some u/\a6 w (aX S ι [[.ad false k n g],[.ad false k 1 v]] w) av u)->
   ∃us aC,Ending.returned (.slice (some ⟨w.heap.size,0,none⟩) (n+1) l)= .returned (pack us)/\us.length=1/\a2 S aC ⟨[.own 0 (n+1)],[[.ad false k (n+1) (l3 g i v)],[.ad false k 1 v]]⟩ {tmps:=us.toArray,defers:=[]} w':=λl R T w' K o8 ht avX N_ Ac=>by
  have⟨F,W_⟩:=a2.Jw M o8 (b:=0) (x:=w.heap.size) (bH _) ht (af:=k) (n:=n+1) (c:=l) (f:=l3 g i v) (C:=R) (T:=T) gT K avX N_ (F':=aX S ι [[.ad false k n g],[.ad false k 1 v]] w) (λ_ h=> .inl h)
   (λp q I d=>by
    have⟨av,u,aL,aO,z⟩:=Ac p q I d;exact⟨av,u,aL,aO,z.mono (λ_ h=>h) λym aqz Xp=>o8.cell Xp.2.1⟩) (.inr ⟨n,g,rfl,Ω⟩)
  exact fin w' _ _ _ rfl F W_
 obtain⟨_,⟨x,c,C,T,l2,rfl,nW,s,Q,mE⟩|⟨fv,aI4,rfl⟩⟩:=M.Jt (b:=0) (g:=g) (af:=k) rfl hD
 .obtain⟨cs,B,f2,f3,f4⟩:=acM nW Q mE;have axH:y≠x:=λe=>by have:=M.inj 0 1 x l2 (by rw[<-e];exact Ao);omega
  have Ip: ∀j u,cs[j]? =some u->w.cell? ⟨x,j,none⟩=some u:=λj u Y=>by rw[BR s];exact(f2 j u Y).1
  have aIA: ∀j,j<n*k->cs[j]? =C[j]? :=λj X=>by
   have O:cs[j]? =some (cs[j]' Ω):=cG Ω;rw[O,(f2 j _ O).1]
  have W:(n+1)<=c->(n+1)*k<=C.size:=λh=>by rw[Q];exact h4 k h
  have DW:n+1<=c-> ∀j,j<(n+1)*k->(w.cell? ⟨x,j,none⟩).isSome=true:=λh j X=>by
   have:=W h;rw[BR s,r3 Ω];rfl
  by_cases vl:i=n
  .subst vl
   by_cases E:i+1<=c
   .refine(axY L x i c y G r w E A (DW E) (λj=>F6 s j) rG bo).mono ?_
    rintro e w' ⟨rfl,rfl⟩
    have⟨⟨N,aL,aO,z⟩,V,hA,jb,mS,pE⟩:=ta x r (i*k) w C T (0,0) s;refine place x c C N T _ l2 E s Q jb mS pE V hA aL aO λp q I d=> ?_;have:=W E
    by_cases o:p<i
    .have:=nY o d;rw[OJ o,z,aW Ω];exact mE p q o d
    .have o:p=i:=by omega
     subst o;rw[II,z,bg ⟨Ω,Ω,Ω⟩,show p*k+q-p*k=q by omega];exact Z q d
   .refine(ahU L (some ⟨x,0,none⟩) i c y G cs r w nW Ω Wj DU B A (λh=>by cases h) (λa Ae j u X=>by cases Ae;rw[Addr.add_lit,dj];exact Ip j u X) rG bo).mono ?_
    rintro e w' ⟨rfl,rfl⟩
    have K:=yp w (i+1) c (ρ.t 9);generalize grownCap w (i+1) c (ρ.t 9)=l at*
    refine fresh l _ (ρ.t 9) _ K ((Below.drew (Below.refl _ w)).alloc (bH _) _) Χ (tN w.drew _) (by
     simp only[yq,r4,db,Aq,B,A];have:(l- (i+1))*k+(i+1)*k=l*k:=by rw[<-ig];congr 1;omega
     omega) λp q I d=> ?_
    have WM:=nY I d;rw[r2 (by simp only[r4,db,B,A];omega)];simp only[wc]
    by_cases o:p<i
    .have:=nY o d;rw[OJ o,wb Ω];exact f4 p q o d
    .have o:p=i:=by omega
     subst o;rw[II,E2 Ω,B,show p*k+q-p*k=q by omega];exact Z q d
  .have ht:i<n:=by omega
   have aIM:(n-i)*k+i*k=n*k:=by rw[<-ig];congr 1;omega
   have aIB:(cs.drop (i*k)).length=(n-i)*k:=by rw[r_,B];omega
   by_cases E:n+1<=c
   .have V9:C.size≠0:=by have:=W E;have:0<(n+1)*k:=Nat.mul_pos Ω On;omega
    refine(ax0 L x n c i y G cs r w ht E DU axH B A Ip (DW E) (λj=>F6 s j) rG f3 bo tY T D.size C.size (by simp [World.shape?,DL]) (by simp [World.shape?,s]) V9 (λj=>F6 DL j)).mono ?_
    rintro e w' ⟨rfl,rfl⟩
    have avM:w.drew.heap[x]? =some (.cells C T (0,0)):=s;have⟨⟨N,aL,aO,z⟩,V,hA,jb,mS,pE⟩:=ta x (cs.drop (i*k)) (i*k+k) w.drew C T (0,0) avM;have⟨⟨By,cw,a5,j_⟩,nz,mU,KL,KM,KN⟩:=ta x r (i*k) (w.drew.setCells x (i*k+k) (cs.drop (i*k))) N T (0,0) aL;refine place x c C By T _ l2 E s Q (by rw[KL,jb];rfl) (by rw[KM,mS];rfl) (by rw[KN,pE];rfl) (by rw[nz,V];rfl) (λq d=>by rw[mU q d,hA q d];rfl) cw (by rw[a5,aO]) λp q I d=> ?_;have W:=W E;have WM:=nY I d;rw[j_]
    by_cases o:p<i
    .have:=nY o d;rw[OJ o,aW Ω,z,aW Ω];exact mE p q Ω d
    .by_cases WK:p=i
     .subst WK;rw[II,bg ⟨Ω,Ω,Ω⟩,show p*k+q-p*k=q by omega];exact Z q d
     .have O:(i+1)*k<=p*k:=h4 k Ω;have hU:(p-1)*k+k=p*k:=by rw[<-jK];congr 1;omega
      rw[ahT Ω,aW Ω,z,bg ⟨Ω,Ω,Ω⟩,qA,show i*k+(p*k+q- (i*k+k))=(p-1)*k+q by omega];exact f4 (p-1) q Ω d
   .refine(axZ L On Aq x n c i y G cs r w ht nW Ω Wj DU B A Ip rG f3 bo).mono ?_
    rintro e w' ⟨rfl,rfl⟩
    have K:=yp w (n+1) c (ρ.t 9);generalize grownCap w (n+1) c (ρ.t 9)=l at*
    have aIm:(l- (n+1))*k+(n+1)*k=l*k:=by rw[<-ig];congr 1;omega
    have aIN:(n+1-i)*k+i*k=(n+1)*k:=by rw[<-ig];congr 1;omega
    generalize ag0:(cs.take (i*k)).toArray++Builtin.zeroCells ch.cells (n+1-i)++Builtin.zeroCells ch.cells (l- (n+1))=H;have N_:H.size=l*k:=by
     rw[<-ag0];simp only[yq,r4,jr,Aq,B];omega
    have avY:(w.alloc (.cells H (ρ.t 9))).drew.heap[w.heap.size]? =some (.cells H (ρ.t 9) (0,0)):=tN w _;have⟨⟨N,aL,aO,z⟩,V,hA,jb,mS,pE⟩:=ta w.heap.size r (i*k) (w.alloc (.cells H (ρ.t 9))).drew H (ρ.t 9) (0,0) avY;have ap_:((w.alloc (.cells H (ρ.t 9))).drew.setCells w.heap.size (i*k) r).drew.heap[w.heap.size]? =some (.cells N (ρ.t 9) (0,0)):=aL;have⟨⟨By,cw,a5,j_⟩,nz,mU,KL,KM,KN⟩:=ta w.heap.size (cs.drop (i*k)) (i*k+k) ((w.alloc (.cells H (ρ.t 9))).drew.setCells w.heap.size (i*k) r).drew N (ρ.t 9) (0,0) ap_;refine fresh l By (ρ.t 9) _ K ?_ (by rw[nz];show w.heap.size<((w.alloc (.cells H (ρ.t 9))).drew.setCells w.heap.size (i*k) r).heap.size;rw[V];show w.heap.size<(w.alloc (.cells H (ρ.t 9))).heap.size;simp) cw (by rw[a5,aO,N_]) λp q I d=> ?_
    .exact Below.alx (Below.drew (Below.alx (Below.drew ((Below.refl _ w).alloc (bH _) _)) (bH _) _ _)) (bH _) _ _
    have WM:=nY I d;rw[j_]
    by_cases o:p<i
    .have:=nY o d;rw[OJ o,aW Ω,z,aW Ω,<-ag0,r2 (by simp only[yq,r4,jr,Aq,B];omega),r2 (by simp only[r4,jr,B];omega)];simp only[wc];rw[Bs Ω];exact f4 p q Ω d
    .by_cases WK:p=i
     .subst WK;rw[II,aW Ω,z,bg ⟨Ω,Ω,Ω⟩,show p*k+q-p*k=q by omega];exact Z q d
     .have O:(i+1)*k<=p*k:=h4 k Ω;have hU:(p-1)*k+k=p*k:=by rw[<-jK];congr 1;omega
      have fG:=nY (show p-1<n by omega) d;rw[ahT Ω,bg ⟨Ω,Ω,by rw[aO,N_];have:(n+1)*k<=l*k:=h4 k K;omega⟩,qA,show i*k+(p*k+q- (i*k+k))=(p-1)*k+q by omega];exact f4 (p-1) q Ω d
 .subst fv;have awJ:i=0:=by omega
  subst awJ;refine(ahU L none 0 0 y G [] r w (bH _) Ω Wj DU Χ A (λ_=>rfl) (λa Ae=>by cases Ae) rG bo).mono ?_
  rintro e w' ⟨rfl,rfl⟩
  have K:=yp w (0+1) 0 (ρ.t 9);generalize grownCap w (0+1) 0 (ρ.t 9)=l at*
  refine fresh l _ (ρ.t 9) _ K ((Below.drew (Below.refl _ w)).alloc (bH _) _) Χ (tN w.drew _) (by
   simp only[r6,yq,r4,Aq,A];have:(l- (0+1))*k+(0+1)*k=l*k:=by rw[<-ig];congr 1;omega
   omega) λp q I d=> ?_
  have WJ:p=0:=by omega
  subst WJ;rw[II,r6,r2 (by simp only[r4,A];omega)];simp only[wc,Nat.zero_mul,dj];exact Z q d
end
