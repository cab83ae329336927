import Derived.Test.YtfmgjpcmcjjoiaaGreatDoorXd
open Go.IntKind (i64 u64 u8)
open Int (toNat)
set_option maxRecDepth 100000
set_option maxHeartbeats 4000000
set_option linter.all false
noncomputable section
namespace Go.af
open Go Go.RowKit
structure Rec where
 val:J
 ws:bM
 rd:List (Nat×Nat)
 gw:List Nat
 au:Nat
 run:Bool
def g_(o:Oper)(r:Rec)(st:K):K:=⟨jR o.dst r.val st.n,bt st.k r.ws⟩
def LU(b o n:Nat):List (Nat×Nat):=(List.range n).map fun j=>(b,o+j)
def jh:J→List (Nat×Nat)
 | .own b _=>[(b,0)]
 |_=>[]
def ji:J→List (Nat×Nat)
 | .agg cs=>cs.flatMap jh
 |av=>jh av
def j8(E:Env)(a:List J)(d:Op):List (Nat×Nat):=
 match d with
 | .load T x=>match ax a x with
   | .ptr b o=>match E.ty T with
     |some t=>LU b o t.size
     |none=>[]
   | .fp b _ _ _=>[(b,0)]
   |_=>[]
 | .store T x _=>match ax a x with
   | .ptr b o=>match E.ty T with
     |some t=>(b,0)::LU b o t.size
     |none=>[]
   | .fp b _ _ _=>[(b,0)]
   |_=>[]
 | .fieldAddr _ x _| .nilCheck x=>match ax a x with
   | .fp b _ _ _=>[(b,0)]
   |_=>[]
 | .indexAddr _ x _=>match ax a x with
   | .own b _=>[(b,0)]
   |_=>[]
 | .call c=>c.args.toList.flatMap fun x=>ji (ax a x)
 | .slice _ x _ _ _| .convert _ _ x=>ji (ax a x)
 | .buildSlice _ _ e=>e.toList.flatMap fun p=>ji (eD (ax a p.2))
 |_=>[]
def px(a:List J)(H:Heap)(d:Op):List Nat:=
 match d with
 | .call c=>match c.callee with
   | .value f=>match ax a f with
     | .fn _ b=>dN H (c.args.toList.map (ax a)++b)
     |_=>[]
   |_=>[]
 |_=>[]
section
variable {E:Env}
theorem L2{b:Nat} : ∀{l:List Nat},b∈l→b∈dedup l
 |[],h=>by cases h
 |x::l,h=>by
  simp only[dedup];rcases hS.1 h with rfl|h
  ·split
   ·rename_i e;obtain⟨y,c,a⟩:=List.any_eq_true.1 e;have:=dQ a;subst this;exact L2 c
   ·simp
  ·split
   ·exact L2 h
   ·simp [L2 h]
theorem amh{H H':Heap}{aa:List J}(h: ∀b∈dN H aa,H'.getD b []=H.getD b []):dN H' aa=dN H aa:=by
 have d: ∀(g:J→List Nat) (l:List Nat),(∀b∈l,H'.getD b []=H.getD b [])→(l.flatMap fun b=>(H'.getD b []).flatMap g)=l.flatMap fun b=>(H.getD b []).flatMap g:=by
  intro g l
  induction l with
  |nil=>intro _;rfl
  |cons x l f=>
   intro c;rw[gO,gO,c x (by simp),f fun b a=>c b (by simp [a])]
 have e:CM H' aa=CM H aa:=by
  unfold CM;rw[d VJ _ fun b a=>h b (g8.2 (.inl (L2 (g8.2 (.inl a)))))]
 unfold dN;rw[e,d Mm _ fun b a=>h b (g8.2 (.inl a))]
theorem ahi{H H':Heap} : ∀{L:List Nat} {a:Heap},(∀b∈L,H'.getD b []=H.getD b [])→pB L H' a=pB L H a
 |[],_,_=>rfl
 |b::L,a,h=>by
  unfold pB;rw[h b (by simp)]
  cases a with
  |nil=>rfl
  |cons y a=>simp only;rw[ahi fun b c=>h b (by simp [c])]
theorem arx{au:Nat}{H H':Heap}{f:FuncId}{aa:List J}{K:J→bM→Prop}(h: ∀b∈dN H aa,H'.getD b []=H.getD b [])(c:nh E H au f aa K):nh E H' au f aa K:=by
 have e:=amh h;unfold nh at c ⊢;rw[e];have i:((dN H aa).all fun b=>x2 (H'.getD b [])&&(H'.getD b []).all (mG (mem (dN H aa))))=(dN H aa).all fun b=>x2 (H.getD b [])&&(H.getD b []).all (mG (mem (dN H aa))):=by
  rw[Bool.eq_iff_iff,ds,ds];exact⟨fun g b a=>by rw[←h b a];exact g b a,fun g b a=>by rw[h b a];exact g b a⟩
 have aZ:((dN H aa).map fun b=>(H'.getD b []).map (fi (pos (dN H aa))))=(dN H aa).map fun b=>(H.getD b []).map (fi (pos (dN H aa))):=Hd fun b a=>by rw[h b a]
 rw[i,aZ]
 cases d:E.nj f (aa.map (kI (pos (dN H aa)))) ((dN H aa).map fun b=>(H.getD b []).map (fi (pos (dN H aa))))with
 |none=>rw[d]at c;exact c
 |some q=>
  obtain⟨j,rs,k⟩:=q;rw[d]at c;simp only at c ⊢;rw[ahi h];exact c
theorem ary{au:Nat}{H:Heap}{f:FuncId}{aa:List J}{K:J→bM→Prop}(a:nh E H au f aa K): ∃av ws,nh E H au f aa (fun x y=>x=av∧y=ws)∧K av ws:=by
 unfold nh at a;obtain⟨d,a⟩:=ay.1 a
 cases c:E.nj f (aa.map (kI (pos (dN H aa)))) ((dN H aa).map fun b=>(H.getD b []).map (fi (pos (dN H aa))))with
 |none=>rw[c]at a;exact a.elim
 |some q=>
  obtain⟨h,rs,i⟩:=q;rw[c]at a;obtain⟨e,a⟩:=pw.1 a;obtain⟨g,a⟩:=ay.1 a;refine⟨_,_,?_,a⟩;unfold nh;refine ay.2 ⟨d,?_⟩;rw[c];exact pw.2 ⟨e,ay.2 ⟨g,rfl,rfl⟩⟩
theorem YL{H H':Heap}{b o n:Nat}(h: ∀l∈LU b o n,B H' l.1 l.2=B H l.1 l.2):kl H' b o n=kl H b o n:=by
 unfold kl;apply Hd;intro j a;exact h (b,o+j) (by simp [LU];simpa using a)
theorem YB{b:List (Nat×Nat)}{f g:List J}{K:List J→Prop} : ∀(a:List (Nat×Operand)) (cs:List J),(∀x∈a,ax g x.2=ax f x.2)→mC b f a cs K→mC b g a cs K
 |[],cs,_,h=>h
 |(i,x)::a,cs,d,h=>by
  simp only[mC]at h ⊢
  cases e:b[i]? with
  |none=>rw[e]at h;exact h.elim
  |some q=>
   rw[e]at h;simp only at h ⊢;have c:=d (i,x) (by simp);simp only at c;rw[c];rw[ay]at h ⊢;exact⟨h.1,YB a _ (fun y j=>d y (by simp [j])) h.2⟩
theorem aab{H H':Heap}{x:J}{K:J→Prop}(a: ∀l∈jh x,B H' l.1 l.2=B H l.1 l.2)(h:ih H x K):ih H' x K:=by
 cases x<;>simp only[ih]at h ⊢ <;>try exact h
 rename_i b k;rw[show B H' b 0=B H b 0 from a (b,0) (by simp [jh])];exact h
theorem QF{H H':Heap} : ∀{cs:List J} {K:List J→Prop},(∀l∈cs.flatMap jh,B H' l.1 l.2=B H l.1 l.2)→lq H cs K→lq H' cs K
 |[],_,_,h=>h
 |c::cs,K,e,h=>by
  simp only[lq]at h ⊢;refine aab (fun l d=>e l (by simp [d])) ?_;have f: ∀{a K2:J→Prop},(∀y,a y→K2 y)→ih H c a→ih H c K2:=fun {a K2} b h=>by
   cases c<;>simp only[ih]at h ⊢ <;>try first|exact b _ h|exact(ay.2 ⟨(ay.1 h).1,b _ (ay.1 h).2⟩)
   split at h
   ·exact⟨h.1,b _ h.2⟩
   ·exact h
  exact f (fun y=>QF fun l d=>e l (by simp only[gO,g8];exact .inr d)) h
theorem aoF{H H':Heap}{x:J}{K:J→Prop}(a: ∀l∈ji x,B H' l.1 l.2=B H l.1 l.2)(h:km H x K):km H' x K:=by
 cases x
 case agg cs=>exact QF (K:=fun b=>K (.agg b)) a h
 all_goals
  simp only[ji]at a;simp only[km]at h ⊢;exact aab a h
theorem QA{H:Heap}{c:J}{b K2:J→Prop}(a: ∀y,b y→K2 y)(h:ih H c b):ih H c K2:=by
 cases c<;>simp only[ih]at h ⊢ <;>try first|exact a _ h|exact(ay.2 ⟨(ay.1 h).1,a _ (ay.1 h).2⟩)
 split at h
 ·exact⟨h.1,a _ h.2⟩
 ·exact h
theorem wo{H:Heap} : ∀{cs:List J} {Ho K2:List J→Prop},(∀y,Ho y→K2 y)→lq H cs Ho→lq H cs K2
 |[],_,_,a,h=>a _ h
 |c::cs,Ho,K2,a,h=>by
  simp only[lq]at h ⊢;exact QA (fun y=>wo fun b=>a _) h
theorem QB{H:Heap}{c:J}{b K2:J→Prop}(d: ∀y,b y→K2 y)(h:km H c b):km H c K2:=by
 cases c
 case agg cs=>exact wo (Ho:=fun a=>b (.agg a)) (K2:=fun a=>K2 (.agg a)) (fun a=>d _) h
 all_goals
  simp only[km]at h ⊢;exact QA d h
theorem Dc{H:Heap} : ∀{cs:List J} {a K2:List J→Prop},(∀y,a y→K2 y)→lY H cs a→lY H cs K2
 |[],_,_,b,h=>b _ h
 |c::cs,a,K2,b,h=>by
  simp only[lY]at h ⊢;exact QB (fun y=>Dc fun d=>b _) h
theorem aaf{H H':Heap} : ∀{cs:List J} {K:List J→Prop},(∀l∈cs.flatMap ji,B H' l.1 l.2=B H l.1 l.2)→lY H cs K→lY H' cs K
 |[],_,_,h=>h
 |c::cs,K,b,h=>by
  simp only[lY]at h ⊢;refine aoF (fun l a=>b l (by simp only[gO,g8];exact .inl a)) ?_;exact QB (fun y=>aaf fun l a=>b l (by simp only[gO,g8];exact .inr a)) h
theorem Iu{H:Heap} : ∀{c:List (List J)} {a K2:List (List J)→Prop},(∀y,a y→K2 y)→mJ H c a→mJ H c K2
 |[],_,_,b,h=>b _ h
 |l::c,a,K2,b,h=>by
  simp only[mJ]at h ⊢;exact wo (fun y=>Iu fun d=>b _) h
theorem aao{H H':Heap} : ∀{a:List (List J)} {K:List (List J)→Prop},(∀l∈a.flatten.flatMap jh,B H' l.1 l.2=B H l.1 l.2)→mJ H a K→mJ H' a K
 |[],_,_,h=>h
 |l::a,K,c,h=>by
  simp only[mJ]at h ⊢;refine QF (fun q b=>c q (by simp only[yI,yJ,g8];exact .inl b)) ?_;exact wo (fun y=>aao fun q b=>c q (by simp only[yI,yJ,g8];exact .inr b)) h
theorem amV{y:J}{q:Nat×Nat}(h:q∈(cellsOf y).flatMap jh):q∈ji y:=by
 cases y<;>simp only[cellsOf,ji,jh,gO,List.flatMap_nil,h_,g8,yL,or_false]at h ⊢ <;>first|exact h|(cases h;done)
theorem agi{g:Nat}{f:List J} : ∀{e:List (Nat×Operand)} {k:Nat} {l:List (List J)},kH g f e k=some l→
  (∀q∈l.flatten.flatMap jh,q∈e.flatMap fun p=>ji (eD (ax f p.2)))∧ ∀c∈l.flatten,aap c=true
 |[],k,l,h=>by
  simp only[kH,gM]at h;subst h;exact⟨fun q d=>by simp at d,fun c b=>by simp at b⟩
 |(i,x)::r,k,l,h=>by
  simp only[kH]at h
  split at h
  ·rename_i b;simp only[bL]at b
   split at h
   ·rename_i o n;simp only[gM]at h;subst h;obtain⟨j,m⟩:=agi n;refine⟨fun q d=> ?_,fun c a=> ?_⟩
    ·simp only[yI,yJ,g8]at d;simp only[gO,g8];exact d.imp amV (j q)
    ·simp only[yI,g8]at a;rcases a with a|a
     ·exact ds.1 b.2.2 c a
     ·exact m c a
   ·cases h
  ·cases h
def T6(H:Heap)(c:Nat)(x:J)(z:Int)(K:J→Prop):Prop:=
 match x with
 | .arr a n f=>c0 (decide (a=c)) ((0≤z∧z<n)∧K (.ref ((f z.toNat).take a)))
 | .own b k=>match B H b 0 with
   | .ad _ a n _=>c0 (decide (a=c)) (k=n∧(0≤z∧z<n)∧K (.fp b k z.toNat 0))
   |_=>False
 |_=>False
theorem as_{H H':Heap}{lo:Nat}{x:J}{z:Int}{K:J→Prop}(a: ∀b k,x= .own b k→B H' b 0=B H b 0)(h:T6 H lo x z K):T6 H' lo x z K:=by
 cases x
 case own b k=>
  unfold T6 at h ⊢;simp only at h ⊢;rw[a b k rfl];exact h
 all_goals exact h
theorem agh{a:Nat}{c d:List J} : ∀{BJ:List (Nat×Operand)} {k:Nat},(∀x∈BJ,ax d x.2=ax c x.2)→kH a d BJ k=kH a c BJ k
 |[],_,_=>rfl
 |(i,x)::r,k,h=>by
  have b:=h (i,x) (by simp);simp only at b;simp only[kH,b,agh (BJ:=r) (k:=k+1) fun y e=>h y (by simp [e])]
theorem CJ{b c:List J}{d:Int}{o:Option Operand}{K:Int→Prop}(h: ∀y,o=some y→ax c y=ax b y)(a:cH b d o K):cH c d o K:=by
 cases o with
 |none=>exact a
 |some x=>simp only[cH]at a ⊢;rw[h x rfl];exact a
theorem tQ{b:List J}{d:Int}{o:Option Operand}{c K2:Int→Prop}(f: ∀z,c z→K2 z)(a:cH b d o c):cH b d o K2:=by
 cases o with
 |none=>exact f _ a
 |some x=>
  simp only[cH]at a ⊢
  cases e:ax b x<;>rw[e]at a<;>simp only at a ⊢ <;>first|exact a.elim|exact f _ a
theorem aA0{t:bD}{H H':Heap}{h i:List J}{x:J}{l hh m:Option Operand}{K:J→bM→Prop}(o: ∀y,(l=some y∨hh=some y∨m=some y)→ax i y=ax h y)(v: ∀p∈ji x,B H' p.1 p.2=B H p.1 p.2)(a:q8 t H h x l hh m K):q8 t H' i x l hh m K:=by
 unfold q8 at a ⊢;rw[ay]at a ⊢;obtain⟨w,a⟩:=a;refine⟨w,?_⟩;have q: ∀{j n:Int} {K:Int→Int→Int→Prop},(cH h j l fun g=>cH h n hh fun c=>cH h c m fun r=>K g c r)→(cH i j l fun g=>cH i n hh fun c=>cH i c m fun r=>K g c r):=fun d=>
  CJ (fun y f=>o y (.inl f)) (tQ (fun g d=>CJ (fun y f=>o y (.inr (.inl f))) (tQ (fun c d=>CJ (fun y f=>o y (.inr (.inr f))) d) d)) d)
 have s: ∀{j n:Int} {K:Int→Int→Prop},(cH h j l fun g=>cH h n hh fun c=>K g c)→(cH i j l fun g=>cH i n hh fun c=>K g c):=fun d=>
  CJ (fun y f=>o y (.inl f)) (tQ (fun g d=>CJ (fun y f=>o y (.inr (.inl f))) d) d)
 cases u:t.d<;>rw[u]at a<;>simp only at a ⊢ <;>try exact a.elim
 ·cases x<;>simp only at a ⊢ <;>try exact a.elim
  cases m with
  |none=>exact s a
  |some _=>exact a.elim
 ·cases x<;>simp only at a ⊢ <;>try exact a.elim
  ·exact q a
  ·rw[ay]at a ⊢;exact⟨a.1,q a.2⟩
  ·rename_i b k;rw[show B H' b 0=B H b 0 from v (b,0) (by simp [ji,jh])]
   cases e:B H b 0<;>rw[e]at a<;>simp only at a ⊢
   rw[ay]at a ⊢;exact⟨a.1,a.2.1,q a.2.2⟩
theorem Wa{H H':Heap}{x:J}(a: ∀l∈jh x,B H' l.1 l.2=B H l.1 l.2):ti H' x=ti H x:=by
 cases x<;>first|rfl|skip
 rename_i b k;simp only[ti];rw[show B H' b 0=B H b 0 from a (b,0) (by simp [jh])]
theorem Ir{α β:Type}{f g:α→List β} : ∀{l:List α},(∀x∈l,f x=g x)→l.flatMap f=l.flatMap g
 |[],_=>rfl
 |x::l,h=>by
  rw[gO,gO,h x (by simp),Ir fun y a=>h y (by simp [a])]
theorem aAv{H H':Heap}{r:J}{aa:List J}(b: ∀l∈aa.flatMap ji,B H' l.1 l.2=B H l.1 l.2):nu H' r aa=nu H r aa:=by
 unfold nu
 split
 ·rfl
 ·unfold ew;apply Ir;intro x e;have a: ∀l∈ji x,B H' l.1 l.2=B H l.1 l.2:=fun l a=>b l (lf.2 ⟨x,e,a⟩)
  cases x
  case agg cs=>
   simp only[BT];apply Ir;intro c d;exact Wa fun l h=>a l (lf.2 ⟨c,d,h⟩)
  all_goals
   simp only[ji]at a;simp only[BT];exact Wa a
theorem ahx{H H':Heap}{h:Bool}{f:Nat}{y:J}{K d:Nat→(Nat→List J)→Prop}(i: ∀b k,y= .own b k→B H' b 0=B H b 0)(c: ∀m g,K m g→d m g)(a:mu H h f y K):mu H' h f y d:=by
 cases y<;>simp only[mu]at a ⊢ <;>try exact a.elim
 ·exact ay.2 ((ay.1 a).imp id (c _ _))
 ·exact ay.2 ((ay.1 a).imp id (c _ _))
 ·exact ay.2 ((ay.1 a).imp id (c _ _))
 ·rename_i b k;rw[i b k rfl]
  cases e:B H b 0<;>rw[e]at a<;>simp only at a ⊢
  rw[ay]at a ⊢;exact⟨a.1,a.2.1,c _ _ a.2.2⟩
theorem al3{t:bD}{c:Bool}{H H':Heap}{au:Nat}{x y:J}{K:J→bM→Prop}(e: ∀b k,x= .own b k→B H' b 0=B H b 0)(f: ∀b k,y= .own b k→B H' b 0=B H b 0)(a:nF t c H au x y K):nF t c H' au x y K:=by
 unfold nF at a ⊢
 cases d:t.d<;>rw[d]at a<;>simp only at a ⊢ <;>try exact a.elim
 rw[ay]at a ⊢;refine⟨a.1,ahx f (fun m g h=> ?_) a.2⟩
 cases x<;>simp only at h ⊢ <;>try exact h
 rename_i b k;rw[e b k rfl];exact h
theorem al0{au:Nat}{n G:List J}{H H':Heap}{A:Op}{K:J→bM→Prop}(d: ∀x∈A.operands,ax G x=ax n x)(j: ∀l∈j8 E n A,B H' l.1 l.2=B H l.1 l.2)(nd: ∀b∈px n H A,H'.getD b []=H.getD b [])(a:hW E au n H A K):hW E au G H' A K:=by
 cases A<;>simp only[hW]at a ⊢ <;>try exact a.elim
 case move x=>rw[d x (by simp [Op.operands])];exact a
 case assign x=>rw[d x (by simp [Op.operands])];exact a
 case pick c x y=>rw[d c (by simp [Op.operands]),d x (by simp [Op.operands]),d y (by simp [Op.operands])];exact a
 case alloc T=>exact a
 case box T x=>rw[d x (by simp [Op.operands])];exact a
 case build T N=>
  unfold dx at a ⊢
  cases e:E.ty T with
  |none=>rw[e]at a;exact a.elim
  |some t=>
   rw[e]at a;simp only at a ⊢
   cases C:t.d<;>rw[C]at a<;>simp only at a ⊢ <;>try exact a.elim
   exact YB _ _ (fun x F=>d x.2 (by simp [Op.operands];exact⟨x.1,by simpa using F⟩)) a
 case load T x=>
  have r:=d x (by simp [Op.operands]);unfold dx at a ⊢
  cases e:E.ty T with
  |none=>rw[e]at a;exact a.elim
  |some t=>
   rw[e]at a;simp only[j8,e]at a j ⊢;rw[r]
   cases s:ax n x<;>rw[s]at a j<;>simp only[np]at a ⊢ <;>try exact a
   ·rw[YL j];exact a
   ·rename_i b k i o;rw[show B H' b 0=B H b 0 from j (b,0) (by simp)];exact a
 case store T x y=>
  have r:=d x (by simp [Op.operands]);have v:=d y (by simp [Op.operands]);unfold dx at a ⊢
  cases e:E.ty T with
  |none=>rw[e]at a;exact a.elim
  |some t=>
   rw[e]at a;simp only[j8,e]at a j ⊢;rw[r,v]
   cases s:ax n x<;>rw[s]at a j<;>simp only[tp]at a ⊢ <;>try exact a
   ·rename_i b o;rw[YL (fun l p=>j l (by simp [p])),show B H' b 0=B H b 0 from j (b,0) (by simp)];exact a
   ·rename_i b k i o;rw[show B H' b 0=B H b 0 from j (b,0) (by simp)];exact a
 case makeSlice T l c=>
  have r:=d l (by simp [Op.operands]);have v:=d c (by simp [Op.operands]);unfold dx at a ⊢
  cases e:E.ty T with
  |none=>rw[e]at a;exact a.elim
  |some t=>
   rw[e]at a;simp only at a ⊢;unfold qV at a ⊢;rw[r,v];exact a
 case nilCheck x=>
  have r:=d x (by simp [Op.operands]);simp only[j8]at j;rw[r]
  cases s:ax n x<;>rw[s]at a j<;>simp only[s9]at a ⊢ <;>try exact a
  rename_i b k i o;rw[show B H' b 0=B H b 0 from j (b,0) (by simp)];exact a
 case binOp A T x y kV=>rw[d x (by simp [Op.operands]),d y (by simp [Op.operands])];exact a
 case unOp A T x=>rw[d x (by simp [Op.operands])];exact a
 case fieldAddr T x f=>
  have r:=d x (by simp [Op.operands]);unfold dx at a ⊢
  cases e:E.ty T with
  |none=>rw[e]at a;exact a.elim
  |some t=>
   rw[e]at a;simp only[j8]at a j ⊢;rw[r];simp only[rP]at a ⊢
   cases C:t.d<;>rw[C]at a<;>simp only at a ⊢ <;>try exact a.elim
   rename_i Gg
   cases U:Gg[f]? with
   |none=>rw[U]at a;exact a.elim
   |some q=>
    rw[U]at a;simp only at a ⊢
    cases s:ax n x<;>rw[s]at a j<;>simp only at a ⊢ <;>try exact a
    rename_i b k i o;rw[show B H' b 0=B H b 0 from j (b,0) (by simp)];exact a
 case indexAddr T x y=>
  have r:=d x (by simp [Op.operands]);have v:=d y (by simp [Op.operands]);unfold dx at a ⊢
  cases e:E.ty T with
  |none=>rw[e]at a;exact a.elim
  |some t=>
   rw[e]at a;simp only[j8]at a j ⊢;rw[r,v];simp only[sQ]at a ⊢
   cases C:t.d<;>rw[C]at a<;>simp only at a ⊢ <;>try exact a.elim
   case array=>exact a
   cases aoa:ax n y<;>rw[aoa]at a<;>simp only at a ⊢ <;>try exact a.elim
   rename_i D _ _ z;exact as_ (H:=H) (lo:=D) (x:=ax n x) (z:=z) (K:=fun av=>K av []) (fun b k e=>j (b,0) (by rw[e];simp)) a
 case index T x y=>
  have r:=d x (by simp [Op.operands]);have v:=d y (by simp [Op.operands]);rw[r,v];exact a
 case extract x i=>rw[d x (by simp [Op.operands])];exact a
 case buildSlice T len N=>
  unfold dx at a ⊢
  cases e:E.ty T with
  |none=>rw[e]at a;exact a.elim
  |some t=>
   rw[e]at a;have b6: ∀D,kH D G N.toList 0=kH D n N.toList 0:=fun D=>agh (fun x F=>d x.2 (by simp [Op.operands];exact⟨x.1,by simpa using F⟩));simp only[j8]at j;simp only[pZ,b6]at a ⊢
   cases C:t.d<;>rw[C]at a<;>simp only at a ⊢ <;>try exact a.elim
   rename_i aC4 D lX
   cases p:kH D n N.toList 0 with
   |none=>rw[p]at a;exact a.elim
   |some l=>
    rw[p]at a;simp only at a ⊢;obtain⟨eM,gX⟩:=ay.1 a;obtain⟨yd,Gd⟩:=agi p;have M: ∀q∈l.flatten.flatMap jh,B H' q.1 q.2=B H q.1 q.2:=fun q P=>j q (yd q P);have TG:ew H' l.flatten=ew H l.flatten:=by
     unfold ew;apply Ir;intro c W;have arw:=Gd c W;have ar6: ∀q∈jh c,B H' q.1 q.2=B H q.1 q.2:=fun q P=>M q (lf.2 ⟨c,W,P⟩)
     cases c
     case agg cs=>cases arw
     all_goals
      simp only[BT];exact Wa ar6
    refine ay.2 ⟨eM,aao M (Iu (fun Z h=> ?_) gX)⟩;obtain⟨f,f1,f2⟩:=h;exact⟨f,f1,by rw[TG];exact f2⟩
 case slice T x l hh m=>
  have r:=d x (by simp [Op.operands]);unfold dx at a ⊢
  cases e:E.ty T with
  |none=>rw[e]at a;exact a.elim
  |some t=>
   rw[e]at a;simp only at a ⊢;rw[r];refine aA0 (fun y w=>d y ?_) (fun l p=>j l p) a;simp only[Op.operands,Array.mem_append,Option.mem_toArray];rcases w with w|w|w
   ·exact .inl (.inl (.inr w))
   ·exact .inl (.inr w)
   ·exact .inr w
 case makeFunc fn first S=>
  cases hb:fn<;>rw[hb]at a<;>simp only at a ⊢ <;>try exact a.elim
  have:S.toList.map (ax G)=S.toList.map (ax n):=Hd fun x F=>d x (by
   simp only[Op.operands];exact Array.mem_append.2 (.inr (by simpa using F)))
  rw[this];exact a
 case convert X5 X4 x=>
  have r:=d x (by simp [Op.operands]);unfold dx at a ⊢
  cases e:E.ty X5 with
  |none=>rw[e]at a;exact a.elim
  |some t=>
   rw[e]at a;simp only at a ⊢
   cases I:E.ty X4 with
   |none=>rw[I]at a;exact a.elim
   |some e2=>
    rw[I]at a;simp only at a ⊢;rw[r]
    cases s:ax n x<;>rw[s]at a<;>simp only[rJ]at a ⊢ <;>try exact a
    rename_i b k;rw[show B H' b 0=B H b 0 from j (b,0) (by simp [j8,s,ji,jh])];exact a
 case call c=>
  have u: ∀x∈c.args.toList,ax G x=ax n x:=fun x F=>d x (by
   simp only[Op.operands,Call.operands];exact Array.mem_append.2 (.inr (by simpa using F)))
  have O: ∀{x:J},(∃y∈c.args.toList,x=ax n y)→ ∀b k,x= .own b k→B H' b 0=B H b 0:=fun {x} d b k e=>by
   obtain⟨y,w,rfl⟩:=d;exact j (b,0) (lf.2 ⟨y,w,by rw[e];simp [ji,jh]⟩)
  cases L:c.callee with
  |value f=>
   rw[L]at a;simp only at a ⊢;have Fi:ax G f=ax n f:=d f (by simp only[Op.operands,Call.operands,L];simp);rw[Fi];unfold y3 at a ⊢
   cases hb:ax n f<;>rw[hb]at a<;>simp only at a ⊢ <;>try exact a.elim
   rename_i g R;rw[Hd u]
   cases V:xS E.ed g (c.args.toList.map (ax n)++R)with
   |true=>
    rw[V]at a;simp only at a ⊢;refine arx (fun b iF=>nd b ?_) a;simp only[px,L,hb];exact iF
   |false=>
   rw[V]at a;simp only at a ⊢;rw[ay]at a ⊢;obtain⟨X,a⟩:=a;refine⟨X,?_⟩;have key: ∀z:J,jh (F8 z)=jh z:=fun z=>by cases z<;>rfl
   have M: ∀l∈((c.args.toList.map (ax n)++R).map eD).flatMap ji,B H' l.1 l.2=B H l.1 l.2:=fun l p=>by
    rw[List.map_append,yJ,g8]at p;rcases p with p|p
    ·refine j l ?_;simp only[lf,ox]at p;obtain⟨y,⟨Q,⟨x,TY,rfl⟩,rfl⟩,p⟩:=p;refine lf.2 ⟨x,TY,?_⟩
     cases ZK:ax n x<;>rw[ZK]at p<;>first|exact p|skip
     simp only[ji,eD,lf,ox]at p ⊢;obtain⟨aCu,⟨z,hf,rfl⟩,p⟩:=p;exact⟨z,hf,by rw[key]at p;exact p⟩
    ·simp only[lf,ox]at p;obtain⟨y,⟨Q,TZ,rfl⟩,p⟩:=p;have xC:=ds.1 X Q TZ
     cases Q<;>first|(cases xC;done)|(simp [eD,F8,ji,jh]at p;done)
   unfold tT at a ⊢;refine aaf M (Dc (fun Z h=> ?_) a)
   cases Y:E.spec g Z with
   |none=>rw[Y]at h;exact h.elim
   |some q=>
    rw[Y]at h;obtain⟨pre,eo⟩:=q;simp only at h ⊢;rwa [aAv M]
  |invoke eo m=>rw[L]at a;exact a.elim
  |builtin b=>
   rw[L]at a
   cases b<;>simp only at a ⊢ <;>try exact a.elim
   case append=>
    split at a
    ·rename_i x y T vM s anF;rw[s]at u O;have r:=u x (by simp);have v:=u y (by simp);unfold dx at a ⊢
     cases e:E.ty T with
     |none=>rw[e]at a;exact a.elim
     |some t=>
      rw[e]at a;simp only at a ⊢
      cases I:E.ty vM with
      |none=>rw[I]at a;exact a.elim
      |some t2=>
       rw[I]at a;simp only at a ⊢;rw[ay]at a ⊢;rw[r,v];exact⟨a.1,al3 (O ⟨x,by simp,rfl⟩) (O ⟨y,by simp,rfl⟩) a.2⟩
    ·exact a.elim
   case min=>
    split at a
    ·rename_i x y s;rw[s]at u;rw[u x (by simp),u y (by simp)];exact a
    ·exact a.elim
   case max=>
    split at a
    ·rename_i x y s;rw[s]at u;rw[u x (by simp),u y (by simp)];exact a
    ·exact a.elim
   case len=>
    simp only[j8]at j
    split at a
    ·rename_i x T s anF;rw[s]at u j;have r:=u x (by simp);rw[r];unfold dx at a ⊢
     cases e:E.ty T with
     |none=>rw[e]at a;exact a.elim
     |some t=>
      rw[e]at a;simp only at a ⊢;rw[ay]at a ⊢;refine⟨a.1,?_⟩;have a:=a.2
      cases s:ax n x<;>rw[s]at a<;>simp only[po]at a ⊢ <;>try exact a
      rename_i b k;rw[show B H' b 0=B H b 0 from j (b,0) (by simp [s,ji,jh])];exact a
    ·exact a.elim
theorem agm{b:Bool}{x y:J}{K:J→Prop}(h:Gs b x y K): ∃av,Gs b x y (fun z=>z=av)∧K av:=by
 cases b<;>exact⟨_,rfl,h⟩
theorem aw5{t:bD}{H:Heap}{x:J}{K:J→Prop}(h:np t H x K): ∃av,np t H x (fun z=>z=av)∧K av:=by
 cases x<;>simp only[np,ay]at h ⊢ <;>try exact h.elim
 ·exact⟨_,⟨h.1,rfl⟩,h.2⟩
 ·split at h
  ·exact⟨_,⟨h.1,h.2.1,h.2.2.1,rfl⟩,h.2.2.2⟩
  ·exact h.elim
 ·exact⟨_,⟨h.1,rfl⟩,h.2⟩
theorem aBc{t:bD}{H:Heap}{x y:J}{K:bM→Prop}(h:tp t H x y K): ∃ws,tp t H x y (fun z=>z=ws)∧K ws:=by
 cases x<;>simp only[tp,ay]at h ⊢ <;>try exact h.elim
 ·exact⟨_,⟨h.1,rfl⟩,h.2⟩
 ·rename_i b k i o
  cases e:B H b 0<;>rw[e]at h<;>simp only at h ⊢ <;>try exact h.elim
  obtain⟨a,c,d,g,j,f⟩:=h;exact⟨_,⟨a,c,d,g,j,rfl⟩,f⟩
theorem axk{E:Env}{t:bD}{a:List J}{au:Nat}{l c:Operand}{K:J→bM→Prop}(h:qV E t a au l c K): ∃av ws,qV E t a au l c (fun x y=>x=av∧y=ws)∧K av ws:=by
 unfold qV at h ⊢
 cases d:t.d<;>rw[d]at h<;>simp only at h ⊢ <;>try exact h.elim
 rename_i e n m
 cases g:E.ty e<;>rw[g]at h<;>simp only at h ⊢
 cases f:ax a l<;>rw[f]at h<;>simp only at h ⊢ <;>try exact h.elim
 cases b:ax a c<;>rw[b]at h<;>simp only at h ⊢ <;>try exact h.elim
 obtain⟨i,j,k⟩:=ay.1 h;exact⟨_,_,ay.2 ⟨i,j,rfl,rfl⟩,k⟩
theorem aom{t:bD}{H:Heap}{f:Nat}{x:J}{K:J→Prop}(h:rP t H f x K): ∃av,rP t H f x (fun z=>z=av)∧K av:=by
 unfold rP at h ⊢
 cases a:t.d<;>rw[a]at h<;>simp only at h ⊢ <;>try exact h.elim
 rename_i c
 cases b:c[f]? <;>rw[b]at h<;>simp only at h ⊢
 cases x<;>simp only at h ⊢ <;>try exact h.elim
 ·exact⟨_,rfl,h⟩
 ·split at h
  ·exact⟨_,⟨h.1,rfl⟩,h.2⟩
  ·exact h.elim
 ·exact⟨_,rfl,h⟩
theorem as8{t:bD}{H:Heap}{x y:J}{K:J→Prop}(h:sQ t H x y K): ∃av,sQ t H x y (fun z=>z=av)∧K av:=by
 unfold sQ at h ⊢
 cases a:t.d<;>rw[a]at h<;>simp only at h ⊢ <;>try exact h.elim
 case array=>
  cases y<;>simp only at h ⊢ <;>try exact h.elim
  cases x<;>simp only[ay]at h ⊢ <;>first|exact h.elim|exact⟨_,⟨h.1,rfl⟩,h.2⟩
 cases y<;>simp only at h ⊢ <;>try exact h.elim
 cases x<;>simp only at h ⊢ <;>try exact h.elim
 ·rw[ay]at h;exact⟨_,ay.2 ⟨h.1,h.2.1,rfl⟩,h.2.2⟩
 ·split at h
  ·rw[ay]at h;exact⟨_,ay.2 ⟨h.1,h.2.1,h.2.2.1,rfl⟩,h.2.2.2⟩
  ·exact h.elim
theorem as0{E:TypeId→Option bD}{t:bD}{x y:J}{K:J→Prop}(h:vb E t x y K): ∃av,vb E t x y (fun z=>z=av)∧K av:=by
 unfold vb at h ⊢
 cases a:t.d<;>rw[a]at h<;>simp only at h ⊢ <;>try exact h.elim
 cases y<;>simp only at h ⊢ <;>try exact h.elim
 cases x<;>simp only at h ⊢ <;>try exact h.elim
 rename_i n e c _ _ _
 cases b:E e<;>rw[b]at h<;>simp only[ay]at h ⊢ <;>first|exact h.elim|exact⟨_,⟨h.1,rfl⟩,h.2⟩
theorem atg{a:BinOp}{k:IntKind}{p q:Int}{K:J→Prop}(h:ve a k p q K): ∃av,ve a k p q (fun z=>z=av)∧K av:=by
 cases a<;>simp only[ve]at h ⊢ <;>first|exact h.elim|exact⟨_,rfl,h⟩|exact⟨_,⟨h.1,rfl⟩,h.2⟩
theorem ame{t:bD}{a:BinOp}{x y:J}{K:J→Prop}(h:oI t a x y K): ∃av,oI t a x y (fun z=>z=av)∧K av:=by
 cases x<;>cases y<;>simp only[oI]at h ⊢ <;>try exact h.elim
 ·cases d:LC a with
  |true=>
   rw[d]at h;simp only[MR]at h ⊢;obtain⟨f,h⟩:=h
   cases a<;>simp only at h ⊢ <;>first|exact h.elim|exact⟨_,⟨f,rfl⟩,h⟩
  |false=>
   rw[d]at h;simp only at h ⊢;rw[ay]at h;obtain⟨av,b,g⟩:=atg h.2;exact⟨av,ay.2 ⟨h.1,b⟩,g⟩
 ·cases e:t.d<;>rw[e]at h<;>simp only at h ⊢ <;>try exact h.elim
  cases a<;>simp only at h ⊢ <;>first|exact h.elim|exact⟨_,rfl,h⟩
 ·cases a<;>simp only at h ⊢ <;>first|exact h.elim|exact⟨_,rfl,h⟩|exact⟨_,⟨h.1,rfl⟩,h.2⟩
 ·rw[ay]at h;obtain⟨b,c⟩:=h
  cases a<;>simp only at c ⊢ <;>first|exact c.elim|exact⟨_,ay.2 ⟨b,rfl⟩,c⟩
theorem aBR{a:UnOp}{x:J}{K:J→Prop}(h:yC a x K): ∃av,yC a x (fun z=>z=av)∧K av:=by
 cases a<;>cases x<;>simp only[yC]at h ⊢ <;>first|exact h.elim|exact⟨_,rfl,h⟩
theorem awV{H:Heap}{x:J}{K:J→Prop}(h:po H x K): ∃av,po H x (fun z=>z=av)∧K av:=by
 cases x<;>simp only[po]at h ⊢ <;>try first|exact h.elim|exact⟨_,rfl,h⟩
 split at h
 ·exact⟨_,⟨h.1,rfl⟩,h.2⟩
 ·exact h.elim
theorem ayc{H:Heap}{x:J}{K:J→Prop}(h:s9 H x K): ∃av,s9 H x (fun z=>z=av)∧K av:=by
 cases x<;>simp only[s9]at h ⊢ <;>try first|exact h.elim|exact⟨_,rfl,h⟩
 split at h
 ·exact⟨_,⟨h.1,rfl⟩,h.2⟩
 ·exact h.elim
theorem YC{c:List (Nat×Nat)}{d:List J}{K:List J→Prop} : ∀(b:List (Nat×Operand)) (cs:List J),mC c d b cs K→ ∃a,mC c d b cs (fun z=>z=a)∧K a
 |[],cs,h=>⟨cs,rfl,h⟩
 |(i,x)::b,cs,h=>by
  simp only[mC]at h ⊢
  cases e:c[i]? with
  |none=>rw[e]at h;exact h.elim
  |some q=>
   rw[e]at h;simp only at h ⊢;rw[ay]at h;obtain⟨a,f,g⟩:=YC b _ h.2;exact⟨a,ay.2 ⟨h.1,f⟩,g⟩
theorem aae{H:Heap}{x:J}{K:J→Prop}(h:ih H x K): ∃y,ih H x (fun z=>z=y)∧K y:=by
 cases x<;>simp only[ih]at h ⊢ <;>try first|exact⟨_,rfl,h⟩|exact⟨_,ay.2 ⟨(ay.1 h).1,rfl⟩,(ay.1 h).2⟩
 split at h
 ·exact⟨_,⟨h.1,rfl⟩,h.2⟩
 ·exact h.elim
theorem QG{H:Heap} : ∀{cs:List J} {K:List J→Prop},lq H cs K→ ∃a,lq H cs (fun z=>z=a)∧K a
 |[],_,h=>⟨[],rfl,h⟩
 |c::cs,K,h=>by
  obtain⟨y,b,d⟩:=aae h;obtain⟨a,e,f⟩:=QG d;exact⟨y::a,QA (fun z g=>by subst g;exact wo (fun j i=>by rw[i]) e) b,f⟩
theorem QH{H:Heap} : ∀{b:List (List J)} {K:List (List J)→Prop},mJ H b K→ ∃a,mJ H b (fun z=>z=a)∧K a
 |[],_,h=>⟨[],rfl,h⟩
 |c::cs,K,h=>by
  obtain⟨y,d,e⟩:=QG h;obtain⟨a,f,g⟩:=QH e;exact⟨y::a,wo (fun z i=>by subst i;exact Iu (fun k j=>by rw[j]) f) d,g⟩
theorem aoH{H:Heap}{x:J}{K:J→Prop}(h:km H x K): ∃y,km H x (fun z=>z=y)∧K y:=by
 cases x
 case agg cs=>
  obtain⟨a,b,c⟩:=QG (K:=fun a=>K (.agg a)) h;exact⟨.agg a,wo (K2:=fun z=>J.agg z= .agg a) (fun z d=>by rw[d]) b,c⟩
 all_goals
  simp only[km]at h ⊢;exact aae h
theorem aai{H:Heap} : ∀{cs:List J} {K:List J→Prop},lY H cs K→ ∃a,lY H cs (fun z=>z=a)∧K a
 |[],_,h=>⟨[],rfl,h⟩
 |c::cs,K,h=>by
  obtain⟨y,b,d⟩:=aoH h;obtain⟨a,e,f⟩:=aai d;exact⟨y::a,QB (fun z g=>by subst g;exact Dc (fun j i=>by rw[i]) e) b,f⟩
theorem aAj{au:Nat}{r:J}{a:bM}{K:J→bM→Prop}(h:th au r a K): ∃av b,th au r a (fun x y=>x=av∧y=b)∧K av b:=by
 cases r<;>exact⟨_,_,⟨rfl,rfl⟩,h⟩
theorem amL{H:Heap}{au:Nat}{f:FuncId}{c:List J}{K:J→bM→Prop}(h:tT E H au f c K): ∃av ws,tT E H au f c (fun x y=>x=av∧y=ws)∧K av ws:=by
 obtain⟨l,d,a⟩:=aai h
 cases b:E.spec f l with
 |none=>rw[b]at a;exact a.elim
 |some q=>
  obtain⟨m,r⟩:=q;rw[b]at a;obtain⟨e,g⟩:=pw.1 a;obtain⟨av,ws,i,j⟩:=aAj g;refine⟨av,ws,Dc (fun z k=> ?_) d,j⟩;subst k;rw[b];exact pw.2 ⟨e,i⟩
theorem CK{a:List J}{d:Int}{o:Option Operand}{K:Int→Prop}(h:cH a d o K): ∃z,cH a d o (fun y=>y=z)∧K z:=by
 cases o with
 |none=>exact⟨_,rfl,h⟩
 |some x=>
  simp only[cH]at h ⊢
  cases e:ax a x<;>rw[e]at h<;>simp only at h ⊢ <;>first|exact h.elim|exact⟨_,rfl,h⟩
theorem PK{d:List J}{f g:Int}{l hh m:Option Operand}{C:Int→Int→Int→Prop}{A:Int→Int→Int→J}{ws:bM}{K:J→bM→Prop}(h:cH d f l fun b=>cH d g hh fun a=>cH d a m fun c=>C b a c∧K (A b a c) ws):
  ∃av,(cH d f l fun b=>cH d g hh fun a=>cH d a m fun c=>C b a c∧(A b a c=av∧ws=ws))∧K av ws:=by
 obtain⟨b,i,h⟩:=CK h;obtain⟨a,j,h⟩:=CK h;obtain⟨c,k,h⟩:=CK h;refine⟨A b a c,tQ (fun z e=> ?_) i,h.2⟩;subst e;refine tQ (fun z e=> ?_) j;subst e;refine tQ (fun z e=> ?_) k;subst e;exact⟨h.1,rfl,rfl⟩
theorem aA1{t:bD}{H:Heap}{u:List J}{x:J}{l hh m:Option Operand}{K:J→bM→Prop}(h:q8 t H u x l hh m K): ∃av ws,q8 t H u x l hh m (fun p q=>p=av∧q=ws)∧K av ws:=by
 unfold q8 at h ⊢;rw[ay]at h;obtain⟨j,h⟩:=h
 cases v:t.d<;>rw[v]at h<;>simp only at h<;>try exact h.elim
 ·cases x<;>simp only at h ⊢ <;>try exact h.elim
  cases m with
  |some _=>exact h.elim
  |none=>
   obtain⟨d,a,h⟩:=CK h;obtain⟨o,c,h⟩:=CK h;refine⟨_,[],ay.2 ⟨j,tQ (fun z s=> ?_) a⟩,h.2⟩;subst s;refine tQ (fun z s=> ?_) c;subst s;exact⟨h.1,rfl,rfl⟩
 ·cases x<;>simp only at h ⊢ <;>try exact h.elim
  ·obtain⟨av,a,c⟩:=PK (A:=fun _ _ _=>J.aA) h;exact⟨av,[],ay.2 ⟨j,a⟩,c⟩
  ·rename_i g n f;rw[ay]at h;obtain⟨r,h⟩:=h;obtain⟨av,a,c⟩:=PK (A:=fun d o _=>tb (kk m g) g (o-d).toNat (fun i=>f (d.toNat+i))) h;exact⟨av,[],ay.2 ⟨j,ay.2 ⟨r,a⟩⟩,c⟩
  ·rename_i b k
   cases e:B H b 0<;>rw[e]at h<;>simp only at h ⊢ <;>try exact h.elim
   rename_i y g n f;obtain⟨r,w,h⟩:=ay.1 h;obtain⟨av,a,c⟩:=PK (A:=fun d o _=>tb (kk m g) g (o-d).toNat (fun i=>f (d.toNat+i))) h;exact⟨av,_,ay.2 ⟨j,ay.2 ⟨r,w,a⟩⟩,c⟩
theorem ane{t u:bD}{c:Option bD}{H:Heap}{x:J}{K:J→Prop}(h:rJ t u c H x K): ∃av,rJ t u c H x (fun z=>z=av)∧K av:=by
 cases x<;>simp only[rJ]at h ⊢ <;>try exact h.elim
 ·cases b:u.d<;>rw[b]at h<;>simp only at h ⊢ <;>try exact h.elim
  cases a:t.d<;>rw[a]at h<;>simp only at h ⊢ <;>first|exact h.elim|exact⟨_,rfl,h⟩
 ·cases a:t.d<;>rw[a]at h<;>simp only at h ⊢ <;>try exact h.elim
  cases b:u.d<;>rw[b]at h<;>simp only at h ⊢ <;>first|exact⟨_,rfl,h⟩|exact⟨_,ay.2 ⟨(ay.1 h).1,rfl⟩,(ay.1 h).2⟩
 ·exact⟨_,ay.2 ⟨(ay.1 h).1,rfl⟩,(ay.1 h).2⟩
 ·exact⟨_,ay.2 ⟨(ay.1 h).1,(ay.1 h).2.1,rfl⟩,(ay.1 h).2.2⟩
 ·split at h
  ·exact⟨_,ay.2 ⟨(ay.1 h).1,(ay.1 h).2.1,(ay.1 h).2.2.1,rfl⟩,(ay.1 h).2.2.2⟩
  ·exact h.elim
theorem aA7{H:Heap}{d:Bool}{c:Nat}{y:J}{K:Nat→(Nat→List J)→Prop}(h:mu H d c y K): ∃m g,mu H d c y (fun a b=>a=m∧b=g)∧K m g:=by
 cases y<;>simp only[mu]at h ⊢ <;>try exact h.elim
 ·exact⟨_,_,ay.2 ⟨(ay.1 h).1,rfl,rfl⟩,(ay.1 h).2⟩
 ·exact⟨_,_,ay.2 ⟨(ay.1 h).1,rfl,rfl⟩,(ay.1 h).2⟩
 ·exact⟨_,_,ay.2 ⟨(ay.1 h).1,rfl,rfl⟩,(ay.1 h).2⟩
 ·split at h
  ·exact⟨_,_,ay.2 ⟨(ay.1 h).1,(ay.1 h).2.1,rfl,rfl⟩,(ay.1 h).2.2⟩
  ·exact h.elim
theorem al4{t:bD}{r:Bool}{H:Heap}{au:Nat}{x y:J}{K:J→bM→Prop}(h:nF t r H au x y K): ∃av ws,nF t r H au x y (fun p q=>p=av∧q=ws)∧K av ws:=by
 unfold nF at h ⊢
 cases s:t.d<;>rw[s]at h<;>simp only at h ⊢ <;>try exact h.elim
 rw[ay]at h;obtain⟨n,h⟩:=h;obtain⟨m,g,u,c⟩:=aA7 h;clear h;have d: ∀{Z:Nat→(Nat→List J)→Prop},Z m g→mu H r _ y Z:=fun v=>ahx (fun _ _ _=>rfl) (fun a b w=>by obtain⟨rfl,rfl⟩:=w;exact v) u
 cases x<;>simp only at c ⊢ <;>try exact c.elim
 ·exact⟨_,_,ay.2 ⟨n,d ⟨c.1,rfl,rfl⟩⟩,c.2⟩
 ·rename_i b k
  cases e:B H b 0<;>rw[e]at c<;>simp only at c ⊢ <;>try exact c.elim
  obtain⟨o,f,i,hh,l,j⟩:=ay.1 c;exact⟨_,_,ay.2 ⟨n,d (ay.2 ⟨o,f,i,hh,l,rfl,rfl⟩)⟩,j⟩
 ·obtain⟨o,f,i,hh,l,j⟩:=ay.1 c;exact⟨_,_,ay.2 ⟨n,d (ay.2 ⟨o,f,i,hh,l,rfl,rfl⟩)⟩,j⟩
theorem amn{t:bD}{b:List J}{H:Heap}{au c:Nat}{a:List (Nat×Operand)}{K:J→bM→Prop}(h:pZ t b H au c a K): ∃av ws,pZ t b H au c a (fun p q=>p=av∧q=ws)∧K av ws:=by
 unfold pZ at h ⊢
 cases d:t.d<;>rw[d]at h<;>simp only at h ⊢ <;>try exact h.elim
 rename_i e f o
 cases m:kH f b a 0<;>rw[m]at h<;>simp only at h ⊢
 obtain⟨g,i⟩:=ay.1 h;obtain⟨r,j,hh,k,l⟩:=QH i;exact⟨_,_,ay.2 ⟨g,Iu (fun z n=>by subst n;exact⟨hh,k,rfl,rfl⟩) j⟩,l⟩
theorem axv{x y:J}{K:J→Prop}(h:x6 x y K): ∃av,x6 x y (fun z=>z=av)∧K av:=by
 cases x<;>cases y<;>simp only[x6]at h ⊢ <;>try exact h.elim
 exact⟨_,ay.2 ⟨(ay.1 h).1,rfl⟩,(ay.1 h).2⟩
theorem axq{x y:J}{K:J→Prop}(h:x5 x y K): ∃av,x5 x y (fun z=>z=av)∧K av:=by
 cases x<;>cases y<;>simp only[x5]at h ⊢ <;>try exact h.elim
 exact⟨_,ay.2 ⟨(ay.1 h).1,rfl⟩,(ay.1 h).2⟩
theorem al2{au:Nat}{o:List J}{H:Heap}{u:Op}{K:J→bM→Prop}(a:hW E au o H u K): ∃av ws,hW E au o H u (fun x y=>x=av∧y=ws)∧K av ws:=by
 have q: ∀{p:(J→Prop)→Prop},(∃av,p (fun z=>z=av)∧K av [])→(∀av,p (fun z=>z=av)→p (fun z=>z=av∧([]:bM)=[]))→ ∃av ws,p (fun x=>x=av∧([]:bM)=ws)∧K av ws:=fun⟨av,j,n⟩ P=>⟨av,[],P av j,n⟩;have e: ∀av:J,(fun z=>z=av∧([]:bM)=[])=(fun z=>z=av):=fun av=>by funext z;simp
 cases u<;>simp only[hW]at a ⊢ <;>try exact a.elim
 case move x=>exact⟨_,_,⟨rfl,rfl⟩,a⟩
 case assign x=>exact⟨_,_,⟨rfl,rfl⟩,a⟩
 case pick c x y=>
  cases s:ax o c<;>rw[s]at a<;>simp only at a ⊢ <;>try exact a.elim
  ·exact q (agm a) fun av h=>by rw[e];exact h
  ·exact q (agm a) fun av h=>by rw[e];exact h
 case alloc T=>
  unfold dx at a ⊢
  cases d:E.ty T<;>rw[d]at a<;>simp only at a ⊢
  rw[ay]at a;exact⟨_,_,ay.2 ⟨a.1,rfl,rfl⟩,a.2⟩
 case box T x=>
  rw[ay]at a;exact⟨_,_,ay.2 ⟨a.1,rfl,rfl⟩,a.2⟩
 case build T Q=>
  unfold dx at a ⊢
  cases d:E.ty T<;>rw[d]at a<;>simp only at a ⊢
  rename_i t
  cases N:t.d<;>rw[N]at a<;>simp only at a ⊢ <;>try exact a.elim
  obtain⟨I,j,n⟩:=YC _ _ a;refine⟨.agg I,[],?_,n⟩;simpa using j
 case load T x=>
  unfold dx at a ⊢
  cases d:E.ty T<;>rw[d]at a<;>simp only at a ⊢
  exact q (aw5 a) fun av h=>by rw[e];exact h
 case store T x y=>
  unfold dx at a ⊢
  cases d:E.ty T<;>rw[d]at a<;>simp only at a ⊢
  obtain⟨ws,j,n⟩:=aBc a;exact⟨.undef,ws,by simpa using j,n⟩
 case nilCheck x=>exact q (ayc a) fun av h=>by rw[e];exact h
 case binOp u T x y R=>
  unfold dx at a ⊢
  cases d:E.ty T<;>rw[d]at a<;>simp only at a ⊢
  exact q (ame a) fun av h=>by rw[e];exact h
 case unOp u T x=>exact q (aBR a) fun av h=>by rw[e];exact h
 case fieldAddr T x f=>
  unfold dx at a ⊢
  cases d:E.ty T<;>rw[d]at a<;>simp only at a ⊢
  exact q (aom a) fun av h=>by rw[e];exact h
 case indexAddr T x y=>
  unfold dx at a ⊢
  cases d:E.ty T<;>rw[d]at a<;>simp only at a ⊢
  exact q (as8 a) fun av h=>by rw[e];exact h
 case index T x y=>
  unfold dx at a ⊢
  cases d:E.ty T<;>rw[d]at a<;>simp only at a ⊢
  exact q (as0 a) fun av h=>by rw[e];exact h
 case extract x i=>
  cases v:ax o x<;>rw[v]at a<;>simp only[zl]at a ⊢ <;>try exact a.elim
  rw[ay]at a;exact⟨_,_,ay.2 ⟨a.1,rfl,rfl⟩,a.2⟩
 case buildSlice T len Q=>
  unfold dx at a ⊢
  cases d:E.ty T<;>rw[d]at a<;>simp only at a ⊢
  exact amn a
 case makeSlice T l c=>
  unfold dx at a ⊢
  cases d:E.ty T<;>rw[d]at a<;>simp only at a ⊢
  exact axk a
 case slice T x l hh m=>
  unfold dx at a ⊢
  cases d:E.ty T<;>rw[d]at a<;>simp only at a ⊢
  exact aA1 a
 case makeFunc O first S=>
  cases hb:O<;>rw[hb]at a<;>simp only at a ⊢ <;>try exact a.elim
  obtain⟨j,n⟩:=ay.1 a;exact⟨_,_,ay.2 ⟨j,rfl,rfl⟩,n⟩
 case convert F D x=>
  unfold dx at a ⊢
  cases d:E.ty F<;>rw[d]at a<;>simp only at a ⊢
  cases M:E.ty D<;>rw[M]at a<;>simp only at a ⊢
  exact q (ane a) fun av h=>by rw[e];exact h
 case call c=>
  cases s:c.callee with
  |value f=>
   rw[s]at a;simp only at a ⊢;unfold y3 at a ⊢
   cases hb:ax o f<;>rw[hb]at a<;>simp only at a ⊢ <;>try exact a.elim
   rename_i g G
   cases B:xS E.ed g (c.args.toList.map (ax o)++G)with
   |true=>
    rw[B]at a;exact ary a
   |false=>
    rw[B]at a;obtain⟨j,n⟩:=ay.1 a;obtain⟨av,ws,w,A⟩:=amL n;exact⟨av,ws,ay.2 ⟨j,w⟩,A⟩
  |invoke r m=>rw[s]at a;exact a.elim
  |builtin b=>
   rw[s]at a
   cases b<;>simp only at a ⊢ <;>try exact a.elim
   case append=>
    split at a
    ·unfold dx at a ⊢;rename_i x y T C v d
     cases d:E.ty T<;>rw[d]at a<;>simp only at a ⊢
     cases L:E.ty C<;>rw[L]at a<;>simp only at a ⊢
     obtain⟨j,n⟩:=ay.1 a;obtain⟨av,ws,w,A⟩:=al4 n;exact⟨av,ws,ay.2 ⟨j,w⟩,A⟩
    ·exact a.elim
   case min=>
    split at a
    ·exact q (axv a) fun av h=>by rw[e];exact h
    ·exact a.elim
   case max=>
    split at a
    ·exact q (axq a) fun av h=>by rw[e];exact h
    ·exact a.elim
   case len=>
    split at a
    ·unfold dx at a ⊢;rename_i x T v d
     cases d:E.ty T<;>rw[d]at a<;>simp only at a ⊢
     rw[ay]at a;exact q (p:=fun k=>c0 (FV _ _) (po H (ax o x) k)) (by obtain⟨av,j,n⟩:=awV a.2;exact⟨av,ay.2 ⟨a.1,j⟩,n⟩) fun av h=>by rw[e];exact h
    ·exact a.elim
end
structure XA (E:Env) (ops:Array Oper) (o:Oper) (st:K) (r:Rec):Prop where
 wanted:rb ops o st.n=some r.run
 yes:r.run=true→(∃av,hW E r.au st.n st.k o.op (fun x y=>x=av∧y=r.ws)∧Hq av r.val)∧r.rd=j8 E st.n o.op∧r.gw=px st.n st.k o.op∧st.k.length≤r.au
 no:r.run=false→r.val= .gone∧r.ws=[]
inductive tH (E:Env) (ops:Array Oper):List Oper→K→List Rec→K→Prop
 |nil (st:K):tH E ops [] st [] st
 |cons (o:Oper) (l:List Oper) (st:K) (r:Rec) (rs:List Rec) (j9:K) (h:XA E ops o st r) (k:tH E ops l (g_ o r st) rs j9):tH E ops (o::l) st (r::rs) j9
def rE(E:Env)(ops:Array Oper):List Oper→Nat→K→List Rec→(List Rec→K→Prop)→Prop
 |[],_,st,rs,a=>a rs.reverse st
 |o::b,i,st,rs,a=>u4 ops o st (∃au,st.k.length≤au∧hW E au st.n st.k o.op fun av c=>Bh (G1 b i) av fun av=>rE E ops b (i+1) ⟨jR o.dst av st.n,bt st.k c⟩ (⟨av,c,j8 E st.n o.op,px st.n st.k o.op,au,true⟩::rs) a)
   (rE E ops b (i+1) ⟨jR o.dst .gone st.n,st.k⟩ (⟨.gone,[],[],[],0,false⟩::rs) a)
theorem Px{E:Env}{ops:Array Oper} : ∀(l:List Oper) (i:Nat) (st:K) (acc:List Rec) (b:List Rec→K→Prop),rE E ops l i st acc b→
  ∃rs a,tH E ops l st rs a∧b (acc.reverse++rs) a
 |[],_,st,acc,b,h=>⟨[],st,.nil st,by simpa[rE]using h⟩
 |o::l,i,st,acc,b,h=>by
  rcases ac0 h with⟨j,c⟩|⟨j,c⟩
  ·obtain⟨au,n,c⟩:=c;obtain⟨av,p,k,d⟩:=al2 c;obtain⟨r,m,d⟩:=afd d;obtain⟨rs,a,f,g⟩:=Px l _ _ _ b d;refine⟨_::rs,a,.cons o l st ⟨r,p,j8 E st.n o.op,px st.n st.k o.op,au,true⟩ rs a ⟨j,fun _=>⟨⟨av,k,m⟩,rfl,rfl,n⟩,(fun e=>by cases e)⟩ f,by simpa using g⟩
  ·obtain⟨rs,a,f,g⟩:=Px l _ _ _ b c;refine⟨_::rs,a,.cons o l st ⟨.gone,[],[],[],0,false⟩ rs a ⟨j,(fun e=>by cases e),fun _=>⟨rfl,rfl⟩⟩ f,by simpa using g⟩
def acc(L:Nat→Bool):List (Oper×Rec)→Nat→K→K
 |[],_,st=>st
 |(o,r)::l,i,st=>acc L l (i+1) (cond (L i) (g_ o r st) st)
def writes(a:bM)(b p:Nat):Prop:= ∃c,(b,p,c)∈a
theorem Lp: ∀(a:bM) (H:Heap) (b p:Nat),¬writes a b p→B (bt H a) b p=B H b p
 |[],_,_,_,_=>rfl
 |(f,g,c)::a,H,b,p,h=>by
  rw[bt,Lp a _ b p (fun⟨d,e⟩=>h ⟨d,by simp [e]⟩),eG,a7]
  rintro⟨rfl,rfl⟩
  exact h ⟨c,by simp⟩
theorem TU: ∀(a:bM) (H H':Heap) (b p:Nat),(writes a b p∨B H' b p=B H b p)→B (bt H' a) b p=B (bt H a) b p
 |[],_,_,_,_,h=>h.elim (fun⟨_,h⟩=>by cases h) id
 |(g,j,c)::a,H,H',b,p,h=>by
  rw[bt,bt];refine TU a _ _ b p ?_
  by_cases f:writes a b p
  ·exact .inl f
  ·refine .inr ?_;rw[eG,eG]
   by_cases e:b=g∧p=j
   ·rw[bf e,bf e]
   ·rw[a7 e,a7 e];rcases h with⟨i,d⟩|h
    ·rcases hS.1 d with d|d
     ·cases d;exact absurd ⟨rfl,rfl⟩ e
     ·exact absurd ⟨i,d⟩ f
    ·exact h
theorem Ux: ∀(d:bM) (H:Heap),H.length≤(bt H d).length∧ ∀b p,writes d b p→b<(bt H d).length
 |[],_=>⟨bC _,fun _ _ ⟨_,h⟩=>by cases h⟩
 |(b,p,c)::d,H=>by
  have f:=vi H b p c;have e:=Ux d (bs H b p c);refine⟨dB f.1 e.1,fun g j ⟨i,a⟩=> ?_⟩;rcases hS.1 a with a|a
  ·cases a;exact gk f.2 e.1
  ·exact e.2 g j ⟨i,a⟩
theorem CZ(d:Option Nat)(av:J)(a:List J)(t:Nat):(jR d av a)[t]? =if d=some t then(a[t]?).map (fun _=>av)else a[t]? :=by
 cases d with
 |none=>simp [jR]
 |some d=>
  simp only[jR,tw,gM]
  by_cases e:d=t
  ·subst e;simp only[kN]
   split
   ·rename_i h;simp [cI h]
   ·rename_i h;rw[eF (by omega)];rfl
  ·simp [e]
theorem Hv{L b:Nat→Bool}{t:Nat} : ∀(l:List (Oper×Rec)) (k:Nat) (st a:K),(st.n[t]? =a.n[t]?)→(∀(i:Nat) o r,l[i]? =some (o,r)→o.dst=some t→L (k+i)=b (k+i))→(acc L l k st).n[t]? =(acc b l k a).n[t]?
 |[],_,_,_,h,_=>h
 |(o,r)::l,k,st,a,h,c=>by
  rw[acc,acc];refine Hv l (k+1) _ _ ?_ fun i m n j g=>by
   have:=c (i+1) m n (by simpa using j) g;rwa [show k+(i+1)=k+1+i by omega]at this
  by_cases e:o.dst=some t
  ·have:=c 0 o r rfl e;rw[lN]at this;rw[this]
   cases b k
   ·exact h
   ·simp only[aQ,g_,CZ,e,kN,h]
  ·have d:(g_ o r st).n[t]? =st.n[t]? :=by simp [g_,CZ,e]
   have f:(g_ o r a).n[t]? =a.n[t]? :=by simp [g_,CZ,e]
   cases L k<;>cases b k<;>simp only[aQ,aS,d,f,h]
theorem Cu{L c:Nat→Bool}{b p:Nat} : ∀(l:List (Oper×Rec)) (k:Nat) (st a:K),(B st.k b p=B a.k b p)→(∀(i:Nat) o r,l[i]? =some (o,r)→writes r.ws b p→L (k+i)=c (k+i))→B (acc L l k st).k b p=B (acc c l k a).k b p
 |[],_,_,_,h,_=>h
 |(o,r)::l,k,st,a,h,d=>by
  rw[acc,acc];refine Cu l (k+1) _ _ ?_ fun i n q m j=>by
   have:=d (i+1) n q (by simpa using m) j;rwa [show k+(i+1)=k+1+i by omega]at this
  by_cases e:writes r.ws b p
  ·have:=d 0 o r rfl e;rw[lN]at this;rw[this]
   cases c k
   ·exact h
   ·simp only[aQ,g_];exact TU r.ws a.k st.k b p (.inl e)
  ·have f:B (g_ o r st).k b p=B st.k b p:=Lp _ _ _ _ e;have g:B (g_ o r a).k b p=B a.k b p:=Lp _ _ _ _ e
   cases L k<;>cases c k<;>simp only[aQ,aS,f,g,h]
theorem asT{a:bM}{b:Nat} : ∀{H:Heap},(∀p,¬writes a b p)→(bt H a).getD b []=H.getD b []:=by
 induction a with
 |nil=>intro H _;rfl
 |cons q a g=>
  obtain⟨j,i,c⟩:=q;intro H h;rw[bt,g fun p ⟨d,f⟩=>h p ⟨d,by simp [f]⟩];unfold bs;rw[pb,a7];intro e;exact h i ⟨c,by simp [e]⟩
theorem adS{b:Nat} : ∀{a:bM} {H H':Heap},H.getD b []=H'.getD b []→(bt H a).getD b []=(bt H' a).getD b []
 |[],_,_,h=>h
 |(d,f,c)::a,H,H',h=>by
  rw[bt,bt];refine adS ?_;unfold bs;rw[pb,pb]
  by_cases e:b=d
  ·subst e;rw[bf rfl,bf rfl,h]
  ·rw[a7 e,a7 e];exact h
theorem X8{L a:Nat→Bool}{b:Nat} : ∀(l:List (Oper×Rec)) (k:Nat) (st c:K),(st.k.getD b []=c.k.getD b [])→(∀(i:Nat) o r,l[i]? =some (o,r)→(∃p,writes r.ws b p)→L (k+i)=a (k+i))→
  (acc L l k st).k.getD b []=(acc a l k c).k.getD b []
 |[],_,_,_,h,_=>h
 |(o,r)::l,k,st,c,h,f=>by
  rw[acc,acc];refine X8 l (k+1) _ _ ?_ (fun i q s m j=>by
   have:=f (i+1) q s (by simpa using m) j;rwa [show k+(i+1)=k+1+i by omega]at this)
  by_cases e: ∃p,writes r.ws b p
  ·have d:=f 0 o r rfl e;rw[lN]at d;rw[d]
   cases a k
   ·exact h
   ·exact adS h
  ·have g: ∀st:K,(g_ o r st).k.getD b []=st.k.getD b []:=fun st=>asT fun p n=>e ⟨p,n⟩
   cases L k<;>cases a k<;>simp only[aQ,aS,g,h]
theorem Cw{L:Nat→Bool} : ∀(l:List (Oper×Rec)) (k:Nat) (st:K),(acc L l k st).n.length=st.n.length∧st.k.length≤(acc L l k st).k.length∧
  ∀(i:Nat) o r,l[i]? =some (o,r)→L (k+i)=true→ ∀b p,writes r.ws b p→b<(acc L l k st).k.length
 |[],_,_=>⟨rfl,bC _,fun i o r h=>by simp at h⟩
 |(o,r)::l,k,st=>by
  obtain⟨g,c,j⟩:=Cw (L:=L) l (k+1) (cond (L k) (g_ o r st) st);have e:(cond (L k) (g_ o r st) st).n.length=st.n.length∧st.k.length≤(cond (L k) (g_ o r st) st).k.length:=by
   cases L k
   ·exact⟨rfl,bC _⟩
   ·refine⟨?_,(Ux _ _).1⟩;simp only[aQ,g_]
    cases o.dst<;>simp [jR]
  refine⟨by rw[acc,g,e.1],by rw[acc];exact dB e.2 c,fun i m n a d b p f=> ?_⟩;rw[acc]
  cases i with
  |zero=>
   simp at a;obtain⟨rfl,rfl⟩:=a;rw[lN]at d;refine gk ?_ c;rw[d];exact(Ux _ _).2 b p f
  |succ i=>exact j i m n (by simpa using a) (by rwa [show k+1+i=k+(i+1) by omega]) b p f
theorem Ct{L:Nat→Bool} : ∀(l:List (Oper×Rec)) (k:Nat) (st:K),(∀i,k≤i→L i=false)→acc L l k st=st
 |[],_,_,_=>rfl
 |(o,r)::l,k,st,h=>by
  rw[acc,h k (bC _)];exact Ct l (k+1) st fun i a=>h i (by omega)
theorem tH.at{E:Env}{ops:Array Oper}{l:List Oper}{st b:K}{rs:List Rec}(h:tH E ops l st rs b): ∀k,l.length=rs.length∧b=acc (fun _=>true) (l.zip rs) k st∧
  ∀(j:Nat) o r,(l.zip rs)[j]? =some (o,r)→XA E ops o (acc (fun i=>decide (i<k+j)) (l.zip rs) k st) r:=by
 induction h with
 |nil st=>exact fun k=>⟨rfl,rfl,fun j o r h=>by simp at h⟩
 |cons o l st r rs b h k m=>
  intro n;obtain⟨c,d,e⟩:=m (n+1);refine⟨by simp [c],?_,fun j p q a=> ?_⟩
  ·rw[d];rfl
  ·cases j with
   |zero=>
    simp at a;obtain⟨rfl,rfl⟩:=a;rw[Ct _ _ _ (fun i g=>by simpa using g)];exact h
   |succ j=>
    have:=e j p q (by simpa using a);rw[List.zip_cons_cons,acc];have f:decide (n<n+(j+1))=true:=by simp
    rw[f];rw[show n+(j+1)=n+1+j by omega];exact this
def FY(a:List Edge)(acc:List Nat):Nat:=a.foldl (fun m e=>if Region.binds .any e then m|||2^e.on|||acc.getD e.on 0 else m) 0
def Bm:List Oper→List Nat→List Nat
 |[],acc=>acc
 |o::r,acc=>Bm r (acc++[FY o.after.toList acc])
def HW(a b:List (Nat×Nat)):Bool:=a.all fun x=> !b.contains x
def re(a:bM):List (Nat×Nat):=a.map fun x=>(x.1,x.2.1)
def F6(b:Nat)(l:List (Nat×Nat)):Bool:=l.all fun x=>x.1 !=b
def s8(r:Rec):List Nat:=r.au::(r.ws.map (·.1)).filter (Nat.blt r.au)
theorem ax9{r:Rec}{b:Nat}(h:b∈s8 r):r.au≤b:=by
 simp only[s8,hS,G5,hj]at h;omega
theorem ax_{r:Rec}{b p:Nat}{c:J}(h:(b,p,c)∈r.ws)(a:r.au<b):b∈s8 r:=by
 simp only[s8,hS,G5,hj,ox];exact .inr ⟨⟨_,h,rfl⟩,a⟩
def ad1(b o:Nat)(c:J):Bool:=
 match c with
 | .ptr a d=>Nat.beq a b&&Nat.beq d o
 |_=>false
def Mb(H:Heap)(rs:List Rec)(b p:Nat):Bool:=
 match B H b p with
 | .ptr a c=>rs.all fun r=>r.ws.all fun x=> !(Nat.beq x.1 b&&Nat.beq x.2.1 p)||ad1 a c x.2.2
 |_=>false
theorem afS{H:Heap}{rs:List Rec}{b p:Nat}(h:Mb H rs b p=true){r:Rec}(f:r∈rs){c:J}(d:(b,p,c)∈r.ws):c=B H b p:=by
 unfold Mb at h
 split at h<;>try (cases h;done)
 rename_i g i e;rw[e];have a:=ds.1 (ds.1 h r f) _ d;simp only[nz,Bool.and_self,Bool.not_true,Bool.false_or]at a;unfold ad1 at a
 split at a<;>try (cases a;done)
 rw[bL]at a;rw[dQ a.1,dQ a.2]
def Mx(N:Nat→Nat→Bool)(l:List (Nat×Nat)):List (Nat×Nat):=l.filter fun x=> !(N x.1 x.2)
def BG(N:Nat→Nat→Bool)(ops:Array Oper)(ms:List Nat)(i j:Nat)(d e:Oper)(a c:Rec):Bool:=
 (!(qN e.op)||(s8 c).all fun b=>F6 b (re a.ws))&&
 ((ms.getD j 0).testBit i||
   (HW (Mx N (re a.ws)) c.rd&&HW (Mx N (re a.ws)) (re c.ws)&&HW a.rd (Mx N (re c.ws))&&(!(qN d.op&& !a.ws.isEmpty)||(s8 a).all fun b=>F6 b (re c.ws))&&d.apart ops e&&c.gw.all (fun b=>F6 b (re a.ws))&&a.gw.all (fun b=>F6 b (re c.ws))))
def MH(N:Nat→Nat→Bool)(ops:Array Oper)(ms:List Nat)(a:Oper)(b:Rec)(i:Nat):List (Oper×Rec)→Nat→Bool
 |[],_=>true
 |(c,d)::l,j=>BG N ops ms i j a c b d&&MH N ops ms a b i l (j+1)
def Hy(N:Nat→Nat→Bool)(ops:Array Oper)(ms:List Nat):List (Oper×Rec)→Nat→Bool
 |[],_=>true
 |(o,r)::l,i=>MH N ops ms o r i l (i+1)&&Hy N ops ms l (i+1)
def HG:List Oper→Nat→Bool
 |[],_=>true
 |o::l,i=>o.after.all (fun e=> !Region.binds .any e||decide (e.on<i))&&HG l (i+1)
def xR(N:Nat→Nat→Bool)(ops:Array Oper)(rs:List Rec):Bool:=HG ops.toList 0&&Hy N ops (Bm ops.toList []) (ops.toList.zip rs) 0
def indep(H:Heap)(ops:Array Oper)(rs:List Rec):Bool:=xR (Mb H rs) ops rs
def aly(N:Nat→Nat→Bool)(H:Heap)(rs:List Rec):Prop:= ∀b p,N b p=true→ ∀r∈rs,∀c,(b,p,c)∈r.ws→c=B H b p
def yT(H:Heap)(ops:Array Oper)(rs:List Rec):Prop:= ∃N,aly N H rs∧xR N ops rs=true
theorem yT.of{H:Heap}{ops:Array Oper}{rs:List Rec}(h:indep H ops rs=true):yT H ops rs:=⟨_,fun _ _ a _ c _ b=>afS a c b,h⟩
def Yb(E:Env)(ops:Array Oper)(st:K)(a:K→Prop):Prop:=
 rE E ops ops.toList 0 st [] fun rs b=>yT st.k ops rs∧a b
theorem HX{a b:List (Nat×Nat)}(h:HW a b=true): ∀x,x∈a→x∉b:=fun x d c=>by
 have:=ds.1 h x d;simp at this;exact this c
theorem My{N:Nat→Nat→Bool}{l:List (Nat×Nat)}{b p:Nat}(h:(b,p)∈l)(a:N b p=false):(b,p)∈Mx N l:=G5.2 ⟨h,by simp [a]⟩
theorem ps{a:bM}{b p:Nat} :(b,p)∈re a↔writes a b p:=by
 simp only[re,ox,writes];constructor
 ·rintro⟨⟨d,f,c⟩,h,e⟩
  simp only[tz]at e;obtain⟨rfl,rfl⟩:=e;exact⟨c,h⟩
 ·rintro⟨c,h⟩
  exact⟨(b,p,c),h,rfl⟩
theorem F7{b:Nat}{l:List (Nat×Nat)}(h:F6 b l=true): ∀p,(b,p)∉l:=fun p a=>by
 have:=ds.1 h _ a;simp at this
theorem ag1{N:Nat→Nat→Bool}{ops:Array Oper}{ms:List Nat}{d:Oper}{e:Rec}{i:Nat} : ∀(l:List (Oper×Rec)) (k:Nat),MH N ops ms d e i l k=true→ ∀(j:Nat) a b,l[j]? =some (a,b)→BG N ops ms i (k+j) d a e b=true
 |[],_,_,j,a,b,h=>by simp at h
 |(o,r)::l,k,h,j,a,b,c=>by
  simp only[MH,bL]at h
  cases j with
  |zero=>simp at c;obtain⟨rfl,rfl⟩:=c;exact h.1
  |succ j=>
   have:=ag1 l (k+1) h.2 j a b (by simpa using c);rwa [show k+1+j=k+(j+1) by omega]at this
theorem Hz{N:Nat→Nat→Bool}{ops:Array Oper}{ms:List Nat} : ∀(l:List (Oper×Rec)) (k:Nat),Hy N ops ms l k=true→ ∀(i j:Nat) c d a b,i<j→l[i]? =some (c,d)→l[j]? =some (a,b)→BG N ops ms (k+i) (k+j) c a d b=true
 |[],_,_,i,j,c,d,a,b,_,h,_=>by simp at h
 |(o,r)::l,k,h,i,j,c,d,a,b,m,e,f=>by
  simp only[Hy,bL]at h;obtain⟨j,rfl⟩: ∃g,j=g+1:=⟨j-1,by omega⟩
  cases i with
  |zero=>
   simp at e;obtain⟨rfl,rfl⟩:=e;have:=ag1 l (k+1) h.1 j a b (by simpa using f);rwa [show k+1+j=k+(j+1) by omega]at this
  |succ i=>
   have:=Hz l (k+1) h.2 i j c d a b (by omega) (by simpa using e) (by simpa using f);rwa [show k+1+i=k+(i+1) by omega,show k+1+j=k+(j+1) by omega]at this
theorem Yx: ∀(l:List Oper) (k:Nat),HG l k=true→ ∀(i:Nat) o,l[i]? =some o→ ∀e∈o.after,Region.binds .any e=true→e.on<k+i
 |[],_,_,i,o,h=>by simp at h
 |o::l,k,h,i,d,c=>by
  simp only[HG,bL]at h
  cases i with
  |zero=>
   simp at c;subst c;intro e b a;have:=Array.all_eq_true_iff_forall_mem.1 h.1 e b;simpa[a]using this
  |succ i=>
   have:=Yx l (k+1) h.2 i d (by simpa using c);intro e b a;have:=this e b a;omega
theorem afn{acc:List Nat}{i:Nat} : ∀(a:List Edge) (m:Nat),(a.foldl (fun m e=>if Region.binds .any e then m|||2^e.on|||acc.getD e.on 0 else m) m).testBit i=true→
  m.testBit i=true∨ ∃e∈a,Region.binds .any e=true∧(i=e.on∨(acc.getD e.on 0).testBit i=true)
 |[],m,h=> .inl h
 |e::a,m,h=>by
  simp only[G4]at h;rcases afn a _ h with h|⟨c,d,b,f⟩
  ·split at h
   ·rename_i b;simp only[Nat.testBit_or,G6]at h;rcases h with(h|h)|h
    ·exact .inl h
    ·refine .inr ⟨e,by simp,b,.inl ?_⟩;rw[Nat.testBit_two_pow]at h;exact(al h).symm
    ·exact .inr ⟨e,by simp,b,.inr h⟩
   ·exact .inl h
  ·exact .inr ⟨c,by simp [d],b,f⟩
theorem afo{L:Nat→Prop} : ∀(l:List Oper) (done:List Oper) (acc:List Nat),acc.length=done.length→
  (∀(j:Nat) o,(done++l)[j]? =some o→L j→ ∀e∈o.after,Region.binds .any e=true→L e.on)→
  (∀(j:Nat) o i,done[j]? =some o→(acc.getD j 0).testBit i=true→(∀e∈o.after,Region.binds .any e=true→L e.on)→L i)→
  ∀(j:Nat) o i,(done++l)[j]? =some o→((Bm l acc).getD j 0).testBit i=true→(∀e∈o.after,Region.binds .any e=true→L e.on)→L i
 |[],done,acc,f,_,b=>by simpa[Bm]using b
 |x::l,done,acc,f,m,b=>by
  have:=afo l (done++[x]) (acc++[FY x.after.toList acc]) (by simp [f]) (by simpa using m) (fun j o i a c n=>by
   rcases fk j done.length with h|h
   ·rw[tu h]at a;have:(acc++[FY x.after.toList acc]).getD j 0=acc.getD j 0:=by simp [List.getD,tu (by omega:j<acc.length)]
    rw[this]at c;exact b j o i a c n
   ·have u:j=done.length:=by
     rcases fk j (done.length+1)with g|g
     ·omega
     ·rw[eF (by simpa using g)]at a;cases a
    subst u;simp at a;subst a;have:(acc++[FY x.after.toList acc]).getD done.length 0=FY x.after.toList acc:=by simp [List.getD,←f]
    rw[this]at c;rcases afn _ _ c with r|⟨e,s,t,d⟩
    ·simp at r
    ·have k:=n e (by simpa using s) t;rcases d with rfl|d
     ·exact k
     ·have q:e.on<done.length:=by
       rcases fk e.on acc.length with h|h
       ·omega
       ·simp [List.getD,eF h]at d
      have p:done[e.on]? =some done[e.on]:=cI q;exact b e.on _ i p d (m e.on _ (by rw[tu q];exact p) k))
  simpa[Bm]using this
theorem am_(n:Nat)(p q:Nat→Bool)(i:Nat)(h:i<n)(b:p i=true)(c:q i=false)(a: ∀k,k≠i→q k=p k):((List.range n).filter p).length=((List.range n).filter q).length+1:=by
 induction n with
 |zero=>omega
 |succ n g=>
  rw[List.range_succ,He,He,dC,dC]
  by_cases e:i=n
  ·subst e;have:(List.range i).filter p=(List.range i).filter q:=by
    apply List.filter_congr;intro k f;exact(a k (by have:=tA.1 f;omega)).symm
   simp [this,b,c]
  ·have:=g (by omega);have d:=a n (by omega);simp only[List.filter_cons,List.filter_nil,d];omega
theorem X9{L On:Nat→Bool} : ∀(l:List (Oper×Rec)) (k:Nat) (st:K),(∀i,i<l.length→L (k+i)=On (k+i))→acc L l k st=acc On l k st
 |[],_,_,_=>rfl
 |(o,r)::l,k,st,h=>by
  rw[acc,acc];have a:=h 0 (by simp);rw[lN]at a;rw[a];exact X9 l (k+1) _ fun i b=>by have:=h (i+1) (by simp;omega);rwa [show k+(i+1)=k+1+i by omega]at this
theorem X_: ∀(l:List (Oper×Rec)) (k j:Nat) (st:K) o r,l[j]? =some (o,r)→acc (fun i=>decide (i<k+j+1)) l k st=g_ o r (acc (fun i=>decide (i<k+j)) l k st)
 |[],_,j,_,o,r,h=>by simp at h
 |(c,d)::l,k,0,st,o,r,h=>by
  simp at h;obtain⟨rfl,rfl⟩:=h;rw[acc,acc];have a:decide (k<k+0+1)=true:=by simp
  have b:decide (k<k+0)=false:=by simp
  rw[a,b,Ct _ _ _ (fun i e=>by simp;omega),Ct _ _ _ (fun i e=>by simp;omega)];rfl
 |(c,d)::l,k,j+1,st,o,r,h=>by
  rw[acc,acc];have a:decide (k<k+(j+1)+1)=true:=by simp;omega
  have b:decide (k<k+(j+1))=true:=by simp
  rw[a,b];have:=X_ l (k+1) j (g_ c d st) o r (by simpa using h);simp only[aQ];rw[show k+(j+1)=k+1+j by omega];exact this
theorem an7{a b:List J}{x:Operand}(h: ∀t,x= .tmp t→b[t]? =a[t]?):ax b x=ax a x:=by
 cases x with
 |tmp t=>simp only[ax,List.getD,h t rfl]
 |_=>rfl
theorem aCn{ops:Array Oper}{o:Oper}{n a:List J}(h: ∀t∈o.looksAt ops,a[t]? =n[t]?):rb ops o a=rb ops o n:=by
 unfold rb
 cases c:o.guard with
 |none=>rfl
 |some q=>
  obtain⟨j,e⟩:=q;simp only
  cases b:(ops[j]?).bind (·.dst)with
  |none=>rfl
  |some d=>
   simp only;have:=h d (by simp [Oper.looksAt,c,b]);simp only[List.getD,this]
theorem aw7{ops:Array Oper}{o:Oper}{t:Nat}(h: .tmp t∈o.op.operands):t∈o.looksAt ops:=by
 simp only[Oper.looksAt,g8,List.mem_filterMap];exact .inl ⟨.tmp t,by simpa using h,rfl⟩
section
variable {E:Env} {S:dM} {ops:Array Oper} {rs:List Rec} {cE:K} {iO:Nat→Option Nat}
structure Xx (N:Nat→Nat→Bool) (ops:Array Oper) (U6:Oper) (GD:Rec) (ok:Oper) (vq:Rec):Prop where
 rd: ∀b p,N b p=false→writes vq.ws b p→(b,p)∉GD.rd
 ws: ∀b p,N b p=false→writes vq.ws b p→ ¬writes GD.ws b p
 look: ∀t,ok.dst=some t→t∉U6.looksAt ops
 dst: ∀t,ok.dst=some t→U6.dst≠some t
 gw: ∀b,b∈GD.gw→ ∀p,¬writes vq.ws b p
 au:qN U6.op=true→GD.ws≠[]→ ∀b∈s8 GD,∀p,¬writes vq.ws b p
theorem aoe{N:Nat→Nat→Bool}(z:xR N ops rs=true){L:Nat→Bool}(H: ∀(j:Nat) o,ops[j]? =some o→L j=true→ ∀e∈o.after,Region.binds .any e=true→L e.on=true)
  {j k:Nat} {l ok:Oper} {m u:Rec} (A:(ops.toList.zip rs)[j]? =some (l,m)) (B:(ops.toList.zip rs)[k]? =some (ok,u)) (Q:k≠j) (O:L j=false)
  (V: ∀e∈l.after,Region.binds .any e=true→L e.on=true):L k=decide (k<j)∨Xx N ops l m ok u:=by
 have U:ops[j]? =some l:=by
  have:=WV.1 A;simpa using this.1
 have J:ops[k]? =some ok:=by
  have:=WV.1 B;simpa using this.1
 simp only[xR,bL]at z;have K: ∀(j:Nat) o i,ops[j]? =some o→((Bm ops.toList []).getD j 0).testBit i=true→(∀e∈o.after,Region.binds .any e=true→L e.on=true)→L i=true:=fun j o i q n r=>
  afo (L:=fun i=>L i=true) ops.toList [] [] rfl (fun j o h M=>H j o (by simpa using h) M) (fun j o i h=>by simp at h) j o i (by simpa using q) n r
 rcases Nat.lt_or_gt_of_ne Q with I|P
 ·have a:=Hz _ 0 z.2 k j ok u l m I B A;simp only[BG,bL,G6,c1]at a;obtain⟨x,a⟩:=a;rcases a with a|a
  ·left;rw[K j l k U a V];simp [I]
  ·right;obtain⟨⟨⟨⟨⟨⟨q,n⟩,r⟩,s⟩,w⟩,F⟩,G⟩:=a;obtain⟨D,v,E⟩:=Oper.apart_spec w;refine⟨fun b p d c=>HX q _ (My (ps.2 c) d),fun b p d c C=>HX n _ (My (ps.2 c) d) (ps.2 C),fun t g=>D t g,fun t g=>v t g,fun b f p c=>F7 (ds.1 F b f) p (ps.2 c),fun y _ b f p c=> ?_⟩;rw[y]at x;exact F7 (ds.1 (by simpa using x) b f) p (ps.2 c)
 ·have a:=Hz _ 0 z.2 j k l m ok u P A B;simp only[BG,bL,G6,c1]at a;obtain⟨x,a⟩:=a;rcases a with a|a
  ·left;have R:L k=false:=by
    cases e:L k with
    |false=>rfl
    |true=>
     have:=K k ok j J a (H k ok J e);rw[O]at this;cases this
   rw[R];simp;omega
  ·right;obtain⟨⟨⟨⟨⟨⟨q,n⟩,r⟩,s⟩,w⟩,F⟩,G⟩:=a;obtain⟨D,v,E⟩:=Oper.apart_spec w;refine⟨fun b p d c W=>HX r _ W (My (ps.2 c) d),fun b p d c C=>HX n _ (My (ps.2 C) d) (ps.2 c),fun t g=>E t g,fun t g X=>v t X g,fun b f p c=>F7 (ds.1 G b f) p (ps.2 c),fun y S b f p c=> ?_⟩;rw[y]at s;have T:m.ws.isEmpty=false:=by cases e:m.ws with
    |nil=>exact absurd e S
    |cons=>rfl
   rw[T]at s;exact F7 (ds.1 (by simpa using s) b f) p (ps.2 c)
end
section
variable {S:dM} {ι:Nat→Option Nat} {st:K} {a:Act} {w:World}
def pC(H:Heap)(b a:Nat)(x:J):Heap:=bs (bs H b 0 dk) a 0 x
theorem aP.MZ(h:aP S ι st a w){w':World}{b bG x s n ev c:Nat}{f fB:Nat→List J}{C kd:Array Value}{T:TypeId}
  (I:B st.k b 0= .ad false s n f) (F:ι b=some x) (j2:w.heap[x]? =some (.cells C T (0,0)))
  (aso:w'.os=w.os) (asE:w'.tape=w.tape) (asp:w'.output=w.output) (nk:w'.heap.size=w.heap.size) (N: ∀k,k≠x→w'.heap[k]? =w.heap[k]?)
  (Z:w'.heap[x]? =some (.cells kd T (0,0))) (kB:kd.size=c*s) (jA:ev≤dj) (Fg:ev≤c)
  (c3: ∀i j,i<ev→j<s→ ∃av u,(fB i)[j]? =some av∧kd[i*s+j]? =some u∧aR w (aK S ι st.k w) av u)
  (R:(bG=b∧(n<ev∨(n=ev∧kd.size=C.size)))∨(bG≠b∧(∀o,B st.k bG o= .undef)∧ι bG=none)):
  ∃an,aP S an ⟨st.n,pC st.k b bG (.ad false s ev fB)⟩ a w'∧b8 an (pC st.k b bG (.ad false s ev fB)) w' (aK S an (pC st.k b bG (.ad false s ev fB)) w') (.own bG ev) (.slice (some ⟨x,0,none⟩) ev c):=by
 have adB:n≤dj:=by
  have v:=h.k b 0;rw[I]at v;rcases v.2 with dD|dD
  ·cases dD.1
  ·exact dD.1
 generalize V:pC st.k b bG (.ad false s ev fB)=H';have M:B H' bG 0= .ad false s ev fB:=by rw[←V];unfold pC;rw[eG,bf ⟨rfl,rfl⟩]
 have acT:bG≠b→B H' b 0=dk:=fun e=>by rw[←V];unfold pC;rw[eG,a7 (fun g=>e g.1.symm),eG,bf ⟨rfl,rfl⟩]
 have H: ∀k o,(k≠b∧k≠bG)∨o≠0→B H' k o=B st.k k o:=fun k o g=>by
  rw[←V];unfold pC;rw[eG,a7 (fun e=>g.elim (fun g=>g.2 e.1) fun g=>g e.2),eG,a7 (fun e=>g.elim (fun g=>g.1 e.1) fun g=>g e.2)]
 have hlen:st.k.length≤H'.length∧bG<H'.length:=by
  rw[←V];unfold pC;exact⟨dB (vi _ _ _ _).1 (vi _ _ _ _).1,(vi _ _ _ _).2⟩
 have adb: ∀o,o≠0→B st.k b o= .undef:=fun o ed=>by
  have v:=h.k b o
  cases e:B st.k b o<;>rw[e]at v<;>first|rfl|(have:=v.1;rw[I]at this;cases this;done)|exact absurd v.1 ed
 have arn: ∀o,o≠0→B st.k bG o= .undef:=fun o ed=>by
  rcases R with⟨e,_⟩|⟨_,e,_⟩
  ·rw[e];exact adb o ed
  ·exact e o
 let an:Nat→Option Nat:=fun k=>if k=bG then some x else if k=b then none else ι k
 have X:an bG=some x:=bf rfl;have adX:bG≠b→an b=none:=fun e=>by simp only[an];rw[a7 (fun g=>e g.symm)];simp
 have O: ∀k,k≠b→k≠bG→an k=ι k:=fun k hZ M=>by simp only[an];rw[a7 M,a7 hZ]
 have P: ∀k y,an k=some y→(k=bG∧y=x)∨(k≠b∧k≠bG∧ι k=some y):=fun k y d=>by
  by_cases m:k=bG
  ·subst m;rw[X]at d;cases d;exact .inl ⟨rfl,rfl⟩
  ·by_cases l:k=b
   ·rw[l,adX (fun g=>m (by rw[g,l]))]at d;cases d
   ·rw[O k l m]at d;exact .inr ⟨l,m,d⟩
 have Fu:mr st.k b:= .inl ⟨by rw[I];rfl,by rw[I];rfl⟩;have K: ∀k y,ι k=some y→k≠b→y≠x:=fun k y d je e=>je (h.inj _ _ _ d (by rw[e];exact F));have xI: ∀y p,y≠x→w'.cell? ⟨y,p,none⟩=w.cell? ⟨y,p,none⟩:=fun y p d=>World.cell?_of_block (N y d);have nf: ∀y,aK S ι st.k w y→aK S an H' w' y:=fun y ⟨q1,Q,L⟩=>⟨q1,by rw[nk];exact Q,fun k v d=>by
  rcases P k y d with⟨rfl,rfl⟩|⟨l,m,d⟩
  ·exact L b Fu F
  ·exact L k (nv (fun o=>H k o (.inl ⟨l,m⟩)) v) d⟩
 have W:ec ι st.k w (aK S ι st.k w) an H' w' (aK S an H' w'):=by
  refine⟨nf,fun y o ⟨_,_,L⟩=>xI y o fun e=>L b Fu (by rw[e];exact F),fun k lk hf r=> ?_,fun k GF lK x_ f0 r=> ?_⟩
  ·have l:k≠b:=fun e=>by rw[e,I]at r;cases r
   have m:k≠bG:=fun e=>by
    rcases R with⟨A,_⟩|⟨_,_,A⟩
    ·exact l (e.trans A)
    ·rw[e,A]at hf;cases hf
   exact⟨by rw[O k l m];exact hf,by rw[H k 0 (.inl ⟨l,m⟩)];exact r⟩
  ·by_cases l:k=b
   ·subst l;rw[I]at r;cases r;rcases R with⟨e,gu⟩|⟨e,_,_⟩
    ·subst e;refine⟨false,_,ev,fB,M,by rcases gu with h|⟨h,_⟩<;>omega,fun e=> ?_⟩;rcases gu with gu|⟨_,asD⟩
     ·omega
     ·refine⟨rfl,by rw[X,F],fun y D kV d U=> ?_⟩;rw[F]at d;cases d;rw[j2]at U;cases U;exact⟨kd,Z,asD⟩
    ·exact⟨true,0,dj+1,fun _=>[],acT e,by omega,fun e=>by omega⟩
   ·have m:k≠bG:=fun e=>by
     rcases R with⟨A,_⟩|⟨_,A,_⟩
     ·exact l (e.trans A)
     ·rw[e,A]at r;cases r
    refine⟨GF,lK,x_,f0,by rw[H k 0 (.inl ⟨l,m⟩)];exact r,bC _,fun _=>⟨rfl,O k l m,fun y D kV d U=>⟨D,?_,rfl⟩⟩⟩;rw[N y (K _ _ d l)];exact U
 refine⟨an,⟨h.below.then ⟨aso,asE,asp,by rw[nk];exact bC _,fun k r eX=>N k fun e=> ?_⟩,h.defers,fun t av h2=> ?_,fun k o=> ?_,fun gY fX y eM e4=> ?_,fun k y d=> ?_,fun k y d=> ?_,h.gr.trans W⟩,rfl,false,s,ev,fB,M,bC _,fun _=> .inl ⟨x,c,kd,T,X,rfl,Fg,Z,kB⟩⟩
 ·rcases(h.fresh b x F).1 with g|g
  ·omega
  ·exact eX (by rw[e];exact g)
 ·obtain⟨jM,q1,Q⟩:=h.n t av h2;exact⟨jM,q1,Q.step W⟩
 ·show eQ an H' w' (aK S an H' w') k o (B H' k o)
  by_cases m:k=bG
  ·subst m
   by_cases E:o=0
   ·subst E;rw[M];refine⟨rfl,.inr ⟨jA,.inr ⟨x,kd,T,X,Z,fun i j iG fg=> ?_⟩⟩⟩;obtain⟨av,u,q1,Q,L⟩:=c3 i j iG fg;exact⟨av,u,q1,Q,L.mono nf W.cell⟩
   ·rw[H k o (.inr E),arn o E];trivial
  ·by_cases l:k=b
   ·subst l
    by_cases E:o=0
    ·subst E;rw[acT (fun g=>m g.symm)];exact⟨rfl,.inl ⟨rfl,rfl,adX (fun g=>m g.symm)⟩⟩
    ·rw[H k o (.inr E),adb o E];trivial
   ·rw[H k o (.inl ⟨l,m⟩)];exact(h.k k o).step W (fun _=>O k l m) (fun y d _=>⟨xI y o (K _ _ d l),World.frozen?_of_block (N y (K _ _ d l))⟩) (fun _=>⟨O k l m,fun y d=>N y (K _ _ d l)⟩)
 ·rcases P gY y eM with⟨rfl,rfl⟩|⟨Y,eo,G⟩<;>rcases P fX y e4 with⟨rfl,q⟩|⟨hA,z,e2⟩
  ·rfl
  ·exact absurd rfl (K _ _ e2 hA)
  ·subst q;exact absurd rfl (K _ _ G Y)
  ·exact h.inj gY fX y G e2
 ·rw[nk];rcases P k y d with⟨rfl,rfl⟩|⟨Y,eo,G⟩
  ·exact h.fresh b _ F
  ·exact h.fresh k y G
 ·rcases P k y d with⟨rfl,rfl⟩|⟨Y,eo,G⟩
  ·exact hlen.2
  ·exact gk (h.gn k y G) hlen.1
end
theorem y5{w:World}{x:Nat}{C:Array Value}{T:TypeId}{z:Nat×Nat}(h:w.heap[x]? =some (.cells C T z))(o:Nat):w.cell? ⟨x,o,none⟩=C[o]? :=by
 simp [World.cell?,h]
theorem Db{w:World}{x:Nat}{C:Array Value}{T:TypeId}(h:w.heap[x]? =some (.cells C T (0,0)))(o:Nat):w.frozen? ⟨x,o,none⟩=false:=by
 simp [World.frozen?,h]
theorem aP.Gp{S:dM}{ι:Nat→Option Nat}{st:K}{a:Act}{w:World}(h:aP S ι st a w){b n M:Nat}{g:Nat→List J}{v:Value}(o:B st.k b 0= .ad false M n g)(e:eg S ι st.k w (.own b n) v):
  n≤dj∧((∃x c C T,ι b=some x∧v= .slice (some ⟨x,0,none⟩) n c∧n≤c∧w.heap[x]? =some (.cells C T (0,0))∧C.size=c*M∧ ∀i j,i<n→j<M→ ∃av u,(g i)[j]? =some av∧C[i*M+j]? =some u∧aR w (aK S ι st.k w) av u)∨
   (n=0∧ι b=none∧v= .slice none 0 0)):=by
 obtain⟨_,I,L,H,G,k,_,r⟩:=e;rw[o]at k;cases k;have d:=h.k b 0;rw[o]at d;obtain⟨_,z|⟨t,d⟩⟩:=d
 ·cases z.1
 refine⟨t,?_⟩;rcases r rfl with⟨x,c,C,T,f,e,D,l,s⟩|⟨q,A,e⟩
 ·rcases d with d|⟨N,E,F,p,m,y⟩
  ·rw[f]at d;cases d.2
  ·rw[f]at p;cases p;rw[l]at m;cases m;exact .inl ⟨x,c,C,T,f,e,D,l,s,y⟩
 ·exact .inr ⟨q,A,e⟩
theorem aR.U9{w:World}{F:Nat→Prop}{av:J}{v:Value}(h:aR w F av v):v.oneCell'=true:=af0 h.one
theorem mg{i j M n:Nat}(a:i<n)(b:j<M):i*M+j<n*M:=by
 have:(i+1)*M≤n*M:=g7 M a;rw[ir]at this;omega
end Go.af
namespace Go.af
open Go Go.Proofs Go.RowKit Go.Shelf
section
variable {P:Program}
def wa(g:Nat→List J)(i j t:Nat):List J:=bif Nat.blt t i then g t else g (t+(j-i))
def NA(P:Program)(f:FuncId)(k:Nat)(z:Value):Prop:= ∀(a d n i j:Nat) (w:World) (b c:List Value) (_:(Builtin.zeroCells z.cells (j-i)).toList=c) (_:c.length=(j-i)*k) (_: ∀v∈c,v.oneCell'=true)
    (_:b.length=(n-j)*k) (_: ∀v∈b,v.oneCell'=true) (_: ∀t u,b[t]? =some u→w.cell? ⟨a,j*k+t,none⟩=some u)
    (_: ∀t,t<n*k→(w.cell? ⟨a,t,none⟩).isSome=true) (_: ∀t,w.frozen? ⟨a,t,none⟩=false)
    (_:n≤d) (_:i<j) (_:j≤n),
    Calls P f #[.slice (some ⟨a,0,none⟩) n d,.int .i64 i,.int .i64 j] w fun e w'=>e= .returned (.slice (some ⟨a,0,none⟩) (n- (j-i)) d)∧w'=(w.drew.setCells a (i*k) b).setCells a ((i+(n-j))*k) c
theorem anz{f:FuncId}{M:Nat}{z:Value}(n_:NA P f M z)(hf: ∀m,(Builtin.zeroCells z.cells m).toList.length=m*M∧ ∀v∈(Builtin.zeroCells z.cells m).toList,v.oneCell'=true)(n i j:Nat)(g:Nat→List J)(sK:i<j)(fg:j≤n):
  fm P f [.own 0 n,.int .i64 i,.int .i64 j] [[.ad false M n g]] [.own 1 (n- (j-i))] [[dk],[.ad false M (n- (j-i)) (wa g i j)]]:=by
 intro S ι w cv sH xK r
 match cv,xK with
 |[v0,v1,v2],_=>
 obtain⟨_,Y,VU⟩:=r.n 0 _ rfl;obtain⟨_,q1,I⟩:=r.n 1 _ rfl;obtain⟨_,Z,K⟩:=r.n 2 _ rfl;simp only[tv,List.getElem?_cons_zero,List.getElem?_cons_succ,gM]at Y q1 Z;subst Y q1 Z;have I:v1= .int .i64 i:=by
  have:aR w (aK S ι [[.ad false M n g]] w) (.int .i64 i) v1:=I
  cases this;rfl
 have K:v2= .int .i64 j:=by
  have:aR w (aK S ι [[.ad false M n g]] w) (.int .i64 j) v2:=K
  cases this;rfl
 subst I K;obtain⟨jA,⟨x,c,C,T,jC,rfl,O,A,L,H⟩|⟨eW,_⟩⟩:=r.Gp (b:=0) (g:=g) (M:=M) rfl VU
 case inr=>omega
 have asi:n*M≤C.size:=by rw[L];exact g7 M O
 have aDP:j*M+(n-j)*M=n*M:=by rw[←hi];congr 1;omega
 have U: ∀t,t<n*M→ ∃u,C[t]? =some u∧u.oneCell'=true:=fun t a=>by
  have W:0<M:=by
   rcases vC M with e|e
   ·rw[e]at a;omega
   ·exact e
  have D:t/M<n:=(Nat.div_lt_iff_lt_mul W).2 a;obtain⟨av,u,_,o,F⟩:=H (t/M) (t%M) D (Nat.mod_lt _ W);rw[tB,Nat.div_add_mod]at o;exact⟨u,o,F.U9⟩
 let d:List Value:=(C.toList.drop (j*M)).take ((n-j)*M);have R:d.length=(n-j)*M:=by simp only[d,jj,rl,Array.length_toList];omega
 have Q: ∀t u,d[t]? =some u→C[j*M+t]? =some u∧t<(n-j)*M:=fun t u s=>by
  have a:t<d.length:=(hv.1 s).1;rw[R]at a;simp only[d]at s;rw[yH a,ou,M_]at s;exact⟨s,a⟩
 have ash: ∀v∈d,v.oneCell'=true:=fun v c3=>by
  obtain⟨t,a⟩:=ov c3;obtain⟨D,gX⟩:=Q t v a;obtain⟨u,l,o⟩:=U (j*M+t) (by omega);rw[D]at l;cases l;exact o
 obtain⟨T0,FD⟩:=hf (j-i);have aDJ:i*M+(n-j)*M+(j-i)*M=n*M:=by rw[←hi,←hi];congr 1;omega
 refine(n_ x c n i j w d _ rfl T0 FD R ash (fun t u s=>by rw[y5 A];exact(Q t u s).1) (fun t a=>by
  rw[y5 A];obtain⟨u,l,_⟩:=U t a;rw[l];rfl) (fun t=>Db A t) O sK fg).mono ?_
 rintro e w' ⟨rfl,rfl⟩
 have SV:w.drew.heap[x]? =some (.cells C T (0,0)):=A;obtain⟨⟨aiA,b6,eo,a3⟩,a4,e2,hA,jM,lk⟩:=qJ x d (i*M) w.drew C T (0,0) SV;obtain⟨⟨tF,gB,bG,iS⟩,lU,ll,HD,HE,HF⟩:=qJ x (Builtin.zeroCells z.cells (j-i)).toList ((i+(n-j))*M) (w.drew.setCells x (i*M) d) aiA T (0,0) b6;generalize (w.drew.setCells x (i*M) d).setCells x ((i+(n-j))*M) (Builtin.zeroCells z.cells (j-i)).toList=w' at*
 have hmul:(i+(n-j))*M=i*M+(n-j)*M:=hi _ _ _;obtain⟨an,h,X⟩:=aP.MZ (b:=0) (bG:=1) (f:=g) (fB:=wa g i j) (ev:=n- (j-i)) (c:=c) (w':=w') (kd:=tF) r rfl jC A (by rw[HD,hA];rfl) (by rw[HE,jM];rfl) (by rw[HF,lk];rfl) (by rw[lU,a4];rfl)
  (fun k N=>by rw[ll k N,e2 k N];rfl) gB (by rw[bG,eo];exact L) (by omega) (by omega) (fun p q cM E=>by
   have TB:=mg cM E;have asg:(n- (j-i))*M=i*M+(n-j)*M:=by rw[←hi];congr 1;omega
   rw[iS,a7 (by omega),a3];unfold wa
   by_cases V:p<i
   ·have G:Nat.blt p i=true:=by simpa[hj]using V
    have:=mg V E;rw[a7 (by omega),G];exact H p q (by omega) E
   ·have G:Nat.blt p i=false:=by
     cases e:Nat.blt p i with
     |false=>rfl
     |true=>exact absurd (gL e) (by omega)
    have D:i*M≤p*M:=g7 M (by omega);have gX:(p-i)*M=p*M-i*M:=B_ _ _ _;have e4:(p+(j-i))*M=p*M+(j-i)*M:=hi _ _ _;have AW:j*M=i*M+(j-i)*M:=by rw[←hi];congr 1;omega
    rw[bf ⟨by omega,by omega,by omega⟩,G];obtain⟨av,u,l,o,F⟩:=H (p+(j-i)) q (by omega) E;refine⟨av,u,l,?_,F⟩;have a:p*M+q-i*M<(n-j)*M:=by omega
    simp only[d];rw[yH a,ou,M_,←o]
    congr 1;omega) (.inr ⟨by simp,fun amc=>by simp [B],by
    cases e:ι 1 with
    |none=>rfl
    |some y=>have:=r.gn 1 y e;simp at this⟩)
 have jc:pC [[J.ad false M n g]] 0 1 (.ad false M (n- (j-i)) (wa g i j))=[[dk],[.ad false M (n- (j-i)) (wa g i j)]]:=rfl;rw[jc]at h X;refine⟨[.slice (some ⟨x,0,none⟩) (n- (j-i)) c],an,rfl,rfl,h.below,rfl,fun t av a=> ?_,h.k,h.inj,h.fresh,h.gn,h.gr⟩
 match t with
 |0=>cases a;exact⟨_,rfl,X⟩
 |t+1=>simp at a
end
section
variable {P:Program} {ρ:Ren}
def kF(g:Nat→List J)(i:Nat)(v:Nat→List J)(t:Nat):List J:=bif Nat.blt t i then g t else bif Nat.beq t i then v 0 else g (t-1)
theorem Lv{g v:Nat→List J}{i t:Nat}(h:t<i):kF g i v t=g t:=by
 unfold kF;rw[show Nat.blt t i=true by simpa[hj]using h];rfl
theorem Yy{a b:Nat}(h:b≤a):Nat.blt a b=false:=by
 cases e:Nat.blt a b with
 |false=>rfl
 |true=>exact absurd (gL e) (by omega)
theorem FH{g v:Nat→List J}{i:Nat} :kF g i v i=v 0:=by
 unfold kF;rw[Yy (bC _),nz];rfl
theorem adZ{g v:Nat→List J}{i t:Nat}(h:i<t):kF g i v t=g (t-1):=by
 unfold kF;rw[Yy (by omega),show Nat.beq t i=false by
  cases e:Nat.beq t i with
  |false=>rfl
  |true=>have:=dQ e;omega];rfl
theorem Below.ahr{B:Nat}{a w:World}(h:Below B a w){x:Nat}(f:B≤x): ∀(b:List Value) (o:Nat),Below B a (w.setCells x o b)
 |b,o=>by
  induction b generalizing w o with
  |nil=>exact h
  |cons v b d=>
   rw[World.setCells];have c:Below B w (w.setCell ⟨x,o,none⟩ v):=⟨rfl,rfl,rfl,by simp,fun k e=>Below.heap_setCell w ⟨x,o,none⟩ v k (by show k≠x;omega)⟩;exact d (h.trans c) _
theorem YN{w:World}{F:Nat→Prop}{n M c:Nat}{g:Nat→List J}{C:Array Value}(s:n≤c)(r:C.size=c*M)(l: ∀i j,i<n→j<M→ ∃av u,(g i)[j]? =some av∧C[i*M+j]? =some u∧aR w F av u):
  ∃cs:List Value,cs.length=n*M∧(∀t u,cs[t]? =some u→C[t]? =some u∧t<n*M)∧(∀v∈cs,v.oneCell'=true)∧ ∀i j,i<n→j<M→ ∃av u,(g i)[j]? =some av∧cs[i*M+j]? =some u∧aR w F av u:=by
 have y:n*M≤C.size:=by rw[r];exact g7 M s
 have k:(C.toList.take (n*M)).length=n*M:=by simp only[jj,Array.length_toList];omega
 have h: ∀t,t<n*M→(C.toList.take (n*M))[t]? =C[t]? :=fun t a=>by rw[yH a,M_]
 refine⟨C.toList.take (n*M),k,fun t u b=> ?_,fun v x=> ?_,fun i j m o=> ?_⟩
 ·have a:t<n*M:=by have:=(hv.1 b).1;rwa [k]at this
  rw[h t a]at b;exact⟨b,a⟩
 ·obtain⟨t,b⟩:=ov x;have a:t<n*M:=by have:=(hv.1 b).1;rwa [k]at this
  rw[h t a]at b;have p:0<M:=by
   rcases vC M with e|e
   ·rw[e]at a;omega
   ·exact e
  obtain⟨av,u,_,d,f⟩:=l (t/M) (t%M) ((Nat.div_lt_iff_lt_mul p).2 a) (Nat.mod_lt _ p);rw[tB,Nat.div_add_mod]at d;rw[b]at d;cases d;exact f.U9
 ·obtain⟨av,u,q,d,f⟩:=l i j m o;exact⟨av,u,q,by rw[h _ (mg m o)];exact d,f⟩
theorem atb{k bytes:Nat}{cM:Value}(L:pQ P ρ k bytes cM)(K8:0<k)(Fb:bytes≤255)(xO: ∀m,(Builtin.zeroCells cM.cells m).size=m*k)(n i:Nat)(g v:Nat→List J)(iG:i≤n)(eX:n+1≤dj):
  fm P (ρ.f 22) [.own 0 n,.int .i64 i,.own 1 1] [[.ad false k n g],[.ad false k 1 v]] [.own 0 (n+1)] [[.ad false k (n+1) (kF g i v)],[.ad false k 1 v]]:=by
 intro S ι w cv sH xK O
 match cv,xK with
 |[v0,v1,v2],_=>
 obtain⟨_,g1,VU⟩:=O.n 0 _ rfl;obtain⟨_,q1,Gz⟩:=O.n 1 _ rfl;obtain⟨_,fh,VW⟩:=O.n 2 _ rfl;simp only[tv,List.getElem?_cons_zero,List.getElem?_cons_succ,gM]at g1 q1 fh;subst g1 q1 fh;have Gz:v1= .int .i64 i:=by
  have:aR w (aK S ι [[.ad false k n g],[.ad false k 1 v]] w) (.int .i64 i) v1:=Gz
  cases this;rfl
 subst Gz;obtain⟨_,⟨y,z,D,vM,sO,rfl,asf,AX,aq0,aqZ⟩|⟨eW,_⟩⟩:=O.Gp (b:=1) (g:=v) (M:=k) rfl VW
 case inr=>omega
 obtain⟨o,A,fJ,aZ,anD⟩:=YN asf aq0 aqZ;rw[Nat.one_mul]at A;have S_:(n+1)*bytes≤140737488355328:=by
  have:(n+1)*bytes≤549755813888*255:=Nat.mul_le_mul eX Fb;omega
 have A7:n≤549755813888:=by have:dj=549755813888:=rfl;omega
 have pf: ∀j u,o[j]? =some u→w.cell? ⟨y,j,none⟩=some u:=fun j u hu=>by rw[y5 AX];exact(fJ j u hu).1
 have Fx: ∀j,j<k→ ∃av u,(v 0)[j]? =some av∧o[j]? =some u∧aR w (aK S ι [[.ad false k n g],[.ad false k 1 v]] w) av u:=fun j fg=>by
  have:=anD 0 j (by omega) fg;rwa [Nat.zero_mul,c1]at this
 have aDL:(i+1)*k=i*k+k:=ir _ _;have aDT:(n+1)*k=n*k+k:=ir _ _;have fin: ∀(w':World) (an:Nat→Option Nat) (u:Value) (H':Heap),H'=[[.ad false k (n+1) (kF g i v)],[.ad false k 1 v]]→aP S an ⟨[.own 0 n,.int .i64 i,.own 1 1],H'⟩ {tmps:= #[v0,.int .i64 i,.slice (some ⟨y,0,none⟩) 1 z],defers:=[]} w'→b8 an H' w' (aK S an H' w') (.own 0 (n+1)) u→
   ∃us an,Ending.returned u= .returned (pack us)∧us.length=1∧aP S an ⟨[.own 0 (n+1)],[[.ad false k (n+1) (kF g i v)],[.ad false k 1 v]]⟩ {tmps:=us.toArray,defers:=[]} w':=fun w' an u H' e F hu=>by
  subst e;refine⟨[u],an,rfl,rfl,F.below,rfl,fun t av h2=> ?_,F.k,F.inj,F.fresh,F.gn,F.gr⟩
  match t with
  |0=>cases h2;exact⟨_,rfl,hu⟩
  |t+1=>simp at h2
 have place: ∀(x c:Nat) (C X:Array Value) (T:TypeId) (w':World),ι 0=some x→n+1≤c→w.heap[x]? =some (.cells C T (0,0))→C.size=c*k→w'.os=w.os→w'.tape=w.tape→w'.output=w.output→w'.heap.size=w.heap.size→(∀q,q≠x→w'.heap[q]? =w.heap[q]?)→
   w'.heap[x]? =some (.cells X T (0,0))→X.size=C.size→(∀p q,p<n+1→q<k→ ∃av u,(kF g i v p)[q]? =some av∧X[p*k+q]? =some u∧aR w (aK S ι [[.ad false k n g],[.ad false k 1 v]] w) av u)→
   ∃us an,Ending.returned (.slice (some ⟨x,0,none⟩) (n+1) c)= .returned (pack us)∧us.length=1∧aP S an ⟨[.own 0 (n+1)],[[.ad false k (n+1) (kF g i v)],[.ad false k 1 v]]⟩ {tmps:=us.toArray,defers:=[]} w':=fun x c C X T w' jC jd r W V gX e4 AW KI ac1 xC xD=>by
  obtain⟨an,F,TR⟩:=aP.MZ (b:=0) (bG:=0) (f:=g) (fB:=kF g i v) (ev:=n+1) (c:=c) (w':=w') (kd:=X) O rfl jC r V gX e4 AW KI ac1 (by rw[xC];exact W) eX jd xD (.inl ⟨rfl,.inl (by omega)⟩);exact fin w' an _ _ rfl F TR
 have fresh: ∀(G:Nat) (R:Array Value) (T:TypeId) (w':World),n+1≤G→Below w.heap.size w w'→w.heap.size<w'.heap.size→w'.heap[w.heap.size]? =some (.cells R T (0,0))→R.size=G*k→
   (∀p q,p<n+1→q<k→ ∃av u,(kF g i v p)[q]? =some av∧R[p*k+q]? =some u∧aR w (aK S ι [[.ad false k n g],[.ad false k 1 v]] w) av u)→
   ∃us an,Ending.returned (.slice (some ⟨w.heap.size,0,none⟩) (n+1) G)= .returned (pack us)∧us.length=1∧aP S an ⟨[.own 0 (n+1)],[[.ad false k (n+1) (kF g i v)],[.ad false k 1 v]]⟩ {tmps:=us.toArray,defers:=[]} w':=fun G R T w' N nd gu aq9 KR xD=>by
  obtain⟨F,TR⟩:=aP.Gt O nd (b:=0) (x:=w.heap.size) (bC _) gu (M:=k) (n:=n+1) (c:=G) (f:=kF g i v) (C:=R) (T:=T) eX N aq9 KR (F':=aK S ι [[.ad false k n g],[.ad false k 1 v]] w) (fun _ h=> .inl h)
   (fun p q I d=>by
    obtain⟨av,u,Q,K,s⟩:=xD p q I d;exact⟨av,u,Q,K,s.mono (fun _ h=>h) fun vx amc TZ=>nd.cell TZ.2.1⟩) (.inr ⟨n,g,rfl,by omega⟩)
  exact fin w' _ _ _ rfl F TR
 obtain⟨_,⟨x,c,C,T,jC,rfl,me,r,W,k6⟩|⟨eW,aD9,rfl⟩⟩:=O.Gp (b:=0) (g:=g) (M:=k) rfl VU
 ·obtain⟨cs,B,f2,f3,f4⟩:=YN me W k6;have asW:y≠x:=fun e=>by have:=O.inj 0 1 x jC (by rw[←e];exact sO);omega
  have Fh: ∀j u,cs[j]? =some u→w.cell? ⟨x,j,none⟩=some u:=fun j u hu=>by rw[y5 r];exact(f2 j u hu).1
  have aDF: ∀j,j<n*k→cs[j]? =C[j]? :=fun j fg=>by
   have V:cs[j]? =some (cs[j]'(by omega)):=cI (by omega);rw[V,(f2 j _ V).1]
  have Z:(n+1)≤c→(n+1)*k≤C.size:=fun h=>by rw[W];exact g7 k h
  have A9:n+1≤c→ ∀j,j<(n+1)*k→(w.cell? ⟨x,j,none⟩).isSome=true:=fun h j fg=>by
   have:=Z h;rw[y5 r,pH (by omega)];rfl
  by_cases sL:i=n
  ·subst sL
   by_cases E:i+1≤c
   ·refine(atc L x i c y z o w E A (A9 E) (fun j=>Db r j) pf aZ).mono ?_
    rintro e w' ⟨rfl,rfl⟩
    obtain⟨⟨U,Q,K,s⟩,Y,e2,hA,jM,lk⟩:=qJ x o (i*k) w C T (0,0) r;refine place x c C U T _ jC E r W hA jM lk Y e2 Q K fun p q I d=> ?_;have:=Z E
    by_cases l:p<i
    ·have:=mg l d;rw[Lv l,s,a7 (by omega)];exact k6 p q l d
    ·have l:p=i:=by omega
     subst l;rw[FH,s,bf ⟨by omega,by omega,by omega⟩,show p*k+q-p*k=q by omega];exact Fx q d
   ·refine(ad0 L (some ⟨x,0,none⟩) i c y z cs o w me (by omega) S_ A7 B A (fun h=>by cases h) (fun a xF j u fg=>by cases xF;rw[Addr.add_lit,c1];exact Fh j u fg) pf aZ).mono ?_
    rintro e w' ⟨rfl,rfl⟩
    have N:=vA w (i+1) c (ρ.t 9);generalize grownCap w (i+1) c (ρ.t 9)=G at*
    refine fresh G _ (ρ.t 9) _ N ((Below.drew (Below.refl _ w)).alloc (bC _) _) (by simp) (rk w.drew _) (by
     simp only[vB,pI,dC,xO,B,A];have:(G- (i+1))*k+(i+1)*k=G*k:=by rw[←hi];congr 1;omega
     omega) fun p q I d=> ?_
    have TB:=mg I d;rw[pG (by simp only[pI,dC,B,A];omega)];simp only[tv]
    by_cases l:p<i
    ·have:=mg l d;rw[Lv l,tu (by omega)];exact f4 p q l d
    ·have l:p=i:=by omega
     subst l;rw[FH,Ca (by omega),B,show p*k+q-p*k=q by omega];exact Fx q d
  ·have gu:i<n:=by omega
   have aDR:(n-i)*k+i*k=n*k:=by rw[←hi];congr 1;omega
   have aDG:(cs.drop (i*k)).length=(n-i)*k:=by rw[rl,B];omega
   by_cases E:n+1≤c
   ·have SV:C.size≠0:=by have:=Z E;have:0<(n+1)*k:=Nat.mul_pos (by omega) K8;omega
    refine(ate L x n c i y z cs o w gu E A7 asW B A Fh (A9 E) (fun j=>Db r j) pf f3 aZ vM T D.size C.size (by simp [World.shape?,AX]) (by simp [World.shape?,r]) SV (fun j=>Db AX j)).mono ?_
    rintro e w' ⟨rfl,rfl⟩
    have aqY:w.drew.heap[x]? =some (.cells C T (0,0)):=r;obtain⟨⟨U,Q,K,s⟩,Y,e2,hA,jM,lk⟩:=qJ x (cs.drop (i*k)) (i*k+k) w.drew C T (0,0) aqY;obtain⟨⟨tF,gB,bG,iS⟩,lU,ll,HD,HE,HF⟩:=qJ x o (i*k) (w.drew.setCells x (i*k+k) (cs.drop (i*k))) U T (0,0) Q;refine place x c C tF T _ jC E r W (by rw[HD,hA];rfl) (by rw[HE,jM];rfl) (by rw[HF,lk];rfl) (by rw[lU,Y];rfl) (fun q d=>by rw[ll q d,e2 q d];rfl) gB (by rw[bG,K]) fun p q I d=> ?_;have Z:=Z E;have TB:=mg I d;rw[iS]
    by_cases l:p<i
    ·have:=mg l d;rw[Lv l,a7 (by omega),s,a7 (by omega)];exact k6 p q (by omega) d
    ·by_cases Tz:p=i
     ·subst Tz;rw[FH,bf ⟨by omega,by omega,by omega⟩,show p*k+q-p*k=q by omega];exact Fx q d
     ·have V:(i+1)*k≤p*k:=g7 k (by omega);have gX:(p-1)*k+k=p*k:=by rw[←ir];congr 1;omega
      rw[adZ (by omega),a7 (by omega),s,bf ⟨by omega,by omega,by omega⟩,ou,show i*k+(p*k+q- (i*k+k))=(p-1)*k+q by omega];exact f4 (p-1) q (by omega) d
   ·refine(atd L K8 xO x n c i y z cs o w gu me (by omega) S_ A7 B A Fh pf f3 aZ).mono ?_
    rintro e w' ⟨rfl,rfl⟩
    have N:=vA w (n+1) c (ρ.t 9);generalize grownCap w (n+1) c (ρ.t 9)=G at*
    have aDr:(G- (n+1))*k+(n+1)*k=G*k:=by rw[←hi];congr 1;omega
    have aDS:(n+1-i)*k+i*k=(n+1)*k:=by rw[←hi];congr 1;omega
    generalize ac5:(cs.take (i*k)).toArray++Builtin.zeroCells cM.cells (n+1-i)++Builtin.zeroCells cM.cells (G- (n+1))=H;have KR:H.size=G*k:=by
     rw[←ac5];simp only[vB,pI,jj,xO,B];omega
    have aq_:(w.alloc (.cells H (ρ.t 9))).drew.heap[w.heap.size]? =some (.cells H (ρ.t 9) (0,0)):=rk w _;obtain⟨⟨U,Q,K,s⟩,Y,e2,hA,jM,lk⟩:=qJ w.heap.size o (i*k) (w.alloc (.cells H (ρ.t 9))).drew H (ρ.t 9) (0,0) aq_;have alO:((w.alloc (.cells H (ρ.t 9))).drew.setCells w.heap.size (i*k) o).drew.heap[w.heap.size]? =some (.cells U (ρ.t 9) (0,0)):=Q;obtain⟨⟨tF,gB,bG,iS⟩,lU,ll,HD,HE,HF⟩:=qJ w.heap.size (cs.drop (i*k)) (i*k+k) ((w.alloc (.cells H (ρ.t 9))).drew.setCells w.heap.size (i*k) o).drew U (ρ.t 9) (0,0) alO;refine fresh G tF (ρ.t 9) _ N ?_ (by rw[lU];show w.heap.size<((w.alloc (.cells H (ρ.t 9))).drew.setCells w.heap.size (i*k) o).heap.size;rw[Y];show w.heap.size<(w.alloc (.cells H (ρ.t 9))).heap.size;simp) gB (by rw[bG,K,KR]) fun p q I d=> ?_
    ·exact Below.ahr (Below.drew (Below.ahr (Below.drew ((Below.refl _ w).alloc (bC _) _)) (bC _) _ _)) (bC _) _ _
    have TB:=mg I d;rw[iS]
    by_cases l:p<i
    ·have:=mg l d;rw[Lv l,a7 (by omega),s,a7 (by omega),←ac5,pG (by simp only[vB,pI,jj,xO,B];omega),pG (by simp only[pI,jj,B];omega)];simp only[tv];rw[yH (by omega)];exact f4 p q (by omega) d
    ·by_cases Tz:p=i
     ·subst Tz;rw[FH,a7 (by omega),s,bf ⟨by omega,by omega,by omega⟩,show p*k+q-p*k=q by omega];exact Fx q d
     ·have V:(i+1)*k≤p*k:=g7 k (by omega);have gX:(p-1)*k+k=p*k:=by rw[←ir];congr 1;omega
      have e4:=mg (show p-1<n by omega) d;rw[adZ (by omega),bf ⟨by omega,by omega,by rw[K,KR];have:(n+1)*k≤G*k:=g7 k N;omega⟩,ou,show i*k+(p*k+q- (i*k+k))=(p-1)*k+q by omega];exact f4 (p-1) q (by omega) d
 ·subst eW;have arY:i=0:=by omega
  subst arY;refine(ad0 L none 0 0 y z [] o w (bC _) (by omega) S_ A7 (by simp) A (fun _=>rfl) (fun a xF=>by cases xF) pf aZ).mono ?_
  rintro e w' ⟨rfl,rfl⟩
  have N:=vA w (0+1) 0 (ρ.t 9);generalize grownCap w (0+1) 0 (ρ.t 9)=G at*
  refine fresh G _ (ρ.t 9) _ N ((Below.drew (Below.refl _ w)).alloc (bC _) _) (by simp) (rk w.drew _) (by
   simp only[pK,vB,pI,xO,A];have:(G- (0+1))*k+(0+1)*k=G*k:=by rw[←hi];congr 1;omega
   omega) fun p q I d=> ?_
  have Ty:p=0:=by omega
  subst Ty;rw[FH,pK,pG (by simp only[pI,A];omega)];simp only[tv,Nat.zero_mul,c1];exact Fx q d
end
end Go.af
