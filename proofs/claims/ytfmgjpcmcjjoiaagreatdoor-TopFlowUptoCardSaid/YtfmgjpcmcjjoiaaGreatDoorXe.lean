/- Part of a proof: the executor and its soundness. -/
import Derived.Test.YtfmgjpcmcjjoiaaGreatDoorXd
open Go.IntKind (i64 u64 u8)
open Int (toNat)
set_option maxRecDepth 100000
set_option maxHeartbeats 4000000
set_option linter.all false
noncomputable section
namespace Go.Vc
open Go Go.RowKit
structure Rec where
 val:AV
 ws:Ws
 rd:List (Nat×Nat)
 rb:List Nat
 nb:Nat
 run:Bool
def hY(o:Oper)(r:Rec)(st:St):St:=⟨kO o.dst r.val st.tm,bm st.hp r.ws⟩
def Oj(b o n:Nat):List (Nat×Nat):=(List.range n).map fun j=>(b,o+j)
def jY:AV→List (Nat×Nat)
 | .own b _=>[(b,0)]
 |_=>[]
def jZ:AV→List (Nat×Nat)
 | .agg cs=>cs.flatMap jY
 |av=>jY av
def kZ(E:Env)(tm:List AV)(op:Op):List (Nat×Nat):=
 match op with
 | .load T x=>match aC tm x with
   | .ptr b o=>match E.ty T with
     |some t=>Oj b o t.size
     |none=>[]
   | .fF b _ _ _=>[(b,0)]
   |_=>[]
 | .store T x _=>match aC tm x with
   | .ptr b o=>match E.ty T with
     |some t=>(b,0)::Oj b o t.size
     |none=>[]
   | .fF b _ _ _=>[(b,0)]
   |_=>[]
 | .fieldAddr _ x _| .nilCheck x=>match aC tm x with
   | .fF b _ _ _=>[(b,0)]
   |_=>[]
 | .indexAddr _ x _=>match aC tm x with
   | .own b _=>[(b,0)]
   |_=>[]
 | .call c=>c.args.toList.flatMap fun x=>jZ (aC tm x)
 | .slice _ x _ _ _| .convert _ _ x=>jZ (aC tm x)
 | .buildSlice _ _ ps=>ps.toList.flatMap fun p=>jZ (eR (aC tm p.2))
 |_=>[]
def qw(tm:List AV)(H:Heap)(op:Op):List Nat:=
 match op with
 | .call c=>match c.callee with
   | .value f=>match aC tm f with
     | .fn _ bp=>dG H (c.args.toList.map (aC tm)++bp)
     |_=>[]
   |_=>[]
 |_=>[]
section
variable {E:Env}
theorem Ot{b:Nat} : ∀{l:List Nat},b∈l→b∈dedup l
 |[],h=>by cases h
 |x::l,h=>by
  simp only[dedup];rcases aDa.1 h with rfl|h
  ·split
   ·rename_i e;obtain⟨y,hy,h2⟩:=List.any_eq_true.1 e;have:=aCS h2;subst this;exact Ot hy
   ·simp
  ·split
   ·exact Ot h
   ·simp [Ot h]
theorem anM{H H':Heap}{aa:List AV}(h: ∀b∈dG H aa,H'.getD b []=H.getD b []):dG H' aa=dG H aa:=by
 have key: ∀(g:AV→List Nat) (l:List Nat),(∀b∈l,H'.getD b []=H.getD b [])→(l.flatMap fun b=>(H'.getD b []).flatMap g)=l.flatMap fun b=>(H.getD b []).flatMap g:=by
  intro g l
  induction l with
  |nil=>intro _;rfl
  |cons x l ih=>
   intro hl;rw[aDj,aDj,hl x (by simp),ih fun b hb=>hl b (by simp [hb])]
 have h1:EU H' aa=EU H aa:=by
  unfold EU;rw[key YE _ fun b hb=>h b (aC5.2 (.inl (Ot (aC5.2 (.inl hb)))))]
 unfold dG;rw[h1,key OM _ fun b hb=>h b (aC5.2 (.inl hb))]
theorem ajx{H H':Heap} : ∀{L:List Nat} {ys:Heap},(∀b∈L,H'.getD b []=H.getD b [])→qz L H' ys=qz L H ys
 |[],_,_=>rfl
 |b::L,ys,h=>by
  unfold qz;rw[h b (by simp)]
  cases ys with
  |nil=>rfl
  |cons y ys=>simp only;rw[ajx fun b hb=>h b (by simp [hb])]
theorem asR{nb:Nat}{H H':Heap}{f:FuncId}{aa:List AV}{K:AV→Ws→Prop}(h: ∀b∈dG H aa,H'.getD b []=H.getD b [])(hk:ot E H nb f aa K):ot E H' nb f aa K:=by
 have e1:=anM h;unfold ot at hk ⊢;rw[e1];have e2:((dG H aa).all fun b=>zY (H'.getD b [])&&(H'.getD b []).all (nN (mem (dG H aa))))=(dG H aa).all fun b=>zY (H.getD b [])&&(H.getD b []).all (nN (mem (dG H aa))):=by
  rw[Bool.eq_iff_iff,aCR,aCR];exact⟨fun g b hb=>by rw[←h b hb];exact g b hb,fun g b hb=>by rw[h b hb];exact g b hb⟩
 have e3:((dG H aa).map fun b=>(H'.getD b []).map (fB (pos (dG H aa))))=(dG H aa).map fun b=>(H.getD b []).map (fB (pos (dG H aa))):=aEp fun b hb=>by rw[h b hb]
 rw[e2,e3]
 cases hs:E.jU f (aa.map (lM (pos (dG H aa)))) ((dG H aa).map fun b=>(H.getD b []).map (fB (pos (dG H aa))))with
 |none=>rw[hs]at hk;exact hk
 |some q=>
  obtain⟨pre,rs,ys⟩:=q;rw[hs]at hk;simp only at hk ⊢;rw[ajx h];exact hk
theorem asS{nb:Nat}{H:Heap}{f:FuncId}{aa:List AV}{K:AV→Ws→Prop}(hk:ot E H nb f aa K): ∃av ws,ot E H nb f aa (fun x y=>x=av∧y=ws)∧K av ws:=by
 unfold ot at hk;obtain⟨h1,hk⟩:=aD.1 hk
 cases hs:E.jU f (aa.map (lM (pos (dG H aa)))) ((dG H aa).map fun b=>(H.getD b []).map (fB (pos (dG H aa))))with
 |none=>rw[hs]at hk;exact hk.elim
 |some q=>
  obtain⟨pre,rs,ys⟩:=q;rw[hs]at hk;obtain⟨h2,hk⟩:=qv.1 hk;obtain⟨h3,hk⟩:=aD.1 hk;refine⟨_,_,?_,hk⟩;unfold ot;refine aD.2 ⟨h1,?_⟩;rw[hs];exact qv.2 ⟨h2,aD.2 ⟨h3,rfl,rfl⟩⟩
theorem abb{H H':Heap}{b o n:Nat}(h: ∀l∈Oj b o n,aj H' l.1 l.2=aj H l.1 l.2):lr H' b o n=lr H b o n:=by
 unfold lr;apply aEp;intro j hj;exact h (b,o+j) (by simp [Oj];simpa using hj)
theorem aa3{dC:List (Nat×Nat)}{tm gN:List AV}{K:List AV→Prop} : ∀(ps:List (Nat×Operand)) (cs:List AV),(∀x∈ps,aC gN x.2=aC tm x.2)→nJ dC tm ps cs K→nJ dC gN ps cs K
 |[],cs,_,h=>h
 |(i,x)::ps,cs,hx,h=>by
  simp only[nJ]at h ⊢
  cases e:dC[i]? with
  |none=>rw[e]at h;exact h.elim
  |some q=>
   rw[e]at h;simp only at h ⊢;have h1:=hx (i,x) (by simp);simp only at h1;rw[h1];rw[aD]at h ⊢;exact⟨h.1,aa3 ps _ (fun y hy=>hx y (by simp [hy])) h.2⟩
theorem ab9{H H':Heap}{x:AV}{K:AV→Prop}(hH: ∀l∈jY x,aj H' l.1 l.2=aj H l.1 l.2)(h:ji H x K):ji H' x K:=by
 cases x<;>simp only[ji]at h ⊢ <;>try exact h
 rename_i b k;rw[show aj H' b 0=aj H b 0 from hH (b,0) (by simp [jY])];exact h
theorem SW{H H':Heap} : ∀{cs:List AV} {K:List AV→Prop},(∀l∈cs.flatMap jY,aj H' l.1 l.2=aj H l.1 l.2)→mr H cs K→mr H' cs K
 |[],_,_,h=>h
 |c::cs,K,hH,h=>by
  simp only[mr]at h ⊢;refine ab9 (fun l hl=>hH l (by simp [hl])) ?_;have key: ∀{K1 K2:AV→Prop},(∀y,K1 y→K2 y)→ji H c K1→ji H c K2:=fun {K1 K2} hk h=>by
   cases c<;>simp only[ji]at h ⊢ <;>try first|exact hk _ h|exact(aD.2 ⟨(aD.1 h).1,hk _ (aD.1 h).2⟩)
   split at h
   ·exact⟨h.1,hk _ h.2⟩
   ·exact h
  exact key (fun y=>SW fun l hl=>hH l (by simp only[aDj,aC5];exact .inr hl)) h
theorem apC{H H':Heap}{x:AV}{K:AV→Prop}(hH: ∀l∈jZ x,aj H' l.1 l.2=aj H l.1 l.2)(h:lx H x K):lx H' x K:=by
 cases x
 case agg cs=>exact SW (K:=fun ys=>K (.agg ys)) hH h
 all_goals
  simp only[jZ]at hH;simp only[lx]at h ⊢;exact ab9 hH h
theorem SP{H:Heap}{c:AV}{K1 K2:AV→Prop}(hk: ∀y,K1 y→K2 y)(h:ji H c K1):ji H c K2:=by
 cases c<;>simp only[ji]at h ⊢ <;>try first|exact hk _ h|exact(aD.2 ⟨(aD.1 h).1,hk _ (aD.1 h).2⟩)
 split at h
 ·exact⟨h.1,hk _ h.2⟩
 ·exact h
theorem xv{H:Heap} : ∀{cs:List AV} {K1 K2:List AV→Prop},(∀y,K1 y→K2 y)→mr H cs K1→mr H cs K2
 |[],_,_,hk,h=>hk _ h
 |c::cs,K1,K2,hk,h=>by
  simp only[mr]at h ⊢;exact SP (fun y=>xv fun ys=>hk _) h
theorem SQ{H:Heap}{c:AV}{K1 K2:AV→Prop}(hk: ∀y,K1 y→K2 y)(h:lx H c K1):lx H c K2:=by
 cases c
 case agg cs=>exact xv (K1:=fun ys=>K1 (.agg ys)) (K2:=fun ys=>K2 (.agg ys)) (fun ys=>hk _) h
 all_goals
  simp only[lx]at h ⊢;exact SP hk h
theorem Fu{H:Heap} : ∀{cs:List AV} {K1 K2:List AV→Prop},(∀y,K1 y→K2 y)→mW H cs K1→mW H cs K2
 |[],_,_,hk,h=>hk _ h
 |c::cs,K1,K2,hk,h=>by
  simp only[mW]at h ⊢;exact SQ (fun y=>Fu fun ys=>hk _) h
theorem acd{H H':Heap} : ∀{cs:List AV} {K:List AV→Prop},(∀l∈cs.flatMap jZ,aj H' l.1 l.2=aj H l.1 l.2)→mW H cs K→mW H' cs K
 |[],_,_,h=>h
 |c::cs,K,hH,h=>by
  simp only[mW]at h ⊢;refine apC (fun l hl=>hH l (by simp only[aDj,aC5];exact .inl hl)) ?_;exact SQ (fun y=>acd fun l hl=>hH l (by simp only[aDj,aC5];exact .inr hl)) h
theorem Km{H:Heap} : ∀{ls:List (List AV)} {K1 K2:List (List AV)→Prop},(∀y,K1 y→K2 y)→nQ H ls K1→nQ H ls K2
 |[],_,_,hk,h=>hk _ h
 |l::ls,K1,K2,hk,h=>by
  simp only[nQ]at h ⊢;exact xv (fun y=>Km fun ys=>hk _) h
theorem acn{H H':Heap} : ∀{ls:List (List AV)} {K:List (List AV)→Prop},(∀l∈ls.flatten.flatMap jY,aj H' l.1 l.2=aj H l.1 l.2)→nQ H ls K→nQ H' ls K
 |[],_,_,h=>h
 |l::ls,K,hH,h=>by
  simp only[nQ]at h ⊢;refine SW (fun q hq=>hH q (by simp only[aDX,aD9,aC5];exact .inl hq)) ?_;exact xv (fun y=>acn fun q hq=>hH q (by simp only[aDX,aD9,aC5];exact .inr hq)) h
theorem an_{y:AV}{q:Nat×Nat}(h:q∈(cellsOf y).flatMap jY):q∈jZ y:=by
 cases y<;>simp only[cellsOf,jZ,jY,aDj,List.flatMap_nil,aDi,aC5,aEb,or_false]at h ⊢ <;>first|exact h|(cases h;done)
theorem aiS{aO:Nat}{tm:List AV} : ∀{ps:List (Nat×Operand)} {k:Nat} {l:List (List AV)},lL aO tm ps k=some l→
  (∀q∈l.flatten.flatMap jY,q∈ps.flatMap fun p=>jZ (eR (aC tm p.2)))∧ ∀c∈l.flatten,aco c=true
 |[],k,l,h=>by
  simp only[lL,aC3]at h;subst h;exact⟨fun q hq=>by simp at hq,fun c hc=>by simp at hc⟩
 |(i,x)::r,k,l,h=>by
  simp only[lL]at h
  split at h
  ·rename_i hc;simp only[aCN]at hc
   split at h
   ·rename_i l' HE;simp only[aC3]at h;subst h;obtain⟨g1,g2⟩:=aiS HE;refine⟨fun q hq=> ?_,fun c pW=> ?_⟩
    ·simp only[aDX,aD9,aC5]at hq;simp only[aDj,aC5];exact hq.imp an_ (g1 q)
    ·simp only[aDX,aC5]at pW;rcases pW with pW|pW
     ·exact aCR.1 hc.2.2 c pW
     ·exact g2 c pW
   ·cases h
  ·cases h
def WH(H:Heap)(aO:Nat)(x:AV)(z:Int)(K:AV→Prop):Prop:=
 match x with
 | .arr sz n f=>cT (decide (sz=aO)) ((0≤z∧z<n)∧K (.ref ((f z.toNat).take sz)))
 | .own b k=>match aj H b 0 with
   | .ah _ sz n _=>cT (decide (sz=aO)) (k=n∧(0≤z∧z<n)∧K (.fF b k z.toNat 0))
   |_=>False
 |_=>False
theorem atK{H H':Heap}{aO:Nat}{x:AV}{z:Int}{K:AV→Prop}(hH: ∀b k,x= .own b k→aj H' b 0=aj H b 0)(h:WH H aO x z K):WH H' aO x z K:=by
 cases x
 case own b k=>
  unfold WH at h ⊢;simp only at h ⊢;rw[hH b k rfl];exact h
 all_goals exact h
theorem aiR{aO:Nat}{tm gN:List AV} : ∀{ps:List (Nat×Operand)} {k:Nat},(∀x∈ps,aC gN x.2=aC tm x.2)→lL aO gN ps k=lL aO tm ps k
 |[],_,_=>rfl
 |(i,x)::r,k,h=>by
  have h1:=h (i,x) (by simp);simp only at h1;simp only[lL,h1,aiR (ps:=r) (k:=k+1) fun y hy=>h y (by simp [hy])]
theorem EP{tm gN:List AV}{d:Int}{o:Option Operand}{K:Int→Prop}(h: ∀y,o=some y→aC gN y=aC tm y)(hk:cB tm d o K):cB gN d o K:=by
 cases o with
 |none=>exact hk
 |some x=>simp only[cB]at hk ⊢;rw[h x rfl];exact hk
theorem vf{tm:List AV}{d:Int}{o:Option Operand}{K1 K2:Int→Prop}(hK: ∀z,K1 z→K2 z)(hb:cB tm d o K1):cB tm d o K2:=by
 cases o with
 |none=>exact hK _ hb
 |some x=>
  simp only[cB]at hb ⊢
  cases e:aC tm x<;>rw[e]at hb<;>simp only at hb ⊢ <;>first|exact hb.elim|exact hK _ hb
theorem aAE{t:Ty}{H H':Heap}{tm gN:List AV}{x:AV}{l hh m:Option Operand}{K:AV→Ws→Prop}(hx: ∀y,(l=some y∨hh=some y∨m=some y)→aC gN y=aC tm y)(hH: ∀p∈jZ x,aj H' p.1 p.2=aj H p.1 p.2)(hk:sA t H tm x l hh m K):sA t H' gN x l hh m K:=by
 unfold sA at hk ⊢;rw[aD]at hk ⊢;obtain⟨hc,hk⟩:=hk;refine⟨hc,?_⟩;have b3: ∀{d0 d1:Int} {K:Int→Int→Int→Prop},(cB tm d0 l fun lo=>cB tm d1 hh fun hi=>cB tm hi m fun mx=>K lo hi mx)→(cB gN d0 l fun lo=>cB gN d1 hh fun hi=>cB gN hi m fun mx=>K lo hi mx):=fun hb=>
  EP (fun y hy=>hx y (.inl hy)) (vf (fun lo hb=>EP (fun y hy=>hx y (.inr (.inl hy))) (vf (fun hi hb=>EP (fun y hy=>hx y (.inr (.inr hy))) hb) hb)) hb)
 have b2: ∀{d0 d1:Int} {K:Int→Int→Prop},(cB tm d0 l fun lo=>cB tm d1 hh fun hi=>K lo hi)→(cB gN d0 l fun lo=>cB gN d1 hh fun hi=>K lo hi):=fun hb=>
  EP (fun y hy=>hx y (.inl hy)) (vf (fun lo hb=>EP (fun y hy=>hx y (.inr (.inl hy))) hb) hb)
 cases ed:t.d<;>rw[ed]at hk<;>simp only at hk ⊢ <;>try exact hk.elim
 ·cases x<;>simp only at hk ⊢ <;>try exact hk.elim
  cases m with
  |none=>exact b2 hk
  |some _=>exact hk.elim
 ·cases x<;>simp only at hk ⊢ <;>try exact hk.elim
  ·exact b3 hk
  ·rw[aD]at hk ⊢;exact⟨hk.1,b3 hk.2⟩
  ·rename_i b k;rw[show aj H' b 0=aj H b 0 from hH (b,0) (by simp [jZ,jY])]
   cases e:aj H b 0<;>rw[e]at hk<;>simp only at hk ⊢
   rw[aD]at hk ⊢;exact⟨hk.1,hk.2.1,b3 hk.2.2⟩
theorem YS{H H':Heap}{x:AV}(hH: ∀l∈jY x,aj H' l.1 l.2=aj H l.1 l.2):uR H' x=uR H x:=by
 cases x<;>first|rfl|skip
 rename_i b k;simp only[uR];rw[show aj H' b 0=aj H b 0 from hH (b,0) (by simp [jY])]
theorem J9{α β:Type}{f g:α→List β} : ∀{l:List α},(∀x∈l,f x=g x)→l.flatMap f=l.flatMap g
 |[],_=>rfl
 |x::l,h=>by
  rw[aDj,aDj,h x (by simp),J9 fun y hy=>h y (by simp [hy])]
theorem aAi{H H':Heap}{r:AV}{aa:List AV}(hH: ∀l∈aa.flatMap jZ,aj H' l.1 l.2=aj H l.1 l.2):oF H' r aa=oF H r aa:=by
 unfold oF
 split
 ·rfl
 ·unfold eI;apply J9;intro x hx;have hl: ∀l∈jZ x,aj H' l.1 l.2=aj H l.1 l.2:=fun l hl=>hH l (aDh.2 ⟨x,hx,hl⟩)
  cases x
  case agg cs=>
   simp only[D3];apply J9;intro c hc;exact YS fun l h=>hl l (aDh.2 ⟨c,hc,h⟩)
  all_goals
   simp only[jZ]at hl;simp only[D3];exact YS hl
theorem ajL{H H':Heap}{str:Bool}{aO:Nat}{y:AV}{K K':Nat→(Nat→List AV)→Prop}(hH: ∀b k,y= .own b k→aj H' b 0=aj H b 0)(hK: ∀m g,K m g→K' m g)(hk:nE H str aO y K):nE H' str aO y K':=by
 cases y<;>simp only[nE]at hk ⊢ <;>try exact hk.elim
 ·exact aD.2 ((aD.1 hk).imp id (hK _ _))
 ·exact aD.2 ((aD.1 hk).imp id (hK _ _))
 ·exact aD.2 ((aD.1 hk).imp id (hK _ _))
 ·rename_i b k;rw[hH b k rfl]
  cases e:aj H b 0<;>rw[e]at hk<;>simp only at hk ⊢
  rw[aD]at hk ⊢;exact⟨hk.1,hk.2.1,hK _ _ hk.2.2⟩
theorem anx{t:Ty}{str:Bool}{H H':Heap}{nb:Nat}{x y:AV}{K:AV→Ws→Prop}(hx: ∀b k,x= .own b k→aj H' b 0=aj H b 0)(hy: ∀b k,y= .own b k→aj H' b 0=aj H b 0)(hk:oJ t str H nb x y K):oJ t str H' nb x y K:=by
 unfold oJ at hk ⊢
 cases ed:t.d<;>rw[ed]at hk<;>simp only at hk ⊢ <;>try exact hk.elim
 rw[aD]at hk ⊢;refine⟨hk.1,ajL hy (fun m g h=> ?_) hk.2⟩
 cases x<;>simp only at h ⊢ <;>try exact h
 rename_i b k;rw[hx b k rfl];exact h
theorem anu{nb:Nat}{tm gN:List AV}{H H':Heap}{op:Op}{K:AV→Ws→Prop}(hx: ∀x∈op.operands,aC gN x=aC tm x)(hH: ∀l∈kZ E tm op,aj H' l.1 l.2=aj H l.1 l.2)(hB: ∀b∈qw tm H op,H'.getD b []=H.getD b [])(hk:iQ E nb tm H op K):iQ E nb gN H' op K:=by
 cases op<;>simp only[iQ]at hk ⊢ <;>try exact hk.elim
 case move x=>rw[hx x (by simp [Op.operands])];exact hk
 case assign x=>rw[hx x (by simp [Op.operands])];exact hk
 case pick c x y=>rw[hx c (by simp [Op.operands]),hx x (by simp [Op.operands]),hx y (by simp [Op.operands])];exact hk
 case alloc T=>exact hk
 case box T x=>rw[hx x (by simp [Op.operands])];exact hk
 case build T ps=>
  unfold dq at hk ⊢
  cases e:E.ty T with
  |none=>rw[e]at hk;exact hk.elim
  |some t=>
   rw[e]at hk;simp only at hk ⊢
   cases ed:t.d<;>rw[ed]at hk<;>simp only at hk ⊢ <;>try exact hk.elim
   exact aa3 _ _ (fun x cQ=>hx x.2 (by simp [Op.operands];exact⟨x.1,by simpa using cQ⟩)) hk
 case load T x=>
  have e1:=hx x (by simp [Op.operands]);unfold dq at hk ⊢
  cases e:E.ty T with
  |none=>rw[e]at hk;exact hk.elim
  |some t=>
   rw[e]at hk;simp only[kZ,e]at hk hH ⊢;rw[e1]
   cases ex:aC tm x<;>rw[ex]at hk hH<;>simp only[oB]at hk ⊢ <;>try exact hk
   ·rw[abb hH];exact hk
   ·rename_i b k i o;rw[show aj H' b 0=aj H b 0 from hH (b,0) (by simp)];exact hk
 case store T x y=>
  have e1:=hx x (by simp [Op.operands]);have e2:=hx y (by simp [Op.operands]);unfold dq at hk ⊢
  cases e:E.ty T with
  |none=>rw[e]at hk;exact hk.elim
  |some t=>
   rw[e]at hk;simp only[kZ,e]at hk hH ⊢;rw[e1,e2]
   cases ex:aC tm x<;>rw[ex]at hk hH<;>simp only[uV]at hk ⊢ <;>try exact hk
   ·rename_i b o;rw[abb (fun l hl=>hH l (by simp [hl])),show aj H' b 0=aj H b 0 from hH (b,0) (by simp)];exact hk
   ·rename_i b k i o;rw[show aj H' b 0=aj H b 0 from hH (b,0) (by simp)];exact hk
 case makeSlice T l c=>
  have e1:=hx l (by simp [Op.operands]);have e2:=hx c (by simp [Op.operands]);unfold dq at hk ⊢
  cases e:E.ty T with
  |none=>rw[e]at hk;exact hk.elim
  |some t=>
   rw[e]at hk;simp only at hk ⊢;unfold sa at hk ⊢;rw[e1,e2];exact hk
 case nilCheck x=>
  have e1:=hx x (by simp [Op.operands]);simp only[kZ]at hH;rw[e1]
  cases ex:aC tm x<;>rw[ex]at hk hH<;>simp only[uI]at hk ⊢ <;>try exact hk
  rename_i b k i o;rw[show aj H' b 0=aj H b 0 from hH (b,0) (by simp)];exact hk
 case binOp op T x y T'=>rw[hx x (by simp [Op.operands]),hx y (by simp [Op.operands])];exact hk
 case unOp op T x=>rw[hx x (by simp [Op.operands])];exact hk
 case fieldAddr T x f=>
  have e1:=hx x (by simp [Op.operands]);unfold dq at hk ⊢
  cases e:E.ty T with
  |none=>rw[e]at hk;exact hk.elim
  |some t=>
   rw[e]at hk;simp only[kZ]at hk hH ⊢;rw[e1];simp only[sY]at hk ⊢
   cases ed:t.d<;>rw[ed]at hk<;>simp only at hk ⊢ <;>try exact hk.elim
   rename_i dC
   cases eo:dC[f]? with
   |none=>rw[eo]at hk;exact hk.elim
   |some q=>
    rw[eo]at hk;simp only at hk ⊢
    cases ex:aC tm x<;>rw[ex]at hk hH<;>simp only at hk ⊢ <;>try exact hk
    rename_i b k i o;rw[show aj H' b 0=aj H b 0 from hH (b,0) (by simp)];exact hk
 case indexAddr T x y=>
  have e1:=hx x (by simp [Op.operands]);have e2:=hx y (by simp [Op.operands]);unfold dq at hk ⊢
  cases e:E.ty T with
  |none=>rw[e]at hk;exact hk.elim
  |some t=>
   rw[e]at hk;simp only[kZ]at hk hH ⊢;rw[e1,e2];simp only[uq]at hk ⊢
   cases ed:t.d<;>rw[ed]at hk<;>simp only at hk ⊢ <;>try exact hk.elim
   case array=>exact hk
   cases ey:aC tm y<;>rw[ey]at hk<;>simp only at hk ⊢ <;>try exact hk.elim
   rename_i aO _ _ z;exact atK (H:=H) (aO:=aO) (x:=aC tm x) (z:=z) (K:=fun av=>K av []) (fun b k e=>hH (b,0) (by rw[e];simp)) hk
 case index T x y=>
  have e1:=hx x (by simp [Op.operands]);have e2:=hx y (by simp [Op.operands]);rw[e1,e2];exact hk
 case extract x i=>rw[hx x (by simp [Op.operands])];exact hk
 case buildSlice T len ps=>
  unfold dq at hk ⊢
  cases e:E.ty T with
  |none=>rw[e]at hk;exact hk.elim
  |some t=>
   rw[e]at hk;have hp: ∀aO,lL aO gN ps.toList 0=lL aO tm ps.toList 0:=fun aO=>aiR (fun x cQ=>hx x.2 (by simp [Op.operands];exact⟨x.1,by simpa using cQ⟩));simp only[kZ]at hH;simp only[qM,hp]at hk ⊢
   cases ed:t.d<;>rw[ed]at hk<;>simp only at hk ⊢ <;>try exact hk.elim
   rename_i ee aO eb
   cases hl:lL aO tm ps.toList 0 with
   |none=>rw[hl]at hk;exact hk.elim
   |some l=>
    rw[hl]at hk;simp only at hk ⊢;obtain⟨h1,h2⟩:=aD.1 hk;obtain⟨o1,o2⟩:=aiS hl;have gS: ∀q∈l.flatten.flatMap jY,aj H' q.1 q.2=aj H q.1 q.2:=fun q hq=>hH q (o1 q hq);have zK:eI H' l.flatten=eI H l.flatten:=by
     unfold eI;apply J9;intro c hc;have HA:=o2 c hc;have Nn: ∀q∈jY c,aj H' q.1 q.2=aj H q.1 q.2:=fun q hq=>gS q (aDh.2 ⟨c,hc,hq⟩)
     cases c
     case agg cs=>cases HA
     all_goals
      simp only[D3];exact YS Nn
    refine aD.2 ⟨h1,acn gS (Km (fun ys h=> ?_) h2)⟩;obtain⟨f,f1,f2⟩:=h;exact⟨f,f1,by rw[zK];exact f2⟩
 case slice T x l hh m=>
  have e1:=hx x (by simp [Op.operands]);unfold dq at hk ⊢
  cases e:E.ty T with
  |none=>rw[e]at hk;exact hk.elim
  |some t=>
   rw[e]at hk;simp only at hk ⊢;rw[e1];refine aAE (fun y hy=>hx y ?_) (fun l hl=>hH l hl) hk;simp only[Op.operands,Array.mem_append,Option.mem_toArray];rcases hy with hy|hy|hy
   ·exact .inl (.inl (.inr hy))
   ·exact .inl (.inr hy)
   ·exact .inr hy
 case makeFunc fn first captured=>
  cases ef:fn<;>rw[ef]at hk<;>simp only at hk ⊢ <;>try exact hk.elim
  have:captured.toList.map (aC gN)=captured.toList.map (aC tm):=aEp fun x cQ=>hx x (by
   simp only[Op.operands];exact Array.mem_append.2 (.inr (by simpa using cQ)))
  rw[this];exact hk
 case convert Ts Td x=>
  have e1:=hx x (by simp [Op.operands]);unfold dq at hk ⊢
  cases e:E.ty Ts with
  |none=>rw[e]at hk;exact hk.elim
  |some t=>
   rw[e]at hk;simp only at hk ⊢
   cases e':E.ty Td with
   |none=>rw[e']at hk;exact hk.elim
   |some u=>
    rw[e']at hk;simp only at hk ⊢;rw[e1]
    cases ex:aC tm x<;>rw[ex]at hk<;>simp only[sU]at hk ⊢ <;>try exact hk
    rename_i b k;rw[show aj H' b 0=aj H b 0 from hH (b,0) (by simp [kZ,ex,jZ,jY])];exact hk
 case call c=>
  have eK: ∀x∈c.args.toList,aC gN x=aC tm x:=fun x cQ=>hx x (by
   simp only[Op.operands,Call.operands];exact Array.mem_append.2 (.inr (by simpa using cQ)))
  have Wa: ∀{x:AV},(∃y∈c.args.toList,x=aC tm y)→ ∀b k,x= .own b k→aj H' b 0=aj H b 0:=fun {x} hx b k e=>by
   obtain⟨y,hy,rfl⟩:=hx;exact hH (b,0) (aDh.2 ⟨y,hy,by rw[e];simp [jZ,jY]⟩)
  cases ec:c.callee with
  |value f=>
   rw[ec]at hk;simp only at hk ⊢;have hf:aC gN f=aC tm f:=hx f (by simp only[Op.operands,Call.operands,ec];simp);rw[hf];unfold AT at hk ⊢
   cases ef:aC tm f<;>rw[ef]at hk<;>simp only at hk ⊢ <;>try exact hk.elim
   rename_i g bp;rw[aEp eK]
   cases ep:zS E.ho g (c.args.toList.map (aC tm)++bp)with
   |true=>
    rw[ep]at hk;simp only at hk ⊢;refine asR (fun b hb=>hB b ?_) hk;simp only[qw,ec,ef];exact hb
   |false=>
   rw[ep]at hk;simp only at hk ⊢;rw[aD]at hk ⊢;obtain⟨C9,hk⟩:=hk;refine⟨C9,?_⟩;have key: ∀z:AV,jY (IM z)=jY z:=fun z=>by cases z<;>rfl
   have gS: ∀l∈((c.args.toList.map (aC tm)++bp).map eR).flatMap jZ,aj H' l.1 l.2=aj H l.1 l.2:=fun l hl=>by
    rw[List.map_append,aD9,aC5]at hl;rcases hl with hl|hl
    ·refine hH l ?_;simp only[aDh,aDx]at hl;obtain⟨y,⟨y',⟨x,pc,rfl⟩,rfl⟩,hl⟩:=hl;refine aDh.2 ⟨x,pc,?_⟩
     cases ez:aC tm x<;>rw[ez]at hl<;>first|exact hl|skip
     simp only[jZ,eR,aDh,aDx]at hl ⊢;obtain⟨z',⟨z,hz,rfl⟩,hl⟩:=hl;exact⟨z,hz,by rw[key]at hl;exact hl⟩
    ·simp only[aDh,aDx]at hl;obtain⟨y,⟨y',jo,rfl⟩,hl⟩:=hl;have h7:=aCR.1 C9 y' jo
     cases y'<;>first|(cases h7;done)|(simp [eR,IM,jZ,jY]at hl;done)
   unfold vh at hk ⊢;refine acd gS (Fu (fun ys h=> ?_) hk)
   cases hs:E.spec g ys with
   |none=>rw[hs]at h;exact h.elim
   |some q=>
    rw[hs]at h;obtain⟨pre,r⟩:=q;simp only at h ⊢;rwa [aAi gS]
  |invoke r m=>rw[ec]at hk;exact hk.elim
  |builtin b=>
   rw[ec]at hk
   cases b<;>simp only at hk ⊢ <;>try exact hk.elim
   case append=>
    split at hk
    ·rename_i x y T T2 ex eT;rw[ex]at eK Wa;have e1:=eK x (by simp);have e2:=eK y (by simp);unfold dq at hk ⊢
     cases e:E.ty T with
     |none=>rw[e]at hk;exact hk.elim
     |some t=>
      rw[e]at hk;simp only at hk ⊢
      cases e':E.ty T2 with
      |none=>rw[e']at hk;exact hk.elim
      |some t2=>
       rw[e']at hk;simp only at hk ⊢;rw[aD]at hk ⊢;rw[e1,e2];exact⟨hk.1,anx (Wa ⟨x,by simp,rfl⟩) (Wa ⟨y,by simp,rfl⟩) hk.2⟩
    ·exact hk.elim
   case min=>
    split at hk
    ·rename_i x y ex;rw[ex]at eK;rw[eK x (by simp),eK y (by simp)];exact hk
    ·exact hk.elim
   case max=>
    split at hk
    ·rename_i x y ex;rw[ex]at eK;rw[eK x (by simp),eK y (by simp)];exact hk
    ·exact hk.elim
   case len=>
    simp only[kZ]at hH
    split at hk
    ·rename_i x T ex eT;rw[ex]at eK hH;have e1:=eK x (by simp);rw[e1];unfold dq at hk ⊢
     cases e:E.ty T with
     |none=>rw[e]at hk;exact hk.elim
     |some t=>
      rw[e]at hk;simp only at hk ⊢;rw[aD]at hk ⊢;refine⟨hk.1,?_⟩;have hk:=hk.2
      cases ex:aC tm x<;>rw[ex]at hk<;>simp only[qi]at hk ⊢ <;>try exact hk
      rename_i b k;rw[show aj H' b 0=aj H b 0 from hH (b,0) (by simp [ex,jZ,jY])];exact hk
    ·exact hk.elim
theorem aiV{b:Bool}{x y:AV}{K:AV→Prop}(h:I4 b x y K): ∃av,I4 b x y (fun z=>z=av)∧K av:=by
 cases b<;>exact⟨_,rfl,h⟩
theorem axr{t:Ty}{H:Heap}{x:AV}{K:AV→Prop}(h:oB t H x K): ∃av,oB t H x (fun z=>z=av)∧K av:=by
 cases x<;>simp only[oB,aD]at h ⊢ <;>try exact h.elim
 ·exact⟨_,⟨h.1,rfl⟩,h.2⟩
 ·split at h
  ·exact⟨_,⟨h.1,h.2.1,h.2.2.1,rfl⟩,h.2.2.2⟩
  ·exact h.elim
 ·exact⟨_,⟨h.1,rfl⟩,h.2⟩
theorem aAP{t:Ty}{H:Heap}{x y:AV}{K:Ws→Prop}(h:uV t H x y K): ∃ws,uV t H x y (fun z=>z=ws)∧K ws:=by
 cases x<;>simp only[uV,aD]at h ⊢ <;>try exact h.elim
 ·exact⟨_,⟨h.1,rfl⟩,h.2⟩
 ·rename_i b k i o
  cases e:aj H b 0<;>rw[e]at h<;>simp only at h ⊢ <;>try exact h.elim
  obtain⟨h1,h2,h3,g,hg,hK⟩:=h;exact⟨_,⟨h1,h2,h3,g,hg,rfl⟩,hK⟩
theorem axG{E:Env}{t:Ty}{tm:List AV}{nb:Nat}{l c:Operand}{K:AV→Ws→Prop}(h:sa E t tm nb l c K): ∃av ws,sa E t tm nb l c (fun x y=>x=av∧y=ws)∧K av ws:=by
 unfold sa at h ⊢
 cases ed:t.d<;>rw[ed]at h<;>simp only at h ⊢ <;>try exact h.elim
 rename_i e aO eb
 cases Fg:E.ty e<;>rw[Fg]at h<;>simp only at h ⊢
 cases el:aC tm l<;>rw[el]at h<;>simp only at h ⊢ <;>try exact h.elim
 cases ec:aC tm c<;>rw[ec]at h<;>simp only at h ⊢ <;>try exact h.elim
 obtain⟨h1,h2,h3⟩:=aD.1 h;exact⟨_,_,aD.2 ⟨h1,h2,rfl,rfl⟩,h3⟩
theorem apk{t:Ty}{H:Heap}{f:Nat}{x:AV}{K:AV→Prop}(h:sY t H f x K): ∃av,sY t H f x (fun z=>z=av)∧K av:=by
 unfold sY at h ⊢
 cases ed:t.d<;>rw[ed]at h<;>simp only at h ⊢ <;>try exact h.elim
 rename_i dC
 cases eo:dC[f]? <;>rw[eo]at h<;>simp only at h ⊢
 cases x<;>simp only at h ⊢ <;>try exact h.elim
 ·exact⟨_,rfl,h⟩
 ·split at h
  ·exact⟨_,⟨h.1,rfl⟩,h.2⟩
  ·exact h.elim
 ·exact⟨_,rfl,h⟩
theorem atI{t:Ty}{H:Heap}{x y:AV}{K:AV→Prop}(h:uq t H x y K): ∃av,uq t H x y (fun z=>z=av)∧K av:=by
 unfold uq at h ⊢
 cases ed:t.d<;>rw[ed]at h<;>simp only at h ⊢ <;>try exact h.elim
 case array=>
  cases y<;>simp only at h ⊢ <;>try exact h.elim
  cases x<;>simp only[aD]at h ⊢ <;>first|exact h.elim|exact⟨_,⟨h.1,rfl⟩,h.2⟩
 cases y<;>simp only at h ⊢ <;>try exact h.elim
 cases x<;>simp only at h ⊢ <;>try exact h.elim
 ·rw[aD]at h;exact⟨_,aD.2 ⟨h.1,h.2.1,rfl⟩,h.2.2⟩
 ·split at h
  ·rw[aD]at h;exact⟨_,aD.2 ⟨h.1,h.2.1,h.2.2.1,rfl⟩,h.2.2.2⟩
  ·exact h.elim
theorem atA{E:TypeId→Option Ty}{t:Ty}{x y:AV}{K:AV→Prop}(h:wv E t x y K): ∃av,wv E t x y (fun z=>z=av)∧K av:=by
 unfold wv at h ⊢
 cases ed:t.d<;>rw[ed]at h<;>simp only at h ⊢ <;>try exact h.elim
 cases y<;>simp only at h ⊢ <;>try exact h.elim
 cases x<;>simp only at h ⊢ <;>try exact h.elim
 rename_i n e aO _ _ _
 cases eu:E e<;>rw[eu]at h<;>simp only[aD]at h ⊢ <;>first|exact h.elim|exact⟨_,⟨h.1,rfl⟩,h.2⟩
theorem atS{op:BinOp}{k:IntKind}{p q:Int}{K:AV→Prop}(h:wz op k p q K): ∃av,wz op k p q (fun z=>z=av)∧K av:=by
 cases op<;>simp only[wz]at h ⊢ <;>first|exact h.elim|exact⟨_,rfl,h⟩|exact⟨_,⟨h.1,rfl⟩,h.2⟩
theorem anJ{t:Ty}{op:BinOp}{x y:AV}{K:AV→Prop}(h:pB t op x y K): ∃av,pB t op x y (fun z=>z=av)∧K av:=by
 cases x<;>cases y<;>simp only[pB]at h ⊢ <;>try exact h.elim
 ·cases es:NY op with
  |true=>
   rw[es]at h;simp only[Pk]at h ⊢;obtain⟨h0,h⟩:=h
   cases op<;>simp only at h ⊢ <;>first|exact h.elim|exact⟨_,⟨h0,rfl⟩,h⟩
  |false=>
   rw[es]at h;simp only at h ⊢;rw[aD]at h;obtain⟨av,h1,h2⟩:=atS h.2;exact⟨av,aD.2 ⟨h.1,h1⟩,h2⟩
 ·cases ed:t.d<;>rw[ed]at h<;>simp only at h ⊢ <;>try exact h.elim
  cases op<;>simp only at h ⊢ <;>first|exact h.elim|exact⟨_,rfl,h⟩
 ·cases op<;>simp only at h ⊢ <;>first|exact h.elim|exact⟨_,rfl,h⟩|exact⟨_,⟨h.1,rfl⟩,h.2⟩
 ·rw[aD]at h;obtain⟨h1,h4⟩:=h
  cases op<;>simp only at h4 ⊢ <;>first|exact h4.elim|exact⟨_,aD.2 ⟨h1,rfl⟩,h4⟩
theorem aBd{op:UnOp}{x:AV}{K:AV→Prop}(h:Ay op x K): ∃av,Ay op x (fun z=>z=av)∧K av:=by
 cases op<;>cases x<;>simp only[Ay]at h ⊢ <;>first|exact h.elim|exact⟨_,rfl,h⟩
theorem axh{H:Heap}{x:AV}{K:AV→Prop}(h:qi H x K): ∃av,qi H x (fun z=>z=av)∧K av:=by
 cases x<;>simp only[qi]at h ⊢ <;>try first|exact h.elim|exact⟨_,rfl,h⟩
 split at h
 ·exact⟨_,⟨h.1,rfl⟩,h.2⟩
 ·exact h.elim
theorem ayr{H:Heap}{x:AV}{K:AV→Prop}(h:uI H x K): ∃av,uI H x (fun z=>z=av)∧K av:=by
 cases x<;>simp only[uI]at h ⊢ <;>try first|exact h.elim|exact⟨_,rfl,h⟩
 split at h
 ·exact⟨_,⟨h.1,rfl⟩,h.2⟩
 ·exact h.elim
theorem aa4{dC:List (Nat×Nat)}{tm:List AV}{K:List AV→Prop} : ∀(ps:List (Nat×Operand)) (cs:List AV),nJ dC tm ps cs K→ ∃kM,nJ dC tm ps cs (fun z=>z=kM)∧K kM
 |[],cs,h=>⟨cs,rfl,h⟩
 |(i,x)::ps,cs,h=>by
  simp only[nJ]at h ⊢
  cases e:dC[i]? with
  |none=>rw[e]at h;exact h.elim
  |some q=>
   rw[e]at h;simp only at h ⊢;rw[aD]at h;obtain⟨kM,h1,h2⟩:=aa4 ps _ h.2;exact⟨kM,aD.2 ⟨h.1,h1⟩,h2⟩
theorem acb{H:Heap}{x:AV}{K:AV→Prop}(h:ji H x K): ∃y,ji H x (fun z=>z=y)∧K y:=by
 cases x<;>simp only[ji]at h ⊢ <;>try first|exact⟨_,rfl,h⟩|exact⟨_,aD.2 ⟨(aD.1 h).1,rfl⟩,(aD.1 h).2⟩
 split at h
 ·exact⟨_,⟨h.1,rfl⟩,h.2⟩
 ·exact h.elim
theorem SX{H:Heap} : ∀{cs:List AV} {K:List AV→Prop},mr H cs K→ ∃ys,mr H cs (fun z=>z=ys)∧K ys
 |[],_,h=>⟨[],rfl,h⟩
 |c::cs,K,h=>by
  obtain⟨y,h1,h2⟩:=acb h;obtain⟨ys,h3,h4⟩:=SX h2;exact⟨y::ys,SP (fun z hz=>by subst hz;exact xv (fun zs jW=>by rw[jW]) h3) h1,h4⟩
theorem SY{H:Heap} : ∀{ls:List (List AV)} {K:List (List AV)→Prop},nQ H ls K→ ∃ys,nQ H ls (fun z=>z=ys)∧K ys
 |[],_,h=>⟨[],rfl,h⟩
 |c::cs,K,h=>by
  obtain⟨y,h1,h2⟩:=SX h;obtain⟨ys,h3,h4⟩:=SY h2;exact⟨y::ys,xv (fun z hz=>by subst hz;exact Km (fun zs jW=>by rw[jW]) h3) h1,h4⟩
theorem apE{H:Heap}{x:AV}{K:AV→Prop}(h:lx H x K): ∃y,lx H x (fun z=>z=y)∧K y:=by
 cases x
 case agg cs=>
  obtain⟨ys,h1,h2⟩:=SX (K:=fun ys=>K (.agg ys)) h;exact⟨.agg ys,xv (K2:=fun z=>AV.agg z= .agg ys) (fun z hz=>by rw[hz]) h1,h2⟩
 all_goals
  simp only[lx]at h ⊢;exact acb h
theorem acg{H:Heap} : ∀{cs:List AV} {K:List AV→Prop},mW H cs K→ ∃ys,mW H cs (fun z=>z=ys)∧K ys
 |[],_,h=>⟨[],rfl,h⟩
 |c::cs,K,h=>by
  obtain⟨y,h1,h2⟩:=apE h;obtain⟨ys,h3,h4⟩:=acg h2;exact⟨y::ys,SQ (fun z hz=>by subst hz;exact Fu (fun zs jW=>by rw[jW]) h3) h1,h4⟩
theorem az9{nb:Nat}{r:AV}{ws:Ws}{K:AV→Ws→Prop}(h:uQ nb r ws K): ∃av jv,uQ nb r ws (fun x y=>x=av∧y=jv)∧K av jv:=by
 cases r<;>exact⟨_,_,⟨rfl,rfl⟩,h⟩
theorem an2{H:Heap}{nb:Nat}{f:FuncId}{args:List AV}{K:AV→Ws→Prop}(h:vh E H nb f args K): ∃av ws,vh E H nb f args (fun x y=>x=av∧y=ws)∧K av ws:=by
 obtain⟨ys,h1,h2⟩:=acg h
 cases hs:E.spec f ys with
 |none=>rw[hs]at h2;exact h2.elim
 |some q=>
  obtain⟨pre,r⟩:=q;rw[hs]at h2;obtain⟨h5,h6⟩:=qv.1 h2;obtain⟨av,ws,h7,h8⟩:=az9 h6;refine⟨av,ws,Fu (fun z hz=> ?_) h1,h8⟩;subst hz;rw[hs];exact qv.2 ⟨h5,h7⟩
theorem ER{tm:List AV}{d:Int}{o:Option Operand}{K:Int→Prop}(h:cB tm d o K): ∃z,cB tm d o (fun y=>y=z)∧K z:=by
 cases o with
 |none=>exact⟨_,rfl,h⟩
 |some x=>
  simp only[cB]at h ⊢
  cases e:aC tm x<;>rw[e]at h<;>simp only at h ⊢ <;>first|exact h.elim|exact⟨_,rfl,h⟩
theorem RT{tm:List AV}{d0 d1:Int}{l hh m:Option Operand}{C:Int→Int→Int→Prop}{A:Int→Int→Int→AV}{ws:Ws}{K:AV→Ws→Prop}(h:cB tm d0 l fun lo=>cB tm d1 hh fun hi=>cB tm hi m fun mx=>C lo hi mx∧K (A lo hi mx) ws):
  ∃av,(cB tm d0 l fun lo=>cB tm d1 hh fun hi=>cB tm hi m fun mx=>C lo hi mx∧(A lo hi mx=av∧ws=ws))∧K av ws:=by
 obtain⟨lo,h1,h⟩:=ER h;obtain⟨hi,h2,h⟩:=ER h;obtain⟨mx,h3,h⟩:=ER h;refine⟨A lo hi mx,vf (fun z hz=> ?_) h1,h.2⟩;subst hz;refine vf (fun z hz=> ?_) h2;subst hz;refine vf (fun z hz=> ?_) h3;subst hz;exact⟨h.1,rfl,rfl⟩
theorem aAF{t:Ty}{H:Heap}{tm:List AV}{x:AV}{l hh m:Option Operand}{K:AV→Ws→Prop}(h:sA t H tm x l hh m K): ∃av ws,sA t H tm x l hh m (fun p q=>p=av∧q=ws)∧K av ws:=by
 unfold sA at h ⊢;rw[aD]at h;obtain⟨hc,h⟩:=h
 cases ed:t.d<;>rw[ed]at h<;>simp only at h<;>try exact h.elim
 ·cases x<;>simp only at h ⊢ <;>try exact h.elim
  cases m with
  |some _=>exact h.elim
  |none=>
   obtain⟨lo,h1,h⟩:=ER h;obtain⟨hi,h2,h⟩:=ER h;refine⟨_,[],aD.2 ⟨hc,vf (fun z hz=> ?_) h1⟩,h.2⟩;subst hz;refine vf (fun z hz=> ?_) h2;subst hz;exact⟨h.1,rfl,rfl⟩
 ·cases x<;>simp only at h ⊢ <;>try exact h.elim
  ·obtain⟨av,h1,h2⟩:=RT (A:=fun _ _ _=>AV.aE) h;exact⟨av,[],aD.2 ⟨hc,h1⟩,h2⟩
  ·rename_i sz n f;rw[aD]at h;obtain⟨hd,h⟩:=h;obtain⟨av,h1,h2⟩:=RT (A:=fun lo hi _=>uL (lq m sz) sz (hi-lo).toNat (fun i=>f (lo.toNat+i))) h;exact⟨av,[],aD.2 ⟨hc,aD.2 ⟨hd,h1⟩⟩,h2⟩
  ·rename_i b k
   cases e:aj H b 0<;>rw[e]at h<;>simp only at h ⊢ <;>try exact h.elim
   rename_i ro sz n f;obtain⟨hd,zF,h⟩:=aD.1 h;obtain⟨av,h1,h2⟩:=RT (A:=fun lo hi _=>uL (lq m sz) sz (hi-lo).toNat (fun i=>f (lo.toNat+i))) h;exact⟨av,_,aD.2 ⟨hc,aD.2 ⟨hd,zF,h1⟩⟩,h2⟩
theorem aoo{t u:Ty}{eu:Option Ty}{H:Heap}{x:AV}{K:AV→Prop}(h:sU t u eu H x K): ∃av,sU t u eu H x (fun z=>z=av)∧K av:=by
 cases x<;>simp only[sU]at h ⊢ <;>try exact h.elim
 ·cases pF:u.d<;>rw[pF]at h<;>simp only at h ⊢ <;>try exact h.elim
  cases et:t.d<;>rw[et]at h<;>simp only at h ⊢ <;>first|exact h.elim|exact⟨_,rfl,h⟩
 ·cases et:t.d<;>rw[et]at h<;>simp only at h ⊢ <;>try exact h.elim
  cases pF:u.d<;>rw[pF]at h<;>simp only at h ⊢ <;>first|exact⟨_,rfl,h⟩|exact⟨_,aD.2 ⟨(aD.1 h).1,rfl⟩,(aD.1 h).2⟩
 ·exact⟨_,aD.2 ⟨(aD.1 h).1,rfl⟩,(aD.1 h).2⟩
 ·exact⟨_,aD.2 ⟨(aD.1 h).1,(aD.1 h).2.1,rfl⟩,(aD.1 h).2.2⟩
 ·split at h
  ·exact⟨_,aD.2 ⟨(aD.1 h).1,(aD.1 h).2.1,(aD.1 h).2.2.1,rfl⟩,(aD.1 h).2.2.2⟩
  ·exact h.elim
theorem aAK{H:Heap}{str:Bool}{aO:Nat}{y:AV}{K:Nat→(Nat→List AV)→Prop}(h:nE H str aO y K): ∃m g,nE H str aO y (fun a b=>a=m∧b=g)∧K m g:=by
 cases y<;>simp only[nE]at h ⊢ <;>try exact h.elim
 ·exact⟨_,_,aD.2 ⟨(aD.1 h).1,rfl,rfl⟩,(aD.1 h).2⟩
 ·exact⟨_,_,aD.2 ⟨(aD.1 h).1,rfl,rfl⟩,(aD.1 h).2⟩
 ·exact⟨_,_,aD.2 ⟨(aD.1 h).1,rfl,rfl⟩,(aD.1 h).2⟩
 ·split at h
  ·exact⟨_,_,aD.2 ⟨(aD.1 h).1,(aD.1 h).2.1,rfl,rfl⟩,(aD.1 h).2.2⟩
  ·exact h.elim
theorem anz{t:Ty}{str:Bool}{H:Heap}{nb:Nat}{x y:AV}{K:AV→Ws→Prop}(h:oJ t str H nb x y K): ∃av ws,oJ t str H nb x y (fun p q=>p=av∧q=ws)∧K av ws:=by
 unfold oJ at h ⊢
 cases ed:t.d<;>rw[ed]at h<;>simp only at h ⊢ <;>try exact h.elim
 rw[aD]at h;obtain⟨hc,h⟩:=h;obtain⟨m,g,h1,h2⟩:=aAK h;clear h;have fin: ∀{Z:Nat→(Nat→List AV)→Prop},Z m g→nE H str _ y Z:=fun hZ=>ajL (fun _ _ _=>rfl) (fun a b C4=>by obtain⟨rfl,rfl⟩:=C4;exact hZ) h1
 cases x<;>simp only at h2 ⊢ <;>try exact h2.elim
 ·exact⟨_,_,aD.2 ⟨hc,fin ⟨h2.1,rfl,rfl⟩⟩,h2.2⟩
 ·rename_i b k
  cases e:aj H b 0<;>rw[e]at h2<;>simp only at h2 ⊢ <;>try exact h2.elim
  obtain⟨hd,h3,h4,hh,h6,h5⟩:=aD.1 h2;exact⟨_,_,aD.2 ⟨hc,fin (aD.2 ⟨hd,h3,h4,hh,h6,rfl,rfl⟩)⟩,h5⟩
 ·obtain⟨hd,h3,h4,hh,h6,h5⟩:=aD.1 h2;exact⟨_,_,aD.2 ⟨hc,fin (aD.2 ⟨hd,h3,h4,hh,h6,rfl,rfl⟩)⟩,h5⟩
theorem anS{t:Ty}{tm:List AV}{H:Heap}{nb len:Nat}{ps:List (Nat×Operand)}{K:AV→Ws→Prop}(h:qM t tm H nb len ps K): ∃av ws,qM t tm H nb len ps (fun p q=>p=av∧q=ws)∧K av ws:=by
 unfold qM at h ⊢
 cases ed:t.d<;>rw[ed]at h<;>simp only at h ⊢ <;>try exact h.elim
 rename_i e aO eb
 cases hp:lL aO tm ps 0<;>rw[hp]at h<;>simp only at h ⊢
 obtain⟨h1,h2⟩:=aD.1 h;obtain⟨ys,h3,hh,h4,h5⟩:=SY h2;exact⟨_,_,aD.2 ⟨h1,Km (fun z hz=>by subst hz;exact⟨hh,h4,rfl,rfl⟩) h3⟩,h5⟩
theorem axQ{x y:AV}{K:AV→Prop}(h:Aa x y K): ∃av,Aa x y (fun z=>z=av)∧K av:=by
 cases x<;>cases y<;>simp only[Aa]at h ⊢ <;>try exact h.elim
 exact⟨_,aD.2 ⟨(aD.1 h).1,rfl⟩,(aD.1 h).2⟩
theorem axL{x y:AV}{K:AV→Prop}(h:z_ x y K): ∃av,z_ x y (fun z=>z=av)∧K av:=by
 cases x<;>cases y<;>simp only[z_]at h ⊢ <;>try exact h.elim
 exact⟨_,aD.2 ⟨(aD.1 h).1,rfl⟩,(aD.1 h).2⟩
theorem anw{nb:Nat}{tm:List AV}{H:Heap}{op:Op}{K:AV→Ws→Prop}(hk:iQ E nb tm H op K): ∃av ws,iQ E nb tm H op (fun x y=>x=av∧y=ws)∧K av ws:=by
 have q: ∀{p:(AV→Prop)→Prop},(∃av,p (fun z=>z=av)∧K av [])→(∀av,p (fun z=>z=av)→p (fun z=>z=av∧([]:Ws)=[]))→ ∃av ws,p (fun x=>x=av∧([]:Ws)=ws)∧K av ws:=fun⟨av,h1,h2⟩ hp=>⟨av,[],hp av h1,h2⟩;have e: ∀av:AV,(fun z=>z=av∧([]:Ws)=[])=(fun z=>z=av):=fun av=>by funext z;simp
 cases op<;>simp only[iQ]at hk ⊢ <;>try exact hk.elim
 case move x=>exact⟨_,_,⟨rfl,rfl⟩,hk⟩
 case assign x=>exact⟨_,_,⟨rfl,rfl⟩,hk⟩
 case pick c x y=>
  cases ec:aC tm c<;>rw[ec]at hk<;>simp only at hk ⊢ <;>try exact hk.elim
  ·exact q (aiV hk) fun av h=>by rw[e];exact h
  ·exact q (aiV hk) fun av h=>by rw[e];exact h
 case alloc T=>
  unfold dq at hk ⊢
  cases eT:E.ty T<;>rw[eT]at hk<;>simp only at hk ⊢
  rw[aD]at hk;exact⟨_,_,aD.2 ⟨hk.1,rfl,rfl⟩,hk.2⟩
 case box T x=>
  rw[aD]at hk;exact⟨_,_,aD.2 ⟨hk.1,rfl,rfl⟩,hk.2⟩
 case build T ps=>
  unfold dq at hk ⊢
  cases eT:E.ty T<;>rw[eT]at hk<;>simp only at hk ⊢
  rename_i t
  cases ed:t.d<;>rw[ed]at hk<;>simp only at hk ⊢ <;>try exact hk.elim
  obtain⟨kM,h1,h2⟩:=aa4 _ _ hk;refine⟨.agg kM,[],?_,h2⟩;simpa using h1
 case load T x=>
  unfold dq at hk ⊢
  cases eT:E.ty T<;>rw[eT]at hk<;>simp only at hk ⊢
  exact q (axr hk) fun av h=>by rw[e];exact h
 case store T x y=>
  unfold dq at hk ⊢
  cases eT:E.ty T<;>rw[eT]at hk<;>simp only at hk ⊢
  obtain⟨ws,h1,h2⟩:=aAP hk;exact⟨.undef,ws,by simpa using h1,h2⟩
 case nilCheck x=>exact q (ayr hk) fun av h=>by rw[e];exact h
 case binOp op T x y T'=>
  unfold dq at hk ⊢
  cases eT:E.ty T<;>rw[eT]at hk<;>simp only at hk ⊢
  exact q (anJ hk) fun av h=>by rw[e];exact h
 case unOp op T x=>exact q (aBd hk) fun av h=>by rw[e];exact h
 case fieldAddr T x f=>
  unfold dq at hk ⊢
  cases eT:E.ty T<;>rw[eT]at hk<;>simp only at hk ⊢
  exact q (apk hk) fun av h=>by rw[e];exact h
 case indexAddr T x y=>
  unfold dq at hk ⊢
  cases eT:E.ty T<;>rw[eT]at hk<;>simp only at hk ⊢
  exact q (atI hk) fun av h=>by rw[e];exact h
 case index T x y=>
  unfold dq at hk ⊢
  cases eT:E.ty T<;>rw[eT]at hk<;>simp only at hk ⊢
  exact q (atA hk) fun av h=>by rw[e];exact h
 case extract x i=>
  cases ex:aC tm x<;>rw[ex]at hk<;>simp only[Bb]at hk ⊢ <;>try exact hk.elim
  rw[aD]at hk;exact⟨_,_,aD.2 ⟨hk.1,rfl,rfl⟩,hk.2⟩
 case buildSlice T len ps=>
  unfold dq at hk ⊢
  cases eT:E.ty T<;>rw[eT]at hk<;>simp only at hk ⊢
  exact anS hk
 case makeSlice T l c=>
  unfold dq at hk ⊢
  cases eT:E.ty T<;>rw[eT]at hk<;>simp only at hk ⊢
  exact axG hk
 case slice T x l hh m=>
  unfold dq at hk ⊢
  cases eT:E.ty T<;>rw[eT]at hk<;>simp only at hk ⊢
  exact aAF hk
 case makeFunc fn first captured=>
  cases ef:fn<;>rw[ef]at hk<;>simp only at hk ⊢ <;>try exact hk.elim
  obtain⟨h1,h2⟩:=aD.1 hk;exact⟨_,_,aD.2 ⟨h1,rfl,rfl⟩,h2⟩
 case convert Ts Td x=>
  unfold dq at hk ⊢
  cases eT:E.ty Ts<;>rw[eT]at hk<;>simp only at hk ⊢
  cases eU:E.ty Td<;>rw[eU]at hk<;>simp only at hk ⊢
  exact q (aoo hk) fun av h=>by rw[e];exact h
 case call c=>
  cases ec:c.callee with
  |value f=>
   rw[ec]at hk;simp only at hk ⊢;unfold AT at hk ⊢
   cases ef:aC tm f<;>rw[ef]at hk<;>simp only at hk ⊢ <;>try exact hk.elim
   rename_i g bp
   cases ep:zS E.ho g (c.args.toList.map (aC tm)++bp)with
   |true=>
    rw[ep]at hk;exact asS hk
   |false=>
    rw[ep]at hk;obtain⟨h1,h2⟩:=aD.1 hk;obtain⟨av,ws,h3,h4⟩:=an2 h2;exact⟨av,ws,aD.2 ⟨h1,h3⟩,h4⟩
  |invoke r m=>rw[ec]at hk;exact hk.elim
  |builtin b=>
   rw[ec]at hk
   cases b<;>simp only at hk ⊢ <;>try exact hk.elim
   case append=>
    split at hk
    ·unfold dq at hk ⊢;rename_i x y T T2 ex eT
     cases eT:E.ty T<;>rw[eT]at hk<;>simp only at hk ⊢
     cases eT2:E.ty T2<;>rw[eT2]at hk<;>simp only at hk ⊢
     obtain⟨h1,h2⟩:=aD.1 hk;obtain⟨av,ws,h3,h4⟩:=anz h2;exact⟨av,ws,aD.2 ⟨h1,h3⟩,h4⟩
    ·exact hk.elim
   case min=>
    split at hk
    ·exact q (axQ hk) fun av h=>by rw[e];exact h
    ·exact hk.elim
   case max=>
    split at hk
    ·exact q (axL hk) fun av h=>by rw[e];exact h
    ·exact hk.elim
   case len=>
    split at hk
    ·unfold dq at hk ⊢;rename_i x T ex eT
     cases eT:E.ty T<;>rw[eT]at hk<;>simp only at hk ⊢
     rw[aD]at hk;exact q (p:=fun k=>cT (IB _ _) (qi H (aC tm x) k)) (by obtain⟨av,h1,h2⟩:=axh hk.2;exact⟨av,aD.2 ⟨hk.1,h1⟩,h2⟩) fun av h=>by rw[e];exact h
    ·exact hk.elim
end
structure ZX (E:Env) (ops:Array Oper) (o:Oper) (st:St) (r:Rec):Prop where
 wanted:sD ops o st.tm=some r.run
 yes:r.run=true→(∃av,iQ E r.nb st.tm st.hp o.op (fun x y=>x=av∧y=r.ws)∧Jq av r.val)∧r.rd=kZ E st.tm o.op∧r.rb=qw st.tm st.hp o.op∧st.hp.length≤r.nb
 no:r.run=false→r.val= .gone∧r.ws=[]
inductive va (E:Env) (ops:Array Oper):List Oper→St→List Rec→St→Prop
 |nil (st:St):va E ops [] st [] st
 |cons (o:Oper) (l:List Oper) (st:St) (r:Rec) (rs:List Rec) (aX:St) (h:ZX E ops o st r) (k:va E ops l (hY o r st) rs aX):va E ops (o::l) st (r::rs) aX
def sO(E:Env)(ops:Array Oper):List Oper→Nat→St→List Rec→(List Rec→St→Prop)→Prop
 |[],_,st,rs,K=>K rs.reverse st
 |o::rest,i,st,rs,K=>vZ ops o st (∃nb,st.hp.length≤nb∧iQ E nb st.tm st.hp o.op fun av ws=>DE (Jj rest i) av fun av=>sO E ops rest (i+1) ⟨kO o.dst av st.tm,bm st.hp ws⟩ (⟨av,ws,kZ E st.tm o.op,qw st.tm st.hp o.op,nb,true⟩::rs) K)
   (sO E ops rest (i+1) ⟨kO o.dst .gone st.tm,st.hp⟩ (⟨.gone,[],[],[],0,false⟩::rs) K)
theorem RI{E:Env}{ops:Array Oper} : ∀(l:List Oper) (i:Nat) (st:St) (acc:List Rec) (K:List Rec→St→Prop),sO E ops l i st acc K→
  ∃rs aX,va E ops l st rs aX∧K (acc.reverse++rs) aX
 |[],_,st,acc,K,h=>⟨[],st,.nil st,by simpa[sO]using h⟩
 |o::l,i,st,acc,K,h=>by
  rcases agw h with⟨hw,hr⟩|⟨hw,hr⟩
  ·obtain⟨nb,fZ,hr⟩:=hr;obtain⟨av,ws,h1,h2⟩:=anw hr;obtain⟨r,hl,h2⟩:=ahZ h2;obtain⟨rs,aX,h3,h4⟩:=RI l _ _ _ K h2;refine⟨_::rs,aX,.cons o l st ⟨r,ws,kZ E st.tm o.op,qw st.tm st.hp o.op,nb,true⟩ rs aX ⟨hw,fun _=>⟨⟨av,h1,hl⟩,rfl,rfl,fZ⟩,(fun e=>by cases e)⟩ h3,by simpa using h4⟩
  ·obtain⟨rs,aX,h3,h4⟩:=RI l _ _ _ K hr;refine⟨_::rs,aX,.cons o l st ⟨.gone,[],[],[],0,false⟩ rs aX ⟨hw,(fun e=>by cases e),fun _=>⟨rfl,rfl⟩⟩ h3,by simpa using h4⟩
def acc(L:Nat→Bool):List (Oper×Rec)→Nat→St→St
 |[],_,st=>st
 |(o,r)::l,i,st=>acc L l (i+1) (bif L i then hY o r st else st)
def writes(ws:Ws)(b p:Nat):Prop:= ∃c,(b,p,c)∈ws
theorem NM: ∀(ws:Ws) (H:Heap) (b p:Nat),¬writes ws b p→aj (bm H ws) b p=aj H b p
 |[],_,_,_,_=>rfl
 |(b',p',c)::ws,H,b,p,h=>by
  rw[bm,NM ws _ b p (fun⟨c',hc⟩=>h ⟨c',by simp [hc]⟩),e_,aCM]
  rintro⟨rfl,rfl⟩
  exact h ⟨c,by simp⟩
theorem Wy: ∀(ws:Ws) (H H':Heap) (b p:Nat),(writes ws b p∨aj H' b p=aj H b p)→aj (bm H' ws) b p=aj (bm H ws) b p
 |[],_,_,_,_,h=>h.elim (fun⟨_,h⟩=>by cases h) id
 |(b',p',c)::ws,H,H',b,p,h=>by
  rw[bm,bm];refine Wy ws _ _ b p ?_
  by_cases hw:writes ws b p
  ·exact .inl hw
  ·refine .inr ?_;rw[e_,e_]
   by_cases e:b=b'∧p=p'
   ·rw[aCL e,aCL e]
   ·rw[aCM e,aCM e];rcases h with⟨c',hc⟩|h
    ·rcases aDa.1 hc with hc|hc
     ·cases hc;exact absurd ⟨rfl,rfl⟩ e
     ·exact absurd ⟨c',hc⟩ hw
    ·exact h
theorem Xu: ∀(ws:Ws) (H:Heap),H.length≤(bm H ws).length∧ ∀b p,writes ws b p→b<(bm H ws).length
 |[],_=>⟨aCK _,fun _ _ ⟨_,h⟩=>by cases h⟩
 |(b,p,c)::ws,H=>by
  have h1:=wE H b p c;have h2:=Xu ws (bl H b p c);refine⟨aCX h1.1 h2.1,fun b' p' ⟨c',hc⟩=> ?_⟩;rcases aDa.1 hc with hc|hc
  ·cases hc;exact aC0 h1.2 h2.1
  ·exact h2.2 b' p' ⟨c',hc⟩
theorem E8(d:Option Nat)(av:AV)(tm:List AV)(t:Nat):(kO d av tm)[t]? =if d=some t then(tm[t]?).map (fun _=>av)else tm[t]? :=by
 cases d with
 |none=>simp [kO]
 |some d=>
  simp only[kO,aDK,aC3]
  by_cases e:d=t
  ·subst e;simp only[aDg]
   split
   ·rename_i h;simp [aCP h]
   ·rename_i h;rw[aCW (by omega)];rfl
  ·simp [e]
theorem Jv{L L':Nat→Bool}{t:Nat} : ∀(l:List (Oper×Rec)) (k:Nat) (st aX:St),(st.tm[t]? =aX.tm[t]?)→(∀(i:Nat) o r,l[i]? =some (o,r)→o.dst=some t→L (k+i)=L' (k+i))→(acc L l k st).tm[t]? =(acc L' l k aX).tm[t]?
 |[],_,_,_,h,_=>h
 |(o,r)::l,k,st,aX,h,hl=>by
  rw[acc,acc];refine Jv l (k+1) _ _ ?_ fun i o' r' hi hd=>by
   have:=hl (i+1) o' r' (by simpa using hi) hd;rwa [show k+(i+1)=k+1+i by omega]at this
  by_cases e:o.dst=some t
  ·have:=hl 0 o r rfl e;rw[aDl]at this;rw[this]
   cases L' k
   ·exact h
   ·simp only[aCJ,hY,E8,e,aDg,h]
  ·have h1:(hY o r st).tm[t]? =st.tm[t]? :=by simp [hY,E8,e]
   have h2:(hY o r aX).tm[t]? =aX.tm[t]? :=by simp [hY,E8,e]
   cases L k<;>cases L' k<;>simp only[aCJ,aCI,h1,h2,h]
theorem ED{L L':Nat→Bool}{b p:Nat} : ∀(l:List (Oper×Rec)) (k:Nat) (st aX:St),(aj st.hp b p=aj aX.hp b p)→(∀(i:Nat) o r,l[i]? =some (o,r)→writes r.ws b p→L (k+i)=L' (k+i))→aj (acc L l k st).hp b p=aj (acc L' l k aX).hp b p
 |[],_,_,_,h,_=>h
 |(o,r)::l,k,st,aX,h,hl=>by
  rw[acc,acc];refine ED l (k+1) _ _ ?_ fun i o' r' hi hd=>by
   have:=hl (i+1) o' r' (by simpa using hi) hd;rwa [show k+(i+1)=k+1+i by omega]at this
  by_cases e:writes r.ws b p
  ·have:=hl 0 o r rfl e;rw[aDl]at this;rw[this]
   cases L' k
   ·exact h
   ·simp only[aCJ,hY];exact Wy r.ws aX.hp st.hp b p (.inl e)
  ·have h1:aj (hY o r st).hp b p=aj st.hp b p:=NM _ _ _ _ e;have h2:aj (hY o r aX).hp b p=aj aX.hp b p:=NM _ _ _ _ e
   cases L k<;>cases L' k<;>simp only[aCJ,aCI,h1,h2,h]
theorem atz{ws:Ws}{b:Nat} : ∀{H:Heap},(∀p,¬writes ws b p)→(bm H ws).getD b []=H.getD b []:=by
 induction ws with
 |nil=>intro H _;rfl
 |cons q ws ih=>
  obtain⟨b',p',c⟩:=q;intro H h;rw[bm,ih fun p ⟨c',hc⟩=>h p ⟨c',by simp [hc]⟩];unfold bl;rw[pQ,aCM];intro e;exact h p' ⟨c,by simp [e]⟩
theorem ag1{b:Nat} : ∀{ws:Ws} {H H':Heap},H.getD b []=H'.getD b []→(bm H ws).getD b []=(bm H' ws).getD b []
 |[],_,_,h=>h
 |(b',p',c)::ws,H,H',h=>by
  rw[bm,bm];refine ag1 ?_;unfold bl;rw[pQ,pQ]
  by_cases e:b=b'
  ·subst e;rw[aCL rfl,aCL rfl,h]
  ·rw[aCM e,aCM e];exact h
theorem aaB{L L':Nat→Bool}{b:Nat} : ∀(l:List (Oper×Rec)) (k:Nat) (st aX:St),(st.hp.getD b []=aX.hp.getD b [])→(∀(i:Nat) o r,l[i]? =some (o,r)→(∃p,writes r.ws b p)→L (k+i)=L' (k+i))→
  (acc L l k st).hp.getD b []=(acc L' l k aX).hp.getD b []
 |[],_,_,_,h,_=>h
 |(o,r)::l,k,st,aX,h,hl=>by
  rw[acc,acc];refine aaB l (k+1) _ _ ?_ (fun i o' r' hi hd=>by
   have:=hl (i+1) o' r' (by simpa using hi) hd;rwa [show k+(i+1)=k+1+i by omega]at this)
  by_cases e: ∃p,writes r.ws b p
  ·have h2:=hl 0 o r rfl e;rw[aDl]at h2;rw[h2]
   cases L' k
   ·exact h
   ·exact ag1 h
  ·have h1: ∀st:St,(hY o r st).hp.getD b []=st.hp.getD b []:=fun st=>atz fun p hp=>e ⟨p,hp⟩
   cases L k<;>cases L' k<;>simp only[aCJ,aCI,h1,h]
theorem EE{L:Nat→Bool} : ∀(l:List (Oper×Rec)) (k:Nat) (st:St),(acc L l k st).tm.length=st.tm.length∧st.hp.length≤(acc L l k st).hp.length∧
  ∀(i:Nat) o r,l[i]? =some (o,r)→L (k+i)=true→ ∀b p,writes r.ws b p→b<(acc L l k st).hp.length
 |[],_,_=>⟨rfl,aCK _,fun i o r h=>by simp at h⟩
 |(o,r)::l,k,st=>by
  obtain⟨h1,h2,h3⟩:=EE (L:=L) l (k+1) (bif L k then hY o r st else st);have hs:(bif L k then hY o r st else st).tm.length=st.tm.length∧st.hp.length≤(bif L k then hY o r st else st).hp.length:=by
   cases L k
   ·exact⟨rfl,aCK _⟩
   ·refine⟨?_,(Xu _ _).1⟩;simp only[aCJ,hY]
    cases o.dst<;>simp [kO]
  refine⟨by rw[acc,h1,hs.1],by rw[acc];exact aCX hs.2 h2,fun i o' r' hi hL b p hw=> ?_⟩;rw[acc]
  cases i with
  |zero=>
   simp at hi;obtain⟨rfl,rfl⟩:=hi;rw[aDl]at hL;refine aC0 ?_ h2;rw[hL];exact(Xu _ _).2 b p hw
  |succ i=>exact h3 i o' r' (by simpa using hi) (by rwa [show k+1+i=k+(i+1) by omega]) b p hw
theorem EC{L:Nat→Bool} : ∀(l:List (Oper×Rec)) (k:Nat) (st:St),(∀i,k≤i→L i=false)→acc L l k st=st
 |[],_,_,_=>rfl
 |(o,r)::l,k,st,h=>by
  rw[acc,h k (aCK _)];exact EC l (k+1) st fun i hi=>h i (by omega)
theorem va.at{E:Env}{ops:Array Oper}{l:List Oper}{st aX:St}{rs:List Rec}(h:va E ops l st rs aX): ∀k,l.length=rs.length∧aX=acc (fun _=>true) (l.zip rs) k st∧
  ∀(j:Nat) o r,(l.zip rs)[j]? =some (o,r)→ZX E ops o (acc (fun i=>decide (i<k+j)) (l.zip rs) k st) r:=by
 induction h with
 |nil st=>exact fun k=>⟨rfl,rfl,fun j o r h=>by simp at h⟩
 |cons o l st r rs aX h k ih=>
  intro n;obtain⟨h1,h2,h3⟩:=ih (n+1);refine⟨by simp [h1],?_,fun j o' r' hj=> ?_⟩
  ·rw[h2];rfl
  ·cases j with
   |zero=>
    simp at hj;obtain⟨rfl,rfl⟩:=hj;rw[EC _ _ _ (fun i hi=>by simpa using hi)];exact h
   |succ j=>
    have:=h3 j o' r' (by simpa using hj);rw[List.zip_cons_cons,acc];have hd:decide (n<n+(j+1))=true:=by simp
    rw[hd];rw[show n+(j+1)=n+1+j by omega];exact this
def IE(es:List Edge)(acc:List Nat):Nat:=es.foldl (fun m e=>if Region.binds .any e then m|||2^e.on|||acc.getD e.on 0 else m) 0
def DI:List Oper→List Nat→List Nat
 |[],acc=>acc
 |o::r,acc=>DI r (acc++[IE o.after.toList acc])
def JQ(a b:List (Nat×Nat)):Bool:=a.all fun x=> !b.contains x
def sE(ws:Ws):List (Nat×Nat):=ws.map fun x=>(x.1,x.2.1)
def IK(b:Nat)(l:List (Nat×Nat)):Bool:=l.all fun x=>x.1 !=b
def uH(r:Rec):List Nat:=r.nb::(r.ws.map (·.1)).filter (Nat.blt r.nb)
theorem ayn{r:Rec}{b:Nat}(h:b∈uH r):r.nb≤b:=by
 simp only[uH,aDa,aEf,aC9]at h;omega
theorem ayo{r:Rec}{b p:Nat}{c:AV}(h:(b,p,c)∈r.ws)(hb:r.nb<b):b∈uH r:=by
 simp only[uH,aDa,aEf,aC9,aDx];exact .inr ⟨⟨_,h,rfl⟩,hb⟩
def ag9(b o:Nat)(c:AV):Bool:=
 match c with
 | .ptr b' o'=>Nat.beq b' b&&Nat.beq o' o
 |_=>false
def OD(H:Heap)(rs:List Rec)(b p:Nat):Bool:=
 match aj H b p with
 | .ptr b0 o0=>rs.all fun r=>r.ws.all fun x=> !(Nat.beq x.1 b&&Nat.beq x.2.1 p)||ag9 b0 o0 x.2.2
 |_=>false
theorem aix{H:Heap}{rs:List Rec}{b p:Nat}(h:OD H rs b p=true){r:Rec}(hr:r∈rs){c:AV}(hc:(b,p,c)∈r.ws):c=aj H b p:=by
 unfold OD at h
 split at h<;>try (cases h;done)
 rename_i b0 o0 e;rw[e];have h1:=aCR.1 (aCR.1 h r hr) _ hc;simp only[aDp,Bool.and_self,Bool.not_true,Bool.false_or]at h1;unfold ag9 at h1
 split at h1<;>try (cases h1;done)
 rw[aCN]at h1;rw[aCS h1.1,aCS h1.2]
def OS(N:Nat→Nat→Bool)(l:List (Nat×Nat)):List (Nat×Nat):=l.filter fun x=> !(N x.1 x.2)
def DU(N:Nat→Nat→Bool)(ops:Array Oper)(ms:List Nat)(i j:Nat)(oi oj:Oper)(ri rj:Rec):Bool:=
 (!(rY oj.op)||(uH rj).all fun b=>IK b (sE ri.ws))&&
 ((ms.getD j 0).testBit i||
   (JQ (OS N (sE ri.ws)) rj.rd&&JQ (OS N (sE ri.ws)) (sE rj.ws)&&JQ ri.rd (OS N (sE rj.ws))&&(!(rY oi.op&& !ri.ws.isEmpty)||(uH ri).all fun b=>IK b (sE rj.ws))&&oi.apart ops oj&&rj.rb.all (fun b=>IK b (sE ri.ws))&&ri.rb.all (fun b=>IK b (sE rj.ws))))
def O3(N:Nat→Nat→Bool)(ops:Array Oper)(ms:List Nat)(oi:Oper)(ri:Rec)(i:Nat):List (Oper×Rec)→Nat→Bool
 |[],_=>true
 |(oj,rj)::l,j=>DU N ops ms i j oi oj ri rj&&O3 N ops ms oi ri i l (j+1)
def Jx(N:Nat→Nat→Bool)(ops:Array Oper)(ms:List Nat):List (Oper×Rec)→Nat→Bool
 |[],_=>true
 |(o,r)::l,i=>O3 N ops ms o r i l (i+1)&&Jx N ops ms l (i+1)
def JC:List Oper→Nat→Bool
 |[],_=>true
 |o::l,i=>o.after.all (fun e=> !Region.binds .any e||decide (e.on<i))&&JC l (i+1)
def zR(N:Nat→Nat→Bool)(ops:Array Oper)(rs:List Rec):Bool:=JC ops.toList 0&&Jx N ops (DI ops.toList []) (ops.toList.zip rs) 0
def indep(H:Heap)(ops:Array Oper)(rs:List Rec):Bool:=zR (OD H rs) ops rs
def am5(N:Nat→Nat→Bool)(H:Heap)(rs:List Rec):Prop:= ∀b p,N b p=true→ ∀r∈rs,∀c,(b,p,c)∈r.ws→c=aj H b p
def AI(H:Heap)(ops:Array Oper)(rs:List Rec):Prop:= ∃N,am5 N H rs∧zR N ops rs=true
theorem AI.of{H:Heap}{ops:Array Oper}{rs:List Rec}(h:indep H ops rs=true):AI H ops rs:=⟨_,fun _ _ hN _ hr _ hc=>aix hN hr hc,h⟩
def aaF(E:Env)(ops:Array Oper)(st:St)(K:St→Prop):Prop:=
 sO E ops ops.toList 0 st [] fun rs aX=>AI st.hp ops rs∧K aX
theorem JR{a b:List (Nat×Nat)}(h:JQ a b=true): ∀x,x∈a→x∉b:=fun x hx hb=>by
 have:=aCR.1 h x hx;simp at this;exact this hb
theorem OT{N:Nat→Nat→Bool}{l:List (Nat×Nat)}{b p:Nat}(h:(b,p)∈l)(hN:N b p=false):(b,p)∈OS N l:=aEf.2 ⟨h,by simp [hN]⟩
theorem qm{ws:Ws}{b p:Nat} :(b,p)∈sE ws↔writes ws b p:=by
 simp only[sE,aDx,writes];constructor
 ·rintro⟨⟨b',p',c⟩,h,e⟩
  simp only[aDL]at e;obtain⟨rfl,rfl⟩:=e;exact⟨c,h⟩
 ·rintro⟨c,h⟩
  exact⟨(b,p,c),h,rfl⟩
theorem IL{b:Nat}{l:List (Nat×Nat)}(h:IK b l=true): ∀p,(b,p)∉l:=fun p hp=>by
 have:=aCR.1 h _ hp;simp at this
theorem ajn{N:Nat→Nat→Bool}{ops:Array Oper}{ms:List Nat}{oi:Oper}{ri:Rec}{i:Nat} : ∀(l:List (Oper×Rec)) (k:Nat),O3 N ops ms oi ri i l k=true→ ∀(j:Nat) oj rj,l[j]? =some (oj,rj)→DU N ops ms i (k+j) oi oj ri rj=true
 |[],_,_,j,oj,rj,h=>by simp at h
 |(o,r)::l,k,h,j,oj,rj,hj=>by
  simp only[O3,aCN]at h
  cases j with
  |zero=>simp at hj;obtain⟨rfl,rfl⟩:=hj;exact h.1
  |succ j=>
   have:=ajn l (k+1) h.2 j oj rj (by simpa using hj);rwa [show k+1+j=k+(j+1) by omega]at this
theorem Jy{N:Nat→Nat→Bool}{ops:Array Oper}{ms:List Nat} : ∀(l:List (Oper×Rec)) (k:Nat),Jx N ops ms l k=true→ ∀(i j:Nat) oi ri oj rj,i<j→l[i]? =some (oi,ri)→l[j]? =some (oj,rj)→DU N ops ms (k+i) (k+j) oi oj ri rj=true
 |[],_,_,i,j,oi,ri,oj,rj,_,h,_=>by simp at h
 |(o,r)::l,k,h,i,j,oi,ri,oj,rj,iY,hi,hj=>by
  simp only[Jx,aCN]at h;obtain⟨j,rfl⟩: ∃j',j=j'+1:=⟨j-1,by omega⟩
  cases i with
  |zero=>
   simp at hi;obtain⟨rfl,rfl⟩:=hi;have:=ajn l (k+1) h.1 j oj rj (by simpa using hj);rwa [show k+1+j=k+(j+1) by omega]at this
  |succ i=>
   have:=Jy l (k+1) h.2 i j oi ri oj rj (by omega) (by simpa using hi) (by simpa using hj);rwa [show k+1+i=k+(i+1) by omega,show k+1+j=k+(j+1) by omega]at this
theorem aaZ: ∀(l:List Oper) (k:Nat),JC l k=true→ ∀(i:Nat) o,l[i]? =some o→ ∀e∈o.after,Region.binds .any e=true→e.on<k+i
 |[],_,_,i,o,h=>by simp at h
 |o::l,k,h,i,o',hi=>by
  simp only[JC,aCN]at h
  cases i with
  |zero=>
   simp at hi;subst hi;intro e he hb;have:=Array.all_eq_true_iff_forall_mem.1 h.1 e he;simpa[hb]using this
  |succ i=>
   have:=aaZ l (k+1) h.2 i o' (by simpa using hi);intro e he hb;have:=this e he hb;omega
theorem ah8{acc:List Nat}{i:Nat} : ∀(es:List Edge) (m:Nat),(es.foldl (fun m e=>if Region.binds .any e then m|||2^e.on|||acc.getD e.on 0 else m) m).testBit i=true→
  m.testBit i=true∨ ∃e∈es,Region.binds .any e=true∧(i=e.on∨(acc.getD e.on 0).testBit i=true)
 |[],m,h=> .inl h
 |e::es,m,h=>by
  simp only[aEe]at h;rcases ah8 es _ h with h|⟨e',he',hb,hr⟩
  ·split at h
   ·rename_i hb;simp only[Nat.testBit_or,aEg]at h;rcases h with(h|h)|h
    ·exact .inl h
    ·refine .inr ⟨e,by simp,hb,.inl ?_⟩;rw[Nat.testBit_two_pow]at h;exact(ay h).symm
    ·exact .inr ⟨e,by simp,hb,.inr h⟩
   ·exact .inl h
  ·exact .inr ⟨e',by simp [he'],hb,hr⟩
theorem ah9{L:Nat→Prop} : ∀(l:List Oper) (done:List Oper) (acc:List Nat),acc.length=done.length→
  (∀(j:Nat) o,(done++l)[j]? =some o→L j→ ∀e∈o.after,Region.binds .any e=true→L e.on)→
  (∀(j:Nat) o i,done[j]? =some o→(acc.getD j 0).testBit i=true→(∀e∈o.after,Region.binds .any e=true→L e.on)→L i)→
  ∀(j:Nat) o i,(done++l)[j]? =some o→((DI l acc).getD j 0).testBit i=true→(∀e∈o.after,Region.binds .any e=true→L e.on)→L i
 |[],done,acc,hlen,_,MY=>by simpa[DI]using MY
 |x::l,done,acc,hlen,lI,MY=>by
  have:=ah9 l (done++[x]) (acc++[IE x.after.toList acc]) (by simp [hlen]) (by simpa using lI) (fun j o i hj hb he=>by
   rcases aCY j done.length with h|h
   ·rw[aDH h]at hj;have:(acc++[IE x.after.toList acc]).getD j 0=acc.getD j 0:=by simp [List.getD,aDH (by omega:j<acc.length)]
    rw[this]at hb;exact MY j o i hj hb he
   ·have pZ:j=done.length:=by
     rcases aCY j (done.length+1)with h'|h'
     ·omega
     ·rw[aCW (by simpa using h')]at hj;cases hj
    subst pZ;simp at hj;subst hj;have:(acc++[IE x.after.toList acc]).getD done.length 0=IE x.after.toList acc:=by simp [List.getD,←hlen]
    rw[this]at hb;rcases ah8 _ _ hb with h0|⟨e,Db,Dc,M7⟩
    ·simp at h0
    ·have hLe:=he e (by simpa using Db) Dc;rcases M7 with rfl|M7
     ·exact hLe
     ·have cI:e.on<done.length:=by
       rcases aCY e.on acc.length with h|h
       ·omega
       ·simp [List.getD,aCW h]at M7
      have hex:done[e.on]? =some done[e.on]:=aCP cI;exact MY e.on _ i hex M7 (lI e.on _ (by rw[aDH cI];exact hex) hLe))
  simpa[DI]using this
theorem aol(n:Nat)(p q:Nat→Bool)(i:Nat)(hi:i<n)(h1:p i=true)(h2:q i=false)(h3: ∀k,k≠i→q k=p k):((List.range n).filter p).length=((List.range n).filter q).length+1:=by
 induction n with
 |zero=>omega
 |succ n ih=>
  rw[List.range_succ,aEq,aEq,aC8,aC8]
  by_cases e:i=n
  ·subst e;have:(List.range i).filter p=(List.range i).filter q:=by
    apply List.filter_congr;intro k hk;exact(h3 k (by have:=aDS.1 hk;omega)).symm
   simp [this,h1,h2]
  ·have:=ih (by omega);have h4:=h3 n (by omega);simp only[List.filter_cons,List.filter_nil,h4];omega
theorem aaC{L L':Nat→Bool} : ∀(l:List (Oper×Rec)) (k:Nat) (st:St),(∀i,i<l.length→L (k+i)=L' (k+i))→acc L l k st=acc L' l k st
 |[],_,_,_=>rfl
 |(o,r)::l,k,st,h=>by
  rw[acc,acc];have h0:=h 0 (by simp);rw[aDl]at h0;rw[h0];exact aaC l (k+1) _ fun i hi=>by have:=h (i+1) (by simp;omega);rwa [show k+(i+1)=k+1+i by omega]at this
theorem aaD: ∀(l:List (Oper×Rec)) (k j:Nat) (st:St) o r,l[j]? =some (o,r)→acc (fun i=>decide (i<k+j+1)) l k st=hY o r (acc (fun i=>decide (i<k+j)) l k st)
 |[],_,j,_,o,r,h=>by simp at h
 |(o',r')::l,k,0,st,o,r,h=>by
  simp at h;obtain⟨rfl,rfl⟩:=h;rw[acc,acc];have h1:decide (k<k+0+1)=true:=by simp
  have h2:decide (k<k+0)=false:=by simp
  rw[h1,h2,EC _ _ _ (fun i hi=>by simp;omega),EC _ _ _ (fun i hi=>by simp;omega)];rfl
 |(o',r')::l,k,j+1,st,o,r,h=>by
  rw[acc,acc];have h1:decide (k<k+(j+1)+1)=true:=by simp;omega
  have h2:decide (k<k+(j+1))=true:=by simp
  rw[h1,h2];have:=aaD l (k+1) j (hY o' r' st) o r (by simpa using h);simp only[aCJ];rw[show k+(j+1)=k+1+j by omega];exact this
theorem ao8{tm gN:List AV}{x:Operand}(h: ∀t,x= .tmp t→gN[t]? =tm[t]?):aC gN x=aC tm x:=by
 cases x with
 |tmp t=>simp only[aC,List.getD,h t rfl]
 |_=>rfl
theorem aBy{ops:Array Oper}{o:Oper}{tm gN:List AV}(h: ∀t∈o.looksAt ops,gN[t]? =tm[t]?):sD ops o gN=sD ops o tm:=by
 unfold sD
 cases hg:o.guard with
 |none=>rfl
 |some q=>
  obtain⟨j,want⟩:=q;simp only
  cases hd:(ops[j]?).bind (·.dst)with
  |none=>rfl
  |some d=>
   simp only;have:=h d (by simp [Oper.looksAt,hg,hd]);simp only[List.getD,this]
theorem axt{ops:Array Oper}{o:Oper}{t:Nat}(h: .tmp t∈o.op.operands):t∈o.looksAt ops:=by
 simp only[Oper.looksAt,aC5,List.mem_filterMap];exact .inl ⟨.tmp t,by simpa using h,rfl⟩
section
variable {E:Env} {S:dF} {ops:Array Oper} {rs:List Rec} {cz:St} {jL:Nat→Option Nat}
structure ZU (N:Nat→Nat→Bool) (ops:Array Oper) (oj:Oper) (rj:Rec) (ok:Oper) (rk:Rec):Prop where
 rd: ∀b p,N b p=false→writes rk.ws b p→(b,p)∉rj.rd
 ws: ∀b p,N b p=false→writes rk.ws b p→ ¬writes rj.ws b p
 look: ∀t,ok.dst=some t→t∉oj.looksAt ops
 dst: ∀t,ok.dst=some t→oj.dst≠some t
 rb: ∀b,b∈rj.rb→ ∀p,¬writes rk.ws b p
 nb:rY oj.op=true→rj.ws≠[]→ ∀b∈uH rj,∀p,¬writes rk.ws b p
theorem far{N:Nat→Nat→Bool}(jm:zR N ops rs=true){L:Nat→Bool}(lI: ∀(j:Nat) o,ops[j]? =some o→L j=true→ ∀e∈o.after,Region.binds .any e=true→L e.on=true)
  {j k:Nat} {oj ok:Oper} {rj rk:Rec} (hj:(ops.toList.zip rs)[j]? =some (oj,rj)) (hk:(ops.toList.zip rs)[k]? =some (ok,rk)) (hjk:k≠j) (hL:L j=false)
  (hr: ∀e∈oj.after,Region.binds .any e=true→L e.on=true):L k=decide (k<j)∨ZU N ops oj rj ok rk:=by
 have Dj:ops[j]? =some oj:=by
  have:=aEB.1 hj;simpa using this.1
 have o9:ops[k]? =some ok:=by
  have:=aEB.1 hk;simpa using this.1
 simp only[zR,aCN]at jm;have jU: ∀(j:Nat) o i,ops[j]? =some o→((DI ops.toList []).getD j 0).testBit i=true→(∀e∈o.after,Region.binds .any e=true→L e.on=true)→L i=true:=fun j o i h1 h2 h3=>
  ah9 (L:=fun i=>L i=true) ops.toList [] [] rfl (fun j o h h'=>lI j o (by simpa using h) h') (fun j o i h=>by simp at h) j o i (by simpa using h1) h2 h3
 rcases Nat.lt_or_gt_of_ne hjk with cI|hgt
 ·have hp:=Jy _ 0 jm.2 k j ok rk oj rj cI hk hj;simp only[DU,aCN,aEg,aCO]at hp;obtain⟨hA,hp⟩:=hp;rcases hp with hp|hp
  ·left;rw[jU j oj k Dj hp hr];simp [cI]
  ·right;obtain⟨⟨⟨⟨⟨⟨h1,h2⟩,h3⟩,h4⟩,h5⟩,h6⟩,h7⟩:=hp;obtain⟨a1,a2,a3⟩:=Oper.apart_spec h5;refine⟨fun b p hN hw=>JR h1 _ (OT (qm.2 hw) hN),fun b p hN hw NK=>JR h2 _ (OT (qm.2 hw) hN) (qm.2 NK),fun t ht=>a1 t ht,fun t ht=>a2 t ht,fun b hb p hw=>IL (aCR.1 h6 b hb) p (qm.2 hw),fun iW _ b hb p hw=> ?_⟩;rw[iW]at hA;exact IL (aCR.1 (by simpa using hA) b hb) p (qm.2 hw)
 ·have hp:=Jy _ 0 jm.2 j k oj rj ok rk hgt hj hk;simp only[DU,aCN,aEg,aCO]at hp;obtain⟨hA,hp⟩:=hp;rcases hp with hp|hp
  ·left;have hkf:L k=false:=by
    cases e:L k with
    |false=>rfl
    |true=>
     have:=jU k ok j o9 hp (lI k ok o9 e);rw[hL]at this;cases this
   rw[hkf];simp;omega
  ·right;obtain⟨⟨⟨⟨⟨⟨h1,h2⟩,h3⟩,h4⟩,h5⟩,h6⟩,h7⟩:=hp;obtain⟨a1,a2,a3⟩:=Oper.apart_spec h5;refine⟨fun b p hN hw hrd=>JR h3 _ hrd (OT (qm.2 hw) hN),fun b p hN hw NK=>JR h2 _ (OT (qm.2 NK) hN) (qm.2 hw),fun t ht=>a3 t ht,fun t ht Wr=>a2 t Wr ht,fun b hb p hw=>IL (aCR.1 h7 b hb) p (qm.2 hw),fun iW db b hb p hw=> ?_⟩;rw[iW]at h4;have Nv:rj.ws.isEmpty=false:=by cases e:rj.ws with
    |nil=>exact absurd e db
    |cons=>rfl
   rw[Nv]at h4;exact IL (aCR.1 (by simpa using h4) b hb) p (qm.2 hw)
end
section
variable {S:dF} {ι:Nat→Option Nat} {st:St} {a:Act} {w:World}
def qC(H:Heap)(b b2:Nat)(x:AV):Heap:=bl (bl H b 0 dh) b2 0 x
theorem aP.Ps(h:aP S ι st a w){w':World}{b b2 x sz n n' c:Nat}{f f':Nat→List AV}{C C':Array Value}{T:TypeId}
  (eM:aj st.hp b 0= .ah false sz n f) (hx:ι b=some x) (hC:w.heap[x]? =some (.cells C T (0,0)))
  (hos:w'.os=w.os) (hta:w'.tape=w.tape) (hou:w'.output=w.output) (dw:w'.heap.size=w.heap.size) (HS: ∀k,k≠x→w'.heap[k]? =w.heap[k]?)
  (iD:w'.heap[x]? =some (.cells C' T (0,0))) (eZ:C'.size=c*sz) (dK:n'≤dg) (pU:n'≤c)
  (hv: ∀i j,i<n'→j<sz→ ∃av u,(f' i)[j]? =some av∧C'[i*sz+j]? =some u∧aR w (FZ S ι st.hp w) av u)
  (h2:(b2=b∧(n<n'∨(n=n'∧C'.size=C.size)))∨(b2≠b∧(∀o,aj st.hp b2 o= .undef)∧ι b2=none)):
  ∃aA,aP S aA ⟨st.tm,qC st.hp b b2 (.ah false sz n' f')⟩ a w'∧bV aA (qC st.hp b b2 (.ah false sz n' f')) w' (FZ S aA (qC st.hp b b2 (.ah false sz n' f')) w') (.own b2 n') (.slice (some ⟨x,0,none⟩) n' c):=by
 have hnB:n≤dg:=by
  have hl:=h.hp b 0;rw[eM]at hl;rcases hl.2 with hd|hd
  ·cases hd.1
  ·exact hd.1
 generalize hH:qC st.hp b b2 (.ah false sz n' f')=H';have g2:aj H' b2 0= .ah false sz n' f':=by rw[←hH];unfold qC;rw[e_,aCL ⟨rfl,rfl⟩]
 have gb:b2≠b→aj H' b 0=dh:=fun e=>by rw[←hH];unfold qC;rw[e_,aCM (fun g=>e g.1.symm),e_,aCL ⟨rfl,rfl⟩]
 have go: ∀k o,(k≠b∧k≠b2)∨o≠0→aj H' k o=aj st.hp k o:=fun k o g=>by
  rw[←hH];unfold qC;rw[e_,aCM (fun e=>g.elim (fun g=>g.2 e.1) fun g=>g e.2),e_,aCM (fun e=>g.elim (fun g=>g.1 e.1) fun g=>g e.2)]
 have hlen:st.hp.length≤H'.length∧b2<H'.length:=by
  rw[←hH];unfold qC;exact⟨aCX (wE _ _ _ _).1 (wE _ _ _ _).1,(wE _ _ _ _).2⟩
 have hbu: ∀o,o≠0→aj st.hp b o= .undef:=fun o ho=>by
  have hl:=h.hp b o
  cases e:aj st.hp b o<;>rw[e]at hl<;>first|rfl|(have:=hl.1;rw[eM]at this;cases this;done)|exact absurd hl.1 ho
 have asQ: ∀o,o≠0→aj st.hp b2 o= .undef:=fun o ho=>by
  rcases h2 with⟨e,_⟩|⟨_,e,_⟩
  ·rw[e];exact hbu o ho
  ·exact e o
 let aA:Nat→Option Nat:=fun k=>if k=b2 then some x else if k=b then none else ι k
 have i2:aA b2=some x:=aCL rfl;have ib:b2≠b→aA b=none:=fun e=>by simp only[aA];rw[aCM (fun g=>e g.symm)];simp
 have io: ∀k,k≠b→k≠b2→aA k=ι k:=fun k g1 g2=>by simp only[aA];rw[aCM g2,aCM g1]
 have Is: ∀k y,aA k=some y→(k=b2∧y=x)∨(k≠b∧k≠b2∧ι k=some y):=fun k y hy=>by
  by_cases e2:k=b2
  ·subst e2;rw[i2]at hy;cases hy;exact .inl ⟨rfl,rfl⟩
  ·by_cases e1:k=b
   ·rw[e1,ib (fun g=>e2 (by rw[g,e1]))]at hy;cases hy
   ·rw[io k e1 e2]at hy;exact .inr ⟨e1,e2,hy⟩
 have p7:nD st.hp b:= .inl ⟨by rw[eM];rfl,by rw[eM];rfl⟩;have p6: ∀k y,ι k=some y→k≠b→y≠x:=fun k y hy db e=>db (h.inj _ _ _ hy (by rw[e];exact hx));have pV: ∀y p,y≠x→w'.cell? ⟨y,p,none⟩=w.cell? ⟨y,p,none⟩:=fun y p hy=>World.cell?_of_block (HS y hy);have hF: ∀y,FZ S ι st.hp w y→FZ S aA H' w' y:=fun y ⟨q1,q2,q3⟩=>⟨q1,by rw[dw];exact q2,fun k hl hy=>by
  rcases Is k y hy with⟨rfl,rfl⟩|⟨e1,e2,hy⟩
  ·exact q3 b p7 hx
  ·exact q3 k (oG (fun o=>go k o (.inl ⟨e1,e2⟩)) hl) hy⟩
 have hs:dV ι st.hp w (FZ S ι st.hp w) aA H' w' (FZ S aA H' w'):=by
  refine⟨hF,fun y o ⟨_,_,q3⟩=>pV y o fun e=>q3 b p7 (by rw[e];exact hx),fun k z hz hk=> ?_,fun k I6 mM n0 f0 hk=> ?_⟩
  ·have e1:k≠b:=fun e=>by rw[e,eM]at hk;cases hk
   have e2:k≠b2:=fun e=>by
    rcases h2 with⟨e',_⟩|⟨_,_,e'⟩
    ·exact e1 (e.trans e')
    ·rw[e,e']at hz;cases hz
   exact⟨by rw[io k e1 e2];exact hz,by rw[go k 0 (.inl ⟨e1,e2⟩)];exact hk⟩
  ·by_cases e1:k=b
   ·subst e1;rw[eM]at hk;cases hk;rcases h2 with⟨e,cI⟩|⟨e,_,_⟩
    ·subst e;refine⟨false,_,n',f',g2,by rcases cI with h|⟨h,_⟩<;>omega,fun e=> ?_⟩;rcases cI with cI|⟨_,att⟩
     ·omega
     ·refine⟨rfl,by rw[i2,hx],fun y D T' hy hD=> ?_⟩;rw[hx]at hy;cases hy;rw[hC]at hD;cases hD;exact⟨C',iD,att⟩
    ·exact⟨true,0,dg+1,fun _=>[],gb e,by omega,fun e=>by omega⟩
   ·have e2:k≠b2:=fun e=>by
     rcases h2 with⟨e',_⟩|⟨_,e',_⟩
     ·exact e1 (e.trans e')
     ·rw[e,e']at hk;cases hk
    refine⟨I6,mM,n0,f0,by rw[go k 0 (.inl ⟨e1,e2⟩)];exact hk,aCK _,fun _=>⟨rfl,io k e1 e2,fun y D T' hy hD=>⟨D,?_,rfl⟩⟩⟩;rw[HS y (p6 _ _ hy e1)];exact hD
 refine⟨aA,⟨h.below.then ⟨hos,hta,hou,by rw[dw];exact aCK _,fun k hk hn=>HS k fun e=> ?_⟩,h.defers,fun t av ht=> ?_,fun k o=> ?_,fun k1 k2 y h1 h3=> ?_,fun k y hy=> ?_,fun k y hy=> ?_,h.gK.trans hs⟩,rfl,false,sz,n',f',g2,aCK _,fun _=> .inl ⟨x,c,C',T,i2,rfl,pU,iD,eZ⟩⟩
 ·rcases(h.fresh b x hx).1 with g|g
  ·omega
  ·exact hn (by rw[e];exact g)
 ·obtain⟨v,q1,q2⟩:=h.tm t av ht;exact⟨v,q1,q2.step hs⟩
 ·show fc aA H' w' (FZ S aA H' w') k o (aj H' k o)
  by_cases e2:k=b2
  ·subst e2
   by_cases eo:o=0
   ·subst eo;rw[g2];refine⟨rfl,.inr ⟨dK,.inr ⟨x,C',T,i2,iD,fun i j hi hj=> ?_⟩⟩⟩;obtain⟨av,u,q1,q2,q3⟩:=hv i j hi hj;exact⟨av,u,q1,q2,q3.mono hF hs.cell⟩
   ·rw[go k o (.inr eo),asQ o eo];trivial
  ·by_cases e1:k=b
   ·subst e1
    by_cases eo:o=0
    ·subst eo;rw[gb (fun g=>e2 g.symm)];exact⟨rfl,.inl ⟨rfl,rfl,ib (fun g=>e2 g.symm)⟩⟩
    ·rw[go k o (.inr eo),hbu o eo];trivial
   ·rw[go k o (.inl ⟨e1,e2⟩)];exact(h.hp k o).step hs (fun _=>io k e1 e2) (fun y hy _=>⟨pV y o (p6 _ _ hy e1),World.frozen?_of_block (HS y (p6 _ _ hy e1))⟩) (fun _=>⟨io k e1 e2,fun y hy=>HS y (p6 _ _ hy e1)⟩)
 ·rcases Is k1 y h1 with⟨rfl,rfl⟩|⟨a1,a2,a3⟩<;>rcases Is k2 y h3 with⟨rfl,q⟩|⟨c1,c2,c3⟩
  ·rfl
  ·exact absurd rfl (p6 _ _ c3 c1)
  ·subst q;exact absurd rfl (p6 _ _ a3 a1)
  ·exact h.inj k1 k2 y a3 c3
 ·rw[dw];rcases Is k y hy with⟨rfl,rfl⟩|⟨a1,a2,a3⟩
  ·exact h.fresh b _ hx
  ·exact h.fresh k y a3
 ·rcases Is k y hy with⟨rfl,rfl⟩|⟨a1,a2,a3⟩
  ·exact hlen.2
  ·exact aC0 (h.gH k y a3) hlen.1
end
theorem AW{w:World}{x:Nat}{C:Array Value}{T:TypeId}{z:Nat×Nat}(h:w.heap[x]? =some (.cells C T z))(o:Nat):w.cell? ⟨x,o,none⟩=C[o]? :=by
 simp [World.cell?,h]
theorem Ft{w:World}{x:Nat}{C:Array Value}{T:TypeId}(h:w.heap[x]? =some (.cells C T (0,0)))(o:Nat):w.frozen? ⟨x,o,none⟩=false:=by
 simp [World.frozen?,h]
theorem aP.I2{S:dF}{ι:Nat→Option Nat}{st:St}{a:Act}{w:World}(h:aP S ι st a w){b n sz:Nat}{g:Nat→List AV}{v:Value}(hb:aj st.hp b 0= .ah false sz n g)(hv:CR S ι st.hp w (.own b n) v):
  n≤dg∧((∃x c C T,ι b=some x∧v= .slice (some ⟨x,0,none⟩) n c∧n≤c∧w.heap[x]? =some (.cells C T (0,0))∧C.size=c*sz∧ ∀i j,i<n→j<sz→ ∃av u,(g i)[j]? =some av∧C[i*sz+j]? =some u∧aR w (FZ S ι st.hp w) av u)∨
   (n=0∧ι b=none∧v= .slice none 0 0)):=by
 obtain⟨_,ro,fe,n',g',h1,_,h3⟩:=hv;rw[hb]at h1;cases h1;have hl:=h.hp b 0;rw[hb]at hl;obtain⟨_,hd|⟨dK,hl⟩⟩:=hl
 ·cases hd.1
 refine⟨dK,?_⟩;rcases h3 rfl with⟨x,c,C,T,hx,hv,gL,hC,eZ⟩|⟨h0,hn,hv⟩
 ·rcases hl with hl|⟨x',C',T',cQ,iD,eB⟩
  ·rw[hx]at hl;cases hl.2
  ·rw[hx]at cQ;cases cQ;rw[hC]at iD;cases iD;exact .inl ⟨x,c,C,T,hx,hv,gL,hC,eZ,eB⟩
 ·exact .inr ⟨h0,hn,hv⟩
theorem aR.X2{w:World}{F:Nat→Prop}{av:AV}{v:Value}(h:aR w F av v):v.oneCell'=true:=aiD h.one
theorem nv{i j sz n:Nat}(hi:i<n)(hj:j<sz):i*sz+j<n*sz:=by
 have:(i+1)*sz≤n*sz:=aC2 sz hi;rw[aDb]at this;omega
end Go.Vc
namespace Go.Vc
open Go Go.Proofs Go.RowKit Go.Shelf
section
variable {P:Program}
def xi(g:Nat→List AV)(i j t:Nat):List AV:=bif Nat.blt t i then g t else g (t+(j-i))
def PG(P:Program)(f:FuncId)(k:Nat)(z:Value):Prop:= ∀(ah cap n i j:Nat) (w:World) (news zs:List Value) (_:(Builtin.zeroCells z.cells (j-i)).toList=zs) (_:zs.length=(j-i)*k) (_: ∀v∈zs,v.oneCell'=true)
    (_:news.length=(n-j)*k) (_: ∀v∈news,v.oneCell'=true) (_: ∀t u,news[t]? =some u→w.cell? ⟨ah,j*k+t,none⟩=some u)
    (_: ∀t,t<n*k→(w.cell? ⟨ah,t,none⟩).isSome=true) (_: ∀t,w.frozen? ⟨ah,t,none⟩=false)
    (_:n≤cap) (_:i<j) (_:j≤n),
    Calls P f #[.slice (some ⟨ah,0,none⟩) n cap,.int .i64 i,.int .i64 j] w fun e w'=>e= .returned (.slice (some ⟨ah,0,none⟩) (n- (j-i)) cap)∧w'=(w.drew.setCells ah (i*k) news).setCells ah ((i+(n-j))*k) zs
theorem aoG{f:FuncId}{sz:Nat}{z:Value}(b_:PG P f sz z)(hz: ∀m,(Builtin.zeroCells z.cells m).toList.length=m*sz∧ ∀v∈(Builtin.zeroCells z.cells m).toList,v.oneCell'=true)(n i j:Nat)(g:Nat→List AV)(iY:i<j)(hj:j≤n):
  fj P f [.own 0 n,.int .i64 i,.int .i64 j] [[.ah false sz n g]] [.own 1 (n- (j-i))] [[dh],[.ah false sz (n- (j-i)) (xi g i j)]]:=by
 intro S ι w vs hS jV hs
 match vs,jV with
 |[v0,v1,v2],_=>
 obtain⟨_,q0,r0⟩:=hs.tm 0 _ rfl;obtain⟨_,q1,r1⟩:=hs.tm 1 _ rfl;obtain⟨_,q2,r2⟩:=hs.tm 2 _ rfl;simp only[aDI,List.getElem?_cons_zero,List.getElem?_cons_succ,aC3]at q0 q1 q2;subst q0 q1 q2;have r1:v1= .int .i64 i:=by
  have:aR w (FZ S ι [[.ah false sz n g]] w) (.int .i64 i) v1:=r1
  cases this;rfl
 have r2:v2= .int .i64 j:=by
  have:aR w (FZ S ι [[.ah false sz n g]] w) (.int .i64 j) v2:=r2
  cases this;rfl
 subst r1 r2;obtain⟨dK,⟨x,c,C,T,hx,rfl,gL,hC,eZ,eB⟩|⟨h0,_⟩⟩:=hs.I2 (b:=0) (g:=g) (sz:=sz) rfl r0
 case inr=>omega
 have agQ:n*sz≤C.size:=by rw[eZ];exact aC2 sz gL
 have hjn:j*sz+(n-j)*sz=n*sz:=by rw[←aC6];congr 1;omega
 have uh: ∀t,t<n*sz→ ∃u,C[t]? =some u∧u.oneCell'=true:=fun t ht=>by
  have dw:0<sz:=by
   rcases aDW sz with e|e
   ·rw[e]at ht;omega
   ·exact e
  have h1:t/sz<n:=(Nat.div_lt_iff_lt_mul dw).2 ht;obtain⟨av,u,_,g2,g3⟩:=eB (t/sz) (t%sz) h1 (Nat.mod_lt _ dw);rw[aDM,Nat.div_add_mod]at g2;exact⟨u,g2,g3.X2⟩
 let news:List Value:=(C.toList.drop (j*sz)).take ((n-j)*sz);have hnl:news.length=(n-j)*sz:=by simp only[news,aDq,aEc,Array.length_toList];omega
 have nq: ∀t u,news[t]? =some u→C[j*sz+t]? =some u∧t<(n-j)*sz:=fun t u hu=>by
  have ht:t<news.length:=(aDc.1 hu).1;rw[hnl]at ht;simp only[news]at hu;rw[aDV ht,aDv,aEs]at hu;exact⟨hu,ht⟩
 have V9: ∀v∈news,v.oneCell'=true:=fun v hv=>by
  obtain⟨t,ht⟩:=aDJ hv;obtain⟨h1,h2⟩:=nq t v ht;obtain⟨u,g1,g2⟩:=uh (j*sz+t) (by omega);rw[h1]at g1;cases g1;exact g2
 obtain⟨rU,nu⟩:=hz (j-i);have aCd:i*sz+(n-j)*sz+(j-i)*sz=n*sz:=by rw[←aC6,←aC6];congr 1;omega
 refine(b_ x c n i j w news _ rfl rU nu hnl V9 (fun t u hu=>by rw[AW hC];exact(nq t u hu).1) (fun t ht=>by
  rw[AW hC];obtain⟨u,g1,_⟩:=uh t ht;rw[g1];rfl) (fun t=>Ft hC t) gL iY hj).mono ?_
 rintro e w' ⟨rfl,rfl⟩
 have Vs:w.drew.heap[x]? =some (.cells C T (0,0)):=hC;obtain⟨⟨C1,a1,a2,a3⟩,a4,a5,a6,a7,a8⟩:=rJ x news (i*sz) w.drew C T (0,0) Vs;obtain⟨⟨C2,b1,b2,b3⟩,b4,b5,b6,b7,b8⟩:=rJ x (Builtin.zeroCells z.cells (j-i)).toList ((i+(n-j))*sz) (w.drew.setCells x (i*sz) news) C1 T (0,0) a1;generalize (w.drew.setCells x (i*sz) news).setCells x ((i+(n-j))*sz) (Builtin.zeroCells z.cells (j-i)).toList=w' at*
 have hmul:(i+(n-j))*sz=i*sz+(n-j)*sz:=aC6 _ _ _;obtain⟨aA,dP,ui⟩:=aP.Ps (b:=0) (b2:=1) (f:=g) (f':=xi g i j) (n':=n- (j-i)) (c:=c) (w':=w') (C':=C2) hs rfl hx hC (by rw[b6,a6];rfl) (by rw[b7,a7];rfl) (by rw[b8,a8];rfl) (by rw[b4,a4];rfl)
  (fun k hk=>by rw[b5 k hk,a5 k hk];rfl) b1 (by rw[b2,a2];exact eZ) (by omega) (by omega) (fun p q hp hq=>by
   have Wd:=nv hp hq;have hnn:(n- (j-i))*sz=i*sz+(n-j)*sz:=by rw[←aC6];congr 1;omega
   rw[b3,aCM (by omega),a3];unfold xi
   by_cases fy:p<i
   ·have hb:Nat.blt p i=true:=by simpa[aC9]using fy
    have:=nv fy hq;rw[aCM (by omega),hb];exact eB p q (by omega) hq
   ·have hb:Nat.blt p i=false:=by
     cases e:Nat.blt p i with
     |false=>rfl
     |true=>exact absurd (aC1 e) (by omega)
    have h1:i*sz≤p*sz:=aC2 sz (by omega);have h2:(p-i)*sz=p*sz-i*sz:=aD3 _ _ _;have h3:(p+(j-i))*sz=p*sz+(j-i)*sz:=aC6 _ _ _;have h4:j*sz=i*sz+(j-i)*sz:=by rw[←aC6];congr 1;omega
    rw[aCL ⟨by omega,by omega,by omega⟩,hb];obtain⟨av,u,g1,g2,g3⟩:=eB (p+(j-i)) q (by omega) hq;refine⟨av,u,g1,?_,g3⟩;have ht:p*sz+q-i*sz<(n-j)*sz:=by omega
    simp only[news];rw[aDV ht,aDv,aEs,←g2]
    congr 1;omega) (.inr ⟨by simp,fun o=>by simp [aj],by
    cases e:ι 1 with
    |none=>rfl
    |some y=>have:=hs.gH 1 y e;simp at this⟩)
 have hT:qC [[AV.ah false sz n g]] 0 1 (.ah false sz (n- (j-i)) (xi g i j))=[[dh],[.ah false sz (n- (j-i)) (xi g i j)]]:=rfl;rw[hT]at dP ui;refine⟨[.slice (some ⟨x,0,none⟩) (n- (j-i)) c],aA,rfl,rfl,dP.below,rfl,fun t av ht=> ?_,dP.hp,dP.inj,dP.fresh,dP.gH,dP.gK⟩
 match t with
 |0=>cases ht;exact⟨_,rfl,ui⟩
 |t+1=>simp at ht
end
section
variable {P:Program} {ρ:Ren}
def lK(g:Nat→List AV)(i:Nat)(v:Nat→List AV)(t:Nat):List AV:=bif Nat.blt t i then g t else bif Nat.beq t i then v 0 else g (t-1)
theorem NS{g v:Nat→List AV}{i t:Nat}(h:t<i):lK g i v t=g t:=by
 unfold lK;rw[show Nat.blt t i=true by simpa[aC9]using h];rfl
theorem aa0{a b:Nat}(h:b≤a):Nat.blt a b=false:=by
 cases e:Nat.blt a b with
 |false=>rfl
 |true=>exact absurd (aC1 e) (by omega)
theorem Im{g v:Nat→List AV}{i:Nat} :lK g i v i=v 0:=by
 unfold lK;rw[aa0 (aCK _),aDp];rfl
theorem ag7{g v:Nat→List AV}{i t:Nat}(h:i<t):lK g i v t=g (t-1):=by
 unfold lK;rw[aa0 (by omega),show Nat.beq t i=false by
  cases e:Nat.beq t i with
  |false=>rfl
  |true=>have:=aCS e;omega];rfl
theorem Below.ajH{B:Nat}{a w:World}(h:Below B a w){x:Nat}(hx:B≤x): ∀(vs:List Value) (o:Nat),Below B a (w.setCells x o vs)
 |vs,o=>by
  induction vs generalizing w o with
  |nil=>exact h
  |cons v vs ih=>
   rw[World.setCells];have h1:Below B w (w.setCell ⟨x,o,none⟩ v):=⟨rfl,rfl,rfl,by simp,fun k hk=>Below.heap_setCell w ⟨x,o,none⟩ v k (by show k≠x;omega)⟩;exact ih (h.trans h1) _
theorem abd{w:World}{F:Nat→Prop}{n sz c:Nat}{g:Nat→List AV}{C:Array Value}(gL:n≤c)(eZ:C.size=c*sz)(eB: ∀i j,i<n→j<sz→ ∃av u,(g i)[j]? =some av∧C[i*sz+j]? =some u∧aR w F av u):
  ∃cs:List Value,cs.length=n*sz∧(∀t u,cs[t]? =some u→C[t]? =some u∧t<n*sz)∧(∀v∈cs,v.oneCell'=true)∧ ∀i j,i<n→j<sz→ ∃av u,(g i)[j]? =some av∧cs[i*sz+j]? =some u∧aR w F av u:=by
 have agQ:n*sz≤C.size:=by rw[eZ];exact aC2 sz gL
 have hl:(C.toList.take (n*sz)).length=n*sz:=by simp only[aDq,Array.length_toList];omega
 have hg: ∀t,t<n*sz→(C.toList.take (n*sz))[t]? =C[t]? :=fun t ht=>by rw[aDV ht,aEs]
 refine⟨C.toList.take (n*sz),hl,fun t u hu=> ?_,fun v hv=> ?_,fun i j hi hj=> ?_⟩
 ·have ht:t<n*sz:=by have:=(aDc.1 hu).1;rwa [hl]at this
  rw[hg t ht]at hu;exact⟨hu,ht⟩
 ·obtain⟨t,hu⟩:=aDJ hv;have ht:t<n*sz:=by have:=(aDc.1 hu).1;rwa [hl]at this
  rw[hg t ht]at hu;have dw:0<sz:=by
   rcases aDW sz with e|e
   ·rw[e]at ht;omega
   ·exact e
  obtain⟨av,u,_,g2,g3⟩:=eB (t/sz) (t%sz) ((Nat.div_lt_iff_lt_mul dw).2 ht) (Nat.mod_lt _ dw);rw[aDM,Nat.div_add_mod]at g2;rw[hu]at g2;cases g2;exact g3.X2
 ·obtain⟨av,u,g1,g2,g3⟩:=eB i j hi hj;exact⟨av,u,g1,by rw[hg _ (nv hi hj)];exact g2,g3⟩
theorem atM{k bytes:Nat}{z:Value}(L:qG P ρ k bytes z)(p5:0<k)(pT:bytes≤255)(um: ∀m,(Builtin.zeroCells z.cells m).size=m*k)(n i:Nat)(g v:Nat→List AV)(hi:i≤n)(hn:n+1≤dg):
  fj P (ρ.f 22) [.own 0 n,.int .i64 i,.own 1 1] [[.ah false k n g],[.ah false k 1 v]] [.own 0 (n+1)] [[.ah false k (n+1) (lK g i v)],[.ah false k 1 v]]:=by
 intro S ι w vs hS jV hs
 match vs,jV with
 |[v0,v1,v2],_=>
 obtain⟨_,q0,r0⟩:=hs.tm 0 _ rfl;obtain⟨_,q1,r1⟩:=hs.tm 1 _ rfl;obtain⟨_,q2,r2⟩:=hs.tm 2 _ rfl;simp only[aDI,List.getElem?_cons_zero,List.getElem?_cons_succ,aC3]at q0 q1 q2;subst q0 q1 q2;have r1:v1= .int .i64 i:=by
  have:aR w (FZ S ι [[.ah false k n g],[.ah false k 1 v]] w) (.int .i64 i) v1:=r1
  cases this;rfl
 subst r1;obtain⟨_,⟨y,c2,D,T2,hy,rfl,ati,hD,hDs,hDc⟩|⟨h0,_⟩⟩:=hs.I2 (b:=1) (g:=v) (sz:=k) rfl r2
 case inr=>omega
 obtain⟨vl,e1,e2,e3,e4⟩:=abd ati hDs hDc;rw[Nat.one_mul]at e1;have VE:(n+1)*bytes≤140737488355328:=by
  have:(n+1)*bytes≤549755813888*255:=Nat.mul_le_mul hn pT;omega
 have zH:n≤549755813888:=by have:dg=549755813888:=rfl;omega
 have iF: ∀j u,vl[j]? =some u→w.cell? ⟨y,j,none⟩=some u:=fun j u hu=>by rw[AW hD];exact(e2 j u hu).1
 have Dv: ∀j,j<k→ ∃av u,(v 0)[j]? =some av∧vl[j]? =some u∧aR w (FZ S ι [[.ah false k n g],[.ah false k 1 v]] w) av u:=fun j hj=>by
  have:=e4 0 j (by omega) hj;rwa [Nat.zero_mul,aCO]at this
 have aCf:(i+1)*k=i*k+k:=aDb _ _;have aCi:(n+1)*k=n*k+k:=aDb _ _;have fin: ∀(w':World) (aA:Nat→Option Nat) (u:Value) (H':Heap),H'=[[.ah false k (n+1) (lK g i v)],[.ah false k 1 v]]→aP S aA ⟨[.own 0 n,.int .i64 i,.own 1 1],H'⟩ {tmps:= #[v0,.int .i64 i,.slice (some ⟨y,0,none⟩) 1 c2],defers:=[]} w'→bV aA H' w' (FZ S aA H' w') (.own 0 (n+1)) u→
   ∃us aA,Ending.returned u= .returned (pack us)∧us.length=1∧aP S aA ⟨[.own 0 (n+1)],[[.ah false k (n+1) (lK g i v)],[.ah false k 1 v]]⟩ {tmps:=us.toArray,defers:=[]} w':=fun w' aA u H' e dP hu=>by
  subst e;refine⟨[u],aA,rfl,rfl,dP.below,rfl,fun t av ht=> ?_,dP.hp,dP.inj,dP.fresh,dP.gH,dP.gK⟩
  match t with
  |0=>cases ht;exact⟨_,rfl,hu⟩
  |t+1=>simp at ht
 have place: ∀(x c:Nat) (C C':Array Value) (T:TypeId) (w':World),ι 0=some x→n+1≤c→w.heap[x]? =some (.cells C T (0,0))→C.size=c*k→w'.os=w.os→w'.tape=w.tape→w'.output=w.output→w'.heap.size=w.heap.size→(∀q,q≠x→w'.heap[q]? =w.heap[q]?)→
   w'.heap[x]? =some (.cells C' T (0,0))→C'.size=C.size→(∀p q,p<n+1→q<k→ ∃av u,(lK g i v p)[q]? =some av∧C'[p*k+q]? =some u∧aR w (FZ S ι [[.ah false k n g],[.ah false k 1 v]] w) av u)→
   ∃us aA,Ending.returned (.slice (some ⟨x,0,none⟩) (n+1) c)= .returned (pack us)∧us.length=1∧aP S aA ⟨[.own 0 (n+1)],[[.ah false k (n+1) (lK g i v)],[.ah false k 1 v]]⟩ {tmps:=us.toArray,defers:=[]} w':=fun x c C C' T w' hx hc hC eZ h1 h2 h3 h4 h5 h6 h7 h8=>by
  obtain⟨aA,dP,ui⟩:=aP.Ps (b:=0) (b2:=0) (f:=g) (f':=lK g i v) (n':=n+1) (c:=c) (w':=w') (C':=C') hs rfl hx hC h1 h2 h3 h4 h5 h6 (by rw[h7];exact eZ) hn hc h8 (.inl ⟨rfl,.inl (by omega)⟩);exact fin w' aA _ _ rfl dP ui
 have fresh: ∀(G:Nat) (R:Array Value) (T:TypeId) (w':World),n+1≤G→Below w.heap.size w w'→w.heap.size<w'.heap.size→w'.heap[w.heap.size]? =some (.cells R T (0,0))→R.size=G*k→
   (∀p q,p<n+1→q<k→ ∃av u,(lK g i v p)[q]? =some av∧R[p*k+q]? =some u∧aR w (FZ S ι [[.ah false k n g],[.ah false k 1 v]] w) av u)→
   ∃us aA,Ending.returned (.slice (some ⟨w.heap.size,0,none⟩) (n+1) G)= .returned (pack us)∧us.length=1∧aP S aA ⟨[.own 0 (n+1)],[[.ah false k (n+1) (lK g i v)],[.ah false k 1 v]]⟩ {tmps:=us.toArray,defers:=[]} w':=fun G R T w' hG hB cI hR MX h8=>by
  obtain⟨dP,ui⟩:=aP.I5 hs hB (b:=0) (x:=w.heap.size) (aCK _) cI (sz:=k) (n:=n+1) (c:=G) (f:=lK g i v) (C:=R) (T:=T) hn hG hR MX (F':=FZ S ι [[.ah false k n g],[.ah false k 1 v]] w) (fun _ h=> .inl h)
   (fun p q hp hq=>by
    obtain⟨av,u,a1,a2,a3⟩:=h8 p q hp hq;exact⟨av,u,a1,a2,a3.mono (fun _ h=>h) fun y' o jo=>hB.cell jo.2.1⟩) (.inr ⟨n,g,rfl,by omega⟩)
  exact fin w' _ _ _ rfl dP ui
 obtain⟨_,⟨x,c,C,T,hx,rfl,gL,hC,eZ,eB⟩|⟨h0,aCk,rfl⟩⟩:=hs.I2 (b:=0) (g:=g) (sz:=k) rfl r0
 ·obtain⟨cs,f1,f2,f3,f4⟩:=abd gL eZ eB;have wu:y≠x:=fun e=>by have:=hs.inj 0 1 x hx (by rw[←e];exact hy);omega
  have kr: ∀j u,cs[j]? =some u→w.cell? ⟨x,j,none⟩=some u:=fun j u hu=>by rw[AW hC];exact(f2 j u hu).1
  have aCc: ∀j,j<n*k→cs[j]? =C[j]? :=fun j hj=>by
   have h1:cs[j]? =some (cs[j]'(by omega)):=aCP (by omega);rw[h1,(f2 j _ h1).1]
  have tZ:(n+1)≤c→(n+1)*k≤C.size:=fun h=>by rw[eZ];exact aC2 k h
  have mI:n+1≤c→ ∀j,j<(n+1)*k→(w.cell? ⟨x,j,none⟩).isSome=true:=fun h j hj=>by
   have:=tZ h;rw[AW hC,aDu (by omega)];rfl
  by_cases gS:i=n
  ·subst gS
   by_cases hr:i+1≤c
   ·refine(atN L x i c y c2 vl w hr e1 (mI hr) (fun j=>Ft hC j) iF e3).mono ?_
    rintro e w' ⟨rfl,rfl⟩
    obtain⟨⟨C1,a1,a2,a3⟩,a4,a5,a6,a7,a8⟩:=rJ x vl (i*k) w C T (0,0) hC;refine place x c C C1 T _ hx hr hC eZ a6 a7 a8 a4 a5 a1 a2 fun p q hp hq=> ?_;have:=tZ hr
    by_cases fy:p<i
    ·have:=nv fy hq;rw[NS fy,a3,aCM (by omega)];exact eB p q fy hq
    ·have fy:p=i:=by omega
     subst fy;rw[Im,a3,aCL ⟨by omega,by omega,by omega⟩,show p*k+q-p*k=q by omega];exact Dv q hq
   ·refine(ag8 L (some ⟨x,0,none⟩) i c y c2 cs vl w gL (by omega) VE zH f1 e1 (fun h=>by cases h) (fun a ha j u hj=>by cases ha;rw[Addr.add_lit,aCO];exact kr j u hj) iF e3).mono ?_
    rintro e w' ⟨rfl,rfl⟩
    have hG:=aDP w (i+1) c (ρ.t 9);generalize grownCap w (i+1) c (ρ.t 9)=G at*
    refine fresh G _ (ρ.t 9) _ hG ((Below.drew (Below.refl _ w)).alloc (aCK _) _) (by simp) (aDE w.drew _) (by
     simp only[aDQ,aDw,aC8,um,f1,e1];have:(G- (i+1))*k+(i+1)*k=G*k:=by rw[←aC6];congr 1;omega
     omega) fun p q hp hq=> ?_
    have Wd:=nv hp hq;rw[aDt (by simp only[aDw,aC8,f1,e1];omega)];simp only[aDI]
    by_cases fy:p<i
    ·have:=nv fy hq;rw[NS fy,aDH (by omega)];exact f4 p q fy hq
    ·have fy:p=i:=by omega
     subst fy;rw[Im,aD4 (by omega),f1,show p*k+q-p*k=q by omega];exact Dv q hq
  ·have cI:i<n:=by omega
   have hni:(n-i)*k+i*k=n*k:=by rw[←aC6];congr 1;omega
   have zC:(cs.drop (i*k)).length=(n-i)*k:=by rw[aEc,f1];omega
   by_cases hr:n+1≤c
   ·have Vs:C.size≠0:=by have:=tZ hr;have:0<(n+1)*k:=Nat.mul_pos (by omega) p5;omega
    refine(atP L x n c i y c2 cs vl w cI hr zH wu f1 e1 kr (mI hr) (fun j=>Ft hC j) iF f3 e3 T2 T D.size C.size (by simp [World.shape?,hD]) (by simp [World.shape?,hC]) Vs (fun j=>Ft hD j)).mono ?_
    rintro e w' ⟨rfl,rfl⟩
    have hC1:w.drew.heap[x]? =some (.cells C T (0,0)):=hC;obtain⟨⟨C1,a1,a2,a3⟩,a4,a5,a6,a7,a8⟩:=rJ x (cs.drop (i*k)) (i*k+k) w.drew C T (0,0) hC1;obtain⟨⟨C2,b1,b2,b3⟩,b4,b5,b6,b7,b8⟩:=rJ x vl (i*k) (w.drew.setCells x (i*k+k) (cs.drop (i*k))) C1 T (0,0) a1;refine place x c C C2 T _ hx hr hC eZ (by rw[b6,a6];rfl) (by rw[b7,a7];rfl) (by rw[b8,a8];rfl) (by rw[b4,a4];rfl) (fun q hq=>by rw[b5 q hq,a5 q hq];rfl) b1 (by rw[b2,a2]) fun p q hp hq=> ?_;have tZ:=tZ hr;have Wd:=nv hp hq;rw[b3]
    by_cases fy:p<i
    ·have:=nv fy hq;rw[NS fy,aCM (by omega),a3,aCM (by omega)];exact eB p q (by omega) hq
    ·by_cases Wb:p=i
     ·subst Wb;rw[Im,aCL ⟨by omega,by omega,by omega⟩,show p*k+q-p*k=q by omega];exact Dv q hq
     ·have h1:(i+1)*k≤p*k:=aC2 k (by omega);have h2:(p-1)*k+k=p*k:=by rw[←aDb];congr 1;omega
      rw[ag7 (by omega),aCM (by omega),a3,aCL ⟨by omega,by omega,by omega⟩,aDv,show i*k+(p*k+q- (i*k+k))=(p-1)*k+q by omega];exact f4 (p-1) q (by omega) hq
   ·refine(atO L p5 um x n c i y c2 cs vl w cI gL (by omega) VE zH f1 e1 kr iF f3 e3).mono ?_
    rintro e w' ⟨rfl,rfl⟩
    have hG:=aDP w (n+1) c (ρ.t 9);generalize grownCap w (n+1) c (ρ.t 9)=G at*
    have hGk:(G- (n+1))*k+(n+1)*k=G*k:=by rw[←aC6];congr 1;omega
    have aCh:(n+1-i)*k+i*k=(n+1)*k:=by rw[←aC6];congr 1;omega
    generalize tX:(cs.take (i*k)).toArray++Builtin.zeroCells z.cells (n+1-i)++Builtin.zeroCells z.cells (G- (n+1))=gV;have MX:gV.size=G*k:=by
     rw[←tX];simp only[aDQ,aDw,aDq,um,f1];omega
    have hR0:(w.alloc (.cells gV (ρ.t 9))).drew.heap[w.heap.size]? =some (.cells gV (ρ.t 9) (0,0)):=aDE w _;obtain⟨⟨C1,a1,a2,a3⟩,a4,a5,a6,a7,a8⟩:=rJ w.heap.size vl (i*k) (w.alloc (.cells gV (ρ.t 9))).drew gV (ρ.t 9) (0,0) hR0;have a1':((w.alloc (.cells gV (ρ.t 9))).drew.setCells w.heap.size (i*k) vl).drew.heap[w.heap.size]? =some (.cells C1 (ρ.t 9) (0,0)):=a1;obtain⟨⟨C2,b1,b2,b3⟩,b4,b5,b6,b7,b8⟩:=rJ w.heap.size (cs.drop (i*k)) (i*k+k) ((w.alloc (.cells gV (ρ.t 9))).drew.setCells w.heap.size (i*k) vl).drew C1 (ρ.t 9) (0,0) a1';refine fresh G C2 (ρ.t 9) _ hG ?_ (by rw[b4];show w.heap.size<((w.alloc (.cells gV (ρ.t 9))).drew.setCells w.heap.size (i*k) vl).heap.size;rw[a4];show w.heap.size<(w.alloc (.cells gV (ρ.t 9))).heap.size;simp) b1 (by rw[b2,a2,MX]) fun p q hp hq=> ?_
    ·exact Below.ajH (Below.drew (Below.ajH (Below.drew ((Below.refl _ w).alloc (aCK _) _)) (aCK _) _ _)) (aCK _) _ _
    have Wd:=nv hp hq;rw[b3]
    by_cases fy:p<i
    ·have:=nv fy hq;rw[NS fy,aCM (by omega),a3,aCM (by omega),←tX,aDt (by simp only[aDQ,aDw,aDq,um,f1];omega),aDt (by simp only[aDw,aDq,f1];omega)];simp only[aDI];rw[aDV (by omega)];exact f4 p q (by omega) hq
    ·by_cases Wb:p=i
     ·subst Wb;rw[Im,aCM (by omega),a3,aCL ⟨by omega,by omega,by omega⟩,show p*k+q-p*k=q by omega];exact Dv q hq
     ·have h1:(i+1)*k≤p*k:=aC2 k (by omega);have h2:(p-1)*k+k=p*k:=by rw[←aDb];congr 1;omega
      have h3:=nv (show p-1<n by omega) hq;rw[ag7 (by omega),aCL ⟨by omega,by omega,by rw[a2,MX];have:(n+1)*k≤G*k:=aC2 k hG;omega⟩,aDv,show i*k+(p*k+q- (i*k+k))=(p-1)*k+q by omega];exact f4 (p-1) q (by omega) hq
 ·subst h0;have l_:i=0:=by omega
  subst l_;refine(ag8 L none 0 0 y c2 [] vl w (aCK _) (by omega) VE zH (by simp) e1 (fun _=>rfl) (fun a ha=>by cases ha) iF e3).mono ?_
  rintro e w' ⟨rfl,rfl⟩
  have hG:=aDP w (0+1) 0 (ρ.t 9);generalize grownCap w (0+1) 0 (ρ.t 9)=G at*
  refine fresh G _ (ρ.t 9) _ hG ((Below.drew (Below.refl _ w)).alloc (aCK _) _) (by simp) (aDE w.drew _) (by
   simp only[aDD,aDQ,aDw,um,e1];have:(G- (0+1))*k+(0+1)*k=G*k:=by rw[←aC6];congr 1;omega
   omega) fun p q hp hq=> ?_
  have HU:p=0:=by omega
  subst HU;rw[Im,aDD,aDt (by simp only[aDw,e1];omega)];simp only[aDI,Nat.zero_mul,aCO];exact Dv q hq
end
end Go.Vc
