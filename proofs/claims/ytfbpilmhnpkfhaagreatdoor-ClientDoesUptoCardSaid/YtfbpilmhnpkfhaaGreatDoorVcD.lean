/-
  A GENERATOR OF CONDITIONS over the model's code, proved sound once: what it asks of a function's body gives the run of that body. By an AI agent; no person has read it. Part 5: the code's statements, a function's contract, and how a law's row follows from it.
-/
import Derived.Test.YtfbpilmhnpkfhaaGreatDoorVcC
import Derived.LoopN
import Derived.Laws.StructEq
import Derived.ProofKit
import Derived.Below
import Derived.ChangeSame
import Derived.ChangeArms
import Derived.Carry
set_option linter.all false
namespace Go.Vc
open Go Go.RowKit
def thenA(next:St→Prop)(Q:Exit→St→Prop):Exit→St→Prop
 | .normal,st=>next st
 | .exit id,st=>Q (.exit id) st
 | .ret,st=>Q .ret st
 |_,_=>False
def blockA(id:Nat)(Q:Exit→St→Prop):Exit→St→Prop
 | .normal,st=>Q .normal st
 | .exit j,st=>if j=id then Q .normal st else Q (.exit j) st
 | .ret,st=>Q .ret st
 |_,_=>False
def Le(m:Nat)(st st':St):Prop:= ∀(S:Base),S.H0.length≤m→ ∀(ι:Nat→Option Nat) (a:Act) (w:World),Sim S ι st a w→ ∃ι',Sim S ι' st' a w
theorem Le.refl{m:Nat}(st:St):Le m st st:=fun _ _ ι _ _ h=>⟨ι,h⟩
theorem Le.trans{m:Nat}{a b c:St}(h:Le m a b)(k:Le m b c):Le m a c:=fun S hS ι x w hs=>let⟨ι',h1⟩:=h S hS ι x w hs;k S hS ι' x w h1
def loopQ(m:Nat){α:Type}(Q:Exit→St→Prop)(up:α→St)(μ:α→Nat)(x:α):Exit→St→Prop
 | .normal,st=> ∃y,μ y<μ x∧Le m st (up y)
 | .exit id,st=>Q (.exit id) st
 | .ret,st=>Q .ret st
 |_,_=>False
def loopA(m:Nat)(body:(Exit→St→Prop)→St→Prop)(Q:Exit→St→Prop)(st:St):Prop:=
 ∃(α:Type) (up:α→St) (μ:α→Nat) (x0:α),Le m st (up x0)∧ ∀x,body (loopQ m Q up μ x) (up x)
def awp(E:Env):Code→(Exit→St→Prop)→St→Prop
 | .skip,Q,st=>Q .normal st
 | .region _ ops draw,Q,st=>match draw with
   |true=>adraw E ops st (Q .normal)
   |false=>aops E ops ops.toList 0 st (Q .normal)
 | .seq x y,Q,st=>awp E x (thenA (awp E y Q) Q) st
 | .cond c x y,Q,st=>match evalA st.tm c with
   | .bool b=>(b=true→awp E x Q st)∧(b=false→awp E y Q st)
   | .lit b=>match b with
     |true=>awp E x Q st
     |false=>awp E y Q st
   |_=>False
 | .block id x,Q,st=>awp E x (blockA id Q) st
 | .loop x,Q,st=>loopA E.m (awp E x) Q st
 | .exit id,Q,st=>Q (.exit id) st
 | .ret,Q,st=>Q .ret st
 | .label _,Q,st=>Q .normal st
 |_,_,_=>False
section
variable {E:Env}
def Up(S:Base)(Q:Exit→St→Prop)(e:Exit)(a:Act)(w:World):Prop:= ∃ι st,Sim S ι st a w∧Q e st
theorem awp_sound(hE:E.Ok){S:Base}(hS:S.H0.length≤E.m): ∀(c:Code) (Q:Exit→St→Prop) (ι:Nat→Option Nat) (st:St) (a:Act) (w:World),Sim S ι st a w→awp E c Q st→c.wp E.P (Up S Q) a w:=by
 intro c
 induction c with
 |skip=>exact fun Q ι st a w h hk=>wp_skip ⟨ι,st,h,hk⟩
 |region id ops draw=>
  intro Q ι st a w h hk
  cases draw with
  |true=>exact adraw_sound hE h hk fun ι st a w hs hK=>⟨ι,st,hs,hK⟩
  |false=>exact wp_region_list (aops_sound hE _ _ ι st a w _ h hk fun ι st a w hs hK=>⟨ι,st,hs,hK⟩)
 |seq x y ihx ihy=>
  intro Q ι st a w h hk
  refine wp_seq (wp_mono (ihx _ ι st a w h hk) fun e a w ⟨ι',st',hs,hq⟩=> ?_)
  cases e<;>simp only[thenA]at hq<;>try exact hq.elim
  ·exact ihy Q ι' st' a w hs hq
  ·exact⟨ι',st',hs,hq⟩
  ·exact⟨ι',st',hs,hq⟩
 |cond c x y ihx ihy=>
  intro Q ι st a w h hk
  have hc:=h.eval c
  simp only[awp]at hk
  cases e:evalA st.tm c<;>rw[e]at hk hc<;>simp only at hk<;>try exact hk.elim
  ·rename_i b
   refine wp_cond hc.bool ?_
   cases b
   ·exact ihy Q ι st a w h (hk.2 rfl)
   ·exact ihx Q ι st a w h (hk.1 rfl)
  ·rename_i b
   refine wp_cond hc.lit ?_
   cases b
   ·exact ihy Q ι st a w h hk
   ·exact ihx Q ι st a w h hk
 |block bid x ih=>
  intro Q ι st a w h hk
  refine wp_block (wp_mono (ih _ ι st a w h hk) fun e a w ⟨ι',st',hs,hq⟩=> ?_)
  cases e<;>simp only[blockA]at hq<;>try exact hq.elim
  ·exact⟨ι',st',hs,hq⟩
  ·rename_i j _
   simp only[Exit.inBlock]
   by_cases ej:j=bid
   ·rw[if_pos ej]at hq ⊢;exact⟨ι',st',hs,hq⟩
   ·rw[if_neg ej]at hq ⊢;exact⟨ι',st',hs,hq⟩
  ·exact⟨ι',st',hs,hq⟩
 |loop x ih=>
  intro Q ι st a w h hk
  obtain⟨α,up,μ,x0,hle,hbody⟩:=hk
  obtain⟨ι0,h0⟩:=hle S hS ι a w h
  let p:Act→World→Nat→Prop:=fun a w n=> ∃y ι,μ y=n∧Sim S ι (up y) a w
  let least:Act→World→Nat:=fun a w=>Classical.epsilon fun n=>p a w n∧ ∀m,m<n→ ¬p a w m
  have hleast: ∀a w n,p a w n→p a w (least a w)∧ ∀m,m<least a w→ ¬p a w m:=fun a w n hn=>by
   have hex: ∃n,p a w n∧ ∀m,m<n→ ¬p a w m:=by
    induction n using Nat.strongRecOn with
    |_ n ihn=>
     by_cases h: ∃k,k<n∧p a w k
     ·obtain⟨k,h1,h2⟩:=h
      exact ihn k h1 h2
     ·exact⟨n,hn,fun m hm hp=>h ⟨m,hm,hp⟩⟩
   exact Classical.epsilon_spec hex
  refine wp_loop (fun a w=> ∃n,p a w n) least ⟨_,x0,ι0,rfl,h0⟩ fun a w ⟨n,hn⟩=> ?_
  obtain⟨⟨y,ι1,hy,hs⟩,_⟩:=hleast a w n hn
  refine wp_mono (ih _ ι1 (up y) a w hs (hbody y)) fun e a' w' ⟨ι',st',hs',hq⟩=> ?_
  cases e<;>simp only[loopQ]at hq<;>try exact hq.elim
  ·obtain⟨z,hz,hle⟩:=hq
   obtain⟨ι2,h2⟩:=hle S hS ι' a' w' hs'
   have hp:p a' w' (μ z):=⟨z,ι2,rfl,h2⟩
   refine⟨⟨_,hp⟩,?_⟩
   have h3:=(hleast a' w' _ hp).2
   have:least a' w'≤μ z:=by
    rcases Nat.lt_or_ge (μ z) (least a' w')with h|h
    ·exact absurd hp (h3 _ h)
    ·exact h
   omega
  ·exact⟨ι',st',hs',hq⟩
  ·exact⟨ι',st',hs',hq⟩
 |exit id=>exact fun Q ι st a w h hk=>wp_exit ⟨ι,st,h,hk⟩
 |ret=>exact fun Q ι st a w h hk=>wp_ret ⟨ι,st,h,hk⟩
 |label l=>exact fun Q ι st a w h hk=>wp_label ⟨ι,st,h,hk⟩
 |_=>exact fun Q ι st a w h hk=>hk.elim
def WP(E:Env)(c:Code)(Q:Exit→St→Prop)(st:St):Prop:= ∀(S:Base),S.H0.length≤E.m→ ∀(ι:Nat→Option Nat) (a:Act) (w:World),Sim S ι st a w→c.wp E.P (Up S Q) a w
theorem WP.of_awp(hE:E.Ok){c:Code}{Q:Exit→St→Prop}{st:St}(h:awp E c Q st):WP E c Q st:=fun _ hS ι a w hs=>awp_sound hE hS c Q ι st a w hs h
theorem WP.mono{c:Code}{Q R:Exit→St→Prop}{st:St}(h:WP E c R st)(hr: ∀e s,R e s→Q e s):WP E c Q st:=fun S hS ι a w hs=>wp_mono (h S hS ι a w hs) fun e _ _ ⟨ι',st',h1,h2⟩=>⟨ι',st',h1,hr e st' h2⟩
theorem WP.le{c:Code}{Q:Exit→St→Prop}{st st':St}(hle:Le E.m st st')(h:WP E c Q st'):WP E c Q st:=fun S hS ι a w hs=>let⟨ι',h1⟩:=hle S hS ι a w hs;h S hS ι' a w h1
theorem WP.seq{x y:Code}{Q:Exit→St→Prop}{st:St}(h:WP E x (thenA (WP E y Q) Q) st):WP E (.seq x y) Q st:=fun S hS ι a w hs=>by
 refine wp_seq (wp_mono (h S hS ι a w hs) fun e a w ⟨ι',st',hs,hq⟩=> ?_)
 cases e<;>simp only[thenA]at hq<;>try exact hq.elim
 ·exact hq S hS ι' a w hs
 ·exact⟨ι',st',hs,hq⟩
 ·exact⟨ι',st',hs,hq⟩
theorem WP.cut{x y:Code}{Q:Exit→St→Prop}{st:St}(mid:St)(h:WP E x (thenA (fun s=>Le E.m s mid) Q) st)(k:WP E y Q mid):WP E (.seq x y) Q st:=
 WP.seq (h.mono fun e s hs=>by cases e<;>simp only[thenA]at hs ⊢ <;>first|exact WP.le hs k|exact hs)
theorem WP.cond{c:Operand}{x y:Code}{Q:Exit→St→Prop}{st:St}{b:Bool}(hc:evalA st.tm c= .bool b)(hx:b=true→WP E x Q st)(hy:b=false→WP E y Q st):WP E (.cond c x y) Q st:=fun S hS ι a w hs=>by
 have h:=hs.eval c
 rw[hc]at h
 refine wp_cond h.bool ?_
 cases b
 ·exact hy rfl S hS ι a w hs
 ·exact hx rfl S hS ι a w hs
theorem WP.block{id:Nat}{x:Code}{Q:Exit→St→Prop}{st:St}(h:WP E x (blockA id Q) st):WP E (.block id x) Q st:=fun S hS ι a w hs=>by
 refine wp_block (wp_mono (h S hS ι a w hs) fun e a w ⟨ι',st',hs,hq⟩=> ?_)
 cases e<;>simp only[blockA]at hq<;>try exact hq.elim
 ·exact⟨ι',st',hs,hq⟩
 ·rename_i j _
  simp only[Exit.inBlock]
  by_cases ej:j=id
  ·rw[if_pos ej]at hq ⊢;exact⟨ι',st',hs,hq⟩
  ·rw[if_neg ej]at hq ⊢;exact⟨ι',st',hs,hq⟩
 ·exact⟨ι',st',hs,hq⟩
theorem WP.skip{Q:Exit→St→Prop}{st:St}(h:Q .normal st):WP E .skip Q st:=fun _ _ ι _ _ hs=>wp_skip ⟨ι,st,hs,h⟩
theorem WP.ret{Q:Exit→St→Prop}{st:St}(h:Q .ret st):WP E .ret Q st:=fun _ _ ι _ _ hs=>wp_ret ⟨ι,st,hs,h⟩
theorem WP.exit{id:Nat}{Q:Exit→St→Prop}{st:St}(h:Q (.exit id) st):WP E (.exit id) Q st:=fun _ _ ι _ _ hs=>wp_exit ⟨ι,st,hs,h⟩
theorem WP.label{l:_}{Q:Exit→St→Prop}{st:St}(h:Q .normal st):WP E (.label l) Q st:=fun _ _ ι _ _ hs=>wp_label ⟨ι,st,hs,h⟩
def loopW(m:Nat){α:Type}(Q:Exit→St→Prop)(up:α→St)(I:α→Prop)(μ:α→Nat)(x:α):Exit→St→Prop
 | .normal,st=> ∃y,I y∧μ y<μ x∧Le m st (up y)
 | .exit id,st=>Q (.exit id) st
 | .ret,st=>Q .ret st
 |_,_=>False
def WP.rnds(E:Env)(x:Code)(Q:Exit→St→Prop):Nat→St→Prop
 |0,_=>False
 |n+1,st=>WP E x (thenA (WP.rnds E x Q n) Q) st
theorem WP.rounds{x:Code}{Q:Exit→St→Prop}(n:Nat){st:St}(h:WP.rnds E x Q n st):WP E (.loop x) Q st:=by
 intro S hS ι a w hs
 refine wp_loop_rounds n ?_
 induction n generalizing st ι a w with
 |zero=>exact h.elim
 |succ n ih=>
  refine wp_mono (h S hS ι a w hs) fun e a' w' ⟨ι',st',hs',hq⟩=> ?_
  cases e<;>simp only[thenA]at hq<;>try exact hq.elim
  ·exact ih hq ι' a' w' hs'
  ·exact⟨ι',st',hs',hq⟩
  ·exact⟨ι',st',hs',hq⟩
theorem WP.loop{α:Type}{x:Code}{Q:Exit→St→Prop}{st:St}(up:α→St)(I:α→Prop)(μ:α→Nat)(x0:α)(h0:I x0)(hle:Le E.m st (up x0))(h: ∀x',I x'→WP E x (loopW E.m Q up I μ x') (up x')):WP E (.loop x) Q st:=by
 intro S hS ι a w hs
 obtain⟨ι0,h0'⟩:=hle S hS ι a w hs
 let p:Act→World→Nat→Prop:=fun a w n=> ∃y ι,I y∧μ y=n∧Sim S ι (up y) a w
 let least:Act→World→Nat:=fun a w=>Classical.epsilon fun n=>p a w n∧ ∀m,m<n→ ¬p a w m
 have hleast: ∀a w n,p a w n→p a w (least a w)∧ ∀m,m<least a w→ ¬p a w m:=fun a w n hn=>by
  have hex: ∃n,p a w n∧ ∀m,m<n→ ¬p a w m:=by
   induction n using Nat.strongRecOn with
   |_ n ihn=>
    by_cases h: ∃k,k<n∧p a w k
    ·obtain⟨k,h1,h2⟩:=h
     exact ihn k h1 h2
    ·exact⟨n,hn,fun m hm hp=>h ⟨m,hm,hp⟩⟩
  exact Classical.epsilon_spec hex
 refine wp_loop (fun a w=> ∃n,p a w n) least ⟨_,x0,ι0,h0,rfl,h0'⟩ fun a w ⟨n,hn⟩=> ?_
 obtain⟨⟨y,ι1,hI,hy,hs⟩,_⟩:=hleast a w n hn
 refine wp_mono (h y hI S hS ι1 a w hs) fun e a' w' ⟨ι',st',hs',hq⟩=> ?_
 cases e<;>simp only[loopW]at hq<;>try exact hq.elim
 ·obtain⟨z,hz0,hz,hle⟩:=hq
  obtain⟨ι2,h2⟩:=hle S hS ι' a' w' hs'
  have hp:p a' w' (μ z):=⟨z,ι2,hz0,rfl,h2⟩
  refine⟨⟨_,hp⟩,?_⟩
  have h3:=(hleast a' w' _ hp).2
  have:least a' w'≤μ z:=by
   rcases Nat.lt_or_ge (μ z) (least a' w')with h|h
   ·exact absurd hp (h3 _ h)
   ·exact h
  omega
 ·exact⟨ι',st',hs',hq⟩
 ·exact⟨ι',st',hs',hq⟩
end
end Go.Vc
namespace Go.Vc
open Go Go.RowKit
def resV(E:Env)(st:St)(r:ResultVar)(K:AV→Prop):Prop:=
 match r with
 | .tmp t=>frzA st.hp (st.tm.getD t .undef) K
 | .cell t T=>withTy E T fun ty=>loadA ty st.hp (st.tm.getD t .undef) fun av=>frzA st.hp av K
def resL(E:Env)(st:St):List ResultVar→(List AV→Prop)→Prop
 |[],K=>K []
 |x::r,K=>resV E st x fun y=>resL E st r fun ys=>K (y::ys)
def tupA:List AV→AV
 |[x]=>x
 |vs=> .tup vs
def cLe:AV→AV→Prop
 | .arr sz n f,.arr sz' n' g=>sz=sz'∧n=n'∧ ∀i,i<n→f i=g i
 | .nils,.arr _ n' _=>n'=0
 |x,y=>x=y
def aLe:AV→AV→Prop
 | .agg cs,.agg ds=>All2 cLe cs ds
 |x,y=>cLe x y
def tLe:AV→AV→Prop
 | .tup as,.tup bs=>All2 aLe as bs
 |x,y=>aLe x y
def ownV(H:Heap)(sz n:Nat)(f:Nat→List AV)(x:AV):Prop:=
 match x with
 | .own b k=>match hget H b 0 with
   | .blk ro sz' n' f'=>chk (!ro&&Nat.beq sz' sz) (k=n'∧n'=n∧ ∀i,i<n→f' i=f i)
   |_=>False
 | .nils=>n=0
 |_=>False
def resOwn(E:Env)(st:St)(rs:List ResultVar)(sz n:Nat)(f:Nat→List AV):Prop:=
 match rs with
 |[x]=>match x with
  | .tmp t=>ownV st.hp sz n f (st.tm.getD t .undef)
  | .cell t T=>withTy E T fun ty=>loadA ty st.hp (st.tm.getD t .undef) fun av=>ownV st.hp sz n f av
 |_=>False
def retV(E:Env)(rs:List ResultVar)(r:AV)(st:St):Prop:=
 match r with
 | .blk _ sz n f=>resOwn E st rs sz n f
 |r=>resL E st rs fun vs=>tLe (tupA vs) r
def retQ(E:Env)(rs:List ResultVar)(r:AV)(e:Exit)(st:St):Prop:=
 (match e with
  | .normal=>True
  | .ret=>True
  |_=>False)∧retV E rs r st
section
variable {E:Env} {S:Base} {ι:Nat→Option Nat} {st:St} {a:Act} {w:World}
theorem cLe.rel{F:Nat→Prop}{x y:AV}{v:Value}(h:cLe x y)(k:FRel w F x v):FRel w F y v:=by
 cases k with
 |arr sz n f b o c g vs hn hb hF h1 h2 h3=>
  cases y<;>simp only[cLe]at h<;>try (cases h;done)
  obtain⟨rfl,rfl,h⟩:=h
  exact .arr sz n _ b o c g vs hn hb hF (fun i j hi hj=>by rw[←h i hi];exact h1 i j hi hj) h2 h3
 |nil sz f=>
  cases y<;>simp only[cLe]at h<;>try (cases h;done)
  obtain⟨rfl,rfl,h⟩:=h
  exact .nil sz _
 |mt sz f a c=>
  cases y<;>simp only[cLe]at h<;>try (cases h;done)
  obtain⟨rfl,rfl,h⟩:=h
  exact .mt sz _ a c
 |nils=>
  cases y<;>simp only[cLe]at h<;>first|(cases h;done)|(subst h;exact .nil _ _)|exact .nils
 |int k n=>simp only[cLe]at h;subst h;exact .int k n
 |bool b=>simp only[cLe]at h;subst h;exact .bool b
 |nilp=>simp only[cLe]at h;subst h;exact .nilp
 |capd sz n f p c h0 hc=>simp only[cLe]at h;subst h;exact .capd sz n f p c h0 hc
 |lit b=>simp only[cLe]at h;subst h;exact .lit b
 |str s hb=>simp only[cLe]at h;subst h;exact .str s hb
 |ref cs b o g vs hF h1 h2 h3=>simp only[cLe]at h;subst h;exact .ref cs b o g vs hF h1 h2 h3
 |fn f caps vs g u hl h1 h2 h3=>simp only[cLe]at h;subst h;exact .fn f caps vs g u hl h1 h2 h3
theorem aLe.rel{F:Nat→Prop}{x y:AV}{v:Value}(h:aLe x y)(k:ARel w F x v):ARel w F y v:=by
 cases x
 case agg cs=>
  cases y<;>simp only[aLe,cLe]at h<;>try (cases h;done)
  obtain⟨vs,rfl,k⟩:=k
  refine⟨vs,rfl,All2.mk (h.length.symm.trans k.length) fun i p q hp hq=> ?_⟩
  obtain⟨p',hp',hr⟩:=k.get i _ (List.getElem?_eq_getElem (by rw[h.length];exact(List.getElem?_eq_some_iff.1 hp).1))
  rw[hq]at hp';cases hp'
  obtain⟨q',hq',hs⟩:=h.get i _ (List.getElem?_eq_getElem (by rw[h.length];exact(List.getElem?_eq_some_iff.1 hp).1))
  rw[hp]at hq';cases hq'
  exact hs.rel hr
 case undef=>exact k.elim
 all_goals
  simp only[ARel]at k
  cases y<;>first|(simp [aLe,cLe]at h;done)|(simp only[ARel];exact(fun hh=>cLe.rel hh k) h)
theorem tLe.rel{F:Nat→Prop}{x y:AV}{v:Value}(h:tLe x y)(k:TRel w F x v):TRel w F y v:=by
 cases x
 case tup as=>
  cases y<;>simp only[tLe,aLe,cLe]at h<;>try (cases h;done)
  obtain⟨vs,rfl,k⟩:=k
  refine⟨vs,rfl,All2.mk (h.length.symm.trans k.length) fun i p q hp hq=> ?_⟩
  obtain⟨p',hp',hr⟩:=k.get i _ (List.getElem?_eq_getElem (by rw[h.length];exact(List.getElem?_eq_some_iff.1 hp).1))
  rw[hq]at hp';cases hp'
  obtain⟨q',hq',hs⟩:=h.get i _ (List.getElem?_eq_getElem (by rw[h.length];exact(List.getElem?_eq_some_iff.1 hp).1))
  rw[hp]at hq';cases hq'
  exact hs.rel hr
 all_goals
  simp only[TRel]at k
  cases y<;>first|(simp [tLe,aLe,cLe]at h;done)|(simp only[TRel];exact(fun hh=>aLe.rel hh k) h)
def resRun(P:Program)(w:World)(tmps:Array Value)(r:ResultVar)(v:Value):Prop:=
 (match r with
  | .tmp t=>(pure (tmps.getD t undef):Sem Value)
  | .cell a t=>(do loadVar t (←asAddr (tmps.getD a undef)))).run P w= .ok v w
theorem resV_sound(hE:E.Ok)(h:Sim S ι st a w){r:ResultVar}{K:AV→Prop}(hk:resV E st r K): ∃y v,K y∧ARel w (FEnd S w) y v∧resRun E.P w a.tmps r v:=by
 cases r with
 |tmp t=>
  obtain⟨y,h1,h2⟩:=frzA_sound h (h.eval (.tmp t)) hk
  exact⟨y,_,h1,h2,rfl⟩
 |cell t T=>
  obtain⟨ty,hT,_,hk⟩:=withTy_ok hE hk
  obtain⟨p,av,u,h1,h2,h3,h4⟩:=load_run hT h (h.eval (.tmp t)) hk
  obtain⟨y,h5,h6⟩:=frzA_sound h h3 h2
  refine⟨y,u,h5,h6,?_⟩
  have h1':a.tmps.getD t undef= .pointer (some p):=h1
  simp only[resRun]
  rw[Sem.run_bind,h1']
  simp [asAddr,h4]
theorem resL_sound(hE:E.Ok)(h:Sim S ι st a w): ∀(rs:List ResultVar) (K:List AV→Prop),resL E st rs K→ ∃ys vs,K ys∧All2 (ARel w (FEnd S w)) ys vs∧All2 (resRun E.P w a.tmps) rs vs
 |[],K,hk=>⟨[],[],hk,trivial,trivial⟩
 |r::rs,K,hk=>by
  obtain⟨y,v,hk,h1,h2⟩:=resV_sound hE h hk
  obtain⟨ys,vs,hk,h3,h4⟩:=resL_sound hE h rs _ hk
  exact⟨y::ys,v::vs,hk,⟨h1,h3⟩,h2,h4⟩
theorem results_run{P:Program}{fn:Func}{tmps:Array Value}{vs:List Value}(h:All2 (resRun P w tmps) fn.results.toList vs):
  (results fn tmps).run P w= .ok (if h:vs.toArray.size=1 then vs.toArray[0]else .tuple vs.toArray) w:=by
 have key: ∀(rs:List ResultVar) (vs:List Value),All2 (resRun P w tmps) rs vs→Sem.run P (rs.mapM fun(r:ResultVar)=>match r with
  | .tmp t=>(pure (tmps.getD t undef):Sem Value)
  | .cell a t=>(do loadVar t (←asAddr (tmps.getD a undef)))) w=Result.ok vs w:=by
  intro rs
  induction rs with
  |nil=>intro vs h;cases vs;simp;exact h.elim
  |cons r rs ih=>
   intro vs h
   cases vs with
   |nil=>exact h.elim
   |cons v vs=>
    have h1:=h.1
    have h2:=ih vs h.2
    unfold resRun at h1
    simp only[List.mapM_cons]
    rw[Sem.run_bind]
    cases r<;>simp only at h1<;>rw[h1]<;>simp only[Result.andThen]<;>rw[Sem.run_bind,h2]<;>rfl
 unfold results
 rw[Array.mapM_eq_mapM_toList]
 rw[Sem.run_bind]
 have:=key fn.results.toList vs h
 simp only[Functor.map]
 rw[Sem.run_bind']
 erw [this]
 rfl
theorem ownV_sound(h:Sim S ι st a w){n0:Nat}(hn0: ∀b x,ι b=some x→n0≤x){ro:Bool}{sz n:Nat}{f:Nat→List AV}{x:AV}{v:Value}(hx:VR S ι st.hp w x v)(hk:ownV st.hp sz n f x):RRel n0 w (FEnd S w) (.blk ro sz n f) v:=by
 cases x<;>simp only[ownV]at hk<;>try exact hk.elim
 ·subst hk
  have hx':FRel w (FZ S ι st.hp w) .nils v:=hx
  cases hx'
  exact .inl ⟨rfl,rfl⟩
 ·rename_i b k
  cases e:hget st.hp b 0<;>rw[e]at hk<;>simp only at hk
  rename_i ro' sz' n' f'
  obtain⟨hc,rfl,rfl,hf⟩:=chk_iff.1 hk
  simp only[Bool.and_eq_true,Bool.not_eq_true']at hc
  obtain⟨rfl,hsz⟩:=hc
  have hsz:=Nat.eq_of_beq_eq_true hsz
  subst hsz
  obtain⟨_,ro2,sz2,n2,f2,e2,_,h3⟩:=(show CR S ι st.hp w (.own b k) v from hx)
  rw[e]at e2;cases e2
  rcases h3 rfl with⟨q,c,C,T',hq,hv,hnc,hC,hCs⟩|⟨rfl,_,hv⟩
  ·have hl:=h.hp b 0
   rw[e]at hl
   obtain⟨_,hd|⟨hbig,hl|⟨q',C',T2,hq',hC',hcells⟩⟩⟩:=hl
   ·rw[hq]at hd;cases hd.2.2
   ·rw[hq]at hl;cases hl.2
   ·rw[hq]at hq';cases hq'
    rw[hC]at hC';cases hC'
    refine .inr ⟨q,c,C,T',hn0 b q hq,(h.fresh b q hq).2,hv,hnc,hbig,hC,hCs,fun i j hi hj=> ?_⟩
    obtain⟨av,u,g1,g2,g3⟩:=hcells i j hi hj
    refine⟨av,u,by rw[←hf i hi];exact g1,g2,g3.mono (fun y hy=>⟨FZ_end hy,fun he=> ?_⟩) fun _ _ _=>rfl⟩
    exact hy.2.2 b (.inl ⟨by rw[e];rfl,by rw[e];rfl⟩) (by rw[he];exact hq)
  ·exact .inl ⟨rfl,hv⟩
theorem resOwn_sound(hE:E.Ok)(h:Sim S ι st a w){n0:Nat}(hB:S.w0.heap.size≤w.heap.size)(hn0: ∀b x,ι b=some x→n0≤x){rs:List ResultVar}{ro:Bool}{sz n:Nat}{f:Nat→List AV}(hk:resOwn E st rs sz n f):
  ∃rv v,rs=[rv]∧resRun E.P w a.tmps rv v∧RRel n0 w (FEnd S w) (.blk ro sz n f) v:=by
 unfold resOwn at hk
 split at hk
 ·rename_i rv
  cases rv with
  |tmp t=>exact⟨_,_,rfl,rfl,ownV_sound h hn0 (h.eval (.tmp t)) hk⟩
  |cell t T=>
   obtain⟨ty,hT,_,hk⟩:=withTy_ok hE hk
   obtain⟨p,av,u,h1,h2,h3,h4⟩:=load_run hT h (h.eval (.tmp t)) hk
   refine⟨_,u,rfl,?_,ownV_sound h hn0 h3 h2⟩
   have h1':a.tmps.getD t undef= .pointer (some p):=h1
   simp only[resRun]
   rw[Sem.run_bind,h1']
   simp [asAddr,h4]
 ·exact hk.elim
theorem pure_of_WP(hE:E.Ok){f:FuncId}{fn:Func}{c:Code}(hf:E.P.funcs[f]? =some fn)(hb:fn.body=some c)(as:List AV)(r:AV)
  (hk:WP E c (retQ E fn.results.toList r) ⟨as++List.replicate (fn.ntmps-as.length) .undef,[]⟩):PureCall E.P f as r:=by
 intro w F vs hF hargs
 let S:Base:=⟨F,w,hF.lt,fun _=>False,fun _ h=>h.elim,fun _=>none,[],F,fun _ _ h=>(by cases h),hF.gl⟩
 have hlen:=hargs.length
 have hsim:Sim S (fun _=>none) ⟨as++List.replicate (fn.ntmps-as.length) .undef,[]⟩ {tmps:=vs.toArray++Array.replicate (fn.ntmps-vs.toArray.size) undef,defers:=[]} w:=by
  refine⟨Bel.refl _ _ _,rfl,fun t av ht=> ?_,fun b o=> ?_,fun _ _ _ h=>(by cases h),fun _ _ h=>(by cases h),fun _ _ h=>(by cases h),⟨fun x h=>⟨.inl h,hF.lt x h,fun b hb=>(by simp)⟩,fun _ _ _=>rfl,fun _ _ h=>(by cases h),fun b ro sz n f h=>(by simp [S,hget]at h)⟩⟩
  ·rcases Nat.lt_or_ge t as.length with h|h
   ·rw[List.getElem?_append_left h]at ht
    obtain⟨v,h1,h2⟩:=hargs.get t av ht
    refine⟨v,?_,VRel.of_VRel1 (VRel1.of_ARel (h2.mono (fun x hx=>⟨.inl hx,hF.lt x hx,fun b hb=>(by simp)⟩) fun _ _ _=>rfl))⟩
    rw[Array.getElem?_append_left (by simp;omega)]
    simpa using h1
   ·rw[List.getElem?_append_right h]at ht
    have htl:t-as.length<fn.ntmps-as.length:=by
     rcases Nat.lt_or_ge (t-as.length) (fn.ntmps-as.length)with h'|h'
     ·exact h'
     ·rw[List.getElem?_eq_none (by simpa using h')]at ht;cases ht
    rw[List.getElem?_replicate,if_pos htl]at ht
    cases ht
    exact⟨undef,by rw[Array.getElem?_append_right (by simp;omega),Array.getElem?_replicate,if_pos (by simp;omega)],trivial⟩
  ·simp [hget,LRel]
 refine calls_of_wp hf hb (wp_mono (hk S (Nat.zero_le _) _ _ w hsim) fun e a w' ⟨ι,st,hs,hq⟩=> ?_)
 obtain⟨he,hres⟩:=hq
 by_cases hrb:isBlk r=true
 ·obtain⟨ro,sz,n,f,rfl⟩:=isBlk_eq hrb
  obtain⟨rv,v,e1,e2,e3⟩:=resOwn_sound hE hs (hB:=hs.below.size) (n0:=w.heap.size) (fun b x hx=>(hs.fresh b x hx).1.resolve_right fun h=>h) hres
  have hrun:=results_run (w:=w') (fn:=fn) (tmps:=a.tmps) (vs:=[v]) (by rw[e1];exact⟨e2,trivial⟩)
  have post: ∃v,(results fn a.tmps).run E.P w'= .ok v w'∧ ∃v',Ending.returned v= .returned v'∧RRel w.heap.size w' (fun x=>F x∨(w.heap.size≤x∧x<w'.heap.size)) (.blk ro sz n f) v'∧Below w.heap.size w w':=
   ⟨_,hrun,_,rfl,e3,hs.below.plain fun _ h=>h⟩
  cases e<;>simp only at he<;>first|exact⟨hs.defers,post⟩|exact he.elim
 have hres:resL E st fn.results.toList fun vs=>tLe (tupA vs) r:=by cases r<;>first|exact hres|(exact absurd rfl hrb)
 obtain⟨ys,us,hle,h1,h2⟩:=resL_sound hE hs _ _ hres
 have hrun:=results_run h2
 have hend: ∀x,FEnd S w' x→(F x∨(w.heap.size≤x∧x<w'.heap.size)):=fun x hx=>hx
 have hval:TRel w' (FEnd S w') (tupA ys) (if h:us.toArray.size=1 then us.toArray[0]else .tuple us.toArray):=by
  match ys,us,h1 with
  |[],[],_=>exact⟨[],rfl,trivial⟩
  |[y],[u],h1=>
   have:=h1.1
   simp only[tupA]
   cases y<;>first|exact this|exact False.elim this|(cases this)
  |y::y'::ys,u::u'::us,h1=>
   rw[dif_neg (by simp)]
   exact⟨_,rfl,h1⟩
 have hfin:=hle.rel hval
 have post: ∃v,(results fn a.tmps).run E.P w'= .ok v w'∧ ∃v',Ending.returned v= .returned v'∧RRel w.heap.size w' (fun x=>F x∨(w.heap.size≤x∧x<w'.heap.size)) r v'∧Below w.heap.size w w':=
  ⟨_,hrun,_,rfl,by have:=hfin.mono hend (fun _ _ _=>rfl);cases r<;>first|exact this|(exact absurd rfl hrb),hs.below.plain fun _ h=>h⟩
 cases e<;>simp only at he<;>first|exact⟨hs.defers,post⟩|exact he.elim
end
end Go.Vc
namespace Go.Vc
open Go Go.RowKit
def zB:AV→Value→Bool
 | .int k n,.int k' n'=>decide (k=k')&&n==n'
 | .bool b,.bool b'=>b==b'
 | .str s,.string s'=>s.data.toList==s'.data.toList&&s.size==0
 | .nils,.slice none 0 0=>true
 | .nilp,.pointer none=>true
 | .undef,.pointer _=>true
 | .undef,.func _ _ _=>true
 | .undef,.nilFunc=>true
 | .undef,.nilIface=>true
 |_,_=>false
def zBs:List AV→List Value→Bool
 |[],[]=>true
 |a::as,v::vs=>zB a v&&zBs as vs
 |_,_=>false
def placesB:List (Nat×Nat)→List Field→Program→Bool
 |[],[],_=>true
 |(o,s)::r,f::fs,P=>(f.offset==o&&s !=0&&(match P.info? f.type with|some i=>i.size==s|none=>false))&&placesB r fs P
 |_,_,_=>false
def descB(P:Program)(t:Ty)(d:TypeDesc):Bool:=
 match t.d,d with
 | .bool,.bool=>t.size==1
 | .string,.string=>t.size==1
 | .int k,.int k'=>decide (k=k')&&t.size==1
 | .slice e esz eb,.slice e'=>e==e'&&t.size==1&&(match P.info? e with|some i=>i.size==esz&&i.bytes==eb&&(match i.zero with|some z=>z.cells.size==i.size|none=>false)|none=>false)
 | .pointer e,.pointer e'=>e==e'&&t.size==1
 | .struct offs,.struct fs=>placesB offs fs.toList P
 | .array n e esz,.array n' e'=>n==n'&&e==e'&&(match P.info? e with|some i=>i.size==esz|none=>false)
 | .other,.func .. =>t.size==1
 |_,_=>false
def tyB(P:Program)(T:TypeId)(t:Ty):Bool:=
 match P.info? T,P.underlying T with
 |some i,some d=>i.size==t.size&&(match i.zero with|some z=>z.cells.size==t.size&&zBs t.zero z.cells.toList|none=>false)&&descB P t d
 |_,_=>false
theorem zB_ok{a:AV}{v:Value}(h:zB a v=true):ZRel a v:=by
 cases a
 case str s=>
  cases v<;>simp only[zB]at h<;>try (cases h;done)
  rename_i s'
  simp only[Bool.and_eq_true,beq_iff_eq]at h
  obtain⟨h1,h2⟩:=h
  have:s=s':=by
   cases s;cases s'
   simp only at h1
   congr 1
   exact Array.ext' h1
  subst this
  exact⟨rfl,h2⟩
 case nilp=>
  cases v
  case pointer p=>cases p<;>simp_all [zB,ZRel]
  all_goals cases h
 case nils=>
  cases v
  case slice a n m=>cases a<;>cases n<;>cases m<;>simp_all [zB,ZRel]
  all_goals cases h
 all_goals
  cases v<;>simp [zB]at h<;>simp only[ZRel]<;>first|rfl|(obtain⟨rfl,rfl⟩:=h;rfl)|(subst h;rfl)|skip
theorem zBs_ok: ∀{as:List AV} {vs:List Value},zBs as vs=true→All2 ZRel as vs
 |[],[],_=>trivial
 |a::as,v::vs,h=>by
  simp only[zBs,Bool.and_eq_true]at h
  exact⟨zB_ok h.1,zBs_ok h.2⟩
 |[],_::_,h=>by cases h
 |_::_,[],h=>by cases h
theorem placesB_ok{P:Program} : ∀{offs:List (Nat×Nat)} {fs:List Field},placesB offs fs P=true→
  fs.mapM (fun f=>(P.info? f.type).map fun i=>(f.offset,i.size))=some offs∧ ∀(k off sz:Nat),offs[k]? =some (off,sz)→ ∃f:Field,fs[k]? =some f∧f.offset=off∧ ∃i,P.info? f.type=some i∧i.size=sz∧sz≠0
 |[],[],_=>⟨rfl,fun k off sz h=>by simp at h⟩
 |(o,s)::r,f::fs,h=>by
  simp only[placesB,Bool.and_eq_true]at h
  obtain⟨⟨⟨h1,h2⟩,h3⟩,h4⟩:=h
  obtain⟨h5,h6⟩:=placesB_ok h4
  cases hi:P.info? f.type with
  |none=>rw[hi]at h3;cases h3
  |some i=>
   rw[hi]at h3
   have e1:f.offset=o:=by simpa using h1
   have e2:s≠0:=by simpa using h2
   have e3:i.size=s:=by simpa using h3
   refine⟨by simp [List.mapM_cons,hi,h5,e1,e3],fun k off sz hk=> ?_⟩
   cases k with
   |zero=>simp at hk;obtain⟨rfl,rfl⟩:=hk;exact⟨f,rfl,e1,i,hi,e3,e2⟩
   |succ k=>exact h6 k off sz (by simpa using hk)
 |[],_::_,h=>by cases h
 |_::_,[],h=>by cases h
theorem tyB_ok{P:Program}{T:TypeId}{t:Ty}(h:tyB P T t=true)(hc:t.cmp=true→EqSem P T t.zero):TyOk P T t:=by
 unfold tyB at h
 cases hi:P.info? T with
 |none=>rw[hi]at h;cases h
 |some i=>
  cases hu:P.underlying T with
  |none=>rw[hi,hu]at h;cases h
  |some d=>
   rw[hi,hu]at h
   simp only[Bool.and_eq_true]at h
   obtain⟨⟨h1,h2⟩,h3⟩:=h
   cases hz:i.zero with
   |none=>rw[hz]at h2;cases h2
   |some z=>
    rw[hz]at h2
    simp only[Bool.and_eq_true]at h2
    refine⟨⟨i,z,hi,by simpa using h1,hz,by simpa using h2.1,zBs_ok h2.2⟩,⟨d,hu,fun e=> ?_,fun e=> ?_⟩,?_,hc⟩
    ·unfold descB at h3
     cases ed:t.d<;>rw[ed]at e h3<;>first|(cases e;done)|skip
     all_goals (cases d<;>simp only at h3<;>first|(cases h3;done)|rfl)
    ·unfold descB at h3
     cases ed:t.d<;>rw[ed]at e h3<;>first|(cases e;done)|skip
     all_goals
      cases d<;>simp only at h3<;>first|(cases h3;done)|(simp only[Bool.and_eq_true,beq_iff_eq,decide_eq_true_eq]at h3;simp_all)
    ·unfold descB at h3
     cases ed:t.d<;>rw[ed]at h3<;>simp only
     all_goals
      cases d<;>simp only at h3<;>first|(cases h3;done)|trivial|skip
     ·simp only[Bool.and_eq_true,decide_eq_true_eq]at h3
      rw[h3.1];exact hu
     ·rename_i e esz eb e'
      simp only[Bool.and_eq_true,beq_iff_eq]at h3
      obtain⟨⟨rfl,_⟩,h4⟩:=h3
      cases he:P.info? e with
      |none=>rw[he]at h4;cases h4
      |some j=>
       rw[he]at h4
       simp only[Bool.and_eq_true,beq_iff_eq]at h4
       obtain⟨h4,h5⟩:=h4
       cases hjz:j.zero with
       |none=>rw[hjz]at h5;cases h5
       |some zz=>
        rw[hjz]at h5
        exact⟨hu,j,rfl,h4.1,h4.2,by rw[hjz];rfl,fun z hz=>by rw[hjz]at hz;cases hz;simpa using h5⟩
     ·simp only[Bool.and_eq_true,beq_iff_eq]at h3
      rw[h3.1];exact hu
     ·obtain⟨h5,h6⟩:=placesB_ok h3
      exact⟨_,hu,h5,fun k off sz hk=>by obtain⟨f,g1,g2⟩:=h6 k off sz hk;exact⟨f,by simpa using g1,g2⟩⟩
     ·rename_i n e esz n' e'
      simp only[Bool.and_eq_true,beq_iff_eq]at h3
      obtain⟨⟨rfl,rfl⟩,h4⟩:=h3
      refine⟨hu,?_⟩
      cases he:P.info? e with
      |none=>rw[he]at h4;cases h4
      |some j=>
       rw[he]at h4
       exact⟨j,rfl,by simpa using h4⟩
def tyOf(tbl:List (Nat×Ty))(T:TypeId):Option Ty:=
 match tbl with
 |[]=>none
 |(T',t)::r=>if T==T' then some t else tyOf r T
theorem tyOf_mem{tbl:List (Nat×Ty)}{T:TypeId}{t:Ty}(h:tyOf tbl T=some t):(T,t)∈tbl:=by
 induction tbl with
 |nil=>cases h
 |cons x r ih=>
  obtain⟨T',t'⟩:=x
  simp only[tyOf]at h
  split at h
  ·rename_i e
   have:T=T':=by simpa using e
   cases h;rw[this];simp
  ·exact List.mem_cons_of_mem _ (ih h)
abbrev Spec:=FuncId→List AV→Option (Option Prop×AV)
def Spec.Ok(P:Program)(s:Spec):Prop:= ∀f args pre r,s f args=some (pre,r)→Callable P f∧(preP pre True→PureCall P f args r)
abbrev HSpec:=FuncId→List AV→Heap→Option (Option Prop×List AV×Heap)
def HSpec.Ok(P:Program)(s:HSpec):Prop:= ∀f args H pre rs H',s f args H=some (pre,rs,H')→Callable P f∧(preP pre True→HCall P f args H rs H')
theorem env_ok{P:Program}{tbl:List (Nat×Ty)}{s:Spec}{m:Nat}{hs:HSpec}{ho:FuncId→Bool}(hm:P.follows .mixedOrders=true)(h:(tbl.all fun x=>tyB P x.1 x.2)=true)(hc: ∀x∈tbl,x.2.cmp=true→EqSem P x.1 x.2.zero)(h1:s.Ok P)(h2:hs.Ok P):Env.Ok ⟨P,tyOf tbl,s,m,hs,ho⟩:=
 ⟨fun T t ht=>tyB_ok (List.all_eq_true.1 h (T,t) (tyOf_mem ht)) (hc (T,t) (tyOf_mem ht)),hm,h1,h2⟩
end Go.Vc
namespace Go.Vc
open Go Go.RowKit
def isAggD:TypeDesc→Bool
 | .struct _=>true
 | .array _ _=>true
 |_=>false
def packV(agg:Bool)(vs:List Value):Value:=if agg then .agg vs.toArray else vs.headD undef
def cmpFs(P:Program)(rec:TypeId→List AV→Bool):List Field→Nat→List AV→Bool
 |[],_,zs=>zs.isEmpty
 |f::fs,off,zs=>(f.name != "_")&&f.offset==off&&(match P.info? f.type,P.underlying f.type with
  |some i,some _=>decide (0<i.size)&&decide (i.size≤zs.length)&&rec f.type (zs.take i.size)&&cmpFs P rec fs (off+i.size) (zs.drop i.size)
  |_,_=>false)
def cmpT(P:Program):Nat→TypeId→List AV→Bool
 |0,_,_=>false
 |n+1,T,zs=>match P.underlying T with
  |some (.int k)=>match zs with
   |[.int k' _]=>decide (k=k')
   |_=>false
  |some .bool=>match zs with
   |[.bool _]=>true
   |_=>false
  |some .string=>match zs with
   |[.str _]=>true
   |_=>false
  |some (.struct fs)=> !P.stoodInHeld T&&cmpFs P (cmpT P n) fs.toList 0 zs
  |_=>false
theorem eqKinds_length: ∀{zs cs:List AV},eqKinds zs cs=true→zs.length=cs.length
 |[],[],_=>rfl
 |_::_,_::_,h=>by simp only[eqKinds,Bool.and_eq_true]at h;simp [eqKinds_length h.2]
 |[],_::_,h=>by cases h
 |_::_,[],h=>by cases h
theorem eqKinds_take(n:Nat): ∀{zs cs:List AV},eqKinds zs cs=true→eqKinds (zs.take n) (cs.take n)=true∧eqKinds (zs.drop n) (cs.drop n)=true
 |[],[],h=>by simp [eqKinds]
 |z::zs,c::cs,h=>by
  simp only[eqKinds,Bool.and_eq_true]at h
  cases n with
  |zero=>simp [eqKinds,h]
  |succ n=>
   have:=eqKinds_take n h.2
   simp [eqKinds,h.1,this]
 |[],_::_,h=>by cases h
 |_::_,[],h=>by cases h
theorem eqCells_split(n:Nat): ∀(cs ds:List AV),cs.length=ds.length→eqCells cs ds=(eqCells (cs.take n) (ds.take n)&&eqCells (cs.drop n) (ds.drop n))
 |[],[],_=>by simp [eqCells]
 |c::cs,d::ds,h=>by
  cases n with
  |zero=>simp [eqCells]
  |succ n=>simp [eqCells,eqCells_split n cs ds (by simpa using h),Bool.and_assoc]
 |[],_::_,h=>by simp at h
 |_::_,[],h=>by simp at h
theorem All2.drop{α β:Type}{R:α→β→Prop} : ∀{as:List α} {bs:List β} (n:Nat),All2 R as bs→All2 R (as.drop n) (bs.drop n)
 |[],[],n,_=>by simp [All2]
 |_::_,_::_,0,h=>h
 |_::_,_::_,n+1,h=>All2.drop n h.2
 |[],_::_,_,h=>h.elim
 |_::_,[],_,h=>h.elim
section
variable {P:Program} {w:World}
theorem run_part{T:TypeId}{i:TypeInfo}{d:TypeDesc}(hi:P.info? T=some i)(hu:P.underlying T=some d)(h1:isAggD d=false→i.size=1)(vs:List Value)(off:Nat)(hl:off+i.size≤vs.length):
  (part T vs.toArray off).run P w= .ok (packV (isAggD d) ((vs.drop off).take i.size)) w:=by
 cases e:isAggD d with
 |true=>
  have:(isAgg T).run P w= .ok true w:=by cases d<;>simp [isAggD]at e<;>simp [isAgg,run_underlying hu]
  simp only[part,Sem.run_bind,this,Result.andThen_ok,if_true,sizeOf,typeInfo,packV]
  simp [hi]
 |false=>
  have:(isAgg T).run P w= .ok false w:=by cases d<;>simp [isAggD]at e<;>simp [isAgg,run_underlying hu]
  have h1:=h1 e
  have hlt:off<vs.length:=by omega
  simp only[part,Sem.run_bind,this,Result.andThen_ok,packV,h1]
  have hd:(vs.drop off).take 1=[vs[off]]:=by rw[List.drop_eq_getElem_cons hlt];rfl
  simp [hd,hlt]
def EqV(P:Program)(n:Nat)(T:TypeId)(zs:List AV):Prop:=
 ∀(d:Nat) (cs ds:List AV) (vs us:List Value) (w:World) (td:TypeDesc),n≤d→P.underlying T=some td→eqKinds zs cs=true→eqKinds zs ds=true→All2 PRel cs vs→All2 PRel ds us→
  (Op.equalIn d T (packV (isAggD td) vs) (packV (isAggD td) us)).run P w= .ok (eqCells cs ds) w
theorem cmpT_one{n:Nat}{T:TypeId}{zs:List AV}(h:cmpT P n T zs=true){td:TypeDesc}(hu:P.underlying T=some td)(he:isAggD td=false):zs.length=1:=by
 cases n with
 |zero=>cases h
 |succ n=>
  simp only[cmpT,hu]at h
  cases td<;>simp only at h<;>first|(cases h;done)|(cases he;done)|skip
  all_goals
   split at h<;>first|rfl|cases h
theorem eqFs{n:Nat}(ih: ∀(T:TypeId) (zs:List AV),cmpT P n T zs=true→EqV P n T zs){d:Nat}(hd:n≤d)(vs us:List Value)(cs ds:List AV)(hv:All2 PRel cs vs)(hu:All2 PRel ds us)(hcd:cs.length=ds.length):
  ∀(fs:List Field) (off:Nat) (zs:List AV) (w:World),cmpFs P (cmpT P n) fs off zs=true→eqKinds zs (cs.drop off)=true→eqKinds zs (ds.drop off)=true→
   (Op.eqFields d vs.toArray us.toArray fs).run P w= .ok (eqCells (cs.drop off) (ds.drop off)) w
 |[],off,zs,w,h,hc,hd'=>by
  simp only[cmpFs]at h
  have hz:zs=[]:=by simpa using h
  subst hz
  have h1:=(eqKinds_length hc).symm
  have h2:=(eqKinds_length hd').symm
  rw[List.length_eq_zero_iff.1 h1,List.length_eq_zero_iff.1 h2]
  simp [Op.eqFields,eqCells]
 |f::fs,off,zs,w,h,hc,hd'=>by
  simp only[cmpFs,Bool.and_eq_true]at h
  obtain⟨⟨hn,ho⟩,h⟩:=h
  have ho:f.offset=off:=by simpa using ho
  have hn:f.name≠ "_" :=by simpa using hn
  cases hi:P.info? f.type with
  |none=>rw[hi]at h;simp at h
  |some i=>
   cases ht:P.underlying f.type with
   |none=>rw[hi,ht]at h;simp at h
   |some td=>
    rw[hi,ht]at h
    simp only[Bool.and_eq_true,decide_eq_true_eq]at h
    obtain⟨⟨⟨hpos,hsz⟩,hrec⟩,hrest⟩:=h
    have lc:=eqKinds_length hc
    have ld:=eqKinds_length hd'
    have lv:=hv.length
    have lu:=hu.length
    simp only[List.length_drop]at lc ld
    have hone:isAggD td=false→i.size=1:=fun e=>by
     have:=cmpT_one hrec ht e
     simp only[List.length_take]at this;omega
    have p1:=run_part (w:=w) hi ht hone vs off (by omega)
    have p2:=run_part (w:=w) hi ht hone us off (by omega)
    have kc:=eqKinds_take i.size hc
    have kd:=eqKinds_take i.size hd'
    have he:=ih f.type (zs.take i.size) hrec d ((cs.drop off).take i.size) ((ds.drop off).take i.size) ((vs.drop off).take i.size) ((us.drop off).take i.size) w td hd ht kc.1 kd.1 (All2.take _ (All2.drop _ hv)) (All2.take _ (All2.drop _ hu))
    have hr:=eqFs ih hd vs us cs ds hv hu hcd fs (off+i.size) (zs.drop i.size) w hrest (by rw[←List.drop_drop];exact kc.2) (by rw[←List.drop_drop];exact kd.2)
    simp only[Op.eqFields,ho]
    rw[if_pos hn,Sem.run_bind,p1,Result.andThen_ok,Sem.run_bind,p2,Result.andThen_ok,Sem.run_bind,he,Result.andThen_ok]
    rw[eqCells_split i.size (cs.drop off) (ds.drop off) (by simp;omega),List.drop_drop,List.drop_drop]
    cases eqCells ((cs.drop off).take i.size) ((ds.drop off).take i.size)with
    |false=>simp
    |true=>simp only[Bool.not_true,Bool.false_eq_true,if_false,Bool.true_and];exact hr
theorem cmpT_ok: ∀(n:Nat) (T:TypeId) (zs:List AV),cmpT P n T zs=true→EqV P n T zs
 |0,_,_,h=>by cases h
 |n+1,T,zs,h=>by
  intro d cs ds vs us w td hd ht hc hd' hv hu
  simp only[cmpT,ht]at h
  obtain⟨d,rfl⟩: ∃d',d=d'+1:=⟨d-1,by omega⟩
  cases td<;>simp only at h<;>first|(cases h;done)|skip
  case bool=>
   split at h<;>first|(cases h;done)|skip
   match cs,ds,vs,us,hc,hd',hv,hu with
   |[.bool p],[.bool q],[v],[u],_,_,hv,hu=>rw[show v= .bool p from hv.1,show u= .bool q from hu.1];simp [packV,isAggD,run_equalIn_bool' w d T p q ht,eqCells,eqCell]
  case int k=>
   split at h<;>first|(cases h;done)|skip
   match cs,hc with
   | .int _ _::_::_,hc=>simp [eqKinds]at hc
   |[.int k1 p],hc=>
   match ds,hd' with
   | .int _ _::_::_,hd'=>simp [eqKinds]at hd'
   |[.int k2 q],hd'=>
   match vs,us,hv,hu with
   |[v],[u],hv,hu=>
    rw[show v= .int k1 p from hv.1,show u= .int k2 q from hu.1]
    simp [eqKinds,eqKind]at hc hd'
    rw[←hc,←hd']
    simp [packV,isAggD,run_equalIn_int w d T _ _ p q ht,eqCells,eqCell]
  case string=>
   split at h<;>first|(cases h;done)|skip
   match cs,ds,vs,us,hc,hd',hv,hu with
   |[.str p],[.str q],[v],[u],_,_,hv,hu=>rw[show v= .string p from hv.1,show u= .string q from hu.1];simp [packV,isAggD,run_equalIn_string w d T p q ht,eqCells,eqCell]
  case struct fs=>
   simp only[Bool.and_eq_true,Bool.not_eq_true']at h
   have hf:P.fieldsOf T=fs:=by simp [Program.fieldsOf,ht]
   have:=run_equalIn_struct (P:=P) w d T vs.toArray us.toArray (by rw[hf];exact ht) h.1
   simp only[packV,isAggD,if_true]
   rw[this,hf]
   have hl:cs.length=ds.length:=(eqKinds_length hc).symm.trans (eqKinds_length hd')
   exact eqFs (cmpT_ok n) (by omega) vs us cs ds hv hu hl fs.toList 0 zs w h.2 (by simpa using hc) (by simpa using hd')
theorem eqSem_of{T:TypeId}{zs:List AV}{n:Nat}(h:cmpT P n T zs=true)(hn:n≤10000)(hs:(match P.underlying T with|some (.struct _)=>true|_=>false)=true)(hg:P.eqGuardType P.depth T=false):EqSem P T zs:=by
 intro op x y cs ds vs us w hop hc hd hv hu
 cases ht:P.underlying T with
 |none=>rw[ht]at hs;cases hs
 |some td=>
  rw[ht]at hs
  cases td<;>simp only at hs<;>first|(cases hs;done)|skip
  rename_i fs
  have:=cmpT_ok n T zs h 10000 cs ds vs us w _ hn ht hc hd hv hu
  simp only[packV,isAggD,if_true]at this
  rw[Sem.run_bind,run_eqGuard_agg w op T x y _ _ hg,Result.andThen_ok]
  rcases hop with rfl|rfl
  ·rw[run_eql_struct,this];rfl
  ·rw[run_neq_struct,this];rfl
def cmpB(P:Program)(x:Nat×Ty):Bool:= !x.2.cmp||(cmpT P 9 x.1 x.2.zero&&(match P.underlying x.1 with|some (.struct _)=>true|_=>false)&& !(P.eqGuardType P.depth x.1))
theorem env_ok2{P:Program}{tbl:List (Nat×Ty)}{s:Spec}{m:Nat}{h2:HSpec}{ho:FuncId→Bool}(hm:P.follows .mixedOrders=true)(h:(tbl.all fun x=>tyB P x.1 x.2)=true)(hc:(tbl.all fun x=>cmpB P x)=true)(hs:s.Ok P)(hk:h2.Ok P):Env.Ok ⟨P,tyOf tbl,s,m,h2,ho⟩:=
 env_ok hm h (h1:=hs) (h2:=hk) fun x hx hcm=>by
  have:=List.all_eq_true.1 hc x hx
  simp only[cmpB,hcm,Bool.not_true,Bool.false_or,Bool.and_eq_true,Bool.not_eq_true']at this
  exact eqSem_of (n:=9) this.1.1 (by omega) this.1.2 this.2
end
end Go.Vc
namespace Go.Vc
open Go Go.RowKit
def fgt1(x y:AV):Prop:=
 match y with
 | .undef=>True
 | .bool c=>match x with
   | .bool b=>b=c
   | .lit b=>b=c
   |_=>False
 | .int k m=>match x with
   | .int k' n=>chk (decide (k'=k)) (n=m)
   |_=>False
 | .str t=>match x with
   | .str s=>s=t
   |_=>False
 | .arr sz n g=>match x with
   | .arr sz' n' f=>chk (decide (sz'=sz)) (n'=n∧ ∀i,i<n→f i=g i)
   | .nils=>n=0
   |_=>False
 |y=>x=y
def fgtC:List AV→List AV→Prop
 |[],[]=>True
 |x::xs,y::ys=>fgt1 x y∧fgtC xs ys
 |_,_=>False
def fgtA(x y:AV):Prop:=
 match y with
 | .agg ds=>match x with
   | .agg cs=>fgtC cs ds
   |_=>False
 |y=>fgt1 x y
def fgtL:List AV→List AV→Prop
 |[],[]=>True
 |x::xs,y::ys=>match y with
  | .undef=>fgtL xs ys
  |y=>fgtA x y∧fgtL xs ys
 |_,_=>False
def fgtB1(x y:AV):Prop:=
 match y with
 | .undef=>isBlk x=false
 | .gone=>match x with
   | .undef=>False
   | .blk .. =>False
   |_=>True
 | .blk ro sz n g=>match x with
   | .blk ro' sz' n' f=>chk (decide (ro'=ro)&&decide (sz'=sz)) (n'=n∧ ∀i,i<n→nzL (f i) (g i))
   |_=>False
 |y=>chk (!(isBlk x)) (fgt1 x y)
def fgtB:List AV→List AV→Prop
 |xs,[]=>chk (xs.all fun x=> !(isBlk x)) True
 |x::xs,y::ys=>fgtB1 x y∧fgtB xs ys
 |[],_::_=>False
def fgtH0:Heap→Heap→Prop
 |[],ys=>chk (ys.all fun y=>y.isEmpty) True
 |x::xs,y::ys=>fgtB x y∧fgtH0 xs ys
 |x::xs,[]=>chk (x.all fun z=> !(isBlk z)) (fgtH0 xs [])
def fgtH:Heap→Heap→Prop
 |[],ys=>chk (ys.all fun y=>y.isEmpty) True
 |x::xs,y::ys=>match y with
  |[]=>fgtH xs ys
  |z::zs=>fgtB x (z::zs)∧fgtH xs ys
 |_::_,[]=>True
def alive(H:Heap)(b:Nat):Bool:=
 match H.getD b []with
 |[]=>false
 |_::_=>true
def capLow(H:Heap):AV→Bool
 | .ptr b _=>alive H b
 |x=>capOk x
def low1(H:Heap):AV→Bool
 | .ptr b _=>alive H b
 | .own b _=>alive H b
 | .eptr b _ _ _=>alive H b
 | .fn _ caps=>caps.all (capLow H)
 |_=>true
def lowA(H:Heap):AV→Bool
 | .agg cs=>cs.all (low1 H)
 | .tup _=>false
 |av=>low1 H av
def lowSt(s:St):Bool:=s.tm.all (lowA s.hp)&&s.hp.all fun l=>l.all (low1 s.hp)
def LeS(s s':St):Prop:=fgtL s.tm s'.tm∧fgtH s.hp s'.hp∧lowSt s'=true
def LeM(s s':St):Prop:=fgtL s.tm s'.tm∧fgtH0 s.hp s'.hp∧s.hp.length≤s'.hp.length
section
variable {S:Base} {ι:Nat→Option Nat} {a:Act} {w:World} {F:Nat→Prop} {H:Heap}
theorem fgt1_rel{x y:AV}{v:Value}(h:fgt1 x y)(k:CRel ι H w F x v):CRel ι H w F y v:=by
 cases y
 case undef=>exact k.one
 case bool c=>
  cases x<;>simp only[fgt1]at h<;>try exact h.elim
  ·subst h;exact k
  ·subst h
   have k:FRel w F (.lit _) v:=k
   cases k
   exact FRel.bool _
 case int kd m=>
  cases x<;>simp only[fgt1]at h<;>try exact h.elim
  rw[chk_iff]at h
  obtain⟨h1,rfl⟩:=h
  have:=of_decide_eq_true h1
  subst this
  exact k
 case str t=>
  cases x<;>simp only[fgt1]at h<;>try exact h.elim
  subst h;exact k
 case arr sz n g=>
  cases x<;>simp only[fgt1]at h<;>try exact h.elim
  ·subst h
   have k:FRel w F .nils v:=k
   cases k
   exact FRel.nil _ _
  ·rw[chk_iff]at h
   obtain⟨h1,rfl,h2⟩:=h
   have:=of_decide_eq_true h1
   subst this
   exact cLe.rel (x:= .arr _ _ _) (y:= .arr _ _ _) ⟨rfl,rfl,h2⟩ k
 all_goals
  simp only[fgt1]at h
  subst h
  exact k
theorem fgtC_rel: ∀{cs ds:List AV} {vs:List Value},fgtC cs ds→All2 (CRel ι H w F) cs vs→All2 (CRel ι H w F) ds vs
 |[],[],_,_,k=>k
 |_::_,_::_,_::_,h,k=>⟨fgt1_rel h.1 k.1,fgtC_rel h.2 k.2⟩
 |_::_,_::_,[],_,k=>k.elim
 |[],_::_,_,h,_=>h.elim
 |_::_,[],_,h,_=>h.elim
theorem fgt1_rel1{x y:AV}{v:Value}(h:fgt1 x y)(hy:y≠ .undef)(k:VRel ι H w F x v):VRel ι H w F y v:=by
 cases y
 case undef=>exact(hy rfl).elim
 case bool c=>
  cases x<;>simp only[fgt1]at h<;>first|exact h.elim|exact fgt1_rel (ι:=ι) (H:=H) (x:= .bool _) (y:= .bool c) h k|exact fgt1_rel (ι:=ι) (H:=H) (x:= .lit _) (y:= .bool c) h k
 case int kd m=>
  cases x<;>simp only[fgt1]at h<;>first|exact h.elim|exact fgt1_rel (ι:=ι) (H:=H) (x:= .int _ _) (y:= .int kd m) h k
 case str t=>
  cases x<;>simp only[fgt1]at h<;>first|exact h.elim|exact fgt1_rel (ι:=ι) (H:=H) (x:= .str _) (y:= .str t) h k
 case arr sz n g=>
  cases x<;>simp only[fgt1]at h<;>first|exact h.elim|exact fgt1_rel (ι:=ι) (H:=H) (x:= .nils) (y:= .arr sz n g) h k|exact fgt1_rel (ι:=ι) (H:=H) (x:= .arr _ _ _) (y:= .arr sz n g) h k
 all_goals
  simp only[fgt1]at h
  subst h
  exact k
theorem fgtA_rel{x y:AV}{v:Value}(h:fgtA x y)(k:VRel ι H w F x v):VRel ι H w F y v:=by
 cases y
 case undef=>trivial
 case agg ds=>
  cases x<;>simp only[fgtA]at h<;>try exact h.elim
  obtain⟨vs,rfl,k⟩:=k
  exact⟨vs,rfl,fgtC_rel h k⟩
 all_goals
  simp only[fgtA]at h
  exact fgt1_rel1 h (by simp) k
theorem fgtL_get: ∀{xs ys:List AV} (t:Nat) (y:AV),fgtL xs ys→ys[t]? =some y→ ∃x,xs[t]? =some x∧fgtA x y
 |[],[],_,_,_,h=>by simp at h
 |x::xs,y::ys,0,z,h,hz=>by
  simp at hz
  subst hz
  refine⟨x,rfl,?_⟩
  simp only[fgtL]at h
  split at h
  ·trivial
  ·exact h.1
 |x::xs,y::ys,t+1,z,h,hz=>by
  have:fgtL xs ys:=by
   simp only[fgtL]at h
   split at h
   ·exact h
   ·exact h.2
  simpa using fgtL_get t z this (by simpa using hz)
 |[],_::_,_,_,h,_=>h.elim
 |_::_,[],_,_,h,_=>h.elim
theorem fgtB_get: ∀{xs ys:List AV} (o:Nat),fgtB xs ys→fgtB1 (xs.getD o .undef) (ys.getD o .undef)
 |xs,[],o,h=>by
  cases xs<;>simp only[fgtB]at h<;>simp only[List.getD_nil,fgtB1]
  ·rfl
  ·rename_i x xs
   have h1:=(chk_iff.1 h).1
   cases e:(x::xs)[o]? with
   |none=>simp [List.getD,e,isBlk]
   |some z=>
    have:=List.all_eq_true.1 h1 z (List.mem_of_getElem? e)
    simpa[List.getD,e]using this
 |x::xs,y::ys,0,h=>h.1
 |x::xs,y::ys,o+1,h=>by simpa using fgtB_get o h.2
 |[],_::_,_,h=>h.elim
theorem fgtH0_get: ∀{xs ys:Heap} (b o:Nat),fgtH0 xs ys→fgtB1 (hget xs b o) (hget ys b o)
 |[],ys,b,o,h=>by
  have h1:=(chk_iff.1 h).1
  have:hget ys b o= .undef:=by
   unfold hget
   cases e:ys[b]? with
   |none=>simp [List.getD,e]
   |some z=>
    have:=List.all_eq_true.1 h1 z (List.mem_of_getElem? e)
    have hz:z=[]:=by simpa using this
    simp [List.getD,e,hz]
  rw[this]
  simp [hget,fgtB1,isBlk]
 |x::xs,y::ys,0,o,h=>by simpa[hget]using fgtB_get o h.1
 |x::xs,y::ys,b+1,o,h=>by simpa[hget]using fgtH0_get b o h.2
 |x::xs,[],0,o,h=>by
  have h1:=(chk_iff.1 h).1
  have h2:fgtB1 (x.getD o .undef) .undef:=by
   simp only[fgtB1]
   cases e:x[o]? with
   |none=>simp [List.getD,e,isBlk]
   |some z=>
    have:=List.all_eq_true.1 h1 z (List.mem_of_getElem? e)
    simpa[List.getD,e]using this
  simpa[hget]using h2
 |x::xs,[],b+1,o,h=>by
  have h1:=fgtH0_get (ys:=[]) b o (chk_iff.1 h).2
  simpa[hget]using h1
theorem fgtB1_blk{x y:AV}(h:fgtB1 x y):isBlk x=isBlk y:=by
 cases y
 case undef=>exact h
 case blk ro sz n g=>
  cases x<;>simp only[fgtB1]at h<;>first|exact h.elim|rfl
 case gone=>cases x<;>first|rfl|exact(show False from h).elim
 all_goals
  simp only[fgtB1]at h
  have:=(chk_iff.1 h).1
  simp only[Bool.not_eq_true']at this
  rw[this];rfl
theorem fgt1_writable{x y:AV}(h:fgt1 x y)(hy:y≠ .undef):x≠ .undef:=by
 rintro rfl
 cases y<;>simp only[fgt1]at h<;>first|exact hy rfl|exact h.elim|(cases h;done)|exact hy h
theorem fgtB1_writable{x y:AV}(h:fgtB1 x y)(hy:writable y=true):writable x=true:=by
 cases y
 case undef=>cases hy
 case blk ro sz n g=>
  cases x<;>simp only[fgtB1]at h<;>try exact h.elim
  rw[chk_iff,Bool.and_eq_true]at h
  have:=of_decide_eq_true h.1.1
  subst this
  exact hy
 case gone=>cases x<;>first|rfl|exact(show False from h).elim
 all_goals
  simp only[fgtB1]at h
  obtain⟨h1,h2⟩:=chk_iff.1 h
  have h3:=fgt1_writable h2 (by simp)
  cases x<;>first|rfl|(exact(h3 rfl).elim)|(cases h1;done)
theorem LeM.stp{st st':St}(h:LeM st st'):Stp ι st.hp w (FZ S ι st.hp w) ι st'.hp w (FZ S ι st'.hp w):=by
 refine⟨fun x ⟨h1,h2,h3⟩=>⟨h1,h2,fun b hb=>h3 b (hb.imp (fun⟨g1,g2⟩=>⟨by rw[fgtB1_blk (fgtH0_get b 0 h.2.1)];exact g1,fgtB1_writable (fgtH0_get b 0 h.2.1) g2⟩) fun⟨g1,o,ho⟩=>⟨by rw[fgtB1_blk (fgtH0_get b 0 h.2.1)];exact g1,o,fgtB1_writable (fgtH0_get b o h.2.1) ho⟩)⟩,fun _ _ _=>rfl,fun b x hx hb=>⟨hx,by rw[←fgtB1_blk (fgtH0_get b 0 h.2.1)];exact hb⟩,fun b ro sz n f hk=> ?_⟩
 have h1:=fgtH0_get b 0 h.2.1
 rw[hk]at h1
 have h2:=fgtB1_blk h1
 cases e:hget st'.hp b 0<;>rw[e]at h1 h2<;>first|(cases h2;done)|skip
 simp only[fgtB1]at h1
 rw[chk_iff,Bool.and_eq_true]at h1
 obtain⟨⟨g1,g2⟩,rfl,g3⟩:=h1
 have:=of_decide_eq_true g2
 subst this
 exact⟨_,_,_,_,rfl,Nat.le_refl _,fun _=>⟨rfl,rfl,fun x C T _ hC=>⟨C,hC,rfl⟩⟩⟩
theorem LeM.le{m:Nat}{st st':St}(h:LeM st st'):Le m st st':=by
 intro S _ ι a w hs
 have hst:Stp ι st.hp w (FZ S ι st.hp w) ι st'.hp w (FZ S ι st'.hp w):=h.stp
 refine⟨ι,hs.below,hs.defers,fun t av ht=> ?_,fun b o=> ?_,hs.inj,hs.fresh,fun b x hb=>Nat.lt_of_lt_of_le (hs.dom b x hb) h.2.2,hs.hist.trans hst⟩
 ·obtain⟨x,hx,hr⟩:=fgtL_get t av h.1 ht
  obtain⟨v,h1,h2⟩:=hs.tm t x hx
  exact⟨v,h1,fgtA_rel hr (h2.step hst)⟩
 ·have h1:=fgtH0_get b o h.2.1
  have h2:=hs.hp b o
  cases e:hget st'.hp b o<;>rw[e]at h1
  case undef=>trivial
  case blk ro sz n g=>
   cases ex:hget st.hp b o<;>rw[ex]at h1 h2<;>simp only[fgtB1]at h1<;>try exact h1.elim
   rw[chk_iff,Bool.and_eq_true]at h1
   obtain⟨⟨g1,g2⟩,rfl,g3⟩:=h1
   have:=of_decide_eq_true g2
   subst this
   obtain⟨h3,kd|⟨hbg,h4⟩⟩:=h2
   ·exact⟨h3,.inl ⟨by have g1:=of_decide_eq_true g1;rw[←g1];exact kd.1,kd.2⟩⟩
   refine⟨h3,.inr ⟨hbg,?_⟩⟩
   rcases h4 with h4|⟨x,C,T,k1,k2,k3⟩
   ·exact .inl h4
   ·refine .inr ⟨x,C,T,k1,k2,fun i j hi hj=> ?_⟩
    obtain⟨av,v,m1,m2,m3⟩:=k3 i j hi hj
    obtain⟨y,hy,hn⟩:=nzL_get j av (g3 i hi) m1
    exact⟨y,v,hy,m2,nz1_rel hn (m3.mono hst.fz hst.cell)⟩
  case gone=>
   have h2:LRel ι st'.hp w (FZ S ι st'.hp w) b o (hget st.hp b o):=h2.step hst (fun _=>rfl) (fun _ _ _=>⟨rfl,rfl⟩) (fun _=>⟨rfl,fun _ _=>rfl⟩)
   have h6:isBlk (hget st'.hp b 0)=false∧ ∃x v,ι b=some x∧w.cell? ⟨x,o,none⟩=some v∧w.frozen? ⟨x,o,none⟩=false∧CRel ι st'.hp w (FZ S ι st'.hp w) (hget st.hp b o) v:=by
    cases ex:hget st.hp b o<;>rw[ex]at h1 h2<;>first|exact(show False from h1).elim|exact h2
   obtain⟨k0,x,v,k1,k2,k3,k4⟩:=h6
   exact⟨k0,x,v,k1,k2,k3,CRel.one k4⟩
  all_goals
   simp only[fgtB1]at h1
   obtain⟨h3,h4⟩:=chk_iff.1 h1
   have h5:=fgt1_writable h4 (by simp)
   have h2:LRel ι st'.hp w (FZ S ι st'.hp w) b o (hget st.hp b o):=h2.step hst (fun _=>rfl) (fun _ _ _=>⟨rfl,rfl⟩) (fun _=>⟨rfl,fun _ _=>rfl⟩)
   have h6:isBlk (hget st'.hp b 0)=false∧ ∃x v,ι b=some x∧w.cell? ⟨x,o,none⟩=some v∧w.frozen? ⟨x,o,none⟩=false∧CRel ι st'.hp w (FZ S ι st'.hp w) (hget st.hp b o) v:=by
    cases ex:hget st.hp b o<;>rw[ex]at h2 h3 h5<;>first|exact(h5 rfl).elim|(cases h3;done)|exact h2
   obtain⟨k0,x,v,k1,k2,k3,k4⟩:=h6
   exact⟨k0,x,v,k1,k2,k3,fgt1_rel h4 k4⟩
theorem low1_rel{ι':Nat→Option Nat}{H1:Heap}{F':Nat→Prop}(hι: ∀b,alive H b=true→ι' b=ι b)(hH: ∀b,alive H b=true→ ∀o,hget H b o=hget H1 b o)(hF: ∀x,F x→F' x){av:AV}{v:Value}(hl:low1 H av=true)(k:CRel ι H1 w F av v):CRel ι' H w F' av v:=by
 cases av
 case ptr b o=>
  obtain⟨h1,x,h2,h3⟩:=k
  exact⟨by rw[hH b hl];exact h1,x,by rw[hι b hl];exact h2,h3⟩
 case own b c=>
  obtain⟨h0,ro,sz,m,f,h1,h2,h3⟩:=k
  exact⟨h0,ro,sz,m,f,by rw[hH b hl];exact h1,h2,by rw[hι b hl];exact h3⟩
 case eptr b c i o=>
  obtain⟨h0,ro,sz,m,f,h1,h2,h3⟩:=k
  exact⟨h0,ro,sz,m,f,by rw[hH b hl];exact h1,h2,by rw[hι b hl];exact h3⟩
 case fn f caps=>
  obtain⟨vs,h1,h2⟩:=k
  refine⟨vs,h1,All2.mk h2.length fun i p q hp hq=> ?_⟩
  obtain⟨q',hq',hr⟩:=h2.get i p hp
  rw[hq]at hq';cases hq'
  have h7:=List.all_eq_true.1 hl p (List.mem_of_getElem? hp)
  cases p
  case ptr b o=>
   obtain⟨g1,x,g2,g3⟩:=hr
   have h7:alive H b=true:=h7
   exact⟨by rw[hH b h7];exact g1,x,by rw[hι b h7];exact g2,g3⟩
  all_goals first|(cases h7;done)|exact FRel.mono hF (fun _ _ _=>rfl) hr
 case undef=>exact k
 case gone=>exact k
 case agg=>exact k.elim
 case tup=>exact k.elim
 case blk=>exact k.elim
 all_goals exact FRel.mono hF (fun _ _ _=>rfl) k
theorem lowA_rel{ι':Nat→Option Nat}{H1:Heap}{F':Nat→Prop}(hι: ∀b,alive H b=true→ι' b=ι b)(hH: ∀b,alive H b=true→ ∀o,hget H b o=hget H1 b o)(hF: ∀x,F x→F' x){av:AV}{v:Value}(hl:lowA H av=true)(k:VRel ι H1 w F av v):VRel ι' H w F' av v:=by
 cases av
 case agg cs=>
  obtain⟨vs,rfl,k⟩:=k
  refine⟨vs,rfl,All2.mk k.length fun i p q hp hq=> ?_⟩
  obtain⟨q',hq',hr⟩:=k.get i p hp
  rw[hq]at hq';cases hq'
  exact low1_rel hι hH hF (List.all_eq_true.1 hl p (List.mem_of_getElem? hp)) hr
 case tup=>cases hl
 case undef=>trivial
 case gone=>exact k
 all_goals
  simp only[lowA]at hl
  exact(show CRel ι' H w F' _ v from low1_rel (ι:=ι) (H1:=H1) (F:=F) hι hH hF hl (show CRel ι H1 w F _ v from k))
def pinOk(m:Nat)(st:St):Bool:=(List.range m).all fun b=>alive st.hp b
theorem Stp.cut{ι0 ι ι':Nat→Option Nat}{H0 H1 H:Heap}{w0 w:World}{G F F':Nat→Prop}(h:Stp ι0 H0 w0 G ι H1 w F)(dom0: ∀b x,ι0 b=some x→b<H0.length)(hal: ∀b,b<H0.length→alive H b=true)
  (hι: ∀b,alive H b=true→ι' b=ι b) (hH: ∀b,alive H b=true→ ∀o,hget H b o=hget H1 b o) (hF: ∀x,F x→F' x):Stp ι0 H0 w0 G ι' H w F':=by
 refine⟨fun x hx=>hF x (h.fz x hx),h.cell,fun b x hx hb=> ?_,fun b ro sz n f hb=> ?_⟩
 ·have ha:=hal b (dom0 b x hx)
  obtain⟨g1,g2⟩:=h.box b x hx hb
  exact⟨by rw[hι b ha];exact g1,by rw[hH b ha];exact g2⟩
 ·have ha:=hal b (by
   rcases Nat.lt_or_ge b H0.length with g|g
   ·exact g
   ·rw[hget_ge g]at hb;cases hb)
  obtain⟨ro',sz',n',f',g1,g2,g3⟩:=h.arr b ro sz n f hb
  exact⟨ro',sz',n',f',by rw[hH b ha];exact g1,g2,fun e=>by rw[hι b ha];exact g3 e⟩
theorem le_cut{m:Nat}{tm:List AV}{H H1:Heap}(hl:lowSt ⟨tm,H⟩=true)(hH: ∀b,alive H b=true→ ∀o,hget H b o=hget H1 b o)(hm:pinOk m ⟨tm,H⟩=true):Le m ⟨tm,H1⟩ ⟨tm,H⟩:=by
 intro S hS ι a w hs
 simp only[lowSt,Bool.and_eq_true]at hl
 let ι':Nat→Option Nat:=fun b=>if alive H b then ι b else none
 have hι: ∀b,alive H b=true→ι' b=ι b:=fun b hb=>if_pos hb
 have hsome: ∀b x,ι' b=some x→alive H b=true∧ι b=some x:=fun b x hb=>by
  by_cases h:alive H b=true
  ·exact⟨h,by rw[←hι b h];exact hb⟩
  ·simp [ι',h]at hb
 have hlt: ∀b,alive H b=true→b<H.length:=fun b hb=>by
  rcases Nat.lt_or_ge b H.length with h|h
  ·exact h
  ·simp [alive,List.getD,List.getElem?_eq_none h]at hb
 have hundef: ∀b o,alive H b=false→hget H b o= .undef:=fun b o h=>by
  unfold alive at h
  unfold hget
  cases e:H.getD b []with
  |nil=>rfl
  |cons z zs=>rw[e]at h;cases h
 have hF: ∀x,FZ S ι H1 w x→FZ S ι' H w x:=fun x ⟨h1,h2,h3⟩=>⟨h1,h2,fun b hb hx=>h3 b (rwLive_congr (fun o=>hH b (hsome b x hx).1 o) hb) (hsome b x hx).2⟩
 refine⟨ι',hs.below,hs.defers,fun t av ht=> ?_,fun b o=> ?_,fun b b' x h1 h2=>hs.inj b b' x (hsome _ _ h1).2 (hsome _ _ h2).2,fun b x h=>hs.fresh b x (hsome _ _ h).2,fun b x h=>hlt b (hsome _ _ h).1,hs.hist.cut S.dom0 (fun b hb=>List.all_eq_true.1 hm b (List.mem_range.2 (by omega))) hι hH hF⟩
 ·obtain⟨v,h1,h2⟩:=hs.tm t av ht
  exact⟨v,h1,lowA_rel hι hH hF (List.all_eq_true.1 hl.1 av (List.mem_of_getElem? ht)) h2⟩
 ·show LRel ι' H w (FZ S ι' H w) b o (hget H b o)
  have h2:=hs.hp b o
  cases hb:alive H b with
  |false=>rw[hundef b o hb];trivial
  |true=>
   have hlow: ∀av,hget H b o=av→av≠ .undef→low1 H av=true:=fun av e hne=>by
    unfold hget at e
    cases e1:H[b]? with
    |none=>simp [List.getD,e1]at e;exact absurd e.symm hne
    |some l=>
     simp only[List.getD,e1,Option.getD_some]at e
     cases e2:l[o]? with
     |none=>rw[e2]at e;exact absurd e.symm hne
     |some z=>
      rw[e2]at e
      simp only[Option.getD_some]at e
      subst e
      exact List.all_eq_true.1 (List.all_eq_true.1 hl.2 l (List.mem_of_getElem? e1)) z (List.mem_of_getElem? e2)
   have h0:isBlk (hget H b 0)=isBlk (hget H1 b 0):=by rw[hH b hb 0]
   have h2:LRel ι H1 w (FZ S ι H1 w) b o (hget H b o):=by rw[hH b hb o];exact h2
   cases e:hget H b o<;>rw[e]at h2
   case undef=>trivial
   case blk ro sz n f=>
    obtain⟨g1,kd|⟨g2,g3⟩⟩:=h2
    ·exact⟨g1,.inl ⟨kd.1,kd.2.1,by rw[hι b hb];exact kd.2.2⟩⟩
    refine⟨g1,.inr ⟨g2,?_⟩⟩
    rw[hι b hb]
    exact g3.imp id fun⟨x,C,T,k1,k2,k3⟩=>⟨x,C,T,k1,k2,fun i j hi hj=>by
     obtain⟨av,v,m1,m2,m3⟩:=k3 i j hi hj
     exact⟨av,v,m1,m2,m3.mono hF fun _ _ _=>rfl⟩⟩
   all_goals
    obtain⟨k0,x,v,k1,k2,k3,k4⟩:=h2
    exact⟨by rw[h0];exact k0,x,v,by rw[hι b hb];exact k1,k2,k3,low1_rel hι hH hF (hlow _ e (by simp)) k4⟩
theorem fgt1_refl(x:AV):fgt1 x x:=by
 cases x<;>first|exact trivial|exact rfl|exact chk_iff.2 ⟨decide_eq_true rfl,rfl⟩|exact chk_iff.2 ⟨decide_eq_true rfl,rfl,fun _ _=>rfl⟩
theorem fgtB1_of{x:AV}(h:isBlk x=false):fgtB1 x x:=by
 have h1:=fgt1_refl x
 have h2:(!(isBlk x))=true:=by rw[h];rfl
 unfold fgtB1
 split
 ·exact h
 ·trivial
 ·cases h
 ·exact chk_iff.2 ⟨h2,h1⟩
theorem fgtB1_refl(x:AV):fgtB1 x x:=by
 cases hb:isBlk x with
 |false=>exact fgtB1_of hb
 |true=>
  obtain⟨ro,sz,n,f,rfl⟩:=isBlk_eq hb
  exact chk_iff.2 ⟨by simp,rfl,fun _ _=>nzL_refl _⟩
theorem fgtB_refl: ∀(xs:List AV),fgtB xs xs
 |[]=>chk_iff.2 ⟨rfl,trivial⟩
 |x::xs=>⟨fgtB1_refl x,fgtB_refl xs⟩
def zipc:Heap→Heap→Heap
 |[],ys=>ys
 |x::xs,y::ys=>(match y with|[]=>x|z::zs=>z::zs)::zipc xs ys
 |x::xs,[]=>x::xs
theorem fgtH0_refl: ∀(H:Heap),fgtH0 H H
 |[]=>chk_iff.2 ⟨rfl,trivial⟩
 |x::xs=>⟨fgtB_refl x,fgtH0_refl xs⟩
theorem zipc_ok: ∀{xs ys:Heap},fgtH xs ys→fgtH0 xs (zipc xs ys)∧xs.length≤(zipc xs ys).length
 |[],ys,h=>⟨h,Nat.zero_le _⟩
 |x::xs,[],h=>⟨fgtH0_refl _,Nat.le_refl _⟩
 |x::xs,[]::ys,h=>by
  obtain⟨h1,h2⟩:=zipc_ok (xs:=xs) (ys:=ys) h
  exact⟨⟨fgtB_refl x,h1⟩,by simp [zipc,h2]⟩
 |x::xs,(z::zs)::ys,h=>by
  obtain⟨h1,h2⟩:=zipc_ok (xs:=xs) (ys:=ys) h.2
  exact⟨⟨h.1,h1⟩,by simp [zipc,h2]⟩
theorem zipc_get: ∀{xs ys:Heap} (b:Nat),alive ys b=true→ ∀o,hget ys b o=hget (zipc xs ys) b o
 |[],ys,b,h,o=>rfl
 |x::xs,[],b,h,o=>by simp [alive]at h
 |x::xs,y::ys,0,h,o=>by
  cases y with
  |nil=>simp [alive]at h
  |cons z zs=>rfl
 |x::xs,y::ys,b+1,h,o=>by
  have:=zipc_get (xs:=xs) (ys:=ys) b (by simpa[alive]using h) o
  simpa[hget,zipc]using this
theorem LeS.le{m:Nat}{st st':St}(h:LeS st st')(hm:pinOk m st'=true):Le m st st':=by
 obtain⟨h1,h2⟩:=zipc_ok h.2.1
 have hml:LeM st ⟨st'.tm,zipc st.hp st'.hp⟩:=⟨h.1,h1,h2⟩
 exact hml.le.trans (le_cut h.2.2 (fun b hb o=>zipc_get b hb o) hm)
end
section
variable {E:Env} {x y:Code} {Q:Exit→St→Prop} {st:St}
theorem WP.step(hE:E.Ok)(mid:St)(p:Prop)(e:awp E x (thenA (fun s=>LeS s mid) Q) st=p)(h:p)(k:WP E y Q mid)(hm:pinOk E.m mid=true:=by rfl):WP E (.seq x y) Q st:=
 WP.cut mid ((WP.of_awp hE (Eq.mpr e h)).mono fun e s hs=>by cases e<;>simp only[thenA]at hs ⊢ <;>first|exact LeS.le hs hm|exact hs) k
theorem WP.fin(hE:E.Ok)(mid:St)(p:Prop)(e:awp E x (thenA (fun s=>LeS s mid) fun _ _=>False) st=p)(h:p)(k:Q .normal mid)(hm:pinOk E.m mid=true:=by rfl):WP E x Q st:=
 fun S hS ι a w hs=>wp_mono (WP.of_awp hE (Eq.mpr e h) S hS ι a w hs) fun e a w ⟨ι',st',hs',hq⟩=>by
  cases e<;>simp only[thenA]at hq<;>try exact hq.elim
  obtain⟨ι2,h2⟩:=LeS.le hq hm S hS ι' a w hs'
  exact⟨ι2,mid,h2,k⟩
theorem WP.join(mid:St)(h:WP E x (thenA (fun s=>LeS s mid) Q) st)(k:WP E y Q mid)(hm:pinOk E.m mid=true:=by rfl):WP E (.seq x y) Q st:=
 WP.cut mid (h.mono fun e s hs=>by cases e<;>simp only[thenA]at hs ⊢ <;>first|exact LeS.le hs hm|exact hs) k
theorem WP.loop1(h:WP E x (thenA (fun _=>False) Q) st):WP E (.loop x) Q st:=
 WP.loop (α:=Unit) (fun _=>st) (fun _=>True) (fun _=>0) () trivial (Le.refl st) fun _ _=>h.mono fun e s hs=>by
  cases e<;>simp only[thenA,loopW]at hs ⊢ <;>first|exact hs.elim|exact hs
theorem WP.condR{c:Operand}(b:Bool)(hc:evalA st.tm c= .bool b)(hx:b=true→WP E x Q st)(hy:b=false→WP E y Q st):WP E (.cond c x y) Q st:=WP.cond hc hx hy
theorem WP.retP(p:Prop)(e:Q .ret st=p)(h:p):WP E .ret Q st:=WP.ret (Eq.mpr e h)
theorem WP.skipP(p:Prop)(e:Q .normal st=p)(h:p):WP E .skip Q st:=WP.skip (Eq.mpr e h)
end
abbrev Ans:=List AV→Option (Option Prop×AV)
structure SOk (P:Program) (f:FuncId) (s:Ans):Prop where
 callable:Callable P f
 pure: ∀args pre r,s args=some (pre,r)→preP pre True→PureCall P f args r
def spOf:List (Nat×Ans)→Spec
 |[]=>fun _ _=>none
 |(g,s)::r=>fun f as=>match Nat.beq f g with
  |true=>match s as with
   |some q=>some q
   |none=>spOf r f as
  |false=>spOf r f as
def SAll(P:Program):List (Nat×Ans)→Prop
 |[]=>True
 |x::r=>SOk P x.1 x.2∧SAll P r
theorem spOf_ok{P:Program} : ∀{l:List (Nat×Ans)},SAll P l→Spec.Ok P (spOf l)
 |[],_=>fun f args pre r h=>by cases h
 |(g,s)::l,hl=>fun f args pre r h=>by
  simp only[spOf]at h
  split at h
  ·rename_i e
   have:f=g:=Nat.eq_of_beq_eq_true e
   subst this
   cases hs:s args with
   |some q=>
    rw[hs]at h
    cases h
    exact⟨hl.1.callable,hl.1.pure args pre r hs⟩
   |none=>
    rw[hs]at h
    exact spOf_ok hl.2 f args pre r h
  ·exact spOf_ok hl.2 f args pre r h
abbrev HAns:=List AV→Heap→Option (Option Prop×List AV×Heap)
structure HOk (P:Program) (f:FuncId) (s:HAns):Prop where
 callable:Callable P f
 call: ∀args H pre rs H',s args H=some (pre,rs,H')→preP pre True→HCall P f args H rs H'
def hspOf:List (Nat×HAns)→HSpec
 |[]=>fun _ _ _=>none
 |(g,s)::r=>fun f as H=>match Nat.beq f g with
  |true=>match s as H with
   |some q=>some q
   |none=>hspOf r f as H
  |false=>hspOf r f as H
def HAll(P:Program):List (Nat×HAns)→Prop
 |[]=>True
 |x::r=>HOk P x.1 x.2∧HAll P r
theorem hspOf_ok{P:Program} : ∀{l:List (Nat×HAns)},HAll P l→HSpec.Ok P (hspOf l)
 |[],_=>fun f args H pre rs H' h=>by cases h
 |(g,s)::l,hl=>fun f args H pre rs H' h=>by
  simp only[hspOf]at h
  split at h
  ·rename_i e
   have:f=g:=Nat.eq_of_beq_eq_true e
   subst this
   cases hs:s args H with
   |some q=>
    rw[hs]at h
    cases h
    exact⟨hl.1.callable,hl.1.call args H pre rs H' hs⟩
   |none=>
    rw[hs]at h
    exact hspOf_ok hl.2 f args H pre rs H' h
  ·exact hspOf_ok hl.2 f args H pre rs H' h
section
variable {E:Env} {S:Base} {ι:Nat→Option Nat} {st:St} {a:Act} {w:World}
def hresV(E:Env)(st:St)(r:ResultVar)(K:AV→Prop):Prop:=
 match r with
 | .tmp t=>K (st.tm.getD t .undef)
 | .cell t T=>withTy E T fun ty=>loadA ty st.hp (st.tm.getD t .undef) fun av=>K av
def hresL(E:Env)(st:St):List ResultVar→(List AV→Prop)→Prop
 |[],K=>K []
 |x::r,K=>hresV E st x fun y=>hresL E st r fun ys=>K (y::ys)
theorem hresL_sound(hE:E.Ok)(h:Sim S ι st a w): ∀(rs:List ResultVar) (K:List AV→Prop),hresL E st rs K→ ∃ys vs,K ys∧All2 (VR S ι st.hp w) ys vs∧All2 (resRun E.P w a.tmps) rs vs
 |[],K,hk=>⟨[],[],hk,trivial,trivial⟩
 |r::rs,K,hk=>by
  have key: ∃y v,hresL E st rs (fun ys=>K (y::ys))∧VR S ι st.hp w y v∧resRun E.P w a.tmps r v:=by
   cases r with
   |tmp t=>exact⟨_,_,hk,h.eval (.tmp t),rfl⟩
   |cell t T=>
    obtain⟨ty,hT,_,hk⟩:=withTy_ok hE hk
    obtain⟨p,av,u,h1,h2,h3,h4⟩:=load_run hT h (h.eval (.tmp t)) hk
    refine⟨av,u,h2,h3,?_⟩
    have h1':a.tmps.getD t undef= .pointer (some p):=h1
    simp only[resRun]
    rw[Sem.run_bind,h1']
    simp [asAddr,h4]
  obtain⟨y,v,hk,h1,h2⟩:=key
  obtain⟨ys,vs,hk,h3,h4⟩:=hresL_sound hE h rs _ hk
  exact⟨y::ys,v::vs,hk,⟨h1,h3⟩,h2,h4⟩
theorem fgtL_len: ∀{xs ys:List AV},fgtL xs ys→xs.length=ys.length
 |[],[],_=>rfl
 |[],_::_,h=>h.elim
 |_::_,[],h=>h.elim
 |x::xs,y::ys,h=>by
  have:fgtL xs ys:=by cases y<;>first|exact h|exact h.2
  simp [fgtL_len this]
end
end Go.Vc
namespace Go.Vc
open Go Go.RowKit Go.ChangeShapes Go.WideShapes
def tiled(P:Program):List Field→Nat→Nat→Bool
 |[],off,tot=>off==tot
 |f::fs,off,tot=>f.offset==off&&tiled P fs (off+P.cellsOf f.type) tot
def plainB(P:Program):Nat→TypeId→Bool
 |0,_=>false
 |n+1,t=>match P.underlying t with
  |some .bool=>true
  |some (.int _)=>true
  |some .string=>true
  |some (.slice e)=>plainB P n e&&P.cellsOf e !=0
  |some (.struct fs)=>tiled P fs.toList 0 (P.cellsOf t)&&fs.toList.all fun f=>plainB P n f.type
  |_=>false
def shFs(rec:TypeId→(List AV→Prop)→Prop):List Field→(List AV→Prop)→Prop
 |[],K=>K []
 |f::fs,K=>rec f.type fun a=>shFs rec fs fun b=>K (a++b)
structure Bulk {H:Type} (bulk:DataW H→Nat):Prop where
 str: ∀l:List UInt8,l.length≤bulk (.lit (.string l))
 len: ∀e r:List (DataW H),e.length≤bulk (.slice e r)
 elem: ∀e r:List (DataW H),∀d∈e,bulk d≤bulk (.slice e r)
 part: ∀e:List (DataW H),∀d∈e,bulk d≤bulk (.agg e)
def dflt(P:Program):Nat→TypeId→List AV
 |0,_=>[]
 |n+1,t=>match P.underlying t with
  |some .bool=>[.bool false]
  |some (.int k)=>[.int k 0]
  |some .string=>[.str ⟨#[]⟩]
  |some (.slice e)=>[.arr (P.cellsOf e) 0 fun _=>dflt P n e]
  |some (.struct fs)=>fs.toList.flatMap fun f=>dflt P n f.type
  |_=>[]
def ShAll(P:Program)(B:Nat):Nat→TypeId→(List AV→Prop)→Prop
 |0,_,_=>False
 |n+1,t,K=>match P.underlying t with
  |some .bool=> ∀b,K [.bool b]
  |some (.int k)=> ∀x:Int,(Lit.int k x).wf=true→K [.int k x]
  |some .string=> ∀s:ByteArray,s.size≤B→K [.str s]
  |some (.slice e)=> ∀(m:Nat) (f:Nat→List AV),m≤B→(∀i,m≤i→f i=dflt P n e)→(∀i,i<m→ ∀K',ShAll P B n e K'→K' (f i))→K [.arr (P.cellsOf e) m f]
  |some (.struct fs)=>shFs (ShAll P B n) fs.toList K
  |_=>False
section
variable {H:Type} {enc:TypeId×Value→H} {P:Program} {w:World} {base:Nat} {spare:Nat→Bool} {held:Bool} {B:Nat} {bulk:DataW H→Nat}
theorem add_none{a:Addr}(h:a.spot=none)(i j:Nat):(a.add i).add j=⟨a.block,a.off+i+j,none⟩:=by
 obtain⟨b,o,s⟩:=a
 simp only at h
 subst h
 unfold Addr.add
 by_cases hi:i=0<;>by_cases hj:j=0<;>simp [hi,hj,Nat.add_assoc]
theorem open_fields{n:Nat}(ih: ∀(t:TypeId) (cs:List Value) (fuel:Nat) (x:DataW H×List MemPlace),plainB P n t=true→bulk x.1≤B→DataW.trod enc P w base spare held fuel t cs=some x→
   ∃avs,All2 (FRel w fun y=>y<w.heap.size) avs cs∧ ∀K,ShAll P B n t K→K avs) {cs:List Value} : ∀(fs:List Field) (off:Nat),tiled P fs off cs.length=true→(fs.all fun f=>plainB P n f.type)=true→
  (∀f∈fs,∃fuel x,bulk x.1≤B∧DataW.trod enc P w base spare held fuel f.type ((cs.drop f.offset).take (P.cellsOf f.type))=some x)→
  ∃avs,All2 (FRel w fun y=>y<w.heap.size) avs (cs.drop off)∧ ∀K,shFs (ShAll P B n) fs K→K avs
 |[],off,ht,_,_=>by
  have:off=cs.length:=by simpa[tiled]using ht
  subst this
  exact⟨[],by simp [All2],fun K h=>h⟩
 |f::fs,off,ht,hp,hf=>by
  simp only[tiled,Bool.and_eq_true,beq_iff_eq]at ht
  simp only[List.all_cons,Bool.and_eq_true]at hp
  obtain⟨fuel,x,hbx,hx⟩:=hf f (by simp)
  obtain⟨avs1,h1,h2⟩:=ih _ _ _ _ hp.1 hbx hx
  obtain⟨avs2,h3,h4⟩:=open_fields ih fs (off+P.cellsOf f.type) ht.2 hp.2 (fun g hg=>hf g (by simp [hg]))
  rw[ht.1]at h1
  refine⟨avs1++avs2,?_,fun K hK=>h4 (fun b=>K (avs1++b)) (h2 _ hK)⟩
  have:=All2.append h1 h3
  rwa [←List.drop_drop,List.take_append_drop]at this
theorem open_cells(hB:B≤BIG)(hbk:Bulk bulk): ∀(n:Nat) (t:TypeId) (cs:List Value) (fuel:Nat) (x:DataW H×List MemPlace),plainB P n t=true→bulk x.1≤B→DataW.trod enc P w base spare held fuel t cs=some x→
  ∃avs,All2 (FRel w fun y=>y<w.heap.size) avs cs∧ ∀K,ShAll P B n t K→K avs
 |0,t,cs,fuel,x,hp,_,h=>by cases hp
 |n+1,t,cs,fuel,x,hp,hx,h=>by
  unfold plainB at hp
  cases hu:P.underlying t with
  |none=>rw[hu]at hp;cases hp
  |some d=>
   rw[hu]at hp
   cases d<;>simp only at hp<;>try (cases hp;done)
   case bool=>
    obtain⟨b,rfl,_⟩:=DataW.trod_bool hu h
    exact⟨[.bool b],⟨.bool b,trivial⟩,fun K hK=>by unfold ShAll at hK;rw[hu]at hK;exact hK b⟩
   case int k=>
    obtain⟨y,rfl,_,hy⟩:=DataW.trod_int hu h
    exact⟨[.int k y],⟨.int k y,trivial⟩,fun K hK=>by unfold ShAll at hK;rw[hu]at hK;exact hK y hy⟩
   case string=>
    obtain⟨s,rfl,rfl,_⟩:=DataW.trod_string hu h
    have hs:s.size≤B:=by
     have:=hbk.str s.data.toList
     rw[Array.length_toList]at this
     exact Nat.le_trans this hx
    exact⟨[.str s],⟨.str s (Nat.le_trans hs hB),trivial⟩,fun K hK=>by unfold ShAll at hK;rw[hu]at hK;exact hK s hs⟩
   case slice e=>
    simp only[Bool.and_eq_true,bne_iff_ne]at hp
    rcases DataW.trod_slice hu h with⟨rfl,_⟩|⟨a,len,cap,elems,rest,m,_,rfl,rfl,hb,hl,hm,hel,hat,_,_⟩
    ·exact⟨[.arr (P.cellsOf e) 0 fun _=>dflt P n e],⟨.nil _ _,trivial⟩,fun K hK=>by unfold ShAll at hK;rw[hu]at hK;exact hK 0 _ (Nat.zero_le _) (fun _ _=>rfl) fun i hi=>absurd hi (by omega)⟩
    ·have hlen:len≤B:=by
      have:=hbk.len (elems.map (·.1)) (rest.map (·.1))
      rw[List.length_map,hel]at this
      exact Nat.le_trans this hx
     have key: ∀i,i<len→ ∃avs vs,All2 (FRel w fun y=>y<w.heap.size) avs vs∧(∀K,ShAll P B n e K→K avs)∧vs.length=P.cellsOf e∧ ∀j,j<P.cellsOf e→w.cell? ((a.add (i*P.cellsOf e)).add j)=vs[j]? :=fun i hi=>by
      have h1:=hat i hi
      rw[List.getElem?_eq_getElem (by omega)]at h1
      cases hc:w.cells? base (a.add (i*P.cellsOf e)) (P.cellsOf e)with
      |none=>rw[hc]at h1;cases h1
      |some vs=>
       rw[hc]at h1
       obtain⟨avs,h2,h3⟩:=open_cells hB hbk n e vs m _ hp.1 (Nat.le_trans (hbk.elem (elems.map (·.1)) (rest.map (·.1)) _ (List.mem_map_of_mem (List.getElem_mem _))) hx) h1
       obtain⟨_,h4,h5⟩:=World.cells?_some hc
       exact⟨avs,vs,h2,h3,h4,h5⟩
     by_cases h0:len=0
     ·subst h0
      exact⟨[.arr (P.cellsOf e) 0 fun _=>dflt P n e],⟨.mt _ _ _ _,trivial⟩,fun K hK=>by unfold ShAll at hK;rw[hu]at hK;exact hK 0 _ (Nat.zero_le _) (fun _ _=>rfl) fun i hi=>absurd hi (by omega)⟩
     ·have hspot:a.spot=none∧a.block<w.heap.size:=by
       obtain⟨_,vs,_,_,hlen,hc⟩:=key 0 (by omega)
       have:=hc 0 (by omega)
       rw[List.getElem?_eq_getElem (by omega)]at this
       simp only[Nat.zero_mul,Addr.add,if_true]at this
       unfold World.cell? at this
       cases hh:w.heap[a.block]? with
       |none=>rw[hh]at this;cases this
       |some ob=>
        refine⟨?_,(Array.getElem?_eq_some_iff.1 hh).1⟩
        rw[hh]at this
        cases ob<;>simp only at this<;>try (cases this;done)
        split at this
        ·cases this
        ·rename_i hsp
         simpa using hsp
      obtain⟨b,o,s⟩:=a
      simp only at hspot
      obtain⟨rfl,hbl⟩:=hspot
      have key2: ∀i,∃avs:List AV,i<len→ ∃vs,All2 (FRel w fun y=>y<w.heap.size) avs vs∧(∀K,ShAll P B n e K→K avs)∧vs.length=P.cellsOf e∧ ∀j,j<P.cellsOf e→w.cell? ⟨b,o+i*P.cellsOf e+j,none⟩=vs[j]? :=fun i=>by
       by_cases hi:i<len
       ·obtain⟨avs,vs,g1,g2,g3,g4⟩:=key i hi
        exact⟨avs,fun _=>⟨vs,g1,g2,g3,fun j hj=>by rw[←g4 j hj,add_none rfl]⟩⟩
       ·exact⟨[],fun h=>absurd h hi⟩
      let f:Nat→List AV:=fun i=>if i<len then Classical.choose (key2 i)else dflt P n e
      have hfe: ∀i,i<len→f i=Classical.choose (key2 i):=fun i hi=>if_pos hi
      have hf: ∀i,i<len→ ∃vs,All2 (FRel w fun y=>y<w.heap.size) (f i) vs∧(∀K,ShAll P B n e K→K (f i))∧vs.length=P.cellsOf e∧ ∀j,j<P.cellsOf e→w.cell? ⟨b,o+i*P.cellsOf e+j,none⟩=vs[j]? :=fun i hi=>by rw[hfe i hi];exact Classical.choose_spec (key2 i) hi
      refine⟨[.arr (P.cellsOf e) len f],⟨.arr (P.cellsOf e) len f b o cap (fun i j=>(f i).getD j .undef) (fun i j=>(w.cell? ⟨b,o+i*P.cellsOf e+j,none⟩).getD undef) hl (Nat.le_trans hlen hB) (fun _=>hbl) ?_ ?_ ?_,trivial⟩,?_⟩
      ·intro i j hi hj
       obtain⟨vs,g1,_,g3,_⟩:=hf i hi
       have hlen:=g1.length
       rw[List.getD,List.getElem?_eq_getElem (by omega)]
       rfl
      ·intro i j hi hj
       obtain⟨vs,g1,_,g3,g4⟩:=hf i hi
       rw[g4 j hj,List.getElem?_eq_getElem (by omega)]
       rfl
      ·intro i j hi hj
       obtain⟨vs,g1,_,g3,g4⟩:=hf i hi
       have hlen:=g1.length
       obtain⟨v,e1,e2⟩:=g1.get j ((f i)[j]'(by omega)) (List.getElem?_eq_getElem _)
       rw[g4 j hj,e1,List.getD,List.getElem?_eq_getElem (by omega)]
       exact e2
      ·intro K hK
       unfold ShAll at hK
       rw[hu]at hK
       exact hK len f hlen (fun i hi=>if_neg (by omega)) fun i hi=>(hf i hi).choose_spec.2.1
   case struct fs=>
    simp only[Bool.and_eq_true]at hp
    obtain⟨xs,m,_,rfl,hlen,hxl,hat⟩:=DataW.trod_struct hu h
    obtain⟨avs,h1,h2⟩:=open_fields (n:=n) (fun t cs fuel x=>open_cells hB hbk n t cs fuel x) (cs:=cs) fs.toList 0 (by rw[hlen];exact hp.1) hp.2 fun f hf=>by
     obtain⟨i,hi⟩:=List.getElem?_of_mem hf
     have hi':fs[i]? =some f:=by simpa using hi
     have hil:i<fs.size:=(Array.getElem?_eq_some_iff.1 hi').1
     have:=hat i f hi'
     rw[List.getElem?_eq_getElem (by omega)]at this
     exact⟨_,_,Nat.le_trans (hbk.part (xs.map (·.1)) _ (List.mem_map_of_mem (List.getElem_mem _))) hx,this⟩
    exact⟨avs,by simpa using h1,fun K hK=>h2 K (by unfold ShAll at hK;rw[hu]at hK;exact hK)⟩
def topA(P:Program)(t:TypeId)(cs:List AV):AV:=
 match P.underlying t with
 |some (.struct _)=> .agg cs
 |_=>cs.headD .undef
def shArgs(P:Program)(B n:Nat):List TypeId→(List AV→Prop)→Prop
 |[],K=>K []
 |t::ts,K=>ShAll P B n t fun a=>shArgs P B n ts fun bs=>K (topA P t a::bs)
theorem open_arg(hB:B≤BIG)(hbk:Bulk bulk){n:Nat}{r:Reach}{b0:Nat}{t:TypeId}{v:Value}{d:DataW H}{ps:List MemPlace}(hp:plainB P n t=true)(hval:Value.okWide P w r b0 t v)(hd:bulk d≤B)(h:DataW.Trod enc P w base spare held t v d ps):
  ∃avs,ARel w (fun y=>y<w.heap.size) (topA P t avs) v∧ ∀K,ShAll P B n t K→K avs:=by
 obtain⟨fuel,h⟩:=h
 obtain⟨avs,h1,h2⟩:=open_cells hB hbk n t _ fuel _ hp hd h
 refine⟨avs,?_,h2⟩
 cases n with
 |zero=>cases hp
 |succ n=>
  unfold plainB at hp
  unfold topA
  cases hu:P.underlying t with
  |none=>rw[hu]at hp;cases hp
  |some d=>
   rw[hu]at hp
   cases d<;>simp only at hp<;>try (cases hp;done)
   case struct fs=>
    obtain⟨cs,rfl,_⟩:=okWide_struct hu hval
    exact⟨cs.toList,by simp,by simpa[Value.cells]using h1⟩
   case bool=>
    obtain⟨b,rfl⟩:=okWide_bool hu hval
    match avs,h1 with
    |[av],h1=>cases h1.1<;>first|exact FRel.bool b|exact FRel.lit b
   case int k=>
    obtain⟨b,rfl⟩:=okWide_int hu hval
    match avs,h1 with
    |[av],h1=>cases h1.1;exact FRel.int k b
   case string=>
    obtain⟨b,rfl⟩:=okWide_string hu hval
    match avs,h1 with
    |[av],h1=>cases h1.1;exact FRel.str b (by assumption)
   case slice e=>
    obtain⟨a,len,cap,rfl⟩:=okWide_slice hu hval
    match avs,h1 with
    |[av],h1=>
     have h3:FRel w (fun y=>y<w.heap.size) av (.slice a len cap):=h1.1
     have h4:ARel w (fun y=>y<w.heap.size) av (.slice a len cap):=by
      cases av<;>first|exact h3|(cases h3;done)
     exact h4
theorem open_args(hB:B≤BIG)(hbk:Bulk bulk){n:Nat}{r:Reach}{b0:Nat} : ∀(ts:List TypeId) (vs:List Value) (ds:List (DataW H)) (ps:List MemPlace),(ts.all (plainB P n))=true→(∀(j:Nat) t v,ts[j]? =some t→vs[j]? =some v→Value.okWide P w r b0 t v)→(∀d∈ds,bulk d≤B)→
  DataW.TrodAll enc P w base spare held ts vs ds ps→ ∃as,All2 (ARel w fun y=>y<w.heap.size) as vs∧(∀K,shArgs P B n ts K→K as)∧ds.length=ts.length
 |[],[],[],_,_,_,_,_=>⟨[],trivial,fun _ h=>h,rfl⟩
 |t::ts,v::vs,d::ds,ps,hp,hval,hds,h=>by
  obtain⟨p,q,h1,h2,_⟩:=h
  simp only[List.all_cons,Bool.and_eq_true]at hp
  obtain⟨avs,h3,h4⟩:=open_arg hB hbk hp.1 (hval 0 t v rfl rfl) (hds d (by simp)) h1
  obtain⟨as,h5,h6,h7⟩:=open_args hB hbk ts vs ds q hp.2 (fun j t' v' ht hv=>hval (j+1) t' v' (by simpa using ht) (by simpa using hv)) (fun d' hd'=>hds d' (by simp [hd'])) h2
  exact⟨topA P t avs::as,⟨h3,h5⟩,fun K hK=>h6 (fun bs=>K (topA P t avs::bs)) (h4 _ hK),by simp [h7]⟩
 |[],[],_::_,_,_,_,_,h=>h.elim
 |[],_::_,_,_,_,_,_,h=>by cases h
 |_::_,[],_,_,_,_,_,h=>by cases h
 |_::_,_::_,[],_,_,_,_,h=>by cases h
theorem trodAll_stays(hl:laidOutB P=true){W W':World}{sp':Nat→Bool} : ∀(ts:List TypeId) (vs:List Value) (ds:List (DataW H)) (ps:List MemPlace),(ts.all fun t=>P.readableRec t&&decide (t<P.types.size))=true→
  DataW.TrodAll enc P W 0 (fun _=>true) true ts vs ds ps→(∀p∈ps,W.sameAt W' p)→(∀p∈ps,sp' p.block=true)→DataW.TrodAll enc P W' 0 sp' true ts vs ds ps
 |[],[],[],_,_,h,_,_=>h
 |t::ts,v::vs,d::ds,ps,hp,h,hs,hsp=>by
  obtain⟨p,q,h1,h2,rfl⟩:=h
  simp only[List.all_cons,Bool.and_eq_true,decide_eq_true_eq]at hp
  exact⟨p,q,WideElems.Trod_stays hl hp.1.1 hp.1.2 h1 (fun x hx=>hs x (by simp [hx])) (fun x hx=>hsp x (by simp [hx])),trodAll_stays hl ts vs ds q hp.2 h2 (fun x hx=>hs x (by simp [hx])) (fun x hx=>hsp x (by simp [hx])),rfl⟩
 |[],[],_::_,_,_,h,_,_=>h.elim
 |[],_::_,_,_,_,h,_,_=>by cases h
 |_::_,[],_,_,_,h,_,_=>by cases h
 |_::_,_::_,[],_,_,h,_,_=>by cases h
theorem post_of_below{f:Func}{s:ChangeSpec}{apart fresh handsOn again:Bool}{W W':World}{args:Array Value}{v:Value}{ds gs:List (DataW H)}{before pa pv:List MemPlace}
  (hW:DataW.Whole enc P f.params.toList s.vars apart W args.toList ds gs before)
  (hres: ∀(b:Nat) (sp:Nat→Bool) (hd:Bool),DataW.TrodAll enc P W' b sp hd f.resultTypes.toList (v.resultList f.resultTypes.size) (s.fn H (ds++gs)).results [])
  (hargs: ∀sp:Nat→Bool,(∀p∈before,sp p.block=true)→DataW.TrodAll enc P W' 0 sp true f.params.toList args.toList (s.fn H (ds++gs)).args pa)
  (hvars: ∀sp:Nat→Bool,(∀p∈before,sp p.block=true)→DataW.TrodVars enc P W' sp s.vars (s.fn H (ds++gs)).vars pv)
  (hps:before=pa++pv) (hb:Below W.heap.size W W')
  (hok: ∀(j:Nat) (t:TypeId) (r:Value),f.resultTypes[j]? =some t→(v.resultList f.resultTypes.size)[j]? =some r→Value.okWide P W' .any 0 t r):
  s.post enc P f apart fresh handsOn again W args v W':=by
 have hlt: ∀p∈before,p.block<W.heap.size:=fun p hp=>hW.lt p hp
 have hold: ∀p∈before,(fun b=>decide (b<W.heap.size)) p.block=true:=fun p hp=>by simpa using hlt p hp
 refine⟨ds,gs,before,[],pa,pv,hW,hres _ _ _,hargs _ hold,hvars _ hold,World.keptBut_mono (fun p hp=>⟨hp,?_⟩) (hb.frame (· ∈before)),fun _=> ?_⟩
 ·rw[hps,List.mem_append]at hp
  exact Or.inr hp
 ·obtain⟨_,_,_,_,_,hz,hn⟩:=hW
  refine⟨hok,_,_,([]++pa)++pv,⟨[]++pa,pv,trodAll_append (hargs _ (fun _ _=>rfl)) (hres _ _ _),hvars _ (fun _ _=>rfl),rfl,?_,?_⟩,?_⟩
  ·intro b off hp
   have hin:MemPlace.cell b off∈before:=by rw[hps];simpa using hp
   rw[hb.frozen (hlt _ hin)]
   exact hz b off hin
  ·intro ha
   have:=hn ha
   rw[hps]at this
   simpa using this
  ·intro p hp _
   rw[hps]
   simpa using hp
theorem law_contract(hB:B≤BIG)(hbk:Bulk bulk){f:FuncId}{fn:Func}{s:ChangeSpec}{apart fresh handsOn again:Bool}{n tb:Nat}{ts:List TypeId}(hts:fn.params.toList=ts)
  (hl:laidOutB P=true) (hplain:(ts.all (plainB P n))=true) (hread:(ts.all fun t=>P.readableRec t&&decide (t<P.types.size))=true)
  (hres:fn.resultTypes= #[tb]) (hbool:P.underlying tb=some .bool) (hvars:s.vars=[])
  (hspec: ∀ds:List (DataW H),ds.length=ts.length→s.fn H ds={results:=[.lit (.bool true)],args:=ds})
  (hpure:shArgs P B n ts fun as=>PureCall P f as (.bool true)):
  ∀(W:World) (base:Nat) (args:Array Value) (ds gs:List (DataW H)) (before:List MemPlace),
   (∀(j:Nat) t v,fn.params[j]? =some t→args[j]? =some v→Value.okWide P W .any base t v)→
   DataW.Whole enc P fn.params.toList s.vars apart W args.toList ds gs before→(∀d∈ds,bulk d≤B)→FOk W (fun y=>y<W.heap.size)→
   Calls P f args W fun e W'=> ∃v,e= .returned v∧s.post enc P fn apart fresh handsOn again W args v W':=by
 intro W base args ds gs before hval hW hds hG
 have hW':=hW
 obtain⟨p,q,hA,hV,rfl,hfz,hnd⟩:=hW
 rw[hvars]at hV
 obtain⟨rfl,rfl⟩:=trodVars_none hV
 rw[hts]at hA
 obtain⟨as,h1,h2,h3⟩:=open_args hB hbk ts args.toList ds p hplain (fun j t v ht hv=>hval j t v (by rw[←hts]at ht;simpa using ht) (by simpa using hv)) hds hA
 have h4:=h2 _ hpure W (fun y=>y<W.heap.size) args.toList hG h1
 rw[show args.toList.toArray=args by simp]at h4
 refine h4.mono fun e W' ⟨v,he,hr,hb⟩=> ?_
 refine⟨v,he,?_⟩
 have hv:v= .bool true:=by
  have hr:FRel W' _ (.bool true) v:=hr
  cases hr;rfl
 subst hv
 have hlt:=hW'.lt
 refine post_of_below (pa:=p) (pv:=[]) hW' (fun b sp hd=> ?_) (fun sp hsp=> ?_) (fun sp _=> ?_) rfl hb (ok_one hres rfl (okWide_bool_mk hbool true))
 ·rw[hres,List.append_nil,hspec ds h3]
  exact⟨[],[],shut_bool hbool true,rfl,rfl⟩
 ·rw[List.append_nil,hspec ds h3,hts]
  refine trodAll_stays hl ts args.toList ds p hread hA (fun x hx=>hb.same (hlt x (by simp [hx]))) fun x hx=>hsp x (by simp [hx])
 ·rw[hvars,List.append_nil,hspec ds h3]
  rfl
end
end Go.Vc
namespace Go.Vc
open Go Go.RowKit Go.ChangeShapes Go.WideShapes
theorem joined_of{P:Program}{f:FuncId}{fn:Func}{s:ChangeSpec}{c:OpenClaim}
  (a1:c.wf (OpenSpec.ofChange s)=true) (a2:laidOutB P=true) (a3:mapsRowed P=true)
  (a4:fn.params.all (P.readableRec ·)=true) (a5:namedTie P c.named s.vars=true)
  (a6:(c.stops==[])=true) (a7:(P.stops==[])=true) (a8:(c.knobs==[])=true) (a9:(P.stopKnobs==[])=true)
  (a10:(c.inPlace==P.inPlace f)=true) (a11:(c.unfollowed==P.unfollowed f)=true) (a12:(c.recurses==P.recurses f)=true) (a13:(c.named==P.varsNamed f)=true)
  (a14:(c.maps==(fn.params.toList++s.plain.varTypes P).any (P.mapsRec ·))=true) (a15:(c.ifaces==(fn.params.toList++s.plain.varTypes P).any (P.ifacesRec ·))=true) (a16:(c.mapsOut==P.mapsAmong fn.resultTypes.toList)=true)
  (a17:(c.loops==(fn.params.toList++s.plain.varTypes P).any (P.loopsFrom ·))=true) (a18:(c.wideKeys==(fn.params.toList++s.plain.varTypes P++fn.resultTypes.toList).any (P.wideKeysFrom ·))=true)
  (a19:s.vars.all (P.varReadable ·)=true) (a20:fn.resultTypes.all (fun t=>P.readableRec t&&decide (t<P.types.size))=true) (a21:(c.ifacesOut==fn.resultTypes.toList.any (P.ifacesRec ·))=true) (a22:(c.loopsOut==fn.resultTypes.toList.any (P.loopsFrom ·))=true)
  (a23:(c.plainKeys==P.plainKeys)=true) (a24:c.shortTexts.isNone=true) (a25:P.stopsHeard=true) (a26:P.mayEnter=true) (a27:(c.lifted==P.liftsFinal)=true) (a28:(P.make==some c.make)=true)
  (a29:(c.kinds==(if c.domain.isEmpty then[]else fn.params.toList.map fun t=>match P.underlying t with|some (.int k)=>some k|_=>none))=true) (a30:(c.pinned==c.pinnedBy)=true)
  (a31:(c.veiled==(fn.params.toList++s.plain.varTypes P++fn.resultTypes.toList).any (P.veiledRec ·))=true) (a32:c.veiledFits P fn.params.toList (fn.params.toList++s.plain.varTypes P++fn.resultTypes.toList)=true):
  joinedFacts P f fn s c=true:=by
 unfold joinedFacts
 simp only[Bool.and_eq_true]
 exact⟨⟨⟨⟨⟨⟨⟨⟨⟨⟨⟨⟨⟨⟨⟨⟨⟨⟨⟨⟨⟨⟨⟨⟨⟨⟨⟨⟨⟨⟨⟨a1,a2⟩,a3⟩,a4⟩,a5⟩,a6⟩,a7⟩,a8⟩,a9⟩,a10⟩,a11⟩,a12⟩,a13⟩,a14⟩,a15⟩,a16⟩,a17⟩,a18⟩,a19⟩,a20⟩,a21⟩,a22⟩,a23⟩,a24⟩,a25⟩,a26⟩,a27⟩,a28⟩,a29⟩,a30⟩,a31⟩,a32⟩
end Go.Vc
namespace Go.Vc
open Go Go.RowKit
structure Sl (α:Type) where
 n:Nat
 at':Nat→α
instance{α:Type}[Inhabited α]:Inhabited (Sl α):=⟨⟨0,fun _=>default⟩⟩
def ofSl{α:Type}(sz:Nat)(enc:α→List AV)(s:Sl α):AV:= .arr sz s.n fun i=>enc (s.at' i)
inductive Fine:AV→Prop
 |int (k:IntKind) (n:Int):Fine (.int k n)
 |bool (b:Bool):Fine (.bool b)
 |lit (b:Bool):Fine (.lit b)
 |str (s:ByteArray) (h:s.size≤BIG):Fine (.str s)
 |nils:Fine .nils
 |nilp:Fine .nilp
 |capd (sz n:Nat) (f:Nat→List AV):Fine (.capd sz n f)
 |arr (sz n:Nat) (f:Nat→List AV) (h:n≤BIG) (g:Nat→Nat→AV) (h1: ∀i j,i<n→j<sz→(f i)[j]? =some (g i j)) (h2: ∀i j,i<n→j<sz→Fine (g i j)):Fine (.arr sz n f)
 |ref (cs:List AV):Fine (.ref cs)
 |fn (f:FuncId) (caps:List AV):Fine (.fn f caps)
theorem FRel.fine{w:World}{F:Nat→Prop}{av:AV}{v:Value}(h:FRel w F av v):Fine av:=by
 induction h with
 |int k n=>exact .int k n
 |bool b=>exact .bool b
 |lit b=>exact .lit b
 |str s hb=>exact .str s hb
 |nils=>exact .nils
 |nilp=>exact .nilp
 |capd sz n f=>exact .capd sz n f
 |nil sz f=>exact .arr sz 0 f (Nat.zero_le _) (fun _ _=> .undef) (fun i j hi=>absurd hi (Nat.not_lt_zero _)) (fun i j hi=>absurd hi (Nat.not_lt_zero _))
 |mt sz f a c=>exact .arr sz 0 f (Nat.zero_le _) (fun _ _=> .undef) (fun i j hi=>absurd hi (Nat.not_lt_zero _)) (fun i j hi=>absurd hi (Nat.not_lt_zero _))
 |arr sz n f b o c g vs hn hb hF h1 h2 h3 ih=>exact .arr sz n f hb g h1 ih
 |ref cs=>exact .ref cs
 |fn f caps=>exact .fn f caps
def fineL:List AV→Prop
 |[]=>True
 |x::xs=>Fine x∧fineL xs
def fineA:AV→Prop
 | .agg cs=>fineL cs
 |x=>Fine x
def fineAs:List AV→Prop
 |[]=>True
 |x::xs=>fineA x∧fineAs xs
theorem fineL_of{w:World}{F:Nat→Prop} : ∀{cs:List AV} {vs:List Value},All2 (FRel w F) cs vs→fineL cs
 |[],[],_=>trivial
 |_::_,_::_,h=>⟨h.1.fine,fineL_of h.2⟩
 |[],_::_,h=>h.elim
 |_::_,[],h=>h.elim
theorem fineA_of{w:World}{F:Nat→Prop}{x:AV}{v:Value}(h:ARel w F x v):fineA x:=by
 cases x
 case agg cs=>obtain⟨vs,_,h⟩:=h;exact fineL_of h
 case undef=>exact h.elim
 all_goals exact FRel.fine h
theorem fineAs_of{w:World}{F:Nat→Prop} : ∀{xs:List AV} {vs:List Value},All2 (ARel w F) xs vs→fineAs xs
 |[],[],_=>trivial
 |_::_,_::_,h=>⟨fineA_of h.1,fineAs_of h.2⟩
 |[],_::_,h=>h.elim
 |_::_,[],h=>h.elim
theorem PureCall.fine{P:Program}{f:FuncId}{xs:List AV}{r:AV}(h:fineAs xs→PureCall P f xs r):PureCall P f xs r:=fun w F vs hF ha=>h (fineAs_of ha) w F vs hF ha
theorem Fine.len{α:Type}{sz:Nat}{enc:α→List AV}{s:Sl α}(h:Fine (ofSl sz enc s)):s.n≤BIG:=by
 unfold ofSl at h
 cases h;assumption
theorem Fine.at{α:Type}{sz:Nat}{enc:α→List AV}{s:Sl α}(h:Fine (ofSl sz enc s)){i j:Nat}{x:AV}(hi:i<s.n)(hj:j<sz)(hx:(enc (s.at' i))[j]? =some x):Fine x:=by
 unfold ofSl at h
 cases h with
 |arr _ _ _ _ g h1 h2=>
  have:=h1 i j hi hj
  rw[hx]at this
  cases this
  exact h2 i j hi hj
theorem Fine.size{s:ByteArray}(h:Fine (.str s)):s.size≤BIG:=by cases h;assumption
theorem PureCall.weak{P:Program}{f:FuncId}{xs ys:List AV}{r:AV}(h:PureCall P f ys r)(hle:All2 aLe xs ys):PureCall P f xs r:=fun w F vs hF ha=>
 h w F vs hF (All2.mk (hle.length.symm.trans ha.length) fun i y v hy hv=>by
   have hi:i<xs.length:=by rw[hle.length];exact(List.getElem?_eq_some_iff.1 hy).1
   obtain⟨y',h1,h2⟩:=hle.get i _ (List.getElem?_eq_getElem hi)
   rw[hy]at h1;cases h1
   obtain⟨v',h3,h4⟩:=ha.get i _ (List.getElem?_eq_getElem hi)
   rw[hv]at h3;cases h3
   exact h2.rel h4)
def isSl(sz:Nat):AV→Bool
 | .arr s _ _=>Nat.beq s sz
 | .nils=>true
 |_=>false
def toSl{α:Type}[Inhabited α](dec:List AV→α):AV→Sl α
 | .arr _ n f=>⟨n,fun i=>dec (f i)⟩
 |_=>⟨0,fun _=>default⟩
def okSl{α:Type}(enc:α→List AV)(dec:List AV→α):AV→Prop
 | .arr _ n f=> ∀i,i<n→f i=enc (dec (f i))
 |_=>True
theorem slLe{α:Type}[Inhabited α]{sz:Nat}{enc:α→List AV}{dec:List AV→α}{x:AV}(h1:isSl sz x=true)(h2:okSl enc dec x):cLe x (ofSl sz enc (toSl dec x)):=by
 cases x<;>simp only[isSl]at h1<;>first|(cases h1;done)|skip
 ·exact rfl
 ·exact⟨Nat.eq_of_beq_eq_true h1,rfl,h2⟩
def nilSl{α:Type}[Inhabited α]:Sl α:=⟨0,fun _=>default⟩
theorem cI{k:IntKind}{n:Int} :cLe (.int k n) (.int k n):=rfl
theorem cS{s:ByteArray} :cLe (.str s) (.str s):=rfl
theorem aI{k:IntKind}{n:Int} :aLe (.int k n) (.int k n):=rfl
theorem aG{cs ds:List AV}(h:All2 cLe cs ds):aLe (.agg cs) (.agg ds):=h
theorem l0{α β:Type}{R:α→β→Prop} :All2 R [] []:=trivial
theorem l1{α β:Type}{R:α→β→Prop}{a:α}{b:β}{l:List α}{m:List β}(h:R a b)(t:All2 R l m):All2 R (a::l) (b::m):=⟨h,t⟩
theorem wrap64{x:Int}(h1: -9223372036854775808≤x)(h2:x≤9223372036854775807):IntKind.i64.wrap x=x:=by
 rw[IntKind.wrap_i64]
 omega
end Go.Vc
