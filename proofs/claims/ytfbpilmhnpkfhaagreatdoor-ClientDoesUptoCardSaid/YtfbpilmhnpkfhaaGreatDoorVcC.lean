/-
  A GENERATOR OF CONDITIONS over the model's code, proved sound once: what it asks of a function's body gives the run of that body. By an AI agent; no person has read it. Part 4: regions, in the order of the text and in any order that the model may draw.
-/
import Derived.Test.YtfbpilmhnpkfhaaGreatDoorVcK
set_option linter.all false
namespace Go.Vc
open Go Go.RowKit
def withTy(E:Env)(T:TypeId)(K:Ty→Prop):Prop:=
 match E.ty T with
 |some t=>K t
 |none=>False
def lenTyOk(t:Ty)(x:AV):Bool:=
 match t.d,x with
 | .string,.str _=>true
 | .string,_=>false
 | .slice ..,.str _=>false
 | .slice ..,_=>true
 |_,_=>false
def nilCheckA(H:Heap)(x:AV)(K:AV→Prop):Prop:=
 match x with
 | .ptr .. =>K x
 | .ref _=>K x
 | .eptr b k _ _=>match hget H b 0 with
   | .blk _ _ n _=>k=n∧K x
   |_=>False
 |_=>False
def isH(ho:FuncId→Bool)(f:FuncId)(as:List AV):Bool:=
 match hasPtr as with
 |true=>true
 |false=>ho f
def callV(E:Env)(H:Heap)(nb:Nat)(fv:AV)(args:List AV)(K:AV→Ws→Prop):Prop:=
 match fv with
 | .fn f caps=>match isH E.ho f (args++caps)with
   |true=>hcallA E H nb f (args++caps) K
   |false=>chk (caps.all capOk) (callA E H nb f (args++caps) K)
 |_=>False
def boxCall(tm:List AV)(op:Op):Bool:=
 match op with
 | .call c=>match c.callee with
   | .value x=>match evalA tm x with
     | .fn _ caps=>hasPtr (c.args.toList.map (evalA tm)++caps)
     |_=>false
   | .builtin .append=>match c.args.toList with
     |x::_=>match evalA tm x with
      | .own .. =>true
      |_=>false
     |[]=>false
   |_=>false
 |_=>false
def nbOf(tm:List AV)(H:Heap)(op:Op):Nat:=
 match boxCall tm op with
 |true=>H.length+32
 |false=>H.length
theorem nbOf_ge(tm:List AV)(H:Heap)(op:Op):H.length≤nbOf tm H op:=by
 unfold nbOf
 cases boxCall tm op
 ·exact Nat.le_refl _
 ·exact Nat.le_add_right _ _
def aop(E:Env)(nb:Nat)(tm:List AV)(H:Heap)(op:Op)(K:AV→Ws→Prop):Prop:=
 match op with
 | .move x=>K (evalA tm x) []
 | .assign x=>K (evalA tm x) []
 | .pick c x y=>match evalA tm c with
   | .bool b=>pickA b (evalA tm x) (evalA tm y) fun av=>K av []
   | .lit b=>pickA b (evalA tm x) (evalA tm y) fun av=>K av []
   |_=>False
 | .alloc T=>withTy E T fun t=>chk (!t.zero.isEmpty) (K (.ptr nb 0) (cellsW nb t.zero 0))
 | .box _ x=>chk (valOk (evalA tm x)&& !(cellsOf (evalA tm x)).isEmpty) (K (.ptr nb 0) (cellsW nb (cellsOf (evalA tm x)) 0))
 | .build T ps=>withTy E T fun t=>match t.d with
   | .struct offs=>buildA offs tm ps.toList t.zero fun cs=>K (.agg cs) []
   |_=>False
 | .load T x=>withTy E T fun t=>loadA t H (evalA tm x) fun av=>K av []
 | .store T x y=>withTy E T fun t=>storeA t H (evalA tm x) (evalA tm y) fun ws=>K .undef ws
 | .nilCheck x=>nilCheckA H (evalA tm x) fun av=>K av []
 | .binOp op T x y _=>withTy E T fun t=>binA t op (normA (evalA tm x)) (normA (evalA tm y)) fun av=>K av []
 | .unOp op _ x=>unA op (evalA tm x) fun av=>K av []
 | .fieldAddr T x f=>withTy E T fun t=>fieldA t H f (evalA tm x) fun av=>K av []
 | .indexAddr T x y=>withTy E T fun t=>indexA t H (evalA tm x) (evalA tm y) fun av=>K av []
 | .index T x y=>withTy E T fun t=>idxA E.ty t (evalA tm x) (evalA tm y) fun av=>K av []
 | .extract x i=>extractA i (evalA tm x) fun av=>K av []
 | .buildSlice T len ps=>withTy E T fun t=>buildSliceA t tm H nb len ps.toList K
 | .makeSlice T l c=>withTy E T fun t=>makeSliceA E t tm nb l c K
 | .slice T x l h m=>withTy E T fun t=>sliceA t H tm (evalA tm x) l h m K
 | .convert Ts Td x=>withTy E Ts fun t=>withTy E Td fun u=>convA t u (elemTy E t u) H (evalA tm x) fun av=>K av []
 | .makeFunc fn first captured=>match fn with
   | .func f=>chk (first.toList.isEmpty&&(captured.toList.map (evalA tm)).all capOk2) (K (.fn f (captured.toList.map (evalA tm))) [])
   |_=>False
 | .call c=>match c.callee with
   | .value x=>callV E H nb (evalA tm x) (c.args.toList.map (evalA tm)) K
   | .builtin b=>match b with
     | .len=>match c.args.toList,c.argTypes.toList with
       |[x],[T]=>withTy E T fun t=>chk (lenTyOk t (evalA tm x)) (lenA H (evalA tm x) fun av=>K av [])
       |_,_=>False
     | .append=>match c.args.toList,c.argTypes.toList with
       |[x,y],[T,T2]=>withTy E T fun t=>withTy E T2 fun t2=>chk (t2.d.isStr||t2.d.isSl) (appendA t t2.d.isStr H nb (evalA tm x) (evalA tm y) K)
       |_,_=>False
     | .min=>match c.args.toList with
       |[x,y]=>minA (evalA tm x) (evalA tm y) fun av=>K av []
       |_=>False
     | .max=>match c.args.toList with
       |[x,y]=>maxA (evalA tm x) (evalA tm y) fun av=>K av []
       |_=>False
     |_=>False
   |_=>False
 |_=>False
def isAlloc:Op→Bool
 | .alloc _| .box .. | .buildSlice .. | .makeSlice .. =>true
 | .call c=>match c.callee with
   | .value _=>true
   | .builtin .append=>true
   |_=>false
 |_=>false
section
variable {E:Env} {S:Base} {ι:Nat→Option Nat} {st:St} {a:Act} {w:World}
theorem withTy_ok{T:TypeId}{K:Ty→Prop}(hE:E.Ok)(h:withTy E T K): ∃t,TyOk E.P T t∧E.ty T=some t∧K t:=by
 unfold withTy at h
 cases e:E.ty T with
 |none=>rw[e]at h;exact h.elim
 |some t=>rw[e]at h;exact⟨t,hE.ty T t e,rfl,h⟩
theorem nilCheck_sound{o:Oper}{x:Operand}(ho:o.op= .nilCheck x)(h:Sim S ι st a w){K:AV→Prop}(hk:nilCheckA st.hp (evalA st.tm x) K){next:Act→World→Prop}{Q:Exit→Act→World→Prop}
  (hnext: ∀av v,K av→VR S ι st.hp w av v→next (a.put o.dst v) w):o.wp E.P a w next Q:=by
 have hx:=h.eval x
 have key: ∀(p:Addr),a.eval x= .pointer (some p)→(execOp a.eval o).run E.P w= .ok (.value (a.eval x)) w:=fun p e=>by simp [execOp,ho,e]
 cases e:evalA st.tm x<;>rw[e]at hk hx<;>simp only[nilCheckA]at hk<;>try exact hk.elim
 ·obtain⟨_,y,_,hv⟩:=(show CR S ι st.hp w (.ptr _ _) _ from hx)
  exact wp_value (key _ hv) (hnext _ _ hk hx)
 ·obtain⟨_,ro,sz,n,g,h1,h2,h3⟩:=(show CR S ι st.hp w (.eptr _ _ _ _) _ from hx)
  rw[h1]at hk
  simp only at hk
  obtain⟨y,hy,hv⟩:=h3 hk.1
  exact wp_value (key _ hv) (hnext _ _ hk.2 hx)
 ·rename_i cs
  have hx':FRel w (FZ S ι st.hp w) (.ref cs) (a.eval x):=hx
  generalize hv:a.eval x=v at hx'
  cases hx'
  exact wp_value (key _ hv) (hnext _ _ hk hx)
theorem aop_sound(hE:E.Ok){o:Oper}(h:Sim S ι st a w){nb:Nat}{Nw:Nat→Prop}(hn:isAlloc o.op=true→Nw nb∧ ∀b,Nw b→(∀p,hget st.hp b p= .undef)∧ι b=none){K:AV→Ws→Prop}(hKn: ∀av ws,K av ws→ ∀b p c,(b,p,c)∈ws→nb<b→Nw b)(hk:aop E nb st.tm st.hp o.op K){next:Act→World→Prop}{Q:Exit→Act→World→Prop}
  (hnext: ∀ι' av ws v w',K av ws→Sim S ι' ⟨st.tm,hwr st.hp ws⟩ a w'→VR S ι' (hwr st.hp ws) w' av v→(∀b,ι' b≠none→ι b≠none∨ ∃p c,(b,p,c)∈ws)→next (a.put o.dst v) w'):o.wp E.P a w next Q:=by
 have quiet: ∀av v,K av []→VR S ι st.hp w av v→next (a.put o.dst v) w:=fun av v hK hv=>hnext ι av [] v w hK h hv fun b hb=> .inl hb
 have hcw: ∀(cs:List AV),cs.isEmpty=false→ ∃p c,(nb,p,c)∈cellsW nb cs 0:=fun cs hc=>by
  cases cs with
  |nil=>cases hc
  |cons c cs=>exact⟨0,c,by simp [cellsW]⟩
 cases ho:o.op<;>rw[ho]at hk hn<;>simp only[aop]at hk<;>try exact hk.elim
 case move x=>exact wp_value (by simp [execOp,ho]) (quiet _ _ hk (h.eval x))
 case assign x=>exact wp_value (by simp [execOp,ho]) (quiet _ _ hk (h.eval x))
 case pick c x y=>
  have hc:=h.eval c
  cases e:evalA st.tm c<;>rw[e]at hk hc<;>simp only at hk<;>try exact hk.elim
  ·exact pick_sound ho hc.bool h hk quiet
  ·exact pick_sound ho hc.lit h hk quiet
 case alloc T=>
  obtain⟨t,hT,_,hk⟩:=withTy_ok hE hk
  simp only[chk_iff,Bool.not_eq_true']at hk
  obtain⟨hne,hK⟩:=hk
  obtain⟨h1,h2⟩:=(hn rfl).2 nb (hn rfl).1
  exact alloc_sound ho hT h h1 h2 (by intro e;rw[e]at hne;cases hne) fun ι' w' v hu hs hv=>hnext ι' _ _ v w' hK hs hv fun b hb=>(hu b hb).imp id fun e=>by subst e;exact hcw _ hne
 case box T x=>
  simp only[chk_iff,Bool.and_eq_true,Bool.not_eq_true']at hk
  obtain⟨⟨h3,hne⟩,hK⟩:=hk
  obtain⟨h1,h2⟩:=(hn rfl).2 nb (hn rfl).1
  exact box_sound ho h h1 h2 h3 (by intro e;rw[e]at hne;cases hne) fun ι' w' v hu hs hv=>hnext ι' _ _ v w' hK hs hv fun b hb=>(hu b hb).imp id fun e=>by subst e;exact hcw _ hne
 case build T ps=>
  obtain⟨t,hT,_,hk⟩:=withTy_ok hE hk
  cases ed:t.d<;>rw[ed]at hk<;>simp only at hk<;>try exact hk.elim
  exact build_sound ho hT ed h hk quiet
 case load T x=>
  obtain⟨t,hT,_,hk⟩:=withTy_ok hE hk
  exact load_sound ho hT h hk quiet
 case store T x y=>
  obtain⟨t,hT,_,hk⟩:=withTy_ok hE hk
  exact store_sound ho hT h hk fun ws w' hK hs=>hnext ι _ ws _ w' hK hs trivial fun b hb=> .inl hb
 case nilCheck x=>exact nilCheck_sound ho h hk quiet
 case binOp op T x y T'=>
  obtain⟨t,hT,_,hk⟩:=withTy_ok hE hk
  exact bin_sound ho hT h hk quiet
 case unOp op T x=>exact un_sound ho h hk quiet
 case fieldAddr T x f=>
  obtain⟨t,hT,_,hk⟩:=withTy_ok hE hk
  exact field_sound ho hT h hk quiet
 case indexAddr T x y=>
  obtain⟨t,hT,_,hk⟩:=withTy_ok hE hk
  exact index_sound ho hT h hk quiet
 case index T x y=>
  obtain⟨t,hT,_,hk⟩:=withTy_ok hE hk
  exact idx_sound hE.ty ho hT h hk quiet
 case extract x i=>exact extract_sound ho h hk quiet
 case buildSlice T len ps=>
  obtain⟨t,hT,_,hk⟩:=withTy_ok hE hk
  obtain⟨h1,h2⟩:=(hn rfl).2 nb (hn rfl).1
  exact buildSlice_sound ho hT h h1 h2 hk hnext
 case makeSlice T l c=>
  obtain⟨t,hT,_,hk⟩:=withTy_ok hE hk
  obtain⟨h1,h2⟩:=(hn rfl).2 nb (hn rfl).1
  exact makeSlice_sound hE ho hT h h1 h2 hk hnext
 case slice T x l hh m=>
  obtain⟨t,hT,_,hk⟩:=withTy_ok hE hk
  exact slice_sound ho hT h hk fun av ws v hK hs hv=>hnext ι av ws v w hK hs hv fun b hb=> .inl hb
 case convert Ts Td x=>
  obtain⟨t,hT,_,hk⟩:=withTy_ok hE hk
  obtain⟨u,hU,_,hk⟩:=withTy_ok hE hk
  exact conv_sound hE ho hT hU h hk fun av v w' hK hs hv=>hnext ι av [] v w' hK hs hv fun b hb=> .inl hb
 case makeFunc fn first captured=>
  cases ef:fn<;>rw[ef]at hk<;>simp only at hk<;>try exact hk.elim
  rename_i f
  obtain⟨hc,hK⟩:=chk_iff.1 hk
  simp only[Bool.and_eq_true]at hc
  have hf0:first= #[]:=Array.ext' (by simpa using hc.1)
  refine wp_value (v:= .func (.func f) #[] (captured.map a.eval)) (w':=w) (by simp [execOp,ho,ef,hf0,Instr.makeFunc]) (quiet _ _ hK ?_)
  refine⟨captured.toList.map a.eval,by apply congrArg (Value.func (.func f) #[]);apply Array.ext';simp,?_⟩
  refine All2.mk (by simp) fun i p q hp hq=> ?_
  simp only[List.getElem?_map,Option.map_eq_some_iff]at hp hq
  obtain⟨x1,e1,rfl⟩:=hp
  obtain⟨x2,e2,rfl⟩:=hq
  rw[e1]at e2;cases e2
  have h7:=List.all_eq_true.1 hc.2 (evalA st.tm x1) (List.mem_map.2 ⟨x1,List.mem_of_getElem? e1,rfl⟩)
  have h8:=h.eval x1
  generalize evalA st.tm x1=c at h7 h8
  cases c<;>first|(cases h7;done)|exact h8
 case call c=>
  cases ec:c.callee with
  |value f=>
   rw[ec]at hk
   simp only at hk
   have hn:=hn (by simp [isAlloc,ec])
   obtain⟨h1,h2⟩:=hn.2 nb hn.1
   unfold callV at hk
   cases ef:evalA st.tm f<;>rw[ef]at hk<;>simp only at hk<;>try exact hk.elim
   rename_i g caps
   cases ep:isH E.ho g (c.args.toList.map (evalA st.tm)++caps)with
   |true=>
    rw[ep]at hk
    exact hcall_sound hE ho ec ef h hn.1 hn.2 hKn hk hnext
   |false=>
    rw[ep]at hk
    obtain⟨hcaps,hk⟩:=chk_iff.1 hk
    exact call_sound hE ho ec ef hcaps h h1 h2 hk hnext
  |invoke r m=>rw[ec]at hk;exact hk.elim
  |builtin b=>
   rw[ec]at hk
   cases b<;>simp only at hk<;>try exact hk.elim
   case append=>
    have hn:=hn (by simp [isAlloc,ec])
    obtain⟨h1,h2⟩:=hn.2 nb hn.1
    split at hk
    ·rename_i x y T T2 ex eT
     obtain⟨t,hT,_,hk⟩:=withTy_ok hE hk
     obtain⟨t2,hT2,_,hk⟩:=withTy_ok hE hk
     obtain⟨hd,hk⟩:=chk_iff.1 hk
     refine append_sound (str:=t2.d.isStr) ho ec (Array.ext' (by simpa using ex)) (Array.ext' (by simpa using eT)) hT ?_ h h1 h2 hk hnext
     have hd2:=hT2.d
     cases e:t2.d<;>rw[e]at hd hd2<;>simp only[TyD.isStr,TyD.isSl]at hd ⊢ <;>first|(cases hd;done)|exact hd2|exact⟨_,hd2.1⟩
    ·exact hk.elim
   case min=>
    split at hk
    ·rename_i x y ex
     exact min_sound ho ec (Array.ext' (by simpa using ex)) h hk quiet
    ·exact hk.elim
   case max=>
    split at hk
    ·rename_i x y ex
     exact max_sound ho ec (Array.ext' (by simpa using ex)) h hk quiet
    ·exact hk.elim
   case len=>
    split at hk
    ·rename_i x T ex eT
     obtain⟨t,hT,_,hk⟩:=withTy_ok hE hk
     obtain⟨hd,hk⟩:=chk_iff.1 hk
     refine len_sound ho ec (Array.ext' (by simpa using ex)) (Array.ext' (by simpa using eT)) hT h ?_ hk ?_ quiet
     ·unfold lenTyOk at hd;cases e:t.d<;>rw[e]at hd<;>first|rfl|(cases hd;done)
     ·unfold lenTyOk at hd;cases e:t.d<;>cases e2:evalA st.tm x<;>rw[e,e2]at hd<;>first|rfl|(cases hd;done)
    ·exact hk.elim
end
end Go.Vc
namespace Go.Vc
open Go Go.RowKit
def dstA(dst:Option Nat)(av:AV)(tm:List AV):List AV:=
 match dst with
 |some d=>tm.set d av
 |none=>tm
def guardA(ops:Array Oper)(o:Oper)(st:St)(run skip:Prop):Prop:=
 match o.guard with
 |none=>run
 |some (j,want)=>match(ops[j]?).bind (·.dst)with
  |some d=>match st.tm.getD d .undef with
   | .lit b=>match b==want with
     |true=>run
     |false=>skip
   | .gone=>skip
   |_=>False
  |none=>False
def usedB:List Oper→Nat→Bool
 |[],_=>false
 |o::r,i=>(match o.guard with
  |some (j,_)=>j==i
  |none=>false)||usedB r i
def aops(E:Env)(ops:Array Oper):List Oper→Nat→St→(St→Prop)→Prop
 |[],_,st,K=>K st
 |o::rest,i,st,K=>guardA ops o st (aop E (nbOf st.tm st.hp o.op) st.tm st.hp o.op fun av ws=>litA (usedB rest i) av fun av=>aops E ops rest (i+1) ⟨dstA o.dst av st.tm,hwr st.hp ws⟩ K)
   (aops E ops rest (i+1) ⟨dstA o.dst .gone st.tm,st.hp⟩ K)
section
variable {E:Env} {S:Base} {ι:Nat→Option Nat} {st:St} {a:Act} {w:World}
theorem Sim.dst(h:Sim S ι st a w)(d:Option Nat){av:AV}{v:Value}(hv:VR S ι st.hp w av v):Sim S ι ⟨dstA d av st.tm,st.hp⟩ (a.put d v) w:=by
 cases d with
 |none=>exact h
 |some d=>exact h.put d hv
def LitOf(av r:AV):Prop:=av=r∨ ∃b,av= .bool b∧r= .lit b
theorem LitOf.rel{H:Heap}{av r:AV}{v:Value}(h:LitOf av r)(hv:VR S ι H w av v):VR S ι H w r v:=by
 rcases h with rfl|⟨b,rfl,rfl⟩
 ·exact hv
 ·have:FRel w (FZ S ι H w) (.bool b) v:=hv
  cases this
  exact FRel.lit b
theorem litA_ok{used:Bool}{av:AV}{K:AV→Prop}(h:litA used av K): ∃r,LitOf av r∧K r:=by
 unfold litA at h
 cases used with
 |false=>exact⟨av,.inl rfl,h⟩
 |true=>
  cases av
  case bool b=>
   cases b
   ·exact⟨_,.inr ⟨false,rfl,rfl⟩,h.2 rfl⟩
   ·exact⟨_,.inr ⟨true,rfl,rfl⟩,h.1 rfl⟩
  all_goals exact⟨_,.inl rfl,h⟩
def wantedA(ops:Array Oper)(o:Oper)(tm:List AV):Option Bool:=
 match o.guard with
 |none=>some true
 |some (j,want)=>match(ops[j]?).bind (·.dst)with
  |some d=>match tm.getD d .undef with
   | .lit b=>some (b==want)
   | .gone=>some false
   |_=>none
  |none=>none
theorem guardA_wanted{ops:Array Oper}{o:Oper}{st:St}{run skip:Prop}(hk:guardA ops o st run skip):
  (wantedA ops o st.tm=some true∧run)∨(wantedA ops o st.tm=some false∧skip):=by
 unfold guardA at hk
 unfold wantedA
 cases hg:o.guard with
 |none=>rw[hg]at hk;exact .inl ⟨rfl,hk⟩
 |some q=>
  obtain⟨j,want⟩:=q
  rw[hg]at hk
  simp only at hk ⊢
  cases hd:(ops[j]?).bind (·.dst)with
  |none=>rw[hd]at hk;exact hk.elim
  |some d=>
   rw[hd]at hk
   simp only at hk ⊢
   cases hb:st.tm.getD d .undef<;>rw[hb]at hk<;>simp only at hk<;>try exact hk.elim
   ·rename_i b
    cases e:(b==want)with
    |true=>rw[e]at hk;exact .inl ⟨by simp [e],hk⟩
    |false=>rw[e]at hk;exact .inr ⟨by simp [e],hk⟩
   ·exact .inr ⟨rfl,hk⟩
theorem wanted_of{ops:Array Oper}{o:Oper}(h:Sim S ι st a w){b:Bool}(hw:wantedA ops o st.tm=some b):Region.wanted o (yielded ops a.tmps)=b:=by
 unfold wantedA at hw
 unfold Region.wanted
 cases hg:o.guard with
 |none=>rw[hg]at hw;cases hw;rfl
 |some q=>
  obtain⟨j,want⟩:=q
  rw[hg]at hw
  simp only at hw ⊢
  cases hd:(ops[j]?).bind (·.dst)with
  |none=>rw[hd]at hw;cases hw
  |some d=>
   rw[hd]at hw
   simp only at hw
   have get: ∀x,st.tm.getD d .undef=x→x≠ .undef→st.tm[d]? =some x:=fun x hx hn=>by
    cases e:st.tm[d]? with
    |none=>simp [List.getD,e]at hx;exact absurd hx.symm hn
    |some av=>simp [List.getD,e]at hx;rw[hx]
   cases hb:st.tm.getD d .undef<;>rw[hb]at hw<;>simp only at hw<;>try (cases hw;done)
   ·rename_i c
    obtain⟨v,h1,h2⟩:=h.tm d _ (get _ hb (by simp))
    have:=VR.lit h2
    subst this
    have hy:yielded ops a.tmps j=some c:=by simp [yielded,hd,h1]
    rw[hy]
    simp only[Option.some.injEq]at hw
    rw[←hw]
    cases c<;>cases want<;>rfl
   ·obtain⟨v,h1,h2⟩:=h.tm d _ (get _ hb (by simp))
    have h3:v=undef:=h2
    subst h3
    have hy:yielded ops a.tmps j=none:=by simp [yielded,hd,h1,undef]
    rw[hy]
    cases hw;rfl
theorem aops_sound(hE:E.Ok){ops:Array Oper}{Q:Exit→Act→World→Prop} : ∀(l:List Oper) (i:Nat) (ι:Nat→Option Nat) (st:St) (a:Act) (w:World) (K:St→Prop),Sim S ι st a w→aops E ops l i st K→
  (∀ι st a w,Sim S ι st a w→K st→Q .normal a w)→wpList E.P ops Q l a w
 |[],_,ι,st,a,w,K,h,hk,hq=>hq ι st a w h hk
 |o::l,i,ι,st,a,w,K,h,hk,hq=>by
  unfold wpList
  rcases guardA_wanted hk with⟨hw,hr⟩|⟨hw,hr⟩
  ·rw[if_pos (wanted_of h hw)]
   refine .inl (aop_sound hE h (Nw:=fun b=>nbOf st.tm st.hp o.op≤b) (fun _=>⟨Nat.le_refl _,fun b hb=>⟨fun p=>hget_ge (Nat.le_trans (nbOf_ge _ _ _) hb) p,h.none_ge (Nat.le_trans (nbOf_ge _ _ _) hb)⟩⟩) (fun _ _ _ b _ _ _ hb=>Nat.le_of_lt hb) hr fun ι' av ws v w' hK hs hv _=> ?_)
   obtain⟨r,hl,hK⟩:=litA_ok hK
   exact aops_sound hE l (i+1) ι' _ _ w' K (Sim.dst hs o.dst (hl.rel hv)) hK hq
  ·rw[if_neg (by rw[wanted_of h hw];simp)]
   exact aops_sound hE l (i+1) ι _ _ w K (Sim.dst h o.dst (av:= .gone) rfl) hr hq
end
end Go.Vc
namespace Go.Vc
open Go Go.RowKit
structure Rec where
 val:AV
 ws:Ws
 rd:List (Nat×Nat)
 rb:List Nat
 nb:Nat
 run:Bool
def appR(o:Oper)(r:Rec)(st:St):St:=⟨dstA o.dst r.val st.tm,hwr st.hp r.ws⟩
def locs(b o n:Nat):List (Nat×Nat):=(List.range n).map fun j=>(b,o+j)
def owns1:AV→List (Nat×Nat)
 | .own b _=>[(b,0)]
 |_=>[]
def ownsA:AV→List (Nat×Nat)
 | .agg cs=>cs.flatMap owns1
 |av=>owns1 av
def rdA(E:Env)(tm:List AV)(op:Op):List (Nat×Nat):=
 match op with
 | .load T x=>match evalA tm x with
   | .ptr b o=>match E.ty T with
     |some t=>locs b o t.size
     |none=>[]
   | .eptr b _ _ _=>[(b,0)]
   |_=>[]
 | .store T x _=>match evalA tm x with
   | .ptr b o=>match E.ty T with
     |some t=>(b,0)::locs b o t.size
     |none=>[]
   | .eptr b _ _ _=>[(b,0)]
   |_=>[]
 | .fieldAddr _ x _| .nilCheck x=>match evalA tm x with
   | .eptr b _ _ _=>[(b,0)]
   |_=>[]
 | .indexAddr _ x _=>match evalA tm x with
   | .own b _=>[(b,0)]
   |_=>[]
 | .call c=>c.args.toList.flatMap fun x=>ownsA (evalA tm x)
 | .slice _ x _ _ _| .convert _ _ x=>ownsA (evalA tm x)
 | .buildSlice _ _ ps=>ps.toList.flatMap fun p=>ownsA (normA (evalA tm p.2))
 |_=>[]
def rdB(tm:List AV)(H:Heap)(op:Op):List Nat:=
 match op with
 | .call c=>match c.callee with
   | .value f=>match evalA tm f with
     | .fn _ caps=>blksOf H (c.args.toList.map (evalA tm)++caps)
     |_=>[]
   |_=>[]
 |_=>[]
section
variable {E:Env}
theorem mem_dedup{b:Nat} : ∀{l:List Nat},b∈l→b∈dedup l
 |[],h=>by cases h
 |x::l,h=>by
  simp only[dedup]
  rcases List.mem_cons.1 h with rfl|h
  ·split
   ·rename_i e
    obtain⟨y,hy,h2⟩:=List.any_eq_true.1 e
    have:=Nat.eq_of_beq_eq_true h2
    subst this
    exact mem_dedup hy
   ·simp
  ·split
   ·exact mem_dedup h
   ·simp [mem_dedup h]
theorem blksOf_congr{H H':Heap}{as:List AV}(h: ∀b∈blksOf H as,H'.getD b []=H.getD b []):blksOf H' as=blksOf H as:=by
 have key: ∀(g:AV→List Nat) (l:List Nat),(∀b∈l,H'.getD b []=H.getD b [])→(l.flatMap fun b=>(H'.getD b []).flatMap g)=l.flatMap fun b=>(H.getD b []).flatMap g:=by
  intro g l
  induction l with
  |nil=>intro _;rfl
  |cons x l ih=>
   intro hl
   rw[List.flatMap_cons,List.flatMap_cons,hl x (by simp),ih fun b hb=>hl b (by simp [hb])]
 have h1:boxes2 H' as=boxes2 H as:=by
  unfold boxes2
  rw[key ptrs0 _ fun b hb=>h b (List.mem_append.2 (.inl (mem_dedup (List.mem_append.2 (.inl hb)))))]
 unfold blksOf
 rw[h1,key owns0 _ fun b hb=>h b (List.mem_append.2 (.inl hb))]
theorem sameLen_congr{H H':Heap} : ∀{L:List Nat} {ys:Heap},(∀b∈L,H'.getD b []=H.getD b [])→sameLen L H' ys=sameLen L H ys
 |[],_,_=>rfl
 |b::L,ys,h=>by
  unfold sameLen
  rw[h b (by simp)]
  cases ys with
  |nil=>rfl
  |cons y ys=>simp only;rw[sameLen_congr fun b hb=>h b (by simp [hb])]
theorem hcallA_congr{nb:Nat}{H H':Heap}{f:FuncId}{as:List AV}{K:AV→Ws→Prop}(h: ∀b∈blksOf H as,H'.getD b []=H.getD b [])(hk:hcallA E H nb f as K):hcallA E H' nb f as K:=by
 have e1:=blksOf_congr h
 unfold hcallA at hk ⊢
 rw[e1]
 have e2:((blksOf H as).all fun b=>liveB (H'.getD b [])&&(H'.getD b []).all (dom1 (mem (blksOf H as))))=(blksOf H as).all fun b=>liveB (H.getD b [])&&(H.getD b []).all (dom1 (mem (blksOf H as))):=by
  rw[Bool.eq_iff_iff,List.all_eq_true,List.all_eq_true]
  exact⟨fun g b hb=>by rw[←h b hb];exact g b hb,fun g b hb=>by rw[h b hb];exact g b hb⟩
 have e3:((blksOf H as).map fun b=>(H'.getD b []).map (ren1 (pos (blksOf H as))))=(blksOf H as).map fun b=>(H.getD b []).map (ren1 (pos (blksOf H as))):=List.map_congr_left fun b hb=>by rw[h b hb]
 rw[e2,e3]
 cases hs:E.hspec f (as.map (renA (pos (blksOf H as)))) ((blksOf H as).map fun b=>(H.getD b []).map (ren1 (pos (blksOf H as))))with
 |none=>rw[hs]at hk;exact hk
 |some q=>
  obtain⟨pre,rs,ys⟩:=q
  rw[hs]at hk
  simp only at hk ⊢
  rw[sameLen_congr h];exact hk
theorem hcallA_split{nb:Nat}{H:Heap}{f:FuncId}{as:List AV}{K:AV→Ws→Prop}(hk:hcallA E H nb f as K): ∃av ws,hcallA E H nb f as (fun x y=>x=av∧y=ws)∧K av ws:=by
 unfold hcallA at hk
 obtain⟨h1,hk⟩:=chk_iff.1 hk
 cases hs:E.hspec f (as.map (renA (pos (blksOf H as)))) ((blksOf H as).map fun b=>(H.getD b []).map (ren1 (pos (blksOf H as))))with
 |none=>rw[hs]at hk;exact hk.elim
 |some q=>
  obtain⟨pre,rs,ys⟩:=q
  rw[hs]at hk
  obtain⟨h2,hk⟩:=preP_iff.1 hk
  obtain⟨h3,hk⟩:=chk_iff.1 hk
  refine⟨_,_,?_,hk⟩
  unfold hcallA
  refine chk_iff.2 ⟨h1,?_⟩
  rw[hs]
  exact preP_iff.2 ⟨h2,chk_iff.2 ⟨h3,rfl,rfl⟩⟩
theorem cellsAt_congr{H H':Heap}{b o n:Nat}(h: ∀l∈locs b o n,hget H' l.1 l.2=hget H l.1 l.2):cellsAt H' b o n=cellsAt H b o n:=by
 unfold cellsAt
 apply List.map_congr_left
 intro j hj
 exact h (b,o+j) (by simp [locs];simpa using hj)
theorem buildA_congr{offs:List (Nat×Nat)}{tm tm':List AV}{K:List AV→Prop} : ∀(ps:List (Nat×Operand)) (cs:List AV),(∀x∈ps,evalA tm' x.2=evalA tm x.2)→buildA offs tm ps cs K→buildA offs tm' ps cs K
 |[],cs,_,h=>h
 |(i,x)::ps,cs,hx,h=>by
  simp only[buildA]at h ⊢
  cases e:offs[i]? with
  |none=>rw[e]at h;exact h.elim
  |some q=>
   rw[e]at h
   simp only at h ⊢
   have h1:=hx (i,x) (by simp)
   simp only at h1
   rw[h1]
   rw[chk_iff]at h ⊢
   exact⟨h.1,buildA_congr ps _ (fun y hy=>hx y (by simp [hy])) h.2⟩
theorem frz1_congr{H H':Heap}{x:AV}{K:AV→Prop}(hH: ∀l∈owns1 x,hget H' l.1 l.2=hget H l.1 l.2)(h:frz1 H x K):frz1 H' x K:=by
 cases x<;>simp only[frz1]at h ⊢ <;>try exact h
 rename_i b k
 rw[show hget H' b 0=hget H b 0 from hH (b,0) (by simp [owns1])];exact h
theorem frzL_congr{H H':Heap} : ∀{cs:List AV} {K:List AV→Prop},(∀l∈cs.flatMap owns1,hget H' l.1 l.2=hget H l.1 l.2)→frzL H cs K→frzL H' cs K
 |[],_,_,h=>h
 |c::cs,K,hH,h=>by
  simp only[frzL]at h ⊢
  refine frz1_congr (fun l hl=>hH l (by simp [hl])) ?_
  have key: ∀{K1 K2:AV→Prop},(∀y,K1 y→K2 y)→frz1 H c K1→frz1 H c K2:=fun {K1 K2} hk h=>by
   cases c<;>simp only[frz1]at h ⊢ <;>try first|exact hk _ h|exact(chk_iff.2 ⟨(chk_iff.1 h).1,hk _ (chk_iff.1 h).2⟩)
   split at h
   ·exact⟨h.1,hk _ h.2⟩
   ·exact h
  exact key (fun y=>frzL_congr fun l hl=>hH l (by simp only[List.flatMap_cons,List.mem_append];exact .inr hl)) h
theorem frzA_congr{H H':Heap}{x:AV}{K:AV→Prop}(hH: ∀l∈ownsA x,hget H' l.1 l.2=hget H l.1 l.2)(h:frzA H x K):frzA H' x K:=by
 cases x
 case agg cs=>exact frzL_congr (K:=fun ys=>K (.agg ys)) hH h
 all_goals
  simp only[ownsA]at hH
  simp only[frzA]at h ⊢
  exact frz1_congr hH h
theorem frz1_mono{H:Heap}{c:AV}{K1 K2:AV→Prop}(hk: ∀y,K1 y→K2 y)(h:frz1 H c K1):frz1 H c K2:=by
 cases c<;>simp only[frz1]at h ⊢ <;>try first|exact hk _ h|exact(chk_iff.2 ⟨(chk_iff.1 h).1,hk _ (chk_iff.1 h).2⟩)
 split at h
 ·exact⟨h.1,hk _ h.2⟩
 ·exact h
theorem frzL_mono{H:Heap} : ∀{cs:List AV} {K1 K2:List AV→Prop},(∀y,K1 y→K2 y)→frzL H cs K1→frzL H cs K2
 |[],_,_,hk,h=>hk _ h
 |c::cs,K1,K2,hk,h=>by
  simp only[frzL]at h ⊢
  exact frz1_mono (fun y=>frzL_mono fun ys=>hk _) h
theorem frzA_mono{H:Heap}{c:AV}{K1 K2:AV→Prop}(hk: ∀y,K1 y→K2 y)(h:frzA H c K1):frzA H c K2:=by
 cases c
 case agg cs=>exact frzL_mono (K1:=fun ys=>K1 (.agg ys)) (K2:=fun ys=>K2 (.agg ys)) (fun ys=>hk _) h
 all_goals
  simp only[frzA]at h ⊢
  exact frz1_mono hk h
theorem frzAs_mono{H:Heap} : ∀{cs:List AV} {K1 K2:List AV→Prop},(∀y,K1 y→K2 y)→frzAs H cs K1→frzAs H cs K2
 |[],_,_,hk,h=>hk _ h
 |c::cs,K1,K2,hk,h=>by
  simp only[frzAs]at h ⊢
  exact frzA_mono (fun y=>frzAs_mono fun ys=>hk _) h
theorem frzAs_congr{H H':Heap} : ∀{cs:List AV} {K:List AV→Prop},(∀l∈cs.flatMap ownsA,hget H' l.1 l.2=hget H l.1 l.2)→frzAs H cs K→frzAs H' cs K
 |[],_,_,h=>h
 |c::cs,K,hH,h=>by
  simp only[frzAs]at h ⊢
  refine frzA_congr (fun l hl=>hH l (by simp only[List.flatMap_cons,List.mem_append];exact .inl hl)) ?_
  exact frzA_mono (fun y=>frzAs_congr fun l hl=>hH l (by simp only[List.flatMap_cons,List.mem_append];exact .inr hl)) h
theorem frzLs_mono{H:Heap} : ∀{ls:List (List AV)} {K1 K2:List (List AV)→Prop},(∀y,K1 y→K2 y)→frzLs H ls K1→frzLs H ls K2
 |[],_,_,hk,h=>hk _ h
 |l::ls,K1,K2,hk,h=>by
  simp only[frzLs]at h ⊢
  exact frzL_mono (fun y=>frzLs_mono fun ys=>hk _) h
theorem frzLs_congr{H H':Heap} : ∀{ls:List (List AV)} {K:List (List AV)→Prop},(∀l∈ls.flatten.flatMap owns1,hget H' l.1 l.2=hget H l.1 l.2)→frzLs H ls K→frzLs H' ls K
 |[],_,_,h=>h
 |l::ls,K,hH,h=>by
  simp only[frzLs]at h ⊢
  refine frzL_congr (fun q hq=>hH q (by simp only[List.flatten_cons,List.flatMap_append,List.mem_append];exact .inl hq)) ?_
  exact frzL_mono (fun y=>frzLs_congr fun q hq=>hH q (by simp only[List.flatten_cons,List.flatMap_append,List.mem_append];exact .inr hq)) h
theorem cells_owns{y:AV}{q:Nat×Nat}(h:q∈(cellsOf y).flatMap owns1):q∈ownsA y:=by
 cases y<;>simp only[cellsOf,ownsA,owns1,List.flatMap_cons,List.flatMap_nil,List.append_nil,List.mem_append,List.not_mem_nil,or_false]at h ⊢ <;>first|exact h|(cases h;done)
theorem partsA_owns{esz:Nat}{tm:List AV} : ∀{ps:List (Nat×Operand)} {k:Nat} {l:List (List AV)},partsA esz tm ps k=some l→
  (∀q∈l.flatten.flatMap owns1,q∈ps.flatMap fun p=>ownsA (normA (evalA tm p.2)))∧ ∀c∈l.flatten,frzOk2 c=true
 |[],k,l,h=>by
  simp only[partsA,Option.some.injEq]at h
  subst h
  exact⟨fun q hq=>by simp at hq,fun c hc=>by simp at hc⟩
 |(i,x)::r,k,l,h=>by
  simp only[partsA]at h
  split at h
  ·rename_i hc
   simp only[Bool.and_eq_true]at hc
   split at h
   ·rename_i l' hl'
    simp only[Option.some.injEq]at h
    subst h
    obtain⟨g1,g2⟩:=partsA_owns hl'
    refine⟨fun q hq=> ?_,fun c hcm=> ?_⟩
    ·simp only[List.flatten_cons,List.flatMap_append,List.mem_append]at hq
     simp only[List.flatMap_cons,List.mem_append]
     exact hq.imp cells_owns (g1 q)
    ·simp only[List.flatten_cons,List.mem_append]at hcm
     rcases hcm with hcm|hcm
     ·exact List.all_eq_true.1 hc.2.2 c hcm
     ·exact g2 c hcm
   ·cases h
  ·cases h
def indexX(H:Heap)(esz:Nat)(x:AV)(z:Int)(K:AV→Prop):Prop:=
 match x with
 | .arr sz n f=>chk (decide (sz=esz)) ((0≤z∧z<n)∧K (.ref ((f z.toNat).take sz)))
 | .own b k=>match hget H b 0 with
   | .blk _ sz n _=>chk (decide (sz=esz)) (k=n∧(0≤z∧z<n)∧K (.eptr b k z.toNat 0))
   |_=>False
 |_=>False
theorem indexX_congr{H H':Heap}{esz:Nat}{x:AV}{z:Int}{K:AV→Prop}(hH: ∀b k,x= .own b k→hget H' b 0=hget H b 0)(h:indexX H esz x z K):indexX H' esz x z K:=by
 cases x
 case own b k=>
  unfold indexX at h ⊢
  simp only at h ⊢
  rw[hH b k rfl];exact h
 all_goals exact h
theorem partsA_congr{esz:Nat}{tm tm':List AV} : ∀{ps:List (Nat×Operand)} {k:Nat},(∀x∈ps,evalA tm' x.2=evalA tm x.2)→partsA esz tm' ps k=partsA esz tm ps k
 |[],_,_=>rfl
 |(i,x)::r,k,h=>by
  have h1:=h (i,x) (by simp)
  simp only at h1
  simp only[partsA,h1,partsA_congr (ps:=r) (k:=k+1) fun y hy=>h y (by simp [hy])]
theorem boundA_congr{tm tm':List AV}{d:Int}{o:Option Operand}{K:Int→Prop}(h: ∀y,o=some y→evalA tm' y=evalA tm y)(hk:boundA tm d o K):boundA tm' d o K:=by
 cases o with
 |none=>exact hk
 |some x=>simp only[boundA]at hk ⊢;rw[h x rfl];exact hk
theorem boundA_mono{tm:List AV}{d:Int}{o:Option Operand}{K1 K2:Int→Prop}(hK: ∀z,K1 z→K2 z)(hb:boundA tm d o K1):boundA tm d o K2:=by
 cases o with
 |none=>exact hK _ hb
 |some x=>
  simp only[boundA]at hb ⊢
  cases e:evalA tm x<;>rw[e]at hb<;>simp only at hb ⊢ <;>first|exact hb.elim|exact hK _ hb
theorem sliceA_congr{t:Ty}{H H':Heap}{tm tm':List AV}{x:AV}{l hh m:Option Operand}{K:AV→Ws→Prop}(hx: ∀y,(l=some y∨hh=some y∨m=some y)→evalA tm' y=evalA tm y)(hH: ∀p∈ownsA x,hget H' p.1 p.2=hget H p.1 p.2)(hk:sliceA t H tm x l hh m K):sliceA t H' tm' x l hh m K:=by
 unfold sliceA at hk ⊢
 rw[chk_iff]at hk ⊢
 obtain⟨hc,hk⟩:=hk
 refine⟨hc,?_⟩
 have b3: ∀{d0 d1:Int} {K:Int→Int→Int→Prop},(boundA tm d0 l fun lo=>boundA tm d1 hh fun hi=>boundA tm hi m fun mx=>K lo hi mx)→(boundA tm' d0 l fun lo=>boundA tm' d1 hh fun hi=>boundA tm' hi m fun mx=>K lo hi mx):=fun hb=>
  boundA_congr (fun y hy=>hx y (.inl hy)) (boundA_mono (fun lo hb=>boundA_congr (fun y hy=>hx y (.inr (.inl hy))) (boundA_mono (fun hi hb=>boundA_congr (fun y hy=>hx y (.inr (.inr hy))) hb) hb)) hb)
 have b2: ∀{d0 d1:Int} {K:Int→Int→Prop},(boundA tm d0 l fun lo=>boundA tm d1 hh fun hi=>K lo hi)→(boundA tm' d0 l fun lo=>boundA tm' d1 hh fun hi=>K lo hi):=fun hb=>
  boundA_congr (fun y hy=>hx y (.inl hy)) (boundA_mono (fun lo hb=>boundA_congr (fun y hy=>hx y (.inr (.inl hy))) hb) hb)
 cases ed:t.d<;>rw[ed]at hk<;>simp only at hk ⊢ <;>try exact hk.elim
 ·cases x<;>simp only at hk ⊢ <;>try exact hk.elim
  cases m with
  |none=>exact b2 hk
  |some _=>exact hk.elim
 ·cases x<;>simp only at hk ⊢ <;>try exact hk.elim
  ·exact b3 hk
  ·rw[chk_iff]at hk ⊢
   exact⟨hk.1,b3 hk.2⟩
  ·rename_i b k
   rw[show hget H' b 0=hget H b 0 from hH (b,0) (by simp [ownsA,owns1])]
   cases e:hget H b 0<;>rw[e]at hk<;>simp only at hk ⊢
   rw[chk_iff]at hk ⊢
   exact⟨hk.1,hk.2.1,b3 hk.2.2⟩
theorem ro1_congr{H H':Heap}{x:AV}(hH: ∀l∈owns1 x,hget H' l.1 l.2=hget H l.1 l.2):ro1 H' x=ro1 H x:=by
 cases x<;>first|rfl|skip
 rename_i b k
 simp only[ro1]
 rw[show hget H' b 0=hget H b 0 from hH (b,0) (by simp [owns1])]
theorem flatMap_congr'{α β:Type}{f g:α→List β} : ∀{l:List α},(∀x∈l,f x=g x)→l.flatMap f=l.flatMap g
 |[],_=>rfl
 |x::l,h=>by
  rw[List.flatMap_cons,List.flatMap_cons,h x (by simp),flatMap_congr' fun y hy=>h y (by simp [hy])]
theorem roWs_congr{H H':Heap}{r:AV}{as:List AV}(hH: ∀l∈as.flatMap ownsA,hget H' l.1 l.2=hget H l.1 l.2):roWs H' r as=roWs H r as:=by
 unfold roWs
 split
 ·rfl
 ·unfold roAs
  apply flatMap_congr'
  intro x hx
  have hl: ∀l∈ownsA x,hget H' l.1 l.2=hget H l.1 l.2:=fun l hl=>hH l (List.mem_flatMap.2 ⟨x,hx,hl⟩)
  cases x
  case agg cs=>
   simp only[roA]
   apply flatMap_congr'
   intro c hc
   exact ro1_congr fun l h=>hl l (List.mem_flatMap.2 ⟨c,hc,h⟩)
  all_goals
   simp only[ownsA]at hl
   simp only[roA]
   exact ro1_congr hl
theorem srcA_congr{H H':Heap}{str:Bool}{esz:Nat}{y:AV}{K K':Nat→(Nat→List AV)→Prop}(hH: ∀b k,y= .own b k→hget H' b 0=hget H b 0)(hK: ∀m g,K m g→K' m g)(hk:srcA H str esz y K):srcA H' str esz y K':=by
 cases y<;>simp only[srcA]at hk ⊢ <;>try exact hk.elim
 ·exact chk_iff.2 ((chk_iff.1 hk).imp id (hK _ _))
 ·exact chk_iff.2 ((chk_iff.1 hk).imp id (hK _ _))
 ·exact chk_iff.2 ((chk_iff.1 hk).imp id (hK _ _))
 ·rename_i b k
  rw[hH b k rfl]
  cases e:hget H b 0<;>rw[e]at hk<;>simp only at hk ⊢
  rw[chk_iff]at hk ⊢
  exact⟨hk.1,hk.2.1,hK _ _ hk.2.2⟩
theorem appendA_congr{t:Ty}{str:Bool}{H H':Heap}{nb:Nat}{x y:AV}{K:AV→Ws→Prop}(hx: ∀b k,x= .own b k→hget H' b 0=hget H b 0)(hy: ∀b k,y= .own b k→hget H' b 0=hget H b 0)(hk:appendA t str H nb x y K):appendA t str H' nb x y K:=by
 unfold appendA at hk ⊢
 cases ed:t.d<;>rw[ed]at hk<;>simp only at hk ⊢ <;>try exact hk.elim
 rw[chk_iff]at hk ⊢
 refine⟨hk.1,srcA_congr hy (fun m g h=> ?_) hk.2⟩
 cases x<;>simp only at h ⊢ <;>try exact h
 rename_i b k
 rw[hx b k rfl];exact h
theorem aop_local{nb:Nat}{tm tm':List AV}{H H':Heap}{op:Op}{K:AV→Ws→Prop}(hx: ∀x∈op.operands,evalA tm' x=evalA tm x)(hH: ∀l∈rdA E tm op,hget H' l.1 l.2=hget H l.1 l.2)(hB: ∀b∈rdB tm H op,H'.getD b []=H.getD b [])(hk:aop E nb tm H op K):aop E nb tm' H' op K:=by
 cases op<;>simp only[aop]at hk ⊢ <;>try exact hk.elim
 case move x=>rw[hx x (by simp [Op.operands])];exact hk
 case assign x=>rw[hx x (by simp [Op.operands])];exact hk
 case pick c x y=>rw[hx c (by simp [Op.operands]),hx x (by simp [Op.operands]),hx y (by simp [Op.operands])];exact hk
 case alloc T=>exact hk
 case box T x=>rw[hx x (by simp [Op.operands])];exact hk
 case build T ps=>
  unfold withTy at hk ⊢
  cases e:E.ty T with
  |none=>rw[e]at hk;exact hk.elim
  |some t=>
   rw[e]at hk
   simp only at hk ⊢
   cases ed:t.d<;>rw[ed]at hk<;>simp only at hk ⊢ <;>try exact hk.elim
   exact buildA_congr _ _ (fun x hx'=>hx x.2 (by simp [Op.operands];exact⟨x.1,by simpa using hx'⟩)) hk
 case load T x=>
  have e1:=hx x (by simp [Op.operands])
  unfold withTy at hk ⊢
  cases e:E.ty T with
  |none=>rw[e]at hk;exact hk.elim
  |some t=>
   rw[e]at hk
   simp only[rdA,e]at hk hH ⊢
   rw[e1]
   cases ex:evalA tm x<;>rw[ex]at hk hH<;>simp only[loadA]at hk ⊢ <;>try exact hk
   ·rw[cellsAt_congr hH];exact hk
   ·rename_i b k i o
    rw[show hget H' b 0=hget H b 0 from hH (b,0) (by simp)];exact hk
 case store T x y=>
  have e1:=hx x (by simp [Op.operands])
  have e2:=hx y (by simp [Op.operands])
  unfold withTy at hk ⊢
  cases e:E.ty T with
  |none=>rw[e]at hk;exact hk.elim
  |some t=>
   rw[e]at hk
   simp only[rdA,e]at hk hH ⊢
   rw[e1,e2]
   cases ex:evalA tm x<;>rw[ex]at hk hH<;>simp only[storeA]at hk ⊢ <;>try exact hk
   ·rename_i b o
    rw[cellsAt_congr (fun l hl=>hH l (by simp [hl])),show hget H' b 0=hget H b 0 from hH (b,0) (by simp)];exact hk
   ·rename_i b k i o
    rw[show hget H' b 0=hget H b 0 from hH (b,0) (by simp)];exact hk
 case makeSlice T l c=>
  have e1:=hx l (by simp [Op.operands])
  have e2:=hx c (by simp [Op.operands])
  unfold withTy at hk ⊢
  cases e:E.ty T with
  |none=>rw[e]at hk;exact hk.elim
  |some t=>
   rw[e]at hk
   simp only at hk ⊢
   unfold makeSliceA at hk ⊢
   rw[e1,e2];exact hk
 case nilCheck x=>
  have e1:=hx x (by simp [Op.operands])
  simp only[rdA]at hH
  rw[e1]
  cases ex:evalA tm x<;>rw[ex]at hk hH<;>simp only[nilCheckA]at hk ⊢ <;>try exact hk
  rename_i b k i o
  rw[show hget H' b 0=hget H b 0 from hH (b,0) (by simp)];exact hk
 case binOp op T x y T'=>rw[hx x (by simp [Op.operands]),hx y (by simp [Op.operands])];exact hk
 case unOp op T x=>rw[hx x (by simp [Op.operands])];exact hk
 case fieldAddr T x f=>
  have e1:=hx x (by simp [Op.operands])
  unfold withTy at hk ⊢
  cases e:E.ty T with
  |none=>rw[e]at hk;exact hk.elim
  |some t=>
   rw[e]at hk
   simp only[rdA]at hk hH ⊢
   rw[e1]
   simp only[fieldA]at hk ⊢
   cases ed:t.d<;>rw[ed]at hk<;>simp only at hk ⊢ <;>try exact hk.elim
   rename_i offs
   cases eo:offs[f]? with
   |none=>rw[eo]at hk;exact hk.elim
   |some q=>
    rw[eo]at hk
    simp only at hk ⊢
    cases ex:evalA tm x<;>rw[ex]at hk hH<;>simp only at hk ⊢ <;>try exact hk
    rename_i b k i o
    rw[show hget H' b 0=hget H b 0 from hH (b,0) (by simp)];exact hk
 case indexAddr T x y=>
  have e1:=hx x (by simp [Op.operands])
  have e2:=hx y (by simp [Op.operands])
  unfold withTy at hk ⊢
  cases e:E.ty T with
  |none=>rw[e]at hk;exact hk.elim
  |some t=>
   rw[e]at hk
   simp only[rdA]at hk hH ⊢
   rw[e1,e2]
   simp only[indexA]at hk ⊢
   cases ed:t.d<;>rw[ed]at hk<;>simp only at hk ⊢ <;>try exact hk.elim
   case array=>exact hk
   cases ey:evalA tm y<;>rw[ey]at hk<;>simp only at hk ⊢ <;>try exact hk.elim
   rename_i esz _ _ z
   exact indexX_congr (H:=H) (esz:=esz) (x:=evalA tm x) (z:=z) (K:=fun av=>K av []) (fun b k e=>hH (b,0) (by rw[e];simp)) hk
 case index T x y=>
  have e1:=hx x (by simp [Op.operands])
  have e2:=hx y (by simp [Op.operands])
  rw[e1,e2];exact hk
 case extract x i=>rw[hx x (by simp [Op.operands])];exact hk
 case buildSlice T len ps=>
  unfold withTy at hk ⊢
  cases e:E.ty T with
  |none=>rw[e]at hk;exact hk.elim
  |some t=>
   rw[e]at hk
   have hp: ∀esz,partsA esz tm' ps.toList 0=partsA esz tm ps.toList 0:=fun esz=>partsA_congr (fun x hx'=>hx x.2 (by simp [Op.operands];exact⟨x.1,by simpa using hx'⟩))
   simp only[rdA]at hH
   simp only[buildSliceA,hp]at hk ⊢
   cases ed:t.d<;>rw[ed]at hk<;>simp only at hk ⊢ <;>try exact hk.elim
   rename_i ee esz eb
   cases hl:partsA esz tm ps.toList 0 with
   |none=>rw[hl]at hk;exact hk.elim
   |some l=>
    rw[hl]at hk
    simp only at hk ⊢
    obtain⟨h1,h2⟩:=chk_iff.1 hk
    obtain⟨o1,o2⟩:=partsA_owns hl
    have hin: ∀q∈l.flatten.flatMap owns1,hget H' q.1 q.2=hget H q.1 q.2:=fun q hq=>hH q (o1 q hq)
    have hro:roAs H' l.flatten=roAs H l.flatten:=by
     unfold roAs
     apply flatMap_congr'
     intro c hc
     have hc2:=o2 c hc
     have hl2: ∀q∈owns1 c,hget H' q.1 q.2=hget H q.1 q.2:=fun q hq=>hin q (List.mem_flatMap.2 ⟨c,hc,hq⟩)
     cases c
     case agg cs=>cases hc2
     all_goals
      simp only[roA]
      exact ro1_congr hl2
    refine chk_iff.2 ⟨h1,frzLs_congr hin (frzLs_mono (fun ys h=> ?_) h2)⟩
    obtain⟨f,f1,f2⟩:=h
    exact⟨f,f1,by rw[hro];exact f2⟩
 case slice T x l hh m=>
  have e1:=hx x (by simp [Op.operands])
  unfold withTy at hk ⊢
  cases e:E.ty T with
  |none=>rw[e]at hk;exact hk.elim
  |some t=>
   rw[e]at hk
   simp only at hk ⊢
   rw[e1]
   refine sliceA_congr (fun y hy=>hx y ?_) (fun l hl=>hH l hl) hk
   simp only[Op.operands,Array.mem_append,Option.mem_toArray]
   rcases hy with hy|hy|hy
   ·exact .inl (.inl (.inr hy))
   ·exact .inl (.inr hy)
   ·exact .inr hy
 case makeFunc fn first captured=>
  cases ef:fn<;>rw[ef]at hk<;>simp only at hk ⊢ <;>try exact hk.elim
  have:captured.toList.map (evalA tm')=captured.toList.map (evalA tm):=List.map_congr_left fun x hx'=>hx x (by
   simp only[Op.operands]
   exact Array.mem_append.2 (.inr (by simpa using hx')))
  rw[this];exact hk
 case convert Ts Td x=>
  have e1:=hx x (by simp [Op.operands])
  unfold withTy at hk ⊢
  cases e:E.ty Ts with
  |none=>rw[e]at hk;exact hk.elim
  |some t=>
   rw[e]at hk
   simp only at hk ⊢
   cases e':E.ty Td with
   |none=>rw[e']at hk;exact hk.elim
   |some u=>
    rw[e']at hk
    simp only at hk ⊢
    rw[e1]
    cases ex:evalA tm x<;>rw[ex]at hk<;>simp only[convA]at hk ⊢ <;>try exact hk
    rename_i b k
    rw[show hget H' b 0=hget H b 0 from hH (b,0) (by simp [rdA,ex,ownsA,owns1])];exact hk
 case call c=>
  have hargs: ∀x∈c.args.toList,evalA tm' x=evalA tm x:=fun x hx'=>hx x (by
   simp only[Op.operands,Call.operands]
   exact Array.mem_append.2 (.inr (by simpa using hx')))
  have howns: ∀{x:AV},(∃y∈c.args.toList,x=evalA tm y)→ ∀b k,x= .own b k→hget H' b 0=hget H b 0:=fun {x} hx b k e=>by
   obtain⟨y,hy,rfl⟩:=hx
   exact hH (b,0) (List.mem_flatMap.2 ⟨y,hy,by rw[e];simp [ownsA,owns1]⟩)
  cases ec:c.callee with
  |value f=>
   rw[ec]at hk
   simp only at hk ⊢
   have hf:evalA tm' f=evalA tm f:=hx f (by simp only[Op.operands,Call.operands,ec];simp)
   rw[hf]
   unfold callV at hk ⊢
   cases ef:evalA tm f<;>rw[ef]at hk<;>simp only at hk ⊢ <;>try exact hk.elim
   rename_i g caps
   rw[List.map_congr_left hargs]
   cases ep:isH E.ho g (c.args.toList.map (evalA tm)++caps)with
   |true=>
    rw[ep]at hk
    simp only at hk ⊢
    refine hcallA_congr (fun b hb=>hB b ?_) hk
    simp only[rdB,ec,ef];exact hb
   |false=>
   rw[ep]at hk
   simp only at hk ⊢
   rw[chk_iff]at hk ⊢
   obtain⟨hcaps,hk⟩:=hk
   refine⟨hcaps,?_⟩
   have key: ∀z:AV,owns1 (normC z)=owns1 z:=fun z=>by cases z<;>rfl
   have hin: ∀l∈((c.args.toList.map (evalA tm)++caps).map normA).flatMap ownsA,hget H' l.1 l.2=hget H l.1 l.2:=fun l hl=>by
    rw[List.map_append,List.flatMap_append,List.mem_append]at hl
    rcases hl with hl|hl
    ·refine hH l ?_
     simp only[List.mem_flatMap,List.mem_map]at hl
     obtain⟨y,⟨y',⟨x,hx1,rfl⟩,rfl⟩,hl⟩:=hl
     refine List.mem_flatMap.2 ⟨x,hx1,?_⟩
     cases ez:evalA tm x<;>rw[ez]at hl<;>first|exact hl|skip
     simp only[ownsA,normA,List.mem_flatMap,List.mem_map]at hl ⊢
     obtain⟨z',⟨z,hz,rfl⟩,hl⟩:=hl
     exact⟨z,hz,by rw[key]at hl;exact hl⟩
    ·simp only[List.mem_flatMap,List.mem_map]at hl
     obtain⟨y,⟨y',hy',rfl⟩,hl⟩:=hl
     have h7:=List.all_eq_true.1 hcaps y' hy'
     cases y'<;>first|(cases h7;done)|(simp [normA,normC,ownsA,owns1]at hl;done)
   unfold callA at hk ⊢
   refine frzAs_congr hin (frzAs_mono (fun ys h=> ?_) hk)
   cases hs:E.spec g ys with
   |none=>rw[hs]at h;exact h.elim
   |some q=>
    rw[hs]at h
    obtain⟨pre,r⟩:=q
    simp only at h ⊢
    rwa [roWs_congr hin]
  |invoke r m=>rw[ec]at hk;exact hk.elim
  |builtin b=>
   rw[ec]at hk
   cases b<;>simp only at hk ⊢ <;>try exact hk.elim
   case append=>
    split at hk
    ·rename_i x y T T2 ex eT
     rw[ex]at hargs howns
     have e1:=hargs x (by simp)
     have e2:=hargs y (by simp)
     unfold withTy at hk ⊢
     cases e:E.ty T with
     |none=>rw[e]at hk;exact hk.elim
     |some t=>
      rw[e]at hk
      simp only at hk ⊢
      cases e':E.ty T2 with
      |none=>rw[e']at hk;exact hk.elim
      |some t2=>
       rw[e']at hk
       simp only at hk ⊢
       rw[chk_iff]at hk ⊢
       rw[e1,e2]
       exact⟨hk.1,appendA_congr (howns ⟨x,by simp,rfl⟩) (howns ⟨y,by simp,rfl⟩) hk.2⟩
    ·exact hk.elim
   case min=>
    split at hk
    ·rename_i x y ex
     rw[ex]at hargs
     rw[hargs x (by simp),hargs y (by simp)];exact hk
    ·exact hk.elim
   case max=>
    split at hk
    ·rename_i x y ex
     rw[ex]at hargs
     rw[hargs x (by simp),hargs y (by simp)];exact hk
    ·exact hk.elim
   case len=>
    simp only[rdA]at hH
    split at hk
    ·rename_i x T ex eT
     rw[ex]at hargs hH
     have e1:=hargs x (by simp)
     rw[e1]
     unfold withTy at hk ⊢
     cases e:E.ty T with
     |none=>rw[e]at hk;exact hk.elim
     |some t=>
      rw[e]at hk
      simp only at hk ⊢
      rw[chk_iff]at hk ⊢
      refine⟨hk.1,?_⟩
      have hk:=hk.2
      cases ex:evalA tm x<;>rw[ex]at hk<;>simp only[lenA]at hk ⊢ <;>try exact hk
      rename_i b k
      rw[show hget H' b 0=hget H b 0 from hH (b,0) (by simp [ex,ownsA,owns1])];exact hk
    ·exact hk.elim
theorem pickA_split{b:Bool}{x y:AV}{K:AV→Prop}(h:pickA b x y K): ∃av,pickA b x y (fun z=>z=av)∧K av:=by
 cases b<;>exact⟨_,rfl,h⟩
theorem loadA_split{t:Ty}{H:Heap}{x:AV}{K:AV→Prop}(h:loadA t H x K): ∃av,loadA t H x (fun z=>z=av)∧K av:=by
 cases x<;>simp only[loadA,chk_iff]at h ⊢ <;>try exact h.elim
 ·exact⟨_,⟨h.1,rfl⟩,h.2⟩
 ·split at h
  ·exact⟨_,⟨h.1,h.2.1,h.2.2.1,rfl⟩,h.2.2.2⟩
  ·exact h.elim
 ·exact⟨_,⟨h.1,rfl⟩,h.2⟩
theorem storeA_split{t:Ty}{H:Heap}{x y:AV}{K:Ws→Prop}(h:storeA t H x y K): ∃ws,storeA t H x y (fun z=>z=ws)∧K ws:=by
 cases x<;>simp only[storeA,chk_iff]at h ⊢ <;>try exact h.elim
 ·exact⟨_,⟨h.1,rfl⟩,h.2⟩
 ·rename_i b k i o
  cases e:hget H b 0<;>rw[e]at h<;>simp only at h ⊢ <;>try exact h.elim
  obtain⟨h1,h2,h3,g,hg,hK⟩:=h
  exact⟨_,⟨h1,h2,h3,g,hg,rfl⟩,hK⟩
theorem makeSliceA_split{E:Env}{t:Ty}{tm:List AV}{nb:Nat}{l c:Operand}{K:AV→Ws→Prop}(h:makeSliceA E t tm nb l c K): ∃av ws,makeSliceA E t tm nb l c (fun x y=>x=av∧y=ws)∧K av ws:=by
 unfold makeSliceA at h ⊢
 cases ed:t.d<;>rw[ed]at h<;>simp only at h ⊢ <;>try exact h.elim
 rename_i e esz eb
 cases ety:E.ty e<;>rw[ety]at h<;>simp only at h ⊢
 cases el:evalA tm l<;>rw[el]at h<;>simp only at h ⊢ <;>try exact h.elim
 cases ec:evalA tm c<;>rw[ec]at h<;>simp only at h ⊢ <;>try exact h.elim
 obtain⟨h1,h2,h3⟩:=chk_iff.1 h
 exact⟨_,_,chk_iff.2 ⟨h1,h2,rfl,rfl⟩,h3⟩
theorem fieldA_split{t:Ty}{H:Heap}{f:Nat}{x:AV}{K:AV→Prop}(h:fieldA t H f x K): ∃av,fieldA t H f x (fun z=>z=av)∧K av:=by
 unfold fieldA at h ⊢
 cases ed:t.d<;>rw[ed]at h<;>simp only at h ⊢ <;>try exact h.elim
 rename_i offs
 cases eo:offs[f]? <;>rw[eo]at h<;>simp only at h ⊢
 cases x<;>simp only at h ⊢ <;>try exact h.elim
 ·exact⟨_,rfl,h⟩
 ·split at h
  ·exact⟨_,⟨h.1,rfl⟩,h.2⟩
  ·exact h.elim
 ·exact⟨_,rfl,h⟩
theorem indexA_split{t:Ty}{H:Heap}{x y:AV}{K:AV→Prop}(h:indexA t H x y K): ∃av,indexA t H x y (fun z=>z=av)∧K av:=by
 unfold indexA at h ⊢
 cases ed:t.d<;>rw[ed]at h<;>simp only at h ⊢ <;>try exact h.elim
 case array=>
  cases y<;>simp only at h ⊢ <;>try exact h.elim
  cases x<;>simp only[chk_iff]at h ⊢ <;>first|exact h.elim|exact⟨_,⟨h.1,rfl⟩,h.2⟩
 cases y<;>simp only at h ⊢ <;>try exact h.elim
 cases x<;>simp only at h ⊢ <;>try exact h.elim
 ·rw[chk_iff]at h
  exact⟨_,chk_iff.2 ⟨h.1,h.2.1,rfl⟩,h.2.2⟩
 ·split at h
  ·rw[chk_iff]at h
   exact⟨_,chk_iff.2 ⟨h.1,h.2.1,h.2.2.1,rfl⟩,h.2.2.2⟩
  ·exact h.elim
theorem idxA_split{E:TypeId→Option Ty}{t:Ty}{x y:AV}{K:AV→Prop}(h:idxA E t x y K): ∃av,idxA E t x y (fun z=>z=av)∧K av:=by
 unfold idxA at h ⊢
 cases ed:t.d<;>rw[ed]at h<;>simp only at h ⊢ <;>try exact h.elim
 cases y<;>simp only at h ⊢ <;>try exact h.elim
 cases x<;>simp only at h ⊢ <;>try exact h.elim
 rename_i n e esz _ _ _
 cases eu:E e<;>rw[eu]at h<;>simp only[chk_iff]at h ⊢ <;>first|exact h.elim|exact⟨_,⟨h.1,rfl⟩,h.2⟩
theorem intA_split{op:BinOp}{k:IntKind}{p q:Int}{K:AV→Prop}(h:intA op k p q K): ∃av,intA op k p q (fun z=>z=av)∧K av:=by
 cases op<;>simp only[intA]at h ⊢ <;>first|exact h.elim|exact⟨_,rfl,h⟩|exact⟨_,⟨h.1,rfl⟩,h.2⟩
theorem binA_split{t:Ty}{op:BinOp}{x y:AV}{K:AV→Prop}(h:binA t op x y K): ∃av,binA t op x y (fun z=>z=av)∧K av:=by
 cases x<;>cases y<;>simp only[binA]at h ⊢ <;>try exact h.elim
 ·cases es:isShift op with
  |true=>
   rw[es]at h
   simp only[shiftA]at h ⊢
   obtain⟨h0,h⟩:=h
   cases op<;>simp only at h ⊢ <;>first|exact h.elim|exact⟨_,⟨h0,rfl⟩,h⟩
  |false=>
   rw[es]at h
   simp only at h ⊢
   rw[chk_iff]at h
   obtain⟨av,h1,h2⟩:=intA_split h.2
   exact⟨av,chk_iff.2 ⟨h.1,h1⟩,h2⟩
 ·cases ed:t.d<;>rw[ed]at h<;>simp only at h ⊢ <;>try exact h.elim
  cases op<;>simp only at h ⊢ <;>first|exact h.elim|exact⟨_,rfl,h⟩
 ·cases op<;>simp only at h ⊢ <;>first|exact h.elim|exact⟨_,rfl,h⟩|exact⟨_,⟨h.1,rfl⟩,h.2⟩
 ·rw[chk_iff]at h
  obtain⟨h1,h4⟩:=h
  cases op<;>simp only at h4 ⊢ <;>first|exact h4.elim|exact⟨_,chk_iff.2 ⟨h1,rfl⟩,h4⟩
theorem unA_split{op:UnOp}{x:AV}{K:AV→Prop}(h:unA op x K): ∃av,unA op x (fun z=>z=av)∧K av:=by
 cases op<;>cases x<;>simp only[unA]at h ⊢ <;>first|exact h.elim|exact⟨_,rfl,h⟩
theorem lenA_split{H:Heap}{x:AV}{K:AV→Prop}(h:lenA H x K): ∃av,lenA H x (fun z=>z=av)∧K av:=by
 cases x<;>simp only[lenA]at h ⊢ <;>try first|exact h.elim|exact⟨_,rfl,h⟩
 split at h
 ·exact⟨_,⟨h.1,rfl⟩,h.2⟩
 ·exact h.elim
theorem nilCheckA_split{H:Heap}{x:AV}{K:AV→Prop}(h:nilCheckA H x K): ∃av,nilCheckA H x (fun z=>z=av)∧K av:=by
 cases x<;>simp only[nilCheckA]at h ⊢ <;>try first|exact h.elim|exact⟨_,rfl,h⟩
 split at h
 ·exact⟨_,⟨h.1,rfl⟩,h.2⟩
 ·exact h.elim
theorem buildA_split{offs:List (Nat×Nat)}{tm:List AV}{K:List AV→Prop} : ∀(ps:List (Nat×Operand)) (cs:List AV),buildA offs tm ps cs K→ ∃cs',buildA offs tm ps cs (fun z=>z=cs')∧K cs'
 |[],cs,h=>⟨cs,rfl,h⟩
 |(i,x)::ps,cs,h=>by
  simp only[buildA]at h ⊢
  cases e:offs[i]? with
  |none=>rw[e]at h;exact h.elim
  |some q=>
   rw[e]at h
   simp only at h ⊢
   rw[chk_iff]at h
   obtain⟨cs',h1,h2⟩:=buildA_split ps _ h.2
   exact⟨cs',chk_iff.2 ⟨h.1,h1⟩,h2⟩
theorem frz1_split{H:Heap}{x:AV}{K:AV→Prop}(h:frz1 H x K): ∃y,frz1 H x (fun z=>z=y)∧K y:=by
 cases x<;>simp only[frz1]at h ⊢ <;>try first|exact⟨_,rfl,h⟩|exact⟨_,chk_iff.2 ⟨(chk_iff.1 h).1,rfl⟩,(chk_iff.1 h).2⟩
 split at h
 ·exact⟨_,⟨h.1,rfl⟩,h.2⟩
 ·exact h.elim
theorem frzL_split{H:Heap} : ∀{cs:List AV} {K:List AV→Prop},frzL H cs K→ ∃ys,frzL H cs (fun z=>z=ys)∧K ys
 |[],_,h=>⟨[],rfl,h⟩
 |c::cs,K,h=>by
  obtain⟨y,h1,h2⟩:=frz1_split h
  obtain⟨ys,h3,h4⟩:=frzL_split h2
  exact⟨y::ys,frz1_mono (fun z hz=>by subst hz;exact frzL_mono (fun zs hzs=>by rw[hzs]) h3) h1,h4⟩
theorem frzLs_split{H:Heap} : ∀{ls:List (List AV)} {K:List (List AV)→Prop},frzLs H ls K→ ∃ys,frzLs H ls (fun z=>z=ys)∧K ys
 |[],_,h=>⟨[],rfl,h⟩
 |c::cs,K,h=>by
  obtain⟨y,h1,h2⟩:=frzL_split h
  obtain⟨ys,h3,h4⟩:=frzLs_split h2
  exact⟨y::ys,frzL_mono (fun z hz=>by subst hz;exact frzLs_mono (fun zs hzs=>by rw[hzs]) h3) h1,h4⟩
theorem frzA_split{H:Heap}{x:AV}{K:AV→Prop}(h:frzA H x K): ∃y,frzA H x (fun z=>z=y)∧K y:=by
 cases x
 case agg cs=>
  obtain⟨ys,h1,h2⟩:=frzL_split (K:=fun ys=>K (.agg ys)) h
  exact⟨.agg ys,frzL_mono (K2:=fun z=>AV.agg z= .agg ys) (fun z hz=>by rw[hz]) h1,h2⟩
 all_goals
  simp only[frzA]at h ⊢
  exact frz1_split h
theorem frzAs_split{H:Heap} : ∀{cs:List AV} {K:List AV→Prop},frzAs H cs K→ ∃ys,frzAs H cs (fun z=>z=ys)∧K ys
 |[],_,h=>⟨[],rfl,h⟩
 |c::cs,K,h=>by
  obtain⟨y,h1,h2⟩:=frzA_split h
  obtain⟨ys,h3,h4⟩:=frzAs_split h2
  exact⟨y::ys,frzA_mono (fun z hz=>by subst hz;exact frzAs_mono (fun zs hzs=>by rw[hzs]) h3) h1,h4⟩
theorem resA_split{nb:Nat}{r:AV}{ws:Ws}{K:AV→Ws→Prop}(h:resA nb r ws K): ∃av ws',resA nb r ws (fun x y=>x=av∧y=ws')∧K av ws':=by
 cases r<;>exact⟨_,_,⟨rfl,rfl⟩,h⟩
theorem callA_split{H:Heap}{nb:Nat}{f:FuncId}{args:List AV}{K:AV→Ws→Prop}(h:callA E H nb f args K): ∃av ws,callA E H nb f args (fun x y=>x=av∧y=ws)∧K av ws:=by
 obtain⟨ys,h1,h2⟩:=frzAs_split h
 cases hs:E.spec f ys with
 |none=>rw[hs]at h2;exact h2.elim
 |some q=>
  obtain⟨pre,r⟩:=q
  rw[hs]at h2
  obtain⟨h5,h6⟩:=preP_iff.1 h2
  obtain⟨av,ws,h7,h8⟩:=resA_split h6
  refine⟨av,ws,frzAs_mono (fun z hz=> ?_) h1,h8⟩
  subst hz
  rw[hs]
  exact preP_iff.2 ⟨h5,h7⟩
theorem boundA_split{tm:List AV}{d:Int}{o:Option Operand}{K:Int→Prop}(h:boundA tm d o K): ∃z,boundA tm d o (fun y=>y=z)∧K z:=by
 cases o with
 |none=>exact⟨_,rfl,h⟩
 |some x=>
  simp only[boundA]at h ⊢
  cases e:evalA tm x<;>rw[e]at h<;>simp only at h ⊢ <;>first|exact h.elim|exact⟨_,rfl,h⟩
theorem bound3_split{tm:List AV}{d0 d1:Int}{l hh m:Option Operand}{C:Int→Int→Int→Prop}{A:Int→Int→Int→AV}{ws:Ws}{K:AV→Ws→Prop}(h:boundA tm d0 l fun lo=>boundA tm d1 hh fun hi=>boundA tm hi m fun mx=>C lo hi mx∧K (A lo hi mx) ws):
  ∃av,(boundA tm d0 l fun lo=>boundA tm d1 hh fun hi=>boundA tm hi m fun mx=>C lo hi mx∧(A lo hi mx=av∧ws=ws))∧K av ws:=by
 obtain⟨lo,h1,h⟩:=boundA_split h
 obtain⟨hi,h2,h⟩:=boundA_split h
 obtain⟨mx,h3,h⟩:=boundA_split h
 refine⟨A lo hi mx,boundA_mono (fun z hz=> ?_) h1,h.2⟩
 subst hz
 refine boundA_mono (fun z hz=> ?_) h2
 subst hz
 refine boundA_mono (fun z hz=> ?_) h3
 subst hz
 exact⟨h.1,rfl,rfl⟩
theorem sliceA_split{t:Ty}{H:Heap}{tm:List AV}{x:AV}{l hh m:Option Operand}{K:AV→Ws→Prop}(h:sliceA t H tm x l hh m K): ∃av ws,sliceA t H tm x l hh m (fun p q=>p=av∧q=ws)∧K av ws:=by
 unfold sliceA at h ⊢
 rw[chk_iff]at h
 obtain⟨hc,h⟩:=h
 cases ed:t.d<;>rw[ed]at h<;>simp only at h<;>try exact h.elim
 ·cases x<;>simp only at h ⊢ <;>try exact h.elim
  cases m with
  |some _=>exact h.elim
  |none=>
   obtain⟨lo,h1,h⟩:=boundA_split h
   obtain⟨hi,h2,h⟩:=boundA_split h
   refine⟨_,[],chk_iff.2 ⟨hc,boundA_mono (fun z hz=> ?_) h1⟩,h.2⟩
   subst hz
   refine boundA_mono (fun z hz=> ?_) h2
   subst hz
   exact⟨h.1,rfl,rfl⟩
 ·cases x<;>simp only at h ⊢ <;>try exact h.elim
  ·obtain⟨av,h1,h2⟩:=bound3_split (A:=fun _ _ _=>AV.nils) h
   exact⟨av,[],chk_iff.2 ⟨hc,h1⟩,h2⟩
  ·rename_i sz n f
   rw[chk_iff]at h
   obtain⟨hd,h⟩:=h
   obtain⟨av,h1,h2⟩:=bound3_split (A:=fun lo hi _=>partV (capB m sz) sz (hi-lo).toNat (fun i=>f (lo.toNat+i))) h
   exact⟨av,[],chk_iff.2 ⟨hc,chk_iff.2 ⟨hd,h1⟩⟩,h2⟩
  ·rename_i b k
   cases e:hget H b 0<;>rw[e]at h<;>simp only at h ⊢ <;>try exact h.elim
   rename_i ro sz n f
   obtain⟨hd,hkn,h⟩:=chk_iff.1 h
   obtain⟨av,h1,h2⟩:=bound3_split (A:=fun lo hi _=>partV (capB m sz) sz (hi-lo).toNat (fun i=>f (lo.toNat+i))) h
   exact⟨av,_,chk_iff.2 ⟨hc,chk_iff.2 ⟨hd,hkn,h1⟩⟩,h2⟩
theorem convA_split{t u:Ty}{eu:Option Ty}{H:Heap}{x:AV}{K:AV→Prop}(h:convA t u eu H x K): ∃av,convA t u eu H x (fun z=>z=av)∧K av:=by
 cases x<;>simp only[convA]at h ⊢ <;>try exact h.elim
 ·cases eu':u.d<;>rw[eu']at h<;>simp only at h ⊢ <;>try exact h.elim
  cases et:t.d<;>rw[et]at h<;>simp only at h ⊢ <;>first|exact h.elim|exact⟨_,rfl,h⟩
 ·cases et:t.d<;>rw[et]at h<;>simp only at h ⊢ <;>try exact h.elim
  cases eu':u.d<;>rw[eu']at h<;>simp only at h ⊢ <;>first|exact⟨_,rfl,h⟩|exact⟨_,chk_iff.2 ⟨(chk_iff.1 h).1,rfl⟩,(chk_iff.1 h).2⟩
 ·exact⟨_,chk_iff.2 ⟨(chk_iff.1 h).1,rfl⟩,(chk_iff.1 h).2⟩
 ·exact⟨_,chk_iff.2 ⟨(chk_iff.1 h).1,(chk_iff.1 h).2.1,rfl⟩,(chk_iff.1 h).2.2⟩
 ·split at h
  ·exact⟨_,chk_iff.2 ⟨(chk_iff.1 h).1,(chk_iff.1 h).2.1,(chk_iff.1 h).2.2.1,rfl⟩,(chk_iff.1 h).2.2.2⟩
  ·exact h.elim
theorem srcA_split{H:Heap}{str:Bool}{esz:Nat}{y:AV}{K:Nat→(Nat→List AV)→Prop}(h:srcA H str esz y K): ∃m g,srcA H str esz y (fun a b=>a=m∧b=g)∧K m g:=by
 cases y<;>simp only[srcA]at h ⊢ <;>try exact h.elim
 ·exact⟨_,_,chk_iff.2 ⟨(chk_iff.1 h).1,rfl,rfl⟩,(chk_iff.1 h).2⟩
 ·exact⟨_,_,chk_iff.2 ⟨(chk_iff.1 h).1,rfl,rfl⟩,(chk_iff.1 h).2⟩
 ·exact⟨_,_,chk_iff.2 ⟨(chk_iff.1 h).1,rfl,rfl⟩,(chk_iff.1 h).2⟩
 ·split at h
  ·exact⟨_,_,chk_iff.2 ⟨(chk_iff.1 h).1,(chk_iff.1 h).2.1,rfl,rfl⟩,(chk_iff.1 h).2.2⟩
  ·exact h.elim
theorem appendA_split{t:Ty}{str:Bool}{H:Heap}{nb:Nat}{x y:AV}{K:AV→Ws→Prop}(h:appendA t str H nb x y K): ∃av ws,appendA t str H nb x y (fun p q=>p=av∧q=ws)∧K av ws:=by
 unfold appendA at h ⊢
 cases ed:t.d<;>rw[ed]at h<;>simp only at h ⊢ <;>try exact h.elim
 rw[chk_iff]at h
 obtain⟨hc,h⟩:=h
 obtain⟨m,g,h1,h2⟩:=srcA_split h
 clear h
 have fin: ∀{Z:Nat→(Nat→List AV)→Prop},Z m g→srcA H str _ y Z:=fun hZ=>srcA_congr (fun _ _ _=>rfl) (fun a b hab=>by obtain⟨rfl,rfl⟩:=hab;exact hZ) h1
 cases x<;>simp only at h2 ⊢ <;>try exact h2.elim
 ·exact⟨_,_,chk_iff.2 ⟨hc,fin ⟨h2.1,rfl,rfl⟩⟩,h2.2⟩
 ·rename_i b k
  cases e:hget H b 0<;>rw[e]at h2<;>simp only at h2 ⊢ <;>try exact h2.elim
  obtain⟨hd,h3,h4,hh,h6,h5⟩:=chk_iff.1 h2
  exact⟨_,_,chk_iff.2 ⟨hc,fin (chk_iff.2 ⟨hd,h3,h4,hh,h6,rfl,rfl⟩)⟩,h5⟩
 ·obtain⟨hd,h3,h4,hh,h6,h5⟩:=chk_iff.1 h2
  exact⟨_,_,chk_iff.2 ⟨hc,fin (chk_iff.2 ⟨hd,h3,h4,hh,h6,rfl,rfl⟩)⟩,h5⟩
theorem buildSliceA_split{t:Ty}{tm:List AV}{H:Heap}{nb len:Nat}{ps:List (Nat×Operand)}{K:AV→Ws→Prop}(h:buildSliceA t tm H nb len ps K): ∃av ws,buildSliceA t tm H nb len ps (fun p q=>p=av∧q=ws)∧K av ws:=by
 unfold buildSliceA at h ⊢
 cases ed:t.d<;>rw[ed]at h<;>simp only at h ⊢ <;>try exact h.elim
 rename_i e esz eb
 cases hp:partsA esz tm ps 0<;>rw[hp]at h<;>simp only at h ⊢
 obtain⟨h1,h2⟩:=chk_iff.1 h
 obtain⟨ys,h3,hh,h4,h5⟩:=frzLs_split h2
 exact⟨_,_,chk_iff.2 ⟨h1,frzLs_mono (fun z hz=>by subst hz;exact⟨hh,h4,rfl,rfl⟩) h3⟩,h5⟩
theorem minA_split{x y:AV}{K:AV→Prop}(h:minA x y K): ∃av,minA x y (fun z=>z=av)∧K av:=by
 cases x<;>cases y<;>simp only[minA]at h ⊢ <;>try exact h.elim
 exact⟨_,chk_iff.2 ⟨(chk_iff.1 h).1,rfl⟩,(chk_iff.1 h).2⟩
theorem maxA_split{x y:AV}{K:AV→Prop}(h:maxA x y K): ∃av,maxA x y (fun z=>z=av)∧K av:=by
 cases x<;>cases y<;>simp only[maxA]at h ⊢ <;>try exact h.elim
 exact⟨_,chk_iff.2 ⟨(chk_iff.1 h).1,rfl⟩,(chk_iff.1 h).2⟩
theorem aop_split{nb:Nat}{tm:List AV}{H:Heap}{op:Op}{K:AV→Ws→Prop}(hk:aop E nb tm H op K): ∃av ws,aop E nb tm H op (fun x y=>x=av∧y=ws)∧K av ws:=by
 have q: ∀{p:(AV→Prop)→Prop},(∃av,p (fun z=>z=av)∧K av [])→(∀av,p (fun z=>z=av)→p (fun z=>z=av∧([]:Ws)=[]))→ ∃av ws,p (fun x=>x=av∧([]:Ws)=ws)∧K av ws:=fun⟨av,h1,h2⟩ hp=>⟨av,[],hp av h1,h2⟩
 have e: ∀av:AV,(fun z=>z=av∧([]:Ws)=[])=(fun z=>z=av):=fun av=>by funext z;simp
 cases op<;>simp only[aop]at hk ⊢ <;>try exact hk.elim
 case move x=>exact⟨_,_,⟨rfl,rfl⟩,hk⟩
 case assign x=>exact⟨_,_,⟨rfl,rfl⟩,hk⟩
 case pick c x y=>
  cases ec:evalA tm c<;>rw[ec]at hk<;>simp only at hk ⊢ <;>try exact hk.elim
  ·exact q (pickA_split hk) fun av h=>by rw[e];exact h
  ·exact q (pickA_split hk) fun av h=>by rw[e];exact h
 case alloc T=>
  unfold withTy at hk ⊢
  cases eT:E.ty T<;>rw[eT]at hk<;>simp only at hk ⊢
  rw[chk_iff]at hk
  exact⟨_,_,chk_iff.2 ⟨hk.1,rfl,rfl⟩,hk.2⟩
 case box T x=>
  rw[chk_iff]at hk
  exact⟨_,_,chk_iff.2 ⟨hk.1,rfl,rfl⟩,hk.2⟩
 case build T ps=>
  unfold withTy at hk ⊢
  cases eT:E.ty T<;>rw[eT]at hk<;>simp only at hk ⊢
  rename_i t
  cases ed:t.d<;>rw[ed]at hk<;>simp only at hk ⊢ <;>try exact hk.elim
  obtain⟨cs',h1,h2⟩:=buildA_split _ _ hk
  refine⟨.agg cs',[],?_,h2⟩
  simpa using h1
 case load T x=>
  unfold withTy at hk ⊢
  cases eT:E.ty T<;>rw[eT]at hk<;>simp only at hk ⊢
  exact q (loadA_split hk) fun av h=>by rw[e];exact h
 case store T x y=>
  unfold withTy at hk ⊢
  cases eT:E.ty T<;>rw[eT]at hk<;>simp only at hk ⊢
  obtain⟨ws,h1,h2⟩:=storeA_split hk
  exact⟨.undef,ws,by simpa using h1,h2⟩
 case nilCheck x=>exact q (nilCheckA_split hk) fun av h=>by rw[e];exact h
 case binOp op T x y T'=>
  unfold withTy at hk ⊢
  cases eT:E.ty T<;>rw[eT]at hk<;>simp only at hk ⊢
  exact q (binA_split hk) fun av h=>by rw[e];exact h
 case unOp op T x=>exact q (unA_split hk) fun av h=>by rw[e];exact h
 case fieldAddr T x f=>
  unfold withTy at hk ⊢
  cases eT:E.ty T<;>rw[eT]at hk<;>simp only at hk ⊢
  exact q (fieldA_split hk) fun av h=>by rw[e];exact h
 case indexAddr T x y=>
  unfold withTy at hk ⊢
  cases eT:E.ty T<;>rw[eT]at hk<;>simp only at hk ⊢
  exact q (indexA_split hk) fun av h=>by rw[e];exact h
 case index T x y=>
  unfold withTy at hk ⊢
  cases eT:E.ty T<;>rw[eT]at hk<;>simp only at hk ⊢
  exact q (idxA_split hk) fun av h=>by rw[e];exact h
 case extract x i=>
  cases ex:evalA tm x<;>rw[ex]at hk<;>simp only[extractA]at hk ⊢ <;>try exact hk.elim
  rw[chk_iff]at hk
  exact⟨_,_,chk_iff.2 ⟨hk.1,rfl,rfl⟩,hk.2⟩
 case buildSlice T len ps=>
  unfold withTy at hk ⊢
  cases eT:E.ty T<;>rw[eT]at hk<;>simp only at hk ⊢
  exact buildSliceA_split hk
 case makeSlice T l c=>
  unfold withTy at hk ⊢
  cases eT:E.ty T<;>rw[eT]at hk<;>simp only at hk ⊢
  exact makeSliceA_split hk
 case slice T x l hh m=>
  unfold withTy at hk ⊢
  cases eT:E.ty T<;>rw[eT]at hk<;>simp only at hk ⊢
  exact sliceA_split hk
 case makeFunc fn first captured=>
  cases ef:fn<;>rw[ef]at hk<;>simp only at hk ⊢ <;>try exact hk.elim
  obtain⟨h1,h2⟩:=chk_iff.1 hk
  exact⟨_,_,chk_iff.2 ⟨h1,rfl,rfl⟩,h2⟩
 case convert Ts Td x=>
  unfold withTy at hk ⊢
  cases eT:E.ty Ts<;>rw[eT]at hk<;>simp only at hk ⊢
  cases eU:E.ty Td<;>rw[eU]at hk<;>simp only at hk ⊢
  exact q (convA_split hk) fun av h=>by rw[e];exact h
 case call c=>
  cases ec:c.callee with
  |value f=>
   rw[ec]at hk
   simp only at hk ⊢
   unfold callV at hk ⊢
   cases ef:evalA tm f<;>rw[ef]at hk<;>simp only at hk ⊢ <;>try exact hk.elim
   rename_i g caps
   cases ep:isH E.ho g (c.args.toList.map (evalA tm)++caps)with
   |true=>
    rw[ep]at hk
    exact hcallA_split hk
   |false=>
    rw[ep]at hk
    obtain⟨h1,h2⟩:=chk_iff.1 hk
    obtain⟨av,ws,h3,h4⟩:=callA_split h2
    exact⟨av,ws,chk_iff.2 ⟨h1,h3⟩,h4⟩
  |invoke r m=>rw[ec]at hk;exact hk.elim
  |builtin b=>
   rw[ec]at hk
   cases b<;>simp only at hk ⊢ <;>try exact hk.elim
   case append=>
    split at hk
    ·unfold withTy at hk ⊢
     rename_i x y T T2 ex eT
     cases eT:E.ty T<;>rw[eT]at hk<;>simp only at hk ⊢
     cases eT2:E.ty T2<;>rw[eT2]at hk<;>simp only at hk ⊢
     obtain⟨h1,h2⟩:=chk_iff.1 hk
     obtain⟨av,ws,h3,h4⟩:=appendA_split h2
     exact⟨av,ws,chk_iff.2 ⟨h1,h3⟩,h4⟩
    ·exact hk.elim
   case min=>
    split at hk
    ·exact q (minA_split hk) fun av h=>by rw[e];exact h
    ·exact hk.elim
   case max=>
    split at hk
    ·exact q (maxA_split hk) fun av h=>by rw[e];exact h
    ·exact hk.elim
   case len=>
    split at hk
    ·unfold withTy at hk ⊢
     rename_i x T ex eT
     cases eT:E.ty T<;>rw[eT]at hk<;>simp only at hk ⊢
     rw[chk_iff]at hk
     exact q (p:=fun k=>chk (lenTyOk _ _) (lenA H (evalA tm x) k)) (by obtain⟨av,h1,h2⟩:=lenA_split hk.2;exact⟨av,chk_iff.2 ⟨hk.1,h1⟩,h2⟩) fun av h=>by rw[e];exact h
    ·exact hk.elim
end
end Go.Vc
namespace Go.Vc
open Go Go.RowKit
structure OpIs (E:Env) (ops:Array Oper) (o:Oper) (st:St) (r:Rec):Prop where
 wanted:wantedA ops o st.tm=some r.run
 yes:r.run=true→(∃av,aop E r.nb st.tm st.hp o.op (fun x y=>x=av∧y=r.ws)∧LitOf av r.val)∧r.rd=rdA E st.tm o.op∧r.rb=rdB st.tm st.hp o.op∧st.hp.length≤r.nb
 no:r.run=false→r.val= .gone∧r.ws=[]
inductive Chain (E:Env) (ops:Array Oper):List Oper→St→List Rec→St→Prop
 |nil (st:St):Chain E ops [] st [] st
 |cons (o:Oper) (l:List Oper) (st:St) (r:Rec) (rs:List Rec) (st':St) (h:OpIs E ops o st r) (k:Chain E ops l (appR o r st) rs st'):Chain E ops (o::l) st (r::rs) st'
def adrawRun(E:Env)(ops:Array Oper):List Oper→Nat→St→List Rec→(List Rec→St→Prop)→Prop
 |[],_,st,rs,K=>K rs.reverse st
 |o::rest,i,st,rs,K=>guardA ops o st (aop E (nbOf st.tm st.hp o.op) st.tm st.hp o.op fun av ws=>litA (usedB rest i) av fun av=>adrawRun E ops rest (i+1) ⟨dstA o.dst av st.tm,hwr st.hp ws⟩ (⟨av,ws,rdA E st.tm o.op,rdB st.tm st.hp o.op,nbOf st.tm st.hp o.op,true⟩::rs) K)
   (adrawRun E ops rest (i+1) ⟨dstA o.dst .gone st.tm,st.hp⟩ (⟨.gone,[],[],[],0,false⟩::rs) K)
theorem adrawRun_chain{E:Env}{ops:Array Oper} : ∀(l:List Oper) (i:Nat) (st:St) (acc:List Rec) (K:List Rec→St→Prop),adrawRun E ops l i st acc K→
  ∃rs st',Chain E ops l st rs st'∧K (acc.reverse++rs) st'
 |[],_,st,acc,K,h=>⟨[],st,.nil st,by simpa[adrawRun]using h⟩
 |o::l,i,st,acc,K,h=>by
  rcases guardA_wanted h with⟨hw,hr⟩|⟨hw,hr⟩
  ·obtain⟨av,ws,h1,h2⟩:=aop_split hr
   obtain⟨r,hl,h2⟩:=litA_ok h2
   obtain⟨rs,st',h3,h4⟩:=adrawRun_chain l _ _ _ K h2
   refine⟨_::rs,st',.cons o l st ⟨r,ws,rdA E st.tm o.op,rdB st.tm st.hp o.op,nbOf st.tm st.hp o.op,true⟩ rs st' ⟨hw,fun _=>⟨⟨av,h1,hl⟩,rfl,rfl,nbOf_ge _ _ _⟩,(fun e=>by cases e)⟩ h3,by simpa using h4⟩
  ·obtain⟨rs,st',h3,h4⟩:=adrawRun_chain l _ _ _ K hr
   refine⟨_::rs,st',.cons o l st ⟨.gone,[],[],[],0,false⟩ rs st' ⟨hw,(fun e=>by cases e),fun _=>⟨rfl,rfl⟩⟩ h3,by simpa using h4⟩
def acc(L:Nat→Bool):List (Oper×Rec)→Nat→St→St
 |[],_,st=>st
 |(o,r)::l,i,st=>acc L l (i+1) (bif L i then appR o r st else st)
def writes(ws:Ws)(b p:Nat):Prop:= ∃c,(b,p,c)∈ws
theorem hwr_get_not: ∀(ws:Ws) (H:Heap) (b p:Nat),¬writes ws b p→hget (hwr H ws) b p=hget H b p
 |[],_,_,_,_=>rfl
 |(b',p',c)::ws,H,b,p,h=>by
  rw[hwr,hwr_get_not ws _ b p (fun⟨c',hc⟩=>h ⟨c',by simp [hc]⟩),hget_hset,if_neg]
  rintro⟨rfl,rfl⟩
  exact h ⟨c,by simp⟩
theorem hwr_get_yes: ∀(ws:Ws) (H H':Heap) (b p:Nat),(writes ws b p∨hget H' b p=hget H b p)→hget (hwr H' ws) b p=hget (hwr H ws) b p
 |[],_,_,_,_,h=>h.elim (fun⟨_,h⟩=>by cases h) id
 |(b',p',c)::ws,H,H',b,p,h=>by
  rw[hwr,hwr]
  refine hwr_get_yes ws _ _ b p ?_
  by_cases hw:writes ws b p
  ·exact .inl hw
  ·refine .inr ?_
   rw[hget_hset,hget_hset]
   by_cases e:b=b'∧p=p'
   ·rw[if_pos e,if_pos e]
   ·rw[if_neg e,if_neg e]
    rcases h with⟨c',hc⟩|h
    ·rcases List.mem_cons.1 hc with hc|hc
     ·cases hc;exact absurd ⟨rfl,rfl⟩ e
     ·exact absurd ⟨c',hc⟩ hw
    ·exact h
theorem length_hwr: ∀(ws:Ws) (H:Heap),H.length≤(hwr H ws).length∧ ∀b p,writes ws b p→b<(hwr H ws).length
 |[],_=>⟨Nat.le_refl _,fun _ _ ⟨_,h⟩=>by cases h⟩
 |(b,p,c)::ws,H=>by
  have h1:=length_hset H b p c
  have h2:=length_hwr ws (hset H b p c)
  refine⟨Nat.le_trans h1.1 h2.1,fun b' p' ⟨c',hc⟩=> ?_⟩
  rcases List.mem_cons.1 hc with hc|hc
  ·cases hc;exact Nat.lt_of_lt_of_le h1.2 h2.1
  ·exact h2.2 b' p' ⟨c',hc⟩
theorem dstA_get(d:Option Nat)(av:AV)(tm:List AV)(t:Nat):(dstA d av tm)[t]? =if d=some t then(tm[t]?).map (fun _=>av)else tm[t]? :=by
 cases d with
 |none=>simp [dstA]
 |some d=>
  simp only[dstA,List.getElem?_set,Option.some.injEq]
  by_cases e:d=t
  ·subst e
   simp only[if_true]
   split
   ·rename_i h;simp [List.getElem?_eq_getElem h]
   ·rename_i h;rw[List.getElem?_eq_none (by omega)];rfl
  ·simp [e]
theorem acc_tm{L L':Nat→Bool}{t:Nat} : ∀(l:List (Oper×Rec)) (k:Nat) (st st':St),(st.tm[t]? =st'.tm[t]?)→(∀(i:Nat) o r,l[i]? =some (o,r)→o.dst=some t→L (k+i)=L' (k+i))→(acc L l k st).tm[t]? =(acc L' l k st').tm[t]?
 |[],_,_,_,h,_=>h
 |(o,r)::l,k,st,st',h,hl=>by
  rw[acc,acc]
  refine acc_tm l (k+1) _ _ ?_ fun i o' r' hi hd=>by
   have:=hl (i+1) o' r' (by simpa using hi) hd
   rwa [show k+(i+1)=k+1+i by omega]at this
  by_cases e:o.dst=some t
  ·have:=hl 0 o r rfl e
   rw[Nat.add_zero]at this
   rw[this]
   cases L' k
   ·exact h
   ·simp only[cond_true,appR,dstA_get,e,if_true,h]
  ·have h1:(appR o r st).tm[t]? =st.tm[t]? :=by simp [appR,dstA_get,e]
   have h2:(appR o r st').tm[t]? =st'.tm[t]? :=by simp [appR,dstA_get,e]
   cases L k<;>cases L' k<;>simp only[cond_true,cond_false,h1,h2,h]
theorem acc_hp{L L':Nat→Bool}{b p:Nat} : ∀(l:List (Oper×Rec)) (k:Nat) (st st':St),(hget st.hp b p=hget st'.hp b p)→(∀(i:Nat) o r,l[i]? =some (o,r)→writes r.ws b p→L (k+i)=L' (k+i))→hget (acc L l k st).hp b p=hget (acc L' l k st').hp b p
 |[],_,_,_,h,_=>h
 |(o,r)::l,k,st,st',h,hl=>by
  rw[acc,acc]
  refine acc_hp l (k+1) _ _ ?_ fun i o' r' hi hd=>by
   have:=hl (i+1) o' r' (by simpa using hi) hd
   rwa [show k+(i+1)=k+1+i by omega]at this
  by_cases e:writes r.ws b p
  ·have:=hl 0 o r rfl e
   rw[Nat.add_zero]at this
   rw[this]
   cases L' k
   ·exact h
   ·simp only[cond_true,appR]
    exact hwr_get_yes r.ws st'.hp st.hp b p (.inl e)
  ·have h1:hget (appR o r st).hp b p=hget st.hp b p:=hwr_get_not _ _ _ _ e
   have h2:hget (appR o r st').hp b p=hget st'.hp b p:=hwr_get_not _ _ _ _ e
   cases L k<;>cases L' k<;>simp only[cond_true,cond_false,h1,h2,h]
theorem hwr_list{ws:Ws}{b:Nat} : ∀{H:Heap},(∀p,¬writes ws b p)→(hwr H ws).getD b []=H.getD b []:=by
 induction ws with
 |nil=>intro H _;rfl
 |cons q ws ih=>
  obtain⟨b',p',c⟩:=q
  intro H h
  rw[hwr,ih fun p ⟨c',hc⟩=>h p ⟨c',by simp [hc]⟩]
  unfold hset
  rw[getD_setAt,if_neg]
  intro e
  exact h p' ⟨c,by simp [e]⟩
theorem hwr_list_congr{b:Nat} : ∀{ws:Ws} {H H':Heap},H.getD b []=H'.getD b []→(hwr H ws).getD b []=(hwr H' ws).getD b []
 |[],_,_,h=>h
 |(b',p',c)::ws,H,H',h=>by
  rw[hwr,hwr]
  refine hwr_list_congr ?_
  unfold hset
  rw[getD_setAt,getD_setAt]
  by_cases e:b=b'
  ·subst e;rw[if_pos rfl,if_pos rfl,h]
  ·rw[if_neg e,if_neg e];exact h
theorem acc_blk{L L':Nat→Bool}{b:Nat} : ∀(l:List (Oper×Rec)) (k:Nat) (st st':St),(st.hp.getD b []=st'.hp.getD b [])→(∀(i:Nat) o r,l[i]? =some (o,r)→(∃p,writes r.ws b p)→L (k+i)=L' (k+i))→
  (acc L l k st).hp.getD b []=(acc L' l k st').hp.getD b []
 |[],_,_,_,h,_=>h
 |(o,r)::l,k,st,st',h,hl=>by
  rw[acc,acc]
  refine acc_blk l (k+1) _ _ ?_ (fun i o' r' hi hd=>by
   have:=hl (i+1) o' r' (by simpa using hi) hd
   rwa [show k+(i+1)=k+1+i by omega]at this)
  by_cases e: ∃p,writes r.ws b p
  ·have h2:=hl 0 o r rfl e
   rw[Nat.add_zero]at h2
   rw[h2]
   cases L' k
   ·exact h
   ·exact hwr_list_congr h
  ·have h1: ∀st:St,(appR o r st).hp.getD b []=st.hp.getD b []:=fun st=>hwr_list fun p hp=>e ⟨p,hp⟩
   cases L k<;>cases L' k<;>simp only[cond_true,cond_false,h1,h]
theorem acc_len{L:Nat→Bool} : ∀(l:List (Oper×Rec)) (k:Nat) (st:St),(acc L l k st).tm.length=st.tm.length∧st.hp.length≤(acc L l k st).hp.length∧
  ∀(i:Nat) o r,l[i]? =some (o,r)→L (k+i)=true→ ∀b p,writes r.ws b p→b<(acc L l k st).hp.length
 |[],_,_=>⟨rfl,Nat.le_refl _,fun i o r h=>by simp at h⟩
 |(o,r)::l,k,st=>by
  obtain⟨h1,h2,h3⟩:=acc_len (L:=L) l (k+1) (bif L k then appR o r st else st)
  have hs:(bif L k then appR o r st else st).tm.length=st.tm.length∧st.hp.length≤(bif L k then appR o r st else st).hp.length:=by
   cases L k
   ·exact⟨rfl,Nat.le_refl _⟩
   ·refine⟨?_,(length_hwr _ _).1⟩
    simp only[cond_true,appR]
    cases o.dst<;>simp [dstA]
  refine⟨by rw[acc,h1,hs.1],by rw[acc];exact Nat.le_trans hs.2 h2,fun i o' r' hi hL b p hw=> ?_⟩
  rw[acc]
  cases i with
  |zero=>
   simp at hi
   obtain⟨rfl,rfl⟩:=hi
   rw[Nat.add_zero]at hL
   refine Nat.lt_of_lt_of_le ?_ h2
   rw[hL]
   exact(length_hwr _ _).2 b p hw
  |succ i=>exact h3 i o' r' (by simpa using hi) (by rwa [show k+1+i=k+(i+1) by omega]) b p hw
theorem acc_false{L:Nat→Bool} : ∀(l:List (Oper×Rec)) (k:Nat) (st:St),(∀i,k≤i→L i=false)→acc L l k st=st
 |[],_,_,_=>rfl
 |(o,r)::l,k,st,h=>by
  rw[acc,h k (Nat.le_refl _)]
  exact acc_false l (k+1) st fun i hi=>h i (by omega)
theorem Chain.at{E:Env}{ops:Array Oper}{l:List Oper}{st st':St}{rs:List Rec}(h:Chain E ops l st rs st'): ∀k,l.length=rs.length∧st'=acc (fun _=>true) (l.zip rs) k st∧
  ∀(j:Nat) o r,(l.zip rs)[j]? =some (o,r)→OpIs E ops o (acc (fun i=>decide (i<k+j)) (l.zip rs) k st) r:=by
 induction h with
 |nil st=>exact fun k=>⟨rfl,rfl,fun j o r h=>by simp at h⟩
 |cons o l st r rs st' h k ih=>
  intro n
  obtain⟨h1,h2,h3⟩:=ih (n+1)
  refine⟨by simp [h1],?_,fun j o' r' hj=> ?_⟩
  ·rw[h2];rfl
  ·cases j with
   |zero=>
    simp at hj
    obtain⟨rfl,rfl⟩:=hj
    rw[acc_false _ _ _ (fun i hi=>by simpa using hi)]
    exact h
   |succ j=>
    have:=h3 j o' r' (by simpa using hj)
    rw[List.zip_cons_cons,acc]
    have hd:decide (n<n+(j+1))=true:=by simp
    rw[hd]
    rw[show n+(j+1)=n+1+j by omega]
    exact this
end Go.Vc
namespace Go.Vc
open Go Go.RowKit
def maskOf(es:List Edge)(acc:List Nat):Nat:=es.foldl (fun m e=>if Region.binds .any e then m|||2^e.on|||acc.getD e.on 0 else m) 0
def masks:List Oper→List Nat→List Nat
 |[],acc=>acc
 |o::r,acc=>masks r (acc++[maskOf o.after.toList acc])
def disjL(a b:List (Nat×Nat)):Bool:=a.all fun x=> !b.contains x
def wsL(ws:Ws):List (Nat×Nat):=ws.map fun x=>(x.1,x.2.1)
def noBlk(b:Nat)(l:List (Nat×Nat)):Bool:=l.all fun x=>x.1 !=b
def newB(r:Rec):List Nat:=r.nb::(r.ws.map (·.1)).filter (Nat.blt r.nb)
theorem newB_ge{r:Rec}{b:Nat}(h:b∈newB r):r.nb≤b:=by
 simp only[newB,List.mem_cons,List.mem_filter,Nat.blt_eq]at h
 omega
theorem newB_has{r:Rec}{b p:Nat}{c:AV}(h:(b,p,c)∈r.ws)(hb:r.nb<b):b∈newB r:=by
 simp only[newB,List.mem_cons,List.mem_filter,Nat.blt_eq,List.mem_map]
 exact .inr ⟨⟨_,h,rfl⟩,hb⟩
def isPtrTo(b o:Nat)(c:AV):Bool:=
 match c with
 | .ptr b' o'=>Nat.beq b' b&&Nat.beq o' o
 |_=>false
def nullL(H:Heap)(rs:List Rec)(b p:Nat):Bool:=
 match hget H b p with
 | .ptr b0 o0=>rs.all fun r=>r.ws.all fun x=> !(Nat.beq x.1 b&&Nat.beq x.2.1 p)||isPtrTo b0 o0 x.2.2
 |_=>false
theorem nullL_spec{H:Heap}{rs:List Rec}{b p:Nat}(h:nullL H rs b p=true){r:Rec}(hr:r∈rs){c:AV}(hc:(b,p,c)∈r.ws):c=hget H b p:=by
 unfold nullL at h
 split at h<;>try (cases h;done)
 rename_i b0 o0 e
 rw[e]
 have h1:=List.all_eq_true.1 (List.all_eq_true.1 h r hr) _ hc
 simp only[Nat.beq_refl,Bool.and_self,Bool.not_true,Bool.false_or]at h1
 unfold isPtrTo at h1
 split at h1<;>try (cases h1;done)
 rw[Bool.and_eq_true]at h1
 rw[Nat.eq_of_beq_eq_true h1.1,Nat.eq_of_beq_eq_true h1.2]
def realL(N:Nat→Nat→Bool)(l:List (Nat×Nat)):List (Nat×Nat):=l.filter fun x=> !(N x.1 x.2)
def pairOk(N:Nat→Nat→Bool)(ops:Array Oper)(ms:List Nat)(i j:Nat)(oi oj:Oper)(ri rj:Rec):Bool:=
 (!(isAlloc oj.op)||(newB rj).all fun b=>noBlk b (wsL ri.ws))&&
 ((ms.getD j 0).testBit i||
   (disjL (realL N (wsL ri.ws)) rj.rd&&disjL (realL N (wsL ri.ws)) (wsL rj.ws)&&disjL ri.rd (realL N (wsL rj.ws))&&(!(isAlloc oi.op&& !ri.ws.isEmpty)||(newB ri).all fun b=>noBlk b (wsL rj.ws))&&oi.apart ops oj&&rj.rb.all (fun b=>noBlk b (wsL ri.ws))&&ri.rb.all (fun b=>noBlk b (wsL rj.ws))))
def rowOk(N:Nat→Nat→Bool)(ops:Array Oper)(ms:List Nat)(oi:Oper)(ri:Rec)(i:Nat):List (Oper×Rec)→Nat→Bool
 |[],_=>true
 |(oj,rj)::l,j=>pairOk N ops ms i j oi oj ri rj&&rowOk N ops ms oi ri i l (j+1)
def allOk(N:Nat→Nat→Bool)(ops:Array Oper)(ms:List Nat):List (Oper×Rec)→Nat→Bool
 |[],_=>true
 |(o,r)::l,i=>rowOk N ops ms o r i l (i+1)&&allOk N ops ms l (i+1)
def backOk:List Oper→Nat→Bool
 |[],_=>true
 |o::l,i=>o.after.all (fun e=> !Region.binds .any e||decide (e.on<i))&&backOk l (i+1)
def indep(H:Heap)(ops:Array Oper)(rs:List Rec):Bool:=backOk ops.toList 0&&allOk (nullL H rs) ops (masks ops.toList []) (ops.toList.zip rs) 0
def adraw(E:Env)(ops:Array Oper)(st:St)(K:St→Prop):Prop:=
 adrawRun E ops ops.toList 0 st [] fun rs st'=>indep st.hp ops rs=true∧K st'
theorem disjL_spec{a b:List (Nat×Nat)}(h:disjL a b=true): ∀x,x∈a→x∉b:=fun x hx hb=>by
 have:=List.all_eq_true.1 h x hx
 simp at this
 exact this hb
theorem realL_mem{N:Nat→Nat→Bool}{l:List (Nat×Nat)}{b p:Nat}(h:(b,p)∈l)(hN:N b p=false):(b,p)∈realL N l:=List.mem_filter.2 ⟨h,by simp [hN]⟩
theorem mem_wsL{ws:Ws}{b p:Nat} :(b,p)∈wsL ws↔writes ws b p:=by
 simp only[wsL,List.mem_map,writes]
 constructor
 ·rintro⟨⟨b',p',c⟩,h,e⟩
  simp only[Prod.mk.injEq]at e
  obtain⟨rfl,rfl⟩:=e
  exact⟨c,h⟩
 ·rintro⟨c,h⟩
  exact⟨(b,p,c),h,rfl⟩
theorem noBlk_spec{b:Nat}{l:List (Nat×Nat)}(h:noBlk b l=true): ∀p,(b,p)∉l:=fun p hp=>by
 have:=List.all_eq_true.1 h _ hp
 simp at this
theorem rowOk_at{N:Nat→Nat→Bool}{ops:Array Oper}{ms:List Nat}{oi:Oper}{ri:Rec}{i:Nat} : ∀(l:List (Oper×Rec)) (k:Nat),rowOk N ops ms oi ri i l k=true→ ∀(j:Nat) oj rj,l[j]? =some (oj,rj)→pairOk N ops ms i (k+j) oi oj ri rj=true
 |[],_,_,j,oj,rj,h=>by simp at h
 |(o,r)::l,k,h,j,oj,rj,hj=>by
  simp only[rowOk,Bool.and_eq_true]at h
  cases j with
  |zero=>simp at hj;obtain⟨rfl,rfl⟩:=hj;exact h.1
  |succ j=>
   have:=rowOk_at l (k+1) h.2 j oj rj (by simpa using hj)
   rwa [show k+1+j=k+(j+1) by omega]at this
theorem allOk_at{N:Nat→Nat→Bool}{ops:Array Oper}{ms:List Nat} : ∀(l:List (Oper×Rec)) (k:Nat),allOk N ops ms l k=true→ ∀(i j:Nat) oi ri oj rj,i<j→l[i]? =some (oi,ri)→l[j]? =some (oj,rj)→pairOk N ops ms (k+i) (k+j) oi oj ri rj=true
 |[],_,_,i,j,oi,ri,oj,rj,_,h,_=>by simp at h
 |(o,r)::l,k,h,i,j,oi,ri,oj,rj,hij,hi,hj=>by
  simp only[allOk,Bool.and_eq_true]at h
  obtain⟨j,rfl⟩: ∃j',j=j'+1:=⟨j-1,by omega⟩
  cases i with
  |zero=>
   simp at hi
   obtain⟨rfl,rfl⟩:=hi
   have:=rowOk_at l (k+1) h.1 j oj rj (by simpa using hj)
   rwa [show k+1+j=k+(j+1) by omega]at this
  |succ i=>
   have:=allOk_at l (k+1) h.2 i j oi ri oj rj (by omega) (by simpa using hi) (by simpa using hj)
   rwa [show k+1+i=k+(i+1) by omega,show k+1+j=k+(j+1) by omega]at this
theorem backOk_at: ∀(l:List Oper) (k:Nat),backOk l k=true→ ∀(i:Nat) o,l[i]? =some o→ ∀e∈o.after,Region.binds .any e=true→e.on<k+i
 |[],_,_,i,o,h=>by simp at h
 |o::l,k,h,i,o',hi=>by
  simp only[backOk,Bool.and_eq_true]at h
  cases i with
  |zero=>
   simp at hi
   subst hi
   intro e he hb
   have:=Array.all_eq_true_iff_forall_mem.1 h.1 e he
   simpa[hb]using this
  |succ i=>
   have:=backOk_at l (k+1) h.2 i o' (by simpa using hi)
   intro e he hb
   have:=this e he hb
   omega
theorem maskOf_bits{acc:List Nat}{i:Nat} : ∀(es:List Edge) (m:Nat),(es.foldl (fun m e=>if Region.binds .any e then m|||2^e.on|||acc.getD e.on 0 else m) m).testBit i=true→
  m.testBit i=true∨ ∃e∈es,Region.binds .any e=true∧(i=e.on∨(acc.getD e.on 0).testBit i=true)
 |[],m,h=> .inl h
 |e::es,m,h=>by
  simp only[List.foldl_cons]at h
  rcases maskOf_bits es _ h with h|⟨e',he',hb,hr⟩
  ·split at h
   ·rename_i hb
    simp only[Nat.testBit_or,Bool.or_eq_true]at h
    rcases h with(h|h)|h
    ·exact .inl h
    ·refine .inr ⟨e,by simp,hb,.inl ?_⟩
     rw[Nat.testBit_two_pow]at h
     exact(of_decide_eq_true h).symm
    ·exact .inr ⟨e,by simp,hb,.inr h⟩
   ·exact .inl h
  ·exact .inr ⟨e',by simp [he'],hb,hr⟩
theorem masks_spec{L:Nat→Prop} : ∀(l:List Oper) (done:List Oper) (acc:List Nat),acc.length=done.length→
  (∀(j:Nat) o,(done++l)[j]? =some o→L j→ ∀e∈o.after,Region.binds .any e=true→L e.on)→
  (∀(j:Nat) o i,done[j]? =some o→(acc.getD j 0).testBit i=true→(∀e∈o.after,Region.binds .any e=true→L e.on)→L i)→
  ∀(j:Nat) o i,(done++l)[j]? =some o→((masks l acc).getD j 0).testBit i=true→(∀e∈o.after,Region.binds .any e=true→L e.on)→L i
 |[],done,acc,hlen,_,hacc=>by simpa[masks]using hacc
 |x::l,done,acc,hlen,hcl,hacc=>by
  have:=masks_spec l (done++[x]) (acc++[maskOf x.after.toList acc]) (by simp [hlen]) (by simpa using hcl) (fun j o i hj hb he=>by
   rcases Nat.lt_or_ge j done.length with h|h
   ·rw[List.getElem?_append_left h]at hj
    have:(acc++[maskOf x.after.toList acc]).getD j 0=acc.getD j 0:=by simp [List.getD,List.getElem?_append_left (by omega:j<acc.length)]
    rw[this]at hb
    exact hacc j o i hj hb he
   ·have hjl:j=done.length:=by
     rcases Nat.lt_or_ge j (done.length+1)with h'|h'
     ·omega
     ·rw[List.getElem?_eq_none (by simpa using h')]at hj;cases hj
    subst hjl
    simp at hj
    subst hj
    have:(acc++[maskOf x.after.toList acc]).getD done.length 0=maskOf x.after.toList acc:=by simp [List.getD,←hlen]
    rw[this]at hb
    rcases maskOf_bits _ _ hb with h0|⟨e,he1,he2,he3⟩
    ·simp at h0
    ·have hLe:=he e (by simpa using he1) he2
     rcases he3 with rfl|he3
     ·exact hLe
     ·have hlt:e.on<done.length:=by
       rcases Nat.lt_or_ge e.on acc.length with h|h
       ·omega
       ·simp [List.getD,List.getElem?_eq_none h]at he3
      have hex:done[e.on]? =some done[e.on]:=List.getElem?_eq_getElem hlt
      exact hacc e.on _ i hex he3 (hcl e.on _ (by rw[List.getElem?_append_left hlt];exact hex) hLe))
  simpa[masks]using this
theorem cnt_set(n:Nat)(p q:Nat→Bool)(i:Nat)(hi:i<n)(h1:p i=true)(h2:q i=false)(h3: ∀k,k≠i→q k=p k):((List.range n).filter p).length=((List.range n).filter q).length+1:=by
 induction n with
 |zero=>omega
 |succ n ih=>
  rw[List.range_succ,List.filter_append,List.filter_append,List.length_append,List.length_append]
  by_cases e:i=n
  ·subst e
   have:(List.range i).filter p=(List.range i).filter q:=by
    apply List.filter_congr
    intro k hk
    exact(h3 k (by have:=List.mem_range.1 hk;omega)).symm
   simp [this,h1,h2]
  ·have:=ih (by omega)
   have h4:=h3 n (by omega)
   simp only[List.filter_cons,List.filter_nil,h4]
   omega
end Go.Vc
namespace Go.Vc
open Go Go.RowKit
theorem acc_congr{L L':Nat→Bool} : ∀(l:List (Oper×Rec)) (k:Nat) (st:St),(∀i,i<l.length→L (k+i)=L' (k+i))→acc L l k st=acc L' l k st
 |[],_,_,_=>rfl
 |(o,r)::l,k,st,h=>by
  rw[acc,acc]
  have h0:=h 0 (by simp)
  rw[Nat.add_zero]at h0
  rw[h0]
  exact acc_congr l (k+1) _ fun i hi=>by have:=h (i+1) (by simp;omega);rwa [show k+(i+1)=k+1+i by omega]at this
theorem acc_succ: ∀(l:List (Oper×Rec)) (k j:Nat) (st:St) o r,l[j]? =some (o,r)→acc (fun i=>decide (i<k+j+1)) l k st=appR o r (acc (fun i=>decide (i<k+j)) l k st)
 |[],_,j,_,o,r,h=>by simp at h
 |(o',r')::l,k,0,st,o,r,h=>by
  simp at h
  obtain⟨rfl,rfl⟩:=h
  rw[acc,acc]
  have h1:decide (k<k+0+1)=true:=by simp
  have h2:decide (k<k+0)=false:=by simp
  rw[h1,h2,acc_false _ _ _ (fun i hi=>by simp;omega),acc_false _ _ _ (fun i hi=>by simp;omega)]
  rfl
 |(o',r')::l,k,j+1,st,o,r,h=>by
  rw[acc,acc]
  have h1:decide (k<k+(j+1)+1)=true:=by simp;omega
  have h2:decide (k<k+(j+1))=true:=by simp
  rw[h1,h2]
  have:=acc_succ l (k+1) j (appR o' r' st) o r (by simpa using h)
  simp only[cond_true]
  rw[show k+(j+1)=k+1+j by omega]
  exact this
theorem evalA_congr{tm tm':List AV}{x:Operand}(h: ∀t,x= .tmp t→tm'[t]? =tm[t]?):evalA tm' x=evalA tm x:=by
 cases x with
 |tmp t=>simp only[evalA,List.getD,h t rfl]
 |_=>rfl
theorem wantedA_congr{ops:Array Oper}{o:Oper}{tm tm':List AV}(h: ∀t∈o.looksAt ops,tm'[t]? =tm[t]?):wantedA ops o tm'=wantedA ops o tm:=by
 unfold wantedA
 cases hg:o.guard with
 |none=>rfl
 |some q=>
  obtain⟨j,want⟩:=q
  simp only
  cases hd:(ops[j]?).bind (·.dst)with
  |none=>rfl
  |some d=>
   simp only
   have:=h d (by simp [Oper.looksAt,hg,hd])
   simp only[List.getD,this]
theorem looksAt_operand{ops:Array Oper}{o:Oper}{t:Nat}(h: .tmp t∈o.op.operands):t∈o.looksAt ops:=by
 simp only[Oper.looksAt,List.mem_append,List.mem_filterMap]
 exact .inl ⟨.tmp t,by simpa using h,rfl⟩
section
variable {E:Env} {S:Base} {ops:Array Oper} {rs:List Rec} {st0:St} {ι0:Nat→Option Nat}
structure Far (N:Nat→Nat→Bool) (ops:Array Oper) (oj:Oper) (rj:Rec) (ok:Oper) (rk:Rec):Prop where
 rd: ∀b p,N b p=false→writes rk.ws b p→(b,p)∉rj.rd
 ws: ∀b p,N b p=false→writes rk.ws b p→ ¬writes rj.ws b p
 look: ∀t,ok.dst=some t→t∉oj.looksAt ops
 dst: ∀t,ok.dst=some t→oj.dst≠some t
 rb: ∀b,b∈rj.rb→ ∀p,¬writes rk.ws b p
 nb:isAlloc oj.op=true→rj.ws≠[]→ ∀b∈newB rj,∀p,¬writes rk.ws b p
theorem far{H:Heap}(hind:indep H ops rs=true){L:Nat→Bool}(hcl: ∀(j:Nat) o,ops[j]? =some o→L j=true→ ∀e∈o.after,Region.binds .any e=true→L e.on=true)
  {j k:Nat} {oj ok:Oper} {rj rk:Rec} (hj:(ops.toList.zip rs)[j]? =some (oj,rj)) (hk:(ops.toList.zip rs)[k]? =some (ok,rk)) (hjk:k≠j) (hL:L j=false)
  (hr: ∀e∈oj.after,Region.binds .any e=true→L e.on=true):L k=decide (k<j)∨Far (nullL H rs) ops oj rj ok rk:=by
 have hoj:ops[j]? =some oj:=by
  have:=List.getElem?_zip_eq_some.1 hj
  simpa using this.1
 have hok:ops[k]? =some ok:=by
  have:=List.getElem?_zip_eq_some.1 hk
  simpa using this.1
 simp only[indep,Bool.and_eq_true]at hind
 have hspec: ∀(j:Nat) o i,ops[j]? =some o→((masks ops.toList []).getD j 0).testBit i=true→(∀e∈o.after,Region.binds .any e=true→L e.on=true)→L i=true:=fun j o i h1 h2 h3=>
  masks_spec (L:=fun i=>L i=true) ops.toList [] [] rfl (fun j o h h'=>hcl j o (by simpa using h) h') (fun j o i h=>by simp at h) j o i (by simpa using h1) h2 h3
 rcases Nat.lt_or_gt_of_ne hjk with hlt|hgt
 ·have hp:=allOk_at _ 0 hind.2 k j ok rk oj rj hlt hk hj
  simp only[pairOk,Bool.and_eq_true,Bool.or_eq_true,Nat.zero_add]at hp
  obtain⟨hA,hp⟩:=hp
  rcases hp with hp|hp
  ·left
   rw[hspec j oj k hoj hp hr]
   simp [hlt]
  ·right
   obtain⟨⟨⟨⟨⟨⟨h1,h2⟩,h3⟩,h4⟩,h5⟩,h6⟩,h7⟩:=hp
   obtain⟨a1,a2,a3⟩:=Oper.apart_spec h5
   refine⟨fun b p hN hw=>disjL_spec h1 _ (realL_mem (mem_wsL.2 hw) hN),fun b p hN hw hw'=>disjL_spec h2 _ (realL_mem (mem_wsL.2 hw) hN) (mem_wsL.2 hw'),fun t ht=>a1 t ht,fun t ht=>a2 t ht,fun b hb p hw=>noBlk_spec (List.all_eq_true.1 h6 b hb) p (mem_wsL.2 hw),fun hal _ b hb p hw=> ?_⟩
   rw[hal]at hA
   exact noBlk_spec (List.all_eq_true.1 (by simpa using hA) b hb) p (mem_wsL.2 hw)
 ·have hp:=allOk_at _ 0 hind.2 j k oj rj ok rk hgt hj hk
  simp only[pairOk,Bool.and_eq_true,Bool.or_eq_true,Nat.zero_add]at hp
  obtain⟨hA,hp⟩:=hp
  rcases hp with hp|hp
  ·left
   have hkf:L k=false:=by
    cases e:L k with
    |false=>rfl
    |true=>
     have:=hspec k ok j hok hp (hcl k ok hok e)
     rw[hL]at this;cases this
   rw[hkf]
   simp;omega
  ·right
   obtain⟨⟨⟨⟨⟨⟨h1,h2⟩,h3⟩,h4⟩,h5⟩,h6⟩,h7⟩:=hp
   obtain⟨a1,a2,a3⟩:=Oper.apart_spec h5
   refine⟨fun b p hN hw hrd=>disjL_spec h3 _ hrd (realL_mem (mem_wsL.2 hw) hN),fun b p hN hw hw'=>disjL_spec h2 _ (realL_mem (mem_wsL.2 hw') hN) (mem_wsL.2 hw),fun t ht=>a3 t ht,fun t ht ht'=>a2 t ht' ht,fun b hb p hw=>noBlk_spec (List.all_eq_true.1 h7 b hb) p (mem_wsL.2 hw),fun hal hne b hb p hw=> ?_⟩
   rw[hal]at h4
   have hne':rj.ws.isEmpty=false:=by cases e:rj.ws with
    |nil=>exact absurd e hne
    |cons=>rfl
   rw[hne']at h4
   exact noBlk_spec (List.all_eq_true.1 (by simpa using h4) b hb) p (mem_wsL.2 hw)
end
end Go.Vc
namespace Go.Vc
open Go Go.RowKit
section
variable {E:Env} {S:Base} {ops:Array Oper} {rs:List Rec} {st0:St} {ι0:Nat→Option Nat}
theorem cellsW_ne{b o:Nat} : ∀{cs:List AV},cs.isEmpty=false→cellsW b cs o≠[]
 |[],h=>by cases h
 |_::_,_=>by simp [cellsW]
theorem resA_nb{nb nb':Nat}{r av0:AV}{ws:Ws}(h:resA nb r ws fun av ws=>av=av0∧ws=[]):resA nb' r ws fun av ws=>av=av0∧ws=[]:=by
 cases r<;>simp only[resA]at h ⊢ <;>first|exact h|exact absurd h.2 (by simp)
theorem hcallA_ws{E:Env}{nb:Nat}{H:Heap}{f:FuncId}{as:List AV}{av0:AV}(hk:hcallA E H nb f as fun av ws=>av=av0∧ws=[]):False:=by
 unfold hcallA at hk
 obtain⟨h1,hk⟩:=chk_iff.1 hk
 cases hs:E.hspec f (as.map (renA (pos (blksOf H as)))) ((blksOf H as).map fun b=>(H.getD b []).map (ren1 (pos (blksOf H as))))with
 |none=>rw[hs]at hk;exact hk
 |some q=>
  obtain⟨pre,rs,ys⟩:=q
  rw[hs]at hk
  obtain⟨h2,hk⟩:=preP_iff.1 hk
  obtain⟨h3,_,hw⟩:=chk_iff.1 hk
  simp only[Bool.and_eq_true,Bool.not_eq_true']at h1 h3
  obtain⟨⟨_,hlv⟩,_⟩:=h1
  obtain⟨⟨⟨h0,hl⟩,_⟩,_⟩:=h3
  cases ys with
  |nil=>cases h0
  |cons y ys=>
   have hy:y≠[]:=by
    cases eL:blksOf H as with
    |nil=>
     rw[eL]at hl
     simp only[sameLen,List.all_cons,Bool.and_eq_true]at hl
     intro e;rw[e]at hl;cases hl.1
    |cons b L=>
     rw[eL]at hl hlv
     have hb:=List.all_eq_true.1 hlv b (by simp)
     simp only[Bool.and_eq_true]at hb
     obtain⟨_,z,zs,hz⟩:=liveB_spec hb.1
     simp only[sameLen,Bool.and_eq_true]at hl
     have:=Nat.eq_of_beq_eq_true hl.1
     rw[hz]at this
     intro e;rw[e]at this;simp at this
   cases y with
   |nil=>exact hy rfl
   |cons c y=>simp [backWs,cellsW]at hw
theorem aop_nb{E:Env}{nb nb':Nat}{tm:List AV}{H:Heap}{op:Op}{av0:AV}(hal:isAlloc op=true)(h:aop E nb tm H op fun av ws=>av=av0∧ws=[]):aop E nb' tm H op fun av ws=>av=av0∧ws=[]:=by
 cases op<;>simp only[isAlloc]at hal<;>try (cases hal;done)
 case alloc T=>
  simp only[aop,withTy]at h ⊢
  split at h
  ·simp only[chk_iff,Bool.not_eq_true']at h
   exact absurd h.2.2 (cellsW_ne h.1)
  ·exact h.elim
 case box T x=>
  simp only[aop,chk_iff,Bool.and_eq_true,Bool.not_eq_true']at h
  exact absurd h.2.2 (cellsW_ne h.1.2)
 case buildSlice T len ps=>
  simp only[aop,withTy]at h
  split at h
  ·unfold buildSliceA at h
   split at h
   ·split at h
    ·obtain⟨_,h⟩:=chk_iff.1 h
     obtain⟨_,_,_,_,_,h2⟩:=frzLs_split h
     simp at h2
    ·exact h.elim
   ·exact h.elim
  ·exact h.elim
 case makeSlice T l c=>
  simp only[aop,withTy]at h
  split at h
  ·unfold makeSliceA at h
   split at h
   ·split at h
    ·split at h
     ·split at h
      ·obtain⟨_,_,_,h2⟩:=chk_iff.1 h
       cases h2
      ·exact h.elim
     ·exact h.elim
    ·exact h.elim
   ·exact h.elim
  ·exact h.elim
 case call c=>
  simp only[aop]at h ⊢
  cases ec:c.callee with
  |value f=>
   rw[ec]at h
   simp only at h ⊢
   unfold callV at h ⊢
   split at h
   ·rename_i g caps ef
    cases ep:isH E.ho g (c.args.toList.map (evalA tm)++caps)with
    |true=>
     rw[ep]at h
     simp only at h
     exact(hcallA_ws h).elim
    |false=>
    rw[ep]at h
    simp only at h ⊢
    obtain⟨h1,h⟩:=chk_iff.1 h
    refine chk_iff.2 ⟨h1,?_⟩
    unfold callA at h ⊢
    refine frzAs_mono (fun y hy=> ?_) h
    revert hy
    split
    ·intro hy
     obtain⟨h3,h4⟩:=preP_iff.1 hy
     exact preP_iff.2 ⟨h3,resA_nb h4⟩
    ·exact id
   ·exact h.elim
  |invoke r m=>rw[ec]at hal;cases hal
  |builtin b=>
   rw[ec]at h hal
   cases b<;>simp only at hal h ⊢ <;>try (cases hal;done)
   split at h
   ·simp only[withTy]at h
    split at h
    ·split at h
     ·obtain⟨_,h⟩:=chk_iff.1 h
      unfold appendA at h
      split at h
      ·obtain⟨_,h⟩:=chk_iff.1 h
       have key: ∀{y:AV} {K:Nat→(Nat→List AV)→Prop},(∀m g,¬K m g)→ ∀{str:Bool} {esz:Nat},¬srcA H str esz y K:=fun {y K} hK str esz hs=>by
        cases y<;>simp only[srcA]at hs<;>first|exact hs|exact hK _ _ (chk_iff.1 hs).2|skip
        split at hs
        ·exact hK _ _ (chk_iff.1 hs).2.2
        ·exact hs
       refine absurd h (key fun m g hh=> ?_)
       split at hh
       ·cases hh.2.2
       ·split at hh
        ·obtain⟨_,_,_,_,_,hh⟩:=chk_iff.1 hh
         cases hh.2
        ·exact hh
       ·obtain⟨_,_,_,_,_,hh⟩:=chk_iff.1 hh
        cases hh.2
       ·exact hh
      ·exact h.elim
     ·exact h.elim
    ·exact h.elim
   ·exact h.elim
structure Inv (S:Base) (ops:Array Oper) (z:List (Oper×Rec)) (st0:St) (ι0:Nat→Option Nat) (listed:Array Bool) (a:Act) (w:World):Prop where
 size:listed.size=ops.size
 closed: ∀(j:Nat) o,ops[j]? =some o→listed.getD j false=true→ ∀e∈o.after,Region.binds .any e=true→listed.getD e.on false=true
 sim: ∃ι,Sim S ι (acc (fun i=>listed.getD i false) z 0 st0) a w∧ ∀b,ι b≠none→ι0 b≠none∨ ∃(i:Nat) (o:Oper) (r:Rec) (p:Nat),listed.getD i false=true∧z[i]? =some (o,r)∧writes r.ws b p
theorem hwr_null{b p:Nat}{v:AV} : ∀(ws:Ws) (H:Heap),hget H b p=v→(∀c,(b,p,c)∈ws→c=v)→hget (hwr H ws) b p=v
 |[],_,h,_=>h
 |(b',p',c)::ws,H,h,hc=>by
  rw[hwr]
  refine hwr_null ws _ ?_ fun c' h'=>hc c' (List.mem_cons_of_mem _ h')
  rw[hget_hset]
  by_cases e:b=b'∧p=p'
  ·obtain⟨rfl,rfl⟩:=e
   rw[if_pos ⟨rfl,rfl⟩]
   exact hc c (List.mem_cons_self ..)
  ·rw[if_neg e];exact h
theorem acc_null{L:Nat→Bool}{b p:Nat}{v:AV} : ∀(l:List (Oper×Rec)) (k:Nat) (st:St),hget st.hp b p=v→(∀o r,(o,r)∈l→ ∀c,(b,p,c)∈r.ws→c=v)→hget (acc L l k st).hp b p=v
 |[],_,_,h,_=>h
 |(o,r)::l,k,st,h,hl=>by
  rw[acc]
  refine acc_null l (k+1) _ ?_ fun o' r' h'=>hl o' r' (List.mem_cons_of_mem _ h')
  cases L k
  ·exact h
  ·exact hwr_null r.ws st.hp h (hl o r (List.mem_cons_self ..))
theorem getD_default{l:Array Bool}{i:Nat}(h:i<l.size)(d d':Bool):l.getD i d=l.getD i d':=by simp [h]
theorem step_any(hE:E.Ok){Q:Exit→Act→World→Prop}{st':St}(hch:Chain E ops ops.toList st0 rs st')(hind:indep st0.hp ops rs=true)(hdom0: ∀b x,ι0 b=some x→b<st0.hp.length)
  {listed:Array Bool} {a:Act} {w:World} (hI:Inv S ops (ops.toList.zip rs) st0 ι0 listed a w) {j:Nat} (hj:j∈Region.ready .any ops listed) {next:Act→World→Prop}
  (hn: ∀a w,Inv S ops (ops.toList.zip rs) st0 ι0 (listed.setIfInBounds j true) a w→next a w):wpOp E.P ops Q j next a w:=by
 obtain⟨hun,oj,hoj,hall⟩:=mem_ready.1 hj
 obtain⟨hlen,_,hat⟩:=hch.at 0
 have hjs:j<ops.size:=(Array.getElem?_eq_some_iff.1 hoj).1
 have hjr:j<rs.length:=by rw[←hlen];simpa using hjs
 obtain⟨rj,hrj⟩: ∃rj,rs[j]? =some rj:=⟨_,List.getElem?_eq_getElem hjr⟩
 have hzj:(ops.toList.zip rs)[j]? =some (oj,rj):=List.getElem?_zip_eq_some.2 ⟨by simpa using hoj,hrj⟩
 have hop:=hat j oj rj hzj
 rw[Nat.zero_add]at hop
 obtain⟨ι,hsim,hι⟩:=hI.sim
 have hnull: ∀b p,nullL st0.hp rs b p=true→ ∀o r,(o,r)∈ops.toList.zip rs→ ∀c,(b,p,c)∈r.ws→c=hget st0.hp b p:=fun b p hN o r hm c hc=>nullL_spec hN (List.of_mem_zip hm).2 hc
 generalize hz:ops.toList.zip rs=z at*
 let L:Nat→Bool:=fun i=>listed.getD i false
 let T:Nat→Bool:=fun i=>decide (i<j)
 have hLj:L j=false:=by
  have:listed.getD j false=listed.getD j true:=getD_default (by rw[hI.size];exact hjs) _ _
  show listed.getD j false=false
  rw[this];exact hun
 have hfar: ∀(k:Nat) ok rk,z[k]? =some (ok,rk)→k≠j→L k=T k∨Far (nullL st0.hp rs) ops oj rj ok rk:=fun k ok rk hk hkj=>by
  subst hz
  exact far hind (L:=L) hI.closed hzj hk hkj hLj hall
 have htm: ∀t∈oj.looksAt ops,(acc L z 0 st0).tm[t]? =(acc T z 0 st0).tm[t]? :=fun t ht=>by
  refine acc_tm z 0 st0 st0 rfl fun k o r hk hd=> ?_
  rw[Nat.zero_add]
  by_cases e:k=j
  ·subst e;rw[hLj];simp [T]
  ·exact(hfar k o r hk e).elim id fun hf=>absurd ht (hf.look t hd)
 have hwant:wantedA ops oj (acc L z 0 st0).tm=some rj.run:=by rw[wantedA_congr htm];exact hop.wanted
 have hw:=wanted_of hsim hwant
 let L':Nat→Bool:=fun i=>(listed.setIfInBounds j true).getD i false
 have hL': ∀i,L' i=if i=j then true else L i:=fun i=>by
  by_cases e:i=j
  ·subst e
   simp [L',hI.size,hjs]
  ·rw[if_neg e]
   exact getD_set_ne false (fun e'=>e e'.symm)
 have hT':acc (fun i=>decide (i<j+1)) z 0 st0=appR oj rj (acc T z 0 st0):=by
  have:=acc_succ z 0 j st0 oj rj hzj
  simpa[T]using this
 have fin: ∀(ι2:Nat→Option Nat) (a':Act) (w':World),Sim S ι2 (appR oj rj (acc L z 0 st0)) a' w'→(∀b,ι2 b≠none→ι b≠none∨ ∃p c,(b,p,c)∈rj.ws)→next a' w':=fun ι2 a' w' hs hb=>by
  refine hn a' w' ⟨by simp [hI.size],fun k ok hk hlk=> ?_,ι2,?_,fun b hb2=> ?_⟩
  ·intro e he hbi
   by_cases ek:k=j
   ·subst ek
    rw[hoj]at hk;cases hk
    exact getD_set_true (hall e he hbi)
   ·rw[getD_set_ne false (fun e'=>ek e'.symm)]at hlk
    exact getD_set_true (hI.closed k ok hk hlk e he hbi)
  ·have htm2:(acc L' z 0 st0).tm=(appR oj rj (acc L z 0 st0)).tm:=by
    apply List.ext_getElem?
    intro t
    by_cases ed:oj.dst=some t
    ·have h1:(acc L' z 0 st0).tm[t]? =(acc (fun i=>decide (i<j+1)) z 0 st0).tm[t]? :=by
      refine acc_tm z 0 st0 st0 rfl fun k o r hk hd=> ?_
      rw[Nat.zero_add,hL']
      by_cases e:k=j
      ·subst e;simp
      ·rw[if_neg e]
       refine(hfar k o r hk e).elim (fun h=> ?_) fun hf=>absurd ed (hf.dst t hd)
       rw[h];simp only[T]
       congr 1;exact propext ⟨fun h=>by omega,fun h=>by omega⟩
     rw[h1,hT']
     simp only[appR,dstA_get,ed,if_true]
     have l1:=(acc_len (L:=T) z 0 st0).1
     have l2:=(acc_len (L:=L) z 0 st0).1
     rcases Nat.lt_or_ge t st0.tm.length with h|h
     ·rw[List.getElem?_eq_getElem (by omega),List.getElem?_eq_getElem (by omega)];rfl
     ·rw[List.getElem?_eq_none (by omega),List.getElem?_eq_none (by omega)]
    ·simp only[appR,dstA_get,ed,if_false]
     refine acc_tm z 0 st0 st0 rfl fun k o r hk hd=> ?_
     rw[Nat.zero_add,hL']
     by_cases e:k=j
     ·subst e;rw[hzj]at hk;cases hk;exact absurd hd ed
     ·rw[if_neg e]
   have hhp2: ∀b p,hget (acc L' z 0 st0).hp b p=hget (appR oj rj (acc L z 0 st0)).hp b p:=fun b p=>by
    by_cases hN:nullL st0.hp rs b p=true
    ·have h1:=acc_null (L:=L') z 0 st0 rfl (hnull b p hN)
     have h2:=acc_null (L:=L) z 0 st0 rfl (hnull b p hN)
     rw[h1]
     exact(hwr_null rj.ws _ h2 (hnull b p hN oj rj (List.mem_of_getElem? hzj))).symm
    have hN:nullL st0.hp rs b p=false:=by simpa using hN
    by_cases ew:writes rj.ws b p
    ·have h1:hget (acc L' z 0 st0).hp b p=hget (acc (fun i=>decide (i<j+1)) z 0 st0).hp b p:=by
      refine acc_hp z 0 st0 st0 rfl fun k o r hk hd=> ?_
      rw[Nat.zero_add,hL']
      by_cases e:k=j
      ·subst e;simp
      ·rw[if_neg e]
       refine(hfar k o r hk e).elim (fun h=> ?_) fun hf=>absurd ew (hf.ws b p hN hd)
       rw[h];simp only[T]
       congr 1;exact propext ⟨fun h=>by omega,fun h=>by omega⟩
     rw[h1,hT']
     exact hwr_get_yes _ _ _ _ _ (.inl ew)
    ·rw[show hget (appR oj rj (acc L z 0 st0)).hp b p=hget (acc L z 0 st0).hp b p from hwr_get_not _ _ _ _ ew]
     refine acc_hp z 0 st0 st0 rfl fun k o r hk hd=> ?_
     rw[Nat.zero_add,hL']
     by_cases e:k=j
     ·subst e;rw[hzj]at hk;cases hk;exact absurd hd ew
     ·rw[if_neg e]
   have hlen2:=acc_len (L:=L') z 0 st0
   show Sim S ι2 ⟨(acc L' z 0 st0).tm,(acc L' z 0 st0).hp⟩ a' w'
   rw[htm2]
   refine Sim.ext (H:=(appR oj rj (acc L z 0 st0)).hp) hs hhp2 fun b x hx=> ?_
   rcases hb b (by rw[hx];simp)with h|⟨p,c,hc⟩
   ·rcases hι b h with h|⟨i,o,r,p,h1,h2,h3⟩
    ·cases e:ι0 b with
     |none=>exact absurd e h
     |some y=>exact Nat.lt_of_lt_of_le (hdom0 b y e) hlen2.2.1
    ·refine hlen2.2.2 i o r h2 ?_ b p h3
     rw[Nat.zero_add,hL']
     by_cases e:i=j
     ·rw[if_pos e]
     ·rw[if_neg e];exact h1
   ·exact hlen2.2.2 j oj rj hzj (by rw[Nat.zero_add,hL',if_pos rfl]) b p ⟨c,hc⟩
  ·rcases hb b hb2 with h|⟨p,c,hc⟩
   ·rcases hι b h with h|⟨i,o,r,p,h1,h2,h3⟩
    ·exact .inl h
    ·exact .inr ⟨i,o,r,p,getD_set_true h1,h2,h3⟩
   ·exact .inr ⟨j,oj,rj,p,by simp [hI.size,hjs],hzj,⟨c,hc⟩⟩
 unfold wpOp
 rw[hoj]
 simp only
 rw[hw]
 cases hrun:rj.run with
 |false=>
  obtain⟨h1,h2⟩:=hop.no hrun
  rw[if_neg (by simp)]
  refine fin ι _ w ?_ fun b hb=> .inl hb
  have:=Sim.dst hsim oj.dst (av:= .gone) (v:=undef) rfl
  simp only[appR,h1,h2,hwr]
  exact this
 |true=>
  rw[if_pos rfl]
  left
  obtain⟨⟨av0,h1,hlit⟩,h2,h2b,h3⟩:=hop.yes hrun
  have hloc:aop E rj.nb (acc L z 0 st0).tm (acc L z 0 st0).hp oj.op (fun av ws=>av=av0∧ws=rj.ws):=by
   refine aop_local (tm:=(acc T z 0 st0).tm) (H:=(acc T z 0 st0).hp) (fun x hx=>evalA_congr fun t e=>htm t (by subst e;exact looksAt_operand hx)) (fun l hl=> ?_) (fun b hb=> ?_) h1
   ·by_cases hN:nullL st0.hp rs l.1 l.2=true
    ·rw[acc_null (L:=L) z 0 st0 rfl (hnull _ _ hN),acc_null (L:=T) z 0 st0 rfl (hnull _ _ hN)]
    have hN:nullL st0.hp rs l.1 l.2=false:=by simpa using hN
    refine acc_hp z 0 st0 st0 rfl fun k o r hk hd=> ?_
    rw[Nat.zero_add]
    by_cases e:k=j
    ·subst e;rw[hLj];simp [T]
    ·exact(hfar k o r hk e).elim id fun hf=>absurd (by rw[h2];exact hl) (hf.rd l.1 l.2 hN hd)
   ·refine acc_blk z 0 st0 st0 rfl fun k o r hk ⟨p,hd⟩=> ?_
    rw[Nat.zero_add]
    by_cases e:k=j
    ·subst e;rw[hLj];simp [T]
    ·exact(hfar k o r hk e).elim id fun hf=>absurd hd (hf.rb b (by rw[h2b];exact hb) p)
  obtain⟨nb,Nw,hloc,hfree,hKn⟩: ∃(nb:Nat) (Nw:Nat→Prop),aop E nb (acc L z 0 st0).tm (acc L z 0 st0).hp oj.op (fun av ws=>av=av0∧ws=rj.ws)∧(isAlloc oj.op=true→Nw nb∧ ∀b,Nw b→(∀p,hget (acc L z 0 st0).hp b p= .undef)∧ι b=none)∧
    ∀(av:AV) (ws:Ws),(av=av0∧ws=rj.ws)→ ∀b p c,(b,p,c)∈ws→nb<b→Nw b:=by
   by_cases hws:rj.ws=[]∧isAlloc oj.op=true
   ·refine⟨(acc L z 0 st0).hp.length,fun b=>b=(acc L z 0 st0).hp.length,by rw[hws.1]at hloc ⊢;exact aop_nb hws.2 hloc,fun _=>⟨rfl,fun b hb=> ?_⟩,fun av ws h b p c hm=>by rw[h.2,hws.1]at hm;cases hm⟩
    subst hb
    refine⟨fun p=>hget_ge (Nat.le_refl _) p,?_⟩
    cases e:ι (acc L z 0 st0).hp.length with
    |none=>rfl
    |some x=>exact absurd (hsim.dom _ x e) (Nat.lt_irrefl _)
   refine⟨rj.nb,(· ∈newB rj),hloc,fun hal=>⟨by simp [newB],fun b hbn=> ?_⟩,fun av ws h b p c hm hb=>newB_has (by rw[←h.2];exact hm) hb⟩
   have hne:rj.ws≠[]:=fun e=>hws ⟨e,hal⟩
   have hge:(acc T z 0 st0).hp.length≤b:=Nat.le_trans h3 (newB_ge hbn)
   refine⟨fun p=> ?_,?_⟩
   ·have:hget (acc L z 0 st0).hp b p=hget (acc T z 0 st0).hp b p:=by
     refine acc_hp z 0 st0 st0 rfl fun k o r hk hd=> ?_
     rw[Nat.zero_add]
     by_cases e:k=j
     ·subst e;rw[hLj];simp [T]
     ·exact(hfar k o r hk e).elim id fun hf=>absurd hd (hf.nb hal hne b hbn p)
    rw[this]
    exact hget_ge hge p
   ·cases e:ι b with
    |none=>rfl
    |some x=>
     exfalso
     rcases hι b (by rw[e];simp)with h|⟨i,o,r,p,g1,g2,g3⟩
     ·cases e0:ι0 b with
      |none=>exact h e0
      |some y=>
       have q1:=hdom0 _ y e0
       have q2:=(acc_len (L:=T) z 0 st0).2.1
       omega
     ·by_cases ei:i=j
      ·subst ei;rw[show L i=listed.getD i false from rfl,g1]at hLj;cases hLj
      ·rcases hfar i o r g2 ei with hf|hf
       ·rw[show L i=listed.getD i false from rfl,g1]at hf
        have hij:i<j:=by simpa[T]using hf.symm
        subst hz
        simp only[indep,Bool.and_eq_true]at hind
        have hp:=allOk_at _ 0 hind.2 i j o r oj rj hij g2 hzj
        simp only[pairOk,Bool.and_eq_true,Bool.or_eq_true]at hp
        have hA:=hp.1
        rw[hal]at hA
        exact noBlk_spec (List.all_eq_true.1 (by simpa using hA) b hbn) p (mem_wsL.2 g3)
       ·exact hf.nb hal hne b hbn p g3
  refine aop_sound hE hsim (nb:=nb) (Nw:=Nw) hfree hKn hloc fun ι2 av ws v w' hK hs hv hb=> ?_
  ·obtain⟨rfl,rfl⟩:=hK
   exact fin ι2 _ w' (Sim.dst hs oj.dst (hlit.rel hv)) hb
theorem any_sound(hE:E.Ok){Q:Exit→Act→World→Prop}{st':St}(hch:Chain E ops ops.toList st0 rs st')(hind:indep st0.hp ops rs=true)(hdom0: ∀b x,ι0 b=some x→b<st0.hp.length)
  (hq: ∀ι a w,Sim S ι st' a w→Q .normal a w): ∀(fuel:Nat) (listed:Array Bool) (a:Act) (w:World),Inv S ops (ops.toList.zip rs) st0 ι0 listed a w→
  ((List.range ops.size).filter fun i=> !listed.getD i false).length=fuel→wpAny E.P .any ops Q fuel listed a w:=by
 intro fuel
 induction fuel with
 |zero=>
  intro listed a w hI hc
  have hall: ∀i,i<ops.size→listed.getD i false=true:=fun i hi=>by
   cases e:listed.getD i false with
   |true=>rfl
   |false=>
    have:i∈(List.range ops.size).filter fun i=> !listed.getD i false:=by exact List.mem_filter.2 ⟨List.mem_range.2 hi,by simp only[e];rfl⟩
    rw[List.length_eq_zero_iff.1 hc]at this
    cases this
  refine⟨?_,?_⟩
  ·apply List.eq_nil_iff_forall_not_mem.2
   intro i hi
   obtain⟨h1,o,h2,_⟩:=mem_ready.1 hi
   have his:i<ops.size:=(Array.getElem?_eq_some_iff.1 h2).1
   have:=hall i his
   rw[getD_default (by rw[hI.size];exact his) false true,h1]at this
   cases this
  ·obtain⟨ι,hs,_⟩:=hI.sim
   obtain⟨hl,he,_⟩:=hch.at 0
   refine hq ι a w ?_
   rw[he]
   rwa [acc_congr (L':=fun _=>true) _ _ _ (fun i hi=>by rw[Nat.zero_add];exact hall i (by simp at hi;omega))]at hs
 |succ fuel ih=>
  intro listed a w hI hc
  refine⟨fun hr=> ?_,fun i hi=> ?_⟩
  ·exfalso
   have hne:(List.range ops.size).filter (fun i=> !listed.getD i false)≠[]:=fun e=>by rw[e]at hc;simp at hc
   have hex: ∃i,i<ops.size∧listed.getD i false=false:=by
    obtain⟨i,hi⟩:=List.exists_mem_of_ne_nil _ hne
    simp at hi
    exact⟨i,hi.1,by simp [hi.2]⟩
   obtain⟨i,⟨hi1,hi2⟩,hmin⟩: ∃i,(i<ops.size∧listed.getD i false=false)∧ ∀k,k<i→ ¬(k<ops.size∧listed.getD k false=false):=by
    obtain⟨i0,h0⟩:=hex
    induction i0 using Nat.strongRecOn with
    |_ n ihn=>
     by_cases h: ∃k,k<n∧(k<ops.size∧listed.getD k false=false)
     ·obtain⟨k,h1,h2⟩:=h
      exact ihn k h1 h2
     ·exact⟨n,h0,fun k hk hk'=>h ⟨k,hk,hk'⟩⟩
   simp only[indep,Bool.and_eq_true]at hind
   have hoi:ops[i]? =some ops[i]:=Array.getElem?_eq_getElem hi1
   have hmem:i∈Region.ready .any ops listed:=mem_ready.2 ⟨by rw[getD_default (by rw[hI.size];exact hi1) true false];exact hi2,ops[i],hoi,fun e he hb=>by
    have:=backOk_at ops.toList 0 hind.1 i ops[i] (by simp) e he hb
    rw[Nat.zero_add]at this
    have hn:=hmin e.on this
    cases hc:listed.getD e.on false with
    |true=>rfl
    |false=>exact absurd ⟨by omega,hc⟩ hn⟩
   rw[hr]at hmem
   cases hmem
  ·refine step_any hE hch hind hdom0 hI hi fun a' w' hI'=>ih _ a' w' hI' ?_
   obtain⟨h1,o,h2,_⟩:=mem_ready.1 hi
   have his:i<ops.size:=(Array.getElem?_eq_some_iff.1 h2).1
   have hif:listed.getD i false=false:=by rw[getD_default (by rw[hI.size];exact his) false true];exact h1
   have:=cnt_set ops.size (fun i=> !listed.getD i false) (fun k=> !(listed.setIfInBounds i true).getD k false) i his (by simp only[hif];rfl) (by
    have:(listed.setIfInBounds i true).getD i false=true:=by simp [hI.size,his]
    simp only[this];rfl) (fun k hk=>by simp only[getD_set_ne false (fun e=>hk e.symm)])
   omega
theorem adraw_sound(hE:E.Ok){id:Nat}{Q:Exit→Act→World→Prop}{ι:Nat→Option Nat}{st:St}{a:Act}{w:World}{K:St→Prop}(h:Sim S ι st a w)(hk:adraw E ops st K)
  (hq: ∀ι st a w,Sim S ι st a w→K st→Q .normal a w):(Code.region id ops true).wp E.P Q a w:=by
 obtain⟨rs,st',hch,hind,hK⟩:=adrawRun_chain _ _ _ _ _ hk
 simp only[List.reverse_nil,List.nil_append]at hind
 refine wp_region_any hE.mixed ?_
 have hw:Sim S ι st a w.drew:=(h.world (w':=w.drew) ⟨rfl,rfl,rfl,Nat.le_refl _,fun _ _=>rfl⟩).1
 refine any_sound hE hch hind h.dom (fun ι a w hs=>hq ι st' a w hs hK) ops.size (Array.replicate ops.size false) a w.drew ⟨by simp,fun j o hj hl=> ?_,ι,?_,fun b hb=> .inl hb⟩ ?_
 ·have:(Array.replicate ops.size false).getD j false=false:=by
   by_cases e:j<ops.size<;>simp [e]
  rw[this]at hl;cases hl
 ·rw[acc_false _ _ _ (fun i _=>by by_cases e:i<ops.size<;>simp [e])]
  exact hw
 ·have:((List.range ops.size).filter fun i=> !(Array.replicate ops.size false).getD i false)=List.range ops.size:=by
   apply List.filter_eq_self.2
   intro i hi
   have:=List.mem_range.1 hi
   simp [this]
  rw[this];simp
end
end Go.Vc
