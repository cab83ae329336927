/-
  A GENERATOR OF CONDITIONS over the model's code, proved sound once: what it asks of a function's body gives the run of that body. By an AI agent; no person has read it. Part 1: values with their meaning in a world; a step of the run keeps them.
-/
import Derived.Tactics
import Derived.Orders
import Derived.Below
import Derived.Laws.Cells
import Derived.Laws.World
import Derived.Laws.Rows
import Derived.KernelRfl
set_option linter.all false
namespace Go.Vc
open Go Go.RowKit
inductive AV where
 |undef
 |int (k:IntKind) (n:Int)
 |bool (b:Bool)
 |lit (b:Bool)
 |gone
 |str (s:ByteArray)
 |nils
 |arr (sz n:Nat) (f:Nat→List AV)
 |own (b n:Nat)
 |blk (ro:Bool) (sz n:Nat) (f:Nat→List AV)
 |ptr (b o:Nat)
 |eptr (b n i o:Nat)
 |ref (cs:List AV)
 |fn (f:FuncId) (caps:List AV)
 |agg (cs:List AV)
 |tup (vs:List AV)
 |nilp
 |capd (sz n:Nat) (f:Nat→List AV)
instance:Inhabited AV:=⟨.undef⟩
def globTab:List (Nat×List AV):=[(0,[.int .i64 22,.str ⟨#[]⟩,.str ⟨#[]⟩,.str ⟨#[]⟩,.int .i64 0])]
def globAV(g:Nat):List (Nat×List AV)→AV
 |[]=> .undef
 |x::l=>match Nat.beq g x.1 with
  |true=> .ref x.2
  |false=>globAV g l
abbrev BIG:Nat:=549755813888
def one:Value→Bool
 | .agg _=>false
 | .tuple _=>false
 |_=>true
def All2{α β:Type}(R:α→β→Prop):List α→List β→Prop
 |[],[]=>True
 |a::as,b::bs=>R a b∧All2 R as bs
 |_,_=>False
theorem All2.length{α β:Type}{R:α→β→Prop} : ∀{as:List α} {bs:List β},All2 R as bs→as.length=bs.length
 |[],[],_=>rfl
 |_::_,_::_,h=>by simp [All2.length h.2]
 |[],_::_,h=>h.elim
 |_::_,[],h=>h.elim
theorem All2.imp{α β:Type}{R R':α→β→Prop}(hr: ∀a b,R a b→R' a b): ∀{as:List α} {bs:List β},All2 R as bs→All2 R' as bs
 |[],[],_=>trivial
 |_::_,_::_,h=>⟨hr _ _ h.1,All2.imp hr h.2⟩
 |[],_::_,h=>h.elim
 |_::_,[],h=>h.elim
theorem All2.get{α β:Type}{R:α→β→Prop} : ∀{as:List α} {bs:List β},All2 R as bs→ ∀(i:Nat) (a:α),as[i]? =some a→ ∃b,bs[i]? =some b∧R a b
 |[],[],_,i,a,h=>by simp at h
 |x::as,y::bs,h,0,a,ha=>by simp at ha;subst ha;exact⟨y,by simp,h.1⟩
 |x::as,y::bs,h,i+1,a,ha=>by simpa using All2.get h.2 i a (by simpa using ha)
 |[],_::_,h,_,_,_=>h.elim
 |_::_,[],h,_,_,_=>h.elim
theorem All2.mk{α β:Type}{R:α→β→Prop} : ∀{as:List α} {bs:List β},as.length=bs.length→(∀(i:Nat) (a:α) (b:β),as[i]? =some a→bs[i]? =some b→R a b)→All2 R as bs
 |[],[],_,_=>trivial
 |a::as,b::bs,hl,h=>⟨h 0 a b rfl rfl,All2.mk (by simpa using hl) fun i a' b' ha hb=>h (i+1) a' b' (by simpa using ha) (by simpa using hb)⟩
 |[],_::_,hl,_=>by simp at hl
 |_::_,[],hl,_=>by simp at hl
theorem All2.append{α β:Type}{R:α→β→Prop} : ∀{as:List α} {bs:List β} {cs:List α} {ds:List β},All2 R as bs→All2 R cs ds→All2 R (as++cs) (bs++ds)
 |[],[],_,_,_,h=>h
 |_::_,_::_,_,_,h,k=>⟨h.1,All2.append h.2 k⟩
 |[],_::_,_,_,h,_=>h.elim
 |_::_,[],_,_,h,_=>h.elim
inductive FRel (w:World) (F:Nat→Prop):AV→Value→Prop
 |int (k:IntKind) (n:Int):FRel w F (.int k n) (.int k n)
 |bool (b:Bool):FRel w F (.bool b) (.bool b)
 |lit (b:Bool):FRel w F (.lit b) (.bool b)
 |str (s:ByteArray) (hb:s.size≤BIG):FRel w F (.str s) (.string s)
 |nils:FRel w F .nils (.slice none 0 0)
 |nilp:FRel w F .nilp (.pointer none)
 |capd (sz n:Nat) (f:Nat→List AV) (p:Option Addr) (c:Nat) (h:FRel w F (.arr sz n f) (.slice p n c)) (hc:c=n):FRel w F (.capd sz n f) (.slice p n c)
 |nil (sz:Nat) (f:Nat→List AV):FRel w F (.arr sz 0 f) (.slice none 0 0)
 |mt (sz:Nat) (f:Nat→List AV) (a:Addr) (c:Nat):FRel w F (.arr sz 0 f) (.slice (some a) 0 c)
 |arr (sz n:Nat) (f:Nat→List AV) (b o c:Nat) (g:Nat→Nat→AV) (vs:Nat→Nat→Value) (hn:n≤c) (hb:n≤BIG) (hF:0<n→F b)
   (h1: ∀i j,i<n→j<sz→(f i)[j]? =some (g i j)) (h2: ∀i j,i<n→j<sz→w.cell? ⟨b,o+i*sz+j,none⟩=some (vs i j))
   (h3: ∀i j,i<n→j<sz→FRel w F (g i j) (vs i j)):FRel w F (.arr sz n f) (.slice (some ⟨b,o,none⟩) n c)
 |ref (cs:List AV) (b o:Nat) (g:Nat→AV) (vs:Nat→Value) (hF:F b) (h1: ∀j,j<cs.length→cs[j]? =some (g j))
   (h2: ∀j,j<cs.length→w.cell? ⟨b,o+j,none⟩=some (vs j)) (h3: ∀j,j<cs.length→FRel w F (g j) (vs j)):FRel w F (.ref cs) (.pointer (some ⟨b,o,none⟩))
 |fn (f:FuncId) (caps:List AV) (vs:List Value) (g:Nat→AV) (u:Nat→Value) (hl:vs.length=caps.length) (h1: ∀j,j<caps.length→caps[j]? =some (g j))
   (h2: ∀j,j<caps.length→vs[j]? =some (u j)) (h3: ∀j,j<caps.length→FRel w F (g j) (u j)):FRel w F (.fn f caps) (.func (.func f) #[] vs.toArray)
theorem FRel.mono{w w':World}{F F':Nat→Prop}(hF: ∀x,F x→F' x)(hc: ∀x o,F x→w'.cell? ⟨x,o,none⟩=w.cell? ⟨x,o,none⟩){av:AV}{v:Value}(h:FRel w F av v):FRel w' F' av v:=by
 induction h with
 |int k n=>exact .int k n
 |bool b=>exact .bool b
 |lit b=>exact .lit b
 |str s hb=>exact .str s hb
 |nils=>exact .nils
 |nilp=>exact .nilp
 |capd sz n f p c h hc ih=>exact .capd sz n f p c ih hc
 |nil sz f=>exact .nil sz f
 |mt sz f a c=>exact .mt sz f a c
 |arr sz n f b o c g vs hn hb hFb h1 h2 h3 ih=>
  exact .arr sz n f b o c g vs hn hb (fun h=>hF _ (hFb h)) h1 (fun i j hi hj=>by rw[hc b _ (hFb (by omega))];exact h2 i j hi hj) ih
 |ref cs b o g vs hFb h1 h2 h3 ih=>
  exact .ref cs b o g vs (hF _ hFb) h1 (fun j hj=>by rw[hc b _ hFb];exact h2 j hj) ih
 |fn f caps vs g u hl h1 h2 h3 ih=>exact .fn f caps vs g u hl h1 h2 ih
def ARel(w:World)(F:Nat→Prop):AV→Value→Prop
 | .undef,_=>False
 | .agg cs,v=> ∃vs:List Value,v= .agg vs.toArray∧All2 (FRel w F) cs vs
 |av,v=>FRel w F av v
theorem ARel.mono{w w':World}{F F':Nat→Prop}(hF: ∀x,F x→F' x)(hc: ∀x o,F x→w'.cell? ⟨x,o,none⟩=w.cell? ⟨x,o,none⟩){av:AV}{v:Value}(h:ARel w F av v):ARel w' F' av v:=by
 cases av<;>simp only[ARel]at* <;>first|exact h|exact h.mono hF hc|skip
 obtain⟨vs,rfl,h⟩:=h
 exact⟨vs,rfl,h.imp fun _ _=>FRel.mono hF hc⟩
def TRel(w:World)(F:Nat→Prop):AV→Value→Prop
 | .tup as,v=> ∃vs:List Value,v= .tuple vs.toArray∧All2 (ARel w F) as vs
 |av,v=>ARel w F av v
theorem TRel.mono{w w':World}{F F':Nat→Prop}(hF: ∀x,F x→F' x)(hc: ∀x o,F x→w'.cell? ⟨x,o,none⟩=w.cell? ⟨x,o,none⟩){av:AV}{v:Value}(h:TRel w F av v):TRel w' F' av v:=by
 cases av
 case tup as=>
  obtain⟨us,rfl,hr⟩:=h
  exact⟨us,rfl,hr.imp fun _ _=>ARel.mono hF hc⟩
 all_goals (simp only[TRel]at h ⊢;exact ARel.mono hF hc h)
def RRel(n0:Nat)(w:World)(F:Nat→Prop):AV→Value→Prop
 | .blk _ sz n f,v=>(n=0∧v= .slice none 0 0)∨ ∃x c C T,n0≤x∧x<w.heap.size∧v= .slice (some ⟨x,0,none⟩) n c∧n≤c∧n≤BIG∧w.heap[x]? =some (.cells C T (0,0))∧C.size=c*sz∧
   ∀i j,i<n→j<sz→ ∃av u,(f i)[j]? =some av∧C[i*sz+j]? =some u∧FRel w (fun y=>F y∧y≠x) av u
 |av,v=>TRel w F av v
structure FOk (w:World) (F:Nat→Prop):Prop where
 lt: ∀x,F x→x<w.heap.size
 gl: ∀g,globAV g globTab= .undef∨FRel w F (globAV g globTab) (.pointer (some ⟨g,0,none⟩))
def PureCall(P:Program)(f:FuncId)(as:List AV)(r:AV):Prop:=
 ∀(w:World) (F:Nat→Prop) (vs:List Value),FOk w F→All2 (ARel w F) as vs→
  Calls P f vs.toArray w fun e w'=> ∃v,e= .returned v∧RRel w.heap.size w' (fun x=>F x∨(w.heap.size≤x∧x<w'.heap.size)) r v∧Below w.heap.size w w'
abbrev Heap:=List (List AV)
def hget(H:Heap)(b o:Nat):AV:=(H.getD b []).getD o .undef
def isBlk:AV→Bool
 | .blk .. =>true
 |_=>false
def writable:AV→Bool
 | .undef=>false
 | .blk ro _ _ _=> !ro
 |_=>true
def rwLive(H:Heap)(b:Nat):Prop:=(isBlk (hget H b 0)=true∧writable (hget H b 0)=true)∨(isBlk (hget H b 0)=false∧ ∃o,writable (hget H b o)=true)
theorem rwLive_congr{H H':Heap}{b:Nat}(h: ∀o,hget H' b o=hget H b o)(k:rwLive H' b):rwLive H b:=by
 unfold rwLive at*
 simpa only[h]using k
def Fz(F0:Nat→Prop)(B:Nat)(ι:Nat→Option Nat)(H:Heap)(w:World)(x:Nat):Prop:=(F0 x∨B≤x)∧x<w.heap.size∧ ∀b,rwLive H b→ι b≠some x
def SRel(ι:Nat→Option Nat)(H:Heap)(w:World)(F:Nat→Prop):AV→Value→Prop
 | .ptr b o,v=>isBlk (hget H b 0)=false∧ ∃x,ι b=some x∧v= .pointer (some ⟨x,o,none⟩)
 |av,v=>FRel w F av v
def CRel(ι:Nat→Option Nat)(H:Heap)(w:World)(F:Nat→Prop):AV→Value→Prop
 | .undef,v=>one v=true
 | .gone,v=>one v=true
 | .own b k,v=>one v=true∧ ∃ro sz n f,hget H b 0= .blk ro sz n f∧k≤n∧(k=n→(∃x c C T,ι b=some x∧v= .slice (some ⟨x,0,none⟩) n c∧n≤c∧w.heap[x]? =some (.cells C T (0,0))∧C.size=c*sz)∨
   (n=0∧ι b=none∧v= .slice none 0 0))
 | .ptr b o,v=>isBlk (hget H b 0)=false∧ ∃x,ι b=some x∧v= .pointer (some ⟨x,o,none⟩)
 | .eptr b k i o,v=>one v=true∧ ∃ro sz n f,hget H b 0= .blk ro sz n f∧k≤n∧(k=n→ ∃x,ι b=some x∧v= .pointer (some ⟨x,i*sz+o,none⟩))
 | .fn f caps,v=> ∃vs:List Value,v= .func (.func f) #[] vs.toArray∧All2 (SRel ι H w F) caps vs
 | .agg _,_=>False
 | .tup _,_=>False
 | .blk ..,_=>False
 |av,v=>FRel w F av v
def LRel(ι:Nat→Option Nat)(H:Heap)(w:World)(F:Nat→Prop)(b o:Nat):AV→Prop
 | .undef=>True
 | .blk ro sz n f=>o=0∧((ro=true∧sz=0∧ι b=none)∨n≤BIG∧((n=0∧ι b=none)∨ ∃x C T,ι b=some x∧w.heap[x]? =some (.cells C T (0,0))∧
   ∀i j,i<n→j<sz→ ∃av v,(f i)[j]? =some av∧C[i*sz+j]? =some v∧FRel w F av v))
 |av=>isBlk (hget H b 0)=false∧ ∃x v,ι b=some x∧w.cell? ⟨x,o,none⟩=some v∧w.frozen? ⟨x,o,none⟩=false∧CRel ι H w F av v
def VRel1(ι:Nat→Option Nat)(H:Heap)(w:World)(F:Nat→Prop):AV→Value→Prop
 | .agg cs,v=> ∃vs:List Value,v= .agg vs.toArray∧All2 (CRel ι H w F) cs vs
 | .gone,_=>False
 |av,v=>CRel ι H w F av v
def VRel(ι:Nat→Option Nat)(H:Heap)(w:World)(F:Nat→Prop):AV→Value→Prop
 | .undef,_=>True
 | .gone,v=>v=undef
 | .tup as,v=> ∃vs:List Value,v= .tuple vs.toArray∧All2 (VRel1 ι H w F) as vs
 |av,v=>VRel1 ι H w F av v
structure St where
 tm:List AV
 hp:Heap
structure Stp (ι:Nat→Option Nat) (H:Heap) (w:World) (F:Nat→Prop) (ι':Nat→Option Nat) (H':Heap) (w':World) (F':Nat→Prop):Prop where
 fz: ∀x,F x→F' x
 cell: ∀x o,F x→w'.cell? ⟨x,o,none⟩=w.cell? ⟨x,o,none⟩
 box: ∀b x,ι b=some x→isBlk (hget H b 0)=false→ι' b=some x∧isBlk (hget H' b 0)=false
 arr: ∀b ro sz n f,hget H b 0= .blk ro sz n f→ ∃ro' sz' n' f',hget H' b 0= .blk ro' sz' n' f'∧n≤n'∧
  (n=n'→sz'=sz∧ι' b=ι b∧ ∀x C T,ι b=some x→w.heap[x]? =some (.cells C T (0,0))→ ∃C':Array Value,w'.heap[x]? =some (.cells C' T (0,0))∧C'.size=C.size)
structure Bel (Pd:Nat→Prop) (B:Nat) (w w':World):Prop where
 os:w'.os=w.os
 tape:w'.tape=w.tape
 output:w'.output=w.output
 size:w.heap.size≤w'.heap.size
 block: ∀k,k<B→ ¬Pd k→w'.heap[k]? =w.heap[k]?
theorem Bel.refl(Pd:Nat→Prop)(B:Nat)(w:World):Bel Pd B w w:=⟨rfl,rfl,rfl,Nat.le_refl _,fun _ _ _=>rfl⟩
theorem Bel.of{Pd:Nat→Prop}{B:Nat}{w w':World}(h:Below B w w'):Bel Pd B w w':=⟨h.os,h.tape,h.output,h.size,fun k hk _=>h.block k hk⟩
theorem Bel.then{Pd:Nat→Prop}{B:Nat}{a b c:World}(h:Bel Pd B a b)(k:Bel Pd B b c):Bel Pd B a c:=
 ⟨k.os.trans h.os,k.tape.trans h.tape,k.output.trans h.output,Nat.le_trans h.size k.size,fun i hi hp=>(k.block i hi hp).trans (h.block i hi hp)⟩
theorem Bel.trans{Pd:Nat→Prop}{B:Nat}{a b c:World}(h:Bel Pd B a b)(k:Below B b c):Bel Pd B a c:=h.then (.of k)
theorem Bel.alloc{Pd:Nat→Prop}{B:Nat}{a w:World}(h:Bel Pd B a w)(hB:B≤w.heap.size)(o:Obj):Bel Pd B a (w.alloc o):=
 h.trans ((Below.refl B w).alloc hB o)
theorem Bel.setCell{Pd:Nat→Prop}{B:Nat}{a w:World}(h:Bel Pd B a w){p:Addr}(hp:B≤p.block∨Pd p.block)(u:Value):Bel Pd B a (w.setCell p u):=
 h.then ⟨rfl,rfl,rfl,by simp [World.setCell],fun k hk hn=>Below.heap_setCell _ _ _ _ (fun e=>hp.elim (fun h=>by omega) fun h=>hn (by rw[e];exact h))⟩
theorem Bel.plain{Pd:Nat→Prop}{B:Nat}{a w:World}(h:Bel Pd B a w)(hp: ∀k,¬Pd k):Below B a w:=⟨h.os,h.tape,h.output,h.size,fun k hk=>h.block k hk (hp k)⟩
structure Base where
 F0:Nat→Prop
 w0:World
 lt: ∀x,F0 x→x<w0.heap.size
 Pd:Nat→Prop
 pd: ∀x,Pd x→F0 x
 ι0:Nat→Option Nat
 H0:Heap
 G0:Nat→Prop
 dom0: ∀b x,ι0 b=some x→b<H0.length
 gl: ∀g,globAV g globTab= .undef∨FRel w0 G0 (globAV g globTab) (.pointer (some ⟨g,0,none⟩))
structure Sim (S:Base) (ι:Nat→Option Nat) (st:St) (a:Act) (w:World):Prop where
 below:Bel S.Pd S.w0.heap.size S.w0 w
 defers:a.defers=[]
 tm: ∀(t:Nat) (av:AV),st.tm[t]? =some av→ ∃v,a.tmps[t]? =some v∧VRel ι st.hp w (Fz S.F0 S.w0.heap.size ι st.hp w) av v
 hp: ∀b o,LRel ι st.hp w (Fz S.F0 S.w0.heap.size ι st.hp w) b o (hget st.hp b o)
 inj: ∀b b' x,ι b=some x→ι b'=some x→b=b'
 fresh: ∀b x,ι b=some x→(S.w0.heap.size≤x∨S.Pd x)∧x<w.heap.size
 dom: ∀b x,ι b=some x→b<st.hp.length
 hist:Stp S.ι0 S.H0 S.w0 S.G0 ι st.hp w (Fz S.F0 S.w0.heap.size ι st.hp w)
theorem Sim.own{S:Base}{ι:Nat→Option Nat}{st:St}{a:Act}{w:World}(h:Sim S ι st a w){b x:Nat}(hx:ι b=some x):S.F0 x∨S.w0.heap.size≤x:=
 (h.fresh b x hx).1.elim .inr fun h=> .inl (S.pd x h)
theorem globAV_ref: ∀(g:Nat) (l:List (Nat×List AV)),globAV g l= .undef∨ ∃cs,globAV g l= .ref cs
 |_,[]=> .inl rfl
 |g,x::l=>by
  unfold globAV
  cases Nat.beq g x.1
  ·exact globAV_ref g l
  ·exact .inr ⟨_,rfl⟩
theorem Sim.gl{S:Base}{ι:Nat→Option Nat}{st:St}{a:Act}{w:World}(h:Sim S ι st a w)(g:Nat):globAV g globTab= .undef∨FRel w (Fz S.F0 S.w0.heap.size ι st.hp w) (globAV g globTab) (.pointer (some ⟨g,0,none⟩)):=
 (S.gl g).imp id fun k=>k.mono h.hist.fz h.hist.cell
theorem Sim.fok{S:Base}{ι:Nat→Option Nat}{st:St}{a:Act}{w:World}(h:Sim S ι st a w):FOk w (Fz S.F0 S.w0.heap.size ι st.hp w):=⟨fun _ hx=>hx.2.1,h.gl⟩
def pack(us:List Value):Value:=if h:us.toArray.size=1 then us.toArray[0]else .tuple us.toArray
def HCall(P:Program)(f:FuncId)(as:List AV)(H:Heap)(rs:List AV)(H':Heap):Prop:=
 ∀(S:Base) (ι:Nat→Option Nat) (w:World) (vs:List Value),S.H0.length≤H.length→vs.length=as.length→Sim S ι ⟨as,H⟩ {tmps:=vs.toArray,defers:=[]} w→
  Calls P f vs.toArray w fun e w'=> ∃us ι',e= .returned (pack us)∧us.length=rs.length∧Sim S ι' ⟨rs,H'⟩ {tmps:=us.toArray,defers:=[]} w'
section
variable {ι ι':Nat→Option Nat} {H H':Heap} {w w':World} {F F':Nat→Prop}
theorem Stp.refl:Stp ι H w F ι H w F:=⟨fun _ h=>h,fun _ _ _=>rfl,fun _ _ h k=>⟨h,k⟩,fun _ ro sz n f h=>⟨ro,sz,n,f,h,Nat.le_refl _,fun _=>⟨rfl,rfl,fun _ C _ _ h=>⟨C,h,rfl⟩⟩⟩⟩
theorem Stp.trans{ι ι' ι2:Nat→Option Nat}{H H' H2:Heap}{w w' w2:World}{F F' F2:Nat→Prop}(h:Stp ι H w F ι' H' w' F')(k:Stp ι' H' w' F' ι2 H2 w2 F2):Stp ι H w F ι2 H2 w2 F2:=by
 refine⟨fun x hx=>k.fz x (h.fz x hx),fun x o hx=>(k.cell x o (h.fz x hx)).trans (h.cell x o hx),fun b x hx hb=>k.box b x (h.box b x hx hb).1 (h.box b x hx hb).2,fun b ro sz n f hk=> ?_⟩
 obtain⟨ro',sz',n',f',h1,h2,h3⟩:=h.arr b ro sz n f hk
 obtain⟨ro2,sz2,n2,f2,k1,k2,k3⟩:=k.arr b ro' sz' n' f' h1
 refine⟨ro2,sz2,n2,f2,k1,by omega,fun e=> ?_⟩
 have e1:n=n':=by omega
 have e2:n'=n2:=by omega
 obtain⟨hz,h4,h5⟩:=h3 e1
 obtain⟨kz,k4,k5⟩:=k3 e2
 refine⟨kz.trans hz,k4.trans h4,fun x C T hx hC=> ?_⟩
 obtain⟨C1,h6,h7⟩:=h5 x C T hx hC
 obtain⟨C2,k6,k7⟩:=k5 x C1 T (by rw[h4];exact hx) h6
 exact⟨C2,k6,k7.trans h7⟩
theorem SRel.step(h:Stp ι H w F ι' H' w' F'){av:AV}{v:Value}(k:SRel ι H w F av v):SRel ι' H' w' F' av v:=by
 cases av<;>simp only[SRel]at* <;>first|exact k.mono h.fz h.cell|skip
 obtain⟨k1,x,k2,k3⟩:=k
 exact⟨(h.box _ _ k2 k1).2,x,(h.box _ _ k2 k1).1,k3⟩
theorem CRel.step(h:Stp ι H w F ι' H' w' F'){av:AV}{v:Value}(k:CRel ι H w F av v):CRel ι' H' w' F' av v:=by
 cases av<;>simp only[CRel]at* <;>first|exact k.mono h.fz h.cell|exact k|skip
 ·obtain⟨k0,ro,sz,n,f,k1,k2,k3⟩:=k
  obtain⟨ro',sz',n',f',h1,h2,h3⟩:=h.arr _ _ _ _ _ k1
  refine⟨k0,ro',sz',n',f',h1,by omega,fun e=> ?_⟩
  have e2:n=n':=by omega
  obtain⟨hz,h4,h5⟩:=h3 e2
  subst hz
  rcases k3 (by omega)with⟨x,c,C,T,k4,k5,k6,k7,k8⟩|⟨k4,k5,k6⟩
  ·obtain⟨C',h6,h7⟩:=h5 x C T k4 k7
   exact .inl ⟨x,c,C',T,by rw[h4];exact k4,by rw[←e2];exact k5,by omega,h6,by rw[h7];exact k8⟩
  ·exact .inr ⟨by omega,by rw[h4];exact k5,k6⟩
 ·obtain⟨k1,x,k2,k3⟩:=k
  exact⟨(h.box _ _ k2 k1).2,x,(h.box _ _ k2 k1).1,k3⟩
 ·obtain⟨k0,ro,sz,n,f,k1,k2,k3⟩:=k
  obtain⟨ro',sz',n',f',h1,h2,h3⟩:=h.arr _ _ _ _ _ k1
  refine⟨k0,ro',sz',n',f',h1,by omega,fun e=> ?_⟩
  have e2:n=n':=by omega
  obtain⟨x,k4,k5⟩:=k3 (by omega)
  obtain⟨hz,h4,_⟩:=h3 e2
  subst hz
  exact⟨x,by rw[h4];exact k4,k5⟩
 ·obtain⟨vs,k1,k2⟩:=k
  exact⟨vs,k1,k2.imp fun _ _=>SRel.step h⟩
theorem FRel.one{av:AV}{v:Value}(k:FRel w F av v):one v=true:=by cases k<;>rfl
theorem SRel.one{av:AV}{v:Value}(k:SRel ι H w F av v):one v=true:=by
 cases av<;>simp only[SRel]at k<;>first|exact k.one|(obtain⟨_,_,_,rfl⟩:=k;rfl)
theorem CRel.one{av:AV}{v:Value}(k:CRel ι H w F av v):one v=true:=by
 cases av<;>simp only[CRel]at k<;>first|exact k|exact k.one|exact k.1|(obtain⟨_,_,_,rfl⟩:=k;rfl)|(obtain⟨_,rfl,_⟩:=k;rfl)
theorem VRel1.step(h:Stp ι H w F ι' H' w' F'){av:AV}{v:Value}(k:VRel1 ι H w F av v):VRel1 ι' H' w' F' av v:=by
 cases av<;>simp only[VRel1]at* <;>first|exact k.step h|skip
 obtain⟨vs,k1,k2⟩:=k
 exact⟨vs,k1,k2.imp fun _ _=>CRel.step h⟩
theorem VRel.step(h:Stp ι H w F ι' H' w' F'){av:AV}{v:Value}(k:VRel ι H w F av v):VRel ι' H' w' F' av v:=by
 cases av<;>simp only[VRel]at* <;>first|exact VRel1.step h k|exact k|skip
 obtain⟨vs,k1,k2⟩:=k
 exact⟨vs,k1,k2.imp fun _ _=>VRel1.step h⟩
theorem LRel.step(h:Stp ι H w F ι' H' w' F'){b o:Nat}{av:AV}(hb:isBlk av=false→ι' b=ι b)(hc: ∀x,ι b=some x→isBlk av=false→w'.cell? ⟨x,o,none⟩=w.cell? ⟨x,o,none⟩∧w'.frozen? ⟨x,o,none⟩=w.frozen? ⟨x,o,none⟩)
  (hk:isBlk av=true→ι' b=ι b∧ ∀x,ι b=some x→w'.heap[x]? =w.heap[x]?) (k:LRel ι H w F b o av):LRel ι' H' w' F' b o av:=by
 cases av<;>simp only[LRel]at* <;>try exact k
 all_goals first
  |(obtain⟨k0,x,v,k1,k2,k3,k4⟩:=k
    exact⟨(h.box _ _ k1 k0).2,x,v,by rw[hb rfl];exact k1,by rw[(hc x k1 rfl).1];exact k2,by rw[(hc x k1 rfl).2];exact k3,CRel.step h k4⟩)
  |skip
 obtain⟨k0,kd|⟨kb,k⟩⟩:=k
 ·exact⟨k0,.inl ⟨kd.1,kd.2.1,by rw[(hk rfl).1];exact kd.2.2⟩⟩
 refine⟨k0,.inr ⟨kb,?_⟩⟩
 rcases k with k|⟨x,C,T,k1,k2,k3⟩
 ·exact .inl ⟨k.1,by rw[(hk rfl).1];exact k.2⟩
 ·refine .inr ⟨x,C,T,by rw[(hk rfl).1];exact k1,by rw[(hk rfl).2 x k1];exact k2,fun i j hi hj=> ?_⟩
  obtain⟨av,v,k4,k5,k6⟩:=k3 i j hi hj
  exact⟨av,v,k4,k5,k6.mono h.fz h.cell⟩
end
end Go.Vc
namespace Go.Vc
open Go Go.RowKit
def setAt{α:Type}(d:α):List α→Nat→α→List α
 |[],0,x=>[x]
 |[],i+1,x=>d::setAt d [] i x
 |_::as,0,x=>x::as
 |a::as,i+1,x=>a::setAt d as i x
theorem getD_setAt{α:Type}(d:α)(x:α): ∀(l:List α) (i j:Nat),(setAt d l i x).getD j d=if j=i then x else l.getD j d
 |[],0,0=>by simp [setAt]
 |[],0,j+1=>by simp [setAt]
 |[],i+1,0=>by simp [setAt]
 |[],i+1,j+1=>by simpa[setAt]using getD_setAt d x [] i j
 |_::as,0,0=>by simp [setAt]
 |_::as,0,j+1=>by simp [setAt]
 |a::as,i+1,0=>by simp [setAt]
 |a::as,i+1,j+1=>by simpa[setAt]using getD_setAt d x as i j
theorem length_setAt{α:Type}(d:α)(x:α): ∀(l:List α) (i:Nat),l.length≤(setAt d l i x).length∧i<(setAt d l i x).length
 |[],0=>by simp [setAt]
 |[],i+1=>by simp [setAt];exact(length_setAt d x [] i).2
 |_::as,0=>by simp [setAt]
 |a::as,i+1=>by simp [setAt];exact length_setAt d x as i
def hset(H:Heap)(b o:Nat)(av:AV):Heap:=setAt [] H b (setAt .undef (H.getD b []) o av)
def hnew(H:Heap)(b:Nat)(cs:List AV):Heap:=setAt [] H b cs
theorem hget_hset(H:Heap)(b o:Nat)(av:AV)(b' o':Nat):hget (hset H b o av) b' o'=if b'=b∧o'=o then av else hget H b' o':=by
 unfold hget hset
 rw[getD_setAt]
 by_cases hb:b'=b
 ·subst hb
  rw[if_pos rfl,getD_setAt]
  by_cases ho:o'=o<;>simp [ho]
 ·simp [hb]
theorem hget_hnew(H:Heap)(b:Nat)(cs:List AV)(b' o':Nat):hget (hnew H b cs) b' o'=if b'=b then cs.getD o' .undef else hget H b' o':=by
 unfold hget hnew
 rw[getD_setAt]
 by_cases hb:b'=b<;>simp [hb]
section
variable {S:Base} {ι:Nat→Option Nat} {st:St} {a:Act} {w:World}
abbrev FZ(S:Base)(ι:Nat→Option Nat)(H:Heap)(w:World):Nat→Prop:=Fz S.F0 S.w0.heap.size ι H w
theorem Sim.put(h:Sim S ι st a w)(d:Nat){av:AV}{v:Value}(hv:VRel ι st.hp w (FZ S ι st.hp w) av v):Sim S ι ⟨st.tm.set d av,st.hp⟩ (a.put (some d) v) w:=by
 refine⟨h.below,h.defers,fun t u hu=> ?_,h.hp,h.inj,h.fresh,h.dom,h.hist⟩
 by_cases ht:t=d
 ·subst ht
  rw[List.getElem?_set]at hu
  simp only[if_true]at hu
  split at hu
  ·rename_i hl
   simp only[Option.some.injEq]at hu
   subst hu
   obtain⟨v0,h1,_⟩:=h.tm t (st.tm[t]) (List.getElem?_eq_getElem hl)
   have hlt:t<a.tmps.size:=by
    rcases Nat.lt_or_ge t a.tmps.size with h|h
    ·exact h
    ·simp [Array.getElem?_eq_none h]at h1
   exact⟨v,by simp [Act.put,hlt],hv⟩
  ·cases hu
 ·rw[List.getElem?_set_ne (by omega)]at hu
  obtain⟨v0,h1,h2⟩:=h.tm t u hu
  exact⟨v0,by simp only[Act.put];rw[Array.getElem?_setIfInBounds_ne (by omega)];exact h1,h2⟩
theorem Sim.world(h:Sim S ι st a w){w':World}(hb:Below w.heap.size w w'):Sim S ι st a w'∧Stp ι st.hp w (FZ S ι st.hp w) ι st.hp w' (FZ S ι st.hp w'):=by
 have hs:Stp ι st.hp w (FZ S ι st.hp w) ι st.hp w' (FZ S ι st.hp w'):=by
  refine⟨fun x ⟨h1,h2,h3⟩=>⟨h1,Nat.lt_of_lt_of_le h2 hb.size,h3⟩,fun x o ⟨_,h2,_⟩=>hb.cell h2,fun _ _ h k=>⟨h,k⟩,fun b ro sz n f hk=>⟨ro,_,n,f,hk,Nat.le_refl _,fun _=>⟨rfl,rfl,fun x C T hx hC=>⟨C,?_,rfl⟩⟩⟩⟩
  rw[hb.block x (h.fresh _ _ hx).2];exact hC
 refine⟨⟨h.below.trans (hb.mono h.below.size),h.defers,fun t av ht=> ?_,fun b o=> ?_,h.inj,fun b x hx=>⟨(h.fresh b x hx).1,Nat.lt_of_lt_of_le (h.fresh b x hx).2 hb.size⟩,h.dom,h.hist.trans hs⟩,hs⟩
 ·obtain⟨v,h1,h2⟩:=h.tm t av ht
  exact⟨v,h1,h2.step hs⟩
 ·exact(h.hp b o).step hs (fun _=>rfl) (fun x hx _=>⟨hb.cell (h.fresh _ _ hx).2,hb.frozen (h.fresh _ _ hx).2⟩) (fun _=>⟨rfl,fun x hx=>hb.block x (h.fresh _ _ hx).2⟩)
def upd(ι:Nat→Option Nat)(b:Nat)(x:Nat):Nat→Option Nat:=fun k=>if k=b then some x else ι k
theorem Sim.newBox(h:Sim S ι st a w)(b:Nat)(hb: ∀o,hget st.hp b o= .undef)(hι:ι b=none)(cs:List AV)(vs:List Value)(T:TypeId)(hv:All2 (CRel ι st.hp w (FZ S ι st.hp w)) cs vs):
  Sim S (upd ι b w.heap.size) ⟨st.tm,hnew st.hp b cs⟩ a (w.alloc (.cells vs.toArray T))∧
  Stp ι st.hp w (FZ S ι st.hp w) (upd ι b w.heap.size) (hnew st.hp b cs) (w.alloc (.cells vs.toArray T)) (FZ S (upd ι b w.heap.size) (hnew st.hp b cs) (w.alloc (.cells vs.toArray T)))∧
  CRel (upd ι b w.heap.size) (hnew st.hp b cs) (w.alloc (.cells vs.toArray T)) (FZ S (upd ι b w.heap.size) (hnew st.hp b cs) (w.alloc (.cells vs.toArray T))) (.ptr b 0) (.pointer (some ⟨w.heap.size,0,none⟩)):=by
 have hne: ∀b' x,ι b'=some x→b'≠b:=fun b' x hx e=>by rw[e,hι]at hx;cases hx
 have hget': ∀b' o,b'≠b→hget (hnew st.hp b cs) b' o=hget st.hp b' o:=fun b' o hn=>by rw[hget_hnew,if_neg hn]
 have hnb:isBlk (hget (hnew st.hp b cs) b 0)=false:=by
  rw[hget_hnew,if_pos rfl]
  cases cs with
  |nil=>rfl
  |cons c cs=>
   cases vs with
   |nil=>exact hv.elim
   |cons v vs=>simp;cases c<;>first|rfl|exact hv.1.elim
 have hs:Stp ι st.hp w (FZ S ι st.hp w) (upd ι b w.heap.size) (hnew st.hp b cs) (w.alloc (.cells vs.toArray T)) (FZ S (upd ι b w.heap.size) (hnew st.hp b cs) (w.alloc (.cells vs.toArray T))):=by
  refine⟨fun x ⟨h1,h2,h3⟩=>⟨h1,by simp;omega,fun b' hb'=> ?_⟩,fun x o ⟨_,h2,_⟩=>World.cell?_alloc_lt w _ (a:=⟨x,o,none⟩) h2,fun b' x hx hk=>⟨by simp [upd,hne b' x hx,hx],by rw[hget' _ _ (hne b' x hx)];exact hk⟩,fun b' ro sz n f hk=> ?_⟩
  ·unfold upd
   by_cases e:b'=b
   ·simp only[e,if_true];intro he;simp at he;omega
   ·simp only[e,if_false]
    exact h3 b' (rwLive_congr (fun o=>hget' b' o e) hb')
  ·have e:b'≠b:=fun e=>by rw[e,hb]at hk;cases hk
   refine⟨ro,_,n,f,by rw[hget' _ _ e];exact hk,Nat.le_refl _,fun _=>⟨rfl,by simp [upd,e],fun x C T' hx hC=>⟨C,?_,rfl⟩⟩⟩
   rw[Below.heap_alloc _ _ _ (h.fresh _ _ hx).2];exact hC
 refine⟨⟨h.below.alloc h.below.size _,h.defers,fun t av ht=> ?_,fun b' o=> ?_,fun b1 b2 x h1 h2=> ?_,fun b' x hx=> ?_,fun b' x hx=> ?_,h.hist.trans hs⟩,hs,?_⟩
 ·obtain⟨v,h1,h2⟩:=h.tm t av ht
  exact⟨v,h1,h2.step hs⟩
 ·by_cases e:b'=b
  ·subst e
   rw[hget_hnew,if_pos rfl]
   rcases Nat.lt_or_ge o cs.length with ho|ho
   ·have hc:cs[o]? =some cs[o]:=List.getElem?_eq_getElem ho
    obtain⟨v,hv1,hv2⟩:=hv.get o _ hc
    have hcell:(w.alloc (.cells vs.toArray T)).cell? ⟨w.heap.size,o,none⟩=some v:=by rw[World.cell?_alloc_new];simpa using hv1
    have hfz:(w.alloc (.cells vs.toArray T)).frozen? ⟨w.heap.size,o,none⟩=false:=by simp
    have hstep:=CRel.step hs hv2
    have hg:cs.getD o .undef=cs[o]:=by simp [List.getD,hc]
    rw[hg]
    have hi:upd ι b' w.heap.size b'=some w.heap.size:=by simp [upd]
    generalize cs[o]=c at*
    cases c<;>simp only[LRel]<;>first|trivial|exact⟨hnb,_,v,hi,hcell,hfz,hstep⟩|exact hv2.elim
   ·have hg:cs.getD o .undef= .undef:=by simp [List.getD,List.getElem?_eq_none ho]
    rw[hg];trivial
  ·rw[hget' _ _ e]
   refine(h.hp b' o).step hs (fun _=>by simp [upd,e]) (fun x hx _=>⟨World.cell?_alloc_lt w _ (a:=⟨x,o,none⟩) (h.fresh _ _ hx).2,World.frozen?_alloc_old w _ (a:=⟨x,o,none⟩) (by have:=(h.fresh _ _ hx).2;show x≠_;omega)⟩) (fun _=>⟨by simp [upd,e],fun x hx=>Below.heap_alloc _ _ _ (h.fresh _ _ hx).2⟩)
 ·unfold upd at h1 h2
  by_cases e1:b1=b<;>by_cases e2:b2=b<;>simp only[e1,e2,if_true,if_false]at h1 h2
  ·omega
  ·simp at h1;have:=(h.fresh _ _ h2).2;omega
  ·simp at h2;have:=(h.fresh _ _ h1).2;omega
  ·exact h.inj _ _ _ h1 h2
 ·unfold upd at hx
  by_cases e:b'=b<;>simp only[e,if_true,if_false]at hx
  ·simp at hx;subst hx;exact⟨.inl h.below.size,by simp⟩
  ·have:=h.fresh _ _ hx;exact⟨this.1,by simp;omega⟩
 ·unfold upd at hx
  by_cases e:b'=b
  ·rw[e];exact(length_setAt _ _ _ _).2
  ·simp only[e,if_false]at hx
   exact Nat.lt_of_lt_of_le (h.dom _ _ hx) (length_setAt _ _ _ _).1
 ·exact⟨hnb,w.heap.size,by simp [upd],rfl⟩
end
end Go.Vc
namespace Go.Vc
open Go Go.RowKit
section
variable {S:Base} {ι:Nat→Option Nat} {st:St} {a:Act} {w:World}
theorem isBlk_eq{av:AV}(h:isBlk av=true): ∃ro sz n f,av= .blk ro sz n f:=by
 cases av<;>first|exact⟨_,_,_,_,rfl⟩|(cases h;done)
theorem LRel.box{b o:Nat}{av:AV}{H:Heap}{F:Nat→Prop}(h:LRel ι H w F b o av)(hu:av≠ .undef)(hb:isBlk av=false):
  ∃x v,ι b=some x∧w.cell? ⟨x,o,none⟩=some v∧w.frozen? ⟨x,o,none⟩=false∧CRel ι H w F av v:=by
 cases av<;>first|exact h.2|exact absurd rfl hu|(cases hb;done)
theorem LRel.nblk{b o:Nat}{av:AV}{H:Heap}{F:Nat→Prop}(h:LRel ι H w F b o av)(hu:av≠ .undef)(hb:isBlk av=false):isBlk (hget H b 0)=false:=by
 cases av<;>first|exact h.1|exact absurd rfl hu|(cases hb;done)
theorem writable_of{av:AV}(hu:av≠ .undef)(hb:isBlk av=false):writable av=true:=by
 cases av<;>first|rfl|exact absurd rfl hu|(cases hb;done)
theorem Sim.store(h:Sim S ι st a w){b o x:Nat}(hx:ι b=some x)(hu:hget st.hp b o≠ .undef)(h0:isBlk (hget st.hp b 0)=false)(ho:isBlk (hget st.hp b o)=false)
  {av:AV} {v:Value} (hv:CRel ι st.hp w (FZ S ι st.hp w) av v):
  Sim S ι ⟨st.tm,hset st.hp b o av⟩ a (w.setCell ⟨x,o,none⟩ v)∧Stp ι st.hp w (FZ S ι st.hp w) ι (hset st.hp b o av) (w.setCell ⟨x,o,none⟩ v) (FZ S ι (hset st.hp b o av) (w.setCell ⟨x,o,none⟩ v)):=by
 have hav:isBlk av=false:=by cases av<;>first|rfl|exact hv.elim
 have hrw:rwLive st.hp b:= .inr ⟨h0,o,writable_of hu ho⟩
 obtain⟨x',v0,hx',hc0,hf0,_⟩:=(h.hp b o).box hu ho
 rw[hx]at hx';cases hx'
 have hother: ∀y p,y≠x→(w.setCell ⟨x,o,none⟩ v).cell? ⟨y,p,none⟩=w.cell? ⟨y,p,none⟩:=fun y p hy=>World.cell?_setCell_other w _ _ _ (by intro e;cases e;exact hy rfl)
 have hnb:isBlk (hget (hset st.hp b o av) b 0)=false:=by
  rw[hget_hset];split
  ·exact hav
  ·exact h0
 have hs:Stp ι st.hp w (FZ S ι st.hp w) ι (hset st.hp b o av) (w.setCell ⟨x,o,none⟩ v) (FZ S ι (hset st.hp b o av) (w.setCell ⟨x,o,none⟩ v)):=by
  refine⟨fun y ⟨h1,h2,h3⟩=>⟨h1,by simpa using h2,fun b' hb'=> ?_⟩,fun y p ⟨_,_,h3⟩=>hother y p (fun e=>h3 b hrw (by rw[hx,e])),fun b' y hy hk=>⟨hy,?_⟩,fun b' ro sz n f hk=> ?_⟩
  ·by_cases e:b'=b
   ·rw[e];exact h3 b hrw
   ·exact h3 b' (rwLive_congr (fun p=>by rw[hget_hset,if_neg (fun e'=>e e'.1)]) hb')
  ·rw[hget_hset];split
   ·exact hav
   ·exact hk
  ·have e:b'≠b:=fun e=>by rw[e]at hk;rw[hk]at h0;cases h0
   refine⟨ro,_,n,f,by rw[hget_hset,if_neg (fun e'=>e e'.1)];exact hk,Nat.le_refl _,fun _=>⟨rfl,rfl,fun y C T hy hC=>⟨C,?_,rfl⟩⟩⟩
   rw[Below.heap_setCell _ _ _ _ (by intro e';exact e (h.inj _ _ _ hy (by rw[e'];exact hx)))];exact hC
 refine⟨⟨h.below.setCell (h.fresh _ _ hx).1 _,h.defers,fun t u ht=> ?_,fun b' p=> ?_,h.inj,fun b' y hy=>⟨(h.fresh _ _ hy).1,by simpa using(h.fresh _ _ hy).2⟩,fun b' y hy=>Nat.lt_of_lt_of_le (h.dom _ _ hy) (length_setAt _ _ _ _).1,h.hist.trans hs⟩,hs⟩
 ·obtain⟨v,h1,h2⟩:=h.tm t u ht
  exact⟨v,h1,h2.step hs⟩
 ·by_cases e:b'=b∧p=o
  ·obtain⟨rfl,rfl⟩:=e
   rw[hget_hset,if_pos ⟨rfl,rfl⟩]
   have k:=CRel.step hs hv
   have hc1:=World.cell?_setCell_same w _ v hc0
   have hf1:(w.setCell ⟨x,p,none⟩ v).frozen? ⟨x,p,none⟩=false:=by simpa using hf0
   cases av<;>first|exact⟨hnb,x,v,hx,hc1,hf1,k⟩|trivial|(cases hav;done)
  ·have hg:hget (hset st.hp b o av) b' p=hget st.hp b' p:=by rw[hget_hset,if_neg e]
   rw[hg]
   by_cases hbb:b'=b
   ·subst hbb
    have hpo:p≠o:=fun e'=>e ⟨rfl,e'⟩
    by_cases hbk:isBlk (hget st.hp b' p)=true
    ·obtain⟨ro,sz,n,f,hk⟩:=isBlk_eq hbk
     have hl:=h.hp b' p
     rw[hk]at hl
     have hp0:p=0:=hl.1
     rw[hp0]at hk;rw[hk]at h0;cases h0
    ·refine(h.hp b' p).step hs (fun _=>rfl) (fun y hy _=> ?_) (fun hk=>absurd hk hbk)
     rw[hx]at hy;cases hy
     exact⟨World.cell?_setCell_other w _ _ _ (by intro e';cases e';exact hpo rfl),by simp⟩
   ·refine(h.hp b' p).step hs (fun _=>rfl) (fun y hy _=>⟨hother y p (fun e'=>hbb (h.inj _ _ _ hy (by rw[e'];exact hx))),by simp⟩) (fun _=>⟨rfl,fun y hy=>Below.heap_setCell _ _ _ _ (fun e'=>hbb (h.inj _ _ _ hy (by rw[e'];exact hx)))⟩)
theorem idx_inj{sz i i' j q:Nat}(hj:j<sz)(hq:q<sz)(h:i'*sz+j=i*sz+q):i'=i∧j=q:=by
 have h1:(i'*sz+j)/sz=i':=by rw[Nat.mul_comm,Nat.mul_add_div (by omega),Nat.div_eq_of_lt hj,Nat.add_zero]
 have h2:(i*sz+q)/sz=i:=by rw[Nat.mul_comm,Nat.mul_add_div (by omega),Nat.div_eq_of_lt hq,Nat.add_zero]
 have h3:i'=i:=by rw[←h1,←h2,h]
 subst h3
 exact⟨rfl,by omega⟩
theorem Sim.storeArr(h:Sim S ι st a w){b x n sz i q:Nat}{f:Nat→List AV}{C:Array Value}{T:TypeId}(hx:ι b=some x)(hblk:hget st.hp b 0= .blk false sz n f)(hC:w.heap[x]? =some (.cells C T (0,0)))(hq:q<sz)(hi:i*sz+q<C.size){c:AV}{v:Value}(hv:FRel w (FZ S ι st.hp w) c v){g:Nat→List AV}
  (hg: ∀j,j<n→g j=bif Nat.beq j i then(f j).set q c else f j) (hcells: ∀i' j,i'<n→j<sz→ ∃av u,(f i')[j]? =some av∧C[i'*sz+j]? =some u∧FRel w (FZ S ι st.hp w) av u) (hbig:n≤BIG):
  Sim S ι ⟨st.tm,hset st.hp b 0 (.blk false sz n g)⟩ a (w.setCell ⟨x,i*sz+q,none⟩ v)∧Stp ι st.hp w (FZ S ι st.hp w) ι (hset st.hp b 0 (.blk false sz n g)) (w.setCell ⟨x,i*sz+q,none⟩ v) (FZ S ι (hset st.hp b 0 (.blk false sz n g)) (w.setCell ⟨x,i*sz+q,none⟩ v)):=by
 have hrw:rwLive st.hp b:= .inl ⟨by rw[hblk];rfl,by rw[hblk];rfl⟩
 have hH: ∀b' o',hget (hset st.hp b 0 (.blk false sz n g)) b' o'=if b'=b∧o'=0 then .blk false sz n g else hget st.hp b' o':=fun b' o'=>hget_hset _ _ _ _ _ _
 have hgb:hget (hset st.hp b 0 (.blk false sz n g)) b 0= .blk false sz n g:=by rw[hH,if_pos ⟨rfl,rfl⟩]
 have hgo: ∀b' o',b'≠b→hget (hset st.hp b 0 (.blk false sz n g)) b' o'=hget st.hp b' o':=fun b' o' e=>by rw[hH,if_neg (fun h=>e h.1)]
 have hother: ∀y,y≠x→(w.setCell ⟨x,i*sz+q,none⟩ v).heap[y]? =w.heap[y]? :=fun y hy=>heap_setCell_other w ⟨x,i*sz+q,none⟩ y v hy
 have hsame:(w.setCell ⟨x,i*sz+q,none⟩ v).heap[x]? =some (.cells (C.setIfInBounds (i*sz+q) v) T (0,0)):=heap_setCell_same w x (i*sz+q) C T v hC
 have hlive: ∀b',rwLive (hset st.hp b 0 (.blk false sz n g)) b'→rwLive st.hp b':=fun b' hb'=>by
  by_cases e:b'=b
  ·rw[e];exact hrw
  ·exact rwLive_congr (fun o=>hgo b' o e) hb'
 have hs:Stp ι st.hp w (FZ S ι st.hp w) ι (hset st.hp b 0 (.blk false sz n g)) (w.setCell ⟨x,i*sz+q,none⟩ v) (FZ S ι (hset st.hp b 0 (.blk false sz n g)) (w.setCell ⟨x,i*sz+q,none⟩ v)):=by
  refine⟨fun y ⟨h1,h2,h3⟩=>⟨h1,by simpa using h2,fun b' hb'=>h3 b' (hlive b' hb')⟩,fun y p ⟨_,_,h3⟩=>World.cell?_of_block (w:=w) (hother y (fun e=>h3 b hrw (by rw[hx,e]))),fun b' y hy hk=>⟨hy,?_⟩,fun b' ro sz n' f' hk=> ?_⟩
  ·have e:b'≠b:=fun e=>by rw[e,hblk]at hk;cases hk
   rw[hgo _ _ e];exact hk
  ·by_cases e:b'=b
   ·subst e
    rw[hblk]at hk;cases hk
    refine⟨false,_,n,g,hgb,Nat.le_refl _,fun _=>⟨rfl,rfl,fun y D T' hy hD=> ?_⟩⟩
    rw[hx]at hy;cases hy
    rw[hC]at hD;cases hD
    exact⟨_,hsame,by simp⟩
   ·exact⟨ro,_,n',f',by rw[hgo _ _ e];exact hk,Nat.le_refl _,fun _=>⟨rfl,rfl,fun y D T' hy hD=>⟨D,by rw[hother y (fun e'=>e (h.inj _ _ _ hy (by rw[e'];exact hx)))];exact hD,rfl⟩⟩⟩
 refine⟨⟨h.below.setCell (h.fresh _ _ hx).1 _,h.defers,fun t u ht=> ?_,fun b' p=> ?_,h.inj,fun b' y hy=>⟨(h.fresh _ _ hy).1,by simpa using(h.fresh _ _ hy).2⟩,fun b' y hy=>Nat.lt_of_lt_of_le (h.dom _ _ hy) (length_setAt _ _ _ _).1,h.hist.trans hs⟩,hs⟩
 ·obtain⟨v,h1,h2⟩:=h.tm t u ht
  exact⟨v,h1,h2.step hs⟩
 ·show LRel _ _ _ _ _ _ (hget (hset st.hp b 0 (.blk false sz n g)) b' p)
  rw[hH]
  by_cases e:b'=b∧p=0
  ·obtain⟨rfl,rfl⟩:=e
   rw[if_pos ⟨rfl,rfl⟩]
   refine⟨rfl,.inr ⟨hbig,.inr ⟨x,_,T,hx,hsame,fun i' j hi' hj=> ?_⟩⟩⟩
   obtain⟨av,u,k1,k2,k3⟩:=hcells i' j hi' hj
   rw[hg i' hi']
   by_cases ei:i'=i
   ·subst ei
    rw[Nat.beq_refl]
    simp only[cond_true]
    by_cases ej:j=q
    ·subst ej
     have hlt:=(List.getElem?_eq_some_iff.1 k1).1
     exact⟨c,v,by rw[List.getElem?_set_self hlt],by rw[Array.getElem?_setIfInBounds_self_of_lt hi],hv.mono hs.fz hs.cell⟩
    ·exact⟨av,u,by rw[List.getElem?_set_ne (fun e=>ej e.symm)];exact k1,by rw[Array.getElem?_setIfInBounds_ne (by omega)];exact k2,k3.mono hs.fz hs.cell⟩
   ·have hbe:Nat.beq i' i=false:=by
     cases e:Nat.beq i' i with
     |false=>rfl
     |true=>exact absurd (Nat.eq_of_beq_eq_true e) ei
    rw[hbe]
    refine⟨av,u,k1,?_,k3.mono hs.fz hs.cell⟩
    rw[Array.getElem?_setIfInBounds_ne (fun e=>ei (idx_inj hj hq e.symm).1)]
    exact k2
  ·rw[if_neg e]
   by_cases hbb:b'=b
   ·subst hbb
    have hp:p≠0:=fun e'=>e ⟨rfl,e'⟩
    have hl:=h.hp b' p
    cases e2:hget st.hp b' p<;>rw[e2]at hl
    case undef=>trivial
    case blk=>exact absurd hl.1 hp
    all_goals
     have:=hl.1
     rw[hblk]at this;cases this
   ·refine(h.hp b' p).step hs (fun _=>rfl) (fun y hy _=> ?_) (fun _=>⟨rfl,fun y hy=>hother y (fun e'=>hbb (h.inj _ _ _ hy (by rw[e'];exact hx)))⟩)
    have:=hother y (fun e'=>hbb (h.inj _ _ _ hy (by rw[e'];exact hx)))
    exact⟨World.cell?_of_block (w:=w) this,World.frozen?_of_block (w:=w) this⟩
end
end Go.Vc
namespace Go.Vc
open Go Go.RowKit
inductive TyD where
 |bool|string|other
 |int (k:IntKind)
 |slice (e esz ebytes:Nat)
 |pointer (e:Nat)
 |struct (offs:List (Nat×Nat))
 |array (n e esz:Nat)
structure Ty where
 size:Nat
 d:TyD
 zero:List AV
 cmp:Bool:=false
def TyD.isAgg:TyD→Bool
 | .struct _=>true
 | .array .. =>true
 |_=>false
def ZRel:AV→Value→Prop
 | .int k n,v=>v= .int k n
 | .bool b,v=>v= .bool b
 | .str s,v=>v= .string s∧s.size=0
 | .nils,v=>v= .slice none 0 0
 | .nilp,v=>v= .pointer none
 | .undef,v=>one v=true
 |_,_=>False
def eqCell:AV→AV→Bool
 | .int _ a,.int _ b=>a==b
 | .bool a,.bool b=>a==b
 | .str a,.str b=>a.toList==b.toList
 |_,_=>false
def eqCells:List AV→List AV→Bool
 |[],[]=>true
 |a::as,b::bs=>eqCell a b&&eqCells as bs
 |_,_=>false
def eqKind:AV→AV→Bool
 | .int k _,.int k' _=>decide (k=k')
 | .bool _,.bool _=>true
 | .str _,.str _=>true
 |_,_=>false
def eqKinds:List AV→List AV→Bool
 |[],[]=>true
 |a::as,b::bs=>eqKind a b&&eqKinds as bs
 |_,_=>false
def PRel:AV→Value→Prop
 | .int k n,v=>v= .int k n
 | .bool b,v=>v= .bool b
 | .str s,v=>v= .string s
 |_,_=>False
def EqSem(P:Program)(T:TypeId)(zero:List AV):Prop:=
 ∀(op:BinOp) (x y:Operand) (cs ds:List AV) (vs us:List Value) (w:World),op= .eql∨op= .neq→eqKinds zero cs=true→eqKinds zero ds=true→All2 PRel cs vs→All2 PRel ds us→
  (do eqGuard op T x y (.agg vs.toArray) (.agg us.toArray);binOp op T (.agg vs.toArray) (.agg us.toArray):Sem Value).run P w= .ok (.bool (bif op== .eql then eqCells cs ds else !(eqCells cs ds))) w
structure TyOk (P:Program) (T:TypeId) (t:Ty):Prop where
 info: ∃i z,P.info? T=some i∧i.size=t.size∧i.zero=some z∧z.cells.size=t.size∧All2 ZRel t.zero z.cells.toList
 agg: ∃d,P.underlying T=some d∧(t.d.isAgg=true→(match d with| .struct _| .array _ _=>true|_=>false)=true)∧(t.d.isAgg=false→t.size=1∧(match d with| .struct _| .array _ _=>false|_=>true)=true)
 d:match t.d with
  | .bool=>P.underlying T=some .bool
  | .string=>P.underlying T=some .string
  | .int k=>P.underlying T=some (.int k)
  | .slice e esz eb=>P.underlying T=some (.slice e)∧ ∃i,P.info? e=some i∧i.size=esz∧i.bytes=eb∧i.zero.isSome=true∧ ∀z,i.zero=some z→z.cells.size=i.size
  | .pointer e=>P.underlying T=some (.pointer e)
  | .struct offs=> ∃fs:Array Field,P.underlying T=some (.struct fs)∧fs.toList.mapM (fun f=>(P.info? f.type).map fun i=>(f.offset,i.size))=some offs∧ ∀(k off sz:Nat),offs[k]? =some (off,sz)→ ∃f:Field,fs[k]? =some f∧f.offset=off∧ ∃i,P.info? f.type=some i∧i.size=sz∧sz≠0
  | .array n e esz=>P.underlying T=some (.array n e)∧ ∃i,P.info? e=some i∧i.size=esz
  | .other=>True
 cmp:t.cmp=true→EqSem P T t.zero
section
variable {P:Program} {T:TypeId} {t:Ty} (w:World)
theorem run_sizeOf(h:TyOk P T t):(sizeOf T).run P w= .ok t.size w:=by
 obtain⟨i,z,h1,h2,_⟩:=h.info
 simp [sizeOf,typeInfo,h1,h2]
theorem run_isAgg(h:TyOk P T t):(isAgg T).run P w= .ok t.d.isAgg w:=by
 obtain⟨d,h1,h2,h3⟩:=h.agg
 cases e:t.d.isAgg with
 |true=>
  have h4:=h2 e
  cases d<;>first|(cases h4;done)|simp [isAgg,run_underlying h1]
 |false=>
  have h4:=(h3 e).2
  cases d<;>simp [isAgg,run_underlying h1]at*
theorem run_zeroValue(h:TyOk P T t): ∃z,(zeroValue T).run P w= .ok z w∧All2 ZRel t.zero z.cells.toList∧z.cells.size=t.size:=by
 obtain⟨i,z,h1,h2,h3,h4,h5⟩:=h.info
 exact⟨z,by simp [zeroValue,typeInfo,h1,h3],h5,h4⟩
def aggOf(b:Bool)(vs:List Value):Value:=if b then .agg vs.toArray else vs.headD undef
theorem run_loadVar'(h:TyOk P T t)(x o:Nat)(vs:List Value)(hl:vs.length=t.size)(hc: ∀(j:Nat) v,vs[j]? =some v→w.cell? ⟨x,o+j,none⟩=some v):
  (loadVar T ⟨x,o,none⟩).run P w= .ok (aggOf t.d.isAgg vs) w:=by
 have hadd: ∀j:Nat,(Addr.add ⟨x,o,none⟩ j)=⟨x,o+j,none⟩:=fun j=>Addr.add_lit x o j
 cases e:t.d.isAgg with
 |true=>
  have:=run_loadCells_list (P:=P) w ⟨x,o,none⟩ vs (fun j v hj=>by rw[hadd];exact hc j v hj)
  rw[hl]at this
  simp [loadVar,run_isAgg w h,e,run_sizeOf w h,this,aggOf]
 |false=>
  obtain⟨d,_,_,h3⟩:=h.agg
  have h1:=(h3 e).1
  match vs,hl with
  |[],hl=>simp at hl;omega
  |[v],_=>
   have:=hc 0 v rfl
   simp only[Nat.add_zero]at this
   simp [loadVar,run_isAgg w h,e,aggOf,this]
  |_::_::_,hl=>simp at hl;omega
end
end Go.Vc
namespace Go.Vc
open Go Go.RowKit
section
variable {P:Program} {S:Base} {ι:Nat→Option Nat} {st:St} {a:Act} {w:World}
def hsets(H:Heap)(b:Nat):List AV→Nat→Heap
 |[],_=>H
 |c::cs,o=>hsets (hset H b o c) b cs (o+1)
theorem run_store_one(w:World)(p:Addr){v u:Value}(h1:one v=true)(hc:w.cell? p=some u)(hf:w.frozen? p=false):(Go.store p v).run P w= .ok () (w.setCell p v):=by
 cases v<;>first|(cases h1;done)|simp [Go.store,Sem.run,hc,hf]
theorem Sim.stores{b x o0:Nat}(hx:ι b=some x): ∀(cs:List AV) (vs:List Value) (i:Nat) (st:St) (w:World),Sim S ι st a w→isBlk (hget st.hp b 0)=false→
  (∀j,j<cs.length→hget st.hp b (o0+i+j)≠ .undef∧isBlk (hget st.hp b (o0+i+j))=false)→All2 (CRel ι st.hp w (FZ S ι st.hp w)) cs vs→
  ∃w',(storeCells ⟨x,o0,none⟩ vs i).run P w= .ok () w'∧Sim S ι ⟨st.tm,hsets st.hp b cs (o0+i)⟩ a w'∧Stp ι st.hp w (FZ S ι st.hp w) ι (hsets st.hp b cs (o0+i)) w' (FZ S ι (hsets st.hp b cs (o0+i)) w')
 |[],[],i,st,w,h,_,_,_=>⟨w,by simp [storeCells],h,Stp.refl⟩
 |[],_::_,_,_,_,_,_,_,hv=>hv.elim
 |_::_,[],_,_,_,_,_,_,hv=>hv.elim
 |c::cs,v::vs,i,st,w,h,h0,hu,hv=>by
  obtain⟨hu1,hu2⟩:=hu 0 (by simp)
  simp only[Nat.add_zero]at hu1 hu2
  obtain⟨h1,s1⟩:=h.store hx hu1 h0 hu2 hv.1
  obtain⟨x',v0,hx',hc0,hf0,_⟩:=(h.hp b (o0+i)).box hu1 hu2
  rw[hx]at hx';cases hx'
  have hcb:isBlk c=false:=by cases c<;>first|rfl|exact hv.1.elim
  have h0':isBlk (hget (hset st.hp b (o0+i) c) b 0)=false:=by rw[hget_hset];split;exact hcb;exact h0
  obtain⟨w',r,h2,s2⟩:=Sim.stores (o0:=o0) hx cs vs (i+1) ⟨st.tm,hset st.hp b (o0+i) c⟩ _ h1 h0' (fun j hj=>by
   rw[hget_hset,if_neg (by omega)]
   have:=hu (j+1) (by simp;omega)
   rwa [show o0+i+(j+1)=o0+(i+1)+j by omega]at this) (hv.2.imp fun _ _=>CRel.step s1)
  refine⟨w',?_,h2,s1.trans s2⟩
  have hst:=run_store_one (P:=P) w ⟨x,o0+i,none⟩ (CRel.one hv.1) hc0 hf0
  simp only[storeCells,Sem.run_bind,Addr.add_lit,hst,Result.andThen]
  exact r
end
end Go.Vc
