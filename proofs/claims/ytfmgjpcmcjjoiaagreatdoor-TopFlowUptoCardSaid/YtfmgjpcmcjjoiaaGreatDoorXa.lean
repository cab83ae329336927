/- Part of a proof: the executor and its soundness. -/
import Derived.Tactics
import Derived.Orders
import Derived.Below
import Derived.Laws.Cells
import Derived.Laws.World
import Derived.Laws.Rows
import Derived.KernelRfl
import Derived.WalkLawsBesides
import Derived.Laws.Tables
open Go.IntKind (i64 u64 u8)
open Int (toNat)
set_option maxRecDepth 100000
set_option maxHeartbeats 4000000
set_option linter.all false
noncomputable section
namespace Go
theorem ay{p:Prop}[inst:Decidable p]:decide p=true→p:=of_decide_eq_true
theorem iw{p:Prop}[inst:Decidable p]:decide p=false→¬p:=of_decide_eq_false
theorem cx{p:Prop}[inst:Decidable p]:p→decide p=true:=decide_eq_true
theorem cq{p:Prop}[inst:Decidable p]:¬p→decide p=false:=decide_eq_false
theorem bE{α:Type _}[BEq α][LawfulBEq α]{a b:α}:(a != b)=false→a=b:=bne_eq_false_iff_eq.1
theorem cM{α:Type _}[BEq α][ReflBEq α]{a b:α}:(a==b)=false→a≠b:=ne_of_beq_false
theorem fC(n:Nat):¬n<0:=Nat.not_lt_zero n
abbrev ag:Type:=ByteArray
def aCN:=@Bool.and_eq_true
def aCI:=@cond_false
def aCP:=@List.getElem?_eq_getElem
def aCJ:=@cond_true
def aCK:=@Nat.le_refl
def aCS:=@Nat.eq_of_beq_eq_true
def aCR:=@List.all_eq_true
def aCW:=@List.getElem?_eq_none
def aCO:=@Nat.zero_add
def aCV:=@List.mem_of_getElem?
def aCL:=@if_pos
def aCM:=@if_neg
def aC1:=@Nat.le_of_ble_eq_true
def aCQ:=@Nat.zero_le
def aC2:=@Nat.mul_le_mul_right
def aCZ:=@Int.toNat_natCast
def aC0:=@Nat.lt_of_lt_of_le
def aCU:=@run_underlying
def aDc:=@List.getElem?_eq_some_iff
def aCT:=@Int.le_refl
def aC3:=@Option.some.injEq
def aC4:=@List.getElem?_map
def aCX:=@Nat.le_trans
def aCY:=@Nat.lt_or_ge
def aC8:=@List.length_append
def aC5:=@List.mem_append
def aC7:=@List.length_cons
def aC_:=@Bool.not_eq_true'
def aDd:=@decide_eq_true_eq
def aDe:=@List.append_assoc
def aC6:=@Nat.add_mul
def aDo:=@Option.map_eq_some_iff
def aDt:=@Array.getElem?_append_left
def aDu:=@Array.getElem?_eq_getElem
def aDa:=@List.mem_cons
def aDy:=@Array.getElem?_eq_some_iff
def aDh:=@List.mem_flatMap
def aDf:=@List.length_nil
def aDj:=@List.flatMap_cons
def aDb:=@Nat.succ_mul
def aDk:=@Option.getD_some
def aDi:=@List.append_nil
def aDH:=@List.getElem?_append_left
def aC9:=@Nat.blt_eq
def aDz:=@List.take_append_drop
def aDm:=@List.cons.injEq
def aDv:=@List.getElem?_drop
def aDq:=@List.length_take
def aDA:=@beq_eq_false_iff_ne
def aDI:=@List.getElem?_toArray
def aDw:=@List.size_toArray
def aDl:=@Nat.add_zero
def aDJ:=@List.getElem?_of_mem
def aDV:=@List.getElem?_take_of_lt
def aDB:=@Nat.le_add_right
def aDp:=@Nat.beq_refl
def aD4:=@List.getElem?_append_right
def aEi:=@Array.getElem?_setIfInBounds_ne
def aDK:=@List.getElem?_set
def aDC:=@Option.map_some
def aDD:=@List.nil_append
def aDE:=@heap_alloc_new
def aDQ:=@Array.size_append
def aDR:=@Nat.le_succ_of_le
def aEj:=@Array.getD_eq_getD_getElem?
def aDx:=@List.mem_map
def aDF:=@Nat.add_assoc
def aDW:=@Nat.eq_zero_or_pos
def aD5:=@List.singleton_append
def aEk:=@List.drop_eq_getElem_cons
def aD6:=@List.getElem?_set_ne
def aDr:=@Array.ext'
def aD7:=@Bool.or_eq_false_iff
def aDg:=@if_true
def aDX:=@List.flatten_cons
def aDL:=@Prod.mk.injEq
def aEl:=@List.length_eq_zero_iff
def aEm:=@Int.eq_ofNat_of_zero_le
def aD8:=@List.getElem?_range
def aD9:=@List.flatMap_append
def aDn:=@if_false
def aDY:=@List.getElem_mem
def aDS:=@List.mem_range
def aDT:=@List.drop_drop
def aDM:=@Nat.mul_comm
def aDZ:=@Option.some.inj
def aEy:=@List.getD_eq_getElem?_getD
def aD_:=@List.ext_getElem?
def aEn:=@List.mem_of_mem_drop
def aDG:=@beq_iff_eq
def aDN:=@cell_of_row
def aEa:=@beq_self_eq_true
def aEb:=@List.not_mem_nil
def aEc:=@List.length_drop
def aEd:=@List.cons_append
def aEo:=@run_firstCells_some
def aEp:=@List.map_congr_left
def aD0:=@List.all_cons
def aEq:=@List.filter_append
def aEz:=@Array.getElem?_eq_none
def aDO:=@decide_true
def aDP:=@grownCap_ge
def aEr:=@Nat.ne_of_beq_eq_false
def aEA:=@List.eq_nil_of_length_eq_zero
def aDU:=@decide_false
def aEs:=@Array.getElem?_toList
def aD1:=@Int.lt_irrefl
def aDs:=@wp_mono
def aEt:=@Int.toNat_of_nonneg
def aEe:=@List.foldl_cons
def aEf:=@List.mem_filter
def aEg:=@Bool.or_eq_true
def aEB:=@List.getElem?_zip_eq_some
def aEu:=@run_loadCells_list
def aEv:=@List.getElem?_take
def aD2:=@wpList_plain
def aEC:=@List.getElem?_replicate
def aD3:=@Nat.sub_mul
def aEh:=@List.map_cons
def aEw:=@Nat.div_eq_of_lt
def aEx:=@Nat.mod_eq_of_lt
end Go
namespace Go.Vc
open Go Go.RowKit
inductive AV where
 |undef
 |int (k:IntKind) (n:Int)
 |bool (b:Bool)
 |lit (b:Bool)
 |gone
 |str (s:ByteArray)
 |aE
 |arr (sz n:Nat) (f:Nat→List AV)
 |own (b n:Nat)
 |ah (ro:Bool) (sz n:Nat) (f:Nat→List AV)
 |ptr (b o:Nat)
 |fF (b n i o:Nat)
 |ref (cs:List AV)
 |fn (f:FuncId) (bp:List AV)
 |agg (cs:List AV)
 |cU (vs:List AV)
 |jX
 |kK (sz n:Nat) (f:Nat→List AV)
instance:Inhabited AV:=⟨.undef⟩
abbrev _root_.Go.ae(n:Int):AV:= .int .i64 n
def vY:List (Nat×List AV):=[(0,[.int .i64 22,.str ⟨#[]⟩,.str ⟨#[]⟩,.str ⟨#[]⟩,.int .i64 0])]
def pR(g:Nat):List (Nat×List AV)→AV
 |[]=> .undef
 |x::l=>match Nat.beq g x.1 with
  |true=> .ref x.2
  |false=>pR g l
abbrev dg:Nat:=549755813888
def one:Value→Bool
 | .agg _=>false
 | .tuple _=>false
 |_=>true
def aT{α β:Type}(R:α→β→Prop):List α→List β→Prop
 |[],[]=>True
 |a::aa,b::bs=>R a b∧aT R aa bs
 |_,_=>False
theorem aT.length{α β:Type}{R:α→β→Prop} : ∀{aa:List α} {bs:List β},aT R aa bs→aa.length=bs.length
 |[],[],_=>rfl
 |_::_,_::_,h=>by simp [aT.length h.2]
 |[],_::_,h=>h.elim
 |_::_,[],h=>h.elim
theorem aT.imp{α β:Type}{R R':α→β→Prop}(hr: ∀a b,R a b→R' a b): ∀{aa:List α} {bs:List β},aT R aa bs→aT R' aa bs
 |[],[],_=>trivial
 |_::_,_::_,h=>⟨hr _ _ h.1,aT.imp hr h.2⟩
 |[],_::_,h=>h.elim
 |_::_,[],h=>h.elim
theorem aT.get{α β:Type}{R:α→β→Prop} : ∀{aa:List α} {bs:List β},aT R aa bs→ ∀(i:Nat) (a:α),aa[i]? =some a→ ∃b,bs[i]? =some b∧R a b
 |[],[],_,i,a,h=>by simp at h
 |x::aa,y::bs,h,0,a,ha=>by simp at ha;subst ha;exact⟨y,by simp,h.1⟩
 |x::aa,y::bs,h,i+1,a,ha=>by simpa using aT.get h.2 i a (by simpa using ha)
 |[],_::_,h,_,_,_=>h.elim
 |_::_,[],h,_,_,_=>h.elim
theorem aT.mk{α β:Type}{R:α→β→Prop} : ∀{aa:List α} {bs:List β},aa.length=bs.length→(∀(i:Nat) (a:α) (b:β),aa[i]? =some a→bs[i]? =some b→R a b)→aT R aa bs
 |[],[],_,_=>trivial
 |a::aa,b::bs,hl,h=>⟨h 0 a b rfl rfl,aT.mk (by simpa using hl) fun i a' b' ha hb=>h (i+1) a' b' (by simpa using ha) (by simpa using hb)⟩
 |[],_::_,hl,_=>by simp at hl
 |_::_,[],hl,_=>by simp at hl
theorem aT.append{α β:Type}{R:α→β→Prop} : ∀{aa:List α} {bs:List β} {cs:List α} {ds:List β},aT R aa bs→aT R cs ds→aT R (aa++cs) (bs++ds)
 |[],[],_,_,_,h=>h
 |_::_,_::_,_,_,h,k=>⟨h.1,aT.append h.2 k⟩
 |[],_::_,_,_,h,_=>h.elim
 |_::_,[],_,_,h,_=>h.elim
inductive aR (w:World) (F:Nat→Prop):AV→Value→Prop
 |int (k:IntKind) (n:Int):aR w F (.int k n) (.int k n)
 |bool (b:Bool):aR w F (.bool b) (.bool b)
 |lit (b:Bool):aR w F (.lit b) (.bool b)
 |str (s:ByteArray) (hb:s.size≤dg):aR w F (.str s) (.string s)
 |aE:aR w F .aE (.slice none 0 0)
 |jX:aR w F .jX (.pointer none)
 |kK (sz n:Nat) (f:Nat→List AV) (p:Option Addr) (c:Nat) (h:aR w F (.arr sz n f) (.slice p n c)) (hc:c=n):aR w F (.kK sz n f) (.slice p n c)
 |nil (sz:Nat) (f:Nat→List AV):aR w F (.arr sz 0 f) (.slice none 0 0)
 |mt (sz:Nat) (f:Nat→List AV) (a:Addr) (c:Nat):aR w F (.arr sz 0 f) (.slice (some a) 0 c)
 |arr (sz n:Nat) (f:Nat→List AV) (b o c:Nat) (g:Nat→Nat→AV) (vs:Nat→Nat→Value) (hn:n≤c) (hb:n≤dg) (hF:0<n→F b)
   (h1: ∀i j,i<n→j<sz→(f i)[j]? =some (g i j)) (h2: ∀i j,i<n→j<sz→w.cell? ⟨b,o+i*sz+j,none⟩=some (vs i j))
   (h3: ∀i j,i<n→j<sz→aR w F (g i j) (vs i j)):aR w F (.arr sz n f) (.slice (some ⟨b,o,none⟩) n c)
 |ref (cs:List AV) (b o:Nat) (g:Nat→AV) (vs:Nat→Value) (hF:F b) (h1: ∀j,j<cs.length→cs[j]? =some (g j))
   (h2: ∀j,j<cs.length→w.cell? ⟨b,o+j,none⟩=some (vs j)) (h3: ∀j,j<cs.length→aR w F (g j) (vs j)):aR w F (.ref cs) (.pointer (some ⟨b,o,none⟩))
 |fn (f:FuncId) (bp:List AV) (vs:List Value) (g:Nat→AV) (u:Nat→Value) (hl:vs.length=bp.length) (h1: ∀j,j<bp.length→bp[j]? =some (g j))
   (h2: ∀j,j<bp.length→vs[j]? =some (u j)) (h3: ∀j,j<bp.length→aR w F (g j) (u j)):aR w F (.fn f bp) (.func (.func f) #[] vs.toArray)
theorem aR.mono{w w':World}{F F':Nat→Prop}(hF: ∀x,F x→F' x)(hc: ∀x o,F x→w'.cell? ⟨x,o,none⟩=w.cell? ⟨x,o,none⟩){av:AV}{v:Value}(h:aR w F av v):aR w' F' av v:=by
 induction h with
 |int k n=>exact .int k n
 |bool b=>exact .bool b
 |lit b=>exact .lit b
 |str s hb=>exact .str s hb
 |aE=>exact .aE
 |jX=>exact .jX
 |kK sz n f p c h hc ih=>exact .kK sz n f p c ih hc
 |nil sz f=>exact .nil sz f
 |mt sz f a c=>exact .mt sz f a c
 |arr sz n f b o c g vs hn hb Hs h1 h2 h3 ih=>
  exact .arr sz n f b o c g vs hn hb (fun h=>hF _ (Hs h)) h1 (fun i j hi hj=>by rw[hc b _ (Hs (by omega))];exact h2 i j hi hj) ih
 |ref cs b o g vs Hs h1 h2 h3 ih=>
  exact .ref cs b o g vs (hF _ Hs) h1 (fun j hj=>by rw[hc b _ Hs];exact h2 j hj) ih
 |fn f bp vs g u hl h1 h2 h3 ih=>exact .fn f bp vs g u hl h1 h2 ih
def fD(w:World)(F:Nat→Prop):AV→Value→Prop
 | .undef,_=>False
 | .agg cs,v=> ∃vs:List Value,v= .agg vs.toArray∧aT (aR w F) cs vs
 |av,v=>aR w F av v
theorem fD.mono{w w':World}{F F':Nat→Prop}(hF: ∀x,F x→F' x)(hc: ∀x o,F x→w'.cell? ⟨x,o,none⟩=w.cell? ⟨x,o,none⟩){av:AV}{v:Value}(h:fD w F av v):fD w' F' av v:=by
 cases av<;>simp only[fD]at* <;>first|exact h|exact h.mono hF hc|skip
 obtain⟨vs,rfl,h⟩:=h;exact⟨vs,rfl,h.imp fun _ _=>aR.mono hF hc⟩
def kH(w:World)(F:Nat→Prop):AV→Value→Prop
 | .cU aa,v=> ∃vs:List Value,v= .tuple vs.toArray∧aT (fD w F) aa vs
 |av,v=>fD w F av v
theorem kH.mono{w w':World}{F F':Nat→Prop}(hF: ∀x,F x→F' x)(hc: ∀x o,F x→w'.cell? ⟨x,o,none⟩=w.cell? ⟨x,o,none⟩){av:AV}{v:Value}(h:kH w F av v):kH w' F' av v:=by
 cases av
 case cU aa=>
  obtain⟨us,rfl,hr⟩:=h;exact⟨us,rfl,hr.imp fun _ _=>fD.mono hF hc⟩
 all_goals (simp only[kH]at h ⊢;exact fD.mono hF hc h)
def qJ(n0:Nat)(w:World)(F:Nat→Prop):AV→Value→Prop
 | .ah _ sz n f,v=>(n=0∧v= .slice none 0 0)∨ ∃x c C T,n0≤x∧x<w.heap.size∧v= .slice (some ⟨x,0,none⟩) n c∧n≤c∧n≤dg∧w.heap[x]? =some (.cells C T (0,0))∧C.size=c*sz∧
   ∀i j,i<n→j<sz→ ∃av u,(f i)[j]? =some av∧C[i*sz+j]? =some u∧aR w (fun y=>F y∧y≠x) av u
 |av,v=>kH w F av v
structure Ee (w:World) (F:Nat→Prop):Prop where
 lt: ∀x,F x→x<w.heap.size
 gl: ∀g,pR g vY= .undef∨aR w F (pR g vY) (.pointer (some ⟨g,0,none⟩))
def fk(P:Program)(f:FuncId)(aa:List AV)(r:AV):Prop:=
 ∀(w:World) (F:Nat→Prop) (vs:List Value),Ee w F→aT (fD w F) aa vs→
  Calls P f vs.toArray w fun e w'=> ∃v,e= .returned v∧qJ w.heap.size w' (fun x=>F x∨(w.heap.size≤x∧x<w'.heap.size)) r v∧Below w.heap.size w w'
abbrev Heap:=List (List AV)
def aj(H:Heap)(b o:Nat):AV:=(H.getD b []).getD o .undef
def bW:AV→Bool
 | .ah .. =>true
 |_=>false
def pw:AV→Bool
 | .undef=>false
 | .ah ro _ _ _=> !ro
 |_=>true
def nD(H:Heap)(b:Nat):Prop:=(bW (aj H b 0)=true∧pw (aj H b 0)=true)∨(bW (aj H b 0)=false∧ ∃o,pw (aj H b o)=true)
theorem oG{H H':Heap}{b:Nat}(h: ∀o,aj H' b o=aj H b o)(k:nD H' b):nD H b:=by
 unfold nD at*
 simpa only[h]using k
def Fz(F0:Nat→Prop)(B:Nat)(ι:Nat→Option Nat)(H:Heap)(w:World)(x:Nat):Prop:=(F0 x∨B≤x)∧x<w.heap.size∧ ∀b,nD H b→ι b≠some x
def jx(ι:Nat→Option Nat)(H:Heap)(w:World)(F:Nat→Prop):AV→Value→Prop
 | .ptr b o,v=>bW (aj H b 0)=false∧ ∃x,ι b=some x∧v= .pointer (some ⟨x,o,none⟩)
 |av,v=>aR w F av v
def bV(ι:Nat→Option Nat)(H:Heap)(w:World)(F:Nat→Prop):AV→Value→Prop
 | .undef,v=>one v=true
 | .gone,v=>one v=true
 | .own b k,v=>one v=true∧ ∃ro sz n f,aj H b 0= .ah ro sz n f∧k≤n∧(k=n→(∃x c C T,ι b=some x∧v= .slice (some ⟨x,0,none⟩) n c∧n≤c∧w.heap[x]? =some (.cells C T (0,0))∧C.size=c*sz)∨
   (n=0∧ι b=none∧v= .slice none 0 0))
 | .ptr b o,v=>bW (aj H b 0)=false∧ ∃x,ι b=some x∧v= .pointer (some ⟨x,o,none⟩)
 | .fF b k i o,v=>one v=true∧ ∃ro sz n f,aj H b 0= .ah ro sz n f∧k≤n∧(k=n→ ∃x,ι b=some x∧v= .pointer (some ⟨x,i*sz+o,none⟩))
 | .fn f bp,v=> ∃vs:List Value,v= .func (.func f) #[] vs.toArray∧aT (jx ι H w F) bp vs
 | .agg _,_=>False
 | .cU _,_=>False
 | .ah ..,_=>False
 |av,v=>aR w F av v
def fc(ι:Nat→Option Nat)(H:Heap)(w:World)(F:Nat→Prop)(b o:Nat):AV→Prop
 | .undef=>True
 | .ah ro sz n f=>o=0∧((ro=true∧sz=0∧ι b=none)∨n≤dg∧((n=0∧ι b=none)∨ ∃x C T,ι b=some x∧w.heap[x]? =some (.cells C T (0,0))∧
   ∀i j,i<n→j<sz→ ∃av v,(f i)[j]? =some av∧C[i*sz+j]? =some v∧aR w F av v))
 |av=>bW (aj H b 0)=false∧ ∃x v,ι b=some x∧w.cell? ⟨x,o,none⟩=some v∧w.frozen? ⟨x,o,none⟩=false∧bV ι H w F av v
def gm(ι:Nat→Option Nat)(H:Heap)(w:World)(F:Nat→Prop):AV→Value→Prop
 | .agg cs,v=> ∃vs:List Value,v= .agg vs.toArray∧aT (bV ι H w F) cs vs
 | .gone,_=>False
 |av,v=>bV ι H w F av v
def dZ(ι:Nat→Option Nat)(H:Heap)(w:World)(F:Nat→Prop):AV→Value→Prop
 | .undef,_=>True
 | .gone,v=>v=undef
 | .cU aa,v=> ∃vs:List Value,v= .tuple vs.toArray∧aT (gm ι H w F) aa vs
 |av,v=>gm ι H w F av v
structure St where
 tm:List AV
 hp:Heap
structure dV (ι:Nat→Option Nat) (H:Heap) (w:World) (F:Nat→Prop) (aA:Nat→Option Nat) (H':Heap) (w':World) (F':Nat→Prop):Prop where
 fz: ∀x,F x→F' x
 cell: ∀x o,F x→w'.cell? ⟨x,o,none⟩=w.cell? ⟨x,o,none⟩
 box: ∀b x,ι b=some x→bW (aj H b 0)=false→aA b=some x∧bW (aj H' b 0)=false
 arr: ∀b ro sz n f,aj H b 0= .ah ro sz n f→ ∃iq fe n' f',aj H' b 0= .ah iq fe n' f'∧n≤n'∧
  (n=n'→fe=sz∧aA b=ι b∧ ∀x C T,ι b=some x→w.heap[x]? =some (.cells C T (0,0))→ ∃C':Array Value,w'.heap[x]? =some (.cells C' T (0,0))∧C'.size=C.size)
structure je (Pd:Nat→Prop) (B:Nat) (w w':World):Prop where
 os:w'.os=w.os
 tape:w'.tape=w.tape
 output:w'.output=w.output
 size:w.heap.size≤w'.heap.size
 block: ∀k,k<B→ ¬Pd k→w'.heap[k]? =w.heap[k]?
theorem je.refl(Pd:Nat→Prop)(B:Nat)(w:World):je Pd B w w:=⟨rfl,rfl,rfl,aCK _,fun _ _ _=>rfl⟩
theorem je.of{Pd:Nat→Prop}{B:Nat}{w w':World}(h:Below B w w'):je Pd B w w':=⟨h.os,h.tape,h.output,h.size,fun k hk _=>h.block k hk⟩
theorem je.then{Pd:Nat→Prop}{B:Nat}{a b c:World}(h:je Pd B a b)(k:je Pd B b c):je Pd B a c:=
 ⟨k.os.trans h.os,k.tape.trans h.tape,k.output.trans h.output,aCX h.size k.size,fun i hi hp=>(k.block i hi hp).trans (h.block i hi hp)⟩
theorem je.trans{Pd:Nat→Prop}{B:Nat}{a b c:World}(h:je Pd B a b)(k:Below B b c):je Pd B a c:=h.then (.of k)
theorem je.alloc{Pd:Nat→Prop}{B:Nat}{a w:World}(h:je Pd B a w)(hB:B≤w.heap.size)(o:Obj):je Pd B a (w.alloc o):=
 h.trans ((Below.refl B w).alloc hB o)
theorem je.setCell{Pd:Nat→Prop}{B:Nat}{a w:World}(h:je Pd B a w){p:Addr}(hp:B≤p.block∨Pd p.block)(u:Value):je Pd B a (w.setCell p u):=
 h.then ⟨rfl,rfl,rfl,by simp [World.setCell],fun k hk hn=>Below.heap_setCell _ _ _ _ (fun e=>hp.elim (fun h=>by omega) fun h=>hn (by rw[e];exact h))⟩
theorem je.plain{Pd:Nat→Prop}{B:Nat}{a w:World}(h:je Pd B a w)(hp: ∀k,¬Pd k):Below B a w:=⟨h.os,h.tape,h.output,h.size,fun k hk=>h.block k hk (hp k)⟩
structure dF where
 F0:Nat→Prop
 w0:World
 lt: ∀x,F0 x→x<w0.heap.size
 Pd:Nat→Prop
 pd: ∀x,Pd x→F0 x
 jL:Nat→Option Nat
 H0:Heap
 G0:Nat→Prop
 qO: ∀b x,jL b=some x→b<H0.length
 gl: ∀g,pR g vY= .undef∨aR w0 G0 (pR g vY) (.pointer (some ⟨g,0,none⟩))
structure aP (S:dF) (ι:Nat→Option Nat) (st:St) (a:Act) (w:World):Prop where
 below:je S.Pd S.w0.heap.size S.w0 w
 defers:a.defers=[]
 tm: ∀(t:Nat) (av:AV),st.tm[t]? =some av→ ∃v,a.tmps[t]? =some v∧dZ ι st.hp w (Fz S.F0 S.w0.heap.size ι st.hp w) av v
 hp: ∀b o,fc ι st.hp w (Fz S.F0 S.w0.heap.size ι st.hp w) b o (aj st.hp b o)
 inj: ∀b b' x,ι b=some x→ι b'=some x→b=b'
 fresh: ∀b x,ι b=some x→(S.w0.heap.size≤x∨S.Pd x)∧x<w.heap.size
 gH: ∀b x,ι b=some x→b<st.hp.length
 gK:dV S.jL S.H0 S.w0 S.G0 ι st.hp w (Fz S.F0 S.w0.heap.size ι st.hp w)
theorem aP.own{S:dF}{ι:Nat→Option Nat}{st:St}{a:Act}{w:World}(h:aP S ι st a w){b x:Nat}(hx:ι b=some x):S.F0 x∨S.w0.heap.size≤x:=
 (h.fresh b x hx).1.elim .inr fun h=> .inl (S.pd x h)
theorem agt: ∀(g:Nat) (l:List (Nat×List AV)),pR g l= .undef∨ ∃cs,pR g l= .ref cs
 |_,[]=> .inl rfl
 |g,x::l=>by
  unfold pR
  cases Nat.beq g x.1
  ·exact agt g l
  ·exact .inr ⟨_,rfl⟩
theorem aP.gl{S:dF}{ι:Nat→Option Nat}{st:St}{a:Act}{w:World}(h:aP S ι st a w)(g:Nat):pR g vY= .undef∨aR w (Fz S.F0 S.w0.heap.size ι st.hp w) (pR g vY) (.pointer (some ⟨g,0,none⟩)):=
 (S.gl g).imp id fun k=>k.mono h.gK.fz h.gK.cell
theorem aP.SO{S:dF}{ι:Nat→Option Nat}{st:St}{a:Act}{w:World}(h:aP S ι st a w):Ee w (Fz S.F0 S.w0.heap.size ι st.hp w):=⟨fun _ hx=>hx.2.1,h.gl⟩
def pack(us:List Value):Value:=if h:us.toArray.size=1 then us.toArray[0]else .tuple us.toArray
def fj(P:Program)(f:FuncId)(aa:List AV)(H:Heap)(rs:List AV)(H':Heap):Prop:=
 ∀(S:dF) (ι:Nat→Option Nat) (w:World) (vs:List Value),S.H0.length≤H.length→vs.length=aa.length→aP S ι ⟨aa,H⟩ {tmps:=vs.toArray,defers:=[]} w→
  Calls P f vs.toArray w fun e w'=> ∃us aA,e= .returned (pack us)∧us.length=rs.length∧aP S aA ⟨rs,H'⟩ {tmps:=us.toArray,defers:=[]} w'
section
variable {ι aA:Nat→Option Nat} {H H':Heap} {w w':World} {F F':Nat→Prop}
theorem dV.refl:dV ι H w F ι H w F:=⟨fun _ h=>h,fun _ _ _=>rfl,fun _ _ h k=>⟨h,k⟩,fun _ ro sz n f h=>⟨ro,sz,n,f,h,aCK _,fun _=>⟨rfl,rfl,fun _ C _ _ h=>⟨C,h,rfl⟩⟩⟩⟩
theorem dV.trans{ι aA dU:Nat→Option Nat}{H H' H2:Heap}{w w' w2:World}{F F' F2:Nat→Prop}(h:dV ι H w F aA H' w' F')(k:dV aA H' w' F' dU H2 w2 F2):dV ι H w F dU H2 w2 F2:=by
 refine⟨fun x hx=>k.fz x (h.fz x hx),fun x o hx=>(k.cell x o (h.fz x hx)).trans (h.cell x o hx),fun b x hx hb=>k.box b x (h.box b x hx hb).1 (h.box b x hx hb).2,fun b ro sz n f hk=> ?_⟩;obtain⟨iq,fe,n',f',h1,h2,h3⟩:=h.arr b ro sz n f hk;obtain⟨O2,Po,n2,f2,k1,k2,k3⟩:=k.arr b iq fe n' f' h1;refine⟨O2,Po,n2,f2,k1,by omega,fun e=> ?_⟩;have e1:n=n':=by omega
 have e2:n'=n2:=by omega
 obtain⟨hz,h4,h5⟩:=h3 e1;obtain⟨kz,k4,k5⟩:=k3 e2;refine⟨kz.trans hz,k4.trans h4,fun x C T hx hC=> ?_⟩;obtain⟨C1,h6,h7⟩:=h5 x C T hx hC;obtain⟨C2,k6,k7⟩:=k5 x C1 T (by rw[h4];exact hx) h6;exact⟨C2,k6,k7.trans h7⟩
theorem jx.step(h:dV ι H w F aA H' w' F'){av:AV}{v:Value}(k:jx ι H w F av v):jx aA H' w' F' av v:=by
 cases av<;>simp only[jx]at* <;>first|exact k.mono h.fz h.cell|skip
 obtain⟨k1,x,k2,k3⟩:=k;exact⟨(h.box _ _ k2 k1).2,x,(h.box _ _ k2 k1).1,k3⟩
theorem bV.step(h:dV ι H w F aA H' w' F'){av:AV}{v:Value}(k:bV ι H w F av v):bV aA H' w' F' av v:=by
 cases av<;>simp only[bV]at* <;>first|exact k.mono h.fz h.cell|exact k|skip
 ·obtain⟨k0,ro,sz,n,f,k1,k2,k3⟩:=k;obtain⟨iq,fe,n',f',h1,h2,h3⟩:=h.arr _ _ _ _ _ k1;refine⟨k0,iq,fe,n',f',h1,by omega,fun e=> ?_⟩;have e2:n=n':=by omega
  obtain⟨hz,h4,h5⟩:=h3 e2;subst hz;rcases k3 (by omega)with⟨x,c,C,T,k4,k5,k6,k7,k8⟩|⟨k4,k5,k6⟩
  ·obtain⟨C',h6,h7⟩:=h5 x C T k4 k7;exact .inl ⟨x,c,C',T,by rw[h4];exact k4,by rw[←e2];exact k5,by omega,h6,by rw[h7];exact k8⟩
  ·exact .inr ⟨by omega,by rw[h4];exact k5,k6⟩
 ·obtain⟨k1,x,k2,k3⟩:=k;exact⟨(h.box _ _ k2 k1).2,x,(h.box _ _ k2 k1).1,k3⟩
 ·obtain⟨k0,ro,sz,n,f,k1,k2,k3⟩:=k;obtain⟨iq,fe,n',f',h1,h2,h3⟩:=h.arr _ _ _ _ _ k1;refine⟨k0,iq,fe,n',f',h1,by omega,fun e=> ?_⟩;have e2:n=n':=by omega
  obtain⟨x,k4,k5⟩:=k3 (by omega);obtain⟨hz,h4,_⟩:=h3 e2;subst hz;exact⟨x,by rw[h4];exact k4,k5⟩
 ·obtain⟨vs,k1,k2⟩:=k;exact⟨vs,k1,k2.imp fun _ _=>jx.step h⟩
theorem aR.one{av:AV}{v:Value}(k:aR w F av v):one v=true:=by cases k<;>rfl
theorem bV.one{av:AV}{v:Value}(k:bV ι H w F av v):one v=true:=by
 cases av<;>simp only[bV]at k<;>first|exact k|exact k.one|exact k.1|(obtain⟨_,_,_,rfl⟩:=k;rfl)|(obtain⟨_,rfl,_⟩:=k;rfl)
theorem gm.step(h:dV ι H w F aA H' w' F'){av:AV}{v:Value}(k:gm ι H w F av v):gm aA H' w' F' av v:=by
 cases av<;>simp only[gm]at* <;>first|exact k.step h|skip
 obtain⟨vs,k1,k2⟩:=k;exact⟨vs,k1,k2.imp fun _ _=>bV.step h⟩
theorem dZ.step(h:dV ι H w F aA H' w' F'){av:AV}{v:Value}(k:dZ ι H w F av v):dZ aA H' w' F' av v:=by
 cases av<;>simp only[dZ]at* <;>first|exact gm.step h k|exact k|skip
 obtain⟨vs,k1,k2⟩:=k;exact⟨vs,k1,k2.imp fun _ _=>gm.step h⟩
theorem fc.step(h:dV ι H w F aA H' w' F'){b o:Nat}{av:AV}(hb:bW av=false→aA b=ι b)(hc: ∀x,ι b=some x→bW av=false→w'.cell? ⟨x,o,none⟩=w.cell? ⟨x,o,none⟩∧w'.frozen? ⟨x,o,none⟩=w.frozen? ⟨x,o,none⟩)
  (hk:bW av=true→aA b=ι b∧ ∀x,ι b=some x→w'.heap[x]? =w.heap[x]?) (k:fc ι H w F b o av):fc aA H' w' F' b o av:=by
 cases av<;>simp only[fc]at* <;>try exact k
 all_goals first
  |(obtain⟨k0,x,v,k1,k2,k3,k4⟩:=k
    exact⟨(h.box _ _ k1 k0).2,x,v,by rw[hb rfl];exact k1,by rw[(hc x k1 rfl).1];exact k2,by rw[(hc x k1 rfl).2];exact k3,bV.step h k4⟩)
  |skip
 obtain⟨k0,kd|⟨kb,k⟩⟩:=k
 ·exact⟨k0,.inl ⟨kd.1,kd.2.1,by rw[(hk rfl).1];exact kd.2.2⟩⟩
 refine⟨k0,.inr ⟨kb,?_⟩⟩;rcases k with k|⟨x,C,T,k1,k2,k3⟩
 ·exact .inl ⟨k.1,by rw[(hk rfl).1];exact k.2⟩
 ·refine .inr ⟨x,C,T,by rw[(hk rfl).1];exact k1,by rw[(hk rfl).2 x k1];exact k2,fun i j hi hj=> ?_⟩;obtain⟨av,v,k4,k5,k6⟩:=k3 i j hi hj;exact⟨av,v,k4,k5,k6.mono h.fz h.cell⟩
end
def setAt{α:Type}(d:α):List α→Nat→α→List α
 |[],0,x=>[x]
 |[],i+1,x=>d::setAt d [] i x
 |_::aa,0,x=>x::aa
 |a::aa,i+1,x=>a::setAt d aa i x
theorem pQ{α:Type}(d:α)(x:α): ∀(l:List α) (i j:Nat),(setAt d l i x).getD j d=if j=i then x else l.getD j d
 |[],0,0=>by simp [setAt]
 |[],0,j+1=>by simp [setAt]
 |[],i+1,0=>by simp [setAt]
 |[],i+1,j+1=>by simpa[setAt]using pQ d x [] i j
 |_::aa,0,0=>by simp [setAt]
 |_::aa,0,j+1=>by simp [setAt]
 |a::aa,i+1,0=>by simp [setAt]
 |a::aa,i+1,j+1=>by simpa[setAt]using pQ d x aa i j
theorem mJ{α:Type}(d:α)(x:α): ∀(l:List α) (i:Nat),l.length≤(setAt d l i x).length∧i<(setAt d l i x).length
 |[],0=>by simp [setAt]
 |[],i+1=>by simp [setAt];exact(mJ d x [] i).2
 |_::aa,0=>by simp [setAt]
 |a::aa,i+1=>by simp [setAt];exact mJ d x aa i
def bl(H:Heap)(b o:Nat)(av:AV):Heap:=setAt [] H b (setAt .undef (H.getD b []) o av)
def np(H:Heap)(b:Nat)(cs:List AV):Heap:=setAt [] H b cs
theorem e_(H:Heap)(b o:Nat)(av:AV)(b' o':Nat):aj (bl H b o av) b' o'=if b'=b∧o'=o then av else aj H b' o':=by
 unfold aj bl;rw[pQ]
 by_cases hb:b'=b
 ·subst hb;rw[aCL rfl,pQ]
  by_cases ho:o'=o<;>simp [ho]
 ·simp [hb]
theorem HD(H:Heap)(b:Nat)(cs:List AV)(b' o':Nat):aj (np H b cs) b' o'=if b'=b then cs.getD o' .undef else aj H b' o':=by
 unfold aj np;rw[pQ]
 by_cases hb:b'=b<;>simp [hb]
section
variable {S:dF} {ι:Nat→Option Nat} {st:St} {a:Act} {w:World}
abbrev FZ(S:dF)(ι:Nat→Option Nat)(H:Heap)(w:World):Nat→Prop:=Fz S.F0 S.w0.heap.size ι H w
theorem aP.put(h:aP S ι st a w)(d:Nat){av:AV}{v:Value}(hv:dZ ι st.hp w (FZ S ι st.hp w) av v):aP S ι ⟨st.tm.set d av,st.hp⟩ (a.put (some d) v) w:=by
 refine⟨h.below,h.defers,fun t u hu=> ?_,h.hp,h.inj,h.fresh,h.gH,h.gK⟩
 by_cases ht:t=d
 ·subst ht;rw[aDK]at hu;simp only[aDg]at hu
  split at hu
  ·rename_i hl;simp only[aC3]at hu;subst hu;obtain⟨v0,h1,_⟩:=h.tm t (st.tm[t]) (aCP hl);have cI:t<a.tmps.size:=by
    rcases aCY t a.tmps.size with h|h
    ·exact h
    ·simp [aEz h]at h1
   exact⟨v,by simp [Act.put,cI],hv⟩
  ·cases hu
 ·rw[aD6 (by omega)]at hu;obtain⟨v0,h1,h2⟩:=h.tm t u hu;exact⟨v0,by simp only[Act.put];rw[aEi (by omega)];exact h1,h2⟩
theorem aP.world(h:aP S ι st a w){w':World}(hb:Below w.heap.size w w'):aP S ι st a w'∧dV ι st.hp w (FZ S ι st.hp w) ι st.hp w' (FZ S ι st.hp w'):=by
 have hs:dV ι st.hp w (FZ S ι st.hp w) ι st.hp w' (FZ S ι st.hp w'):=by
  refine⟨fun x ⟨h1,h2,h3⟩=>⟨h1,aC0 h2 hb.size,h3⟩,fun x o ⟨_,h2,_⟩=>hb.cell h2,fun _ _ h k=>⟨h,k⟩,fun b ro sz n f hk=>⟨ro,_,n,f,hk,aCK _,fun _=>⟨rfl,rfl,fun x C T hx hC=>⟨C,?_,rfl⟩⟩⟩⟩;rw[hb.block x (h.fresh _ _ hx).2];exact hC
 refine⟨⟨h.below.trans (hb.mono h.below.size),h.defers,fun t av ht=> ?_,fun b o=> ?_,h.inj,fun b x hx=>⟨(h.fresh b x hx).1,aC0 (h.fresh b x hx).2 hb.size⟩,h.gH,h.gK.trans hs⟩,hs⟩
 ·obtain⟨v,h1,h2⟩:=h.tm t av ht;exact⟨v,h1,h2.step hs⟩
 ·exact(h.hp b o).step hs (fun _=>rfl) (fun x hx _=>⟨hb.cell (h.fresh _ _ hx).2,hb.frozen (h.fresh _ _ hx).2⟩) (fun _=>⟨rfl,fun x hx=>hb.block x (h.fresh _ _ hx).2⟩)
def cp(ι:Nat→Option Nat)(b:Nat)(x:Nat):Nat→Option Nat:=fun k=>if k=b then some x else ι k
theorem aP.ayp(h:aP S ι st a w)(b:Nat)(hb: ∀o,aj st.hp b o= .undef)(cL:ι b=none)(cs:List AV)(vs:List Value)(T:TypeId)(hv:aT (bV ι st.hp w (FZ S ι st.hp w)) cs vs):
  aP S (cp ι b w.heap.size) ⟨st.tm,np st.hp b cs⟩ a (w.alloc (.cells vs.toArray T))∧
  dV ι st.hp w (FZ S ι st.hp w) (cp ι b w.heap.size) (np st.hp b cs) (w.alloc (.cells vs.toArray T)) (FZ S (cp ι b w.heap.size) (np st.hp b cs) (w.alloc (.cells vs.toArray T)))∧
  bV (cp ι b w.heap.size) (np st.hp b cs) (w.alloc (.cells vs.toArray T)) (FZ S (cp ι b w.heap.size) (np st.hp b cs) (w.alloc (.cells vs.toArray T))) (.ptr b 0) (.pointer (some ⟨w.heap.size,0,none⟩)):=by
 have db: ∀b' x,ι b'=some x→b'≠b:=fun b' x hx e=>by rw[e,cL]at hx;cases hx
 have iX: ∀b' o,b'≠b→aj (np st.hp b cs) b' o=aj st.hp b' o:=fun b' o hn=>by rw[HD,aCM hn]
 have fZ:bW (aj (np st.hp b cs) b 0)=false:=by
  rw[HD,aCL rfl]
  cases cs with
  |nil=>rfl
  |cons c cs=>
   cases vs with
   |nil=>exact hv.elim
   |cons v vs=>simp;cases c<;>first|rfl|exact hv.1.elim
 have hs:dV ι st.hp w (FZ S ι st.hp w) (cp ι b w.heap.size) (np st.hp b cs) (w.alloc (.cells vs.toArray T)) (FZ S (cp ι b w.heap.size) (np st.hp b cs) (w.alloc (.cells vs.toArray T))):=by
  refine⟨fun x ⟨h1,h2,h3⟩=>⟨h1,by simp;omega,fun b' eA=> ?_⟩,fun x o ⟨_,h2,_⟩=>World.cell?_alloc_lt w _ (a:=⟨x,o,none⟩) h2,fun b' x hx hk=>⟨by simp [cp,db b' x hx,hx],by rw[iX _ _ (db b' x hx)];exact hk⟩,fun b' ro sz n f hk=> ?_⟩
  ·unfold cp
   by_cases e:b'=b
   ·simp only[e,aDg];intro he;simp at he;omega
   ·simp only[e,aDn];exact h3 b' (oG (fun o=>iX b' o e) eA)
  ·have e:b'≠b:=fun e=>by rw[e,hb]at hk;cases hk
   refine⟨ro,_,n,f,by rw[iX _ _ e];exact hk,aCK _,fun _=>⟨rfl,by simp [cp,e],fun x C T' hx hC=>⟨C,?_,rfl⟩⟩⟩;rw[Below.heap_alloc _ _ _ (h.fresh _ _ hx).2];exact hC
 refine⟨⟨h.below.alloc h.below.size _,h.defers,fun t av ht=> ?_,fun b' o=> ?_,fun b1 b2 x h1 h2=> ?_,fun b' x hx=> ?_,fun b' x hx=> ?_,h.gK.trans hs⟩,hs,?_⟩
 ·obtain⟨v,h1,h2⟩:=h.tm t av ht;exact⟨v,h1,h2.step hs⟩
 ·by_cases e:b'=b
  ·subst e;rw[HD,aCL rfl];rcases aCY o cs.length with ho|ho
   ·have hc:cs[o]? =some cs[o]:=aCP ho;obtain⟨v,rR,oz⟩:=hv.get o _ hc;have pV:(w.alloc (.cells vs.toArray T)).cell? ⟨w.heap.size,o,none⟩=some v:=by rw[World.cell?_alloc_new];simpa using rR
    have nk:(w.alloc (.cells vs.toArray T)).frozen? ⟨w.heap.size,o,none⟩=false:=by simp
    have atr:=bV.step hs oz;have hg:cs.getD o .undef=cs[o]:=by simp [List.getD,hc]
    rw[hg];have hi:cp ι b' w.heap.size b'=some w.heap.size:=by simp [cp]
    generalize cs[o]=c at*
    cases c<;>simp only[fc]<;>first|trivial|exact⟨fZ,_,v,hi,pV,nk,atr⟩|exact oz.elim
   ·have hg:cs.getD o .undef= .undef:=by simp [List.getD,aCW ho]
    rw[hg];trivial
  ·rw[iX _ _ e];refine(h.hp b' o).step hs (fun _=>by simp [cp,e]) (fun x hx _=>⟨World.cell?_alloc_lt w _ (a:=⟨x,o,none⟩) (h.fresh _ _ hx).2,World.frozen?_alloc_old w _ (a:=⟨x,o,none⟩) (by have:=(h.fresh _ _ hx).2;show x≠_;omega)⟩) (fun _=>⟨by simp [cp,e],fun x hx=>Below.heap_alloc _ _ _ (h.fresh _ _ hx).2⟩)
 ·unfold cp at h1 h2
  by_cases e1:b1=b<;>by_cases e2:b2=b<;>simp only[e1,e2,aDg,aDn]at h1 h2
  ·omega
  ·simp at h1;have:=(h.fresh _ _ h2).2;omega
  ·simp at h2;have:=(h.fresh _ _ h1).2;omega
  ·exact h.inj _ _ _ h1 h2
 ·unfold cp at hx
  by_cases e:b'=b<;>simp only[e,aDg,aDn]at hx
  ·simp at hx;subst hx;exact⟨.inl h.below.size,by simp⟩
  ·have:=h.fresh _ _ hx;exact⟨this.1,by simp;omega⟩
 ·unfold cp at hx
  by_cases e:b'=b
  ·rw[e];exact(mJ _ _ _ _).2
  ·simp only[e,aDn]at hx;exact aC0 (h.gH _ _ hx) (mJ _ _ _ _).1
 ·exact⟨fZ,w.heap.size,by simp [cp],rfl⟩
end
section
variable {S:dF} {ι:Nat→Option Nat} {st:St} {a:Act} {w:World}
theorem NV{av:AV}(h:bW av=true): ∃ro sz n f,av= .ah ro sz n f:=by
 cases av<;>first|exact⟨_,_,_,_,rfl⟩|(cases h;done)
theorem fc.box{b o:Nat}{av:AV}{H:Heap}{F:Nat→Prop}(h:fc ι H w F b o av)(hu:av≠ .undef)(hb:bW av=false):
  ∃x v,ι b=some x∧w.cell? ⟨x,o,none⟩=some v∧w.frozen? ⟨x,o,none⟩=false∧bV ι H w F av v:=by
 cases av<;>first|exact h.2|exact absurd rfl hu|(cases hb;done)
theorem fc.aym{b o:Nat}{av:AV}{H:Heap}{F:Nat→Prop}(h:fc ι H w F b o av)(hu:av≠ .undef)(hb:bW av=false):bW (aj H b 0)=false:=by
 cases av<;>first|exact h.1|exact absurd rfl hu|(cases hb;done)
theorem aka{av:AV}(hu:av≠ .undef)(hb:bW av=false):pw av=true:=by
 cases av<;>first|rfl|exact absurd rfl hu|(cases hb;done)
theorem aP.store(h:aP S ι st a w){b o x:Nat}(hx:ι b=some x)(hu:aj st.hp b o≠ .undef)(h0:bW (aj st.hp b 0)=false)(ho:bW (aj st.hp b o)=false)
  {av:AV} {v:Value} (hv:bV ι st.hp w (FZ S ι st.hp w) av v):
  aP S ι ⟨st.tm,bl st.hp b o av⟩ a (w.setCell ⟨x,o,none⟩ v)∧dV ι st.hp w (FZ S ι st.hp w) ι (bl st.hp b o av) (w.setCell ⟨x,o,none⟩ v) (FZ S ι (bl st.hp b o av) (w.setCell ⟨x,o,none⟩ v)):=by
 have Hv:bW av=false:=by cases av<;>first|rfl|exact hv.elim
 have p7:nD st.hp b:= .inr ⟨h0,o,aka hu ho⟩;obtain⟨x',v0,cQ,VG,HC,_⟩:=(h.hp b o).box hu ho;rw[hx]at cQ;cases cQ;have zI: ∀y p,y≠x→(w.setCell ⟨x,o,none⟩ v).cell? ⟨y,p,none⟩=w.cell? ⟨y,p,none⟩:=fun y p hy=>World.cell?_setCell_other w _ _ _ (by intro e;cases e;exact hy rfl);have fZ:bW (aj (bl st.hp b o av) b 0)=false:=by
  rw[e_];split
  ·exact Hv
  ·exact h0
 have hs:dV ι st.hp w (FZ S ι st.hp w) ι (bl st.hp b o av) (w.setCell ⟨x,o,none⟩ v) (FZ S ι (bl st.hp b o av) (w.setCell ⟨x,o,none⟩ v)):=by
  refine⟨fun y ⟨h1,h2,h3⟩=>⟨h1,by simpa using h2,fun b' eA=> ?_⟩,fun y p ⟨_,_,h3⟩=>zI y p (fun e=>h3 b p7 (by rw[hx,e])),fun b' y hy hk=>⟨hy,?_⟩,fun b' ro sz n f hk=> ?_⟩
  ·by_cases e:b'=b
   ·rw[e];exact h3 b p7
   ·exact h3 b' (oG (fun p=>by rw[e_,aCM (fun e'=>e e'.1)]) eA)
  ·rw[e_];split
   ·exact Hv
   ·exact hk
  ·have e:b'≠b:=fun e=>by rw[e]at hk;rw[hk]at h0;cases h0
   refine⟨ro,_,n,f,by rw[e_,aCM (fun e'=>e e'.1)];exact hk,aCK _,fun _=>⟨rfl,rfl,fun y C T hy hC=>⟨C,?_,rfl⟩⟩⟩;rw[Below.heap_setCell _ _ _ _ (by intro e';exact e (h.inj _ _ _ hy (by rw[e'];exact hx)))];exact hC
 refine⟨⟨h.below.setCell (h.fresh _ _ hx).1 _,h.defers,fun t u ht=> ?_,fun b' p=> ?_,h.inj,fun b' y hy=>⟨(h.fresh _ _ hy).1,by simpa using(h.fresh _ _ hy).2⟩,fun b' y hy=>aC0 (h.gH _ _ hy) (mJ _ _ _ _).1,h.gK.trans hs⟩,hs⟩
 ·obtain⟨v,h1,h2⟩:=h.tm t u ht;exact⟨v,h1,h2.step hs⟩
 ·by_cases e:b'=b∧p=o
  ·obtain⟨rfl,rfl⟩:=e;rw[e_,aCL ⟨rfl,rfl⟩];have k:=bV.step hs hv;have rI:=World.cell?_setCell_same w _ v VG;have De:(w.setCell ⟨x,p,none⟩ v).frozen? ⟨x,p,none⟩=false:=by simpa using HC
   cases av<;>first|exact⟨fZ,x,v,hx,rI,De,k⟩|trivial|(cases Hv;done)
  ·have hg:aj (bl st.hp b o av) b' p=aj st.hp b' p:=by rw[e_,aCM e]
   rw[hg]
   by_cases fG:b'=b
   ·subst fG;have hpo:p≠o:=fun e'=>e ⟨rfl,e'⟩
    by_cases jl:bW (aj st.hp b' p)=true
    ·obtain⟨ro,sz,n,f,hk⟩:=NV jl;have hl:=h.hp b' p;rw[hk]at hl;have HU:p=0:=hl.1;rw[HU]at hk;rw[hk]at h0;cases h0
    ·refine(h.hp b' p).step hs (fun _=>rfl) (fun y hy _=> ?_) (fun hk=>absurd hk jl);rw[hx]at hy;cases hy;exact⟨World.cell?_setCell_other w _ _ _ (by intro e';cases e';exact hpo rfl),by simp⟩
   ·refine(h.hp b' p).step hs (fun _=>rfl) (fun y hy _=>⟨zI y p (fun e'=>fG (h.inj _ _ _ hy (by rw[e'];exact hx))),by simp⟩) (fun _=>⟨rfl,fun y hy=>Below.heap_setCell _ _ _ _ (fun e'=>fG (h.inj _ _ _ hy (by rw[e'];exact hx)))⟩)
theorem atC{sz i i' j q:Nat}(hj:j<sz)(hq:q<sz)(h:i'*sz+j=i*sz+q):i'=i∧j=q:=by
 have h1:(i'*sz+j)/sz=i':=by rw[aDM,Nat.mul_add_div (by omega),aEw hj,aDl]
 have h2:(i*sz+q)/sz=i:=by rw[aDM,Nat.mul_add_div (by omega),aEw hq,aDl]
 have h3:i'=i:=by rw[←h1,←h2,h]
 subst h3;exact⟨rfl,by omega⟩
theorem aP.ajM(h:aP S ι st a w){b x n sz i q:Nat}{f:Nat→List AV}{C:Array Value}{T:TypeId}(hx:ι b=some x)(eM:aj st.hp b 0= .ah false sz n f)(hC:w.heap[x]? =some (.cells C T (0,0)))(hq:q<sz)(hi:i*sz+q<C.size){c:AV}{v:Value}(hv:aR w (FZ S ι st.hp w) c v){g:Nat→List AV}
  (hg: ∀j,j<n→g j=bif Nat.beq j i then(f j).set q c else f j) (eB: ∀i' j,i'<n→j<sz→ ∃av u,(f i')[j]? =some av∧C[i'*sz+j]? =some u∧aR w (FZ S ι st.hp w) av u) (dK:n≤dg):
  aP S ι ⟨st.tm,bl st.hp b 0 (.ah false sz n g)⟩ a (w.setCell ⟨x,i*sz+q,none⟩ v)∧dV ι st.hp w (FZ S ι st.hp w) ι (bl st.hp b 0 (.ah false sz n g)) (w.setCell ⟨x,i*sz+q,none⟩ v) (FZ S ι (bl st.hp b 0 (.ah false sz n g)) (w.setCell ⟨x,i*sz+q,none⟩ v)):=by
 have p7:nD st.hp b:= .inl ⟨by rw[eM];rfl,by rw[eM];rfl⟩;have hH: ∀b' o',aj (bl st.hp b 0 (.ah false sz n g)) b' o'=if b'=b∧o'=0 then .ah false sz n g else aj st.hp b' o':=fun b' o'=>e_ _ _ _ _ _ _
 have mF:aj (bl st.hp b 0 (.ah false sz n g)) b 0= .ah false sz n g:=by rw[hH,aCL ⟨rfl,rfl⟩]
 have wh: ∀b' o',b'≠b→aj (bl st.hp b 0 (.ah false sz n g)) b' o'=aj st.hp b' o':=fun b' o' e=>by rw[hH,aCM (fun h=>e h.1)]
 have zI: ∀y,y≠x→(w.setCell ⟨x,i*sz+q,none⟩ v).heap[y]? =w.heap[y]? :=fun y hy=>heap_setCell_other w ⟨x,i*sz+q,none⟩ y v hy;have zM:(w.setCell ⟨x,i*sz+q,none⟩ v).heap[x]? =some (.cells (C.setIfInBounds (i*sz+q) v) T (0,0)):=heap_setCell_same w x (i*sz+q) C T v hC;have Dh: ∀b',nD (bl st.hp b 0 (.ah false sz n g)) b'→nD st.hp b':=fun b' eA=>by
  by_cases e:b'=b
  ·rw[e];exact p7
  ·exact oG (fun o=>wh b' o e) eA
 have hs:dV ι st.hp w (FZ S ι st.hp w) ι (bl st.hp b 0 (.ah false sz n g)) (w.setCell ⟨x,i*sz+q,none⟩ v) (FZ S ι (bl st.hp b 0 (.ah false sz n g)) (w.setCell ⟨x,i*sz+q,none⟩ v)):=by
  refine⟨fun y ⟨h1,h2,h3⟩=>⟨h1,by simpa using h2,fun b' eA=>h3 b' (Dh b' eA)⟩,fun y p ⟨_,_,h3⟩=>World.cell?_of_block (w:=w) (zI y (fun e=>h3 b p7 (by rw[hx,e]))),fun b' y hy hk=>⟨hy,?_⟩,fun b' ro sz n' f' hk=> ?_⟩
  ·have e:b'≠b:=fun e=>by rw[e,eM]at hk;cases hk
   rw[wh _ _ e];exact hk
  ·by_cases e:b'=b
   ·subst e;rw[eM]at hk;cases hk;refine⟨false,_,n,g,mF,aCK _,fun _=>⟨rfl,rfl,fun y D T' hy hD=> ?_⟩⟩;rw[hx]at hy;cases hy;rw[hC]at hD;cases hD;exact⟨_,zM,by simp⟩
   ·exact⟨ro,_,n',f',by rw[wh _ _ e];exact hk,aCK _,fun _=>⟨rfl,rfl,fun y D T' hy hD=>⟨D,by rw[zI y (fun e'=>e (h.inj _ _ _ hy (by rw[e'];exact hx)))];exact hD,rfl⟩⟩⟩
 refine⟨⟨h.below.setCell (h.fresh _ _ hx).1 _,h.defers,fun t u ht=> ?_,fun b' p=> ?_,h.inj,fun b' y hy=>⟨(h.fresh _ _ hy).1,by simpa using(h.fresh _ _ hy).2⟩,fun b' y hy=>aC0 (h.gH _ _ hy) (mJ _ _ _ _).1,h.gK.trans hs⟩,hs⟩
 ·obtain⟨v,h1,h2⟩:=h.tm t u ht;exact⟨v,h1,h2.step hs⟩
 ·show fc _ _ _ _ _ _ (aj (bl st.hp b 0 (.ah false sz n g)) b' p);rw[hH]
  by_cases e:b'=b∧p=0
  ·obtain⟨rfl,rfl⟩:=e;rw[aCL ⟨rfl,rfl⟩];refine⟨rfl,.inr ⟨dK,.inr ⟨x,_,T,hx,zM,fun i' j eO hj=> ?_⟩⟩⟩;obtain⟨av,u,k1,k2,k3⟩:=eB i' j eO hj;rw[hg i' eO]
   by_cases ei:i'=i
   ·subst ei;rw[aDp];simp only[aCJ]
    by_cases ej:j=q
    ·subst ej;have cI:=(aDc.1 k1).1;exact⟨c,v,by rw[List.getElem?_set_self cI],by rw[Array.getElem?_setIfInBounds_self_of_lt hi],hv.mono hs.fz hs.cell⟩
    ·exact⟨av,u,by rw[aD6 (fun e=>ej e.symm)];exact k1,by rw[aEi (by omega)];exact k2,k3.mono hs.fz hs.cell⟩
   ·have hbe:Nat.beq i' i=false:=by
     cases e:Nat.beq i' i with
     |false=>rfl
     |true=>exact absurd (aCS e) ei
    rw[hbe];refine⟨av,u,k1,?_,k3.mono hs.fz hs.cell⟩;rw[aEi (fun e=>ei (atC hj hq e.symm).1)];exact k2
  ·rw[aCM e]
   by_cases fG:b'=b
   ·subst fG;have hp:p≠0:=fun e'=>e ⟨rfl,e'⟩;have hl:=h.hp b' p
    cases e2:aj st.hp b' p<;>rw[e2]at hl
    case undef=>trivial
    case ah=>exact absurd hl.1 hp
    all_goals
     have:=hl.1;rw[eM]at this;cases this
   ·refine(h.hp b' p).step hs (fun _=>rfl) (fun y hy _=> ?_) (fun _=>⟨rfl,fun y hy=>zI y (fun e'=>fG (h.inj _ _ _ hy (by rw[e'];exact hx)))⟩);have:=zI y (fun e'=>fG (h.inj _ _ _ hy (by rw[e'];exact hx)));exact⟨World.cell?_of_block (w:=w) this,World.frozen?_of_block (w:=w) this⟩
end
inductive sL where
 |bool|string|other
 |int (k:IntKind)
 |slice (e aO aBZ:Nat)
 |pointer (e:Nat)
 |struct (dC:List (Nat×Nat))
 |array (n e aO:Nat)
structure Ty where
 size:Nat
 d:sL
 zero:List AV
 cmp:Bool:=false
def sL.isAgg:sL→Bool
 | .struct _=>true
 | .array .. =>true
 |_=>false
def lW:AV→Value→Prop
 | .int k n,v=>v= .int k n
 | .bool b,v=>v= .bool b
 | .str s,v=>v= .string s∧s.size=0
 | .aE,v=>v= .slice none 0 0
 | .jX,v=>v= .pointer none
 | .undef,v=>one v=true
 |_,_=>False
def JZ:AV→AV→Bool
 | .int _ a,.int _ b=>a==b
 | .bool a,.bool b=>a==b
 | .str a,.str b=>a.toList==b.toList
 |_,_=>false
def jO:List AV→List AV→Bool
 |[],[]=>true
 |a::aa,b::bs=>JZ a b&&jO aa bs
 |_,_=>false
def SE:AV→AV→Bool
 | .int k _,.int k' _=>decide (k=k')
 | .bool _,.bool _=>true
 | .str _,.str _=>true
 |_,_=>false
def ik:List AV→List AV→Bool
 |[],[]=>true
 |a::aa,b::bs=>SE a b&&ik aa bs
 |_,_=>false
def wX:AV→Value→Prop
 | .int k n,v=>v= .int k n
 | .bool b,v=>v= .bool b
 | .str s,v=>v= .string s
 |_,_=>False
def Jo(P:Program)(T:TypeId)(zero:List AV):Prop:=
 ∀(op:BinOp) (x y:Operand) (cs ds:List AV) (vs us:List Value) (w:World),op= .eql∨op= .neq→ik zero cs=true→ik zero ds=true→aT wX cs vs→aT wX ds us→
  (do eqGuard op T x y (.agg vs.toArray) (.agg us.toArray);binOp op T (.agg vs.toArray) (.agg us.toArray):Sem Value).run P w= .ok (.bool (bif op== .eql then jO cs ds else !(jO cs ds))) w
structure gF (P:Program) (T:TypeId) (t:Ty):Prop where
 info: ∃i z,P.info? T=some i∧i.size=t.size∧i.zero=some z∧z.cells.size=t.size∧aT lW t.zero z.cells.toList
 agg: ∃d,P.underlying T=some d∧(t.d.isAgg=true→(match d with| .struct _| .array _ _=>true|_=>false)=true)∧(t.d.isAgg=false→t.size=1∧(match d with| .struct _| .array _ _=>false|_=>true)=true)
 d:match t.d with
  | .bool=>P.underlying T=some .bool
  | .string=>P.underlying T=some .string
  | .int k=>P.underlying T=some (.int k)
  | .slice e aO eb=>P.underlying T=some (.slice e)∧ ∃i,P.info? e=some i∧i.size=aO∧i.bytes=eb∧i.zero.isSome=true∧ ∀z,i.zero=some z→z.cells.size=i.size
  | .pointer e=>P.underlying T=some (.pointer e)
  | .struct dC=> ∃fs:Array Field,P.underlying T=some (.struct fs)∧fs.toList.mapM (fun f=>(P.info? f.type).map fun i=>(f.offset,i.size))=some dC∧ ∀(k off sz:Nat),dC[k]? =some (off,sz)→ ∃f:Field,fs[k]? =some f∧f.offset=off∧ ∃i,P.info? f.type=some i∧i.size=sz∧sz≠0
  | .array n e aO=>P.underlying T=some (.array n e)∧ ∃i,P.info? e=some i∧i.size=aO
  | .other=>True
 cmp:t.cmp=true→Jo P T t.zero
section
variable {P:Program} {T:TypeId} {t:Ty} (w:World)
theorem run_sizeOf(h:gF P T t):(sizeOf T).run P w= .ok t.size w:=by
 obtain⟨i,z,h1,h2,_⟩:=h.info;simp [sizeOf,typeInfo,h1,h2]
theorem O8(h:gF P T t):(isAgg T).run P w= .ok t.d.isAgg w:=by
 obtain⟨d,h1,h2,h3⟩:=h.agg
 cases e:t.d.isAgg with
 |true=>
  have h4:=h2 e
  cases d<;>first|(cases h4;done)|simp [isAgg,aCU h1]
 |false=>
  have h4:=(h3 e).2
  cases d<;>simp [isAgg,aCU h1]at*
theorem aAr(h:gF P T t): ∃z,(zeroValue T).run P w= .ok z w∧aT lW t.zero z.cells.toList∧z.cells.size=t.size:=by
 obtain⟨i,z,h1,h2,h3,h4,h5⟩:=h.info;exact⟨z,by simp [zeroValue,typeInfo,h1,h3],h5,h4⟩
def sP(b:Bool)(vs:List Value):Value:=if b then .agg vs.toArray else vs.headD undef
theorem aAo(h:gF P T t)(x o:Nat)(vs:List Value)(hl:vs.length=t.size)(hc: ∀(j:Nat) v,vs[j]? =some v→w.cell? ⟨x,o+j,none⟩=some v):
  (loadVar T ⟨x,o,none⟩).run P w= .ok (sP t.d.isAgg vs) w:=by
 have VA: ∀j:Nat,(Addr.add ⟨x,o,none⟩ j)=⟨x,o+j,none⟩:=fun j=>Addr.add_lit x o j
 cases e:t.d.isAgg with
 |true=>
  have:=aEu (P:=P) w ⟨x,o,none⟩ vs (fun j v hj=>by rw[VA];exact hc j v hj);rw[hl]at this;simp [loadVar,O8 w h,e,run_sizeOf w h,this,sP]
 |false=>
  obtain⟨d,_,_,h3⟩:=h.agg;have h1:=(h3 e).1
  match vs,hl with
  |[],hl=>simp at hl;omega
  |[v],_=>
   have:=hc 0 v rfl;simp only[aDl]at this;simp [loadVar,O8 w h,e,sP,this]
  |_::_::_,hl=>simp at hl;omega
end
section
variable {P:Program} {S:dF} {ι:Nat→Option Nat} {st:St} {a:Act} {w:World}
def p9(H:Heap)(b:Nat):List AV→Nat→Heap
 |[],_=>H
 |c::cs,o=>p9 (bl H b o c) b cs (o+1)
theorem ajt(w:World)(p:Addr){v u:Value}(h1:one v=true)(hc:w.cell? p=some u)(hf:w.frozen? p=false):(Go.store p v).run P w= .ok () (w.setCell p v):=by
 cases v<;>first|(cases h1;done)|simp [Go.store,Sem.run,hc,hf]
theorem aP.ajN{b x o0:Nat}(hx:ι b=some x): ∀(cs:List AV) (vs:List Value) (i:Nat) (st:St) (w:World),aP S ι st a w→bW (aj st.hp b 0)=false→
  (∀j,j<cs.length→aj st.hp b (o0+i+j)≠ .undef∧bW (aj st.hp b (o0+i+j))=false)→aT (bV ι st.hp w (FZ S ι st.hp w)) cs vs→
  ∃w',(storeCells ⟨x,o0,none⟩ vs i).run P w= .ok () w'∧aP S ι ⟨st.tm,p9 st.hp b cs (o0+i)⟩ a w'∧dV ι st.hp w (FZ S ι st.hp w) ι (p9 st.hp b cs (o0+i)) w' (FZ S ι (p9 st.hp b cs (o0+i)) w')
 |[],[],i,st,w,h,_,_,_=>⟨w,by simp [storeCells],h,dV.refl⟩
 |[],_::_,_,_,_,_,_,_,hv=>hv.elim
 |_::_,[],_,_,_,_,_,_,hv=>hv.elim
 |c::cs,v::vs,i,st,w,h,h0,hu,hv=>by
  obtain⟨oy,NJ⟩:=hu 0 (by simp);simp only[aDl]at oy NJ;obtain⟨h1,s1⟩:=h.store hx oy h0 NJ hv.1;obtain⟨x',v0,cQ,VG,HC,_⟩:=(h.hp b (o0+i)).box oy NJ;rw[hx]at cQ;cases cQ;have VK:bW c=false:=by cases c<;>first|rfl|exact hv.1.elim
  have Vq:bW (aj (bl st.hp b (o0+i) c) b 0)=false:=by rw[e_];split;exact VK;exact h0
  obtain⟨w',r,h2,s2⟩:=aP.ajN (o0:=o0) hx cs vs (i+1) ⟨st.tm,bl st.hp b (o0+i) c⟩ _ h1 Vq (fun j hj=>by
   rw[e_,aCM (by omega)];have:=hu (j+1) (by simp;omega);rwa [show o0+i+(j+1)=o0+(i+1)+j by omega]at this) (hv.2.imp fun _ _=>bV.step s1)
  refine⟨w',?_,h2,s1.trans s2⟩;have fQ:=ajt (P:=P) w ⟨x,o0+i,none⟩ (bV.one hv.1) VG HC;simp only[storeCells,Sem.run_bind,Addr.add_lit,fQ,Result.andThen];exact r
end
def cT(b:Bool)(p:Prop):Prop:=
 match b with
 |true=>p
 |false=>False
theorem aD{b:Bool}{p:Prop} :cT b p↔b=true∧p:=by cases b<;>simp [cT]
def oD(pre:Option Prop)(p:Prop):Prop:=
 match pre with
 |none=>p
 |some q=>q∧p
theorem qv{pre:Option Prop}{p:Prop} :oD pre p↔oD pre True∧p:=by cases pre<;>simp [oD]
def ml(P:Program)(f:FuncId):Prop:= ∃fn c,P.funcs[f]? =some fn∧fn.body=some c∧(fn.name== "runtime.NumGoroutine")=false
structure Env where
 P:Program
 ty:TypeId→Option Ty
 spec:FuncId→List AV→Option (Option Prop×AV)
 /--How many blocks have aBO handed on to aU function mN is looked at. -/
 m:Nat:=0
 /--ig aN do mN AP handed boxes. -/
 jU:FuncId→List AV→Heap→Option (Option Prop×List AV×Heap):=fun _ _ _=>none
 /--aBN aN AP handed lN of aU aa8 own,or hand ajJ back. -/
 ho:FuncId→Bool:=fun _=>false
structure Env.Ok (E:Env):Prop where
 ty: ∀T t,E.ty T=some t→gF E.P T t
 mixed:E.P.follows .mixedOrders=true
 spec: ∀f args pre r,E.spec f args=some (pre,r)→ml E.P f∧(oD pre True→fk E.P f args r)
 jU: ∀f args H pre rs H',E.jU f args H=some (pre,rs,H')→ml E.P f∧(oD pre True→fj E.P f args H rs H')
def R9:Value→AV
 | .int k n=> .int k n
 | .bool b=> .lit b
 | .string s=>match Nat.ble s.size dg with
   |true=> .str s
   |false=> .undef
 | .slice none 0 0=> .aE
 |_=> .undef
def aC(tm:List AV):Operand→AV
 | .tmp t=>tm.getD t .undef
 | .const v=>R9 v
 | .func f=> .fn f []
 | .global g=>pR g vY
abbrev Ws:=List (Nat×Nat×AV)
def bm(H:Heap):Ws→Heap
 |[]=>H
 |(b,o,av)::r=>bm (bl H b o av) r
def iy(b:Nat):List AV→Nat→Ws
 |[],_=>[]
 |c::cs,o=>(b,o,c)::iy b cs (o+1)
theorem NL(b:Nat): ∀(cs:List AV) (o:Nat) (H:Heap),bm H (iy b cs o)=p9 H b cs o
 |[],_,_=>rfl
 |c::cs,o,H=>by simp [iy,bm,p9,NL b cs]
def cellsOf:AV→List AV
 | .agg cs=>cs
 |av=>[av]
def oH:AV→Bool
 | .undef| .gone| .cU _| .ah .. =>false
 |_=>true
def w7:AV→Bool
 | .undef| .ah .. =>false
 |_=>true
def lr(H:Heap)(b o n:Nat):List AV:=(List.range n).map fun j=>aj H b (o+j)
def py:Bool→List AV→AV
 |true,cs=> .agg cs
 |false,cs=>match cs.headD .undef with
  | .gone=> .undef
  |c=>c
def I4(c:Bool)(x y:AV)(K:AV→Prop):Prop:=
 match c with
 |true=>K x
 |false=>K y
def DE(used:Bool)(av:AV)(K:AV→Prop):Prop:=
 match used with
 |true=>match av with
  | .bool b=>(b=true→K (.lit true))∧(b=false→K (.lit false))
  |av=>K av
 |false=>K av
def IM:AV→AV
 | .lit b=> .bool b
 |av=>av
def eR:AV→AV
 | .agg cs=> .agg (cs.map IM)
 |av=>IM av
def oB(t:Ty)(H:Heap)(x:AV)(K:AV→Prop):Prop:=
 match x with
 | .ptr b o=>cT ((lr H b o t.size).all w7) (K (py t.d.isAgg (lr H b o t.size)))
 | .ref cs=>cT (decide (t.size≤cs.length)) (K (py t.d.isAgg (cs.take t.size)))
 | .fF b k i o=>match aj H b 0 with
   | .ah _ sz n f=>k=n∧i<n∧cT (decide (o+t.size≤sz)) (K (py t.d.isAgg (((f i).drop o).take t.size)))
   |_=>False
 |_=>False
def nK:AV→Bool
 | .int .. | .bool _| .str _| .aE| .arr .. | .ref _=>true
 |_=>false
def aa_:AV→Bool
 | .ptr .. =>true
 |x=>nK x
def oN:AV→Bool
 | .int .. | .bool _| .str _| .aE| .arr .. | .ref _=>true
 | .fn _ bp=>bp.all nK
 |_=>false
def Bj:AV→Bool
 | .agg cs=>cs.all oN
 |av=>oN av
def r_(cs:List AV):List AV→Nat→List AV
 |[],_=>cs
 |c::r,o=>r_ (cs.set o c) r (o+1)
def Pv(f:Nat→List AV)(i o:Nat)(cs:List AV)(j:Nat):List AV:=bif Nat.beq j i then r_ (f j) cs o else f j
def OO:AV→Bool
 | .int .. | .bool _| .str _=>true
 |_=>false
def uV(t:Ty)(H:Heap)(x v:AV)(K:Ws→Prop):Prop:=
 match x with
 | .ptr b o=>cT (oH v&&decide ((cellsOf v).length=t.size)&&(lr H b o t.size).all w7&& !(bW (aj H b 0))) (K (iy b (cellsOf v) o))
 | .fF b k i o=>match aj H b 0 with
   | .ah ro sz n f=>cT (!ro&&decide (o+t.size≤sz)&&oH (eR v)&&decide ((cellsOf (eR v)).length=t.size)&&(cellsOf (eR v)).all oN&& !((cellsOf (eR v)).isEmpty))
     (k=n∧i<n∧ ∃h:Nat→List AV,(∀j,j<n→Pv f i o (cellsOf (eR v)) j=h j)∧K [(b,0,.ah false sz n h)])
   |_=>False
 |_=>False
def sY(t:Ty)(H:Heap)(f:Nat)(x:AV)(K:AV→Prop):Prop:=
 match t.d with
 | .struct dC=>match dC[f]? with
   |some (off,_)=>match x with
    | .ptr b o=>K (.ptr b (o+off))
    | .ref cs=>K (.ref (cs.drop off))
    | .fF b k i o=>match aj H b 0 with
      | .ah _ _ n _=>k=n∧K (.fF b k i (o+off))
      |_=>False
    |_=>False
   |none=>False
 |_=>False
def uq(t:Ty)(H:Heap)(x i:AV)(K:AV→Prop):Prop:=
 match t.d with
 | .slice _ aO _=>match i with
   | .int _ z=>match x with
     | .arr sz n f=>cT (decide (sz=aO)) ((0≤z∧z<n)∧K (.ref ((f z.toNat).take sz)))
     | .own b k=>match aj H b 0 with
       | .ah _ sz n _=>cT (decide (sz=aO)) (k=n∧(0≤z∧z<n)∧K (.fF b k z.toNat 0))
       |_=>False
     |_=>False
   |_=>False
 | .array n _ aO=>match i with
   | .int _ z=>match x with
     | .ptr b o=>cT (decide (0≤z)&&decide (z<n)) (K (.ptr b (o+z.toNat*aO)))
     | .ref cs=>cT (decide (0≤z)&&decide (z<n)) (K (.ref (cs.drop (z.toNat*aO))))
     |_=>False
   |_=>False
 |_=>False
def wv(E:TypeId→Option Ty)(t:Ty)(x i:AV)(K:AV→Prop):Prop:=
 match t.d with
 | .array n e aO=>match i with
   | .int _ z=>match x with
     | .agg cs=>match E e with
       |some u=>cT (decide (0≤z)&&decide (z<n)&&decide (u.size=aO)&&decide (z.toNat*aO+aO≤cs.length)) (K (py u.d.isAgg ((cs.drop (z.toNat*aO)).take aO)))
       |none=>False
     |_=>False
   |_=>False
 |_=>False
def wz(op:BinOp)(k:IntKind)(a b:Int)(K:AV→Prop):Prop:=
 match op with
 | .add=>K (.int k (k.wrap (a+b)))
 | .sub=>K (.int k (k.wrap (a-b)))
 | .mul=>K (.int k (k.wrap (a*b)))
 | .eql=>K (.bool (a==b))
 | .neq=>K (.bool (a !=b))
 | .lss=>K (.bool (decide (a<b)))
 | .leq=>K (.bool (decide (a≤b)))
 | .gtr=>K (.bool (decide (a>b)))
 | .geq=>K (.bool (decide (a≥b)))
 | .quo=>b≠0∧K (.int k (k.wrap (a.tdiv b)))
 | .rem=>b≠0∧K (.int k (a.tmod b))
 | .and=>K (.int k (bits .and k a b))
 | .or=>K (.int k (bits .or k a b))
 |_=>False
def NY:BinOp→Bool
 | .shl| .shr=>true
 |_=>false
def Pk(op:BinOp)(k:IntKind)(a b:Int)(K:AV→Prop):Prop:=
 (0≤b∧b≤k.bits)∧match op with
  | .shl=>K (.int k (k.wrap (a*2^b.toNat)))
  | .shr=>K (.int k (a/2^b.toNat))
  |_=>False
def pB(t:Ty)(op:BinOp)(x y:AV)(K:AV→Prop):Prop:=
 match x,y with
 | .int k a,.int k' b=>match NY op with
   |true=>Pk op k a b K
   |false=>cT (decide (k=k')) (wz op k a b K)
 | .bool a,.bool b=>match t.d with
   | .bool=>match op with
     | .eql=>K (.bool (a==b))
     | .neq=>K (.bool (!(a==b)))
     |_=>False
   |_=>False
 | .str a,.str b=>match op with
   | .eql=>K (.bool (a.toList==b.toList))
   | .neq=>K (.bool (!(a.toList==b.toList)))
   | .leq=>K (.bool (Op.bytesLess a.toList b.toList||a.toList==b.toList))
   | .gtr=>K (.bool (!(Op.bytesLess a.toList b.toList||a.toList==b.toList)))
   | .lss=>K (.bool (Op.bytesLess a.toList b.toList))
   | .geq=>K (.bool (!Op.bytesLess a.toList b.toList))
   | .add=>a.size+b.size≤dg∧K (.str (a++b))
   |_=>False
 | .agg cs,.agg ds=>cT (t.cmp&&ik t.zero cs&&ik t.zero ds) (match op with
   | .eql=>K (.bool (jO cs ds))
   | .neq=>K (.bool (!(jO cs ds)))
   |_=>False)
 |_,_=>False
def Ay(op:UnOp)(x:AV)(K:AV→Prop):Prop:=
 match op,x with
 | .not,.bool b=>K (.bool (!b))
 | .not,.lit b=>K (.lit (!b))
 | .neg,.int k n=>K (.int k (k.wrap (0-n)))
 |_,_=>False
def nJ(dC:List (Nat×Nat))(tm:List AV):List (Nat×Operand)→List AV→(List AV→Prop)→Prop
 |[],cs,K=>K cs
 |(i,x)::r,cs,K=>match dC[i]? with
  |some (off,sz)=>cT (oH (aC tm x)&&decide ((cellsOf (aC tm x)).length=sz)&&decide (off+sz≤cs.length)) (nJ dC tm r (r_ cs (cellsOf (aC tm x)) off) K)
  |none=>False
def qi(H:Heap)(x:AV)(K:AV→Prop):Prop:=
 match x with
 | .arr _ n _=>K (.int .i64 n)
 | .aE=>K (.int .i64 0)
 | .str s=>K (.int .i64 s.size)
 | .own b k=>match aj H b 0 with
   | .ah _ _ n _=>k=n∧K (.int .i64 n)
   |_=>False
 |_=>False
def ji(H:Heap)(x:AV)(K:AV→Prop):Prop:=
 match x with
 | .own b k=>match aj H b 0 with
   | .ah _ sz n f=>k=n∧K (.arr sz n f)
   |_=>False
 | .lit b=>K (.bool b)
 |av=>cT (oN av) (K av)
def mr(H:Heap):List AV→(List AV→Prop)→Prop
 |[],K=>K []
 |x::r,K=>ji H x fun y=>mr H r fun ys=>K (y::ys)
def lx(H:Heap)(x:AV)(K:AV→Prop):Prop:=
 match x with
 | .agg cs=>mr H cs fun ys=>K (.agg ys)
 |av=>ji H av K
def mW(H:Heap):List AV→(List AV→Prop)→Prop
 |[],K=>K []
 |x::r,K=>lx H x fun y=>mW H r fun ys=>K (y::ys)
def YX:AV→Bool
 | .int .. | .bool _| .str _=>true
 |_=>false
def YY:AV→Bool
 | .agg cs=>cs.all YX
 |av=>YX av
def D4:AV→Bool
 | .cU vs=>vs.all YY
 |av=>YY av
def uR(H:Heap):AV→Ws
 | .own b _=>match aj H b 0 with
   | .ah _ sz n f=>[(b,0,.ah true sz n f)]
   |_=>[]
 |_=>[]
def D3(H:Heap):AV→Ws
 | .agg cs=>cs.flatMap (uR H)
 |av=>uR H av
def eI(H:Heap)(l:List AV):Ws:=l.flatMap (D3 H)
def uQ(nb:Nat)(r:AV)(ws:Ws)(K:AV→Ws→Prop):Prop:=
 match r with
 | .ah _ sz n f=>K (.own nb n) (ws++[(nb,0,.ah false sz n f)])
 |r=>K r ws
def oF(H:Heap)(r:AV)(aa:List AV):Ws:=
 match D4 r||aa.all Bj with
 |true=>[]
 |false=>eI H aa
def vh(E:Env)(H:Heap)(nb:Nat)(f:FuncId)(args:List AV)(K:AV→Ws→Prop):Prop:=
 mW H (args.map eR) fun AQ=>match E.spec f AQ with
  |some (pre,r)=>oD pre (uQ nb r (oF H r (args.map eR)) K)
  |none=>False
def Bb(i:Nat)(x:AV)(K:AV→Prop):Prop:=
 match x with
 | .cU vs=>cT (decide (i<vs.length)) (K (vs.getD i .undef))
 |_=>False
def wZ(s:ByteArray)(i:Nat):List AV:=[.int .u8 ((s.data.toList.getD i 0).toNat:Int)]
def nE(H:Heap)(str:Bool)(aO:Nat)(y:AV)(K:Nat→(Nat→List AV)→Prop):Prop:=
 match y with
 | .aE=>cT (!str) (K 0 fun _=>[])
 | .arr sz n f=>cT (!str&&decide (sz=aO)) (K n f)
 | .str s=>cT (str&&decide (aO=1)) (K s.size (wZ s))
 | .own b k=>match aj H b 0 with
   | .ah _ sz n f=>cT (!str&&decide (sz=aO)) (k=n∧K n f)
   |_=>False
 |_=>False
def ix(n:Nat)(f g:Nat→List AV)(i:Nat):List AV:=bif Nat.blt i n then f i else g (i-n)
def oJ(t:Ty)(str:Bool)(H:Heap)(nb:Nat)(x y:AV)(K:AV→Ws→Prop):Prop:=
 match t.d with
 | .slice _ aO eb=>cT (Nat.ble eb 256&&Nat.blt 0 aO) (nE H str aO y fun m g=>match x with
   | .aE=>m≤dg∧K (.own nb m) [(nb,0,.ah false aO m g)]
   | .own b k=>match aj H b 0 with
     | .ah ro sz n f=>cT (!ro&&decide (sz=aO)) (k=n∧n+m≤dg∧ ∃h:Nat→List AV,(∀i,i<n+m→ix n f g i=h i)∧K (.own b (n+m)) [(b,0,.ah false aO (n+m) h)])
     |_=>False
   | .kK sz n f=>cT (decide (sz=aO)) (0<m∧n+m≤dg∧ ∃h:Nat→List AV,(∀i,i<n+m→ix n f g i=h i)∧K (.own nb (n+m)) [(nb,0,.ah false aO (n+m) h)])
   |_=>False)
 |_=>False
def XV(x y:AV):Prop:=x=y∨(x= .aE∧ ∃sz h,y= .arr sz 0 h)
def kY:List AV→List AV→Prop
 |[],[]=>True
 |x::xs,y::ys=>XV x y∧kY xs ys
 |_,_=>False
theorem Ag: ∀l:List AV,kY l l
 |[]=>trivial
 |_::l=>⟨.inl rfl,Ag l⟩
theorem OF: ∀{xs ys:List AV} (j:Nat) (x:AV),kY xs ys→xs[j]? =some x→ ∃y,ys[j]? =some y∧XV x y
 |[],[],_,_,_,h=>by simp at h
 |x::xs,y::ys,0,z,h,hz=>by
  simp at hz;subst hz;exact⟨y,rfl,h.1⟩
 |x::xs,y::ys,j+1,z,h,hz=>by simpa using OF j z h.2 (by simpa using hz)
 |[],_::_,_,_,h,_=>h.elim
 |_::_,[],_,_,h,_=>h.elim
theorem XW{w:World}{F:Nat→Prop}{x y:AV}{v:Value}(h:XV x y)(k:aR w F x v):aR w F y v:=by
 rcases h with rfl|⟨rfl,sz,g,rfl⟩
 ·exact k
 ·cases k;exact .nil sz g
def aco:AV→Bool
 | .own .. =>true
 |x=>oN x
def nQ(H:Heap):List (List AV)→(List (List AV)→Prop)→Prop
 |[],K=>K []
 |l::r,K=>mr H l fun y=>nQ H r fun ys=>K (y::ys)
def lL(aO:Nat)(tm:List AV):List (Nat×Operand)→Nat→Option (List (List AV))
 |[],_=>some []
 |(i,x)::r,k=>match Nat.beq i k&&(oH (eR (aC tm x))&&Nat.beq (cellsOf (eR (aC tm x))).length aO&&(cellsOf (eR (aC tm x))).all aco)with
  |true=>match lL aO tm r (k+1)with
   |some l=>some (cellsOf (eR (aC tm x))::l)
   |none=>none
  |false=>none
def qM(t:Ty)(tm:List AV)(H:Heap)(nb len:Nat)(ps:List (Nat×Operand))(K:AV→Ws→Prop):Prop:=
 match t.d with
 | .slice _ aO _=>match lL aO tm ps 0 with
   |some l=>cT (Nat.beq l.length len&&Nat.ble len 4096&&Nat.ble aO 4096&&Nat.blt 0 aO) (nQ H l fun l'=> ∃h:Nat→List AV,(∀i,i<len→kY (l'.getD i []) (h i))∧K (.own nb len) (eI H l.flatten++[(nb,0,.ah false aO len h)]))
   |none=>False
 |_=>False
def sa(E:Env)(t:Ty)(tm:List AV)(nb:Nat)(l c:Operand)(K:AV→Ws→Prop):Prop:=
 match t.d with
 | .slice e aO eb=>match E.ty e with
   |some te=>match aC tm l with
    | .int _ z=>match aC tm c with
      | .int _ z'=>cT (te.zero.all OO&&Nat.beq te.zero.length aO&&Nat.ble aO 4096&&Nat.ble eb 4096&&Nat.blt 0 aO) ((z=z'∧0≤z∧z≤4096)∧K (.own nb z.toNat) [(nb,0,.ah false aO z.toNat fun _=>te.zero)])
      |_=>False
    |_=>False
   |none=>False
 |_=>False
def cB(tm:List AV)(d:Int)(o:Option Operand)(K:Int→Prop):Prop:=
 match o with
 |none=>K d
 |some x=>match aC tm x with
  | .int _ z=>K z
  |_=>False
def lq(m:Option Operand)(sz:Nat):Bool:=
 match m with
 |some _=>Nat.blt 1 sz
 |none=>false
def uL(c:Bool)(sz k:Nat)(g:Nat→List AV):AV:=
 match c with
 |true=> .kK sz k g
 |false=> .arr sz k g
def sA(t:Ty)(H:Heap)(tm:List AV)(x:AV)(l h m:Option Operand)(K:AV→Ws→Prop):Prop:=
 cT (h.isSome|| !(m.isSome)) (match t.d with
 | .slice _ aO _=>match x with
   | .arr sz n f=>cT (decide (sz=aO)) (cB tm 0 l fun lo=>cB tm n h fun hi=>cB tm hi m fun mx=>
     ((0≤lo∧lo≤hi∧hi≤mx∧mx≤n)∧(lq m sz=true→hi=mx))∧K (uL (lq m sz) sz (hi-lo).toNat fun i=>f (lo.toNat+i)) [])
   | .aE=>cB tm 0 l fun lo=>cB tm 0 h fun hi=>cB tm hi m fun mx=>(lo=0∧hi=0∧mx=0)∧K .aE []
   | .own b k=>match aj H b 0 with
     | .ah ro sz n f=>cT (decide (sz=aO)) (k=n∧cB tm 0 l fun lo=>cB tm n h fun hi=>cB tm hi m fun mx=>
       ((0≤lo∧lo≤hi∧hi≤mx∧mx≤n)∧(lq m sz=true→hi=mx))∧K (uL (lq m sz) sz (hi-lo).toNat fun i=>f (lo.toNat+i)) [(b,0,.ah true sz n f)])
     |_=>False
   |_=>False
 | .string=>match x with
   | .str s=>match m with
     |none=>cB tm 0 l fun lo=>cB tm s.size h fun hi=>(0≤lo∧lo≤hi∧hi≤s.size)∧K (.str (s.extract lo.toNat hi.toNat)) []
     |some _=>False
   |_=>False
 |_=>False)
def u8N:AV→Nat
 | .int _ z=>z.toNat
 |_=>0
def Ir:AV→Bool
 | .int .u8 _=>true
 |_=>false
def bytesOf(n:Nat)(f:Nat→List AV):ByteArray:=⟨((List.range n).map fun i=>UInt8.ofNat (u8N ((f i).getD 0 .undef))).toArray⟩
def oK(t:Ty)(eu:Option Ty):Bool:=
 match t.d with
 | .slice _ aO _=>Nat.beq aO 1&&(match eu with
   |some te=>match te.d with
    | .int .u8=>true
    |_=>false
   |none=>false)
 |_=>false
def sL.isStr:sL→Bool
 | .string=>true
 |_=>false
def sL.uu:sL→Bool
 | .slice .. =>true
 |_=>false
def sU(t u:Ty)(eu:Option Ty)(H:Heap)(x:AV)(K:AV→Prop):Prop:=
 match x with
 | .int _ z=>match u.d with
   | .int k=>match t.d with
     | .int _=>K (.int k (k.wrap z))
     |_=>False
   |_=>False
 | .str s=>match t.d with
   | .string=>match u.d with
     | .string=>K (.str s)
     |_=>cT (oK u eu) (K (.arr 1 s.size (wZ s)))
   |_=>False
 | .arr sz n f=>cT (u.d.isStr&&oK t eu&&Nat.beq sz 1) ((∀i,i<n→Ir ((f i).getD 0 .undef)=true)∧K (.str (bytesOf n f)))
 | .aE=>cT (u.d.isStr&&oK t eu) (K (.str ⟨#[]⟩))
 | .own b k'=>match aj H b 0 with
   | .ah _ sz n f=>cT (u.d.isStr&&oK t eu&&Nat.beq sz 1) (k'=n∧(∀i,i<n→Ir ((f i).getD 0 .undef)=true)∧K (.str (bytesOf n f)))
   |_=>False
 |_=>False
def Aa(x y:AV)(K:AV→Prop):Prop:=
 match x,y with
 | .int k a,.int k' b=>cT (decide (k=k')) (K (.int k (bif decide (b<a)then b else a)))
 |_,_=>False
def z_(x y:AV)(K:AV→Prop):Prop:=
 match x,y with
 | .int k a,.int k' b=>cT (decide (k=k')) (K (.int k (bif decide (b>a)then b else a)))
 |_,_=>False
section
variable {E:Env} {S:dF} {ι:Nat→Option Nat} {st:St} {a:Act} {w:World}
abbrev VR(S:dF)(ι:Nat→Option Nat)(H:Heap)(w:World):AV→Value→Prop:=dZ ι H w (FZ S ι H w)
abbrev CR(S:dF)(ι:Nat→Option Nat)(H:Heap)(w:World):AV→Value→Prop:=bV ι H w (FZ S ι H w)
theorem aon{H:Heap}{F:Nat→Prop}(v:Value):dZ ι H w F (R9 v) v:=by
 unfold R9
 split
 ·exact aR.int _ _
 ·exact aR.lit _
 ·split
  ·rename_i hb;exact aR.str _ (aC1 hb)
  ·trivial
 ·exact aR.aE
 ·trivial
theorem aP.eval(h:aP S ι st a w)(x:Operand):VR S ι st.hp w (aC st.tm x) (a.eval x):=by
 cases x with
 |tmp t=>
  simp only[aC,Act.eval]
  cases e:st.tm[t]? with
  |none=>simp only[List.getD,e];trivial
  |some av=>
   obtain⟨v,h1,h2⟩:=h.tm t av e;have:a.tmps.getD t undef=v:=by simp [aEj,h1]
   rw[this];simp only[List.getD,e];exact h2
 |const v=>exact aon v
 |global g=>
  simp only[aC,Act.eval];rcases agt g vY with e|⟨cs,e⟩
  ·rw[e];trivial
  ·rcases h.gl g with k|k
   ·rw[k]at e;cases e
   ·rw[e]at k ⊢;exact k
 |func f=>exact⟨[],rfl,trivial⟩
theorem jx.DR{H:Heap}{F:Nat→Prop}{av:AV}{v:Value}(h:aR w F av v):jx ι H w F av v:=by
 cases h<;>simp only[jx]<;>constructor<;>assumption
theorem bV.DR{H:Heap}{F:Nat→Prop}{av:AV}{v:Value}(h:aR w F av v):bV ι H w F av v:=by
 cases h with
 |int k n=>exact .int k n
 |bool b=>exact .bool b
 |lit b=>exact .lit b
 |str s hb=>exact .str s hb
 |aE=>exact .aE
 |jX=>exact .jX
 |kK sz n f p c h hc=>exact aR.kK sz n f p c h hc
 |nil sz f=>exact .nil sz f
 |mt sz f a c=>exact .mt sz f a c
 |arr sz n f b o c g vs hn hb hF h1 h2 h3=>exact .arr sz n f b o c g vs hn hb hF h1 h2 h3
 |ref cs b o g vs hF h1 h2 h3=>exact .ref cs b o g vs hF h1 h2 h3
 |fn f bp vs g u hl h1 h2 h3=>
  refine⟨vs,rfl,aT.mk hl.symm fun i x y hx hy=>jx.DR ?_⟩;have hi:i<bp.length:=by
   rcases aCY i bp.length with h|h
   ·exact h
   ·rw[aCW h]at hx;cases hx
  have e1:=h1 i hi;have e2:=h2 i hi;rw[hx]at e1;rw[hy]at e2
  cases e1;cases e2
  exact h3 i hi
theorem bV.qQ{H:Heap}{F:Nat→Prop}{av:AV}{v:Value}(h:bV ι H w F av v)(hf:oN av=true):aR w F av v:=by
 cases av<;>first|exact h|(cases hf;done)|skip
 rename_i f bp;obtain⟨vs,rfl,h2⟩:=h;have hlen:=h2.length;refine .fn f bp vs (fun j=>bp.getD j .undef) (fun j=>vs.getD j undef) hlen.symm (fun j hj=>by simp [List.getD,aCP hj]) (fun j hj=>by simp [List.getD,aCP (show j<vs.length by omega)]) fun j hj=> ?_;obtain⟨v,h3,h4⟩:=h2.get j bp[j] (aCP hj);have h5:bp.getD j .undef=bp[j]:=by simp [List.getD,aCP hj]
 have h6:vs.getD j undef=v:=by simp [List.getD,h3]
 rw[h5,h6];have h7:=aCR.1 hf bp[j] (aDY hj);generalize bp[j]=c at h4 h7
 cases c<;>first|(cases h7;done)|exact h4
theorem dZ.qQ{H:Heap}{F:Nat→Prop}{av:AV}{v:Value}(h:dZ ι H w F av v)(hf:Bj av=true):fD w F av v:=by
 cases av
 case agg cs=>
  obtain⟨vs,rfl,h2⟩:=h;refine⟨vs,rfl,aT.mk h2.length fun i x y hx hy=> ?_⟩;obtain⟨y',jo,hr⟩:=h2.get i x hx;rw[hy]at jo;cases jo;exact bV.qQ hr (aCR.1 hf x (aCV hx))
 case undef=>cases hf
 case gone=>cases hf
 case cU=>cases hf
 case ah=>cases hf
 all_goals exact bV.qQ (show bV ι H w F _ _ from h) hf
theorem aR.aiu{F:Nat→Prop}{v:Value}(h:aR w F .gone v):False:=by cases h
theorem gm.OH{H:Heap}{F:Nat→Prop}{av:AV}{v:Value}(h:fD w F av v):gm ι H w F av v:=by
 cases av
 case agg cs=>
  obtain⟨vs,rfl,h2⟩:=h;exact⟨vs,rfl,h2.imp fun _ _=>bV.DR⟩
 case undef=>exact h.elim
 case gone=>exact(aR.aiu h).elim
 all_goals exact(bV.DR (ι:=ι) (H:=H) (show aR w F _ _ from h):bV ι H w F _ _)
theorem dZ.Ai{H:Heap}{F:Nat→Prop}{av:AV}{v:Value}(h:gm ι H w F av v):dZ ι H w F av v:=by
 cases av<;>first|trivial|exact h|exact False.elim h
theorem dZ.XX{H:Heap}{F:Nat→Prop}{av:AV}{v:Value}(h:kH w F av v):dZ ι H w F av v:=by
 cases av<;>simp only[kH]at h<;>first|exact dZ.Ai (gm.OH h)|skip
 obtain⟨vs,rfl,h2⟩:=h;exact⟨vs,rfl,h2.imp fun _ _=>gm.OH⟩
theorem dZ.cells{H:Heap}{F:Nat→Prop}{av:AV}{v:Value}(h:dZ ι H w F av v)(hv:oH av=true):aT (bV ι H w F) (cellsOf av) v.cells.toList:=by
 have key:bV ι H w F av v→aT (bV ι H w F) [av] v.cells.toList:=fun k=>by
  have:=bV.one k
  cases v<;>first|(cases this;done)|exact⟨k,trivial⟩
 cases av<;>first|(cases hv;done)|exact key h|skip
 obtain⟨vs,rfl,h2⟩:=h;simpa[Value.cells,cellsOf]using h2
theorem aP.lr(h:aP S ι st a w){b o n:Nat}(hc:(lr st.hp b o n).all w7=true):
  ∃vs:List Value,vs.length=n∧aT (CR S ι st.hp w) (lr st.hp b o n) vs∧(0<n→ ∃x,ι b=some x∧ ∀(j:Nat) v,vs[j]? =some v→w.cell? ⟨x,o+j,none⟩=some v):=by
 have l9: ∀j,j<n→aj st.hp b (o+j)≠ .undef∧bW (aj st.hp b (o+j))=false:=fun j hj=>by
  have:=aCR.1 hc (aj st.hp b (o+j)) (by simp [Vc.lr];exact⟨j,hj,rfl⟩)
  cases e:aj st.hp b (o+j)<;>rw[e]at this<;>simp_all [w7,bW]
 have hex: ∀j,j<n→ ∃v,(∃x,ι b=some x∧w.cell? ⟨x,o+j,none⟩=some v)∧CR S ι st.hp w (aj st.hp b (o+j)) v:=fun j hj=>by
  obtain⟨x,v,h1,h2,_,h4⟩:=(h.hp b (o+j)).box (l9 j hj).1 (l9 j hj).2;exact⟨v,⟨x,h1,h2⟩,h4⟩
 have hv: ∃f:Nat→Value,∀j,j<n→(∃x,ι b=some x∧w.cell? ⟨x,o+j,none⟩=some (f j))∧CR S ι st.hp w (aj st.hp b (o+j)) (f j):=by
  refine⟨fun j=>if hj:j<n then(hex j hj).choose else undef,fun j hj=> ?_⟩;simp only[hj,dif_pos];exact(hex j hj).choose_spec
 obtain⟨f,hf⟩:=hv;refine⟨(List.range n).map f,by simp,aT.mk (by simp [Vc.lr]) fun i x y hx hy=> ?_,fun hn=> ?_⟩
 ·simp only[Vc.lr,aC4,aDo]at hx hy;obtain⟨i1,e1,rfl⟩:=hx;obtain⟨i2,e2,rfl⟩:=hy;have hi:i1<n:=by have:=aCV e1;simpa using this
  rw[e1]at e2;cases e2;exact(hf i1 hi).2
 ·obtain⟨x,hx,_⟩:=(hf 0 hn).1;refine⟨x,hx,fun j v hj=> ?_⟩;simp only[aC4,aDo]at hj;obtain⟨i1,e1,rfl⟩:=hj;have hi:i1<n:=by have:=aCV e1;simpa using this
  have iY:i1=j:=by
   have hjn:j<n:=by
    rcases aCY j n with h|h
    ·exact h
    ·rw[aCW (by simpa using h)]at e1;cases e1
   rw[aD8 hjn]at e1
   cases e1;rfl
  subst iY;obtain⟨x',cQ,C8⟩:=(hf i1 hi).1;rw[hx]at cQ;cases cQ;exact C8
end
section
variable {E:Env} {S:dF} {ι:Nat→Option Nat} {st:St} {a:Act} {w:World}
theorem de{P:Program}{o:Oper}{next:Act→World→Prop}{Q:Exit→Act→World→Prop}{v:Value}{w':World}(hr:(execOp a.eval o).run P w= .ok (.value v) w')(hn:next (a.put o.dst v) w'):o.wp P a w next Q:=by
 unfold Oper.wp;rw[hr];exact hn
theorem aj_{P:Program}{o:Oper}{next:Act→World→Prop}{Q:Exit→Act→World→Prop}{w':World}(hr:(execOp a.eval o).run P w= .ok .skip w')(hn:next (a.put o.dst undef) w'):o.wp P a w next Q:=by
 unfold Oper.wp;rw[hr];exact hn
theorem agI(b:Nat): ∀(cs:List AV) (o:Nat) (H:Heap) (b' o':Nat),aj (p9 H b cs o) b' o'=if b'=b∧o≤o'∧o'<o+cs.length then cs.getD (o'-o) .undef else aj H b' o'
 |[],o,H,b',o'=>by simp [p9];omega
 |c::cs,o,H,b',o'=>by
  rw[p9,agI b cs (o+1)]
  by_cases h1:b'=b∧o+1≤o'∧o'<o+1+cs.length
  ·rw[aCL h1,aCL ⟨h1.1,by omega,by simp;omega⟩,show o'-o=(o'- (o+1))+1 by omega];simp
  ·rw[aCM h1,e_]
   by_cases h2:b'=b∧o'=o
   ·rw[aCL h2,aCL ⟨h2.1,by omega,by simp;omega⟩,show o'-o=0 by omega];simp
   ·rw[aCM h2,aCM (by simp only[aC7];omega)]
theorem wE(H:Heap)(b o:Nat)(c:AV):H.length≤(bl H b o c).length∧b<(bl H b o c).length:=mJ _ _ _ _
theorem ahU(b:Nat): ∀(cs:List AV) (o:Nat) (H:Heap),H.length≤(p9 H b cs o).length∧(cs≠[]→b<(p9 H b cs o).length)
 |[],_,_=>⟨aCK _,fun h=>absurd rfl h⟩
 |c::cs,o,H=>by
  have h1:=wE H b o c;have h2:=(ahU b cs (o+1) (bl H b o c)).1;exact⟨aCX h1.1 h2,fun _=>aC0 h1.2 h2⟩
theorem dV.ext{H H':Heap}(hH: ∀b o,aj H' b o=aj H b o):dV ι H w (FZ S ι H w) ι H' w (FZ S ι H' w):=by
 refine⟨fun x ⟨h1,h2,h3⟩=>⟨h1,h2,fun b hb=>h3 b (oG (hH b) hb)⟩,fun _ _ _=>rfl,fun b x hx hb=>⟨hx,by rw[hH];exact hb⟩,fun b ro sz n f hk=>⟨ro,_,n,f,by rw[hH];exact hk,aCK _,fun _=>⟨rfl,rfl,fun x C T _ hC=>⟨C,hC,rfl⟩⟩⟩⟩
theorem aP.ext{tm:List AV}{H H':Heap}(h:aP S ι ⟨tm,H⟩ a w)(hH: ∀b o,aj H' b o=aj H b o)(hl: ∀b x,ι b=some x→b<H'.length):aP S ι ⟨tm,H'⟩ a w:=by
 have hs:dV ι H w (FZ S ι H w) ι H' w (FZ S ι H' w):=dV.ext hH;refine⟨h.below,h.defers,fun t av ht=> ?_,fun b o=> ?_,h.inj,h.fresh,hl,h.gK.trans hs⟩
 ·obtain⟨v,h1,h2⟩:=h.tm t av ht;exact⟨v,h1,h2.step hs⟩
 ·show fc ι H' w _ b o (aj H' b o);rw[hH];exact(h.hp b o).step hs (fun _=>rfl) (fun _ _ _=>⟨rfl,rfl⟩) (fun _=>⟨rfl,fun _ _=>rfl⟩)
theorem ub{H:Heap}{b:Nat}(h:H.length≤b)(o:Nat):aj H b o= .undef:=by
 simp [aj,List.getD,aCW h]
theorem aP.OA(h:aP S ι st a w){b:Nat}(hb:st.hp.length≤b):ι b=none:=by
 cases e:ι b with
 |none=>rfl
 |some x=>have:=h.gH b x e;omega
theorem Ea(ι:Nat→Option Nat)(nb x:Nat): ∀b,cp ι nb x b≠none→ι b≠none∨b=nb:=fun b h=>by
 unfold cp at h
 by_cases e:b=nb
 ·exact .inr e
 ·simp only[e,aDn]at h;exact .inl h
theorem aP.aip(h:aP S ι st a w){b:Nat}(hb: ∀o,aj st.hp b o= .undef)(cL:ι b=none)(cs:List AV)(db:cs≠[])(vs:List Value)(T:TypeId)(hv:aT (CR S ι st.hp w) cs vs):
  aP S (cp ι b w.heap.size) ⟨st.tm,bm st.hp (iy b cs 0)⟩ a (w.alloc (.cells vs.toArray T))∧
  VR S (cp ι b w.heap.size) (bm st.hp (iy b cs 0)) (w.alloc (.cells vs.toArray T)) (.ptr b 0) (.pointer (some ⟨w.heap.size,0,none⟩)):=by
 obtain⟨h1,_,h3⟩:=h.ayp b hb cL cs vs T hv;have hH: ∀b' o,aj (bm st.hp (iy b cs 0)) b' o=aj (np st.hp b cs) b' o:=fun b' o=>by
  rw[NL,agI,HD]
  by_cases e:b'=b
  ·subst e
   by_cases ho:o<cs.length
   ·rw[aCL ⟨rfl,by omega,by omega⟩,aCL rfl];simp
   ·rw[aCM (by omega),aCL rfl,hb];simp [List.getD,aCW (Nat.le_of_not_lt ho)]
  ·rw[aCM (fun e'=>e e'.1),aCM e]
 refine⟨h1.ext hH fun b' x hx=> ?_,?_⟩
 ·rw[NL];have hl:=ahU b cs 0 st.hp;unfold cp at hx
  by_cases e:b'=b
  ·rw[e];exact hl.2 db
  ·simp only[e,aDn]at hx;exact aC0 (h.gH _ _ hx) hl.1
 ·exact bV.step (dV.ext (S:=S) hH) h3
theorem lW.rel{H:Heap}{F:Nat→Prop}{av:AV}{v:Value}(h:lW av v):bV ι H w F av v:=by
 cases av<;>simp only[lW]at h<;>first|(subst h;constructor)|exact h|exact h.elim|(obtain⟨rfl,hz⟩:=h;exact aR.str _ (by omega))
theorem anr{o:Oper}{T:TypeId}{t:Ty}(ho:o.op= .alloc T)(hT:gF E.P T t)(h:aP S ι st a w){nb:Nat}(hn: ∀o,aj st.hp nb o= .undef)(cL:ι nb=none)(db:t.zero≠[]){next:Act→World→Prop}{Q:Exit→Act→World→Prop}
  (bQ: ∀aA w' v,(∀b,aA b≠none→ι b≠none∨b=nb)→aP S aA ⟨st.tm,bm st.hp (iy nb t.zero 0)⟩ a w'→VR S aA (bm st.hp (iy nb t.zero 0)) w' (.ptr nb 0) v→next (a.put o.dst v) w'):o.wp E.P a w next Q:=by
 obtain⟨z,nu,rT,hz3⟩:=aAr w hT;obtain⟨h1,h2⟩:=h.aip hn cL t.zero db z.cells.toList T (rT.imp fun _ _=>lW.rel);refine de (v:= .pointer (some ⟨w.heap.size,0,none⟩)) (w':=w.alloc (.cells z.cells T)) ?_ (bQ _ _ _ (Ea _ _ _) (by simpa using h1) (by simpa using h2));simp [execOp,ho,Instr.alloc,nu,newVar,newRow]
theorem anQ{o:Oper}{T:TypeId}{x:Operand}(ho:o.op= .box T x)(h:aP S ι st a w){nb:Nat}(hn: ∀o,aj st.hp nb o= .undef)(cL:ι nb=none)(o9:oH (aC st.tm x)=true)(db:cellsOf (aC st.tm x)≠[]){next:Act→World→Prop}{Q:Exit→Act→World→Prop}
  (bQ: ∀aA w' v,(∀b,aA b≠none→ι b≠none∨b=nb)→aP S aA ⟨st.tm,bm st.hp (iy nb (cellsOf (aC st.tm x)) 0)⟩ a w'→VR S aA (bm st.hp (iy nb (cellsOf (aC st.tm x)) 0)) w' (.ptr nb 0) v→next (a.put o.dst v) w'):o.wp E.P a w next Q:=by
 have hr:=(h.eval x).cells o9;obtain⟨h1,h2⟩:=h.aip hn cL _ db _ T hr;refine de (v:= .pointer (some ⟨w.heap.size,0,none⟩)) (w':=w.alloc (.cells (a.eval x).cells T)) ?_ (bQ _ _ _ (Ea _ _ _) (by simpa using h1) (by simpa using h2));simp [execOp,ho,Instr.box,newVar,newRow]
theorem aaH{b:Bool}{cs:List AV}{vs:List Value}{H:Heap}{F:Nat→Prop}(h:aT (bV ι H w F) cs vs)(hb:b=false→cs.length=1):dZ ι H w F (py b cs) (sP b vs):=by
 cases b with
 |true=>exact⟨vs,rfl,h⟩
 |false=>
  match cs,vs,h,hb rfl with
  |[c],[v],h,_=>
   have:=h.1
   cases c<;>first|trivial|exact this|exact False.elim this
theorem aT.take{α β:Type}{R:α→β→Prop} : ∀{aa:List α} {bs:List β} (n:Nat),aT R aa bs→aT R (aa.take n) (bs.take n)
 |[],[],n,_=>by simp [aT]
 |_::_,_::_,0,_=>trivial
 |_::_,_::_,n+1,h=>⟨h.1,aT.take n h.2⟩
 |[],_::_,_,h=>h.elim
 |_::_,[],_,h=>h.elim
theorem gF.one{P:Program}{T:TypeId}{t:Ty}(h:gF P T t)(hb:t.d.isAgg=false):t.size=1:=by
 obtain⟨d,_,_,h3⟩:=h.agg;exact(h3 hb).1
theorem Oi{T:TypeId}{t:Ty}{xa:AV}{v0:Value}(hT:gF E.P T t)(h:aP S ι st a w)(hx:VR S ι st.hp w xa v0){K:AV→Prop}(hk:oB t st.hp xa K):
  ∃(p:Addr) (av:AV) (u:Value),v0= .pointer (some p)∧K av∧VR S ι st.hp w av u∧(loadVar T p).run E.P w= .ok u w:=by
 have fin: ∀(y off:Nat) (cs:List AV) (vs:List Value),v0= .pointer (some ⟨y,off,none⟩)→vs.length=t.size→aT (CR S ι st.hp w) cs vs→(∀(j:Nat) v,vs[j]? =some v→w.cell? ⟨y,off+j,none⟩=some v)→K (py t.d.isAgg cs)→
   ∃(p:Addr) (av:AV) (u:Value),v0= .pointer (some p)∧K av∧VR S ι st.hp w av u∧(loadVar T p).run E.P w= .ok u w:=fun y off cs vs e hl hr hc hK=>
  ⟨⟨y,off,none⟩,py t.d.isAgg cs,sP t.d.isAgg vs,e,hK,aaH hr fun hb=>by rw[hr.length,hl,hT.one hb],aAo w hT y off vs hl hc⟩
 cases xa<;>simp only[oB,aD,aDd]at hk<;>try exact hk.elim
 ·rename_i b off;obtain⟨uf,V0⟩:=hk;obtain⟨vs,hl,hr,hc⟩:=h.lr uf;obtain⟨_,y,hy,hv⟩:=(show CR S ι st.hp w (.ptr b off) _ from hx);refine fin y off _ vs hv hl hr (fun j v hj=> ?_) V0;obtain⟨y',jo,C8⟩:=hc (by rw[←hl];rcases aCY 0 vs.length with h|h;exact h;rw[aCW (by omega)]at hj;cases hj);rw[hy]at jo;cases jo;exact C8 j v hj
 ·rename_i b k i off;obtain⟨_,ro,sz,n,f,h1,h2,h3⟩:=(show CR S ι st.hp w (.fF b k i off) _ from hx);rw[h1]at hk;simp only at hk;obtain⟨rfl,hi,dw,hK⟩:=hk;obtain⟨y,hy,hv⟩:=h3 rfl;have hl:=h.hp b 0;rw[h1]at hl;obtain⟨_,hd|⟨_,hl|⟨y',C,T',jo,hC,eB⟩⟩⟩:=hl
  ·rw[hy]at hd;cases hd.2.2
  ·omega
  rw[hy]at jo;cases jo;have hex: ∀j,j<t.size→ ∃v,C[i*sz+(off+j)]? =some v∧ ∃c,((((f i).drop off).take t.size))[j]? =some c∧CR S ι st.hp w c v:=fun j hj=>by
   obtain⟨c,v,g1,g2,g3⟩:=eB i (off+j) hi (by omega);exact⟨v,g2,c,by rw[aDV hj,aDv];exact g1,bV.DR g3⟩
  have hlen:(((f i).drop off).take t.size).length=t.size:=by
   rcases aCY (((f i).drop off).take t.size).length t.size with cI|ox
   ·obtain⟨_,_,c,hc,_⟩:=hex _ cI;rw[aCW (aCK _)]at hc;cases hc
   ·have:=List.length_take_le t.size ((f i).drop off);omega
  let vs:=(List.range t.size).map fun j=>(C[i*sz+(off+j)]?).getD undef;have iF: ∀j v,vs[j]? =some v→j<t.size∧C[i*sz+(off+j)]? =some v:=fun j v hj=>by
   have pZ:j<t.size:=by
    rcases aCY j t.size with h|h
    ·exact h
    ·rw[aCW (by simpa[vs]using h)]at hj;cases hj
   refine⟨pZ,?_⟩;simp only[vs,aC4,aD8 pZ,aDC,aC3]at hj;obtain⟨v',g,_⟩:=hex j pZ;rw[g]at hj ⊢;simpa using hj
  refine fin y (i*sz+off) _ vs hv (by simp [vs]) (aT.mk (by simp [vs,hlen]) fun j c v hc hv=> ?_) (fun j v hj=> ?_) hK
  ·obtain⟨pZ,g⟩:=iF j v hv;obtain⟨v',g1,c',g2,g3⟩:=hex j pZ;rw[g]at g1;cases g1;rw[hc]at g2;cases g2;exact g3
  ·obtain⟨_,g⟩:=iF j v hj;rw[aDN w y _ C T' (0,0) hC,aDF];exact g
 ·rename_i cs;obtain⟨uf,hK⟩:=hk;have cQ:aR w (FZ S ι st.hp w) (.ref cs) v0:=hx
  cases cQ with
  |ref _ b off g u hF h1 h2 h3=>
   have kr: ∀j c,cs[j]? =some c→j<cs.length:=fun j c hj=>by
    rcases aCY j cs.length with h|h
    ·exact h
    ·rw[aCW h]at hj;cases hj
   refine fin b off (cs.take t.size) ((List.range t.size).map u) rfl (by simp) (aT.mk (by simp;omega) fun j c v hc hv=> ?_) (fun j v hj=> ?_) hK
   all_goals
    have pZ:j<t.size:=by
     rcases aCY j t.size with h|h
     ·exact h
     ·first
       |(rw[aCW (by simpa using h)]at hv;cases hv;done)
       |(rw[aCW (by simpa using h)]at hj;cases hj;done)
   ·simp only[aC4,aD8 pZ,aDC,aC3]at hv;rw[aDV pZ]at hc;have:=kr j c hc;rw[h1 j this]at hc;cases hc;subst hv;exact bV.DR (h3 j this)
   ·simp only[aC4,aD8 pZ,aDC,aC3]at hj;subst hj;exact h2 j (by omega)
theorem axs{o:Oper}{T:TypeId}{t:Ty}{x:Operand}(ho:o.op= .load T x)(hT:gF E.P T t)(h:aP S ι st a w){K:AV→Prop}(hk:oB t st.hp (aC st.tm x) K){next:Act→World→Prop}{Q:Exit→Act→World→Prop}
  (bQ: ∀av v,K av→VR S ι st.hp w av v→next (a.put o.dst v) w):o.wp E.P a w next Q:=by
 obtain⟨p,av,u,h1,h2,h3,h4⟩:=Oi hT h (h.eval x) hk;refine de (v:=u) (w':=w) ?_ (bQ _ _ h2 h3);simp [execOp,ho,h1,Instr.loadAt,Instr.sureAddr,h4]
end
section
variable {E:Env} {S:dF} {ι:Nat→Option Nat} {st:St} {a:Act} {w:World}
theorem aiv{H:Heap}{F:Nat→Prop}{x:AV}{v:Value}(h:bV ι H w F x v):bV ι H w F (IM x) v:=by
 cases x
 case lit b=>
  have h':aR w F (.lit b) v:=h
  cases h'
  exact aR.bool b
 all_goals exact h
theorem DO{H:Heap}{F:Nat→Prop}{x:AV}{v:Value}(h:dZ ι H w F x v):dZ ι H w F (eR x) v:=by
 cases x
 case lit b=>exact aiv (ι:=ι) (H:=H) (F:=F) (w:=w) (x:= .lit b) (show bV ι H w F (.lit b) v from h)
 case agg cs=>
  obtain⟨vs,rfl,hr⟩:=h;refine⟨vs,rfl,aT.mk (by simp [hr.length]) fun i p q hp hq=> ?_⟩;simp only[aC4,aDo]at hp;obtain⟨c,hc,rfl⟩:=hp;obtain⟨q',dn,wo⟩:=hr.get i c hc;rw[hq]at dn;cases dn;exact aiv wo
 all_goals exact h
theorem I9{α:Type}(d x y:α): ∀(l:List α) (i:Nat),setAt d (setAt d l i x) i y=setAt d l i y
 |[],0=>rfl
 |[],i+1=>by simp only[setAt,I9 d x y [] i]
 |_::_,0=>rfl
 |a::aa,i+1=>by simp only[setAt,I9 d x y aa i]
theorem ato(H:Heap)(b o:Nat)(x y:AV):bl (bl H b o x) b o y=bl H b o y:=by
 unfold bl;have h1:(setAt [] H b (setAt .undef (H.getD b []) o x)).getD b []=setAt .undef (H.getD b []) o x:=by rw[pQ,aCL rfl]
 rw[h1,I9,I9]
theorem aP.ajO{P:Program}{b z i sz n o0:Nat}(hz:ι b=some z)(hi:i<n)(dK:n≤dg): ∀(cs:List AV) (vs:List Value) (k:Nat) (f:Nat→List AV) (st:St) (w:World),aP S ι st a w→aj st.hp b 0= .ah false sz n f→o0+k+cs.length≤sz→
  aT (aR w (FZ S ι st.hp w)) cs vs→cs≠[]→ ∀(g:Nat→List AV),(∀j,j<n→Pv f i (o0+k) cs j=g j)→ ∃w',(storeCells ⟨z,i*sz+o0,none⟩ vs k).run P w= .ok () w'∧aP S ι ⟨st.tm,bl st.hp b 0 (.ah false sz n g)⟩ a w'
 |[],_,_,_,_,_,_,_,_,_,db,_,_=>absurd rfl db
 |_::_,[],_,_,_,_,_,_,_,hv,_,_,_=>hv.elim
 |c::cs,v::vs,k,f,st,w,h,hb,hl,hv,_,g,hg=>by
  have hq:o0+k<sz:=by simp only[aC7]at hl;omega
  have HK:=h.hp b 0;rw[hb]at HK;obtain⟨_,hd|⟨_,HK|⟨z',C,T',hz',hC,eB⟩⟩⟩:=HK
  ·rw[hz]at hd;cases hd.2.2
  ·rw[hz]at HK;cases HK.2
  rw[hz]at hz';cases hz';obtain⟨_,u0,_,k2,_⟩:=eB i (o0+k) hi hq;have VY:=(aDy.1 k2).1;have uh:one v=true:=hv.1.one;have pV:w.cell? ⟨z,i*sz+(o0+k),none⟩=some (C[i*sz+(o0+k)]):=by
   rw[aDN w z (i*sz+(o0+k)) C T' (0,0) hC,aDu VY]
  have nk:w.frozen? ⟨z,i*sz+(o0+k),none⟩=false:=frozen_of_row w z (i*sz+(o0+k)) C T' hC;have fQ:=ajt (P:=P) w ⟨z,i*sz+(o0+k),none⟩ uh pV nk
  cases cs with
  |nil=>
   cases vs with
   |cons _ _=>exact hv.2.elim
   |nil=>
    obtain⟨h1,_⟩:=h.ajM hz hb hC hq VY hv.1 (g:=g) (fun j hj=>(hg j hj).symm) eB dK;refine⟨_,?_,h1⟩;simp only[storeCells,Sem.run_bind,Addr.add_lit,aDF,fQ,Result.andThen];rfl
  |cons c2 cs=>
   obtain⟨h1,s1⟩:=h.ajM hz hb hC hq VY hv.1 (g:=fun j=>bif Nat.beq j i then(f j).set (o0+k) c else f j) (fun _ _=>rfl) eB dK;obtain⟨w',r,h2⟩:=aP.ajO (P:=P) (o0:=o0) hz hi dK (c2::cs) vs (k+1) _ ⟨st.tm,bl st.hp b 0 (.ah false sz n fun j=>bif Nat.beq j i then(f j).set (o0+k) c else f j)⟩ _ h1 (by rw[e_,aCL ⟨rfl,rfl⟩]) (by simp only[aC7]at hl ⊢;omega)
    (hv.2.imp fun _ _ hr=>hr.mono s1.fz s1.cell) (by simp) g (fun j hj=>by
     rw[←hg j hj];unfold Pv
     cases e:Nat.beq j i<;>simp only[e,aCJ,aCI,r_,aDF])
   refine⟨w',?_,by rw[ato]at h2;exact h2⟩;simp only[storeCells,Sem.run_bind,Addr.add_lit,aDF,fQ,Result.andThen];exact r
theorem ajs{P:Program}{T:TypeId}{t:Ty}(hT:gF P T t)(w w':World)(p:Addr)(v:Value)(hl:v.cells.size=t.size)(hr:(storeCells p v.cells.toList 0).run P w= .ok () w'):
  (Instr.storeAt T (.pointer (some p)) v).run P w= .ok () w':=by
 simp [Instr.storeAt,Instr.sureAddr,storeVar,run_sizeOf w hT,hl,hr]
theorem aAR{o:Oper}{T:TypeId}{t:Ty}{x y:Operand}(ho:o.op= .store T x y)(hT:gF E.P T t)(h:aP S ι st a w){K:Ws→Prop}(hk:uV t st.hp (aC st.tm x) (aC st.tm y) K){next:Act→World→Prop}{Q:Exit→Act→World→Prop}
  (bQ: ∀ws w',K ws→aP S ι ⟨st.tm,bm st.hp ws⟩ a w'→next (a.put o.dst undef) w'):o.wp E.P a w next Q:=by
 have hx:=h.eval x;have hy:=h.eval y
 cases e:aC st.tm x<;>rw[e]at hk hx<;>simp only[uV,aD,aCN,aDd,aC_]at hk<;>try exact hk.elim
 ·rename_i b off;obtain⟨⟨⟨⟨uf,V0⟩,hk3⟩,hk4⟩,hK⟩:=hk;have hc:=hy.cells uf;obtain⟨_,z,hz,hv⟩:=(show CR S ι st.hp w (.ptr b off) _ from hx);have lI: ∀j,j<(cellsOf (aC st.tm y)).length→aj st.hp b (off+0+j)≠ .undef∧bW (aj st.hp b (off+0+j))=false:=fun j hj=>by
   have:=aCR.1 hk3 (aj st.hp b (off+j)) (by simp [Vc.lr];exact⟨j,by omega,rfl⟩);rw[aDl]
   cases e:aj st.hp b (off+j)<;>rw[e]at this<;>simp_all [w7,bW]
  obtain⟨w',r,h2,_⟩:=aP.ajN (P:=E.P) (S:=S) (a:=a) (o0:=off) hz (cellsOf (aC st.tm y)) _ 0 st w h hk4 lI hc;refine aj_ (w':=w') ?_ (bQ _ _ hK (by rw[NL];exact h2));have:=ajs hT w w' ⟨z,off,none⟩ (a.eval y) (by rw[←V0,hc.length];simp) r;simp [execOp,ho,hv,this]
 ·rename_i b k i off;obtain⟨_,ro,sz,n,f,h1,h2,h3⟩:=(show CR S ι st.hp w (.fF b k i off) _ from hx);rw[h1]at hk;simp only[aD,aCN,aC_]at hk;obtain⟨⟨⟨⟨⟨⟨zK,agR⟩,o9⟩,qa⟩,Wc⟩,db⟩,rfl,hi,g,hg,hK⟩:=hk;subst zK;obtain⟨z,hz,hv⟩:=h3 rfl;have hc:=dZ.cells (DO hy) o9;have ua:aT (aR w (FZ S ι st.hp w)) (cellsOf (eR (aC st.tm y))) (a.eval y).cells.toList:=aT.mk hc.length fun j p q hp hq=>by
   obtain⟨q',dn,hr⟩:=hc.get j p hp;rw[hq]at dn;cases dn;exact bV.qQ hr (aCR.1 Wc p (aCV hp))
  have hl:=h.hp b 0;rw[h1]at hl;have C7:k≤dg:=by
   rcases hl.2 with hd|hd
   ·cases hd.1
   ·exact hd.1
  obtain⟨w',r,h4⟩:=aP.ajO (P:=E.P) (S:=S) (a:=a) (o0:=off) hz hi C7 _ _ 0 f st w h h1 (by omega) ua (by intro e;rw[e]at db;cases db) g hg;refine aj_ (w':=w') ?_ (bQ _ _ hK h4);have:=ajs hT w w' ⟨z,i*sz+off,none⟩ (a.eval y) (by rw[←qa,hc.length];simp) r;simp [execOp,ho,hv,this]
theorem apm{o:Oper}{T:TypeId}{t:Ty}{x:Operand}{f:Nat}(ho:o.op= .fieldAddr T x f)(hT:gF E.P T t)(h:aP S ι st a w){K:AV→Prop}(hk:sY t st.hp f (aC st.tm x) K){next:Act→World→Prop}{Q:Exit→Act→World→Prop}
  (bQ: ∀av v,K av→VR S ι st.hp w av v→next (a.put o.dst v) w):o.wp E.P a w next Q:=by
 have hx:=h.eval x;have hd:=hT.d
 cases ed:t.d<;>simp only[sY,ed]at hk<;>try exact hk.elim
 rename_i dC;rw[ed]at hd;obtain⟨fs,hu,_,agR⟩:=hd
 cases eo:dC[f]? <;>rw[eo]at hk<;>simp only at hk
 rename_i off;obtain⟨off,sz⟩:=off;simp only at hk;obtain⟨fl,De,hf2,i,eF,gR,nm⟩:=agR f off sz eo;rw[←gR]at nm;have b_: ∀(y p:Nat),a.eval x= .pointer (some ⟨y,p,none⟩)→(execOp a.eval o).run E.P w= .ok (.value (.pointer (some ⟨y,p+off,none⟩))) w:=fun y p e=>by
  simp [execOp,ho,e,Instr.fieldAt,aCU hu,De,Instr.sureAddr,fieldPlace,sizeOf,typeInfo,eF,nm,hf2,Addr.add_lit]
 cases e:aC st.tm x<;>rw[e]at hk hx<;>simp only at hk<;>try exact hk.elim
 ·rename_i b p;obtain⟨h0,y,hy,hv⟩:=(show CR S ι st.hp w (.ptr b p) _ from hx);exact de (b_ y p hv) (bQ _ _ hk ⟨h0,y,hy,rfl⟩)
 ·rename_i b k i p;obtain⟨_,ro,sz,n,g,h1,h2,h3⟩:=(show CR S ι st.hp w (.fF b k i p) _ from hx);rw[h1]at hk;simp only at hk;obtain⟨y,hy,hv⟩:=h3 hk.1;exact de (b_ y _ hv) (bQ _ _ hk.2 ⟨rfl,ro,sz,n,g,h1,h2,fun _=>⟨y,hy,by rw[aDF]⟩⟩)
 ·rename_i cs;have cQ:aR w (FZ S ι st.hp w) (.ref cs) (a.eval x):=hx;generalize hv:a.eval x=v at cQ
  cases cQ with
  |ref _ b p g u hF h1 h2 h3=>
   refine de (b_ b p hv) (bQ _ _ hk (show aR w _ (.ref (cs.drop off)) _ from .ref _ b (p+off) (fun j=>g (off+j)) (fun j=>u (off+j)) hF (fun j hj=> ?_) (fun j hj=> ?_) (fun j hj=> ?_)))
   ·rw[aDv];exact h1 _ (by simp at hj;omega)
   ·rw[aDF];exact h2 _ (by simp at hj;omega)
   ·exact h3 _ (by simp at hj;omega)
theorem aT.abE{α β:Type}{R:α→β→Prop} : ∀{aa:List α} {bs:List β} (n:Nat),aT R aa bs→aT R (aa.drop n) (bs.drop n)
 |[],[],n,_=>by simp [aT]
 |_::_,_::_,0,h=>h
 |_::_,_::_,n+1,h=>aT.abE n h.2
 |[],_::_,_,h=>h.elim
 |_::_,[],_,h=>h.elim
theorem atL{o:Oper}{T:TypeId}{t:Ty}{x y:Operand}(ho:o.op= .indexAddr T x y)(hT:gF E.P T t)(h:aP S ι st a w){K:AV→Prop}(hk:uq t st.hp (aC st.tm x) (aC st.tm y) K){next:Act→World→Prop}{Q:Exit→Act→World→Prop}
  (bQ: ∀av v,K av→VR S ι st.hp w av v→next (a.put o.dst v) w):o.wp E.P a w next Q:=by
 have hx:=h.eval x;have hy:=h.eval y;have hd:=hT.d
 cases ed:t.d<;>simp only[uq,ed]at hk<;>try exact hk.elim
 case slice e aO eb=>
  rw[ed]at hd;obtain⟨hu,i,eF,gR,_⟩:=hd
  cases ey:aC st.tm y<;>rw[ey]at hk hy<;>simp only at hk<;>try exact hk.elim
  rename_i k z;have Ig:a.eval y= .int k z:=by
   have:aR w (FZ S ι st.hp w) (.int k z) (a.eval y):=hy;generalize a.eval y=v at this;cases this;rfl
  have b_: ∀(b p n c:Nat),a.eval x= .slice (some ⟨b,p,none⟩) n c→0≤z→z<n→(execOp a.eval o).run E.P w= .ok (.value (.pointer (some ⟨b,p+z.toNat*aO,none⟩))) w:=fun b p n c ex h0 h1=>by
   simp [execOp,ho,ex,Ig,Instr.indexAt,aCU hu,asIntOf,h0,h1,sizeOf,typeInfo,eF,gR,Addr.add_lit]
  cases ex:aC st.tm x<;>rw[ex]at hk hx<;>simp only at hk<;>try exact hk.elim
  ·rename_i sz n f;simp only[aD,aDd]at hk;obtain⟨dw,⟨h0,h1⟩,hK⟩:=hk;have cQ:aR w (FZ S ι st.hp w) (.arr sz n f) (a.eval x):=hx;generalize hv:a.eval x=v at cQ
   cases cQ with
   |nil=>simp at h1;omega
   |mt=>simp at h1;omega
   |arr _ _ _ b p c g u hn C7 hF g1 g2 g3=>
    have Dx:z.toNat<n:=by omega
    have hlen:((f z.toNat).take sz).length=sz:=by
     rcases aCY ((f z.toNat).take sz).length sz with cI|ox
     ·have:=g1 z.toNat _ Dx cI;rw[aCW (by simp at cI ⊢;omega)]at this;cases this
     ·have:=List.length_take_le sz (f z.toNat);omega
    refine de (b_ b p n c hv h0 h1) (bQ _ _ hK (show aR w _ (.ref ((f z.toNat).take sz)) _ from .ref _ b (p+z.toNat*aO) (g z.toNat) (u z.toNat) (hF (by omega)) (fun j hj=> ?_) (fun j hj=> ?_) (fun j hj=> ?_)))
    ·rw[aDV (by omega)];exact g1 _ _ Dx (by omega)
    ·rw[←dw];exact g2 _ _ Dx (by omega)
    ·exact g3 _ _ Dx (by omega)
  ·rename_i b k';obtain⟨_,ro,sz,n,f,h1,h2,h3⟩:=(show CR S ι st.hp w (.own b k') _ from hx);rw[h1]at hk;simp only[aD,aDd]at hk;obtain⟨dw,rfl,⟨qb,nu⟩,hK⟩:=hk;rcases h3 rfl with⟨q,c,C,T',hq,hv,gL,hC,eZ⟩|⟨h4,_,_⟩
   ·refine de (b_ q 0 k' c hv qb nu) (bQ _ _ hK ⟨rfl,ro,sz,k',f,h1,aCK _,fun _=>⟨q,hq,by rw[dw];simp⟩⟩)
   ·omega
 case array n e aO=>
  rw[ed]at hd;obtain⟨hu,i,eF,gR⟩:=hd
  cases ey:aC st.tm y<;>rw[ey]at hk hy<;>simp only at hk<;>try exact hk.elim
  rename_i k z;have Ig:a.eval y= .int k z:=by
   have:aR w (FZ S ι st.hp w) (.int k z) (a.eval y):=hy;generalize a.eval y=v at this;cases this;rfl
  have b_: ∀(b p:Nat),a.eval x= .pointer (some ⟨b,p,none⟩)→0≤z→z<n→(execOp a.eval o).run E.P w= .ok (.value (.pointer (some ⟨b,p+z.toNat*aO,none⟩))) w:=fun b p ex h0 h1=>by
   simp [execOp,ho,ex,Ig,Instr.indexAt,Instr.sureAddr,aCU hu,asIntOf,h0,h1,sizeOf,typeInfo,eF,gR,Addr.add_lit]
  cases ex:aC st.tm x<;>rw[ex]at hk hx<;>simp only[aD,aCN,aDd]at hk<;>try exact hk.elim
  ·rename_i b p;obtain⟨h0,q,hq,hv⟩:=(show CR S ι st.hp w (.ptr b p) _ from hx);exact de (b_ q p hv hk.1.1 hk.1.2) (bQ _ _ hk.2 ⟨h0,q,hq,rfl⟩)
  ·rename_i cs;have cQ:aR w (FZ S ι st.hp w) (.ref cs) (a.eval x):=hx;generalize hv:a.eval x=v at cQ
   cases cQ with
   |ref _ b p g u hF h1 h2 h3=>
    refine de (b_ b p hv hk.1.1 hk.1.2) (bQ _ _ hk.2 (show aR w _ (.ref (cs.drop (z.toNat*aO))) _ from .ref _ b (p+z.toNat*aO) (fun j=>g (z.toNat*aO+j)) (fun j=>u (z.toNat*aO+j)) hF (fun j hj=> ?_) (fun j hj=> ?_) (fun j hj=> ?_)))
    ·rw[aDv];exact h1 _ (by simp at hj;omega)
    ·rw[aDF];exact h2 _ (by simp at hj;omega)
    ·exact h3 _ (by simp at hj;omega)
theorem aAp{P:Program}{T:TypeId}{t:Ty}{w:World}(hT:gF P T t)(vs:List Value)(off:Nat)(hl:off+t.size≤vs.length):
  (part T vs.toArray off).run P w= .ok (sP t.d.isAgg ((vs.drop off).take t.size)) w:=by
 cases e:t.d.isAgg with
 |true=>simp [part,Sem.run_bind,O8 w hT,e,Result.andThen_ok,run_sizeOf w hT,sP]
 |false=>
  have h1:=hT.one e;have cI:off<vs.length:=by omega
  have hd:(vs.drop off).take 1=[vs[off]]:=by rw[aEk cI];rfl
  simp [part,Sem.run_bind,O8 w hT,e,Result.andThen_ok,sP,h1,hd,cI]
theorem atD{ET:TypeId→Option Ty}(hET: ∀T t,ET T=some t→gF E.P T t){o:Oper}{T:TypeId}{t:Ty}{x y:Operand}(ho:o.op= .index T x y)(hT:gF E.P T t)(h:aP S ι st a w){K:AV→Prop}(hk:wv ET t (aC st.tm x) (aC st.tm y) K){next:Act→World→Prop}{Q:Exit→Act→World→Prop}
  (bQ: ∀av v,K av→VR S ι st.hp w av v→next (a.put o.dst v) w):o.wp E.P a w next Q:=by
 have hx:=h.eval x;have hy:=h.eval y;have hd:=hT.d
 cases ed:t.d<;>simp only[wv,ed]at hk<;>try exact hk.elim
 rename_i n e aO;rw[ed]at hd;obtain⟨hu,i,eF,gR⟩:=hd
 cases ey:aC st.tm y<;>rw[ey]at hk hy<;>simp only at hk<;>try exact hk.elim
 rename_i k z;have Ig:a.eval y= .int k z:=by
  have:aR w (FZ S ι st.hp w) (.int k z) (a.eval y):=hy;generalize a.eval y=v at this;cases this;rfl
 cases ex:aC st.tm x<;>rw[ex]at hk hx<;>simp only at hk<;>try exact hk.elim
 rename_i cs
 cases eu:ET e<;>rw[eu]at hk<;>simp only[aD,aCN,aDd]at hk<;>try exact hk.elim
 rename_i u;obtain⟨⟨⟨⟨h0,h1⟩,h2⟩,h3⟩,hK⟩:=hk;have hU:=hET e u eu;obtain⟨vs,hv,hr⟩:=(show VR S ι st.hp w (.agg cs) _ from hx);have hl:=hr.length;have hp:=aAp (w:=w) hU vs (z.toNat*u.size) (by rw[h2];omega);have b_:(execOp a.eval o).run E.P w= .ok (.value (sP u.d.isAgg ((vs.drop (z.toNat*u.size)).take u.size))) w:=by
  simp [execOp,ho,hv,Ig,Instr.index,aCU hu,asIntOf,h0,h1,run_sizeOf w hU,hp]
 refine de b_ (bQ _ _ hK ?_);rw[h2];refine aaH ((hr.abE _).take _) fun hb=> ?_;have:=hU.one hb;rw[aDq,aEc];omega
theorem apa{o:Oper}{x:Operand}{i:Nat}(ho:o.op= .extract x i)(h:aP S ι st a w){K:AV→Prop}(hk:Bb i (aC st.tm x) K){next:Act→World→Prop}{Q:Exit→Act→World→Prop}
  (bQ: ∀av v,K av→VR S ι st.hp w av v→next (a.put o.dst v) w):o.wp E.P a w next Q:=by
 have hx:=h.eval x
 cases ex:aC st.tm x<;>rw[ex]at hk hx<;>simp only[Bb]at hk<;>try exact hk.elim
 rename_i vs;simp only[aD,aDd]at hk;obtain⟨hi,hK⟩:=hk;obtain⟨us,hu,hr⟩:=(show∃us:List Value,a.eval x= .tuple us.toArray∧aT (gm ι st.hp w (FZ S ι st.hp w)) vs us from hx);obtain⟨v,hv,hrv⟩:=hr.get i vs[i] (aCP hi);refine de (v:=v) (w':=w) ?_ (bQ (vs.getD i .undef) v hK ?_)
 ·simp [execOp,ho,hu,Instr.extract,hv]
 ·simp only[List.getD,aCP hi,aDk];exact dZ.Ai hrv
def lT(S:dF)(w:World)(x:Nat):Prop:=S.F0 x∨(S.w0.heap.size≤x∧x<w.heap.size)
theorem Qt{H:Heap}{x:Nat}(h:FZ S ι H w x):lT S w x:=h.1.imp id fun h1=>⟨h1,h.2.1⟩
theorem aca(h:aP S ι st a w){x:AV}{v:Value}(hx:CR S ι st.hp w x v){K:AV→Prop}(hk:ji st.hp x K): ∃y,K y∧aR w (lT S w) y v:=by
 have Zn:cT (oN x) (K x)→ ∃y,K y∧aR w (lT S w) y v:=fun hc=>(fun⟨h1,h2⟩=>⟨x,h2,(bV.qQ hx h1).mono (fun _=>Qt) fun _ _ _=>rfl⟩) (aD.1 hc)
 cases x
 case own b k=>
  obtain⟨_,ro,sz,n,f,h1,h2,h3⟩:=hx;simp only[ji,h1]at hk;obtain⟨rfl,hK⟩:=hk;refine⟨_,hK,?_⟩;rcases h3 rfl with⟨q,c,C,T',hq,hv,gL,hC,eZ⟩|⟨rfl,_,hv⟩
  ·have hl:=h.hp b 0;rw[h1]at hl;obtain⟨_,hd|⟨dK,hl|⟨q',C',T2,dn,iD,eB⟩⟩⟩:=hl
   ·rw[hq]at hd;cases hd.2.2
   ·rw[hq]at hl;cases hl.2
   ·rw[hq]at dn;cases dn;rw[hC]at iD;cases iD;have hf:=h.fresh b q hq;rw[hv];have hex: ∀i j,i<k→j<sz→ ∃av u,(f i)[j]? =some av∧C[i*sz+j]? =some u∧aR w (lT S w) av u:=fun i j hi hj=>by
     obtain⟨av,u,g1,g2,g3⟩:=eB i j hi hj;exact⟨av,u,g1,g2,g3.mono (fun _=>Qt) fun _ _ _=>rfl⟩
    refine .arr sz k f q 0 c (fun i j=>((f i)[j]?).getD .undef) (fun i j=>(C[i*sz+j]?).getD undef) gL dK (fun _=>(h.own hq).imp id fun g=>⟨g,hf.2⟩) (fun i j hi hj=> ?_) (fun i j hi hj=> ?_) (fun i j hi hj=> ?_)
    ·obtain⟨av,u,g1,g2,g3⟩:=hex i j hi hj;rw[g1];rfl
    ·obtain⟨av,u,g1,g2,g3⟩:=hex i j hi hj;rw[aDN w q _ C T' (0,0) hC,aCO,g2];rfl
    ·obtain⟨av,u,g1,g2,g3⟩:=hex i j hi hj;simp only[g1,g2,aDk];exact g3
  ·rw[hv];exact .nil sz f
 case lit b=>
  have cQ:aR w (FZ S ι st.hp w) (.lit b) v:=hx
  cases cQ
  exact⟨_,hk,.bool b⟩
 all_goals exact Zn hk
theorem aci(h:aP S ι st a w): ∀(cs:List AV) (vs:List Value) (K:List AV→Prop),aT (CR S ι st.hp w) cs vs→mr st.hp cs K→ ∃ys,K ys∧aT (aR w (lT S w)) ys vs
 |[],[],K,_,hk=>⟨[],hk,trivial⟩
 |[],_::_,_,hr,_=>hr.elim
 |_::_,[],_,hr,_=>hr.elim
 |c::cs,v::vs,K,hr,hk=>by
  obtain⟨y,hk,h1⟩:=aca h hr.1 hk;obtain⟨ys,hk,h2⟩:=aci h cs vs _ hr.2 hk;exact⟨y::ys,hk,h1,h2⟩
theorem SR(h:aP S ι st a w){x:AV}{v:Value}(hx:VR S ι st.hp w x v){K:AV→Prop}(hk:lx st.hp x K): ∃y,K y∧fD w (lT S w) y v:=by
 have lift: ∀y,aR w (lT S w) y v→fD w (lT S w) y v:=fun y hy=>by cases hy<;>first|exact .int _ _|exact .bool _|exact .str _ (by assumption)|exact .aE|exact .nil _ _|exact .mt _ _ _ _|(constructor<;>assumption)
 cases x
 case agg cs=>
  obtain⟨vs,rfl,hr⟩:=hx;obtain⟨ys,h1,h2⟩:=aci h cs vs _ hr hk;exact⟨.agg ys,h1,vs,rfl,h2⟩
 case undef=>exact hk.elim
 case gone=>exact hk.elim
 case cU=>exact hk.elim
 case ah=>exact hk.elim
 all_goals
  simp only[VR,dZ,gm]at hx;obtain⟨y,h1,h2⟩:=aca h hx hk;exact⟨y,h1,lift y h2⟩
theorem acf(h:aP S ι st a w): ∀(xs:List AV) (vs:List Value) (K:List AV→Prop),aT (VR S ι st.hp w) xs vs→mW st.hp xs K→ ∃ys,K ys∧aT (fD w (lT S w)) ys vs
 |[],[],K,_,hk=>⟨[],hk,trivial⟩
 |[],_::_,_,hr,_=>hr.elim
 |_::_,[],_,hr,_=>hr.elim
 |c::cs,v::vs,K,hr,hk=>by
  obtain⟨y,hk,h1⟩:=SR h hr.1 hk;obtain⟨ys,hk,h2⟩:=acf h cs vs _ hr.2 hk;exact⟨y::ys,hk,h1,h2⟩
theorem ab_{H:Heap}{x:AV}{K:AV→Prop}(hf:oN x=true)(hk:ji H x K):K x:=by
 cases x<;>first|(cases hf;done)|(simp only[ji,aD]at hk;exact hk.2)
theorem ach{H:Heap} : ∀{cs:List AV} {K:List AV→Prop},cs.all oN=true→mr H cs K→K cs
 |[],_,_,hk=>hk
 |c::cs,K,hf,hk=>by
  simp only[aD0,aCN]at hf;exact ach (K:=fun ys=>K (c::ys)) hf.2 (ab_ hf.1 hk)
theorem apD{H:Heap}{x:AV}{K:AV→Prop}(hf:Bj x=true)(hk:lx H x K):K x:=by
 cases x
 case agg cs=>exact ach (K:=fun ys=>K (.agg ys)) hf hk
 all_goals exact ab_ (H:=H) hf hk
theorem ace{H:Heap} : ∀{cs:List AV} {K:List AV→Prop},cs.all Bj=true→mW H cs K→K cs
 |[],_,_,hk=>hk
 |c::cs,K,hf,hk=>by
  simp only[aD0,aCN]at hf;exact ace (K:=fun ys=>K (c::ys)) hf.2 (apD hf.1 hk)
theorem ajB{F F':Nat→Prop}{w':World}{x:AV}{v:Value}(hs:YX x=true)(h:aR w F x v):aR w' F' x v:=by
 cases h<;>first|(cases hs;done)|(constructor;done)|(constructor;assumption)
theorem ajy{F F':Nat→Prop}{w':World}{x:AV}{v:Value}(hs:YY x=true)(h:fD w F x v):fD w' F' x v:=by
 cases x
 case agg cs=>
  obtain⟨vs,rfl,hr⟩:=h;refine⟨vs,rfl,aT.mk hr.length fun i p q hp hq=> ?_⟩;obtain⟨q',dn,wo⟩:=hr.get i p hp;rw[hq]at dn;cases dn;exact ajB (aCR.1 hs p (aCV hp)) wo
 case undef=>exact h.elim
 all_goals
  simp only[fD]at h ⊢;exact ajB hs h
theorem ajA{F F':Nat→Prop}{w':World}{x:AV}{v:Value}(hs:D4 x=true)(h:kH w F x v):kH w' F' x v:=by
 cases x
 case cU cs=>
  obtain⟨vs,rfl,hr⟩:=h;refine⟨vs,rfl,aT.mk hr.length fun i p q hp hq=> ?_⟩;obtain⟨q',dn,wo⟩:=hr.get i p hp;rw[hq]at dn;cases dn;exact ajy (aCR.1 hs p (aCV hp)) wo
 all_goals
  simp only[kH]at h ⊢;exact ajy hs h
end
section
variable {E:Env} {S:dF} {ι:Nat→Option Nat} {st:St} {a:Act} {w:World}
theorem VR.int{H:Heap}{k:IntKind}{n:Int}{v:Value}(h:VR S ι H w (.int k n) v):v= .int k n:=by
 have:aR w (FZ S ι H w) (.int k n) v:=h
 cases this;rfl
theorem VR.bool{H:Heap}{b:Bool}{v:Value}(h:VR S ι H w (.bool b) v):v= .bool b:=by
 have:aR w (FZ S ι H w) (.bool b) v:=h
 cases this;rfl
theorem VR.str{H:Heap}{s:ByteArray}{v:Value}(h:VR S ι H w (.str s) v):v= .string s:=by
 have:aR w (FZ S ι H w) (.str s) v:=h
 cases this;rfl
theorem VR.mkInt{H:Heap}(k:IntKind)(n:Int):VR S ι H w (.int k n) (.int k n):=aR.int k n
theorem VR.Ab{H:Heap}(b:Bool):VR S ι H w (.bool b) (.bool b):=aR.bool b
theorem VR.mkStr{H:Heap}(s:ByteArray)(hb:s.size≤dg):VR S ι H w (.str s) (.string s):=aR.str s hb
theorem VR.Zf{H:Heap}{s:ByteArray}{v:Value}(h:VR S ι H w (.str s) v):s.size≤dg:=by
 have:aR w (FZ S ι H w) (.str s) v:=h
 cases this;assumption
theorem VR.lit{H:Heap}{b:Bool}{v:Value}(h:VR S ι H w (.lit b) v):v= .bool b:=by
 have:aR w (FZ S ι H w) (.lit b) v:=h
 cases this;rfl
theorem VR.mkLit{H:Heap}(b:Bool):VR S ι H w (.lit b) (.bool b):=aR.lit b
theorem aiW{o:Oper}{c x y:Operand}{b:Bool}(ho:o.op= .pick c x y)(Da:a.eval c= .bool b)(h:aP S ι st a w){K:AV→Prop}(hk:I4 b (aC st.tm x) (aC st.tm y) K){next:Act→World→Prop}{Q:Exit→Act→World→Prop}
  (bQ: ∀av v,K av→VR S ι st.hp w av v→next (a.put o.dst v) w):o.wp E.P a w next Q:=by
 refine de (v:=if b then a.eval x else a.eval y) (w':=w) (by simp [execOp,ho,Da,asBool]) ?_
 cases b
 ·exact bQ _ _ hk (h.eval y)
 ·exact bQ _ _ hk (h.eval x)
theorem atQ{op:BinOp}{k:IntKind}{p q:Int}{T:TypeId}{x y:Operand}{K:AV→Prop}(hk:wz op k p q K)(H:Heap): ∃av v,K av∧VR S ι H w av v∧
  (do eqGuard op T x y (.int k p) (.int k q);binOp op T (.int k p) (.int k q):Sem Value).run E.P w= .ok v w:=by
 cases op<;>simp only[wz]at hk<;>try exact hk.elim
 all_goals first
  |exact⟨_,_,hk,VR.mkInt _ _,by simp [go_sem,Op.intArith]⟩
  |exact⟨_,_,hk,VR.Ab _,by simp [go_sem]⟩
  |exact⟨_,_,hk.2,VR.mkInt _ _,by simp [go_sem,Op.intDiv,hk.1]⟩
theorem JG{zero:List AV} : ∀{cs:List AV} {vs:List Value} {H:Heap} {F:Nat→Prop},ik zero cs=true→aT (bV ι H w F) cs vs→aT wX cs vs:=by
 intro cs vs H F hz h
 induction cs generalizing zero vs with
 |nil=>cases vs;exact trivial;exact h.elim
 |cons c cs ih=>
  cases vs with
  |nil=>exact h.elim
  |cons v vs=>
   cases zero with
   |nil=>cases hz
   |cons z zero=>
    simp only[ik,aCN]at hz;refine⟨?_,ih hz.2 h.2⟩;have h1:=h.1
    cases z<;>cases c<;>simp [SE]at hz<;>(have h2:aR w F _ v:=h1;cases h2;rfl)
theorem abP{P:Program}{T:TypeId}(hd:P.underlying T=some .bool)(d:Nat)(p q:Bool):(Op.equalIn (d+1) T (.bool p) (.bool q)).run P w= .ok (p==q) w:=by
 simp [Op.equalIn,aCU hd]
theorem run_eql_bool{P:Program}{T:TypeId}(hd:P.underlying T=some .bool)(x y:Operand)(p q:Bool):
  (do eqGuard .eql T x y (.bool p) (.bool q);binOp .eql T (.bool p) (.bool q):Sem Value).run P w= .ok (.bool (p==q)) w:=by
 have h:binOp .eql T (.bool p) (.bool q)=(do pure (.bool (←Op.equal T (.bool p) (.bool q)))):=rfl;rw[h];simp [go_sem,Op.equal,Op.maxDepth,abP hd 9999 p q]
theorem run_neq_bool{P:Program}{T:TypeId}(hd:P.underlying T=some .bool)(x y:Operand)(p q:Bool):
  (do eqGuard .neq T x y (.bool p) (.bool q);binOp .neq T (.bool p) (.bool q):Sem Value).run P w= .ok (.bool (!(p==q))) w:=by
 have h:binOp .neq T (.bool p) (.bool q)=(do pure (.bool (!(←Op.equal T (.bool p) (.bool q))))):=rfl;rw[h];simp [go_sem,Op.equal,Op.maxDepth,abP hd 9999 p q]
theorem anL{o:Oper}{op:BinOp}{T T':TypeId}{t:Ty}{x y:Operand}(ho:o.op= .binOp op T x y T')(hT:gF E.P T t)(h:aP S ι st a w){K:AV→Prop}(hk:pB t op (eR (aC st.tm x)) (eR (aC st.tm y)) K){next:Act→World→Prop}{Q:Exit→Act→World→Prop}
  (bQ: ∀av v,K av→VR S ι st.hp w av v→next (a.put o.dst v) w):o.wp E.P a w next Q:=by
 have hx:VR S ι st.hp w (eR (aC st.tm x)) (a.eval x):=DO (h.eval x);have hy:VR S ι st.hp w (eR (aC st.tm y)) (a.eval y):=DO (h.eval y);have fin: ∀av v,K av→VR S ι st.hp w av v→(do eqGuard op T x y (a.eval x) (a.eval y);binOp op T (a.eval x) (a.eval y):Sem Value).run E.P w= .ok v w→o.wp E.P a w next Q:=fun av v hK hv hr=>by
  refine de (v:=v) (w':=w) ?_ (bQ av v hK hv);have:(execOp a.eval o).run E.P w=((do eqGuard op T x y (a.eval x) (a.eval y);binOp op T (a.eval x) (a.eval y):Sem Value).run E.P w).andThen fun v w=> .ok (.value v) w:=by
   simp only[execOp,ho];rw[Sem.run_bind];rfl
  rw[this,hr];rfl
 cases ex:eR (aC st.tm x)<;>cases ey:eR (aC st.tm y)<;>rw[ex,ey]at hk<;>rw[ex]at hx<;>rw[ey]at hy<;>simp only[pB]at hk<;>try exact hk.elim
 ·rw[hx.int,hy.int]at fin
  cases es:NY op with
  |true=>
   rw[es]at hk;obtain⟨⟨wc,MZ⟩,hk⟩:=hk
   cases op<;>first|(cases es;done)|skip
   ·exact fin _ _ hk (VR.mkInt _ _) (by simp [go_sem,shift_shl _ _ _ _ wc MZ])
   ·exact fin _ _ hk (VR.mkInt _ _) (by simp [go_sem,shift_shr _ _ _ _ wc MZ])
  |false=>
  rw[es]at hk;simp only[aD,aDd]at hk;obtain⟨rfl,hk⟩:=hk;obtain⟨av,v,h1,h2,h3⟩:=atQ (E:=E) (S:=S) (ι:=ι) (w:=w) (T:=T) (x:=x) (y:=y) hk st.hp;exact fin av v h1 h2 h3
 ·rw[hx.bool,hy.bool]at fin;have hd:=hT.d
  cases ed:t.d<;>rw[ed]at hk hd<;>simp only at hk<;>try exact hk.elim
  cases op<;>simp only at hk<;>try exact hk.elim
  ·exact fin _ _ hk (VR.Ab _) (run_eql_bool hd _ _ _ _)
  ·exact fin _ _ hk (VR.Ab _) (run_neq_bool hd _ _ _ _)
 ·rw[hx.str,hy.str]at fin
  cases op<;>simp only at hk<;>try exact hk.elim
  all_goals first
   |exact fin _ _ hk (VR.Ab _) (by simp [go_sem])
   |exact fin _ _ hk.2 (VR.mkStr _ (by rw[ByteArray.size_append];exact hk.1)) (by have:=hk.1;have hB:dg=549755813888:=rfl;simp [go_sem,Op.stringOp];omega)
 ·simp only[aD,aCN]at hk;obtain⟨⟨⟨asX,nu⟩,rT⟩,hk⟩:=hk;have sem:=hT.cmp asX;obtain⟨vs,hv,hr⟩:=(show∃vs:List Value,a.eval x= .agg vs.toArray∧aT (CR S ι st.hp w) _ vs from hx);obtain⟨us,hu,hq⟩:=(show∃us:List Value,a.eval y= .agg us.toArray∧aT (CR S ι st.hp w) _ us from hy);rw[hv,hu]at fin
  cases op<;>simp only at hk<;>try exact hk.elim
  ·exact fin _ _ hk (VR.Ab _) (sem .eql x y _ _ vs us w (.inl rfl) nu rT (JG nu hr) (JG rT hq))
  ·exact fin _ _ hk (VR.Ab _) (sem .neq x y _ _ vs us w (.inr rfl) nu rT (JG nu hr) (JG rT hq))
theorem aBf{o:Oper}{op:UnOp}{T:TypeId}{x:Operand}(ho:o.op= .unOp op T x)(h:aP S ι st a w){K:AV→Prop}(hk:Ay op (aC st.tm x) K){next:Act→World→Prop}{Q:Exit→Act→World→Prop}
  (bQ: ∀av v,K av→VR S ι st.hp w av v→next (a.put o.dst v) w):o.wp E.P a w next Q:=by
 have hx:=h.eval x
 cases op<;>cases ex:aC st.tm x<;>rw[ex]at hk hx<;>simp only[Ay]at hk<;>try exact hk.elim
 all_goals first
  |exact de (v:= .bool _) (by simp only[execOp,ho,hx.bool,Op.unary];rfl) (bQ _ _ hk (VR.Ab _))
  |exact de (v:= .bool _) (by simp only[execOp,ho,hx.lit,Op.unary];rfl) (bQ _ _ hk (VR.mkLit _))
  |exact de (v:= .int _ _) (by simp only[execOp,ho,hx.int,Op.unary,Op.intArith];rfl) (bQ _ _ hk (VR.mkInt _ _))
theorem axj{o:Oper}{c:Go.Call}{x:Operand}{T:TypeId}{t:Ty}(ho:o.op= .call c)(hc:c.callee= .builtin .len)(eK:c.args= #[x])(HZ:c.argTypes= #[T])(hT:gF E.P T t)(h:aP S ι st a w)
  (hd:(match t.d with| .slice .. =>true| .string=>true|_=>false)=true) {K:AV→Prop} (hk:qi st.hp (aC st.tm x) K) (zD:(match t.d,aC st.tm x with| .string,.str _=>true| .slice ..,.str _=>false| .string,_=>false|_,_=>true)=true) {next:Act→World→Prop} {Q:Exit→Act→World→Prop}
  (bQ: ∀av v,K av→VR S ι st.hp w av v→next (a.put o.dst v) w):o.wp E.P a w next Q:=by
 have hx:=h.eval x;have tY:=hT.d;have b_: ∀v,(Builtin.len_ #[T] o.type #[a.eval x]).run E.P w= .ok v w→(execOp a.eval o).run E.P w= .ok (.value v) w:=fun v hv=>by
  simp [execOp,ho,resolve,hc,eK,HZ,invoke,builtin,hv]
 cases ed:t.d<;>rw[ed]at hd tY zD<;>simp only at hd<;>try (cases hd;done)
 ·cases ex:aC st.tm x<;>rw[ex]at hk hx zD<;>simp only[qi]at hk<;>simp only at zD<;>first|(cases zD;done)|skip
  exact de (b_ _ (by simp [Builtin.len_,aCU tY,hx.str];rfl)) (bQ _ _ hk (VR.mkInt _ _))
 ·obtain⟨hu,_⟩:=tY
  cases ex:aC st.tm x<;>rw[ex]at hk hx zD<;>simp only[qi]at hk<;>simp only at zD<;>first|(cases zD;done)|(exact hk.elim)|skip
  ·have cQ:aR w (FZ S ι st.hp w) .aE (a.eval x):=hx;generalize hv:a.eval x=v at cQ
   cases cQ
   exact de (b_ _ (by simp [Builtin.len_,aCU hu,hv];rfl)) (bQ _ _ hk (VR.mkInt _ _))
  ·rename_i sz n f;have cQ:aR w (FZ S ι st.hp w) (.arr sz n f) (a.eval x):=hx;generalize hv:a.eval x=v at cQ
   cases cQ with
   |nil=>exact de (b_ _ (by simp [Builtin.len_,aCU hu,hv];rfl)) (bQ _ _ hk (VR.mkInt _ _))
   |mt=>exact de (b_ _ (by simp [Builtin.len_,aCU hu,hv];rfl)) (bQ _ _ hk (VR.mkInt _ _))
   |arr=>exact de (b_ _ (by simp [Builtin.len_,aCU hu,hv];rfl)) (bQ _ _ hk (VR.mkInt _ _))
  ·rename_i b k;obtain⟨_,ro,sz,n,f,h1,h2,h3⟩:=(show CR S ι st.hp w (.own b k) _ from hx);rw[h1]at hk;simp only at hk;obtain⟨rfl,hK⟩:=hk;rcases h3 rfl with⟨q,c',C,T',hq,hv,gL,hC,eZ⟩|⟨rfl,_,hv⟩
   ·exact de (b_ _ (by simp [Builtin.len_,aCU hu,hv];rfl)) (bQ _ _ hK (VR.mkInt _ _))
   ·exact de (b_ _ (by simp [Builtin.len_,aCU hu,hv];rfl)) (bQ _ _ hK (VR.mkInt _ _))
end
section
variable {E:Env} {S:dF} {ι:Nat→Option Nat} {st:St} {a:Act} {w:World}
theorem ajF{R:AV→Value→Prop} : ∀(cs:List AV) (vs:List Value) (xs:List AV) (us:Array Value) (off j:Nat),aT R cs vs→aT R xs us.toList→off+j+cs.length≤xs.length→
  aT R (r_ xs cs (off+j)) ((vs.zipIdx j).foldl (fun cs (c,j)=>cs.setIfInBounds (off+j) c) us).toList
 |[],[],xs,us,off,j,_,h,_=>h
 |[],_::_,_,_,_,_,h,_,_=>h.elim
 |_::_,[],_,_,_,_,h,_,_=>h.elim
 |c::cs,v::vs,xs,us,off,j,h,k,hl=>by
  simp only[r_,List.zipIdx_cons,aEe];have:=ajF cs vs (xs.set (off+j) c) (us.setIfInBounds (off+j) v) off (j+1) h.2 (by
   refine aT.mk (by simp [k.length]) fun i x y hx hy=> ?_;simp only[Array.toList_setIfInBounds]at hy
   by_cases hi:i=off+j
   ·subst hi;rw[aDK]at hx hy;simp only[aDg]at hx hy
    split at hx<;>split at hy<;>first|(cases hx;cases hy;exact h.1)|(cases hx;done)|(cases hy;done)
   ·rw[aD6 (by omega)]at hx hy;obtain⟨y',h1,h2⟩:=k.get i x hx;rw[hy]at h1;cases h1;exact h2) (by simp at hl ⊢;omega)
  rwa [show off+(j+1)=off+j+1 by omega]at this
theorem aa6{dC:List (Nat×Nat)}(h:aP S ι st a w): ∀(ps:List (Nat×Operand)) (cs:List AV) (us:Array Value) (K:List AV→Prop),aT (CR S ι st.hp w) cs us.toList→nJ dC st.tm ps cs K→
  ∃kM uX,K kM∧aT (CR S ι st.hp w) kM uX.toList∧Instr.fill (dC[·]?) us (ps.map fun(i,x)=>(i,a.eval x))=some uX
 |[],cs,us,K,hr,hk=>⟨cs,us,hk,hr,rfl⟩
 |(i,x)::ps,cs,us,K,hr,hk=>by
  simp only[nJ]at hk
  cases eo:dC[i]? with
  |none=>rw[eo]at hk;exact hk.elim
  |some q=>
   obtain⟨off,sz⟩:=q;rw[eo]at hk;simp only[aD,aCN,aDd]at hk;obtain⟨⟨⟨h1,h2⟩,h3⟩,hk⟩:=hk;have hc:=(h.eval x).cells h1;have dw:(a.eval x).cells.size=sz:=by rw[←h2,hc.length];simp
   have hus:us.size=cs.length:=by rw[hr.length];simp
   have agL:=ajF (cellsOf (aC st.tm x)) (a.eval x).cells.toList cs us off 0 hc hr (by omega);rw[aDl]at agL;obtain⟨kM,uX,g1,g2,g3⟩:=aa6 h ps _ _ K agL hk;refine⟨kM,uX,g1,g2,?_⟩;simp only[aEh,Instr.fill,eo];rw[aCM (by simp;omega),←g3]
   congr 1
   rw[←Array.foldl_toList];simp
theorem anV{o:Oper}{T:TypeId}{t:Ty}{ps:Array (Nat×Operand)}{dC:List (Nat×Nat)}(ho:o.op= .build T ps)(hT:gF E.P T t)(ht:t.d= .struct dC)(h:aP S ι st a w){K:AV→Prop}
  (hk:nJ dC st.tm ps.toList t.zero fun cs=>K (.agg cs)) {next:Act→World→Prop} {Q:Exit→Act→World→Prop}
  (bQ: ∀av v,K av→VR S ι st.hp w av v→next (a.put o.dst v) w):o.wp E.P a w next Q:=by
 have hd:=hT.d;rw[ht]at hd;obtain⟨fs,hu,hm,_⟩:=hd;obtain⟨i,z,hi,_,hz,jW,rT⟩:=hT.info;obtain⟨kM,uX,h1,h2,h3⟩:=aa6 h ps.toList t.zero z.cells (fun cs=>K (.agg cs)) (rT.imp fun _ _=>lW.rel) hk;refine de (v:= .agg uX) (w':=w) ?_ (bQ _ _ h1 ⟨uX.toList,by simp,h2⟩);have hb:E.P.built T (ps.map fun(i,x)=>(i,a.eval x)).toList=some uX:=by
  simp only[Program.built,hi,hu,hz,hm];rw[←h3];simp
 simp only[execOp,ho];rw[Sem.run_bind,run_build w T _ uX hb];rfl
end
end Go.Vc
