/- Part of a proof: the executor and its soundness. -/
import Derived.Tactics
import Derived.Orders
import Derived.Below
import Derived.Laws.Cells
import Derived.Laws.World
import Derived.Laws.Rows
import Derived.KernelRfl
import Derived.WalkLawsBesides
import Derived.Laws.Tables
open Go.IntKind (i64 u64 u8)
open Int (toNat)
set_option maxRecDepth 100000
set_option maxHeartbeats 4000000
set_option linter.all false
noncomputable section
namespace Go
theorem aq{p:Prop}[a:Decidable p]:decide p=true→p:=of_decide_eq_true
theorem dQ{p:Prop}[a:Decidable p]:decide p=false→¬p:=of_decide_eq_false
theorem bT{p:Prop}[a:Decidable p]:p→decide p=true:=decide_eq_true
theorem bI{p:Prop}[a:Decidable p]:¬p→decide p=false:=decide_eq_false
theorem bE{α:Type _}[BEq α][LawfulBEq α]{a b:α}:(a != b)=false→a=b:=bne_eq_false_iff_eq.1
theorem cU{α:Type _}[BEq α][ReflBEq α]{a b:α}:(a==b)=false→a≠b:=ne_of_beq_false
theorem eH(n:Nat):¬n<0:=Nat.not_lt_zero n
abbrev z:Type:=ByteArray
def bY:=@Bool.and_eq_true
def aQ:=@cond_false
def cT:=@List.getElem?_eq_getElem
def aN:=@cond_true
def bx:=@Nat.le_refl
def dX:=@Nat.eq_of_beq_eq_true
def dw:=@List.all_eq_true
def e0:=@List.getElem?_eq_none
def cN:=@Nat.zero_add
def e4:=@List.mem_of_getElem?
def bF:=@if_pos
def bH:=@if_neg
def gW:=@Nat.le_of_ble_eq_true
def cA:=@Nat.zero_le
def hc:=@Nat.mul_le_mul_right
def fT:=@Int.toNat_natCast
def gG:=@Nat.lt_of_lt_of_le
def e3:=@run_underlying
def iW:=@List.getElem?_eq_some_iff
def dp:=@Int.le_refl
def hd:=@Option.some.injEq
def fq:=@List.getElem?_map
def fg:=@Nat.le_trans
def fh:=@Nat.lt_or_ge
def iF:=@List.length_append
def hq:=@List.mem_append
def fr:=@List.length_cons
def iX:=@Bool.not_eq_true'
def jP:=@decide_eq_true_eq
def kj:=@List.append_assoc
def hr:=@Nat.add_mul
def jQ:=@Option.map_eq_some_iff
def pF:=@Array.getElem?_append_left
def pG:=@Array.getElem?_eq_getElem
def hf:=@List.mem_cons
def q9:=@Array.getElem?_eq_some_iff
def lx:=@List.mem_flatMap
def hs:=@List.length_nil
def l9:=@List.flatMap_cons
def iY:=@Nat.succ_mul
def ly:=@Option.getD_some
def lz:=@List.append_nil
def s7:=@List.getElem?_append_left
def fU:=@Nat.blt_eq
def q_:=@List.take_append_drop
def mO:=@List.cons.injEq
def ht:=@List.getElem?_drop
def nJ:=@List.length_take
def ik:=@beq_eq_false_iff_ne
def s8:=@List.getElem?_toArray
def pH:=@List.size_toArray
def lA:=@Nat.add_zero
def pI:=@List.getElem?_of_mem
def yE:=@List.getElem?_take_of_lt
def ra:=@Nat.le_add_right
def nK:=@Nat.beq_refl
def BG:=@List.getElem?_append_right
def Gi:=@Array.getElem?_setIfInBounds_ne
def s9:=@List.getElem?_set
def rb:=@Option.map_some
def re:=@List.nil_append
def rf:=@heap_alloc_new
def vd:=@Array.size_append
def ve:=@Nat.le_succ_of_le
def Gj:=@Array.getD_eq_getD_getElem?
def pJ:=@List.mem_map
def rh:=@Nat.add_assoc
def nL:=@Nat.eq_zero_or_pos
def BH:=@List.singleton_append
def Gk:=@List.drop_eq_getElem_cons
def BI:=@List.getElem?_set_ne
def oG:=@Array.ext'
def BJ:=@Bool.or_eq_false_iff
def kT:=@if_true
def yF:=@List.flatten_cons
def s_:=@Prod.mk.injEq
def Gl:=@List.length_eq_zero_iff
def Gm:=@Int.eq_ofNat_of_zero_le
def BK:=@List.getElem?_range
def BL:=@List.flatMap_append
def mP:=@if_false
def vf:=@List.getElem_mem
def vg:=@List.mem_range
def vh:=@List.drop_drop
def ta:=@Nat.mul_comm
def eG:=@Option.some.inj
def Gn:=@List.getD_eq_getElem?_getD
def yG:=@List.ext_getElem?
def Gp:=@List.mem_of_mem_drop
def ri:=@beq_iff_eq
def tb:=@cell_of_row
def BM:=@beq_self_eq_true
def oH:=@List.not_mem_nil
def rj:=@List.length_drop
def BN:=@List.cons_append
def Gq:=@run_firstCells_some
def Gs:=@List.map_congr_left
def yH:=@List.all_cons
def Gt:=@List.filter_append
def rk:=@Array.getElem?_eq_none
def vb:=@decide_true
def vc:=@grownCap_ge
def Mn:=@Nat.ne_of_beq_eq_false
def Vy:=@List.eq_nil_of_length_eq_zero
def yC:=@decide_false
def Mo:=@Array.getElem?_toList
def yD:=@Int.lt_irrefl
def pE:=@wp_mono
def Mp:=@Int.toNat_of_nonneg
def Ge:=@List.foldl_cons
def Gf:=@List.mem_filter
def Gg:=@Bool.or_eq_true
def Vz:=@List.getElem?_zip_eq_some
def Mq:=@run_loadCells_list
def lv:=@List.getElem?_take
def BE:=@wpList_plain
def VA:=@List.getElem?_replicate
def BF:=@Nat.sub_mul
def Gh:=@List.map_cons
def Mr:=@Nat.div_eq_of_lt
def Ms:=@Nat.mod_eq_of_lt
end Go
namespace Go.ah
open Go Go.RowKit
inductive J where
 |undef
 |int (k:IntKind) (n:Int)
 |bool (b:Bool)
 |lit (b:Bool)
 |gone
 |str (s:ByteArray)
 |aE
 |arr (M n:Nat) (f:Nat→List J)
 |own (b n:Nat)
 |ae (ro:Bool) (M n:Nat) (f:Nat→List J)
 |ptr (b o:Nat)
 |fl (b n i o:Nat)
 |ref (cs:List J)
 |fn (f:FuncId) (jf:List J)
 |agg (cs:List J)
 |c9 (cv:List J)
 |jq
 |jV (M n:Nat) (f:Nat→List J)
instance:Inhabited J:=⟨.undef⟩
abbrev _root_.Go.b(n:Int):J:= .int .i64 n
def uy:List (Nat×List J):=[(0,[.int .i64 22,.str ⟨#[]⟩,.str ⟨#[]⟩,.str ⟨#[]⟩,.int .i64 0])]
def pa(g:Nat):List (Nat×List J)→J
 |[]=> .undef
 |x::l=>match Nat.beq g x.1 with
  |true=> .ref x.2
  |false=>pa g l
abbrev dm:Nat:=549755813888
def one:Value→Bool
 | .agg _=>false
 | .tuple _=>false
 |_=>true
def aY{α β:Type}(R:α→β→Prop):List α→List β→Prop
 |[],[]=>True
 |a::aa,b::c=>R a b∧aY R aa c
 |_,_=>False
theorem aY.length{α β:Type}{R:α→β→Prop} : ∀{aa:List α} {a:List β},aY R aa a→aa.length=a.length
 |[],[],_=>rfl
 |_::_,_::_,h=>by simp [aY.length h.2]
 |[],_::_,h=>h.elim
 |_::_,[],h=>h.elim
theorem aY.imp{α β:Type}{R c:α→β→Prop}(e: ∀a b,R a b→c a b): ∀{aa:List α} {d:List β},aY R aa d→aY c aa d
 |[],[],_=>trivial
 |_::_,_::_,h=>⟨e _ _ h.1,aY.imp e h.2⟩
 |[],_::_,h=>h.elim
 |_::_,[],h=>h.elim
theorem aY.get{α β:Type}{R:α→β→Prop} : ∀{aa:List α} {c:List β},aY R aa c→ ∀(i:Nat) (a:α),aa[i]? =some a→ ∃b,c[i]? =some b∧R a b
 |[],[],_,i,a,h=>by simp at h
 |x::aa,y::c,h,0,a,d=>by simp at d;subst d;exact⟨y,by simp,h.1⟩
 |x::aa,y::c,h,i+1,a,d=>by simpa using aY.get h.2 i a (by simpa using d)
 |[],_::_,h,_,_,_=>h.elim
 |_::_,[],h,_,_,_=>h.elim
theorem aY.mk{α β:Type}{R:α→β→Prop} : ∀{aa:List α} {d:List β},aa.length=d.length→(∀(i:Nat) (a:α) (b:β),aa[i]? =some a→d[i]? =some b→R a b)→aY R aa d
 |[],[],_,_=>trivial
 |a::aa,b::d,c,h=>⟨h 0 a b rfl rfl,aY.mk (by simpa using c) fun i e f g j=>h (i+1) e f (by simpa using g) (by simpa using j)⟩
 |[],_::_,c,_=>by simp at c
 |_::_,[],c,_=>by simp at c
theorem aY.append{α β:Type}{R:α→β→Prop} : ∀{aa:List α} {a:List β} {cs:List α} {b:List β},aY R aa a→aY R cs b→aY R (aa++cs) (a++b)
 |[],[],_,_,_,h=>h
 |_::_,_::_,_,_,h,k=>⟨h.1,aY.append h.2 k⟩
 |[],_::_,_,_,h,_=>h.elim
 |_::_,[],_,_,h,_=>h.elim
inductive aR (w:World) (F:Nat→Prop):J→Value→Prop
 |int (k:IntKind) (n:Int):aR w F (.int k n) (.int k n)
 |bool (b:Bool):aR w F (.bool b) (.bool b)
 |lit (b:Bool):aR w F (.lit b) (.bool b)
 |str (s:ByteArray) (iP:s.size≤dm):aR w F (.str s) (.string s)
 |aE:aR w F .aE (.slice none 0 0)
 |jq:aR w F .jq (.pointer none)
 |jV (M n:Nat) (f:Nat→List J) (p:Option Addr) (c:Nat) (h:aR w F (.arr M n f) (.slice p n c)) (jm:c=n):aR w F (.jV M n f) (.slice p n c)
 |nil (M:Nat) (f:Nat→List J):aR w F (.arr M 0 f) (.slice none 0 0)
 |mt (M:Nat) (f:Nat→List J) (a:Addr) (c:Nat):aR w F (.arr M 0 f) (.slice (some a) 0 c)
 |arr (M n:Nat) (f:Nat→List J) (b o c:Nat) (g:Nat→Nat→J) (cv:Nat→Nat→Value) (e8:n≤c) (iP:n≤dm) (nm:0<n→F b)
   (iC: ∀i j,i<n→j<M→(f i)[j]? =some (g i j)) (g3: ∀i j,i<n→j<M→w.cell? ⟨b,o+i*M+j,none⟩=some (cv i j))
   (e5: ∀i j,i<n→j<M→aR w F (g i j) (cv i j)):aR w F (.arr M n f) (.slice (some ⟨b,o,none⟩) n c)
 |ref (cs:List J) (b o:Nat) (g:Nat→J) (cv:Nat→Value) (nm:F b) (iC: ∀j,j<cs.length→cs[j]? =some (g j))
   (g3: ∀j,j<cs.length→w.cell? ⟨b,o+j,none⟩=some (cv j)) (e5: ∀j,j<cs.length→aR w F (g j) (cv j)):aR w F (.ref cs) (.pointer (some ⟨b,o,none⟩))
 |fn (f:FuncId) (jf:List J) (cv:List Value) (g:Nat→J) (u:Nat→Value) (oj:cv.length=jf.length) (iC: ∀j,j<jf.length→jf[j]? =some (g j))
   (g3: ∀j,j<jf.length→cv[j]? =some (u j)) (e5: ∀j,j<jf.length→aR w F (g j) (u j)):aR w F (.fn f jf) (.func (.func f) #[] cv.toArray)
theorem aR.mono{w ag:World}{F dO:Nat→Prop}(B: ∀x,F x→dO x)(t: ∀x o,F x→ag.cell? ⟨x,o,none⟩=w.cell? ⟨x,o,none⟩){ab:J}{v:Value}(h:aR w F ab v):aR ag dO ab v:=by
 induction h with
 |int k n=>exact .int k n
 |bool b=>exact .bool b
 |lit b=>exact .lit b
 |str s y=>exact .str s y
 |aE=>exact .aE
 |jq=>exact .jq
 |jV e n f p c h t d=>exact .jV e n f p c d t
 |nil e f=>exact .nil e f
 |mt e f a c=>exact .mt e f a c
 |arr e n f b o c g r G y q l m A d=>
  exact .arr e n f b o c g r G y (fun h=>B _ (q h)) l (fun i j D z=>by rw[t b _ (q (by omega))];exact m i j D z) d
 |ref cs b o g r q l m A d=>
  exact .ref cs b o g r (B _ q) l (fun j z=>by rw[t b _ q];exact m j z) d
 |fn f C r g u E l m A d=>exact .fn f C r g u E l m d
def fi(w:World)(F:Nat→Prop):J→Value→Prop
 | .undef,_=>False
 | .agg cs,v=> ∃a:List Value,v= .agg a.toArray∧aY (aR w F) cs a
 |ab,v=>aR w F ab v
theorem fi.mono{w ag:World}{F dO:Nat→Prop}(a: ∀x,F x→dO x)(b: ∀x o,F x→ag.cell? ⟨x,o,none⟩=w.cell? ⟨x,o,none⟩){ab:J}{v:Value}(h:fi w F ab v):fi ag dO ab v:=by
 cases ab<;>simp only[fi]at* <;>first|exact h|exact h.mono a b|skip
 obtain⟨c,rfl,h⟩:=h;exact⟨c,rfl,h.imp fun _ _=>aR.mono a b⟩
def jS(w:World)(F:Nat→Prop):J→Value→Prop
 | .c9 aa,v=> ∃a:List Value,v= .tuple a.toArray∧aY (fi w F) aa a
 |ab,v=>fi w F ab v
theorem jS.mono{w ag:World}{F dO:Nat→Prop}(a: ∀x,F x→dO x)(b: ∀x o,F x→ag.cell? ⟨x,o,none⟩=w.cell? ⟨x,o,none⟩){ab:J}{v:Value}(h:jS w F ab v):jS ag dO ab v:=by
 cases ab
 case c9 aa=>
  obtain⟨us,rfl,c⟩:=h;exact⟨us,rfl,c.imp fun _ _=>fi.mono a b⟩
 all_goals (simp only[jS]at h ⊢;exact fi.mono a b h)
def pR(b:Nat)(w:World)(F:Nat→Prop):J→Value→Prop
 | .ae _ a n f,v=>(n=0∧v= .slice none 0 0)∨ ∃x c C T,b≤x∧x<w.heap.size∧v= .slice (some ⟨x,0,none⟩) n c∧n≤c∧n≤dm∧w.heap[x]? =some (.cells C T (0,0))∧C.size=c*a∧
   ∀i j,i<n→j<a→ ∃ab u,(f i)[j]? =some ab∧C[i*a+j]? =some u∧aR w (fun y=>F y∧y≠x) ab u
 |ab,v=>jS w F ab v
structure oL (w:World) (F:Nat→Prop):Prop where
 lt: ∀x,F x→x<w.heap.size
 ux: ∀g,pa g uy= .undef∨aR w F (pa g uy) (.pointer (some ⟨g,0,none⟩))
def cY(P:Program)(f:FuncId)(aa:List J)(r:J):Prop:=
 ∀(w:World) (F:Nat→Prop) (a:List Value),oL w F→aY (fi w F) aa a→
  Calls P f a.toArray w fun e ag=> ∃v,e= .returned v∧pR w.heap.size ag (fun x=>F x∨(w.heap.size≤x∧x<ag.heap.size)) r v∧Below w.heap.size w ag
abbrev Heap:=List (List J)
def I(H:Heap)(b o:Nat):J:=(H.getD b []).getD o .undef
def ch:J→Bool
 | .ae .. =>true
 |_=>false
def oE:J→Bool
 | .undef=>false
 | .ae a _ _ _=> !a
 |_=>true
def mL(H:Heap)(b:Nat):Prop:=(ch (I H b 0)=true∧oE (I H b 0)=true)∨(ch (I H b 0)=false∧ ∃o,oE (I H b o)=true)
theorem nG{H al:Heap}{b:Nat}(h: ∀o,I al b o=I H b o)(k:mL al b):mL H b:=by
 unfold mL at*
 simpa only[h]using k
def th(a:Nat→Prop)(B:Nat)(ι:Nat→Option Nat)(H:Heap)(w:World)(x:Nat):Prop:=(a x∨B≤x)∧x<w.heap.size∧ ∀b,mL H b→ι b≠some x
def iH(ι:Nat→Option Nat)(H:Heap)(w:World)(F:Nat→Prop):J→Value→Prop
 | .ptr b o,v=>ch (I H b 0)=false∧ ∃x,ι b=some x∧v= .pointer (some ⟨x,o,none⟩)
 |ab,v=>aR w F ab v
def cf(ι:Nat→Option Nat)(H:Heap)(w:World)(F:Nat→Prop):J→Value→Prop
 | .undef,v=>one v=true
 | .gone,v=>one v=true
 | .own b k,v=>one v=true∧ ∃d a n f,I H b 0= .ae d a n f∧k≤n∧(k=n→(∃x c C T,ι b=some x∧v= .slice (some ⟨x,0,none⟩) n c∧n≤c∧w.heap[x]? =some (.cells C T (0,0))∧C.size=c*a)∨
   (n=0∧ι b=none∧v= .slice none 0 0))
 | .ptr b o,v=>ch (I H b 0)=false∧ ∃x,ι b=some x∧v= .pointer (some ⟨x,o,none⟩)
 | .fl b k i o,v=>one v=true∧ ∃d a n f,I H b 0= .ae d a n f∧k≤n∧(k=n→ ∃x,ι b=some x∧v= .pointer (some ⟨x,i*a+o,none⟩))
 | .fn f g,v=> ∃e:List Value,v= .func (.func f) #[] e.toArray∧aY (iH ι H w F) g e
 | .agg _,_=>False
 | .c9 _,_=>False
 | .ae ..,_=>False
 |ab,v=>aR w F ab v
def eQ(ι:Nat→Option Nat)(H:Heap)(w:World)(F:Nat→Prop)(b o:Nat):J→Prop
 | .undef=>True
 | .ae c a n f=>o=0∧((c=true∧a=0∧ι b=none)∨n≤dm∧((n=0∧ι b=none)∨ ∃x C T,ι b=some x∧w.heap[x]? =some (.cells C T (0,0))∧
   ∀i j,i<n→j<a→ ∃ab v,(f i)[j]? =some ab∧C[i*a+j]? =some v∧aR w F ab v))
 |ab=>ch (I H b 0)=false∧ ∃x v,ι b=some x∧w.cell? ⟨x,o,none⟩=some v∧w.frozen? ⟨x,o,none⟩=false∧cf ι H w F ab v
def fX(ι:Nat→Option Nat)(H:Heap)(w:World)(F:Nat→Prop):J→Value→Prop
 | .agg cs,v=> ∃a:List Value,v= .agg a.toArray∧aY (cf ι H w F) cs a
 | .gone,_=>False
 |ab,v=>cf ι H w F ab v
def ek(ι:Nat→Option Nat)(H:Heap)(w:World)(F:Nat→Prop):J→Value→Prop
 | .undef,_=>True
 | .gone,v=>v=undef
 | .c9 aa,v=> ∃a:List Value,v= .tuple a.toArray∧aY (fX ι H w F) aa a
 |ab,v=>fX ι H w F ab v
structure D where
 n:List J
 k:Heap
structure eg (ι:Nat→Option Nat) (H:Heap) (w:World) (F:Nat→Prop) (ay:Nat→Option Nat) (al:Heap) (ag:World) (dO:Nat→Prop):Prop where
 hN: ∀x,F x→dO x
 cell: ∀x o,F x→ag.cell? ⟨x,o,none⟩=w.cell? ⟨x,o,none⟩
 box: ∀b x,ι b=some x→ch (I H b 0)=false→ay b=some x∧ch (I al b 0)=false
 arr: ∀b ro M n f,I H b 0= .ae ro M n f→ ∃nE ki eu fB,I al b 0= .ae nE ki eu fB∧n≤eu∧
  (n=eu→ki=M∧ay b=ι b∧ ∀x C T,ι b=some x→w.heap[x]? =some (.cells C T (0,0))→ ∃kk:Array Value,ag.heap[x]? =some (.cells kk T (0,0))∧kk.size=C.size)
structure il (oO:Nat→Prop) (B:Nat) (w ag:World):Prop where
 os:ag.os=w.os
 tape:ag.tape=w.tape
 output:ag.output=w.output
 size:w.heap.size≤ag.heap.size
 block: ∀k,k<B→ ¬oO k→ag.heap[k]? =w.heap[k]?
theorem il.refl(a:Nat→Prop)(B:Nat)(w:World):il a B w w:=⟨rfl,rfl,rfl,bx _,fun _ _ _=>rfl⟩
theorem il.of{a:Nat→Prop}{B:Nat}{w ag:World}(h:Below B w ag):il a B w ag:=⟨h.os,h.tape,h.output,h.size,fun k b _=>h.block k b⟩
theorem il.then{d:Nat→Prop}{B:Nat}{a b c:World}(h:il d B a b)(k:il d B b c):il d B a c:=
 ⟨k.os.trans h.os,k.tape.trans h.tape,k.output.trans h.output,fg h.size k.size,fun i e f=>(k.block i e f).trans (h.block i e f)⟩
theorem il.trans{d:Nat→Prop}{B:Nat}{a b c:World}(h:il d B a b)(k:Below B b c):il d B a c:=h.then (.of k)
theorem il.alloc{b:Nat→Prop}{B:Nat}{a w:World}(h:il b B a w)(c:B≤w.heap.size)(o:Obj):il b B a (w.alloc o):=
 h.trans ((Below.refl B w).alloc c o)
theorem il.setCell{b:Nat→Prop}{B:Nat}{a w:World}(h:il b B a w){p:Addr}(d:B≤p.block∨b p.block)(u:Value):il b B a (w.setCell p u):=
 h.then ⟨rfl,rfl,rfl,by simp [World.setCell],fun k f c=>Below.heap_setCell _ _ _ _ (fun e=>d.elim (fun h=>by omega) fun h=>c (by rw[e];exact h))⟩
theorem il.plain{b:Nat→Prop}{B:Nat}{a w:World}(h:il b B a w)(d: ∀k,¬b k):Below B a w:=⟨h.os,h.tape,h.output,h.size,fun k c=>h.block k c (d k)⟩
structure dR where
 oK:Nat→Prop
 kS:World
 lt: ∀x,oK x→x<kS.heap.size
 oO:Nat→Prop
 aAp: ∀x,oO x→oK x
 i_:Nat→Option Nat
 ti:Heap
 VR:Nat→Prop
 pZ: ∀b x,i_ b=some x→b<ti.length
 ux: ∀g,pa g uy= .undef∨aR kS VR (pa g uy) (.pointer (some ⟨g,0,none⟩))
structure aU (S:dR) (ι:Nat→Option Nat) (st:D) (a:Act) (w:World):Prop where
 below:il S.oO S.kS.heap.size S.kS w
 defers:a.defers=[]
 n: ∀(t:Nat) (ab:J),st.n[t]? =some ab→ ∃v,a.tmps[t]? =some v∧ek ι st.k w (th S.oK S.kS.heap.size ι st.k w) ab v
 k: ∀b o,eQ ι st.k w (th S.oK S.kS.heap.size ι st.k w) b o (I st.k b o)
 inj: ∀b ko x,ι b=some x→ι ko=some x→b=ko
 fresh: ∀b x,ι b=some x→(S.kS.heap.size≤x∨S.oO x)∧x<w.heap.size
 gw: ∀b x,ι b=some x→b<st.k.length
 gB:eg S.i_ S.ti S.kS S.VR ι st.k w (th S.oK S.kS.heap.size ι st.k w)
theorem aU.own{S:dR}{ι:Nat→Option Nat}{st:D}{a:Act}{w:World}(h:aU S ι st a w){b x:Nat}(c:ι b=some x):S.oK x∨S.kS.heap.size≤x:=
 (h.fresh b x c).1.elim .inr fun h=> .inl (S.aAp x h)
theorem adq: ∀(g:Nat) (l:List (Nat×List J)),pa g l= .undef∨ ∃cs,pa g l= .ref cs
 |_,[]=> .inl rfl
 |g,x::l=>by
  unfold pa
  cases Nat.beq g x.1
  ·exact adq g l
  ·exact .inr ⟨_,rfl⟩
theorem aU.ux{S:dR}{ι:Nat→Option Nat}{st:D}{a:Act}{w:World}(h:aU S ι st a w)(g:Nat):pa g uy= .undef∨aR w (th S.oK S.kS.heap.size ι st.k w) (pa g uy) (.pointer (some ⟨g,0,none⟩)):=
 (S.ux g).imp id fun k=>k.mono h.gB.hN h.gB.cell
theorem aU.Pz{S:dR}{ι:Nat→Option Nat}{st:D}{a:Act}{w:World}(h:aU S ι st a w):oL w (th S.oK S.kS.heap.size ι st.k w):=⟨fun _ b=>b.2.1,h.ux⟩
def pack(us:List Value):Value:=if h:us.toArray.size=1 then us.toArray[0]else .tuple us.toArray
def fj(P:Program)(f:FuncId)(aa:List J)(H:Heap)(rs:List J)(al:Heap):Prop:=
 ∀(S:dR) (ι:Nat→Option Nat) (w:World) (a:List Value),S.ti.length≤H.length→a.length=aa.length→aU S ι ⟨aa,H⟩ {tmps:=a.toArray,defers:=[]} w→
  Calls P f a.toArray w fun e ag=> ∃us ay,e= .returned (pack us)∧us.length=rs.length∧aU S ay ⟨rs,al⟩ {tmps:=us.toArray,defers:=[]} ag
section
variable {ι ay:Nat→Option Nat} {H al:Heap} {w ag:World} {F dO:Nat→Prop}
theorem eg.refl:eg ι H w F ι H w F:=⟨fun _ h=>h,fun _ _ _=>rfl,fun _ _ h k=>⟨h,k⟩,fun _ a b n f h=>⟨a,b,n,f,h,bx _,fun _=>⟨rfl,rfl,fun _ C _ _ h=>⟨C,h,rfl⟩⟩⟩⟩
theorem eg.trans{ι ay ef:Nat→Option Nat}{H al km:Heap}{w ag j:World}{F dO mQ:Nat→Prop}(h:eg ι H w F ay al ag dO)(k:eg ay al ag dO ef km j mQ):eg ι H w F ef km j mQ:=by
 refine⟨fun x a=>k.hN x (h.hN x a),fun x o a=>(k.cell x o (h.hN x a)).trans (h.cell x o a),fun b x a g=>k.box b x (h.box b x a g).1 (h.box b x a g).2,fun b N Q n f B=> ?_⟩;obtain⟨O,R,c,r,t,U,u⟩:=h.arr b N Q n f B;obtain⟨P,S,i,s,E,V,G⟩:=k.arr b O R c r t;refine⟨P,S,i,s,E,by omega,fun e=> ?_⟩;have p:n=c:=by omega
 have q:c=i:=by omega
 obtain⟨D,d,v⟩:=u p;obtain⟨M,I,J⟩:=G q;refine⟨M.trans D,I.trans d,fun x C T a A=> ?_⟩;obtain⟨l,y,z⟩:=v x C T a A;obtain⟨m,K,L⟩:=J x l T (by rw[d];exact a) y;exact⟨m,K,L.trans z⟩
theorem iH.step(h:eg ι H w F ay al ag dO){ab:J}{v:Value}(k:iH ι H w F ab v):iH ay al ag dO ab v:=by
 cases ab<;>simp only[iH]at* <;>first|exact k.mono h.hN h.cell|skip
 obtain⟨a,x,b,c⟩:=k;exact⟨(h.box _ _ b a).2,x,(h.box _ _ b a).1,c⟩
theorem cf.step(h:eg ι H w F ay al ag dO){ab:J}{v:Value}(k:cf ι H w F ab v):cf ay al ag dO ab v:=by
 cases ab<;>simp only[cf]at* <;>first|exact k.mono h.hN h.cell|exact k|skip
 ·obtain⟨s,K,L,n,f,a,b,d⟩:=k;obtain⟨t,u,j,o,p,A,q⟩:=h.arr _ _ _ _ _ a;refine⟨s,t,u,j,o,p,by omega,fun e=> ?_⟩;have l:n=j:=by omega
  obtain⟨r,m,B⟩:=q l;subst r;rcases d (by omega)with⟨x,c,C,T,g,i,y,G,I⟩|⟨g,i,y⟩
  ·obtain⟨z,D,E⟩:=B x C T g G;exact .inl ⟨x,c,z,T,by rw[m];exact g,by rw[←l];exact i,by omega,D,by rw[E];exact I⟩
  ·exact .inr ⟨by omega,by rw[m];exact i,y⟩
 ·obtain⟨a,x,b,d⟩:=k;exact⟨(h.box _ _ b a).2,x,(h.box _ _ b a).1,d⟩
 ·obtain⟨s,K,L,n,f,a,b,d⟩:=k;obtain⟨t,u,j,o,p,A,q⟩:=h.arr _ _ _ _ _ a;refine⟨s,t,u,j,o,p,by omega,fun e=> ?_⟩;have l:n=j:=by omega
  obtain⟨x,g,i⟩:=d (by omega);obtain⟨r,m,_⟩:=q l;subst r;exact⟨x,by rw[m];exact g,i⟩
 ·obtain⟨M,a,b⟩:=k;exact⟨M,a,b.imp fun _ _=>iH.step h⟩
theorem aR.one{ab:J}{v:Value}(k:aR w F ab v):one v=true:=by cases k<;>rfl
theorem cf.one{ab:J}{v:Value}(k:cf ι H w F ab v):one v=true:=by
 cases ab<;>simp only[cf]at k<;>first|exact k|exact k.one|exact k.1|(obtain⟨_,_,_,rfl⟩:=k;rfl)|(obtain⟨_,rfl,_⟩:=k;rfl)
theorem fX.step(h:eg ι H w F ay al ag dO){ab:J}{v:Value}(k:fX ι H w F ab v):fX ay al ag dO ab v:=by
 cases ab<;>simp only[fX]at* <;>first|exact k.step h|skip
 obtain⟨c,a,b⟩:=k;exact⟨c,a,b.imp fun _ _=>cf.step h⟩
theorem ek.step(h:eg ι H w F ay al ag dO){ab:J}{v:Value}(k:ek ι H w F ab v):ek ay al ag dO ab v:=by
 cases ab<;>simp only[ek]at* <;>first|exact fX.step h k|exact k|skip
 obtain⟨c,a,b⟩:=k;exact⟨c,a,b.imp fun _ _=>fX.step h⟩
theorem eQ.step(h:eg ι H w F ay al ag dO){b o:Nat}{ab:J}(n:ch ab=false→ay b=ι b)(m: ∀x,ι b=some x→ch ab=false→ag.cell? ⟨x,o,none⟩=w.cell? ⟨x,o,none⟩∧ag.frozen? ⟨x,o,none⟩=w.frozen? ⟨x,o,none⟩)
  (c:ch ab=true→ay b=ι b∧ ∀x,ι b=some x→ag.heap[x]? =w.heap[x]?) (k:eQ ι H w F b o ab):eQ ay al ag dO b o ab:=by
 cases ab<;>simp only[eQ]at* <;>try exact k
 all_goals first
  |(obtain⟨d,x,v,a,e,f,g⟩:=k
    exact⟨(h.box _ _ a d).2,x,v,by rw[n rfl];exact a,by rw[(m x a rfl).1];exact e,by rw[(m x a rfl).2];exact f,cf.step h g⟩)
  |skip
 obtain⟨d,l|⟨t,k⟩⟩:=k
 ·exact⟨d,.inl ⟨l.1,l.2.1,by rw[(c rfl).1];exact l.2.2⟩⟩
 refine⟨d,.inr ⟨t,?_⟩⟩;rcases k with k|⟨x,C,T,a,e,f⟩
 ·exact .inl ⟨k.1,by rw[(c rfl).1];exact k.2⟩
 ·refine .inr ⟨x,C,T,by rw[(c rfl).1];exact a,by rw[(c rfl).2 x a];exact e,fun i j p q=> ?_⟩;obtain⟨ab,v,g,r,s⟩:=f i j p q;exact⟨ab,v,g,r,s.mono h.hN h.cell⟩
end
def setAt{α:Type}(d:α):List α→Nat→α→List α
 |[],0,x=>[x]
 |[],i+1,x=>d::setAt d [] i x
 |_::aa,0,x=>x::aa
 |a::aa,i+1,x=>a::setAt d aa i x
theorem o_{α:Type}(d:α)(x:α): ∀(l:List α) (i j:Nat),(setAt d l i x).getD j d=if j=i then x else l.getD j d
 |[],0,0=>by simp [setAt]
 |[],0,j+1=>by simp [setAt]
 |[],i+1,0=>by simp [setAt]
 |[],i+1,j+1=>by simpa[setAt]using o_ d x [] i j
 |_::aa,0,0=>by simp [setAt]
 |_::aa,0,j+1=>by simp [setAt]
 |a::aa,i+1,0=>by simp [setAt]
 |a::aa,i+1,j+1=>by simpa[setAt]using o_ d x aa i j
theorem l1{α:Type}(d:α)(x:α): ∀(l:List α) (i:Nat),l.length≤(setAt d l i x).length∧i<(setAt d l i x).length
 |[],0=>by simp [setAt]
 |[],i+1=>by simp [setAt];exact(l1 d x [] i).2
 |_::aa,0=>by simp [setAt]
 |a::aa,i+1=>by simp [setAt];exact l1 d x aa i
def bs(H:Heap)(b o:Nat)(ab:J):Heap:=setAt [] H b (setAt .undef (H.getD b []) o ab)
def mE(H:Heap)(b:Nat)(cs:List J):Heap:=setAt [] H b cs
theorem eK(H:Heap)(b o:Nat)(ab:J)(a c:Nat):I (bs H b o ab) a c=if a=b∧c=o then ab else I H a c:=by
 unfold I bs;rw[o_]
 by_cases d:a=b
 ·subst d;rw[bF rfl,o_]
  by_cases e:c=o<;>simp [e]
 ·simp [d]
theorem EI(H:Heap)(b:Nat)(cs:List J)(a c:Nat):I (mE H b cs) a c=if a=b then cs.getD c .undef else I H a c:=by
 unfold I mE;rw[o_]
 by_cases d:a=b<;>simp [d]
section
variable {S:dR} {ι:Nat→Option Nat} {st:D} {a:Act} {w:World}
abbrev aM(S:dR)(ι:Nat→Option Nat)(H:Heap)(w:World):Nat→Prop:=th S.oK S.kS.heap.size ι H w
theorem aU.put(h:aU S ι st a w)(d:Nat){ab:J}{v:Value}(k:ek ι st.k w (aM S ι st.k w) ab v):aU S ι ⟨st.n.set d ab,st.k⟩ (a.put (some d) v) w:=by
 refine⟨h.below,h.defers,fun t u b=> ?_,h.k,h.inj,h.fresh,h.gw,h.gB⟩
 by_cases j:t=d
 ·subst j;rw[s9]at b;simp only[kT]at b
  split at b
  ·rename_i g;simp only[hd]at b;subst b;obtain⟨e,c,_⟩:=h.n t (st.n[t]) (cT g);have i:t<a.tmps.size:=by
    rcases fh t a.tmps.size with h|h
    ·exact h
    ·simp [rk h]at c
   exact⟨v,by simp [Act.put,i],k⟩
  ·cases b
 ·rw[BI (by omega)]at b;obtain⟨e,c,f⟩:=h.n t u b;exact⟨e,by simp only[Act.put];rw[Gi (by omega)];exact c,f⟩
theorem aU.world(h:aU S ι st a w){ag:World}(d:Below w.heap.size w ag):aU S ι st a ag∧eg ι st.k w (aM S ι st.k w) ι st.k ag (aM S ι st.k ag):=by
 have g:eg ι st.k w (aM S ι st.k w) ι st.k ag (aM S ι st.k ag):=by
  refine⟨fun x ⟨i,e,j⟩=>⟨i,gG e d.size,j⟩,fun x o ⟨_,e,_⟩=>d.cell e,fun _ _ h k=>⟨h,k⟩,fun b q r n f m=>⟨q,_,n,f,m,bx _,fun _=>⟨rfl,rfl,fun x C T c l=>⟨C,?_,rfl⟩⟩⟩⟩;rw[d.block x (h.fresh _ _ c).2];exact l
 refine⟨⟨h.below.trans (d.mono h.below.size),h.defers,fun t ab p=> ?_,fun b o=> ?_,h.inj,fun b x c=>⟨(h.fresh b x c).1,gG (h.fresh b x c).2 d.size⟩,h.gw,h.gB.trans g⟩,g⟩
 ·obtain⟨v,i,e⟩:=h.n t ab p;exact⟨v,i,e.step g⟩
 ·exact(h.k b o).step g (fun _=>rfl) (fun x c _=>⟨d.cell (h.fresh _ _ c).2,d.frozen (h.fresh _ _ c).2⟩) (fun _=>⟨rfl,fun x c=>d.block x (h.fresh _ _ c).2⟩)
def cz(ι:Nat→Option Nat)(b:Nat)(x:Nat):Nat→Option Nat:=fun k=>if k=b then some x else ι k
theorem aU.ayZ(h:aU S ι st a w)(b:Nat)(K: ∀o,I st.k b o= .undef)(W:ι b=none)(cs:List J)(i:List Value)(T:TypeId)(s:aY (cf ι st.k w (aM S ι st.k w)) cs i):
  aU S (cz ι b w.heap.size) ⟨st.n,mE st.k b cs⟩ a (w.alloc (.cells i.toArray T))∧
  eg ι st.k w (aM S ι st.k w) (cz ι b w.heap.size) (mE st.k b cs) (w.alloc (.cells i.toArray T)) (aM S (cz ι b w.heap.size) (mE st.k b cs) (w.alloc (.cells i.toArray T)))∧
  cf (cz ι b w.heap.size) (mE st.k b cs) (w.alloc (.cells i.toArray T)) (aM S (cz ι b w.heap.size) (mE st.k b cs) (w.alloc (.cells i.toArray T))) (.ptr b 0) (.pointer (some ⟨w.heap.size,0,none⟩)):=by
 have z: ∀d x,ι d=some x→d≠b:=fun d x g e=>by rw[e,W]at g;cases g
 have p: ∀d o,d≠b→I (mE st.k b cs) d o=I st.k d o:=fun d o Q=>by rw[EI,bH Q]
 have y:ch (I (mE st.k b cs) b 0)=false:=by
  rw[EI,bF rfl]
  cases cs with
  |nil=>rfl
  |cons c cs=>
   cases i with
   |nil=>exact s.elim
   |cons v i=>simp;cases c<;>first|rfl|exact s.1.elim
 have m:eg ι st.k w (aM S ι st.k w) (cz ι b w.heap.size) (mE st.k b cs) (w.alloc (.cells i.toArray T)) (aM S (cz ι b w.heap.size) (mE st.k b cs) (w.alloc (.cells i.toArray T))):=by
  refine⟨fun x ⟨k,j,G⟩=>⟨k,by simp;omega,fun d L=> ?_⟩,fun x o ⟨_,j,_⟩=>World.cell?_alloc_lt w _ (a:=⟨x,o,none⟩) j,fun d x g l=>⟨by simp [cz,z d x g,g],by rw[p _ _ (z d x g)];exact l⟩,fun d X Z n f l=> ?_⟩
  ·unfold cz
   by_cases e:d=b
   ·simp only[e,kT];intro N;simp at N;omega
   ·simp only[e,mP];exact G d (nG (fun o=>p d o e) L)
  ·have e:d≠b:=fun e=>by rw[e,K]at l;cases l
   refine⟨X,_,n,f,by rw[p _ _ e];exact l,bx _,fun _=>⟨rfl,by simp [cz,e],fun x C Y g H=>⟨C,?_,rfl⟩⟩⟩;rw[Below.heap_alloc _ _ _ (h.fresh _ _ g).2];exact H
 refine⟨⟨h.below.alloc h.below.size _,h.defers,fun t ab U=> ?_,fun d o=> ?_,fun B D x k j=> ?_,fun d x g=> ?_,fun d x g=> ?_,h.gB.trans m⟩,m,?_⟩
 ·obtain⟨v,k,j⟩:=h.n t ab U;exact⟨v,k,j.step m⟩
 ·by_cases e:d=b
  ·subst e;rw[EI,bF rfl];rcases fh o cs.length with r|r
   ·have u:cs[o]? =some cs[o]:=cT r;obtain⟨v,V,A⟩:=s.get o _ u;have M:(w.alloc (.cells i.toArray T)).cell? ⟨w.heap.size,o,none⟩=some v:=by rw[World.cell?_alloc_new];simpa using V
    have O:(w.alloc (.cells i.toArray T)).frozen? ⟨w.heap.size,o,none⟩=false:=by simp
    have R:=cf.step m A;have q:cs.getD o .undef=cs[o]:=by simp [List.getD,u]
    rw[q];have P:cz ι d w.heap.size d=some w.heap.size:=by simp [cz]
    generalize cs[o]=c at*
    cases c<;>simp only[eQ]<;>first|trivial|exact⟨y,_,v,P,M,O,R⟩|exact A.elim
   ·have q:cs.getD o .undef= .undef:=by simp [List.getD,e0 r]
    rw[q];trivial
  ·rw[p _ _ e];refine(h.k d o).step m (fun _=>by simp [cz,e]) (fun x g _=>⟨World.cell?_alloc_lt w _ (a:=⟨x,o,none⟩) (h.fresh _ _ g).2,World.frozen?_alloc_old w _ (a:=⟨x,o,none⟩) (by have:=(h.fresh _ _ g).2;show x≠_;omega)⟩) (fun _=>⟨by simp [cz,e],fun x g=>Below.heap_alloc _ _ _ (h.fresh _ _ g).2⟩)
 ·unfold cz at k j
  by_cases E:B=b<;>by_cases F:D=b<;>simp only[E,F,kT,mP]at k j
  ·omega
  ·simp at k;have:=(h.fresh _ _ j).2;omega
  ·simp at j;have:=(h.fresh _ _ k).2;omega
  ·exact h.inj _ _ _ k j
 ·unfold cz at g
  by_cases e:d=b<;>simp only[e,kT,mP]at g
  ·simp at g;subst g;exact⟨.inl h.below.size,by simp⟩
  ·have:=h.fresh _ _ g;exact⟨this.1,by simp;omega⟩
 ·unfold cz at g
  by_cases e:d=b
  ·rw[e];exact(l1 _ _ _ _).2
  ·simp only[e,mP]at g;exact gG (h.gw _ _ g) (l1 _ _ _ _).1
 ·exact⟨y,w.heap.size,by simp [cz],rfl⟩
end
section
variable {S:dR} {ι:Nat→Option Nat} {st:D} {a:Act} {w:World}
theorem KP{ab:J}(h:ch ab=true): ∃a b n f,ab= .ae a b n f:=by
 cases ab<;>first|exact⟨_,_,_,_,rfl⟩|(cases h;done)
theorem eQ.box{b o:Nat}{ab:J}{H:Heap}{F:Nat→Prop}(h:eQ ι H w F b o ab)(c:ab≠ .undef)(a:ch ab=false):
  ∃x v,ι b=some x∧w.cell? ⟨x,o,none⟩=some v∧w.frozen? ⟨x,o,none⟩=false∧cf ι H w F ab v:=by
 cases ab<;>first|exact h.2|exact absurd rfl c|(cases a;done)
theorem eQ.ayV{b o:Nat}{ab:J}{H:Heap}{F:Nat→Prop}(h:eQ ι H w F b o ab)(c:ab≠ .undef)(a:ch ab=false):ch (I H b 0)=false:=by
 cases ab<;>first|exact h.1|exact absurd rfl c|(cases a;done)
theorem aio{ab:J}(b:ab≠ .undef)(a:ch ab=false):oE ab=true:=by
 cases ab<;>first|rfl|exact absurd rfl b|(cases a;done)
theorem aU.store(h:aU S ι st a w){b o x:Nat}(j:ι b=some x)(G:I st.k b o≠ .undef)(l:ch (I st.k b 0)=false)(D:ch (I st.k b o)=false)
  {ab:J} {v:Value} (H:cf ι st.k w (aM S ι st.k w) ab v):
  aU S ι ⟨st.n,bs st.k b o ab⟩ a (w.setCell ⟨x,o,none⟩ v)∧eg ι st.k w (aM S ι st.k w) ι (bs st.k b o ab) (w.setCell ⟨x,o,none⟩ v) (aM S ι (bs st.k b o ab) (w.setCell ⟨x,o,none⟩ v)):=by
 have u:ch ab=false:=by cases ab<;>first|rfl|exact H.elim
 have F:mL st.k b:= .inr ⟨l,o,aio G D⟩;obtain⟨aFL,v0,K,O,Q,_⟩:=(h.k b o).box G D;rw[j]at K;cases K;have E: ∀y p,y≠x→(w.setCell ⟨x,o,none⟩ v).cell? ⟨y,p,none⟩=w.cell? ⟨y,p,none⟩:=fun y p c=>World.cell?_setCell_other w _ _ _ (by intro e;cases e;exact c rfl);have V:ch (I (bs st.k b o ab) b 0)=false:=by
  rw[eK];split
  ·exact u
  ·exact l
 have m:eg ι st.k w (aM S ι st.k w) ι (bs st.k b o ab) (w.setCell ⟨x,o,none⟩ v) (aM S ι (bs st.k b o ab) (w.setCell ⟨x,o,none⟩ v)):=by
  refine⟨fun y ⟨r,s,q⟩=>⟨r,by simpa using s,fun d N=> ?_⟩,fun y p ⟨_,_,q⟩=>E y p (fun e=>q b F (by rw[j,e])),fun d y c i=>⟨c,?_⟩,fun d L Z n f i=> ?_⟩
  ·by_cases e:d=b
   ·rw[e];exact q b F
   ·exact q d (nG (fun p=>by rw[eK,bH (fun g=>e g.1)]) N)
  ·rw[eK];split
   ·exact u
   ·exact i
  ·have e:d≠b:=fun e=>by rw[e]at i;rw[i]at l;cases l
   refine⟨L,_,n,f,by rw[eK,bH (fun g=>e g.1)];exact i,bx _,fun _=>⟨rfl,rfl,fun y C T c M=>⟨C,?_,rfl⟩⟩⟩;rw[Below.heap_setCell _ _ _ _ (by intro g;exact e (h.inj _ _ _ c (by rw[g];exact j)))];exact M
 refine⟨⟨h.below.setCell (h.fresh _ _ j).1 _,h.defers,fun t cP Y=> ?_,fun d p=> ?_,h.inj,fun d y c=>⟨(h.fresh _ _ c).1,by simpa using(h.fresh _ _ c).2⟩,fun d y c=>gG (h.gw _ _ c) (l1 _ _ _ _).1,h.gB.trans m⟩,m⟩
 ·obtain⟨v,r,s⟩:=h.n t cP Y;exact⟨v,r,s.step m⟩
 ·by_cases e:d=b∧p=o
  ·obtain⟨rfl,rfl⟩:=e;rw[eK,bF ⟨rfl,rfl⟩];have k:=cf.step m H;have P:=World.cell?_setCell_same w _ v O;have R:(w.setCell ⟨x,p,none⟩ v).frozen? ⟨x,p,none⟩=false:=by simpa using Q
   cases ab<;>first|exact⟨V,x,v,j,P,R,k⟩|trivial|(cases u;done)
  ·have U:I (bs st.k b o ab) d p=I st.k d p:=by rw[eK,bH e]
   rw[U]
   by_cases z:d=b
   ·subst z;have X:p≠o:=fun g=>e ⟨rfl,g⟩
    by_cases A:ch (I st.k d p)=true
    ·obtain⟨L,Z,n,f,i⟩:=KP A;have B:=h.k d p;rw[i]at B;have W:p=0:=B.1;rw[W]at i;rw[i]at l;cases l
    ·refine(h.k d p).step m (fun _=>rfl) (fun y c _=> ?_) (fun i=>absurd i A);rw[j]at c;cases c;exact⟨World.cell?_setCell_other w _ _ _ (by intro g;cases g;exact X rfl),by simp⟩
   ·refine(h.k d p).step m (fun _=>rfl) (fun y c _=>⟨E y p (fun g=>z (h.inj _ _ _ c (by rw[g];exact j))),by simp⟩) (fun _=>⟨rfl,fun y c=>Below.heap_setCell _ _ _ _ (fun g=>z (h.inj _ _ _ c (by rw[g];exact j)))⟩)
theorem at1{a i b j q:Nat}(f:j<a)(g:q<a)(h:b*a+j=i*a+q):b=i∧j=q:=by
 have c:(b*a+j)/a=b:=by rw[ta,Nat.mul_add_div (by omega),Mr f,lA]
 have d:(i*a+q)/a=i:=by rw[ta,Nat.mul_add_div (by omega),Mr g,lA]
 have e:b=i:=by rw[←c,←d,h]
 subst e;exact⟨rfl,by omega⟩
theorem aU.ahT(h:aU S ι st a w){b x n l i q:Nat}{f:Nat→List J}{C:Array Value}{T:TypeId}(B:ι b=some x)(E:I st.k b 0= .ae false l n f)(W:w.heap[x]? =some (.cells C T (0,0)))(iR:q<l)(iQ:i*l+q<C.size){c:J}{v:Value}(c4:aR w (aM S ι st.k w) c v){g:Nat→List J}
  (asO: ∀j,j<n→g j=bif Nat.beq j i then(f j).set q c else f j) (lg: ∀r j,r<n→j<l→ ∃ab u,(f r)[j]? =some ab∧C[r*l+j]? =some u∧aR w (aM S ι st.k w) ab u) (jI:n≤dm):
  aU S ι ⟨st.n,bs st.k b 0 (.ae false l n g)⟩ a (w.setCell ⟨x,i*l+q,none⟩ v)∧eg ι st.k w (aM S ι st.k w) ι (bs st.k b 0 (.ae false l n g)) (w.setCell ⟨x,i*l+q,none⟩ v) (aM S ι (bs st.k b 0 (.ae false l n g)) (w.setCell ⟨x,i*l+q,none⟩ v)):=by
 have Z:mL st.k b:= .inl ⟨by rw[E];rfl,by rw[E];rfl⟩;have N: ∀d s,I (bs st.k b 0 (.ae false l n g)) d s=if d=b∧s=0 then .ae false l n g else I st.k d s:=fun d s=>eK _ _ _ _ _ _
 have Kp:I (bs st.k b 0 (.ae false l n g)) b 0= .ae false l n g:=by rw[N,bF ⟨rfl,rfl⟩]
 have Q: ∀d s,d≠b→I (bs st.k b 0 (.ae false l n g)) d s=I st.k d s:=fun d s e=>by rw[N,bH (fun h=>e h.1)]
 have G: ∀y,y≠x→(w.setCell ⟨x,i*l+q,none⟩ v).heap[y]? =w.heap[y]? :=fun y m=>heap_setCell_other w ⟨x,i*l+q,none⟩ y v m;have xr:(w.setCell ⟨x,i*l+q,none⟩ v).heap[x]? =some (.cells (C.setIfInBounds (i*l+q) v) T (0,0)):=heap_setCell_same w x (i*l+q) C T v W;have AJ: ∀d,mL (bs st.k b 0 (.ae false l n g)) d→mL st.k d:=fun d O=>by
  by_cases e:d=b
  ·rw[e];exact Z
  ·exact nG (fun cP=>Q d cP e) O
 have o:eg ι st.k w (aM S ι st.k w) ι (bs st.k b 0 (.ae false l n g)) (w.setCell ⟨x,i*l+q,none⟩ v) (aM S ι (bs st.k b 0 (.ae false l n g)) (w.setCell ⟨x,i*l+q,none⟩ v)):=by
  refine⟨fun y ⟨K,L,M⟩=>⟨K,by simpa using L,fun d O=>M d (AJ d O)⟩,fun y p ⟨_,_,M⟩=>World.cell?_of_block (w:=w) (G y (fun e=>M b Z (by rw[B,e]))),fun d y m A=>⟨m,?_⟩,fun d ro l eu fB A=> ?_⟩
  ·have e:d≠b:=fun e=>by rw[e,E]at A;cases A
   rw[Q _ _ e];exact A
  ·by_cases e:d=b
   ·subst e;rw[E]at A;cases A;refine⟨false,_,n,g,Kp,bx _,fun _=>⟨rfl,rfl,fun y D k0 m F=> ?_⟩⟩;rw[B]at m;cases m;rw[W]at F;cases F;exact⟨_,xr,by simp⟩
   ·exact⟨ro,_,eu,fB,by rw[Q _ _ e];exact A,bx _,fun _=>⟨rfl,rfl,fun y D k0 m F=>⟨D,by rw[G y (fun z=>e (h.inj _ _ _ m (by rw[z];exact B)))];exact F,rfl⟩⟩⟩
 refine⟨⟨h.below.setCell (h.fresh _ _ B).1 _,h.defers,fun t u ia=> ?_,fun d p=> ?_,h.inj,fun d y m=>⟨(h.fresh _ _ m).1,by simpa using(h.fresh _ _ m).2⟩,fun d y m=>gG (h.gw _ _ m) (l1 _ _ _ _).1,h.gB.trans o⟩,o⟩
 ·obtain⟨v,K,L⟩:=h.n t u ia;exact⟨v,K,L.step o⟩
 ·show eQ _ _ _ _ _ _ (I (bs st.k b 0 (.ae false l n g)) d p);rw[N]
  by_cases e:d=b∧p=0
  ·obtain⟨rfl,rfl⟩:=e;rw[bF ⟨rfl,rfl⟩];refine⟨rfl,.inr ⟨jI,.inr ⟨x,_,T,B,xr,fun r j X Y=> ?_⟩⟩⟩;obtain⟨ab,u,U,gh,iS⟩:=lg r j X Y;rw[asO r X]
   by_cases H:r=i
   ·subst H;rw[nK];simp only[aN]
    by_cases V:j=q
    ·subst V;have gC:=(iW.1 U).1;exact⟨c,v,by rw[List.getElem?_set_self gC],by rw[Array.getElem?_setIfInBounds_self_of_lt iQ],c4.mono o.hN o.cell⟩
    ·exact⟨ab,u,by rw[BI (fun e=>V e.symm)];exact U,by rw[Gi (by omega)];exact gh,iS.mono o.hN o.cell⟩
   ·have asl:Nat.beq r i=false:=by
     cases e:Nat.beq r i with
     |false=>rfl
     |true=>exact absurd (dX e) H
    rw[asl];refine⟨ab,u,U,?_,iS.mono o.hN o.cell⟩;rw[Gi (fun e=>H (at1 Y iR e.symm).1)];exact gh
  ·rw[bH e]
   by_cases P:d=b
   ·subst P;have k:p≠0:=fun z=>e ⟨rfl,z⟩;have R:=h.k d p
    cases fL:I st.k d p<;>rw[fL]at R
    case undef=>trivial
    case ae=>exact absurd R.1 k
    all_goals
     have:=R.1;rw[E]at this;cases this
   ·refine(h.k d p).step o (fun _=>rfl) (fun y m _=> ?_) (fun _=>⟨rfl,fun y m=>G y (fun z=>P (h.inj _ _ _ m (by rw[z];exact B)))⟩);have:=G y (fun z=>P (h.inj _ _ _ m (by rw[z];exact B)));exact⟨World.cell?_of_block (w:=w) this,World.frozen?_of_block (w:=w) this⟩
end
inductive ry where
 |bool|string|other
 |int (k:IntKind)
 |slice (e lG aEc:Nat)
 |pointer (e:Nat)
 |struct (FH:List (Nat×Nat))
 |array (n e lG:Nat)
structure bB where
 size:Nat
 d:ry
 zero:List J
 cmp:Bool:=false
def ry.isAgg:ry→Bool
 | .struct _=>true
 | .array .. =>true
 |_=>false
def k1:J→Value→Prop
 | .int k n,v=>v= .int k n
 | .bool b,v=>v= .bool b
 | .str s,v=>v= .string s∧s.size=0
 | .aE,v=>v= .slice none 0 0
 | .jq,v=>v= .pointer none
 | .undef,v=>one v=true
 |_,_=>False
def He:J→J→Bool
 | .int _ a,.int _ b=>a==b
 | .bool a,.bool b=>a==b
 | .str a,.str b=>a.toList==b.toList
 |_,_=>false
def jh:List J→List J→Bool
 |[],[]=>true
 |a::aa,b::c=>He a b&&jh aa c
 |_,_=>false
def Po:J→J→Bool
 | .int k _,.int a _=>decide (k=a)
 | .bool _,.bool _=>true
 | .str _,.str _=>true
 |_,_=>false
def hy:List J→List J→Bool
 |[],[]=>true
 |a::aa,b::c=>Po a b&&hy aa c
 |_,_=>false
def vk:J→Value→Prop
 | .int k n,v=>v= .int k n
 | .bool b,v=>v= .bool b
 | .str s,v=>v= .string s
 |_,_=>False
def Gv(P:Program)(T:TypeId)(d:List J):Prop:=
 ∀(a:BinOp) (x y:Operand) (cs b:List J) (c us:List Value) (w:World),a= .eql∨a= .neq→hy d cs=true→hy d b=true→aY vk cs c→aY vk b us→
  (do eqGuard a T x y (.agg c.toArray) (.agg us.toArray);binOp a T (.agg c.toArray) (.agg us.toArray):Sem Value).run P w= .ok (.bool (cond (a== .eql) (jh cs b) (!(jh cs b)))) w
structure gu (P:Program) (T:TypeId) (t:bB):Prop where
 info: ∃i z,P.info? T=some i∧i.size=t.size∧i.zero=some z∧z.cells.size=t.size∧aY k1 t.zero z.cells.toList
 agg: ∃d,P.underlying T=some d∧(t.d.isAgg=true→(match d with| .struct _| .array _ _=>true|_=>false)=true)∧(t.d.isAgg=false→t.size=1∧(match d with| .struct _| .array _ _=>false|_=>true)=true)
 d:match t.d with
  | .bool=>P.underlying T=some .bool
  | .string=>P.underlying T=some .string
  | .int k=>P.underlying T=some (.int k)
  | .slice e lG mg=>P.underlying T=some (.slice e)∧ ∃i,P.info? e=some i∧i.size=lG∧i.bytes=mg∧i.zero.isSome=true∧ ∀z,i.zero=some z→z.cells.size=i.size
  | .pointer e=>P.underlying T=some (.pointer e)
  | .struct FH=> ∃Hv:Array Field,P.underlying T=some (.struct Hv)∧Hv.toList.mapM (fun f=>(P.info? f.type).map fun i=>(f.offset,i.size))=some FH∧ ∀(k off M:Nat),FH[k]? =some (off,M)→ ∃f:Field,Hv[k]? =some f∧f.offset=off∧ ∃i,P.info? f.type=some i∧i.size=M∧M≠0
  | .array n e lG=>P.underlying T=some (.array n e)∧ ∃i,P.info? e=some i∧i.size=lG
  | .other=>True
 cmp:t.cmp=true→Gv P T t.zero
section
variable {P:Program} {T:TypeId} {t:bB} (w:World)
theorem run_sizeOf(h:gu P T t):(sizeOf T).run P w= .ok t.size w:=by
 obtain⟨i,z,a,b,_⟩:=h.info;simp [sizeOf,typeInfo,a,b]
theorem L5(h:gu P T t):(isAgg T).run P w= .ok t.d.isAgg w:=by
 obtain⟨d,a,c,f⟩:=h.agg
 cases e:t.d.isAgg with
 |true=>
  have b:=c e
  cases d<;>first|(cases b;done)|simp [isAgg,e3 a]
 |false=>
  have b:=(f e).2
  cases d<;>simp [isAgg,e3 a]at*
theorem aBt(h:gu P T t): ∃z,(zeroValue T).run P w= .ok z w∧aY k1 t.zero z.cells.toList∧z.cells.size=t.size:=by
 obtain⟨i,z,a,e,b,c,d⟩:=h.info;exact⟨z,by simp [zeroValue,typeInfo,a,b],d,c⟩
def rD(b:Bool)(a:List Value):Value:=if b then .agg a.toArray else a.headD undef
theorem aBq(h:gu P T t)(x o:Nat)(b:List Value)(a:b.length=t.size)(c: ∀(j:Nat) v,b[j]? =some v→w.cell? ⟨x,o+j,none⟩=some v):
  (loadVar T ⟨x,o,none⟩).run P w= .ok (rD t.d.isAgg b) w:=by
 have g: ∀j:Nat,(Addr.add ⟨x,o,none⟩ j)=⟨x,o+j,none⟩:=fun j=>Addr.add_lit x o j
 cases e:t.d.isAgg with
 |true=>
  have:=Mq (P:=P) w ⟨x,o,none⟩ b (fun j v i=>by rw[g];exact c j v i);rw[a]at this;simp [loadVar,L5 w h,e,run_sizeOf w h,this,rD]
 |false=>
  obtain⟨d,_,_,f⟩:=h.agg;have k:=(f e).1
  match b,a with
  |[],a=>simp at a;omega
  |[v],_=>
   have:=c 0 v rfl;simp only[lA]at this;simp [loadVar,L5 w h,e,rD,this]
  |_::_::_,a=>simp at a;omega
end
section
variable {P:Program} {S:dR} {ι:Nat→Option Nat} {st:D} {a:Act} {w:World}
def pc(H:Heap)(b:Nat):List J→Nat→Heap
 |[],_=>H
 |c::cs,o=>pc (bs H b o c) b cs (o+1)
theorem ahz(w:World)(p:Addr){v u:Value}(a:one v=true)(b:w.cell? p=some u)(c:w.frozen? p=false):(Go.store p v).run P w= .ok () (w.setCell p v):=by
 cases v<;>first|(cases a;done)|simp [Go.store,Sem.run,b,c]
theorem aU.ahU{b x fD:Nat}(k:ι b=some x): ∀(cs:List J) (e:List Value) (i:Nat) (st:D) (w:World),aU S ι st a w→ch (I st.k b 0)=false→
  (∀j,j<cs.length→I st.k b (fD+i+j)≠ .undef∧ch (I st.k b (fD+i+j))=false)→aY (cf ι st.k w (aM S ι st.k w)) cs e→
  ∃ag,(storeCells ⟨x,fD,none⟩ e i).run P w= .ok () ag∧aU S ι ⟨st.n,pc st.k b cs (fD+i)⟩ a ag∧eg ι st.k w (aM S ι st.k w) ι (pc st.k b cs (fD+i)) ag (aM S ι (pc st.k b cs (fD+i)) ag)
 |[],[],i,st,w,h,_,_,_=>⟨w,by simp [storeCells],h,eg.refl⟩
 |[],_::_,_,_,_,_,_,_,d=>d.elim
 |_::_,[],_,_,_,_,_,_,d=>d.elim
 |c::cs,v::e,i,st,w,h,l,m,d=>by
  obtain⟨f,g⟩:=m 0 (by simp);simp only[lA]at f g;obtain⟨q,o⟩:=h.store k f l g d.1;obtain⟨E,C,n,t,y,_⟩:=(h.k b (fD+i)).box f g;rw[k]at n;cases n;have u:ch c=false:=by cases c<;>first|rfl|exact d.1.elim
  have p:ch (I (bs st.k b (fD+i) c) b 0)=false:=by rw[eK];split;exact u;exact l
  obtain⟨ag,r,s,A⟩:=aU.ahU (fD:=fD) k cs e (i+1) ⟨st.n,bs st.k b (fD+i) c⟩ _ q p (fun j B=>by
   rw[eK,bH (by omega)];have:=m (j+1) (by simp;omega);rwa [show fD+i+(j+1)=fD+(i+1)+j by omega]at this) (d.2.imp fun _ _=>cf.step o)
  refine⟨ag,?_,s,o.trans A⟩;have z:=ahz (P:=P) w ⟨x,fD+i,none⟩ (cf.one d.1) t y;simp only[storeCells,Sem.run_bind,Addr.add_lit,z,Result.andThen];exact r
end
def c2(b:Bool)(p:Prop):Prop:=
 match b with
 |true=>p
 |false=>False
theorem aD{b:Bool}{p:Prop} :c2 b p↔b=true∧p:=by cases b<;>simp [c2]
def nC(a:Option Prop)(p:Prop):Prop:=
 match a with
 |none=>p
 |some q=>q∧p
theorem pt{a:Option Prop}{p:Prop} :nC a p↔nC a True∧p:=by cases a<;>simp [nC]
def lC(P:Program)(f:FuncId):Prop:= ∃a c,P.funcs[f]? =some a∧a.body=some c∧(a.name== "runtime.NumGoroutine")=false
structure Env where
 P:Program
 ty:TypeId→Option bB
 spec:FuncId→List J→Option (Option Prop×J)
 /--aDS many blocks have aD6 handed on to aV function ih is looked at. -/
 m:Nat:=0
 /--fK aL do ih vn handed boxes. -/
 nr:FuncId→List J→Heap→Option (Option Prop×List J×Heap):=fun _ _ _=>none
 /--aD3 aL vn handed kQ of aV Xn own,or hand ahO back. -/
 eh:FuncId→Bool:=fun _=>false
structure Env.dq (E:Env):Prop where
 ty: ∀T t,E.ty T=some t→gu E.P T t
 mixed:E.P.follows .mixedOrders=true
 spec: ∀f args pre r,E.spec f args=some (pre,r)→lC E.P f∧(nC pre True→cY E.P f args r)
 nr: ∀f args H pre rs al,E.nr f args H=some (pre,rs,al)→lC E.P f∧(nC pre True→fj E.P f args H rs al)
def OV:Value→J
 | .int k n=> .int k n
 | .bool b=> .lit b
 | .string s=>match Nat.ble s.size dm with
   |true=> .str s
   |false=> .undef
 | .slice none 0 0=> .aE
 |_=> .undef
def aC(a:List J):Operand→J
 | .tmp t=>a.getD t .undef
 | .const v=>OV v
 | .func f=> .fn f []
 | .global g=>pa g uy
abbrev bX:=List (Nat×Nat×J)
def bt(H:Heap):bX→Heap
 |[]=>H
 |(b,o,ab)::r=>bt (bs H b o ab) r
def hL(b:Nat):List J→Nat→bX
 |[],_=>[]
 |c::cs,o=>(b,o,c)::hL b cs (o+1)
theorem KF(b:Nat): ∀(cs:List J) (o:Nat) (H:Heap),bt H (hL b cs o)=pc H b cs o
 |[],_,_=>rfl
 |c::cs,o,H=>by simp [hL,bt,pc,KF b cs]
def cellsOf:J→List J
 | .agg cs=>cs
 |ab=>[ab]
def nH:J→Bool
 | .undef| .gone| .c9 _| .ae .. =>false
 |_=>true
def vv:J→Bool
 | .undef| .ae .. =>false
 |_=>true
def ks(H:Heap)(b o n:Nat):List J:=(List.range n).map fun j=>I H b (o+j)
def oR:Bool→List J→J
 |true,cs=> .agg cs
 |false,cs=>match cs.headD .undef with
  | .gone=> .undef
  |c=>c
def FR(c:Bool)(x y:J)(K:J→Prop):Prop:=
 match c with
 |true=>K x
 |false=>K y
def AV(a:Bool)(ab:J)(K:J→Prop):Prop:=
 match a with
 |true=>match ab with
  | .bool b=>(b=true→K (.lit true))∧(b=false→K (.lit false))
  |ab=>K ab
 |false=>K ab
def Fy:J→J
 | .lit b=> .bool b
 |ab=>ab
def eE:J→J
 | .agg cs=> .agg (cs.map Fy)
 |ab=>Fy ab
def nx(t:bB)(H:Heap)(x:J)(K:J→Prop):Prop:=
 match x with
 | .ptr b o=>c2 ((ks H b o t.size).all vv) (K (oR t.d.isAgg (ks H b o t.size)))
 | .ref cs=>c2 (decide (t.size≤cs.length)) (K (oR t.d.isAgg (cs.take t.size)))
 | .fl b k i o=>match I H b 0 with
   | .ae _ a n f=>k=n∧i<n∧c2 (decide (o+t.size≤a)) (K (oR t.d.isAgg (((f i).drop o).take t.size)))
   |_=>False
 |_=>False
def mW:J→Bool
 | .int .. | .bool _| .str _| .aE| .arr .. | .ref _=>true
 |_=>false
def Xp:J→Bool
 | .ptr .. =>true
 |x=>mW x
def nZ:J→Bool
 | .int .. | .bool _| .str _| .aE| .arr .. | .ref _=>true
 | .fn _ a=>a.all mW
 |_=>false
def zq:J→Bool
 | .agg cs=>cs.all nZ
 |ab=>nZ ab
def qL(cs:List J):List J→Nat→List J
 |[],_=>cs
 |c::r,o=>qL (cs.set o c) r (o+1)
def Mj(f:Nat→List J)(i o:Nat)(cs:List J)(j:Nat):List J:=bif Nat.beq j i then qL (f j) cs o else f j
def LN:J→Bool
 | .int .. | .bool _| .str _=>true
 |_=>false
def s3(t:bB)(H:Heap)(x v:J)(K:bX→Prop):Prop:=
 match x with
 | .ptr b o=>c2 (nH v&&decide ((cellsOf v).length=t.size)&&(ks H b o t.size).all vv&& !(ch (I H b 0))) (K (hL b (cellsOf v) o))
 | .fl b k i o=>match I H b 0 with
   | .ae c a n f=>c2 (!c&&decide (o+t.size≤a)&&nH (eE v)&&decide ((cellsOf (eE v)).length=t.size)&&(cellsOf (eE v)).all nZ&& !((cellsOf (eE v)).isEmpty))
     (k=n∧i<n∧ ∃h:Nat→List J,(∀j,j<n→Mj f i o (cellsOf (eE v)) j=h j)∧K [(b,0,.ae false a n h)])
   |_=>False
 |_=>False
def rN(t:bB)(H:Heap)(f:Nat)(x:J)(K:J→Prop):Prop:=
 match t.d with
 | .struct c=>match c[f]? with
   |some (a,_)=>match x with
    | .ptr b o=>K (.ptr b (o+a))
    | .ref cs=>K (.ref (cs.drop a))
    | .fl b k i o=>match I H b 0 with
      | .ae _ _ n _=>k=n∧K (.fl b k i (o+a))
      |_=>False
    |_=>False
   |none=>False
 |_=>False
def sx(t:bB)(H:Heap)(x i:J)(K:J→Prop):Prop:=
 match t.d with
 | .slice _ a _=>match i with
   | .int _ z=>match x with
     | .arr c n f=>c2 (decide (c=a)) ((0≤z∧z<n)∧K (.ref ((f z.toNat).take c)))
     | .own b k=>match I H b 0 with
       | .ae _ c n _=>c2 (decide (c=a)) (k=n∧(0≤z∧z<n)∧K (.fl b k z.toNat 0))
       |_=>False
     |_=>False
   |_=>False
 | .array n _ a=>match i with
   | .int _ z=>match x with
     | .ptr b o=>c2 (decide (0≤z)&&decide (z<n)) (K (.ptr b (o+z.toNat*a)))
     | .ref cs=>c2 (decide (0≤z)&&decide (z<n)) (K (.ref (cs.drop (z.toNat*a))))
     |_=>False
   |_=>False
 |_=>False
def uG(E:TypeId→Option bB)(t:bB)(x i:J)(K:J→Prop):Prop:=
 match t.d with
 | .array n e a=>match i with
   | .int _ z=>match x with
     | .agg cs=>match E e with
       |some u=>c2 (decide (0≤z)&&decide (z<n)&&decide (u.size=a)&&decide (z.toNat*a+a≤cs.length)) (K (oR u.d.isAgg ((cs.drop (z.toNat*a)).take a)))
       |none=>False
     |_=>False
   |_=>False
 |_=>False
def uJ(c:BinOp)(k:IntKind)(a b:Int)(K:J→Prop):Prop:=
 match c with
 | .add=>K (.int k (k.wrap (a+b)))
 | .sub=>K (.int k (k.wrap (a-b)))
 | .mul=>K (.int k (k.wrap (a*b)))
 | .eql=>K (.bool (a==b))
 | .neq=>K (.bool (a !=b))
 | .lss=>K (.bool (decide (a<b)))
 | .leq=>K (.bool (decide (a≤b)))
 | .gtr=>K (.bool (decide (a>b)))
 | .geq=>K (.bool (decide (a≥b)))
 | .quo=>b≠0∧K (.int k (k.wrap (a.tdiv b)))
 | .rem=>b≠0∧K (.int k (a.tmod b))
 | .and=>K (.int k (bits .and k a b))
 | .or=>K (.int k (bits .or k a b))
 |_=>False
def KR:BinOp→Bool
 | .shl| .shr=>true
 |_=>false
def Mb(c:BinOp)(k:IntKind)(a b:Int)(K:J→Prop):Prop:=
 (0≤b∧b≤k.bits)∧match c with
  | .shl=>K (.int k (k.wrap (a*2^b.toNat)))
  | .shr=>K (.int k (a/2^b.toNat))
  |_=>False
def oT(t:bB)(c:BinOp)(x y:J)(K:J→Prop):Prop:=
 match x,y with
 | .int k a,.int e b=>match KR c with
   |true=>Mb c k a b K
   |false=>c2 (decide (k=e)) (uJ c k a b K)
 | .bool a,.bool b=>match t.d with
   | .bool=>match c with
     | .eql=>K (.bool (a==b))
     | .neq=>K (.bool (!(a==b)))
     |_=>False
   |_=>False
 | .str a,.str b=>match c with
   | .eql=>K (.bool (a.toList==b.toList))
   | .neq=>K (.bool (!(a.toList==b.toList)))
   | .leq=>K (.bool (Op.bytesLess a.toList b.toList||a.toList==b.toList))
   | .gtr=>K (.bool (!(Op.bytesLess a.toList b.toList||a.toList==b.toList)))
   | .lss=>K (.bool (Op.bytesLess a.toList b.toList))
   | .geq=>K (.bool (!Op.bytesLess a.toList b.toList))
   | .add=>a.size+b.size≤dm∧K (.str (a++b))
   |_=>False
 | .agg cs,.agg d=>c2 (t.cmp&&hy t.zero cs&&hy t.zero d) (match c with
   | .eql=>K (.bool (jh cs d))
   | .neq=>K (.bool (!(jh cs d)))
   |_=>False)
 |_,_=>False
def yy(a:UnOp)(x:J)(K:J→Prop):Prop:=
 match a,x with
 | .not,.bool b=>K (.bool (!b))
 | .not,.lit b=>K (.lit (!b))
 | .neg,.int k n=>K (.int k (k.wrap (0-n)))
 |_,_=>False
def mV(c:List (Nat×Nat))(a:List J):List (Nat×Operand)→List J→(List J→Prop)→Prop
 |[],cs,K=>K cs
 |(i,x)::r,cs,K=>match c[i]? with
  |some (b,d)=>c2 (nH (aC a x)&&decide ((cellsOf (aC a x)).length=d)&&decide (b+d≤cs.length)) (mV c a r (qL cs (cellsOf (aC a x)) b) K)
  |none=>False
def pk(H:Heap)(x:J)(K:J→Prop):Prop:=
 match x with
 | .arr _ n _=>K (.int .i64 n)
 | .aE=>K (.int .i64 0)
 | .str s=>K (.int .i64 s.size)
 | .own b k=>match I H b 0 with
   | .ae _ _ n _=>k=n∧K (.int .i64 n)
   |_=>False
 |_=>False
def iv(H:Heap)(x:J)(K:J→Prop):Prop:=
 match x with
 | .own b k=>match I H b 0 with
   | .ae _ a n f=>k=n∧K (.arr a n f)
   |_=>False
 | .lit b=>K (.bool b)
 |ab=>c2 (nZ ab) (K ab)
def lH(H:Heap):List J→(List J→Prop)→Prop
 |[],K=>K []
 |x::r,K=>iv H x fun y=>lH H r fun a=>K (y::a)
def ku(H:Heap)(x:J)(K:J→Prop):Prop:=
 match x with
 | .agg cs=>lH H cs fun a=>K (.agg a)
 |ab=>iv H ab K
def mh(H:Heap):List J→(List J→Prop)→Prop
 |[],K=>K []
 |x::r,K=>ku H x fun y=>mh H r fun a=>K (y::a)
def UU:J→Bool
 | .int .. | .bool _| .str _=>true
 |_=>false
def UW:J→Bool
 | .agg cs=>cs.all UU
 |ab=>UU ab
def Bu:J→Bool
 | .c9 a=>a.all UW
 |ab=>UW ab
def sV(H:Heap):J→bX
 | .own b _=>match I H b 0 with
   | .ae _ a n f=>[(b,0,.ae true a n f)]
   |_=>[]
 |_=>[]
def Br(H:Heap):J→bX
 | .agg cs=>cs.flatMap (sV H)
 |ab=>sV H ab
def ev(H:Heap)(l:List J):bX:=l.flatMap (Br H)
def sU(aA:Nat)(r:J)(a:bX)(K:J→bX→Prop):Prop:=
 match r with
 | .ae _ b n f=>K (.own aA n) (a++[(aA,0,.ae false b n f)])
 |r=>K r a
def nF(H:Heap)(r:J)(aa:List J):bX:=
 match Bu r||aa.all zq with
 |true=>[]
 |false=>ev H aa
def tr(E:Env)(H:Heap)(aA:Nat)(f:FuncId)(a:List J)(K:J→bX→Prop):Prop:=
 mh H (a.map eE) fun b=>match E.spec f b with
  |some (c,r)=>nC c (sU aA r (nF H r (a.map eE)) K)
  |none=>False
def zj(i:Nat)(x:J)(K:J→Prop):Prop:=
 match x with
 | .c9 a=>c2 (decide (i<a.length)) (K (a.getD i .undef))
 |_=>False
def vr(s:ByteArray)(i:Nat):List J:=[.int .u8 ((s.data.toList.getD i 0).toNat:Int)]
def mM(H:Heap)(a:Bool)(c:Nat)(y:J)(K:Nat→(Nat→List J)→Prop):Prop:=
 match y with
 | .aE=>c2 (!a) (K 0 fun _=>[])
 | .arr d n f=>c2 (!a&&decide (d=c)) (K n f)
 | .str s=>c2 (a&&decide (c=1)) (K s.size (vr s))
 | .own b k=>match I H b 0 with
   | .ae _ d n f=>c2 (!a&&decide (d=c)) (k=n∧K n f)
   |_=>False
 |_=>False
def hJ(n:Nat)(f g:Nat→List J)(i:Nat):List J:=bif Nat.blt i n then f i else g (i-n)
def nR(t:bB)(j:Bool)(H:Heap)(aA:Nat)(x y:J)(K:J→bX→Prop):Prop:=
 match t.d with
 | .slice _ a d=>c2 (Nat.ble d 256&&Nat.blt 0 a) (mM H j a y fun m g=>match x with
   | .aE=>m≤dm∧K (.own aA m) [(aA,0,.ae false a m g)]
   | .own b k=>match I H b 0 with
     | .ae e c n f=>c2 (!e&&decide (c=a)) (k=n∧n+m≤dm∧ ∃h:Nat→List J,(∀i,i<n+m→hJ n f g i=h i)∧K (.own b (n+m)) [(b,0,.ae false a (n+m) h)])
     |_=>False
   | .jV c n f=>c2 (decide (c=a)) (0<m∧n+m≤dm∧ ∃h:Nat→List J,(∀i,i<n+m→hJ n f g i=h i)∧K (.own aA (n+m)) [(aA,0,.ae false a (n+m) h)])
   |_=>False)
 |_=>False
def TO(x y:J):Prop:=x=y∨(x= .aE∧ ∃a h,y= .arr a 0 h)
def kc:List J→List J→Prop
 |[],[]=>True
 |x::a,y::b=>TO x y∧kc a b
 |_,_=>False
theorem x_: ∀l:List J,kc l l
 |[]=>trivial
 |_::l=>⟨.inl rfl,x_ l⟩
theorem LB: ∀{b c:List J} (j:Nat) (x:J),kc b c→b[j]? =some x→ ∃y,c[j]? =some y∧TO x y
 |[],[],_,_,_,h=>by simp at h
 |x::b,y::c,0,z,h,a=>by
  simp at a;subst a;exact⟨y,rfl,h.1⟩
 |x::b,y::c,j+1,z,h,a=>by simpa using LB j z h.2 (by simpa using a)
 |[],_::_,_,_,h,_=>h.elim
 |_::_,[],_,_,h,_=>h.elim
theorem TP{w:World}{F:Nat→Prop}{x y:J}{v:Value}(h:TO x y)(k:aR w F x v):aR w F y v:=by
 rcases h with rfl|⟨rfl,a,g,rfl⟩
 ·exact k
 ·cases k;exact .nil a g
def Y7:J→Bool
 | .own .. =>true
 |x=>nZ x
def m1(H:Heap):List (List J)→(List (List J)→Prop)→Prop
 |[],K=>K []
 |l::r,K=>lH H l fun y=>m1 H r fun a=>K (y::a)
def kM(b:Nat)(a:List J):List (Nat×Operand)→Nat→Option (List (List J))
 |[],_=>some []
 |(i,x)::r,k=>match Nat.beq i k&&(nH (eE (aC a x))&&Nat.beq (cellsOf (eE (aC a x))).length b&&(cellsOf (eE (aC a x))).all Y7)with
  |true=>match kM b a r (k+1)with
   |some l=>some (cellsOf (eE (aC a x))::l)
   |none=>none
  |false=>none
def pW(t:bB)(e:List J)(H:Heap)(aA a:Nat)(d:List (Nat×Operand))(K:J→bX→Prop):Prop:=
 match t.d with
 | .slice _ b _=>match kM b e d 0 with
   |some l=>c2 (Nat.beq l.length a&&Nat.ble a 4096&&Nat.ble b 4096&&Nat.blt 0 b) (m1 H l fun c=> ∃h:Nat→List J,(∀i,i<a→kc (c.getD i []) (h i))∧K (.own aA a) (ev H l.flatten++[(aA,0,.ae false b a h)]))
   |none=>False
 |_=>False
def qO(E:Env)(t:bB)(d:List J)(aA:Nat)(l c:Operand)(K:J→bX→Prop):Prop:=
 match t.d with
 | .slice e a f=>match E.ty e with
   |some b=>match aC d l with
    | .int _ z=>match aC d c with
      | .int _ g=>c2 (b.zero.all LN&&Nat.beq b.zero.length a&&Nat.ble a 4096&&Nat.ble f 4096&&Nat.blt 0 a) ((z=g∧0≤z∧z≤4096)∧K (.own aA z.toNat) [(aA,0,.ae false a z.toNat fun _=>b.zero)])
      |_=>False
    |_=>False
   |none=>False
 |_=>False
def cL(a:List J)(d:Int)(o:Option Operand)(K:Int→Prop):Prop:=
 match o with
 |none=>K d
 |some x=>match aC a x with
  | .int _ z=>K z
  |_=>False
def kr(m:Option Operand)(a:Nat):Bool:=
 match m with
 |some _=>Nat.blt 1 a
 |none=>false
def sR(c:Bool)(a k:Nat)(g:Nat→List J):J:=
 match c with
 |true=> .jV a k g
 |false=> .arr a k g
def q3(t:bB)(H:Heap)(d:List J)(x:J)(l h m:Option Operand)(K:J→bX→Prop):Prop:=
 c2 (h.isSome|| !(m.isSome)) (match t.d with
 | .slice _ j _=>match x with
   | .arr e n f=>c2 (decide (e=j)) (cL d 0 l fun c=>cL d n h fun a=>cL d a m fun g=>
     ((0≤c∧c≤a∧a≤g∧g≤n)∧(kr m e=true→a=g))∧K (sR (kr m e) e (a-c).toNat fun i=>f (c.toNat+i)) [])
   | .aE=>cL d 0 l fun c=>cL d 0 h fun a=>cL d a m fun g=>(c=0∧a=0∧g=0)∧K .aE []
   | .own b k=>match I H b 0 with
     | .ae o e n f=>c2 (decide (e=j)) (k=n∧cL d 0 l fun c=>cL d n h fun a=>cL d a m fun g=>
       ((0≤c∧c≤a∧a≤g∧g≤n)∧(kr m e=true→a=g))∧K (sR (kr m e) e (a-c).toNat fun i=>f (c.toNat+i)) [(b,0,.ae true e n f)])
     |_=>False
   |_=>False
 | .string=>match x with
   | .str s=>match m with
     |none=>cL d 0 l fun c=>cL d s.size h fun a=>(0≤c∧c≤a∧a≤s.size)∧K (.str (s.extract c.toNat a.toNat)) []
     |some _=>False
   |_=>False
 |_=>False)
def aic:J→Nat
 | .int _ z=>z.toNat
 |_=>0
def E6:J→Bool
 | .int .u8 _=>true
 |_=>false
def bytesOf(n:Nat)(f:Nat→List J):ByteArray:=⟨((List.range n).map fun i=>UInt8.ofNat (aic ((f i).getD 0 .undef))).toArray⟩
def nS(t:bB)(b:Option bB):Bool:=
 match t.d with
 | .slice _ a _=>Nat.beq a 1&&(match b with
   |some c=>match c.d with
    | .int .u8=>true
    |_=>false
   |none=>false)
 |_=>false
def ry.isStr:ry→Bool
 | .string=>true
 |_=>false
def ry.sz:ry→Bool
 | .slice .. =>true
 |_=>false
def rI(t u:bB)(a:Option bB)(H:Heap)(x:J)(K:J→Prop):Prop:=
 match x with
 | .int _ z=>match u.d with
   | .int k=>match t.d with
     | .int _=>K (.int k (k.wrap z))
     |_=>False
   |_=>False
 | .str s=>match t.d with
   | .string=>match u.d with
     | .string=>K (.str s)
     |_=>c2 (nS u a) (K (.arr 1 s.size (vr s)))
   |_=>False
 | .arr c n f=>c2 (u.d.isStr&&nS t a&&Nat.beq c 1) ((∀i,i<n→E6 ((f i).getD 0 .undef)=true)∧K (.str (bytesOf n f)))
 | .aE=>c2 (u.d.isStr&&nS t a) (K (.str ⟨#[]⟩))
 | .own b d=>match I H b 0 with
   | .ae _ c n f=>c2 (u.d.isStr&&nS t a&&Nat.beq c 1) (d=n∧(∀i,i<n→E6 ((f i).getD 0 .undef)=true)∧K (.str (bytesOf n f)))
   |_=>False
 |_=>False
def x3(x y:J)(K:J→Prop):Prop:=
 match x,y with
 | .int k a,.int c b=>c2 (decide (k=c)) (K (.int k (cond (decide (b<a)) b a)))
 |_,_=>False
def x2(x y:J)(K:J→Prop):Prop:=
 match x,y with
 | .int k a,.int c b=>c2 (decide (k=c)) (K (.int k (cond (decide (b>a)) b a)))
 |_,_=>False
section
variable {E:Env} {S:dR} {ι:Nat→Option Nat} {st:D} {a:Act} {w:World}
abbrev bk(S:dR)(ι:Nat→Option Nat)(H:Heap)(w:World):J→Value→Prop:=ek ι H w (aM S ι H w)
abbrev ej(S:dR)(ι:Nat→Option Nat)(H:Heap)(w:World):J→Value→Prop:=cf ι H w (aM S ι H w)
theorem anG{H:Heap}{F:Nat→Prop}(v:Value):ek ι H w F (OV v) v:=by
 unfold OV
 split
 ·exact aR.int _ _
 ·exact aR.lit _
 ·split
  ·rename_i a;exact aR.str _ (gW a)
  ·trivial
 ·exact aR.aE
 ·trivial
theorem aU.eval(h:aU S ι st a w)(x:Operand):bk S ι st.k w (aC st.n x) (a.eval x):=by
 cases x with
 |tmp t=>
  simp only[aC,Act.eval]
  cases e:st.n[t]? with
  |none=>simp only[List.getD,e];trivial
  |some ab=>
   obtain⟨v,b,c⟩:=h.n t ab e;have:a.tmps.getD t undef=v:=by simp [Gj,b]
   rw[this];simp only[List.getD,e];exact c
 |const v=>exact anG v
 |global g=>
  simp only[aC,Act.eval];rcases adq g uy with e|⟨cs,e⟩
  ·rw[e];trivial
  ·rcases h.ux g with k|k
   ·rw[k]at e;cases e
   ·rw[e]at k ⊢;exact k
 |func f=>exact⟨[],rfl,trivial⟩
theorem iH.A_{H:Heap}{F:Nat→Prop}{ab:J}{v:Value}(h:aR w F ab v):iH ι H w F ab v:=by
 cases h<;>simp only[iH]<;>constructor<;>assumption
theorem cf.A_{H:Heap}{F:Nat→Prop}{ab:J}{v:Value}(h:aR w F ab v):cf ι H w F ab v:=by
 cases h with
 |int k n=>exact .int k n
 |bool b=>exact .bool b
 |lit b=>exact .lit b
 |str s r=>exact .str s r
 |aE=>exact .aE
 |jq=>exact .jq
 |jV d n f p c h D=>exact aR.jV d n f p c h D
 |nil d f=>exact .nil d f
 |mt d f a c=>exact .mt d f a c
 |arr d n f b o c g m G r q e j l=>exact .arr d n f b o c g m G r q e j l
 |ref cs b o g m q e j l=>exact .ref cs b o g m q e j l
 |fn f A m g u E e j l=>
  refine⟨m,rfl,aY.mk E.symm fun i x y z I=>iH.A_ ?_⟩;have t:i<A.length:=by
   rcases fh i A.length with h|h
   ·exact h
   ·rw[e0 h]at z;cases z
  have B:=e i t;have C:=j i t;rw[z]at B;rw[I]at C
  cases B;cases C
  exact l i t
theorem cf.p1{H:Heap}{F:Nat→Prop}{ab:J}{v:Value}(h:cf ι H w F ab v)(k:nZ ab=true):aR w F ab v:=by
 cases ab<;>first|exact h|(cases k;done)|skip
 rename_i f a;obtain⟨d,rfl,e⟩:=h;have o:=e.length;refine .fn f a d (fun j=>a.getD j .undef) (fun j=>d.getD j undef) o.symm (fun j b=>by simp [List.getD,cT b]) (fun j b=>by simp [List.getD,cT (show j<d.length by omega)]) fun j b=> ?_;obtain⟨v,l,g⟩:=e.get j a[j] (cT b);have m:a.getD j .undef=a[j]:=by simp [List.getD,cT b]
 have n:d.getD j undef=v:=by simp [List.getD,l]
 rw[m,n];have i:=dw.1 k a[j] (vf b);generalize a[j]=c at g i
 cases c<;>first|(cases i;done)|exact g
theorem ek.p1{H:Heap}{F:Nat→Prop}{ab:J}{v:Value}(h:ek ι H w F ab v)(a:zq ab=true):fi w F ab v:=by
 cases ab
 case agg cs=>
  obtain⟨g,rfl,b⟩:=h;refine⟨g,rfl,aY.mk b.length fun i x y c f=> ?_⟩;obtain⟨j,d,e⟩:=b.get i x c;rw[f]at d;cases d;exact cf.p1 e (dw.1 a x (e4 c))
 case undef=>cases a
 case gone=>cases a
 case c9=>cases a
 case ae=>cases a
 all_goals exact cf.p1 (show cf ι H w F _ _ from h) a
theorem aR.agj{F:Nat→Prop}{v:Value}(h:aR w F .gone v):False:=by cases h
theorem fX.LF{H:Heap}{F:Nat→Prop}{ab:J}{v:Value}(h:fi w F ab v):fX ι H w F ab v:=by
 cases ab
 case agg cs=>
  obtain⟨b,rfl,a⟩:=h;exact⟨b,rfl,a.imp fun _ _=>cf.A_⟩
 case undef=>exact h.elim
 case gone=>exact(aR.agj h).elim
 all_goals exact(cf.A_ (ι:=ι) (H:=H) (show aR w F _ _ from h):cf ι H w F _ _)
theorem ek.yc{H:Heap}{F:Nat→Prop}{ab:J}{v:Value}(h:fX ι H w F ab v):ek ι H w F ab v:=by
 cases ab<;>first|trivial|exact h|exact False.elim h
theorem ek.TQ{H:Heap}{F:Nat→Prop}{ab:J}{v:Value}(h:jS w F ab v):ek ι H w F ab v:=by
 cases ab<;>simp only[jS]at h<;>first|exact ek.yc (fX.LF h)|skip
 obtain⟨b,rfl,a⟩:=h;exact⟨b,rfl,a.imp fun _ _=>fX.LF⟩
theorem ek.cells{H:Heap}{F:Nat→Prop}{ab:J}{v:Value}(h:ek ι H w F ab v)(b:nH ab=true):aY (cf ι H w F) (cellsOf ab) v.cells.toList:=by
 have c:cf ι H w F ab v→aY (cf ι H w F) [ab] v.cells.toList:=fun k=>by
  have:=cf.one k
  cases v<;>first|(cases this;done)|exact⟨k,trivial⟩
 cases ab<;>first|(cases b;done)|exact c h|skip
 obtain⟨d,rfl,a⟩:=h;simpa[Value.cells,cellsOf]using a
theorem aU.ks(h:aU S ι st a w){b o n:Nat}(C:(ks st.k b o n).all vv=true):
  ∃p:List Value,p.length=n∧aY (ej S ι st.k w) (ks st.k b o n) p∧(0<n→ ∃x,ι b=some x∧ ∀(j:Nat) v,p[j]? =some v→w.cell? ⟨x,o+j,none⟩=some v):=by
 have r: ∀j,j<n→I st.k b (o+j)≠ .undef∧ch (I st.k b (o+j))=false:=fun j c=>by
  have:=dw.1 C (I st.k b (o+j)) (by simp [ah.ks];exact⟨j,c,rfl⟩)
  cases e:I st.k b (o+j)<;>rw[e]at this<;>simp_all [vv,ch]
 have s: ∀j,j<n→ ∃v,(∃x,ι b=some x∧w.cell? ⟨x,o+j,none⟩=some v)∧ej S ι st.k w (I st.k b (o+j)) v:=fun j c=>by
  obtain⟨x,v,z,A,_,B⟩:=(h.k b (o+j)).box (r j c).1 (r j c).2;exact⟨v,⟨x,z,A⟩,B⟩
 have H: ∃f:Nat→Value,∀j,j<n→(∃x,ι b=some x∧w.cell? ⟨x,o+j,none⟩=some (f j))∧ej S ι st.k w (I st.k b (o+j)) (f j):=by
  refine⟨fun j=>if c:j<n then(s j c).choose else undef,fun j c=> ?_⟩;simp only[c,dif_pos];exact(s j c).choose_spec
 obtain⟨f,l⟩:=H;refine⟨(List.range n).map f,by simp,aY.mk (by simp [ah.ks]) fun i x y k u=> ?_,fun G=> ?_⟩
 ·simp only[ah.ks,fq,jQ]at k u;obtain⟨g,d,rfl⟩:=k;obtain⟨J,q,rfl⟩:=u;have m:g<n:=by have:=e4 d;simpa using this
  rw[d]at q;cases q;exact(l g m).2
 ·obtain⟨x,k,_⟩:=(l 0 G).1;refine⟨x,k,fun j v c=> ?_⟩;simp only[fq,jQ]at c;obtain⟨g,d,rfl⟩:=c;have m:g<n:=by have:=e4 d;simpa using this
  have E:g=j:=by
   have F:j<n:=by
    rcases fh j n with h|h
    ·exact h
    ·rw[e0 (by simpa using h)]at d;cases d
   rw[BK F]at d
   cases d;rfl
  subst E;obtain⟨K,t,D⟩:=(l g m).1;rw[k]at t;cases t;exact D
end
section
variable {E:Env} {S:dR} {ι:Nat→Option Nat} {st:D} {a:Act} {w:World}
theorem dk{P:Program}{o:Oper}{next:Act→World→Prop}{Q:Exit→Act→World→Prop}{v:Value}{ag:World}(c:(execOp a.eval o).run P w= .ok (.value v) ag)(b:next (a.put o.dst v) ag):o.wp P a w next Q:=by
 unfold Oper.wp;rw[c];exact b
theorem ain{P:Program}{o:Oper}{next:Act→World→Prop}{Q:Exit→Act→World→Prop}{ag:World}(c:(execOp a.eval o).run P w= .ok .skip ag)(b:next (a.put o.dst undef) ag):o.wp P a w next Q:=by
 unfold Oper.wp;rw[c];exact b
theorem adS(b:Nat): ∀(cs:List J) (o:Nat) (H:Heap) (d a:Nat),I (pc H b cs o) d a=if d=b∧o≤a∧a<o+cs.length then cs.getD (a-o) .undef else I H d a
 |[],o,H,d,a=>by simp [pc];omega
 |c::cs,o,H,d,a=>by
  rw[pc,adS b cs (o+1)]
  by_cases e:d=b∧o+1≤a∧a<o+1+cs.length
  ·rw[bF e,bF ⟨e.1,by omega,by simp;omega⟩,show a-o=(a- (o+1))+1 by omega];simp
  ·rw[bH e,eK]
   by_cases f:d=b∧a=o
   ·rw[bF f,bF ⟨f.1,by omega,by simp;omega⟩,show a-o=0 by omega];simp
   ·rw[bH f,bH (by simp only[fr];omega)]
theorem uO(H:Heap)(b o:Nat)(c:J):H.length≤(bs H b o c).length∧b<(bs H b o c).length:=l1 _ _ _ _
theorem afE(b:Nat): ∀(cs:List J) (o:Nat) (H:Heap),H.length≤(pc H b cs o).length∧(cs≠[]→b<(pc H b cs o).length)
 |[],_,_=>⟨bx _,fun h=>absurd rfl h⟩
 |c::cs,o,H=>by
  have a:=uO H b o c;have d:=(afE b cs (o+1) (bs H b o c)).1;exact⟨fg a.1 d,fun _=>gG a.2 d⟩
theorem eg.ext{H al:Heap}(a: ∀b o,I al b o=I H b o):eg ι H w (aM S ι H w) ι al w (aM S ι al w):=by
 refine⟨fun x ⟨d,e,g⟩=>⟨d,e,fun b c=>g b (nG (a b) c)⟩,fun _ _ _=>rfl,fun b x j c=>⟨j,by rw[a];exact c⟩,fun b k l n f i=>⟨k,_,n,f,by rw[a];exact i,bx _,fun _=>⟨rfl,rfl,fun x C T _ h=>⟨C,h,rfl⟩⟩⟩⟩
theorem aU.ext{n:List J}{H al:Heap}(h:aU S ι ⟨n,H⟩ a w)(d: ∀b o,I al b o=I H b o)(g: ∀b x,ι b=some x→b<al.length):aU S ι ⟨n,al⟩ a w:=by
 have c:eg ι H w (aM S ι H w) ι al w (aM S ι al w):=eg.ext d;refine⟨h.below,h.defers,fun t ab i=> ?_,fun b o=> ?_,h.inj,h.fresh,g,h.gB.trans c⟩
 ·obtain⟨v,e,f⟩:=h.n t ab i;exact⟨v,e,f.step c⟩
 ·show eQ ι al w _ b o (I al b o);rw[d];exact(h.k b o).step c (fun _=>rfl) (fun _ _ _=>⟨rfl,rfl⟩) (fun _=>⟨rfl,fun _ _=>rfl⟩)
theorem so{H:Heap}{b:Nat}(h:H.length≤b)(o:Nat):I H b o= .undef:=by
 simp [I,List.getD,e0 h]
theorem aU.Ls(h:aU S ι st a w){b:Nat}(c:st.k.length≤b):ι b=none:=by
 cases e:ι b with
 |none=>rfl
 |some x=>have:=h.gw b x e;omega
theorem BB(ι:Nat→Option Nat)(aA x:Nat): ∀b,cz ι aA x b≠none→ι b≠none∨b=aA:=fun b h=>by
 unfold cz at h
 by_cases e:b=aA
 ·exact .inr e
 ·simp only[e,mP]at h;exact .inl h
theorem aU.agd(h:aU S ι st a w){b:Nat}(i: ∀o,I st.k b o= .undef)(r:ι b=none)(cs:List J)(n:cs≠[])(d:List Value)(T:TypeId)(q:aY (ej S ι st.k w) cs d):
  aU S (cz ι b w.heap.size) ⟨st.n,bt st.k (hL b cs 0)⟩ a (w.alloc (.cells d.toArray T))∧
  bk S (cz ι b w.heap.size) (bt st.k (hL b cs 0)) (w.alloc (.cells d.toArray T)) (.ptr b 0) (.pointer (some ⟨w.heap.size,0,none⟩)):=by
 obtain⟨l,_,m⟩:=h.ayZ b i r cs d T q;have g: ∀c o,I (bt st.k (hL b cs 0)) c o=I (mE st.k b cs) c o:=fun c o=>by
  rw[KF,adS,EI]
  by_cases e:c=b
  ·subst e
   by_cases p:o<cs.length
   ·rw[bF ⟨rfl,by omega,by omega⟩,bF rfl];simp
   ·rw[bH (by omega),bF rfl,i];simp [List.getD,e0 (Nat.le_of_not_lt p)]
  ·rw[bH (fun k=>e k.1),bH e]
 refine⟨l.ext g fun c x f=> ?_,?_⟩
 ·rw[KF];have j:=afE b cs 0 st.k;unfold cz at f
  by_cases e:c=b
  ·rw[e];exact j.2 n
  ·simp only[e,mP]at f;exact gG (h.gw _ _ f) j.1
 ·exact cf.step (eg.ext (S:=S) g) m
theorem k1.rel{H:Heap}{F:Nat→Prop}{ab:J}{v:Value}(h:k1 ab v):cf ι H w F ab v:=by
 cases ab<;>simp only[k1]at h<;>first|(subst h;constructor)|exact h|exact h.elim|(obtain⟨rfl,a⟩:=h;exact aR.str _ (by omega))
theorem amG{o:Oper}{T:TypeId}{t:bB}(j:o.op= .alloc T)(e:gu E.P T t)(h:aU S ι st a w){aA:Nat}(f: ∀o,I st.k aA o= .undef)(m:ι aA=none)(g:t.zero≠[]){next:Act→World→Prop}{Q:Exit→Act→World→Prop}
  (i: ∀ay ag v,(∀b,ay b≠none→ι b≠none∨b=aA)→aU S ay ⟨st.n,bt st.k (hL aA t.zero 0)⟩ a ag→bk S ay (bt st.k (hL aA t.zero 0)) ag (.ptr aA 0) v→next (a.put o.dst v) ag):o.wp E.P a w next Q:=by
 obtain⟨z,k,l,n⟩:=aBt w e;obtain⟨c,d⟩:=h.agd f m t.zero g z.cells.toList T (l.imp fun _ _=>k1.rel);refine dk (v:= .pointer (some ⟨w.heap.size,0,none⟩)) (ag:=w.alloc (.cells z.cells T)) ?_ (i _ _ _ (BB _ _ _) (by simpa using c) (by simpa using d));simp [execOp,j,Instr.alloc,k,newVar,newRow]
theorem am5{o:Oper}{T:TypeId}{x:Operand}(i:o.op= .box T x)(h:aU S ι st a w){aA:Nat}(e: ∀o,I st.k aA o= .undef)(l:ι aA=none)(j:nH (aC st.n x)=true)(f:cellsOf (aC st.n x)≠[]){next:Act→World→Prop}{Q:Exit→Act→World→Prop}
  (g: ∀ay ag v,(∀b,ay b≠none→ι b≠none∨b=aA)→aU S ay ⟨st.n,bt st.k (hL aA (cellsOf (aC st.n x)) 0)⟩ a ag→bk S ay (bt st.k (hL aA (cellsOf (aC st.n x)) 0)) ag (.ptr aA 0) v→next (a.put o.dst v) ag):o.wp E.P a w next Q:=by
 have k:=(h.eval x).cells j;obtain⟨c,d⟩:=h.agd e l _ f _ T k;refine dk (v:= .pointer (some ⟨w.heap.size,0,none⟩)) (ag:=w.alloc (.cells (a.eval x).cells T)) ?_ (g _ _ _ (BB _ _ _) (by simpa using c) (by simpa using d));simp [execOp,i,Instr.box,newVar,newRow]
theorem WB{b:Bool}{cs:List J}{a:List Value}{H:Heap}{F:Nat→Prop}(h:aY (cf ι H w F) cs a)(d:b=false→cs.length=1):ek ι H w F (oR b cs) (rD b a):=by
 cases b with
 |true=>exact⟨a,rfl,h⟩
 |false=>
  match cs,a,h,d rfl with
  |[c],[v],h,_=>
   have:=h.1
   cases c<;>first|trivial|exact this|exact False.elim this
theorem aY.take{α β:Type}{R:α→β→Prop} : ∀{aa:List α} {a:List β} (n:Nat),aY R aa a→aY R (aa.take n) (a.take n)
 |[],[],n,_=>by simp [aY]
 |_::_,_::_,0,_=>trivial
 |_::_,_::_,n+1,h=>⟨h.1,aY.take n h.2⟩
 |[],_::_,_,h=>h.elim
 |_::_,[],_,h=>h.elim
theorem gu.one{P:Program}{T:TypeId}{t:bB}(h:gu P T t)(b:t.d.isAgg=false):t.size=1:=by
 obtain⟨d,_,_,a⟩:=h.agg;exact(a b).1
theorem K8{T:TypeId}{t:bB}{P:J}{v0:Value}(R:gu E.P T t)(h:aU S ι st a w)(O:bk S ι st.k w P v0){K:J→Prop}(s:nx t st.k P K):
  ∃(p:Addr) (ab:J) (u:Value),v0= .pointer (some p)∧K ab∧bk S ι st.k w ab u∧(loadVar T p).run E.P w= .ok u w:=by
 have I: ∀(y k:Nat) (cs:List J) (l:List Value),v0= .pointer (some ⟨y,k,none⟩)→l.length=t.size→aY (ej S ι st.k w) cs l→(∀(j:Nat) v,l[j]? =some v→w.cell? ⟨y,k+j,none⟩=some v)→K (oR t.d.isAgg cs)→
   ∃(p:Addr) (ab:J) (u:Value),v0= .pointer (some p)∧K ab∧bk S ι st.k w ab u∧(loadVar T p).run E.P w= .ok u w:=fun y k cs l e r F m x=>
  ⟨⟨y,k,none⟩,oR t.d.isAgg cs,rD t.d.isAgg l,e,x,WB F fun Z=>by rw[F.length,r,R.one Z],aBq w R y k l r m⟩
 cases P<;>simp only[nx,aD,jP]at s<;>try exact s.elim
 ·rename_i b k;obtain⟨V,R8⟩:=s;obtain⟨l,r,F,m⟩:=h.ks V;obtain⟨_,y,G,o⟩:=(show ej S ι st.k w (.ptr b k) _ from O);refine I y k _ l o r F (fun j v d=> ?_) R8;obtain⟨u_,z,asp⟩:=m (by rw[←r];rcases fh 0 l.length with h|h;exact h;rw[e0 (by omega)]at d;cases d);rw[G]at z;cases z;exact asp j v d
 ·rename_i b cP i k;obtain⟨_,ro,H,n,f,D,Q,M⟩:=(show ej S ι st.k w (.fl b cP i k) _ from O);rw[D]at s;simp only at s;obtain⟨rfl,iQ,ns,x⟩:=s;obtain⟨y,G,o⟩:=M rfl;have r:=h.k b 0;rw[D]at r;obtain⟨_,U|⟨_,r|⟨u_,C,X,z,Y,lg⟩⟩⟩:=r
  ·rw[G]at U;cases U.2.2
  ·omega
  rw[G]at z;cases z;have N: ∀j,j<t.size→ ∃v,C[i*H+(k+j)]? =some v∧ ∃c,((((f i).drop k).take t.size))[j]? =some c∧ej S ι st.k w c v:=fun j d=>by
   obtain⟨c,v,A,B,L⟩:=lg i (k+j) iQ (by omega);exact⟨v,B,c,by rw[yE d,ht];exact A,cf.A_ L⟩
  have hlen:(((f i).drop k).take t.size).length=t.size:=by
   rcases fh (((f i).drop k).take t.size).length t.size with gC|sn
   ·obtain⟨_,_,c,m,_⟩:=N _ gC;rw[e0 (bx _)]at m;cases m
   ·have:=List.length_take_le t.size ((f i).drop k);omega
  let l:=(List.range t.size).map fun j=>(C[i*H+(k+j)]?).getD undef;have W: ∀j v,l[j]? =some v→j<t.size∧C[i*H+(k+j)]? =some v:=fun j v d=>by
   have q:j<t.size:=by
    rcases fh j t.size with h|h
    ·exact h
    ·rw[e0 (by simpa[l]using h)]at d;cases d
   refine⟨q,?_⟩;simp only[l,fq,BK q,rb,hd]at d;obtain⟨aC8,g,_⟩:=N j q;rw[g]at d ⊢;simpa using d
  refine I y (i*H+k) _ l o (by simp [l]) (aY.mk (by simp [l,hlen]) fun j c v m o=> ?_) (fun j v d=> ?_) x
  ·obtain⟨q,g⟩:=W j v o;obtain⟨aC8,A,OK,B,L⟩:=N j q;rw[g]at A;cases A;rw[m]at B;cases B;exact L
  ·obtain⟨_,g⟩:=W j v d;rw[tb w y _ C X (0,0) Y,rh];exact g
 ·rename_i cs;obtain⟨V,x⟩:=s;have xv:aR w (aM S ι st.k w) (.ref cs) v0:=O
  cases xv with
  |ref _ b k g u nm D Q M=>
   have EG: ∀j c,cs[j]? =some c→j<cs.length:=fun j c d=>by
    rcases fh j cs.length with h|h
    ·exact h
    ·rw[e0 h]at d;cases d
   refine I b k (cs.take t.size) ((List.range t.size).map u) rfl (by simp) (aY.mk (by simp;omega) fun j c v m o=> ?_) (fun j v d=> ?_) x
   all_goals
    have q:j<t.size:=by
     rcases fh j t.size with h|h
     ·exact h
     ·first
       |(rw[e0 (by simpa using h)]at o;cases o;done)
       |(rw[e0 (by simpa using h)]at d;cases d;done)
   ·simp only[fq,BK q,rb,hd]at o;rw[yE q]at m;have:=EG j c m;rw[D j this]at m;cases m;subst o;exact cf.A_ (M j this)
   ·simp only[fq,BK q,rb,hd]at d;subst d;exact Q j (by omega)
theorem axY{o:Oper}{T:TypeId}{t:bB}{x:Operand}(j:o.op= .load T x)(f:gu E.P T t)(h:aU S ι st a w){K:J→Prop}(g:nx t st.k (aC st.n x) K){next:Act→World→Prop}{Q:Exit→Act→World→Prop}
  (i: ∀ab v,K ab→bk S ι st.k w ab v→next (a.put o.dst v) w):o.wp E.P a w next Q:=by
 obtain⟨p,ab,u,b,c,d,e⟩:=K8 f h (h.eval x) g;refine dk (v:=u) (ag:=w) ?_ (i _ _ c d);simp [execOp,j,b,Instr.loadAt,Instr.sureAddr,e]
end
section
variable {E:Env} {S:dR} {ι:Nat→Option Nat} {st:D} {a:Act} {w:World}
theorem agk{H:Heap}{F:Nat→Prop}{x:J}{v:Value}(h:cf ι H w F x v):cf ι H w F (Fy x) v:=by
 cases x
 case lit b=>
  have a:aR w F (.lit b) v:=h
  cases a
  exact aR.bool b
 all_goals exact h
theorem A6{H:Heap}{F:Nat→Prop}{x:J}{v:Value}(h:ek ι H w F x v):ek ι H w F (eE x) v:=by
 cases x
 case lit b=>exact agk (ι:=ι) (H:=H) (F:=F) (w:=w) (x:= .lit b) (show cf ι H w F (.lit b) v from h)
 case agg cs=>
  obtain⟨k,rfl,e⟩:=h;refine⟨k,rfl,aY.mk (by simp [e.length]) fun i p q a g=> ?_⟩;simp only[fq,jQ]at a;obtain⟨c,f,rfl⟩:=a;obtain⟨l,d,j⟩:=e.get i c f;rw[g]at d;cases d;exact agk j
 all_goals exact h
theorem F3{α:Type}(d x y:α): ∀(l:List α) (i:Nat),setAt d (setAt d l i x) i y=setAt d l i y
 |[],0=>rfl
 |[],i+1=>by simp only[setAt,F3 d x y [] i]
 |_::_,0=>rfl
 |a::aa,i+1=>by simp only[setAt,F3 d x y aa i]
theorem ats(H:Heap)(b o:Nat)(x y:J):bs (bs H b o x) b o y=bs H b o y:=by
 unfold bs;have a:(setAt [] H b (setAt .undef (H.getD b []) o x)).getD b []=setAt .undef (H.getD b []) o x:=by rw[o_,bF rfl]
 rw[a,F3,F3]
theorem aU.ahV{P:Program}{b z i M n fD:Nat}(l:ι b=some z)(H:i<n)(t:n≤dm): ∀(cs:List J) (o:List Value) (k:Nat) (f:Nat→List J) (st:D) (w:World),aU S ι st a w→I st.k b 0= .ae false M n f→fD+k+cs.length≤M→
  aY (aR w (aM S ι st.k w)) cs o→cs≠[]→ ∀(g:Nat→List J),(∀j,j<n→Mj f i (fD+k) cs j=g j)→ ∃ag,(storeCells ⟨z,i*M+fD,none⟩ o k).run P w= .ok () ag∧aU S ι ⟨st.n,bs st.k b 0 (.ae false M n g)⟩ a ag
 |[],_,_,_,_,_,_,_,_,_,U,_,_=>absurd rfl U
 |_::_,[],_,_,_,_,_,_,_,d,_,_,_=>d.elim
 |c::cs,v::o,k,f,st,w,h,s,L,d,_,g,G=>by
  have A:fD+k<M:=by simp only[fr]at L;omega
  have m:=h.k b 0;rw[s]at m;obtain⟨_,F|⟨_,m|⟨Z,C,B,O,p,u⟩⟩⟩:=m
  ·rw[l]at F;cases F.2.2
  ·rw[l]at m;cases m.2
  rw[l]at O;cases O;obtain⟨_,Y,_,X,_⟩:=u i (fD+k) H A;have x:=(q9.1 X).1;have V:one v=true:=d.1.one;have R:w.cell? ⟨z,i*M+(fD+k),none⟩=some (C[i*M+(fD+k)]):=by
   rw[tb w z (i*M+(fD+k)) C B (0,0) p,pG x]
  have T:w.frozen? ⟨z,i*M+(fD+k),none⟩=false:=frozen_of_row w z (i*M+(fD+k)) C B p;have N:=ahz (P:=P) w ⟨z,i*M+(fD+k),none⟩ V R T
  cases cs with
  |nil=>
   cases o with
   |cons _ _=>exact d.2.elim
   |nil=>
    obtain⟨q,_⟩:=h.ahT l s p A x d.1 (g:=g) (fun j y=>(G j y).symm) u t;refine⟨_,?_,q⟩;simp only[storeCells,Sem.run_bind,Addr.add_lit,rh,N,Result.andThen];rfl
  |cons K cs=>
   obtain⟨q,Q⟩:=h.ahT l s p A x d.1 (g:=fun j=>bif Nat.beq j i then(f j).set (fD+k) c else f j) (fun _ _=>rfl) u t;obtain⟨ag,r,E⟩:=aU.ahV (P:=P) (fD:=fD) l H t (K::cs) o (k+1) _ ⟨st.n,bs st.k b 0 (.ae false M n fun j=>bif Nat.beq j i then(f j).set (fD+k) c else f j)⟩ _ q (by rw[eK,bF ⟨rfl,rfl⟩]) (by simp only[fr]at L ⊢;omega)
    (d.2.imp fun _ _ W=>W.mono Q.hN Q.cell) (by simp) g (fun j y=>by
     rw[←G j y];unfold Mj
     cases e:Nat.beq j i<;>simp only[e,aN,aQ,qL,rh])
   refine⟨ag,?_,by rw[ats]at E;exact E⟩;simp only[storeCells,Sem.run_bind,Addr.add_lit,rh,N,Result.andThen];exact r
theorem ahy{P:Program}{T:TypeId}{t:bB}(a:gu P T t)(w ag:World)(p:Addr)(v:Value)(b:v.cells.size=t.size)(c:(storeCells p v.cells.toList 0).run P w= .ok () ag):
  (Instr.storeAt T (.pointer (some p)) v).run P w= .ok () ag:=by
 simp [Instr.storeAt,Instr.sureAddr,storeVar,run_sizeOf w a,b,c]
theorem aB3{o:Oper}{T:TypeId}{t:bB}{x y:Operand}(J:o.op= .store T x y)(D:gu E.P T t)(h:aU S ι st a w){K:bX→Prop}(d:s3 t st.k (aC st.n x) (aC st.n y) K){next:Act→World→Prop}{Q:Exit→Act→World→Prop}
  (H: ∀O ag,K O→aU S ι ⟨st.n,bt st.k O⟩ a ag→next (a.put o.dst undef) ag):o.wp E.P a w next Q:=by
 have A:=h.eval x;have N:=h.eval y
 cases e:aC st.n x<;>rw[e]at d A<;>simp only[s3,aD,bY,jP,iX]at d<;>try exact d.elim
 ·rename_i b c;obtain⟨⟨⟨⟨AI,R8⟩,asY⟩,asZ⟩,s⟩:=d;have l:=N.cells AI;obtain⟨_,z,B,v⟩:=(show ej S ι st.k w (.ptr b c) _ from A);have W: ∀j,j<(cellsOf (aC st.n y)).length→I st.k b (c+0+j)≠ .undef∧ch (I st.k b (c+0+j))=false:=fun j fe=>by
   have:=dw.1 asY (I st.k b (c+j)) (by simp [ah.ks];exact⟨j,by omega,rfl⟩);rw[lA]
   cases e:I st.k b (c+j)<;>rw[e]at this<;>simp_all [vv,ch]
  obtain⟨ag,r,C,_⟩:=aU.ahU (P:=E.P) (S:=S) (a:=a) (fD:=c) B (cellsOf (aC st.n y)) _ 0 st w h asZ W l;refine ain (ag:=ag) ?_ (H _ _ s (by rw[KF];exact C));have:=ahy D w ag ⟨z,c,none⟩ (a.eval y) (by rw[←R8,l.length];simp) r;simp [execOp,J,v,this]
 ·rename_i b k i c;obtain⟨_,ro,cP,n,f,m,C,R⟩:=(show ej S ι st.k w (.fl b k i c) _ from A);rw[m]at d;simp only[aD,bY,iX]at d;obtain⟨⟨⟨⟨⟨⟨St,aE6⟩,atg⟩,SB⟩,Sm⟩,G⟩,rfl,Z,g,Y,s⟩:=d;subst St;obtain⟨z,B,v⟩:=R rfl;have l:=ek.cells (A6 N) atg;have X:aY (aR w (aM S ι st.k w)) (cellsOf (eE (aC st.n y))) (a.eval y).cells.toList:=aY.mk l.length fun j p q L iR=>by
   obtain⟨FW,M,gD⟩:=l.get j p L;rw[iR]at M;cases M;exact cf.p1 gD (dw.1 Sm p (e4 L))
  have F:=h.k b 0;rw[m]at F;have V:k≤dm:=by
   rcases F.2 with u|u
   ·cases u.1
   ·exact u.1
  obtain⟨ag,r,U⟩:=aU.ahV (P:=E.P) (S:=S) (a:=a) (fD:=c) B Z V _ _ 0 f st w h m (by omega) X (by intro e;rw[e]at G;cases G) g Y;refine ain (ag:=ag) ?_ (H _ _ s U);have:=ahy D w ag ⟨z,i*cP+c,none⟩ (a.eval y) (by rw[←SB,l.length];simp) r;simp [execOp,J,v,this]
theorem ao1{o:Oper}{T:TypeId}{t:bB}{x:Operand}{f:Nat}(V:o.op= .fieldAddr T x f)(N:gu E.P T t)(h:aU S ι st a w){K:J→Prop}(c:rN t st.k f (aC st.n x) K){next:Act→World→Prop}{Q:Exit→Act→World→Prop}
  (z: ∀ab v,K ab→bk S ι st.k w ab v→next (a.put o.dst v) w):o.wp E.P a w next Q:=by
 have r:=h.eval x;have G:=N.d
 cases D:t.d<;>simp only[rN,D]at c<;>try exact c.elim
 rename_i Y;rw[D]at G;obtain⟨Hv,X,_,W⟩:=G
 cases F:Y[f]? <;>rw[F]at c<;>simp only at c
 rename_i d;obtain⟨d,C⟩:=d;simp only at c;obtain⟨aEf,O,P,i,R,U,H⟩:=W f d C F;rw[←U]at H;have A: ∀(y p:Nat),a.eval x= .pointer (some ⟨y,p,none⟩)→(execOp a.eval o).run E.P w= .ok (.value (.pointer (some ⟨y,p+d,none⟩))) w:=fun y p e=>by
  simp [execOp,V,e,Instr.fieldAt,e3 X,O,Instr.sureAddr,fieldPlace,sizeOf,typeInfo,R,H,P,Addr.add_lit]
 cases e:aC st.n x<;>rw[e]at c r<;>simp only at c<;>try exact c.elim
 ·rename_i b p;obtain⟨L,y,B,m⟩:=(show ej S ι st.k w (.ptr b p) _ from r);exact dk (A y p m) (z _ _ c ⟨L,y,B,rfl⟩)
 ·rename_i b k i p;obtain⟨_,Z,C,n,g,q,s,u⟩:=(show ej S ι st.k w (.fl b k i p) _ from r);rw[q]at c;simp only at c;obtain⟨y,B,m⟩:=u c.1;exact dk (A y _ m) (z _ _ c.2 ⟨rfl,Z,C,n,g,q,s,fun _=>⟨y,B,by rw[rh]⟩⟩)
 ·rename_i cs;have I:aR w (aM S ι st.k w) (.ref cs) (a.eval x):=r;generalize m:a.eval x=v at I
  cases I with
  |ref _ b p g cP M q s u=>
   refine dk (A b p m) (z _ _ c (show aR w _ (.ref (cs.drop d)) _ from .ref _ b (p+d) (fun j=>g (d+j)) (fun j=>cP (d+j)) M (fun j l=> ?_) (fun j l=> ?_) (fun j l=> ?_)))
   ·rw[ht];exact q _ (by simp at l;omega)
   ·rw[rh];exact s _ (by simp at l;omega)
   ·exact u _ (by simp at l;omega)
theorem aY.X_{α β:Type}{R:α→β→Prop} : ∀{aa:List α} {a:List β} (n:Nat),aY R aa a→aY R (aa.drop n) (a.drop n)
 |[],[],n,_=>by simp [aY]
 |_::_,_::_,0,h=>h
 |_::_,_::_,n+1,h=>aY.X_ n h.2
 |[],_::_,_,h=>h.elim
 |_::_,[],_,h=>h.elim
theorem auc{o:Oper}{T:TypeId}{t:bB}{x y:Operand}(eh:o.op= .indexAddr T x y)(jl:gu E.P T t)(hg:aU S ι st a w){fY:J→Prop}(d:sx t st.k (aC st.n x) (aC st.n y) fY){next:Act→World→Prop}{Q:Exit→Act→World→Prop}
  (G: ∀ab v,fY ab→bk S ι st.k w ab v→next (a.put o.dst v) w):o.wp E.P a w next Q:=by
 have A:=hg.eval x;have H:=hg.eval y;have F:=jl.d
 cases K:t.d<;>simp only[sx,K]at d<;>try exact d.elim
 case slice e l mg=>
  rw[K]at F;obtain⟨X,i,R,U,_⟩:=F
  cases L:aC st.n y<;>rw[L]at d H<;>simp only at d<;>try exact d.elim
  rename_i k z;have Y:a.eval y= .int k z:=by
   have:aR w (aM S ι st.k w) (.int k z) (a.eval y):=H;generalize a.eval y=v at this;cases this;rfl
  have B: ∀(b p n c:Nat),a.eval x= .slice (some ⟨b,p,none⟩) n c→0≤z→z<n→(execOp a.eval o).run E.P w= .ok (.value (.pointer (some ⟨b,p+z.toNat*l,none⟩))) w:=fun b p n c r s h=>by
   simp [execOp,eh,r,Y,Instr.indexAt,e3 X,asIntOf,s,h,sizeOf,typeInfo,R,U,Addr.add_lit]
  cases r:aC st.n x<;>rw[r]at d A<;>simp only at d<;>try exact d.elim
  ·rename_i M n f;simp only[aD,jP]at d;obtain⟨W,⟨s,h⟩,P⟩:=d;have D:aR w (aM S ι st.k w) (.arr M n f) (a.eval x):=A;generalize u:a.eval x=v at D
   cases D with
   |nil=>simp at h;omega
   |mt=>simp at h;omega
   |arr _ _ _ b p c g cP e8 adD O h5 iK fb=>
    have I:z.toNat<n:=by omega
    have hlen:((f z.toNat).take M).length=M:=by
     rcases fh ((f z.toNat).take M).length M with gC|sn
     ·have:=h5 z.toNat _ I gC;rw[e0 (by simp at gC ⊢;omega)]at this;cases this
     ·have:=List.length_take_le M (f z.toNat);omega
    refine dk (B b p n c u s h) (G _ _ P (show aR w _ (.ref ((f z.toNat).take M)) _ from .ref _ b (p+z.toNat*l) (g z.toNat) (cP z.toNat) (O (by omega)) (fun j m=> ?_) (fun j m=> ?_) (fun j m=> ?_)))
    ·rw[yE (by omega)];exact h5 _ _ I (by omega)
    ·rw[←W];exact iK _ _ I (by omega)
    ·exact fb _ _ I (by omega)
  ·rename_i b Z;obtain⟨_,ro,M,n,f,h,g3,N⟩:=(show ej S ι st.k w (.own b Z) _ from A);rw[h]at d;simp only[aD,jP]at d;obtain⟨W,rfl,⟨xw,EZ⟩,P⟩:=d;rcases N rfl with⟨q,c,C,k0,V,u,mD,j_,kF⟩|⟨Ay,_,_⟩
   ·refine dk (B q 0 Z c u xw EZ) (G _ _ P ⟨rfl,ro,M,Z,f,h,bx _,fun _=>⟨q,V,by rw[W];simp⟩⟩)
   ·omega
 case array n e l=>
  rw[K]at F;obtain⟨X,i,R,U⟩:=F
  cases L:aC st.n y<;>rw[L]at d H<;>simp only at d<;>try exact d.elim
  rename_i k z;have Y:a.eval y= .int k z:=by
   have:aR w (aM S ι st.k w) (.int k z) (a.eval y):=H;generalize a.eval y=v at this;cases this;rfl
  have B: ∀(b p:Nat),a.eval x= .pointer (some ⟨b,p,none⟩)→0≤z→z<n→(execOp a.eval o).run E.P w= .ok (.value (.pointer (some ⟨b,p+z.toNat*l,none⟩))) w:=fun b p r s h=>by
   simp [execOp,eh,r,Y,Instr.indexAt,Instr.sureAddr,e3 X,asIntOf,s,h,sizeOf,typeInfo,R,U,Addr.add_lit]
  cases r:aC st.n x<;>rw[r]at d A<;>simp only[aD,bY,jP]at d<;>try exact d.elim
  ·rename_i b p;obtain⟨s,q,V,u⟩:=(show ej S ι st.k w (.ptr b p) _ from A);exact dk (B q p u d.1.1 d.1.2) (G _ _ d.2 ⟨s,q,V,rfl⟩)
  ·rename_i cs;have D:aR w (aM S ι st.k w) (.ref cs) (a.eval x):=A;generalize u:a.eval x=v at D
   cases D with
   |ref _ b p g cP O h g3 N=>
    refine dk (B b p u d.1.1 d.1.2) (G _ _ d.2 (show aR w _ (.ref (cs.drop (z.toNat*l))) _ from .ref _ b (p+z.toNat*l) (fun j=>g (z.toNat*l+j)) (fun j=>cP (z.toNat*l+j)) O (fun j m=> ?_) (fun j m=> ?_) (fun j m=> ?_)))
    ·rw[ht];exact h _ (by simp at m;omega)
    ·rw[rh];exact g3 _ (by simp at m;omega)
    ·exact N _ (by simp at m;omega)
theorem aBr{P:Program}{T:TypeId}{t:bB}{w:World}(c:gu P T t)(b:List Value)(a:Nat)(h:a+t.size≤b.length):
  (part T b.toArray a).run P w= .ok (rD t.d.isAgg ((b.drop a).take t.size)) w:=by
 cases e:t.d.isAgg with
 |true=>simp [part,Sem.run_bind,L5 w c,e,Result.andThen_ok,run_sizeOf w c,rD]
 |false=>
  have f:=c.one e;have d:a<b.length:=by omega
  have g:(b.drop a).take 1=[b[a]]:=by rw[Gk d];rfl
  simp [part,Sem.run_bind,L5 w c,e,Result.andThen_ok,rD,f,g,d]
theorem at2{c:TypeId→Option bB}(D: ∀T t,c T=some t→gu E.P T t){o:Oper}{T:TypeId}{t:bB}{x y:Operand}(L:o.op= .index T x y)(G:gu E.P T t)(h:aU S ι st a w){K:J→Prop}(b:uG c t (aC st.n x) (aC st.n y) K){next:Act→World→Prop}{Q:Exit→Act→World→Prop}
  (I: ∀ab v,K ab→bk S ι st.k w ab v→next (a.put o.dst v) w):o.wp E.P a w next Q:=by
 have p:=h.eval x;have q:=h.eval y;have l:=G.d
 cases f:t.d<;>simp only[uG,f]at b<;>try exact b.elim
 rename_i n e U;rw[f]at l;obtain⟨O,i,W,X⟩:=l
 cases A:aC st.n y<;>rw[A]at b q<;>simp only at b<;>try exact b.elim
 rename_i k z;have R:a.eval y= .int k z:=by
  have:aR w (aM S ι st.k w) (.int k z) (a.eval y):=q;generalize a.eval y=v at this;cases this;rfl
 cases s:aC st.n x<;>rw[s]at b p<;>simp only at b<;>try exact b.elim
 rename_i cs
 cases g:c e<;>rw[g]at b<;>simp only[aD,bY,jP]at b<;>try exact b.elim
 rename_i u;obtain⟨⟨⟨⟨B,C⟩,j⟩,V⟩,F⟩:=b;have d:=D e u g;obtain⟨r,P,m⟩:=(show bk S ι st.k w (.agg cs) _ from p);have Y:=m.length;have M:=aBr (w:=w) d r (z.toNat*u.size) (by rw[j];omega);have N:(execOp a.eval o).run E.P w= .ok (.value (rD u.d.isAgg ((r.drop (z.toNat*u.size)).take u.size))) w:=by
  simp [execOp,L,P,R,Instr.index,e3 O,asIntOf,B,C,run_sizeOf w d,M]
 refine dk N (I _ _ F ?_);rw[j];refine WB ((m.X_ _).take _) fun H=> ?_;have:=d.one H;rw[nJ,rj];omega
theorem aoM{o:Oper}{x:Operand}{i:Nat}(k:o.op= .extract x i)(h:aU S ι st a w){K:J→Prop}(b:zj i (aC st.n x) K){next:Act→World→Prop}{Q:Exit→Act→World→Prop}
  (j: ∀ab v,K ab→bk S ι st.k w ab v→next (a.put o.dst v) w):o.wp E.P a w next Q:=by
 have e:=h.eval x
 cases f:aC st.n x<;>rw[f]at b e<;>simp only[zj]at b<;>try exact b.elim
 rename_i c;simp only[aD,jP]at b;obtain⟨d,g⟩:=b;obtain⟨us,n,l⟩:=(show∃us:List Value,a.eval x= .tuple us.toArray∧aY (fX ι st.k w (aM S ι st.k w)) c us from e);obtain⟨v,p,m⟩:=l.get i c[i] (cT d);refine dk (v:=v) (ag:=w) ?_ (j (c.getD i .undef) v g ?_)
 ·simp [execOp,k,n,Instr.extract,p]
 ·simp only[List.getD,cT d,ly];exact ek.yc m
def kY(S:dR)(w:World)(x:Nat):Prop:=S.oK x∨(S.kS.heap.size≤x∧x<w.heap.size)
theorem Nv{H:Heap}{x:Nat}(h:aM S ι H w x):kY S w x:=h.1.imp id fun a=>⟨a,h.2.1⟩
theorem YS(h:aU S ι st a w){x:J}{v:Value}(D:ej S ι st.k w x v){K:J→Prop}(z:iv st.k x K): ∃y,K y∧aR w (kY S w) y v:=by
 have V:c2 (nZ x) (K x)→ ∃y,K y∧aR w (kY S w) y v:=fun P=>(fun⟨t,E⟩=>⟨x,E,(cf.p1 D t).mono (fun _=>Nv) fun _ _ _=>rfl⟩) (aD.1 P)
 cases x
 case own b k=>
  obtain⟨_,ro,s,n,f,t,E,M⟩:=D;simp only[iv,t]at z;obtain⟨rfl,N⟩:=z;refine⟨_,N,?_⟩;rcases M rfl with⟨q,c,C,L,r,B,T,F,Y⟩|⟨rfl,_,B⟩
  ·have p:=h.k b 0;rw[t]at p;obtain⟨_,H|⟨O,p|⟨Z,W,X,I,G,Q⟩⟩⟩:=p
   ·rw[r]at H;cases H.2.2
   ·rw[r]at p;cases p.2
   ·rw[r]at I;cases I;rw[F]at G;cases G;have R:=h.fresh b q r;rw[B];have A: ∀i j,i<k→j<s→ ∃ab u,(f i)[j]? =some ab∧C[i*s+j]? =some u∧aR w (kY S w) ab u:=fun i j d e=>by
     obtain⟨ab,u,l,m,o⟩:=Q i j d e;exact⟨ab,u,l,m,o.mono (fun _=>Nv) fun _ _ _=>rfl⟩
    refine .arr s k f q 0 c (fun i j=>((f i)[j]?).getD .undef) (fun i j=>(C[i*s+j]?).getD undef) T O (fun _=>(h.own r).imp id fun g=>⟨g,R.2⟩) (fun i j d e=> ?_) (fun i j d e=> ?_) (fun i j d e=> ?_)
    ·obtain⟨ab,u,l,m,o⟩:=A i j d e;rw[l];rfl
    ·obtain⟨ab,u,l,m,o⟩:=A i j d e;rw[tb w q _ C L (0,0) F,cN,m];rfl
    ·obtain⟨ab,u,l,m,o⟩:=A i j d e;simp only[l,m,ly];exact o
  ·rw[B];exact .nil s f
 case lit b=>
  have U:aR w (aM S ι st.k w) (.lit b) v:=D
  cases U
  exact⟨_,z,.bool b⟩
 all_goals exact V z
theorem YZ(h:aU S ι st a w): ∀(cs:List J) (e:List Value) (K:List J→Prop),aY (ej S ι st.k w) cs e→lH st.k cs K→ ∃f,K f∧aY (aR w (kY S w)) f e
 |[],[],K,_,b=>⟨[],b,trivial⟩
 |[],_::_,_,d,_=>d.elim
 |_::_,[],_,d,_=>d.elim
 |c::cs,v::e,K,d,b=>by
  obtain⟨y,b,g⟩:=YS h d.1 b;obtain⟨f,b,i⟩:=YZ h cs e _ d.2 b;exact⟨y::f,b,g,i⟩
theorem PC(h:aU S ι st a w){x:J}{v:Value}(e:bk S ι st.k w x v){K:J→Prop}(b:ku st.k x K): ∃y,K y∧fi w (kY S w) y v:=by
 have j: ∀y,aR w (kY S w) y v→fi w (kY S w) y v:=fun y i=>by cases i<;>first|exact .int _ _|exact .bool _|exact .str _ (by assumption)|exact .aE|exact .nil _ _|exact .mt _ _ _ _|(constructor<;>assumption)
 cases x
 case agg cs=>
  obtain⟨f,rfl,g⟩:=e;obtain⟨k,c,d⟩:=YZ h cs f _ g b;exact⟨.agg k,c,f,rfl,d⟩
 case undef=>exact b.elim
 case gone=>exact b.elim
 case c9=>exact b.elim
 case ae=>exact b.elim
 all_goals
  simp only[bk,ek,fX]at e;obtain⟨y,c,d⟩:=YS h e b;exact⟨y,c,j y d⟩
theorem YW(h:aU S ι st a w): ∀(g:List J) (e:List Value) (K:List J→Prop),aY (bk S ι st.k w) g e→mh st.k g K→ ∃f,K f∧aY (fi w (kY S w)) f e
 |[],[],K,_,b=>⟨[],b,trivial⟩
 |[],_::_,_,d,_=>d.elim
 |_::_,[],_,d,_=>d.elim
 |c::cs,v::e,K,d,b=>by
  obtain⟨y,b,i⟩:=PC h d.1 b;obtain⟨f,b,j⟩:=YW h cs e _ d.2 b;exact⟨y::f,b,i,j⟩
theorem YR{H:Heap}{x:J}{K:J→Prop}(b:nZ x=true)(a:iv H x K):K x:=by
 cases x<;>first|(cases b;done)|(simp only[iv,aD]at a;exact a.2)
theorem YY{H:Heap} : ∀{cs:List J} {K:List J→Prop},cs.all nZ=true→lH H cs K→K cs
 |[],_,_,b=>b
 |c::cs,K,a,b=>by
  simp only[yH,bY]at a;exact YY (K:=fun d=>K (c::d)) a.2 (YR a.1 b)
theorem api{H:Heap}{x:J}{K:J→Prop}(a:zq x=true)(b:ku H x K):K x:=by
 cases x
 case agg cs=>exact YY (K:=fun c=>K (.agg c)) a b
 all_goals exact YR (H:=H) a b
theorem YV{H:Heap} : ∀{cs:List J} {K:List J→Prop},cs.all zq=true→mh H cs K→K cs
 |[],_,_,b=>b
 |c::cs,K,a,b=>by
  simp only[yH,bY]at a;exact YV (K:=fun d=>K (c::d)) a.2 (api a.1 b)
theorem ahH{F dO:Nat→Prop}{ag:World}{x:J}{v:Value}(a:UU x=true)(h:aR w F x v):aR ag dO x v:=by
 cases h<;>first|(cases a;done)|(constructor;done)|(constructor;assumption)
theorem ahE{F dO:Nat→Prop}{ag:World}{x:J}{v:Value}(d:UW x=true)(h:fi w F x v):fi ag dO x v:=by
 cases x
 case agg cs=>
  obtain⟨g,rfl,c⟩:=h;refine⟨g,rfl,aY.mk c.length fun i p q a e=> ?_⟩;obtain⟨j,b,f⟩:=c.get i p a;rw[e]at b;cases b;exact ahH (dw.1 d p (e4 a)) f
 case undef=>exact h.elim
 all_goals
  simp only[fi]at h ⊢;exact ahH d h
theorem ahG{F dO:Nat→Prop}{ag:World}{x:J}{v:Value}(d:Bu x=true)(h:jS w F x v):jS ag dO x v:=by
 cases x
 case c9 cs=>
  obtain⟨g,rfl,c⟩:=h;refine⟨g,rfl,aY.mk c.length fun i p q a e=> ?_⟩;obtain⟨j,b,f⟩:=c.get i p a;rw[e]at b;cases b;exact ahE (dw.1 d p (e4 a)) f
 all_goals
  simp only[jS]at h ⊢;exact ahE d h
end
section
variable {E:Env} {S:dR} {ι:Nat→Option Nat} {st:D} {a:Act} {w:World}
theorem bk.int{H:Heap}{k:IntKind}{n:Int}{v:Value}(h:bk S ι H w (.int k n) v):v= .int k n:=by
 have:aR w (aM S ι H w) (.int k n) v:=h
 cases this;rfl
theorem bk.bool{H:Heap}{b:Bool}{v:Value}(h:bk S ι H w (.bool b) v):v= .bool b:=by
 have:aR w (aM S ι H w) (.bool b) v:=h
 cases this;rfl
theorem bk.str{H:Heap}{s:ByteArray}{v:Value}(h:bk S ι H w (.str s) v):v= .string s:=by
 have:aR w (aM S ι H w) (.str s) v:=h
 cases this;rfl
theorem bk.mkInt{H:Heap}(k:IntKind)(n:Int):bk S ι H w (.int k n) (.int k n):=aR.int k n
theorem bk.x4{H:Heap}(b:Bool):bk S ι H w (.bool b) (.bool b):=aR.bool b
theorem bk.mkStr{H:Heap}(s:ByteArray)(a:s.size≤dm):bk S ι H w (.str s) (.string s):=aR.str s a
theorem bk.Va{H:Heap}{s:ByteArray}{v:Value}(h:bk S ι H w (.str s) v):s.size≤dm:=by
 have:aR w (aM S ι H w) (.str s) v:=h
 cases this;assumption
theorem bk.lit{H:Heap}{b:Bool}{v:Value}(h:bk S ι H w (.lit b) v):v= .bool b:=by
 have:aR w (aM S ι H w) (.lit b) v:=h
 cases this;rfl
theorem bk.mkLit{H:Heap}(b:Bool):bk S ι H w (.lit b) (.bool b):=aR.lit b
theorem agO{o:Oper}{c x y:Operand}{b:Bool}(g:o.op= .pick c x y)(f:a.eval c= .bool b)(h:aU S ι st a w){K:J→Prop}(d:FR b (aC st.n x) (aC st.n y) K){next:Act→World→Prop}{Q:Exit→Act→World→Prop}
  (e: ∀ab v,K ab→bk S ι st.k w ab v→next (a.put o.dst v) w):o.wp E.P a w next Q:=by
 refine dk (v:=if b then a.eval x else a.eval y) (ag:=w) (by simp [execOp,g,f,asBool]) ?_
 cases b
 ·exact e _ _ d (h.eval y)
 ·exact e _ _ d (h.eval x)
theorem auh{b:BinOp}{k:IntKind}{p q:Int}{T:TypeId}{x y:Operand}{K:J→Prop}(a:uJ b k p q K)(H:Heap): ∃ab v,K ab∧bk S ι H w ab v∧
  (do eqGuard b T x y (.int k p) (.int k q);binOp b T (.int k p) (.int k q):Sem Value).run E.P w= .ok v w:=by
 cases b<;>simp only[uJ]at a<;>try exact a.elim
 all_goals first
  |exact⟨_,_,a,bk.mkInt _ _,by simp [go_sem,Op.intArith]⟩
  |exact⟨_,_,a,bk.x4 _,by simp [go_sem]⟩
  |exact⟨_,_,a.2,bk.mkInt _ _,by simp [go_sem,Op.intDiv,a.1]⟩
theorem GX{d:List J} : ∀{cs:List J} {a:List Value} {H:Heap} {F:Nat→Prop},hy d cs=true→aY (cf ι H w F) cs a→aY vk cs a:=by
 intro cs a H F b h
 induction cs generalizing d a with
 |nil=>cases a;exact trivial;exact h.elim
 |cons c cs g=>
  cases a with
  |nil=>exact h.elim
  |cons v a=>
   cases d with
   |nil=>cases b
   |cons z d=>
    simp only[hy,bY]at b;refine⟨?_,g b.2 h.2⟩;have e:=h.1
    cases z<;>cases c<;>simp [Po]at b<;>(have f:aR w F _ v:=e;cases f;rfl)
theorem Ys{P:Program}{T:TypeId}(a:P.underlying T=some .bool)(d:Nat)(p q:Bool):(Op.equalIn (d+1) T (.bool p) (.bool q)).run P w= .ok (p==q) w:=by
 simp [Op.equalIn,e3 a]
theorem run_eql_bool{P:Program}{T:TypeId}(a:P.underlying T=some .bool)(x y:Operand)(p q:Bool):
  (do eqGuard .eql T x y (.bool p) (.bool q);binOp .eql T (.bool p) (.bool q):Sem Value).run P w= .ok (.bool (p==q)) w:=by
 have h:binOp .eql T (.bool p) (.bool q)=(do pure (.bool (←Op.equal T (.bool p) (.bool q)))):=rfl;rw[h];simp [go_sem,Op.equal,Op.maxDepth,Ys a 9999 p q]
theorem run_neq_bool{P:Program}{T:TypeId}(a:P.underlying T=some .bool)(x y:Operand)(p q:Bool):
  (do eqGuard .neq T x y (.bool p) (.bool q);binOp .neq T (.bool p) (.bool q):Sem Value).run P w= .ok (.bool (!(p==q))) w:=by
 have h:binOp .neq T (.bool p) (.bool q)=(do pure (.bool (!(←Op.equal T (.bool p) (.bool q))))):=rfl;rw[h];simp [go_sem,Op.equal,Op.maxDepth,Ys a 9999 p q]
theorem am0{o:Oper}{d:BinOp}{T B:TypeId}{t:bB}{x y:Operand}(M:o.op= .binOp d T x y B)(r:gu E.P T t)(h:aU S ι st a w){K:J→Prop}(b:oT t d (eE (aC st.n x)) (eE (aC st.n y)) K){next:Act→World→Prop}{Q:Exit→Act→World→Prop}
  (L: ∀ab v,K ab→bk S ι st.k w ab v→next (a.put o.dst v) w):o.wp E.P a w next Q:=by
 have e:bk S ι st.k w (eE (aC st.n x)) (a.eval x):=A6 (h.eval x);have f:bk S ι st.k w (eE (aC st.n y)) (a.eval y):=A6 (h.eval y);have c: ∀ab v,K ab→bk S ι st.k w ab v→(do eqGuard d T x y (a.eval x) (a.eval y);binOp d T (a.eval x) (a.eval y):Sem Value).run E.P w= .ok v w→o.wp E.P a w next Q:=fun ab v H n i=>by
  refine dk (v:=v) (ag:=w) ?_ (L ab v H n);have:(execOp a.eval o).run E.P w=((do eqGuard d T x y (a.eval x) (a.eval y);binOp d T (a.eval x) (a.eval y):Sem Value).run E.P w).andThen fun v w=> .ok (.value v) w:=by
   simp only[execOp,M];rw[Sem.run_bind];rfl
  rw[this,i];rfl
 cases p:eE (aC st.n x)<;>cases q:eE (aC st.n y)<;>rw[p,q]at b<;>rw[p]at e<;>rw[q]at f<;>simp only[oT]at b<;>try exact b.elim
 ·rw[e.int,f.int]at c
  cases l:KR d with
  |true=>
   rw[l]at b;obtain⟨⟨s,u⟩,b⟩:=b
   cases d<;>first|(cases l;done)|skip
   ·exact c _ _ b (bk.mkInt _ _) (by simp [go_sem,shift_shl _ _ _ _ s u])
   ·exact c _ _ b (bk.mkInt _ _) (by simp [go_sem,shift_shr _ _ _ _ s u])
  |false=>
  rw[l]at b;simp only[aD,jP]at b;obtain⟨rfl,b⟩:=b;obtain⟨ab,v,D,F,G⟩:=auh (E:=E) (S:=S) (ι:=ι) (w:=w) (T:=T) (x:=x) (y:=y) b st.k;exact c ab v D F G
 ·rw[e.bool,f.bool]at c;have m:=r.d
  cases C:t.d<;>rw[C]at b m<;>simp only at b<;>try exact b.elim
  cases d<;>simp only at b<;>try exact b.elim
  ·exact c _ _ b (bk.x4 _) (run_eql_bool m _ _ _ _)
  ·exact c _ _ b (bk.x4 _) (run_neq_bool m _ _ _ _)
 ·rw[e.str,f.str]at c
  cases d<;>simp only at b<;>try exact b.elim
  all_goals first
   |exact c _ _ b (bk.x4 _) (by simp [go_sem])
   |exact c _ _ b.2 (bk.mkStr _ (by rw[ByteArray.size_append];exact b.1)) (by have:=b.1;have O:dm=549755813888:=rfl;simp [go_sem,Op.stringOp];omega)
 ·simp only[aD,bY]at b;obtain⟨⟨⟨I,j⟩,k⟩,b⟩:=b;have A:=r.cmp I;obtain⟨g,n,i⟩:=(show∃g:List Value,a.eval x= .agg g.toArray∧aY (ej S ι st.k w) _ g from e);obtain⟨us,N,z⟩:=(show∃us:List Value,a.eval y= .agg us.toArray∧aY (ej S ι st.k w) _ us from f);rw[n,N]at c
  cases d<;>simp only at b<;>try exact b.elim
  ·exact c _ _ b (bk.x4 _) (A .eql x y _ _ g us w (.inl rfl) j k (GX j i) (GX k z))
  ·exact c _ _ b (bk.x4 _) (A .neq x y _ _ g us w (.inr rfl) j k (GX j i) (GX k z))
theorem aC4{o:Oper}{f:UnOp}{T:TypeId}{x:Operand}(e:o.op= .unOp f T x)(h:aU S ι st a w){K:J→Prop}(b:yy f (aC st.n x) K){next:Act→World→Prop}{Q:Exit→Act→World→Prop}
  (d: ∀ab v,K ab→bk S ι st.k w ab v→next (a.put o.dst v) w):o.wp E.P a w next Q:=by
 have c:=h.eval x
 cases f<;>cases g:aC st.n x<;>rw[g]at b c<;>simp only[yy]at b<;>try exact b.elim
 all_goals first
  |exact dk (v:= .bool _) (by simp only[execOp,e,c.bool,Op.unary];rfl) (d _ _ b (bk.x4 _))
  |exact dk (v:= .bool _) (by simp only[execOp,e,c.lit,Op.unary];rfl) (d _ _ b (bk.mkLit _))
  |exact dk (v:= .int _ _) (by simp only[execOp,e,c.int,Op.unary,Op.intArith];rfl) (d _ _ b (bk.mkInt _ _))
theorem axP{o:Oper}{c:Go.Call}{x:Operand}{T:TypeId}{t:bB}(I:o.op= .call c)(H:c.callee= .builtin .len)(G:c.args= #[x])(L:c.argTypes= #[T])(F:gu E.P T t)(h:aU S ι st a w)
  (u:(match t.d with| .slice .. =>true| .string=>true|_=>false)=true) {K:J→Prop} (d:pk st.k (aC st.n x) K) (g:(match t.d,aC st.n x with| .string,.str _=>true| .slice ..,.str _=>false| .string,_=>false|_,_=>true)=true) {next:Act→World→Prop} {Q:Exit→Act→World→Prop}
  (i: ∀ab v,K ab→bk S ι st.k w ab v→next (a.put o.dst v) w):o.wp E.P a w next Q:=by
 have m:=h.eval x;have s:=F.d;have j: ∀v,(Builtin.len_ #[T] o.type #[a.eval x]).run E.P w= .ok v w→(execOp a.eval o).run E.P w= .ok (.value v) w:=fun v e=>by
  simp [execOp,I,resolve,H,G,L,invoke,builtin,e]
 cases A:t.d<;>rw[A]at u s g<;>simp only at u<;>try (cases u;done)
 ·cases r:aC st.n x<;>rw[r]at d m g<;>simp only[pk]at d<;>simp only at g<;>first|(cases g;done)|skip
  exact dk (j _ (by simp [Builtin.len_,e3 s,m.str];rfl)) (i _ _ d (bk.mkInt _ _))
 ·obtain⟨l,_⟩:=s
  cases r:aC st.n x<;>rw[r]at d m g<;>simp only[pk]at d<;>simp only at g<;>first|(cases g;done)|(exact d.elim)|skip
  ·have p:aR w (aM S ι st.k w) .aE (a.eval x):=m;generalize e:a.eval x=v at p
   cases p
   exact dk (j _ (by simp [Builtin.len_,e3 l,e];rfl)) (i _ _ d (bk.mkInt _ _))
  ·rename_i z n f;have p:aR w (aM S ι st.k w) (.arr z n f) (a.eval x):=m;generalize e:a.eval x=v at p
   cases p with
   |nil=>exact dk (j _ (by simp [Builtin.len_,e3 l,e];rfl)) (i _ _ d (bk.mkInt _ _))
   |mt=>exact dk (j _ (by simp [Builtin.len_,e3 l,e];rfl)) (i _ _ d (bk.mkInt _ _))
   |arr=>exact dk (j _ (by simp [Builtin.len_,e3 l,e];rfl)) (i _ _ d (bk.mkInt _ _))
  ·rename_i b k;obtain⟨_,W,z,n,f,B,O,D⟩:=(show ej S ι st.k w (.own b k) _ from m);rw[B]at d;simp only at d;obtain⟨rfl,y⟩:=d;rcases D rfl with⟨q,N,C,M,V,e,U,P,R⟩|⟨rfl,_,e⟩
   ·exact dk (j _ (by simp [Builtin.len_,e3 l,e];rfl)) (i _ _ y (bk.mkInt _ _))
   ·exact dk (j _ (by simp [Builtin.len_,e3 l,e];rfl)) (i _ _ y (bk.mkInt _ _))
end
section
variable {E:Env} {S:dR} {ι:Nat→Option Nat} {st:D} {a:Act} {w:World}
theorem ahL{R:J→Value→Prop} : ∀(cs:List J) (f:List Value) (e:List J) (us:Array Value) (a j:Nat),aY R cs f→aY R e us.toList→a+j+cs.length≤e.length→
  aY R (qL e cs (a+j)) ((f.zipIdx j).foldl (fun cs (c,j)=>cs.setIfInBounds (a+j) c) us).toList
 |[],[],e,us,a,j,_,h,_=>h
 |[],_::_,_,_,_,_,h,_,_=>h.elim
 |_::_,[],_,_,_,_,h,_,_=>h.elim
 |c::cs,v::f,e,us,a,j,h,k,n=>by
  simp only[qL,List.zipIdx_cons,Ge];have:=ahL cs f (e.set (a+j) c) (us.setIfInBounds (a+j) v) a (j+1) h.2 (by
   refine aY.mk (by simp [k.length]) fun i x y d b=> ?_;simp only[Array.toList_setIfInBounds]at b
   by_cases m:i=a+j
   ·subst m;rw[s9]at d b;simp only[kT]at d b
    split at d<;>split at b<;>first|(cases d;cases b;exact h.1)|(cases d;done)|(cases b;done)
   ·rw[BI (by omega)]at d b;obtain⟨o,g,l⟩:=k.get i x d;rw[b]at g;cases g;exact l) (by simp at n ⊢;omega)
  rwa [show a+(j+1)=a+j+1 by omega]at this
theorem Xk{j:List (Nat×Nat)}(h:aU S ι st a w): ∀(e:List (Nat×Operand)) (cs:List J) (us:Array Value) (K:List J→Prop),aY (ej S ι st.k w) cs us.toList→mV j st.n e cs K→
  ∃c f,K c∧aY (ej S ι st.k w) c f.toList∧Instr.fill (j[·]?) us (e.map fun(i,x)=>(i,a.eval x))=some f
 |[],cs,us,K,d,b=>⟨cs,us,b,d,rfl⟩
 |(i,x)::e,cs,us,K,d,b=>by
  simp only[mV]at b
  cases g:j[i]? with
  |none=>rw[g]at b;exact b.elim
  |some q=>
   obtain⟨s,M⟩:=q;rw[g]at b;simp only[aD,bY,jP]at b;obtain⟨⟨⟨p,r⟩,t⟩,b⟩:=b;have k:=(h.eval x).cells p;have u:(a.eval x).cells.size=M:=by rw[←r,k.length];simp
   have v:us.size=cs.length:=by rw[d.length];simp
   have l:=ahL (cellsOf (aC st.n x)) (a.eval x).cells.toList cs us s 0 k d (by omega);rw[lA]at l;obtain⟨c,f,m,n,o⟩:=Xk h e _ _ K l b;refine⟨c,f,m,n,?_⟩;simp only[Gh,Instr.fill,g];rw[bH (by simp;omega),←o]
   congr 1
   rw[←Array.foldl_toList];simp
theorem am_{o:Oper}{T:TypeId}{t:bB}{b:Array (Nat×Operand)}{f:List (Nat×Nat)}(r:o.op= .build T b)(d:gu E.P T t)(s:t.d= .struct f)(h:aU S ι st a w){K:J→Prop}
  (n:mV f st.n b.toList t.zero fun cs=>K (.agg cs)) {next:Act→World→Prop} {Q:Exit→Act→World→Prop}
  (q: ∀ab v,K ab→bk S ι st.k w ab v→next (a.put o.dst v) w):o.wp E.P a w next Q:=by
 have e:=d.d;rw[s]at e;obtain⟨C,u,p,_⟩:=e;obtain⟨i,z,m,_,y,D,A⟩:=d.info;obtain⟨B,c,g,j,k⟩:=Xk h b.toList t.zero z.cells (fun cs=>K (.agg cs)) (A.imp fun _ _=>k1.rel) n;refine dk (v:= .agg c) (ag:=w) ?_ (q _ _ g ⟨c.toList,by simp,j⟩);have l:E.P.built T (b.map fun(i,x)=>(i,a.eval x)).toList=some c:=by
  simp only[Program.built,m,u,y,p];rw[←k];simp
 simp only[execOp,r];rw[Sem.run_bind,run_build w T _ c l];rfl
end
end Go.ah
