import Derived.Tactics
import Derived.Orders
import Derived.Below
import Derived.Laws.Cells
import Derived.Laws.World
import Derived.Laws.Rows
import Derived.KernelRfl
import Derived.WalkLawsBesides
import Derived.Laws.Tables
open Go.IntKind (i64 u64 u8)
open Int (toNat)
set_option maxRecDepth 100000
set_option maxHeartbeats 4000000
set_option linter.all false
noncomputable section
namespace Go
theorem al{p:Prop}[a:Decidable p]:decide p=true→p:=of_decide_eq_true
theorem hy{p:Prop}[a:Decidable p]:decide p=false→¬p:=of_decide_eq_false
theorem bS{p:Prop}[a:Decidable p]:p→decide p=true:=decide_eq_true
theorem bp{p:Prop}[a:Decidable p]:¬p→decide p=false:=decide_eq_false
theorem bB{α:Type _}[BEq α][LawfulBEq α]{a b:α}:(a != b)=false→a=b:=bne_eq_false_iff_eq.1
theorem cZ{α:Type _}[BEq α][ReflBEq α]{a b:α}:(a==b)=false→a≠b:=ne_of_beq_false
theorem en(n:Nat):¬n<0:=Nat.not_lt_zero n
abbrev u:Type:=ByteArray
def bL:=@Bool.and_eq_true
def aS:=@cond_false
def cI:=@List.getElem?_eq_getElem
def aQ:=@cond_true
def bC:=@Nat.le_refl
def dQ:=@Nat.eq_of_beq_eq_true
def ds:=@List.all_eq_true
def eF:=@List.getElem?_eq_none
def c1:=@Nat.zero_add
def e0:=@List.mem_of_getElem?
def bf:=@if_pos
def a7:=@if_neg
def gL:=@Nat.le_of_ble_eq_true
def cf:=@Nat.zero_le
def g7:=@Nat.mul_le_mul_right
def fN:=@Int.toNat_natCast
def gk:=@Nat.lt_of_lt_of_le
def eY:=@run_underlying
def hv:=@List.getElem?_eq_some_iff
def cR:=@Int.le_refl
def gM:=@Option.some.injEq
def gN:=@List.getElem?_map
def dB:=@Nat.le_trans
def fk:=@Nat.lt_or_ge
def dC:=@List.length_append
def g8:=@List.mem_append
def dr:=@List.length_cons
def iL:=@Bool.not_eq_true'
def jJ:=@decide_eq_true_eq
def eZ:=@List.append_assoc
def hi:=@Nat.add_mul
def lM:=@Option.map_eq_some_iff
def pG:=@Array.getElem?_append_left
def pH:=@Array.getElem?_eq_getElem
def hS:=@List.mem_cons
def rh:=@Array.getElem?_eq_some_iff
def lf:=@List.mem_flatMap
def fH:=@List.length_nil
def gO:=@List.flatMap_cons
def ir:=@Nat.succ_mul
def kM:=@Option.getD_some
def h_:=@List.append_nil
def tu:=@List.getElem?_append_left
def hj:=@Nat.blt_eq
def ri:=@List.take_append_drop
def mw:=@List.cons.injEq
def ou:=@List.getElem?_drop
def jj:=@List.length_take
def hx:=@beq_eq_false_iff_ne
def tv:=@List.getElem?_toArray
def pI:=@List.size_toArray
def lN:=@Nat.add_zero
def ov:=@List.getElem?_of_mem
def yH:=@List.getElem?_take_of_lt
def pJ:=@Nat.le_add_right
def nz:=@Nat.beq_refl
def Ca:=@List.getElem?_append_right
def G9:=@Array.getElem?_setIfInBounds_ne
def tw:=@List.getElem?_set
def rj:=@Option.map_some
def pK:=@List.nil_append
def rk:=@heap_alloc_new
def vB:=@Array.size_append
def ow:=@Nat.le_succ_of_le
def G_:=@Array.getD_eq_getD_getElem?
def ox:=@List.mem_map
def pL:=@Nat.add_assoc
def vC:=@Nat.eq_zero_or_pos
def Cb:=@List.singleton_append
def tx:=@List.drop_eq_getElem_cons
def Cc:=@List.getElem?_set_ne
def oy:=@Array.ext'
def Cd:=@Bool.or_eq_false_iff
def kN:=@if_true
def yI:=@List.flatten_cons
def tz:=@Prod.mk.injEq
def Ha:=@List.length_eq_zero_iff
def Ce:=@Int.eq_ofNat_of_zero_le
def Cf:=@List.getElem?_range
def yJ:=@List.flatMap_append
def mx:=@if_false
def oz:=@List.getElem_mem
def tA:=@List.mem_range
def vD:=@List.drop_drop
def tB:=@Nat.mul_comm
def jk:=@Option.some.inj
def yK:=@List.getD_eq_getElem?_getD
def vE:=@List.ext_getElem?
def Hb:=@List.mem_of_mem_drop
def iM:=@beq_iff_eq
def tC:=@cell_of_row
def pM:=@beq_self_eq_true
def yL:=@List.not_mem_nil
def rl:=@List.length_drop
def vF:=@List.cons_append
def Hc:=@run_firstCells_some
def Hd:=@List.map_congr_left
def yM:=@List.all_cons
def He:=@List.filter_append
def Nh:=@Array.getElem?_eq_none
def vz:=@decide_true
def vA:=@grownCap_ge
def M9:=@Nat.ne_of_beq_eq_false
def WU:=@List.eq_nil_of_length_eq_zero
def yG:=@decide_false
def M_:=@Array.getElem?_toList
def aCE:=@Int.lt_irrefl
def pF:=@wp_mono
def Na:=@Int.toNat_of_nonneg
def G4:=@List.foldl_cons
def G5:=@List.mem_filter
def G6:=@Bool.or_eq_true
def WV:=@List.getElem?_zip_eq_some
def Nb:=@run_loadCells_list
def G7:=@List.getElem?_take
def B9:=@wpList_plain
def WW:=@List.getElem?_replicate
def B_:=@Nat.sub_mul
def G8:=@List.map_cons
def Nc:=@Nat.div_eq_of_lt
def Nd:=@Nat.mod_eq_of_lt
end Go
namespace Go.af
open Go Go.RowKit
inductive J where
 |undef
 |int (k:IntKind) (n:Int)
 |bool (b:Bool)
 |lit (b:Bool)
 |gone
 |str (s:ByteArray)
 |aA
 |arr (M n:Nat) (f:Nat→List J)
 |own (b n:Nat)
 |ad (ro:Bool) (M n:Nat) (f:Nat→List J)
 |ptr (b o:Nat)
 |fp (b n i o:Nat)
 |ref (cs:List J)
 |fn (f:FuncId) (iU:List J)
 |agg (cs:List J)
 |c7 (cv:List J)
 |jg
 |jO (M n:Nat) (f:Nat→List J)
instance:Inhabited J:=⟨.undef⟩
abbrev _root_.Go.b(n:Int):J:= .int .i64 n
def u3:List (Nat×List J):=[(0,[.int .i64 22,.str ⟨#[]⟩,.str ⟨#[]⟩,.str ⟨#[]⟩,.int .i64 0])]
def pc(g:Nat):List (Nat×List J)→J
 |[]=> .undef
 |x::l=>match Nat.beq g x.1 with
  |true=> .ref x.2
  |false=>pc g l
abbrev dj:Nat:=549755813888
def one:Value→Bool
 | .agg _=>false
 | .tuple _=>false
 |_=>true
def aU{α β:Type}(R:α→β→Prop):List α→List β→Prop
 |[],[]=>True
 |a::aa,b::c=>R a b∧aU R aa c
 |_,_=>False
theorem aU.length{α β:Type}{R:α→β→Prop} : ∀{aa:List α} {a:List β},aU R aa a→aa.length=a.length
 |[],[],_=>rfl
 |_::_,_::_,h=>by simp [aU.length h.2]
 |[],_::_,h=>h.elim
 |_::_,[],h=>h.elim
theorem aU.imp{α β:Type}{R c:α→β→Prop}(e: ∀a b,R a b→c a b): ∀{aa:List α} {d:List β},aU R aa d→aU c aa d
 |[],[],_=>trivial
 |_::_,_::_,h=>⟨e _ _ h.1,aU.imp e h.2⟩
 |[],_::_,h=>h.elim
 |_::_,[],h=>h.elim
theorem aU.get{α β:Type}{R:α→β→Prop} : ∀{aa:List α} {c:List β},aU R aa c→ ∀(i:Nat) (a:α),aa[i]? =some a→ ∃b,c[i]? =some b∧R a b
 |[],[],_,i,a,h=>by simp at h
 |x::aa,y::c,h,0,a,d=>by simp at d;subst d;exact⟨y,by simp,h.1⟩
 |x::aa,y::c,h,i+1,a,d=>by simpa using aU.get h.2 i a (by simpa using d)
 |[],_::_,h,_,_,_=>h.elim
 |_::_,[],h,_,_,_=>h.elim
theorem aU.mk{α β:Type}{R:α→β→Prop} : ∀{aa:List α} {d:List β},aa.length=d.length→(∀(i:Nat) (a:α) (b:β),aa[i]? =some a→d[i]? =some b→R a b)→aU R aa d
 |[],[],_,_=>trivial
 |a::aa,b::d,c,h=>⟨h 0 a b rfl rfl,aU.mk (by simpa using c) fun i e f g j=>h (i+1) e f (by simpa using g) (by simpa using j)⟩
 |[],_::_,c,_=>by simp at c
 |_::_,[],c,_=>by simp at c
theorem aU.append{α β:Type}{R:α→β→Prop} : ∀{aa:List α} {a:List β} {cs:List α} {b:List β},aU R aa a→aU R cs b→aU R (aa++cs) (a++b)
 |[],[],_,_,_,h=>h
 |_::_,_::_,_,_,h,k=>⟨h.1,aU.append h.2 k⟩
 |[],_::_,_,_,h,_=>h.elim
 |_::_,[],_,_,h,_=>h.elim
inductive aR (w:World) (F:Nat→Prop):J→Value→Prop
 |int (k:IntKind) (n:Int):aR w F (.int k n) (.int k n)
 |bool (b:Bool):aR w F (.bool b) (.bool b)
 |lit (b:Bool):aR w F (.lit b) (.bool b)
 |str (s:ByteArray) (iF:s.size≤dj):aR w F (.str s) (.string s)
 |aA:aR w F .aA (.slice none 0 0)
 |jg:aR w F .jg (.pointer none)
 |jO (M n:Nat) (f:Nat→List J) (p:Option Addr) (c:Nat) (h:aR w F (.arr M n f) (.slice p n c)) (jd:c=n):aR w F (.jO M n f) (.slice p n c)
 |nil (M:Nat) (f:Nat→List J):aR w F (.arr M 0 f) (.slice none 0 0)
 |mt (M:Nat) (f:Nat→List J) (a:Addr) (c:Nat):aR w F (.arr M 0 f) (.slice (some a) 0 c)
 |arr (M n:Nat) (f:Nat→List J) (b o c:Nat) (g:Nat→Nat→J) (cv:Nat→Nat→Value) (eX:n≤c) (iF:n≤dj) (nf:0<n→F b)
   (eM: ∀i j,i<n→j<M→(f i)[j]? =some (g i j)) (gX: ∀i j,i<n→j<M→w.cell? ⟨b,o+i*M+j,none⟩=some (cv i j))
   (e4: ∀i j,i<n→j<M→aR w F (g i j) (cv i j)):aR w F (.arr M n f) (.slice (some ⟨b,o,none⟩) n c)
 |ref (cs:List J) (b o:Nat) (g:Nat→J) (cv:Nat→Value) (nf:F b) (eM: ∀j,j<cs.length→cs[j]? =some (g j))
   (gX: ∀j,j<cs.length→w.cell? ⟨b,o+j,none⟩=some (cv j)) (e4: ∀j,j<cs.length→aR w F (g j) (cv j)):aR w F (.ref cs) (.pointer (some ⟨b,o,none⟩))
 |fn (f:FuncId) (iU:List J) (cv:List Value) (g:Nat→J) (u:Nat→Value) (n9:cv.length=iU.length) (eM: ∀j,j<iU.length→iU[j]? =some (g j))
   (gX: ∀j,j<iU.length→cv[j]? =some (u j)) (e4: ∀j,j<iU.length→aR w F (g j) (u j)):aR w F (.fn f iU) (.func (.func f) #[] cv.toArray)
theorem aR.mono{w w':World}{F F':Nat→Prop}(B: ∀x,F x→F' x)(t: ∀x o,F x→w'.cell? ⟨x,o,none⟩=w.cell? ⟨x,o,none⟩){av:J}{v:Value}(h:aR w F av v):aR w' F' av v:=by
 induction h with
 |int k n=>exact .int k n
 |bool b=>exact .bool b
 |lit b=>exact .lit b
 |str s y=>exact .str s y
 |aA=>exact .aA
 |jg=>exact .jg
 |jO e n f p c h t d=>exact .jO e n f p c d t
 |nil e f=>exact .nil e f
 |mt e f a c=>exact .mt e f a c
 |arr e n f b o c g r G y q l m A d=>
  exact .arr e n f b o c g r G y (fun h=>B _ (q h)) l (fun i j D z=>by rw[t b _ (q (by omega))];exact m i j D z) d
 |ref cs b o g r q l m A d=>
  exact .ref cs b o g r (B _ q) l (fun j z=>by rw[t b _ q];exact m j z) d
 |fn f C r g u E l m A d=>exact .fn f C r g u E l m d
def fl(w:World)(F:Nat→Prop):J→Value→Prop
 | .undef,_=>False
 | .agg cs,v=> ∃a:List Value,v= .agg a.toArray∧aU (aR w F) cs a
 |av,v=>aR w F av v
theorem fl.mono{w w':World}{F F':Nat→Prop}(a: ∀x,F x→F' x)(b: ∀x o,F x→w'.cell? ⟨x,o,none⟩=w.cell? ⟨x,o,none⟩){av:J}{v:Value}(h:fl w F av v):fl w' F' av v:=by
 cases av<;>simp only[fl]at* <;>first|exact h|exact h.mono a b|skip
 obtain⟨c,rfl,h⟩:=h;exact⟨c,rfl,h.imp fun _ _=>aR.mono a b⟩
def jL(w:World)(F:Nat→Prop):J→Value→Prop
 | .c7 aa,v=> ∃a:List Value,v= .tuple a.toArray∧aU (fl w F) aa a
 |av,v=>fl w F av v
theorem jL.mono{w w':World}{F F':Nat→Prop}(a: ∀x,F x→F' x)(b: ∀x o,F x→w'.cell? ⟨x,o,none⟩=w.cell? ⟨x,o,none⟩){av:J}{v:Value}(h:jL w F av v):jL w' F' av v:=by
 cases av
 case c7 aa=>
  obtain⟨us,rfl,c⟩:=h;exact⟨us,rfl,c.imp fun _ _=>fl.mono a b⟩
 all_goals (simp only[jL]at h ⊢;exact fl.mono a b h)
def pW(b:Nat)(w:World)(F:Nat→Prop):J→Value→Prop
 | .ad _ a n f,v=>(n=0∧v= .slice none 0 0)∨ ∃x c C T,b≤x∧x<w.heap.size∧v= .slice (some ⟨x,0,none⟩) n c∧n≤c∧n≤dj∧w.heap[x]? =some (.cells C T (0,0))∧C.size=c*a∧
   ∀i j,i<n→j<a→ ∃av u,(f i)[j]? =some av∧C[i*a+j]? =some u∧aR w (fun y=>F y∧y≠x) av u
 |av,v=>jL w F av v
structure Cn (w:World) (F:Nat→Prop):Prop where
 lt: ∀x,F x→x<w.heap.size
 u2: ∀g,pc g u3= .undef∨aR w F (pc g u3) (.pointer (some ⟨g,0,none⟩))
def e1(P:Program)(f:FuncId)(aa:List J)(r:J):Prop:=
 ∀(w:World) (F:Nat→Prop) (a:List Value),Cn w F→aU (fl w F) aa a→
  Calls P f a.toArray w fun e w'=> ∃v,e= .returned v∧pW w.heap.size w' (fun x=>F x∨(w.heap.size≤x∧x<w'.heap.size)) r v∧Below w.heap.size w w'
abbrev Heap:=List (List J)
def B(H:Heap)(b o:Nat):J:=(H.getD b []).getD o .undef
def b_:J→Bool
 | .ad .. =>true
 |_=>false
def ot:J→Bool
 | .undef=>false
 | .ad a _ _ _=> !a
 |_=>true
def mr(H:Heap)(b:Nat):Prop:=(b_ (B H b 0)=true∧ot (B H b 0)=true)∨(b_ (B H b 0)=false∧ ∃o,ot (B H b o)=true)
theorem nv{H H':Heap}{b:Nat}(h: ∀o,B H' b o=B H b o)(k:mr H' b):mr H b:=by
 unfold mr at*
 simpa only[h]using k
def tJ(a:Nat→Prop)(B:Nat)(ι:Nat→Option Nat)(H:Heap)(w:World)(x:Nat):Prop:=(a x∨B≤x)∧x<w.heap.size∧ ∀b,mr H b→ι b≠some x
def iv(ι:Nat→Option Nat)(H:Heap)(w:World)(F:Nat→Prop):J→Value→Prop
 | .ptr b o,v=>b_ (B H b 0)=false∧ ∃x,ι b=some x∧v= .pointer (some ⟨x,o,none⟩)
 |av,v=>aR w F av v
def b8(ι:Nat→Option Nat)(H:Heap)(w:World)(F:Nat→Prop):J→Value→Prop
 | .undef,v=>one v=true
 | .gone,v=>one v=true
 | .own b k,v=>one v=true∧ ∃d a n f,B H b 0= .ad d a n f∧k≤n∧(k=n→(∃x c C T,ι b=some x∧v= .slice (some ⟨x,0,none⟩) n c∧n≤c∧w.heap[x]? =some (.cells C T (0,0))∧C.size=c*a)∨
   (n=0∧ι b=none∧v= .slice none 0 0))
 | .ptr b o,v=>b_ (B H b 0)=false∧ ∃x,ι b=some x∧v= .pointer (some ⟨x,o,none⟩)
 | .fp b k i o,v=>one v=true∧ ∃d a n f,B H b 0= .ad d a n f∧k≤n∧(k=n→ ∃x,ι b=some x∧v= .pointer (some ⟨x,i*a+o,none⟩))
 | .fn f g,v=> ∃e:List Value,v= .func (.func f) #[] e.toArray∧aU (iv ι H w F) g e
 | .agg _,_=>False
 | .c7 _,_=>False
 | .ad ..,_=>False
 |av,v=>aR w F av v
def eQ(ι:Nat→Option Nat)(H:Heap)(w:World)(F:Nat→Prop)(b o:Nat):J→Prop
 | .undef=>True
 | .ad c a n f=>o=0∧((c=true∧a=0∧ι b=none)∨n≤dj∧((n=0∧ι b=none)∨ ∃x C T,ι b=some x∧w.heap[x]? =some (.cells C T (0,0))∧
   ∀i j,i<n→j<a→ ∃av v,(f i)[j]? =some av∧C[i*a+j]? =some v∧aR w F av v))
 |av=>b_ (B H b 0)=false∧ ∃x v,ι b=some x∧w.cell? ⟨x,o,none⟩=some v∧w.frozen? ⟨x,o,none⟩=false∧b8 ι H w F av v
def fR(ι:Nat→Option Nat)(H:Heap)(w:World)(F:Nat→Prop):J→Value→Prop
 | .agg cs,v=> ∃a:List Value,v= .agg a.toArray∧aU (b8 ι H w F) cs a
 | .gone,_=>False
 |av,v=>b8 ι H w F av v
def eh(ι:Nat→Option Nat)(H:Heap)(w:World)(F:Nat→Prop):J→Value→Prop
 | .undef,_=>True
 | .gone,v=>v=undef
 | .c7 aa,v=> ∃a:List Value,v= .tuple a.toArray∧aU (fR ι H w F) aa a
 |av,v=>fR ι H w F av v
structure K where
 n:List J
 k:Heap
structure ec (ι:Nat→Option Nat) (H:Heap) (w:World) (F:Nat→Prop) (an:Nat→Option Nat) (H':Heap) (w':World) (F':Nat→Prop):Prop where
 hE: ∀x,F x→F' x
 cell: ∀x o,F x→w'.cell? ⟨x,o,none⟩=w.cell? ⟨x,o,none⟩
 box: ∀b x,ι b=some x→b_ (B H b 0)=false→an b=some x∧b_ (B H' b 0)=false
 arr: ∀b ro M n f,B H b 0= .ad ro M n f→ ∃nt ka ev fB,B H' b 0= .ad nt ka ev fB∧n≤ev∧
  (n=ev→ka=M∧an b=ι b∧ ∀x C T,ι b=some x→w.heap[x]? =some (.cells C T (0,0))→ ∃kd:Array Value,w'.heap[x]? =some (.cells kd T (0,0))∧kd.size=C.size)
structure ia (oC:Nat→Prop) (B:Nat) (w w':World):Prop where
 os:w'.os=w.os
 tape:w'.tape=w.tape
 output:w'.output=w.output
 size:w.heap.size≤w'.heap.size
 block: ∀k,k<B→ ¬oC k→w'.heap[k]? =w.heap[k]?
theorem ia.refl(a:Nat→Prop)(B:Nat)(w:World):ia a B w w:=⟨rfl,rfl,rfl,bC _,fun _ _ _=>rfl⟩
theorem ia.of{a:Nat→Prop}{B:Nat}{w w':World}(h:Below B w w'):ia a B w w':=⟨h.os,h.tape,h.output,h.size,fun k b _=>h.block k b⟩
theorem ia.then{d:Nat→Prop}{B:Nat}{a b c:World}(h:ia d B a b)(k:ia d B b c):ia d B a c:=
 ⟨k.os.trans h.os,k.tape.trans h.tape,k.output.trans h.output,dB h.size k.size,fun i e f=>(k.block i e f).trans (h.block i e f)⟩
theorem ia.trans{d:Nat→Prop}{B:Nat}{a b c:World}(h:ia d B a b)(k:Below B b c):ia d B a c:=h.then (.of k)
theorem ia.alloc{b:Nat→Prop}{B:Nat}{a w:World}(h:ia b B a w)(c:B≤w.heap.size)(o:Obj):ia b B a (w.alloc o):=
 h.trans ((Below.refl B w).alloc c o)
theorem ia.setCell{b:Nat→Prop}{B:Nat}{a w:World}(h:ia b B a w){p:Addr}(d:B≤p.block∨b p.block)(u:Value):ia b B a (w.setCell p u):=
 h.then ⟨rfl,rfl,rfl,by simp [World.setCell],fun k f c=>Below.heap_setCell _ _ _ _ (fun e=>d.elim (fun h=>by omega) fun h=>c (by rw[e];exact h))⟩
theorem ia.plain{b:Nat→Prop}{B:Nat}{a w:World}(h:ia b B a w)(d: ∀k,¬b k):Below B a w:=⟨h.os,h.tape,h.output,h.size,fun k c=>h.block k c (d k)⟩
structure dM where
 oA:Nat→Prop
 kL:World
 lt: ∀x,oA x→x<kL.heap.size
 oC:Nat→Prop
 azC: ∀x,oC x→oA x
 iO:Nat→Option Nat
 tL:Heap
 Xy:Nat→Prop
 p2: ∀b x,iO b=some x→b<tL.length
 u2: ∀g,pc g u3= .undef∨aR kL Xy (pc g u3) (.pointer (some ⟨g,0,none⟩))
structure aP (S:dM) (ι:Nat→Option Nat) (st:K) (a:Act) (w:World):Prop where
 below:ia S.oC S.kL.heap.size S.kL w
 defers:a.defers=[]
 n: ∀(t:Nat) (av:J),st.n[t]? =some av→ ∃v,a.tmps[t]? =some v∧eh ι st.k w (tJ S.oA S.kL.heap.size ι st.k w) av v
 k: ∀b o,eQ ι st.k w (tJ S.oA S.kL.heap.size ι st.k w) b o (B st.k b o)
 inj: ∀b kj x,ι b=some x→ι kj=some x→b=kj
 fresh: ∀b x,ι b=some x→(S.kL.heap.size≤x∨S.oC x)∧x<w.heap.size
 gn: ∀b x,ι b=some x→b<st.k.length
 gr:ec S.iO S.tL S.kL S.Xy ι st.k w (tJ S.oA S.kL.heap.size ι st.k w)
theorem aP.own{S:dM}{ι:Nat→Option Nat}{st:K}{a:Act}{w:World}(h:aP S ι st a w){b x:Nat}(c:ι b=some x):S.oA x∨S.kL.heap.size≤x:=
 (h.fresh b x c).1.elim .inr fun h=> .inl (S.azC x h)
theorem acW: ∀(g:Nat) (l:List (Nat×List J)),pc g l= .undef∨ ∃cs,pc g l= .ref cs
 |_,[]=> .inl rfl
 |g,x::l=>by
  unfold pc
  cases Nat.beq g x.1
  ·exact acW g l
  ·exact .inr ⟨_,rfl⟩
theorem aP.u2{S:dM}{ι:Nat→Option Nat}{st:K}{a:Act}{w:World}(h:aP S ι st a w)(g:Nat):pc g u3= .undef∨aR w (tJ S.oA S.kL.heap.size ι st.k w) (pc g u3) (.pointer (some ⟨g,0,none⟩)):=
 (S.u2 g).imp id fun k=>k.mono h.gr.hE h.gr.cell
theorem aP.Qz{S:dM}{ι:Nat→Option Nat}{st:K}{a:Act}{w:World}(h:aP S ι st a w):Cn w (tJ S.oA S.kL.heap.size ι st.k w):=⟨fun _ b=>b.2.1,h.u2⟩
def pack(us:List Value):Value:=if h:us.toArray.size=1 then us.toArray[0]else .tuple us.toArray
def fm(P:Program)(f:FuncId)(aa:List J)(H:Heap)(rs:List J)(H':Heap):Prop:=
 ∀(S:dM) (ι:Nat→Option Nat) (w:World) (a:List Value),S.tL.length≤H.length→a.length=aa.length→aP S ι ⟨aa,H⟩ {tmps:=a.toArray,defers:=[]} w→
  Calls P f a.toArray w fun e w'=> ∃us an,e= .returned (pack us)∧us.length=rs.length∧aP S an ⟨rs,H'⟩ {tmps:=us.toArray,defers:=[]} w'
section
variable {ι an:Nat→Option Nat} {H H':Heap} {w w':World} {F F':Nat→Prop}
theorem ec.refl:ec ι H w F ι H w F:=⟨fun _ h=>h,fun _ _ _=>rfl,fun _ _ h k=>⟨h,k⟩,fun _ a b n f h=>⟨a,b,n,f,h,bC _,fun _=>⟨rfl,rfl,fun _ C _ _ h=>⟨C,h,rfl⟩⟩⟩⟩
theorem ec.trans{ι an eb:Nat→Option Nat}{H H' kf:Heap}{w w' j:World}{F F' my:Nat→Prop}(h:ec ι H w F an H' w' F')(k:ec an H' w' F' eb kf j my):ec ι H w F eb kf j my:=by
 refine⟨fun x a=>k.hE x (h.hE x a),fun x o a=>(k.cell x o (h.hE x a)).trans (h.cell x o a),fun b x a g=>k.box b x (h.box b x a g).1 (h.box b x a g).2,fun b N Q n f B=> ?_⟩;obtain⟨O,R,c,r,t,U,u⟩:=h.arr b N Q n f B;obtain⟨P,S,i,s,E,V,G⟩:=k.arr b O R c r t;refine⟨P,S,i,s,E,by omega,fun e=> ?_⟩;have p:n=c:=by omega
 have q:c=i:=by omega
 obtain⟨D,d,v⟩:=u p;obtain⟨M,I,J⟩:=G q;refine⟨M.trans D,I.trans d,fun x C T a A=> ?_⟩;obtain⟨l,y,z⟩:=v x C T a A;obtain⟨m,K,L⟩:=J x l T (by rw[d];exact a) y;exact⟨m,K,L.trans z⟩
theorem iv.step(h:ec ι H w F an H' w' F'){av:J}{v:Value}(k:iv ι H w F av v):iv an H' w' F' av v:=by
 cases av<;>simp only[iv]at* <;>first|exact k.mono h.hE h.cell|skip
 obtain⟨a,x,b,c⟩:=k;exact⟨(h.box _ _ b a).2,x,(h.box _ _ b a).1,c⟩
theorem b8.step(h:ec ι H w F an H' w' F'){av:J}{v:Value}(k:b8 ι H w F av v):b8 an H' w' F' av v:=by
 cases av<;>simp only[b8]at* <;>first|exact k.mono h.hE h.cell|exact k|skip
 ·obtain⟨s,K,L,n,f,a,b,d⟩:=k;obtain⟨t,u,j,o,p,A,q⟩:=h.arr _ _ _ _ _ a;refine⟨s,t,u,j,o,p,by omega,fun e=> ?_⟩;have l:n=j:=by omega
  obtain⟨r,m,B⟩:=q l;subst r;rcases d (by omega)with⟨x,c,C,T,g,i,y,G,I⟩|⟨g,i,y⟩
  ·obtain⟨z,D,E⟩:=B x C T g G;exact .inl ⟨x,c,z,T,by rw[m];exact g,by rw[←l];exact i,by omega,D,by rw[E];exact I⟩
  ·exact .inr ⟨by omega,by rw[m];exact i,y⟩
 ·obtain⟨a,x,b,d⟩:=k;exact⟨(h.box _ _ b a).2,x,(h.box _ _ b a).1,d⟩
 ·obtain⟨s,K,L,n,f,a,b,d⟩:=k;obtain⟨t,u,j,o,p,A,q⟩:=h.arr _ _ _ _ _ a;refine⟨s,t,u,j,o,p,by omega,fun e=> ?_⟩;have l:n=j:=by omega
  obtain⟨x,g,i⟩:=d (by omega);obtain⟨r,m,_⟩:=q l;subst r;exact⟨x,by rw[m];exact g,i⟩
 ·obtain⟨M,a,b⟩:=k;exact⟨M,a,b.imp fun _ _=>iv.step h⟩
theorem aR.one{av:J}{v:Value}(k:aR w F av v):one v=true:=by cases k<;>rfl
theorem b8.one{av:J}{v:Value}(k:b8 ι H w F av v):one v=true:=by
 cases av<;>simp only[b8]at k<;>first|exact k|exact k.one|exact k.1|(obtain⟨_,_,_,rfl⟩:=k;rfl)|(obtain⟨_,rfl,_⟩:=k;rfl)
theorem fR.step(h:ec ι H w F an H' w' F'){av:J}{v:Value}(k:fR ι H w F av v):fR an H' w' F' av v:=by
 cases av<;>simp only[fR]at* <;>first|exact k.step h|skip
 obtain⟨c,a,b⟩:=k;exact⟨c,a,b.imp fun _ _=>b8.step h⟩
theorem eh.step(h:ec ι H w F an H' w' F'){av:J}{v:Value}(k:eh ι H w F av v):eh an H' w' F' av v:=by
 cases av<;>simp only[eh]at* <;>first|exact fR.step h k|exact k|skip
 obtain⟨c,a,b⟩:=k;exact⟨c,a,b.imp fun _ _=>fR.step h⟩
theorem eQ.step(h:ec ι H w F an H' w' F'){b o:Nat}{av:J}(n:b_ av=false→an b=ι b)(m: ∀x,ι b=some x→b_ av=false→w'.cell? ⟨x,o,none⟩=w.cell? ⟨x,o,none⟩∧w'.frozen? ⟨x,o,none⟩=w.frozen? ⟨x,o,none⟩)
  (c:b_ av=true→an b=ι b∧ ∀x,ι b=some x→w'.heap[x]? =w.heap[x]?) (k:eQ ι H w F b o av):eQ an H' w' F' b o av:=by
 cases av<;>simp only[eQ]at* <;>try exact k
 all_goals first
  |(obtain⟨d,x,v,a,e,f,g⟩:=k
    exact⟨(h.box _ _ a d).2,x,v,by rw[n rfl];exact a,by rw[(m x a rfl).1];exact e,by rw[(m x a rfl).2];exact f,b8.step h g⟩)
  |skip
 obtain⟨d,l|⟨t,k⟩⟩:=k
 ·exact⟨d,.inl ⟨l.1,l.2.1,by rw[(c rfl).1];exact l.2.2⟩⟩
 refine⟨d,.inr ⟨t,?_⟩⟩;rcases k with k|⟨x,C,T,a,e,f⟩
 ·exact .inl ⟨k.1,by rw[(c rfl).1];exact k.2⟩
 ·refine .inr ⟨x,C,T,by rw[(c rfl).1];exact a,by rw[(c rfl).2 x a];exact e,fun i j p q=> ?_⟩;obtain⟨av,v,g,r,s⟩:=f i j p q;exact⟨av,v,g,r,s.mono h.hE h.cell⟩
end
def setAt{α:Type}(d:α):List α→Nat→α→List α
 |[],0,x=>[x]
 |[],i+1,x=>d::setAt d [] i x
 |_::aa,0,x=>x::aa
 |a::aa,i+1,x=>a::setAt d aa i x
theorem pb{α:Type}(d:α)(x:α): ∀(l:List α) (i j:Nat),(setAt d l i x).getD j d=if j=i then x else l.getD j d
 |[],0,0=>by simp [setAt]
 |[],0,j+1=>by simp [setAt]
 |[],i+1,0=>by simp [setAt]
 |[],i+1,j+1=>by simpa[setAt]using pb d x [] i j
 |_::aa,0,0=>by simp [setAt]
 |_::aa,0,j+1=>by simp [setAt]
 |a::aa,i+1,0=>by simp [setAt]
 |a::aa,i+1,j+1=>by simpa[setAt]using pb d x aa i j
theorem lE{α:Type}(d:α)(x:α): ∀(l:List α) (i:Nat),l.length≤(setAt d l i x).length∧i<(setAt d l i x).length
 |[],0=>by simp [setAt]
 |[],i+1=>by simp [setAt];exact(lE d x [] i).2
 |_::aa,0=>by simp [setAt]
 |a::aa,i+1=>by simp [setAt];exact lE d x aa i
def bs(H:Heap)(b o:Nat)(av:J):Heap:=setAt [] H b (setAt .undef (H.getD b []) o av)
def mf(H:Heap)(b:Nat)(cs:List J):Heap:=setAt [] H b cs
theorem eG(H:Heap)(b o:Nat)(av:J)(a c:Nat):B (bs H b o av) a c=if a=b∧c=o then av else B H a c:=by
 unfold B bs;rw[pb]
 by_cases d:a=b
 ·subst d;rw[bf rfl,pb]
  by_cases e:c=o<;>simp [e]
 ·simp [d]
theorem Fj(H:Heap)(b:Nat)(cs:List J)(a c:Nat):B (mf H b cs) a c=if a=b then cs.getD c .undef else B H a c:=by
 unfold B mf;rw[pb]
 by_cases d:a=b<;>simp [d]
section
variable {S:dM} {ι:Nat→Option Nat} {st:K} {a:Act} {w:World}
abbrev aK(S:dM)(ι:Nat→Option Nat)(H:Heap)(w:World):Nat→Prop:=tJ S.oA S.kL.heap.size ι H w
theorem aP.put(h:aP S ι st a w)(d:Nat){av:J}{v:Value}(k:eh ι st.k w (aK S ι st.k w) av v):aP S ι ⟨st.n.set d av,st.k⟩ (a.put (some d) v) w:=by
 refine⟨h.below,h.defers,fun t u b=> ?_,h.k,h.inj,h.fresh,h.gn,h.gr⟩
 by_cases j:t=d
 ·subst j;rw[tw]at b;simp only[kN]at b
  split at b
  ·rename_i g;simp only[gM]at b;subst b;obtain⟨e,c,_⟩:=h.n t (st.n[t]) (cI g);have i:t<a.tmps.size:=by
    rcases fk t a.tmps.size with h|h
    ·exact h
    ·simp [Nh h]at c
   exact⟨v,by simp [Act.put,i],k⟩
  ·cases b
 ·rw[Cc (by omega)]at b;obtain⟨e,c,f⟩:=h.n t u b;exact⟨e,by simp only[Act.put];rw[G9 (by omega)];exact c,f⟩
theorem aP.world(h:aP S ι st a w){w':World}(d:Below w.heap.size w w'):aP S ι st a w'∧ec ι st.k w (aK S ι st.k w) ι st.k w' (aK S ι st.k w'):=by
 have g:ec ι st.k w (aK S ι st.k w) ι st.k w' (aK S ι st.k w'):=by
  refine⟨fun x ⟨i,e,j⟩=>⟨i,gk e d.size,j⟩,fun x o ⟨_,e,_⟩=>d.cell e,fun _ _ h k=>⟨h,k⟩,fun b q r n f m=>⟨q,_,n,f,m,bC _,fun _=>⟨rfl,rfl,fun x C T c l=>⟨C,?_,rfl⟩⟩⟩⟩;rw[d.block x (h.fresh _ _ c).2];exact l
 refine⟨⟨h.below.trans (d.mono h.below.size),h.defers,fun t av p=> ?_,fun b o=> ?_,h.inj,fun b x c=>⟨(h.fresh b x c).1,gk (h.fresh b x c).2 d.size⟩,h.gn,h.gr.trans g⟩,g⟩
 ·obtain⟨v,i,e⟩:=h.n t av p;exact⟨v,i,e.step g⟩
 ·exact(h.k b o).step g (fun _=>rfl) (fun x c _=>⟨d.cell (h.fresh _ _ c).2,d.frozen (h.fresh _ _ c).2⟩) (fun _=>⟨rfl,fun x c=>d.block x (h.fresh _ _ c).2⟩)
def cp(ι:Nat→Option Nat)(b:Nat)(x:Nat):Nat→Option Nat:=fun k=>if k=b then some x else ι k
theorem aP.aya(h:aP S ι st a w)(b:Nat)(K: ∀o,B st.k b o= .undef)(W:ι b=none)(cs:List J)(i:List Value)(T:TypeId)(s:aU (b8 ι st.k w (aK S ι st.k w)) cs i):
  aP S (cp ι b w.heap.size) ⟨st.n,mf st.k b cs⟩ a (w.alloc (.cells i.toArray T))∧
  ec ι st.k w (aK S ι st.k w) (cp ι b w.heap.size) (mf st.k b cs) (w.alloc (.cells i.toArray T)) (aK S (cp ι b w.heap.size) (mf st.k b cs) (w.alloc (.cells i.toArray T)))∧
  b8 (cp ι b w.heap.size) (mf st.k b cs) (w.alloc (.cells i.toArray T)) (aK S (cp ι b w.heap.size) (mf st.k b cs) (w.alloc (.cells i.toArray T))) (.ptr b 0) (.pointer (some ⟨w.heap.size,0,none⟩)):=by
 have z: ∀d x,ι d=some x→d≠b:=fun d x g e=>by rw[e,W]at g;cases g
 have p: ∀d o,d≠b→B (mf st.k b cs) d o=B st.k d o:=fun d o Q=>by rw[Fj,a7 Q]
 have y:b_ (B (mf st.k b cs) b 0)=false:=by
  rw[Fj,bf rfl]
  cases cs with
  |nil=>rfl
  |cons c cs=>
   cases i with
   |nil=>exact s.elim
   |cons v i=>simp;cases c<;>first|rfl|exact s.1.elim
 have m:ec ι st.k w (aK S ι st.k w) (cp ι b w.heap.size) (mf st.k b cs) (w.alloc (.cells i.toArray T)) (aK S (cp ι b w.heap.size) (mf st.k b cs) (w.alloc (.cells i.toArray T))):=by
  refine⟨fun x ⟨k,j,H⟩=>⟨k,by simp;omega,fun d L=> ?_⟩,fun x o ⟨_,j,_⟩=>World.cell?_alloc_lt w _ (a:=⟨x,o,none⟩) j,fun d x g l=>⟨by simp [cp,z d x g,g],by rw[p _ _ (z d x g)];exact l⟩,fun d X Z n f l=> ?_⟩
  ·unfold cp
   by_cases e:d=b
   ·simp only[e,kN];intro N;simp at N;omega
   ·simp only[e,mx];exact H d (nv (fun o=>p d o e) L)
  ·have e:d≠b:=fun e=>by rw[e,K]at l;cases l
   refine⟨X,_,n,f,by rw[p _ _ e];exact l,bC _,fun _=>⟨rfl,by simp [cp,e],fun x C Y g I=>⟨C,?_,rfl⟩⟩⟩;rw[Below.heap_alloc _ _ _ (h.fresh _ _ g).2];exact I
 refine⟨⟨h.below.alloc h.below.size _,h.defers,fun t av U=> ?_,fun d o=> ?_,fun D E x k j=> ?_,fun d x g=> ?_,fun d x g=> ?_,h.gr.trans m⟩,m,?_⟩
 ·obtain⟨v,k,j⟩:=h.n t av U;exact⟨v,k,j.step m⟩
 ·by_cases e:d=b
  ·subst e;rw[Fj,bf rfl];rcases fk o cs.length with r|r
   ·have u:cs[o]? =some cs[o]:=cI r;obtain⟨v,V,A⟩:=s.get o _ u;have M:(w.alloc (.cells i.toArray T)).cell? ⟨w.heap.size,o,none⟩=some v:=by rw[World.cell?_alloc_new];simpa using V
    have O:(w.alloc (.cells i.toArray T)).frozen? ⟨w.heap.size,o,none⟩=false:=by simp
    have R:=b8.step m A;have q:cs.getD o .undef=cs[o]:=by simp [List.getD,u]
    rw[q];have P:cp ι d w.heap.size d=some w.heap.size:=by simp [cp]
    generalize cs[o]=c at*
    cases c<;>simp only[eQ]<;>first|trivial|exact⟨y,_,v,P,M,O,R⟩|exact A.elim
   ·have q:cs.getD o .undef= .undef:=by simp [List.getD,eF r]
    rw[q];trivial
  ·rw[p _ _ e];refine(h.k d o).step m (fun _=>by simp [cp,e]) (fun x g _=>⟨World.cell?_alloc_lt w _ (a:=⟨x,o,none⟩) (h.fresh _ _ g).2,World.frozen?_alloc_old w _ (a:=⟨x,o,none⟩) (by have:=(h.fresh _ _ g).2;show x≠_;omega)⟩) (fun _=>⟨by simp [cp,e],fun x g=>Below.heap_alloc _ _ _ (h.fresh _ _ g).2⟩)
 ·unfold cp at k j
  by_cases F:D=b<;>by_cases G:E=b<;>simp only[F,G,kN,mx]at k j
  ·omega
  ·simp at k;have:=(h.fresh _ _ j).2;omega
  ·simp at j;have:=(h.fresh _ _ k).2;omega
  ·exact h.inj _ _ _ k j
 ·unfold cp at g
  by_cases e:d=b<;>simp only[e,kN,mx]at g
  ·simp at g;subst g;exact⟨.inl h.below.size,by simp⟩
  ·have:=h.fresh _ _ g;exact⟨this.1,by simp;omega⟩
 ·unfold cp at g
  by_cases e:d=b
  ·rw[e];exact(lE _ _ _ _).2
  ·simp only[e,mx]at g;exact gk (h.gn _ _ g) (lE _ _ _ _).1
 ·exact⟨y,w.heap.size,by simp [cp],rfl⟩
end
section
variable {S:dM} {ι:Nat→Option Nat} {st:K} {a:Act} {w:World}
theorem LA{av:J}(h:b_ av=true): ∃a b n f,av= .ad a b n f:=by
 cases av<;>first|exact⟨_,_,_,_,rfl⟩|(cases h;done)
theorem eQ.box{b o:Nat}{av:J}{H:Heap}{F:Nat→Prop}(h:eQ ι H w F b o av)(c:av≠ .undef)(a:b_ av=false):
  ∃x v,ι b=some x∧w.cell? ⟨x,o,none⟩=some v∧w.frozen? ⟨x,o,none⟩=false∧b8 ι H w F av v:=by
 cases av<;>first|exact h.2|exact absurd rfl c|(cases a;done)
theorem eQ.ax5{b o:Nat}{av:J}{H:Heap}{F:Nat→Prop}(h:eQ ι H w F b o av)(c:av≠ .undef)(a:b_ av=false):b_ (B H b 0)=false:=by
 cases av<;>first|exact h.1|exact absurd rfl c|(cases a;done)
theorem ah5{av:J}(b:av≠ .undef)(a:b_ av=false):ot av=true:=by
 cases av<;>first|rfl|exact absurd rfl b|(cases a;done)
theorem aP.store(h:aP S ι st a w){b o x:Nat}(j:ι b=some x)(H:B st.k b o≠ .undef)(l:b_ (B st.k b 0)=false)(E:b_ (B st.k b o)=false)
  {av:J} {v:Value} (I:b8 ι st.k w (aK S ι st.k w) av v):
  aP S ι ⟨st.n,bs st.k b o av⟩ a (w.setCell ⟨x,o,none⟩ v)∧ec ι st.k w (aK S ι st.k w) ι (bs st.k b o av) (w.setCell ⟨x,o,none⟩ v) (aK S ι (bs st.k b o av) (w.setCell ⟨x,o,none⟩ v)):=by
 have u:b_ av=false:=by cases av<;>first|rfl|exact I.elim
 have G:mr st.k b:= .inr ⟨l,o,ah5 H E⟩;obtain⟨aEE,v0,K,O,Q,_⟩:=(h.k b o).box H E;rw[j]at K;cases K;have F: ∀y p,y≠x→(w.setCell ⟨x,o,none⟩ v).cell? ⟨y,p,none⟩=w.cell? ⟨y,p,none⟩:=fun y p c=>World.cell?_setCell_other w _ _ _ (by intro e;cases e;exact c rfl);have V:b_ (B (bs st.k b o av) b 0)=false:=by
  rw[eG];split
  ·exact u
  ·exact l
 have m:ec ι st.k w (aK S ι st.k w) ι (bs st.k b o av) (w.setCell ⟨x,o,none⟩ v) (aK S ι (bs st.k b o av) (w.setCell ⟨x,o,none⟩ v)):=by
  refine⟨fun y ⟨r,s,q⟩=>⟨r,by simpa using s,fun d N=> ?_⟩,fun y p ⟨_,_,q⟩=>F y p (fun e=>q b G (by rw[j,e])),fun d y c i=>⟨c,?_⟩,fun d L Z n f i=> ?_⟩
  ·by_cases e:d=b
   ·rw[e];exact q b G
   ·exact q d (nv (fun p=>by rw[eG,a7 (fun g=>e g.1)]) N)
  ·rw[eG];split
   ·exact u
   ·exact i
  ·have e:d≠b:=fun e=>by rw[e]at i;rw[i]at l;cases l
   refine⟨L,_,n,f,by rw[eG,a7 (fun g=>e g.1)];exact i,bC _,fun _=>⟨rfl,rfl,fun y C T c M=>⟨C,?_,rfl⟩⟩⟩;rw[Below.heap_setCell _ _ _ _ (by intro g;exact e (h.inj _ _ _ c (by rw[g];exact j)))];exact M
 refine⟨⟨h.below.setCell (h.fresh _ _ j).1 _,h.defers,fun t b6 Y=> ?_,fun d p=> ?_,h.inj,fun d y c=>⟨(h.fresh _ _ c).1,by simpa using(h.fresh _ _ c).2⟩,fun d y c=>gk (h.gn _ _ c) (lE _ _ _ _).1,h.gr.trans m⟩,m⟩
 ·obtain⟨v,r,s⟩:=h.n t b6 Y;exact⟨v,r,s.step m⟩
 ·by_cases e:d=b∧p=o
  ·obtain⟨rfl,rfl⟩:=e;rw[eG,bf ⟨rfl,rfl⟩];have k:=b8.step m I;have P:=World.cell?_setCell_same w _ v O;have R:(w.setCell ⟨x,p,none⟩ v).frozen? ⟨x,p,none⟩=false:=by simpa using Q
   cases av<;>first|exact⟨V,x,v,j,P,R,k⟩|trivial|(cases u;done)
  ·have U:B (bs st.k b o av) d p=B st.k d p:=by rw[eG,a7 e]
   rw[U]
   by_cases z:d=b
   ·subst z;have X:p≠o:=fun g=>e ⟨rfl,g⟩
    by_cases A:b_ (B st.k d p)=true
    ·obtain⟨L,Z,n,f,i⟩:=LA A;have D:=h.k d p;rw[i]at D;have W:p=0:=D.1;rw[W]at i;rw[i]at l;cases l
    ·refine(h.k d p).step m (fun _=>rfl) (fun y c _=> ?_) (fun i=>absurd i A);rw[j]at c;cases c;exact⟨World.cell?_setCell_other w _ _ _ (by intro g;cases g;exact X rfl),by simp⟩
   ·refine(h.k d p).step m (fun _=>rfl) (fun y c _=>⟨F y p (fun g=>z (h.inj _ _ _ c (by rw[g];exact j))),by simp⟩) (fun _=>⟨rfl,fun y c=>Below.heap_setCell _ _ _ _ (fun g=>z (h.inj _ _ _ c (by rw[g];exact j)))⟩)
theorem as2{a i b j q:Nat}(f:j<a)(g:q<a)(h:b*a+j=i*a+q):b=i∧j=q:=by
 have c:(b*a+j)/a=b:=by rw[tB,Nat.mul_add_div (by omega),Nc f,lN]
 have d:(i*a+q)/a=i:=by rw[tB,Nat.mul_add_div (by omega),Nc g,lN]
 have e:b=i:=by rw[←c,←d,h]
 subst e;exact⟨rfl,by omega⟩
theorem aP.ahz(h:aP S ι st a w){b x n l i q:Nat}{f:Nat→List J}{C:Array Value}{T:TypeId}(E:ι b=some x)(F:B st.k b 0= .ad false l n f)(W:w.heap[x]? =some (.cells C T (0,0)))(iI:q<l)(iG:i*l+q<C.size){c:J}{v:Value}(c3:aR w (aK S ι st.k w) c v){g:Nat→List J}
  (arT: ∀j,j<n→g j=bif Nat.beq j i then(f j).set q c else f j) (k6: ∀r j,r<n→j<l→ ∃av u,(f r)[j]? =some av∧C[r*l+j]? =some u∧aR w (aK S ι st.k w) av u) (jA:n≤dj):
  aP S ι ⟨st.n,bs st.k b 0 (.ad false l n g)⟩ a (w.setCell ⟨x,i*l+q,none⟩ v)∧ec ι st.k w (aK S ι st.k w) ι (bs st.k b 0 (.ad false l n g)) (w.setCell ⟨x,i*l+q,none⟩ v) (aK S ι (bs st.k b 0 (.ad false l n g)) (w.setCell ⟨x,i*l+q,none⟩ v)):=by
 have Z:mr st.k b:= .inl ⟨by rw[F];rfl,by rw[F];rfl⟩;have N: ∀d s,B (bs st.k b 0 (.ad false l n g)) d s=if d=b∧s=0 then .ad false l n g else B st.k d s:=fun d s=>eG _ _ _ _ _ _
 have K0:B (bs st.k b 0 (.ad false l n g)) b 0= .ad false l n g:=by rw[N,bf ⟨rfl,rfl⟩]
 have Q: ∀d s,d≠b→B (bs st.k b 0 (.ad false l n g)) d s=B st.k d s:=fun d s e=>by rw[N,a7 (fun h=>e h.1)]
 have H: ∀y,y≠x→(w.setCell ⟨x,i*l+q,none⟩ v).heap[y]? =w.heap[y]? :=fun y m=>heap_setCell_other w ⟨x,i*l+q,none⟩ y v m;have xJ:(w.setCell ⟨x,i*l+q,none⟩ v).heap[x]? =some (.cells (C.setIfInBounds (i*l+q) v) T (0,0)):=heap_setCell_same w x (i*l+q) C T v W;have A6: ∀d,mr (bs st.k b 0 (.ad false l n g)) d→mr st.k d:=fun d O=>by
  by_cases e:d=b
  ·rw[e];exact Z
  ·exact nv (fun b6=>Q d b6 e) O
 have o:ec ι st.k w (aK S ι st.k w) ι (bs st.k b 0 (.ad false l n g)) (w.setCell ⟨x,i*l+q,none⟩ v) (aK S ι (bs st.k b 0 (.ad false l n g)) (w.setCell ⟨x,i*l+q,none⟩ v)):=by
  refine⟨fun y ⟨K,L,M⟩=>⟨K,by simpa using L,fun d O=>M d (A6 d O)⟩,fun y p ⟨_,_,M⟩=>World.cell?_of_block (w:=w) (H y (fun e=>M b Z (by rw[E,e]))),fun d y m A=>⟨m,?_⟩,fun d ro l ev fB A=> ?_⟩
  ·have e:d≠b:=fun e=>by rw[e,F]at A;cases A
   rw[Q _ _ e];exact A
  ·by_cases e:d=b
   ·subst e;rw[F]at A;cases A;refine⟨false,_,n,g,K0,bC _,fun _=>⟨rfl,rfl,fun y D kV m G=> ?_⟩⟩;rw[E]at m;cases m;rw[W]at G;cases G;exact⟨_,xJ,by simp⟩
   ·exact⟨ro,_,ev,fB,by rw[Q _ _ e];exact A,bC _,fun _=>⟨rfl,rfl,fun y D kV m G=>⟨D,by rw[H y (fun z=>e (h.inj _ _ _ m (by rw[z];exact E)))];exact G,rfl⟩⟩⟩
 refine⟨⟨h.below.setCell (h.fresh _ _ E).1 _,h.defers,fun t u h2=> ?_,fun d p=> ?_,h.inj,fun d y m=>⟨(h.fresh _ _ m).1,by simpa using(h.fresh _ _ m).2⟩,fun d y m=>gk (h.gn _ _ m) (lE _ _ _ _).1,h.gr.trans o⟩,o⟩
 ·obtain⟨v,K,L⟩:=h.n t u h2;exact⟨v,K,L.step o⟩
 ·show eQ _ _ _ _ _ _ (B (bs st.k b 0 (.ad false l n g)) d p);rw[N]
  by_cases e:d=b∧p=0
  ·obtain⟨rfl,rfl⟩:=e;rw[bf ⟨rfl,rfl⟩];refine⟨rfl,.inr ⟨jA,.inr ⟨x,_,T,E,xJ,fun r j X Y=> ?_⟩⟩⟩;obtain⟨av,u,U,fX,h3⟩:=k6 r j X Y;rw[arT r X]
   by_cases I:r=i
   ·subst I;rw[nz];simp only[aQ]
    by_cases V:j=q
    ·subst V;have gu:=(hv.1 U).1;exact⟨c,v,by rw[List.getElem?_set_self gu],by rw[Array.getElem?_setIfInBounds_self_of_lt iG],c3.mono o.hE o.cell⟩
    ·exact⟨av,u,by rw[Cc (fun e=>V e.symm)];exact U,by rw[G9 (by omega)];exact fX,h3.mono o.hE o.cell⟩
   ·have arq:Nat.beq r i=false:=by
     cases e:Nat.beq r i with
     |false=>rfl
     |true=>exact absurd (dQ e) I
    rw[arq];refine⟨av,u,U,?_,h3.mono o.hE o.cell⟩;rw[G9 (fun e=>I (as2 Y iI e.symm).1)];exact fX
  ·rw[a7 e]
   by_cases P:d=b
   ·subst P;have k:p≠0:=fun z=>e ⟨rfl,z⟩;have R:=h.k d p
    cases fJ:B st.k d p<;>rw[fJ]at R
    case undef=>trivial
    case ad=>exact absurd R.1 k
    all_goals
     have:=R.1;rw[F]at this;cases this
   ·refine(h.k d p).step o (fun _=>rfl) (fun y m _=> ?_) (fun _=>⟨rfl,fun y m=>H y (fun z=>P (h.inj _ _ _ m (by rw[z];exact E)))⟩);have:=H y (fun z=>P (h.inj _ _ _ m (by rw[z];exact E)));exact⟨World.cell?_of_block (w:=w) this,World.frozen?_of_block (w:=w) this⟩
end
inductive rB where
 |bool|string|other
 |int (k:IntKind)
 |slice (e lo aC3:Nat)
 |pointer (e:Nat)
 |struct (Gg:List (Nat×Nat))
 |array (n e lo:Nat)
structure bD where
 size:Nat
 d:rB
 zero:List J
 cmp:Bool:=false
def rB.isAgg:rB→Bool
 | .struct _=>true
 | .array .. =>true
 |_=>false
def kW:J→Value→Prop
 | .int k n,v=>v= .int k n
 | .bool b,v=>v= .bool b
 | .str s,v=>v= .string s∧s.size=0
 | .aA,v=>v= .slice none 0 0
 | .jg,v=>v= .pointer none
 | .undef,v=>one v=true
 |_,_=>False
def Ib:J→J→Bool
 | .int _ a,.int _ b=>a==b
 | .bool a,.bool b=>a==b
 | .str a,.str b=>a.toList==b.toList
 |_,_=>false
def iW:List J→List J→Bool
 |[],[]=>true
 |a::aa,b::c=>Ib a b&&iW aa c
 |_,_=>false
def Qq:J→J→Bool
 | .int k _,.int a _=>decide (k=a)
 | .bool _,.bool _=>true
 | .str _,.str _=>true
 |_,_=>false
def hn:List J→List J→Bool
 |[],[]=>true
 |a::aa,b::c=>Qq a b&&hn aa c
 |_,_=>false
def vK:J→Value→Prop
 | .int k n,v=>v= .int k n
 | .bool b,v=>v= .bool b
 | .str s,v=>v= .string s
 |_,_=>False
def Hl(P:Program)(T:TypeId)(d:List J):Prop:=
 ∀(a:BinOp) (x y:Operand) (cs b:List J) (c us:List Value) (w:World),a= .eql∨a= .neq→hn d cs=true→hn d b=true→aU vK cs c→aU vK b us→
  (do eqGuard a T x y (.agg c.toArray) (.agg us.toArray);binOp a T (.agg c.toArray) (.agg us.toArray):Sem Value).run P w= .ok (.bool (cond (a== .eql) (iW cs b) (!(iW cs b)))) w
structure gl (P:Program) (T:TypeId) (t:bD):Prop where
 info: ∃i z,P.info? T=some i∧i.size=t.size∧i.zero=some z∧z.cells.size=t.size∧aU kW t.zero z.cells.toList
 agg: ∃d,P.underlying T=some d∧(t.d.isAgg=true→(match d with| .struct _| .array _ _=>true|_=>false)=true)∧(t.d.isAgg=false→t.size=1∧(match d with| .struct _| .array _ _=>false|_=>true)=true)
 d:match t.d with
  | .bool=>P.underlying T=some .bool
  | .string=>P.underlying T=some .string
  | .int k=>P.underlying T=some (.int k)
  | .slice e lo lX=>P.underlying T=some (.slice e)∧ ∃i,P.info? e=some i∧i.size=lo∧i.bytes=lX∧i.zero.isSome=true∧ ∀z,i.zero=some z→z.cells.size=i.size
  | .pointer e=>P.underlying T=some (.pointer e)
  | .struct Gg=> ∃Iw:Array Field,P.underlying T=some (.struct Iw)∧Iw.toList.mapM (fun f=>(P.info? f.type).map fun i=>(f.offset,i.size))=some Gg∧ ∀(k off M:Nat),Gg[k]? =some (off,M)→ ∃f:Field,Iw[k]? =some f∧f.offset=off∧ ∃i,P.info? f.type=some i∧i.size=M∧M≠0
  | .array n e lo=>P.underlying T=some (.array n e)∧ ∃i,P.info? e=some i∧i.size=lo
  | .other=>True
 cmp:t.cmp=true→Hl P T t.zero
section
variable {P:Program} {T:TypeId} {t:bD} (w:World)
theorem run_sizeOf(h:gl P T t):(sizeOf T).run P w= .ok t.size w:=by
 obtain⟨i,z,a,b,_⟩:=h.info;simp [sizeOf,typeInfo,a,b]
theorem MK(h:gl P T t):(isAgg T).run P w= .ok t.d.isAgg w:=by
 obtain⟨d,a,c,f⟩:=h.agg
 cases e:t.d.isAgg with
 |true=>
  have b:=c e
  cases d<;>first|(cases b;done)|simp [isAgg,eY a]
 |false=>
  have b:=(f e).2
  cases d<;>simp [isAgg,eY a]at*
theorem aAD(h:gl P T t): ∃z,(zeroValue T).run P w= .ok z w∧aU kW t.zero z.cells.toList∧z.cells.size=t.size:=by
 obtain⟨i,z,a,e,b,c,d⟩:=h.info;exact⟨z,by simp [zeroValue,typeInfo,a,b],d,c⟩
def rF(b:Bool)(a:List Value):Value:=if b then .agg a.toArray else a.headD undef
theorem aAB(h:gl P T t)(x o:Nat)(b:List Value)(a:b.length=t.size)(c: ∀(j:Nat) v,b[j]? =some v→w.cell? ⟨x,o+j,none⟩=some v):
  (loadVar T ⟨x,o,none⟩).run P w= .ok (rF t.d.isAgg b) w:=by
 have g: ∀j:Nat,(Addr.add ⟨x,o,none⟩ j)=⟨x,o+j,none⟩:=fun j=>Addr.add_lit x o j
 cases e:t.d.isAgg with
 |true=>
  have:=Nb (P:=P) w ⟨x,o,none⟩ b (fun j v i=>by rw[g];exact c j v i);rw[a]at this;simp [loadVar,MK w h,e,run_sizeOf w h,this,rF]
 |false=>
  obtain⟨d,_,_,f⟩:=h.agg;have k:=(f e).1
  match b,a with
  |[],a=>simp at a;omega
  |[v],_=>
   have:=c 0 v rfl;simp only[lN]at this;simp [loadVar,MK w h,e,rF,this]
  |_::_::_,a=>simp at a;omega
end
section
variable {P:Program} {S:dM} {ι:Nat→Option Nat} {st:K} {a:Act} {w:World}
def pe(H:Heap)(b:Nat):List J→Nat→Heap
 |[],_=>H
 |c::cs,o=>pe (bs H b o c) b cs (o+1)
theorem ahc(w:World)(p:Addr){v u:Value}(a:one v=true)(b:w.cell? p=some u)(c:w.frozen? p=false):(Go.store p v).run P w= .ok () (w.setCell p v):=by
 cases v<;>first|(cases a;done)|simp [Go.store,Sem.run,b,c]
theorem aP.ahA{b x fC:Nat}(k:ι b=some x): ∀(cs:List J) (e:List Value) (i:Nat) (st:K) (w:World),aP S ι st a w→b_ (B st.k b 0)=false→
  (∀j,j<cs.length→B st.k b (fC+i+j)≠ .undef∧b_ (B st.k b (fC+i+j))=false)→aU (b8 ι st.k w (aK S ι st.k w)) cs e→
  ∃w',(storeCells ⟨x,fC,none⟩ e i).run P w= .ok () w'∧aP S ι ⟨st.n,pe st.k b cs (fC+i)⟩ a w'∧ec ι st.k w (aK S ι st.k w) ι (pe st.k b cs (fC+i)) w' (aK S ι (pe st.k b cs (fC+i)) w')
 |[],[],i,st,w,h,_,_,_=>⟨w,by simp [storeCells],h,ec.refl⟩
 |[],_::_,_,_,_,_,_,_,d=>d.elim
 |_::_,[],_,_,_,_,_,_,d=>d.elim
 |c::cs,v::e,i,st,w,h,l,m,d=>by
  obtain⟨f,g⟩:=m 0 (by simp);simp only[lN]at f g;obtain⟨q,o⟩:=h.store k f l g d.1;obtain⟨E,D,n,t,y,_⟩:=(h.k b (fC+i)).box f g;rw[k]at n;cases n;have u:b_ c=false:=by cases c<;>first|rfl|exact d.1.elim
  have p:b_ (B (bs st.k b (fC+i) c) b 0)=false:=by rw[eG];split;exact u;exact l
  obtain⟨w',r,s,A⟩:=aP.ahA (fC:=fC) k cs e (i+1) ⟨st.n,bs st.k b (fC+i) c⟩ _ q p (fun j C=>by
   rw[eG,a7 (by omega)];have:=m (j+1) (by simp;omega);rwa [show fC+i+(j+1)=fC+(i+1)+j by omega]at this) (d.2.imp fun _ _=>b8.step o)
  refine⟨w',?_,s,o.trans A⟩;have z:=ahc (P:=P) w ⟨x,fC+i,none⟩ (b8.one d.1) t y;simp only[storeCells,Sem.run_bind,Addr.add_lit,z,Result.andThen];exact r
end
def c0(b:Bool)(p:Prop):Prop:=
 match b with
 |true=>p
 |false=>False
theorem ay{b:Bool}{p:Prop} :c0 b p↔b=true∧p:=by cases b<;>simp [c0]
def nr(a:Option Prop)(p:Prop):Prop:=
 match a with
 |none=>p
 |some q=>q∧p
theorem pw{a:Option Prop}{p:Prop} :nr a p↔nr a True∧p:=by cases a<;>simp [nr]
def lg(P:Program)(f:FuncId):Prop:= ∃a c,P.funcs[f]? =some a∧a.body=some c∧(a.name== "runtime.NumGoroutine")=false
structure Env where
 P:Program
 ty:TypeId→Option bD
 spec:FuncId→List J→Option (Option Prop×J)
 /--aCL many blocks have aCT handed on to aV function kb is looked at. -/
 m:Nat:=0
 /--eA aN do kb y0 handed boxes. -/
 nj:FuncId→List J→Heap→Option (Option Prop×List J×Heap):=fun _ _ _=>none
 /--aCQ aN y0 handed kJ of aV YH own,or hand ahs back. -/
 ed:FuncId→Bool:=fun _=>false
structure Env.dm (E:Env):Prop where
 ty: ∀T t,E.ty T=some t→gl E.P T t
 mixed:E.P.follows .mixedOrders=true
 spec: ∀f args pre r,E.spec f args=some (pre,r)→lg E.P f∧(nr pre True→e1 E.P f args r)
 nj: ∀f args H pre rs H',E.nj f args H=some (pre,rs,H')→lg E.P f∧(nr pre True→fm E.P f args H rs H')
def P2:Value→J
 | .int k n=> .int k n
 | .bool b=> .lit b
 | .string s=>match Nat.ble s.size dj with
   |true=> .str s
   |false=> .undef
 | .slice none 0 0=> .aA
 |_=> .undef
def ax(a:List J):Operand→J
 | .tmp t=>a.getD t .undef
 | .const v=>P2 v
 | .func f=> .fn f []
 | .global g=>pc g u3
abbrev bM:=List (Nat×Nat×J)
def bt(H:Heap):bM→Heap
 |[]=>H
 |(b,o,av)::r=>bt (bs H b o av) r
def hC(b:Nat):List J→Nat→bM
 |[],_=>[]
 |c::cs,o=>(b,o,c)::hC b cs (o+1)
theorem Lo(b:Nat): ∀(cs:List J) (o:Nat) (H:Heap),bt H (hC b cs o)=pe H b cs o
 |[],_,_=>rfl
 |c::cs,o,H=>by simp [hC,bt,pe,Lo b cs]
def cellsOf:J→List J
 | .agg cs=>cs
 |av=>[av]
def nx:J→Bool
 | .undef| .gone| .c7 _| .ad .. =>false
 |_=>true
def vU:J→Bool
 | .undef| .ad .. =>false
 |_=>true
def kl(H:Heap)(b o n:Nat):List J:=(List.range n).map fun j=>B H b (o+j)
def oF:Bool→List J→J
 |true,cs=> .agg cs
 |false,cs=>match cs.headD .undef with
  | .gone=> .undef
  |c=>c
def Gs(c:Bool)(x y:J)(K:J→Prop):Prop:=
 match c with
 |true=>K x
 |false=>K y
def Bh(a:Bool)(av:J)(K:J→Prop):Prop:=
 match a with
 |true=>match av with
  | .bool b=>(b=true→K (.lit true))∧(b=false→K (.lit false))
  |av=>K av
 |false=>K av
def F8:J→J
 | .lit b=> .bool b
 |av=>av
def eD:J→J
 | .agg cs=> .agg (cs.map F8)
 |av=>F8 av
def np(t:bD)(H:Heap)(x:J)(K:J→Prop):Prop:=
 match x with
 | .ptr b o=>c0 ((kl H b o t.size).all vU) (K (oF t.d.isAgg (kl H b o t.size)))
 | .ref cs=>c0 (decide (t.size≤cs.length)) (K (oF t.d.isAgg (cs.take t.size)))
 | .fp b k i o=>match B H b 0 with
   | .ad _ a n f=>k=n∧i<n∧c0 (decide (o+t.size≤a)) (K (oF t.d.isAgg (((f i).drop o).take t.size)))
   |_=>False
 |_=>False
def mD:J→Bool
 | .int .. | .bool _| .str _| .aA| .arr .. | .ref _=>true
 |_=>false
def YJ:J→Bool
 | .ptr .. =>true
 |x=>mD x
def nL:J→Bool
 | .int .. | .bool _| .str _| .aA| .arr .. | .ref _=>true
 | .fn _ a=>a.all mD
 |_=>false
def zr:J→Bool
 | .agg cs=>cs.all nL
 |av=>nL av
def qR(cs:List J):List J→Nat→List J
 |[],_=>cs
 |c::r,o=>qR (cs.set o c) r (o+1)
def M3(f:Nat→List J)(i o:Nat)(cs:List J)(j:Nat):List J:=bif Nat.beq j i then qR (f j) cs o else f j
def Mp:J→Bool
 | .int .. | .bool _| .str _=>true
 |_=>false
def tp(t:bD)(H:Heap)(x v:J)(K:bM→Prop):Prop:=
 match x with
 | .ptr b o=>c0 (nx v&&decide ((cellsOf v).length=t.size)&&(kl H b o t.size).all vU&& !(b_ (B H b 0))) (K (hC b (cellsOf v) o))
 | .fp b k i o=>match B H b 0 with
   | .ad c a n f=>c0 (!c&&decide (o+t.size≤a)&&nx (eD v)&&decide ((cellsOf (eD v)).length=t.size)&&(cellsOf (eD v)).all nL&& !((cellsOf (eD v)).isEmpty))
     (k=n∧i<n∧ ∃h:Nat→List J,(∀j,j<n→M3 f i o (cellsOf (eD v)) j=h j)∧K [(b,0,.ad false a n h)])
   |_=>False
 |_=>False
def rP(t:bD)(H:Heap)(f:Nat)(x:J)(K:J→Prop):Prop:=
 match t.d with
 | .struct c=>match c[f]? with
   |some (a,_)=>match x with
    | .ptr b o=>K (.ptr b (o+a))
    | .ref cs=>K (.ref (cs.drop a))
    | .fp b k i o=>match B H b 0 with
      | .ad _ _ n _=>k=n∧K (.fp b k i (o+a))
      |_=>False
    |_=>False
   |none=>False
 |_=>False
def sQ(t:bD)(H:Heap)(x i:J)(K:J→Prop):Prop:=
 match t.d with
 | .slice _ a _=>match i with
   | .int _ z=>match x with
     | .arr c n f=>c0 (decide (c=a)) ((0≤z∧z<n)∧K (.ref ((f z.toNat).take c)))
     | .own b k=>match B H b 0 with
       | .ad _ c n _=>c0 (decide (c=a)) (k=n∧(0≤z∧z<n)∧K (.fp b k z.toNat 0))
       |_=>False
     |_=>False
   |_=>False
 | .array n _ a=>match i with
   | .int _ z=>match x with
     | .ptr b o=>c0 (decide (0≤z)&&decide (z<n)) (K (.ptr b (o+z.toNat*a)))
     | .ref cs=>c0 (decide (0≤z)&&decide (z<n)) (K (.ref (cs.drop (z.toNat*a))))
     |_=>False
   |_=>False
 |_=>False
def vb(E:TypeId→Option bD)(t:bD)(x i:J)(K:J→Prop):Prop:=
 match t.d with
 | .array n e a=>match i with
   | .int _ z=>match x with
     | .agg cs=>match E e with
       |some u=>c0 (decide (0≤z)&&decide (z<n)&&decide (u.size=a)&&decide (z.toNat*a+a≤cs.length)) (K (oF u.d.isAgg ((cs.drop (z.toNat*a)).take a)))
       |none=>False
     |_=>False
   |_=>False
 |_=>False
def ve(c:BinOp)(k:IntKind)(a b:Int)(K:J→Prop):Prop:=
 match c with
 | .add=>K (.int k (k.wrap (a+b)))
 | .sub=>K (.int k (k.wrap (a-b)))
 | .mul=>K (.int k (k.wrap (a*b)))
 | .eql=>K (.bool (a==b))
 | .neq=>K (.bool (a !=b))
 | .lss=>K (.bool (decide (a<b)))
 | .leq=>K (.bool (decide (a≤b)))
 | .gtr=>K (.bool (decide (a>b)))
 | .geq=>K (.bool (decide (a≥b)))
 | .quo=>b≠0∧K (.int k (k.wrap (a.tdiv b)))
 | .rem=>b≠0∧K (.int k (a.tmod b))
 | .and=>K (.int k (bits .and k a b))
 | .or=>K (.int k (bits .or k a b))
 |_=>False
def LC:BinOp→Bool
 | .shl| .shr=>true
 |_=>false
def MR(c:BinOp)(k:IntKind)(a b:Int)(K:J→Prop):Prop:=
 (0≤b∧b≤k.bits)∧match c with
  | .shl=>K (.int k (k.wrap (a*2^b.toNat)))
  | .shr=>K (.int k (a/2^b.toNat))
  |_=>False
def oI(t:bD)(c:BinOp)(x y:J)(K:J→Prop):Prop:=
 match x,y with
 | .int k a,.int e b=>match LC c with
   |true=>MR c k a b K
   |false=>c0 (decide (k=e)) (ve c k a b K)
 | .bool a,.bool b=>match t.d with
   | .bool=>match c with
     | .eql=>K (.bool (a==b))
     | .neq=>K (.bool (!(a==b)))
     |_=>False
   |_=>False
 | .str a,.str b=>match c with
   | .eql=>K (.bool (a.toList==b.toList))
   | .neq=>K (.bool (!(a.toList==b.toList)))
   | .leq=>K (.bool (Op.bytesLess a.toList b.toList||a.toList==b.toList))
   | .gtr=>K (.bool (!(Op.bytesLess a.toList b.toList||a.toList==b.toList)))
   | .lss=>K (.bool (Op.bytesLess a.toList b.toList))
   | .geq=>K (.bool (!Op.bytesLess a.toList b.toList))
   | .add=>a.size+b.size≤dj∧K (.str (a++b))
   |_=>False
 | .agg cs,.agg d=>c0 (t.cmp&&hn t.zero cs&&hn t.zero d) (match c with
   | .eql=>K (.bool (iW cs d))
   | .neq=>K (.bool (!(iW cs d)))
   |_=>False)
 |_,_=>False
def yC(a:UnOp)(x:J)(K:J→Prop):Prop:=
 match a,x with
 | .not,.bool b=>K (.bool (!b))
 | .not,.lit b=>K (.lit (!b))
 | .neg,.int k n=>K (.int k (k.wrap (0-n)))
 |_,_=>False
def mC(c:List (Nat×Nat))(a:List J):List (Nat×Operand)→List J→(List J→Prop)→Prop
 |[],cs,K=>K cs
 |(i,x)::r,cs,K=>match c[i]? with
  |some (b,d)=>c0 (nx (ax a x)&&decide ((cellsOf (ax a x)).length=d)&&decide (b+d≤cs.length)) (mC c a r (qR cs (cellsOf (ax a x)) b) K)
  |none=>False
def po(H:Heap)(x:J)(K:J→Prop):Prop:=
 match x with
 | .arr _ n _=>K (.int .i64 n)
 | .aA=>K (.int .i64 0)
 | .str s=>K (.int .i64 s.size)
 | .own b k=>match B H b 0 with
   | .ad _ _ n _=>k=n∧K (.int .i64 n)
   |_=>False
 |_=>False
def ih(H:Heap)(x:J)(K:J→Prop):Prop:=
 match x with
 | .own b k=>match B H b 0 with
   | .ad _ a n f=>k=n∧K (.arr a n f)
   |_=>False
 | .lit b=>K (.bool b)
 |av=>c0 (nL av) (K av)
def lq(H:Heap):List J→(List J→Prop)→Prop
 |[],K=>K []
 |x::r,K=>ih H x fun y=>lq H r fun a=>K (y::a)
def km(H:Heap)(x:J)(K:J→Prop):Prop:=
 match x with
 | .agg cs=>lq H cs fun a=>K (.agg a)
 |av=>ih H av K
def lY(H:Heap):List J→(List J→Prop)→Prop
 |[],K=>K []
 |x::r,K=>km H x fun y=>lY H r fun a=>K (y::a)
def Wi:J→Bool
 | .int .. | .bool _| .str _=>true
 |_=>false
def Wj:J→Bool
 | .agg cs=>cs.all Wi
 |av=>Wi av
def BU:J→Bool
 | .c7 a=>a.all Wj
 |av=>Wj av
def ti(H:Heap):J→bM
 | .own b _=>match B H b 0 with
   | .ad _ a n f=>[(b,0,.ad true a n f)]
   |_=>[]
 |_=>[]
def BT(H:Heap):J→bM
 | .agg cs=>cs.flatMap (ti H)
 |av=>ti H av
def ew(H:Heap)(l:List J):bM:=l.flatMap (BT H)
def th(au:Nat)(r:J)(a:bM)(K:J→bM→Prop):Prop:=
 match r with
 | .ad _ b n f=>K (.own au n) (a++[(au,0,.ad false b n f)])
 |r=>K r a
def nu(H:Heap)(r:J)(aa:List J):bM:=
 match BU r||aa.all zr with
 |true=>[]
 |false=>ew H aa
def tT(E:Env)(H:Heap)(au:Nat)(f:FuncId)(a:List J)(K:J→bM→Prop):Prop:=
 lY H (a.map eD) fun b=>match E.spec f b with
  |some (c,r)=>nr c (th au r (nu H r (a.map eD)) K)
  |none=>False
def zl(i:Nat)(x:J)(K:J→Prop):Prop:=
 match x with
 | .c7 a=>c0 (decide (i<a.length)) (K (a.getD i .undef))
 |_=>False
def vQ(s:ByteArray)(i:Nat):List J:=[.int .u8 ((s.data.toList.getD i 0).toNat:Int)]
def mu(H:Heap)(a:Bool)(c:Nat)(y:J)(K:Nat→(Nat→List J)→Prop):Prop:=
 match y with
 | .aA=>c0 (!a) (K 0 fun _=>[])
 | .arr d n f=>c0 (!a&&decide (d=c)) (K n f)
 | .str s=>c0 (a&&decide (c=1)) (K s.size (vQ s))
 | .own b k=>match B H b 0 with
   | .ad _ d n f=>c0 (!a&&decide (d=c)) (k=n∧K n f)
   |_=>False
 |_=>False
def hB(n:Nat)(f g:Nat→List J)(i:Nat):List J:=bif Nat.blt i n then f i else g (i-n)
def nF(t:bD)(j:Bool)(H:Heap)(au:Nat)(x y:J)(K:J→bM→Prop):Prop:=
 match t.d with
 | .slice _ a d=>c0 (Nat.ble d 256&&Nat.blt 0 a) (mu H j a y fun m g=>match x with
   | .aA=>m≤dj∧K (.own au m) [(au,0,.ad false a m g)]
   | .own b k=>match B H b 0 with
     | .ad e c n f=>c0 (!e&&decide (c=a)) (k=n∧n+m≤dj∧ ∃h:Nat→List J,(∀i,i<n+m→hB n f g i=h i)∧K (.own b (n+m)) [(b,0,.ad false a (n+m) h)])
     |_=>False
   | .jO c n f=>c0 (decide (c=a)) (0<m∧n+m≤dj∧ ∃h:Nat→List J,(∀i,i<n+m→hB n f g i=h i)∧K (.own au (n+m)) [(au,0,.ad false a (n+m) h)])
   |_=>False)
 |_=>False
def U2(x y:J):Prop:=x=y∨(x= .aA∧ ∃a h,y= .arr a 0 h)
def j6:List J→List J→Prop
 |[],[]=>True
 |x::a,y::b=>U2 x y∧j6 a b
 |_,_=>False
theorem yc: ∀l:List J,j6 l l
 |[]=>trivial
 |_::l=>⟨.inl rfl,yc l⟩
theorem Me: ∀{b c:List J} (j:Nat) (x:J),j6 b c→b[j]? =some x→ ∃y,c[j]? =some y∧U2 x y
 |[],[],_,_,_,h=>by simp at h
 |x::b,y::c,0,z,h,a=>by
  simp at a;subst a;exact⟨y,rfl,h.1⟩
 |x::b,y::c,j+1,z,h,a=>by simpa using Me j z h.2 (by simpa using a)
 |[],_::_,_,_,h,_=>h.elim
 |_::_,[],_,_,h,_=>h.elim
theorem U3{w:World}{F:Nat→Prop}{x y:J}{v:Value}(h:U2 x y)(k:aR w F x v):aR w F y v:=by
 rcases h with rfl|⟨rfl,a,g,rfl⟩
 ·exact k
 ·cases k;exact .nil a g
def aap:J→Bool
 | .own .. =>true
 |x=>nL x
def mJ(H:Heap):List (List J)→(List (List J)→Prop)→Prop
 |[],K=>K []
 |l::r,K=>lq H l fun y=>mJ H r fun a=>K (y::a)
def kH(b:Nat)(a:List J):List (Nat×Operand)→Nat→Option (List (List J))
 |[],_=>some []
 |(i,x)::r,k=>match Nat.beq i k&&(nx (eD (ax a x))&&Nat.beq (cellsOf (eD (ax a x))).length b&&(cellsOf (eD (ax a x))).all aap)with
  |true=>match kH b a r (k+1)with
   |some l=>some (cellsOf (eD (ax a x))::l)
   |none=>none
  |false=>none
def pZ(t:bD)(e:List J)(H:Heap)(au a:Nat)(d:List (Nat×Operand))(K:J→bM→Prop):Prop:=
 match t.d with
 | .slice _ b _=>match kH b e d 0 with
   |some l=>c0 (Nat.beq l.length a&&Nat.ble a 4096&&Nat.ble b 4096&&Nat.blt 0 b) (mJ H l fun c=> ∃h:Nat→List J,(∀i,i<a→j6 (c.getD i []) (h i))∧K (.own au a) (ew H l.flatten++[(au,0,.ad false b a h)]))
   |none=>False
 |_=>False
def qV(E:Env)(t:bD)(d:List J)(au:Nat)(l c:Operand)(K:J→bM→Prop):Prop:=
 match t.d with
 | .slice e a f=>match E.ty e with
   |some b=>match ax d l with
    | .int _ z=>match ax d c with
      | .int _ g=>c0 (b.zero.all Mp&&Nat.beq b.zero.length a&&Nat.ble a 4096&&Nat.ble f 4096&&Nat.blt 0 a) ((z=g∧0≤z∧z≤4096)∧K (.own au z.toNat) [(au,0,.ad false a z.toNat fun _=>b.zero)])
      |_=>False
    |_=>False
   |none=>False
 |_=>False
def cH(a:List J)(d:Int)(o:Option Operand)(K:Int→Prop):Prop:=
 match o with
 |none=>K d
 |some x=>match ax a x with
  | .int _ z=>K z
  |_=>False
def kk(m:Option Operand)(a:Nat):Bool:=
 match m with
 |some _=>Nat.blt 1 a
 |none=>false
def tb(c:Bool)(a k:Nat)(g:Nat→List J):J:=
 match c with
 |true=> .jO a k g
 |false=> .arr a k g
def q8(t:bD)(H:Heap)(d:List J)(x:J)(l h m:Option Operand)(K:J→bM→Prop):Prop:=
 c0 (h.isSome|| !(m.isSome)) (match t.d with
 | .slice _ j _=>match x with
   | .arr e n f=>c0 (decide (e=j)) (cH d 0 l fun c=>cH d n h fun a=>cH d a m fun g=>
     ((0≤c∧c≤a∧a≤g∧g≤n)∧(kk m e=true→a=g))∧K (tb (kk m e) e (a-c).toNat fun i=>f (c.toNat+i)) [])
   | .aA=>cH d 0 l fun c=>cH d 0 h fun a=>cH d a m fun g=>(c=0∧a=0∧g=0)∧K .aA []
   | .own b k=>match B H b 0 with
     | .ad o e n f=>c0 (decide (e=j)) (k=n∧cH d 0 l fun c=>cH d n h fun a=>cH d a m fun g=>
       ((0≤c∧c≤a∧a≤g∧g≤n)∧(kk m e=true→a=g))∧K (tb (kk m e) e (a-c).toNat fun i=>f (c.toNat+i)) [(b,0,.ad true e n f)])
     |_=>False
   |_=>False
 | .string=>match x with
   | .str s=>match m with
     |none=>cH d 0 l fun c=>cH d s.size h fun a=>(0≤c∧c≤a∧a≤s.size)∧K (.str (s.extract c.toNat a.toNat)) []
     |some _=>False
   |_=>False
 |_=>False)
def ahS:J→Nat
 | .int _ z=>z.toNat
 |_=>0
def FK:J→Bool
 | .int .u8 _=>true
 |_=>false
def bytesOf(n:Nat)(f:Nat→List J):ByteArray:=⟨((List.range n).map fun i=>UInt8.ofNat (ahS ((f i).getD 0 .undef))).toArray⟩
def nG(t:bD)(b:Option bD):Bool:=
 match t.d with
 | .slice _ a _=>Nat.beq a 1&&(match b with
   |some c=>match c.d with
    | .int .u8=>true
    |_=>false
   |none=>false)
 |_=>false
def rB.isStr:rB→Bool
 | .string=>true
 |_=>false
def rB.sS:rB→Bool
 | .slice .. =>true
 |_=>false
def rJ(t u:bD)(a:Option bD)(H:Heap)(x:J)(K:J→Prop):Prop:=
 match x with
 | .int _ z=>match u.d with
   | .int k=>match t.d with
     | .int _=>K (.int k (k.wrap z))
     |_=>False
   |_=>False
 | .str s=>match t.d with
   | .string=>match u.d with
     | .string=>K (.str s)
     |_=>c0 (nG u a) (K (.arr 1 s.size (vQ s)))
   |_=>False
 | .arr c n f=>c0 (u.d.isStr&&nG t a&&Nat.beq c 1) ((∀i,i<n→FK ((f i).getD 0 .undef)=true)∧K (.str (bytesOf n f)))
 | .aA=>c0 (u.d.isStr&&nG t a) (K (.str ⟨#[]⟩))
 | .own b d=>match B H b 0 with
   | .ad _ c n f=>c0 (u.d.isStr&&nG t a&&Nat.beq c 1) (d=n∧(∀i,i<n→FK ((f i).getD 0 .undef)=true)∧K (.str (bytesOf n f)))
   |_=>False
 |_=>False
def x6(x y:J)(K:J→Prop):Prop:=
 match x,y with
 | .int k a,.int c b=>c0 (decide (k=c)) (K (.int k (cond (decide (b<a)) b a)))
 |_,_=>False
def x5(x y:J)(K:J→Prop):Prop:=
 match x,y with
 | .int k a,.int c b=>c0 (decide (k=c)) (K (.int k (cond (decide (b>a)) b a)))
 |_,_=>False
section
variable {E:Env} {S:dM} {ι:Nat→Option Nat} {st:K} {a:Act} {w:World}
abbrev bg(S:dM)(ι:Nat→Option Nat)(H:Heap)(w:World):J→Value→Prop:=eh ι H w (aK S ι H w)
abbrev eg(S:dM)(ι:Nat→Option Nat)(H:Heap)(w:World):J→Value→Prop:=b8 ι H w (aK S ι H w)
theorem anc{H:Heap}{F:Nat→Prop}(v:Value):eh ι H w F (P2 v) v:=by
 unfold P2
 split
 ·exact aR.int _ _
 ·exact aR.lit _
 ·split
  ·rename_i a;exact aR.str _ (gL a)
  ·trivial
 ·exact aR.aA
 ·trivial
theorem aP.eval(h:aP S ι st a w)(x:Operand):bg S ι st.k w (ax st.n x) (a.eval x):=by
 cases x with
 |tmp t=>
  simp only[ax,Act.eval]
  cases e:st.n[t]? with
  |none=>simp only[List.getD,e];trivial
  |some av=>
   obtain⟨v,b,c⟩:=h.n t av e;have:a.tmps.getD t undef=v:=by simp [G_,b]
   rw[this];simp only[List.getD,e];exact c
 |const v=>exact anc v
 |global g=>
  simp only[ax,Act.eval];rcases acW g u3 with e|⟨cs,e⟩
  ·rw[e];trivial
  ·rcases h.u2 g with k|k
   ·rw[k]at e;cases e
   ·rw[e]at k ⊢;exact k
 |func f=>exact⟨[],rfl,trivial⟩
theorem iv.BA{H:Heap}{F:Nat→Prop}{av:J}{v:Value}(h:aR w F av v):iv ι H w F av v:=by
 cases h<;>simp only[iv]<;>constructor<;>assumption
theorem b8.BA{H:Heap}{F:Nat→Prop}{av:J}{v:Value}(h:aR w F av v):b8 ι H w F av v:=by
 cases h with
 |int k n=>exact .int k n
 |bool b=>exact .bool b
 |lit b=>exact .lit b
 |str s r=>exact .str s r
 |aA=>exact .aA
 |jg=>exact .jg
 |jO d n f p c h D=>exact aR.jO d n f p c h D
 |nil d f=>exact .nil d f
 |mt d f a c=>exact .mt d f a c
 |arr d n f b o c g m G r q e j l=>exact .arr d n f b o c g m G r q e j l
 |ref cs b o g m q e j l=>exact .ref cs b o g m q e j l
 |fn f A m g u E e j l=>
  refine⟨m,rfl,aU.mk E.symm fun i x y z I=>iv.BA ?_⟩;have t:i<A.length:=by
   rcases fk i A.length with h|h
   ·exact h
   ·rw[eF h]at z;cases z
  have B:=e i t;have C:=j i t;rw[z]at B;rw[I]at C
  cases B;cases C
  exact l i t
theorem b8.p4{H:Heap}{F:Nat→Prop}{av:J}{v:Value}(h:b8 ι H w F av v)(k:nL av=true):aR w F av v:=by
 cases av<;>first|exact h|(cases k;done)|skip
 rename_i f a;obtain⟨d,rfl,e⟩:=h;have o:=e.length;refine .fn f a d (fun j=>a.getD j .undef) (fun j=>d.getD j undef) o.symm (fun j b=>by simp [List.getD,cI b]) (fun j b=>by simp [List.getD,cI (show j<d.length by omega)]) fun j b=> ?_;obtain⟨v,l,g⟩:=e.get j a[j] (cI b);have m:a.getD j .undef=a[j]:=by simp [List.getD,cI b]
 have n:d.getD j undef=v:=by simp [List.getD,l]
 rw[m,n];have i:=ds.1 k a[j] (oz b);generalize a[j]=c at g i
 cases c<;>first|(cases i;done)|exact g
theorem eh.p4{H:Heap}{F:Nat→Prop}{av:J}{v:Value}(h:eh ι H w F av v)(a:zr av=true):fl w F av v:=by
 cases av
 case agg cs=>
  obtain⟨g,rfl,b⟩:=h;refine⟨g,rfl,aU.mk b.length fun i x y c f=> ?_⟩;obtain⟨j,d,e⟩:=b.get i x c;rw[f]at d;cases d;exact b8.p4 e (ds.1 a x (e0 c))
 case undef=>cases a
 case gone=>cases a
 case c7=>cases a
 case ad=>cases a
 all_goals exact b8.p4 (show b8 ι H w F _ _ from h) a
theorem aR.afP{F:Nat→Prop}{v:Value}(h:aR w F .gone v):False:=by cases h
theorem fR.Mh{H:Heap}{F:Nat→Prop}{av:J}{v:Value}(h:fl w F av v):fR ι H w F av v:=by
 cases av
 case agg cs=>
  obtain⟨b,rfl,a⟩:=h;exact⟨b,rfl,a.imp fun _ _=>b8.BA⟩
 case undef=>exact h.elim
 case gone=>exact(aR.afP h).elim
 all_goals exact(b8.BA (ι:=ι) (H:=H) (show aR w F _ _ from h):b8 ι H w F _ _)
theorem eh.yf{H:Heap}{F:Nat→Prop}{av:J}{v:Value}(h:fR ι H w F av v):eh ι H w F av v:=by
 cases av<;>first|trivial|exact h|exact False.elim h
theorem eh.U4{H:Heap}{F:Nat→Prop}{av:J}{v:Value}(h:jL w F av v):eh ι H w F av v:=by
 cases av<;>simp only[jL]at h<;>first|exact eh.yf (fR.Mh h)|skip
 obtain⟨b,rfl,a⟩:=h;exact⟨b,rfl,a.imp fun _ _=>fR.Mh⟩
theorem eh.cells{H:Heap}{F:Nat→Prop}{av:J}{v:Value}(h:eh ι H w F av v)(b:nx av=true):aU (b8 ι H w F) (cellsOf av) v.cells.toList:=by
 have c:b8 ι H w F av v→aU (b8 ι H w F) [av] v.cells.toList:=fun k=>by
  have:=b8.one k
  cases v<;>first|(cases this;done)|exact⟨k,trivial⟩
 cases av<;>first|(cases b;done)|exact c h|skip
 obtain⟨d,rfl,a⟩:=h;simpa[Value.cells,cellsOf]using a
theorem aP.kl(h:aP S ι st a w){b o n:Nat}(D:(kl st.k b o n).all vU=true):
  ∃p:List Value,p.length=n∧aU (eg S ι st.k w) (kl st.k b o n) p∧(0<n→ ∃x,ι b=some x∧ ∀(j:Nat) v,p[j]? =some v→w.cell? ⟨x,o+j,none⟩=some v):=by
 have r: ∀j,j<n→B st.k b (o+j)≠ .undef∧b_ (B st.k b (o+j))=false:=fun j c=>by
  have:=ds.1 D (B st.k b (o+j)) (by simp [af.kl];exact⟨j,c,rfl⟩)
  cases e:B st.k b (o+j)<;>rw[e]at this<;>simp_all [vU,b_]
 have s: ∀j,j<n→ ∃v,(∃x,ι b=some x∧w.cell? ⟨x,o+j,none⟩=some v)∧eg S ι st.k w (B st.k b (o+j)) v:=fun j c=>by
  obtain⟨x,v,z,A,_,C⟩:=(h.k b (o+j)).box (r j c).1 (r j c).2;exact⟨v,⟨x,z,A⟩,C⟩
 have I: ∃f:Nat→Value,∀j,j<n→(∃x,ι b=some x∧w.cell? ⟨x,o+j,none⟩=some (f j))∧eg S ι st.k w (B st.k b (o+j)) (f j):=by
  refine⟨fun j=>if c:j<n then(s j c).choose else undef,fun j c=> ?_⟩;simp only[c,dif_pos];exact(s j c).choose_spec
 obtain⟨f,l⟩:=I;refine⟨(List.range n).map f,by simp,aU.mk (by simp [af.kl]) fun i x y k u=> ?_,fun H=> ?_⟩
 ·simp only[af.kl,gN,lM]at k u;obtain⟨g,d,rfl⟩:=k;obtain⟨J,q,rfl⟩:=u;have m:g<n:=by have:=e0 d;simpa using this
  rw[d]at q;cases q;exact(l g m).2
 ·obtain⟨x,k,_⟩:=(l 0 H).1;refine⟨x,k,fun j v c=> ?_⟩;simp only[gN,lM]at c;obtain⟨g,d,rfl⟩:=c;have m:g<n:=by have:=e0 d;simpa using this
  have F:g=j:=by
   have G:j<n:=by
    rcases fk j n with h|h
    ·exact h
    ·rw[eF (by simpa using h)]at d;cases d
   rw[Cf G]at d
   cases d;rfl
  subst F;obtain⟨K,t,E⟩:=(l g m).1;rw[k]at t;cases t;exact E
end
section
variable {E:Env} {S:dM} {ι:Nat→Option Nat} {st:K} {a:Act} {w:World}
theorem di{P:Program}{o:Oper}{next:Act→World→Prop}{Q:Exit→Act→World→Prop}{v:Value}{w':World}(c:(execOp a.eval o).run P w= .ok (.value v) w')(b:next (a.put o.dst v) w'):o.wp P a w next Q:=by
 unfold Oper.wp;rw[c];exact b
theorem ah4{P:Program}{o:Oper}{next:Act→World→Prop}{Q:Exit→Act→World→Prop}{w':World}(c:(execOp a.eval o).run P w= .ok .skip w')(b:next (a.put o.dst undef) w'):o.wp P a w next Q:=by
 unfold Oper.wp;rw[c];exact b
theorem adp(b:Nat): ∀(cs:List J) (o:Nat) (H:Heap) (d a:Nat),B (pe H b cs o) d a=if d=b∧o≤a∧a<o+cs.length then cs.getD (a-o) .undef else B H d a
 |[],o,H,d,a=>by simp [pe];omega
 |c::cs,o,H,d,a=>by
  rw[pe,adp b cs (o+1)]
  by_cases e:d=b∧o+1≤a∧a<o+1+cs.length
  ·rw[bf e,bf ⟨e.1,by omega,by simp;omega⟩,show a-o=(a- (o+1))+1 by omega];simp
  ·rw[a7 e,eG]
   by_cases f:d=b∧a=o
   ·rw[bf f,bf ⟨f.1,by omega,by simp;omega⟩,show a-o=0 by omega];simp
   ·rw[a7 f,a7 (by simp only[dr];omega)]
theorem vi(H:Heap)(b o:Nat)(c:J):H.length≤(bs H b o c).length∧b<(bs H b o c).length:=lE _ _ _ _
theorem ae8(b:Nat): ∀(cs:List J) (o:Nat) (H:Heap),H.length≤(pe H b cs o).length∧(cs≠[]→b<(pe H b cs o).length)
 |[],_,_=>⟨bC _,fun h=>absurd rfl h⟩
 |c::cs,o,H=>by
  have a:=vi H b o c;have d:=(ae8 b cs (o+1) (bs H b o c)).1;exact⟨dB a.1 d,fun _=>gk a.2 d⟩
theorem ec.ext{H H':Heap}(a: ∀b o,B H' b o=B H b o):ec ι H w (aK S ι H w) ι H' w (aK S ι H' w):=by
 refine⟨fun x ⟨d,e,g⟩=>⟨d,e,fun b c=>g b (nv (a b) c)⟩,fun _ _ _=>rfl,fun b x j c=>⟨j,by rw[a];exact c⟩,fun b k l n f i=>⟨k,_,n,f,by rw[a];exact i,bC _,fun _=>⟨rfl,rfl,fun x C T _ h=>⟨C,h,rfl⟩⟩⟩⟩
theorem aP.ext{n:List J}{H H':Heap}(h:aP S ι ⟨n,H⟩ a w)(d: ∀b o,B H' b o=B H b o)(g: ∀b x,ι b=some x→b<H'.length):aP S ι ⟨n,H'⟩ a w:=by
 have c:ec ι H w (aK S ι H w) ι H' w (aK S ι H' w):=ec.ext d;refine⟨h.below,h.defers,fun t av i=> ?_,fun b o=> ?_,h.inj,h.fresh,g,h.gr.trans c⟩
 ·obtain⟨v,e,f⟩:=h.n t av i;exact⟨v,e,f.step c⟩
 ·show eQ ι H' w _ b o (B H' b o);rw[d];exact(h.k b o).step c (fun _=>rfl) (fun _ _ _=>⟨rfl,rfl⟩) (fun _=>⟨rfl,fun _ _=>rfl⟩)
theorem sJ{H:Heap}{b:Nat}(h:H.length≤b)(o:Nat):B H b o= .undef:=by
 simp [B,List.getD,eF h]
theorem aP.L9(h:aP S ι st a w){b:Nat}(c:st.k.length≤b):ι b=none:=by
 cases e:ι b with
 |none=>rfl
 |some x=>have:=h.gn b x e;omega
theorem B2(ι:Nat→Option Nat)(au x:Nat): ∀b,cp ι au x b≠none→ι b≠none∨b=au:=fun b h=>by
 unfold cp at h
 by_cases e:b=au
 ·exact .inr e
 ·simp only[e,mx]at h;exact .inl h
theorem aP.afL(h:aP S ι st a w){b:Nat}(i: ∀o,B st.k b o= .undef)(r:ι b=none)(cs:List J)(n:cs≠[])(d:List Value)(T:TypeId)(q:aU (eg S ι st.k w) cs d):
  aP S (cp ι b w.heap.size) ⟨st.n,bt st.k (hC b cs 0)⟩ a (w.alloc (.cells d.toArray T))∧
  bg S (cp ι b w.heap.size) (bt st.k (hC b cs 0)) (w.alloc (.cells d.toArray T)) (.ptr b 0) (.pointer (some ⟨w.heap.size,0,none⟩)):=by
 obtain⟨l,_,m⟩:=h.aya b i r cs d T q;have g: ∀c o,B (bt st.k (hC b cs 0)) c o=B (mf st.k b cs) c o:=fun c o=>by
  rw[Lo,adp,Fj]
  by_cases e:c=b
  ·subst e
   by_cases p:o<cs.length
   ·rw[bf ⟨rfl,by omega,by omega⟩,bf rfl];simp
   ·rw[a7 (by omega),bf rfl,i];simp [List.getD,eF (Nat.le_of_not_lt p)]
  ·rw[a7 (fun k=>e k.1),a7 e]
 refine⟨l.ext g fun c x f=> ?_,?_⟩
 ·rw[Lo];have j:=ae8 b cs 0 st.k;unfold cp at f
  by_cases e:c=b
  ·rw[e];exact j.2 n
  ·simp only[e,mx]at f;exact gk (h.gn _ _ f) j.1
 ·exact b8.step (ec.ext (S:=S) g) m
theorem kW.rel{H:Heap}{F:Nat→Prop}{av:J}{v:Value}(h:kW av v):b8 ι H w F av v:=by
 cases av<;>simp only[kW]at h<;>first|(subst h;constructor)|exact h|exact h.elim|(obtain⟨rfl,a⟩:=h;exact aR.str _ (by omega))
theorem alY{o:Oper}{T:TypeId}{t:bD}(j:o.op= .alloc T)(e:gl E.P T t)(h:aP S ι st a w){au:Nat}(f: ∀o,B st.k au o= .undef)(m:ι au=none)(g:t.zero≠[]){next:Act→World→Prop}{Q:Exit→Act→World→Prop}
  (i: ∀an w' v,(∀b,an b≠none→ι b≠none∨b=au)→aP S an ⟨st.n,bt st.k (hC au t.zero 0)⟩ a w'→bg S an (bt st.k (hC au t.zero 0)) w' (.ptr au 0) v→next (a.put o.dst v) w'):o.wp E.P a w next Q:=by
 obtain⟨z,k,l,n⟩:=aAD w e;obtain⟨c,d⟩:=h.afL f m t.zero g z.cells.toList T (l.imp fun _ _=>kW.rel);refine di (v:= .pointer (some ⟨w.heap.size,0,none⟩)) (w':=w.alloc (.cells z.cells T)) ?_ (i _ _ _ (B2 _ _ _) (by simpa using c) (by simpa using d));simp [execOp,j,Instr.alloc,k,newVar,newRow]
theorem aml{o:Oper}{T:TypeId}{x:Operand}(i:o.op= .box T x)(h:aP S ι st a w){au:Nat}(e: ∀o,B st.k au o= .undef)(l:ι au=none)(j:nx (ax st.n x)=true)(f:cellsOf (ax st.n x)≠[]){next:Act→World→Prop}{Q:Exit→Act→World→Prop}
  (g: ∀an w' v,(∀b,an b≠none→ι b≠none∨b=au)→aP S an ⟨st.n,bt st.k (hC au (cellsOf (ax st.n x)) 0)⟩ a w'→bg S an (bt st.k (hC au (cellsOf (ax st.n x)) 0)) w' (.ptr au 0) v→next (a.put o.dst v) w'):o.wp E.P a w next Q:=by
 have k:=(h.eval x).cells j;obtain⟨c,d⟩:=h.afL e l _ f _ T k;refine di (v:= .pointer (some ⟨w.heap.size,0,none⟩)) (w':=w.alloc (.cells (a.eval x).cells T)) ?_ (g _ _ _ (B2 _ _ _) (by simpa using c) (by simpa using d));simp [execOp,i,Instr.box,newVar,newRow]
theorem Yd{b:Bool}{cs:List J}{a:List Value}{H:Heap}{F:Nat→Prop}(h:aU (b8 ι H w F) cs a)(d:b=false→cs.length=1):eh ι H w F (oF b cs) (rF b a):=by
 cases b with
 |true=>exact⟨a,rfl,h⟩
 |false=>
  match cs,a,h,d rfl with
  |[c],[v],h,_=>
   have:=h.1
   cases c<;>first|trivial|exact this|exact False.elim this
theorem aU.take{α β:Type}{R:α→β→Prop} : ∀{aa:List α} {a:List β} (n:Nat),aU R aa a→aU R (aa.take n) (a.take n)
 |[],[],n,_=>by simp [aU]
 |_::_,_::_,0,_=>trivial
 |_::_,_::_,n+1,h=>⟨h.1,aU.take n h.2⟩
 |[],_::_,_,h=>h.elim
 |_::_,[],_,h=>h.elim
theorem gl.one{P:Program}{T:TypeId}{t:bD}(h:gl P T t)(b:t.d.isAgg=false):t.size=1:=by
 obtain⟨d,_,_,a⟩:=h.agg;exact(a b).1
theorem LS{T:TypeId}{t:bD}{pE:J}{v0:Value}(Q:gl E.P T t)(h:aP S ι st a w)(O:bg S ι st.k w pE v0){K:J→Prop}(s:np t st.k pE K):
  ∃(p:Addr) (av:J) (u:Value),v0= .pointer (some p)∧K av∧bg S ι st.k w av u∧(loadVar T p).run E.P w= .ok u w:=by
 have I: ∀(y k:Nat) (cs:List J) (l:List Value),v0= .pointer (some ⟨y,k,none⟩)→l.length=t.size→aU (eg S ι st.k w) cs l→(∀(j:Nat) v,l[j]? =some v→w.cell? ⟨y,k+j,none⟩=some v)→K (oF t.d.isAgg cs)→
   ∃(p:Addr) (av:J) (u:Value),v0= .pointer (some p)∧K av∧bg S ι st.k w av u∧(loadVar T p).run E.P w= .ok u w:=fun y k cs l e r F m x=>
  ⟨⟨y,k,none⟩,oF t.d.isAgg cs,rF t.d.isAgg l,e,x,Yd F fun Y=>by rw[F.length,r,Q.one Y],aAB w Q y k l r m⟩
 cases pE<;>simp only[np,ay,jJ]at s<;>try exact s.elim
 ·rename_i b k;obtain⟨U,Tq⟩:=s;obtain⟨l,r,F,m⟩:=h.kl U;obtain⟨_,y,G,o⟩:=(show eg S ι st.k w (.ptr b k) _ from O);refine I y k _ l o r F (fun j v d=> ?_) Tq;obtain⟨vx,z,Z⟩:=m (by rw[←r];rcases fk 0 l.length with h|h;exact h;rw[eF (by omega)]at d;cases d);rw[G]at z;cases z;exact Z j v d
 ·rename_i b b6 i k;obtain⟨_,ro,H,n,f,D,P,M⟩:=(show eg S ι st.k w (.fp b b6 i k) _ from O);rw[D]at s;simp only at s;obtain⟨rfl,iG,nk,x⟩:=s;obtain⟨y,G,o⟩:=M rfl;have r:=h.k b 0;rw[D]at r;obtain⟨_,R|⟨_,r|⟨vx,C,W,z,X,k6⟩⟩⟩:=r
  ·rw[G]at R;cases R.2.2
  ·omega
  rw[G]at z;cases z;have N: ∀j,j<t.size→ ∃v,C[i*H+(k+j)]? =some v∧ ∃c,((((f i).drop k).take t.size))[j]? =some c∧eg S ι st.k w c v:=fun j d=>by
   obtain⟨c,v,A,B,L⟩:=k6 i (k+j) iG (by omega);exact⟨v,B,c,by rw[yH d,ou];exact A,b8.BA L⟩
  have hlen:(((f i).drop k).take t.size).length=t.size:=by
   rcases fk (((f i).drop k).take t.size).length t.size with gu|sI
   ·obtain⟨_,_,c,m,_⟩:=N _ gu;rw[eF (bC _)]at m;cases m
   ·have:=List.length_take_le t.size ((f i).drop k);omega
  let l:=(List.range t.size).map fun j=>(C[i*H+(k+j)]?).getD undef;have V: ∀j v,l[j]? =some v→j<t.size∧C[i*H+(k+j)]? =some v:=fun j v d=>by
   have q:j<t.size:=by
    rcases fk j t.size with h|h
    ·exact h
    ·rw[eF (by simpa[l]using h)]at d;cases d
   refine⟨q,?_⟩;simp only[l,gN,Cf q,rj,gM]at d;obtain⟨aBU,g,_⟩:=N j q;rw[g]at d ⊢;simpa using d
  refine I y (i*H+k) _ l o (by simp [l]) (aU.mk (by simp [l,hlen]) fun j c v m o=> ?_) (fun j v d=> ?_) x
  ·obtain⟨q,g⟩:=V j v o;obtain⟨aBU,A,PO,B,L⟩:=N j q;rw[g]at A;cases A;rw[m]at B;cases B;exact L
  ·obtain⟨_,g⟩:=V j v d;rw[tC w y _ C W (0,0) X,pL];exact g
 ·rename_i cs;obtain⟨U,x⟩:=s;have xM:aR w (aK S ι st.k w) (.ref cs) v0:=O
  cases xM with
  |ref _ b k g u nf D P M=>
   have Fh: ∀j c,cs[j]? =some c→j<cs.length:=fun j c d=>by
    rcases fk j cs.length with h|h
    ·exact h
    ·rw[eF h]at d;cases d
   refine I b k (cs.take t.size) ((List.range t.size).map u) rfl (by simp) (aU.mk (by simp;omega) fun j c v m o=> ?_) (fun j v d=> ?_) x
   all_goals
    have q:j<t.size:=by
     rcases fk j t.size with h|h
     ·exact h
     ·first
       |(rw[eF (by simpa using h)]at o;cases o;done)
       |(rw[eF (by simpa using h)]at d;cases d;done)
   ·simp only[gN,Cf q,rj,gM]at o;rw[yH q]at m;have:=Fh j c m;rw[D j this]at m;cases m;subst o;exact b8.BA (M j this)
   ·simp only[gN,Cf q,rj,gM]at d;subst d;exact P j (by omega)
theorem aw6{o:Oper}{T:TypeId}{t:bD}{x:Operand}(j:o.op= .load T x)(f:gl E.P T t)(h:aP S ι st a w){K:J→Prop}(g:np t st.k (ax st.n x) K){next:Act→World→Prop}{Q:Exit→Act→World→Prop}
  (i: ∀av v,K av→bg S ι st.k w av v→next (a.put o.dst v) w):o.wp E.P a w next Q:=by
 obtain⟨p,av,u,b,c,d,e⟩:=LS f h (h.eval x) g;refine di (v:=u) (w':=w) ?_ (i _ _ c d);simp [execOp,j,b,Instr.loadAt,Instr.sureAddr,e]
end
section
variable {E:Env} {S:dM} {ι:Nat→Option Nat} {st:K} {a:Act} {w:World}
theorem afQ{H:Heap}{F:Nat→Prop}{x:J}{v:Value}(h:b8 ι H w F x v):b8 ι H w F (F8 x) v:=by
 cases x
 case lit b=>
  have a:aR w F (.lit b) v:=h
  cases a
  exact aR.bool b
 all_goals exact h
theorem Bw{H:Heap}{F:Nat→Prop}{x:J}{v:Value}(h:eh ι H w F x v):eh ι H w F (eD x) v:=by
 cases x
 case lit b=>exact afQ (ι:=ι) (H:=H) (F:=F) (w:=w) (x:= .lit b) (show b8 ι H w F (.lit b) v from h)
 case agg cs=>
  obtain⟨k,rfl,e⟩:=h;refine⟨k,rfl,aU.mk (by simp [e.length]) fun i p q a g=> ?_⟩;simp only[gN,lM]at a;obtain⟨c,f,rfl⟩:=a;obtain⟨l,d,j⟩:=e.get i c f;rw[g]at d;cases d;exact afQ j
 all_goals exact h
theorem GJ{α:Type}(d x y:α): ∀(l:List α) (i:Nat),setAt d (setAt d l i x) i y=setAt d l i y
 |[],0=>rfl
 |[],i+1=>by simp only[setAt,GJ d x y [] i]
 |_::_,0=>rfl
 |a::aa,i+1=>by simp only[setAt,GJ d x y aa i]
theorem asy(H:Heap)(b o:Nat)(x y:J):bs (bs H b o x) b o y=bs H b o y:=by
 unfold bs;have a:(setAt [] H b (setAt .undef (H.getD b []) o x)).getD b []=setAt .undef (H.getD b []) o x:=by rw[pb,bf rfl]
 rw[a,GJ,GJ]
theorem aP.ahB{P:Program}{b l i M n fC:Nat}(m:ι b=some l)(I:i<n)(u:n≤dj): ∀(cs:List J) (p:List Value) (k:Nat) (f:Nat→List J) (st:K) (w:World),aP S ι st a w→B st.k b 0= .ad false M n f→fC+k+cs.length≤M→
  aU (aR w (aK S ι st.k w)) cs p→cs≠[]→ ∀(g:Nat→List J),(∀j,j<n→M3 f i (fC+k) cs j=g j)→ ∃w',(storeCells ⟨l,i*M+fC,none⟩ p k).run P w= .ok () w'∧aP S ι ⟨st.n,bs st.k b 0 (.ad false M n g)⟩ a w'
 |[],_,_,_,_,_,_,_,_,_,U,_,_=>absurd rfl U
 |_::_,[],_,_,_,_,_,_,_,d,_,_,_=>d.elim
 |c::cs,v::p,k,f,st,w,h,t,L,d,_,g,H=>by
  have D:fC+k<M:=by simp only[dr]at L;omega
  have o:=h.k b 0;rw[t]at o;obtain⟨_,G|⟨_,o|⟨Z,C,E,O,q,x⟩⟩⟩:=o
  ·rw[m]at G;cases G.2.2
  ·rw[m]at o;cases o.2
  rw[m]at O;cases O;obtain⟨_,Y,_,X,_⟩:=x i (fC+k) I D;have y:=(rh.1 X).1;have V:one v=true:=d.1.one;have R:w.cell? ⟨l,i*M+(fC+k),none⟩=some (C[i*M+(fC+k)]):=by
   rw[tC w l (i*M+(fC+k)) C E (0,0) q,pH y]
  have T:w.frozen? ⟨l,i*M+(fC+k),none⟩=false:=frozen_of_row w l (i*M+(fC+k)) C E q;have N:=ahc (P:=P) w ⟨l,i*M+(fC+k),none⟩ V R T
  cases cs with
  |nil=>
   cases p with
   |cons _ _=>exact d.2.elim
   |nil=>
    obtain⟨s,_⟩:=h.ahz m t q D y d.1 (g:=g) (fun j A=>(H j A).symm) x u;refine⟨_,?_,s⟩;simp only[storeCells,Sem.run_bind,Addr.add_lit,pL,N,Result.andThen];rfl
  |cons z cs=>
   obtain⟨s,Q⟩:=h.ahz m t q D y d.1 (g:=fun j=>bif Nat.beq j i then(f j).set (fC+k) c else f j) (fun _ _=>rfl) x u;obtain⟨w',r,F⟩:=aP.ahB (P:=P) (fC:=fC) m I u (z::cs) p (k+1) _ ⟨st.n,bs st.k b 0 (.ad false M n fun j=>bif Nat.beq j i then(f j).set (fC+k) c else f j)⟩ _ s (by rw[eG,bf ⟨rfl,rfl⟩]) (by simp only[dr]at L ⊢;omega)
    (d.2.imp fun _ _ W=>W.mono Q.hE Q.cell) (by simp) g (fun j A=>by
     rw[←H j A];unfold M3
     cases e:Nat.beq j i<;>simp only[e,aQ,aS,qR,pL])
   refine⟨w',?_,by rw[asy]at F;exact F⟩;simp only[storeCells,Sem.run_bind,Addr.add_lit,pL,N,Result.andThen];exact r
theorem ahb{P:Program}{T:TypeId}{t:bD}(a:gl P T t)(w w':World)(p:Addr)(v:Value)(b:v.cells.size=t.size)(c:(storeCells p v.cells.toList 0).run P w= .ok () w'):
  (Instr.storeAt T (.pointer (some p)) v).run P w= .ok () w':=by
 simp [Instr.storeAt,Instr.sureAddr,storeVar,run_sizeOf w a,b,c]
theorem aBe{o:Oper}{T:TypeId}{t:bD}{x y:Operand}(J:o.op= .store T x y)(F:gl E.P T t)(h:aP S ι st a w){K:bM→Prop}(d:tp t st.k (ax st.n x) (ax st.n y) K){next:Act→World→Prop}{Q:Exit→Act→World→Prop}
  (I: ∀O w',K O→aP S ι ⟨st.n,bt st.k O⟩ a w'→next (a.put o.dst undef) w'):o.wp E.P a w next Q:=by
 have A:=h.eval x;have N:=h.eval y
 cases e:ax st.n x<;>rw[e]at d A<;>simp only[tp,ay,bL,jJ,iL]at d<;>try exact d.elim
 ·rename_i b c;obtain⟨⟨⟨⟨A5,Tq⟩,ar3⟩,ar4⟩,s⟩:=d;have l:=N.cells A5;obtain⟨_,z,C,v⟩:=(show eg S ι st.k w (.ptr b c) _ from A);have W: ∀j,j<(cellsOf (ax st.n y)).length→B st.k b (c+0+j)≠ .undef∧b_ (B st.k b (c+0+j))=false:=fun j fg=>by
   have:=ds.1 ar3 (B st.k b (c+j)) (by simp [af.kl];exact⟨j,by omega,rfl⟩);rw[lN]
   cases e:B st.k b (c+j)<;>rw[e]at this<;>simp_all [vU,b_]
  obtain⟨w',r,D,_⟩:=aP.ahA (P:=E.P) (S:=S) (a:=a) (fC:=c) C (cellsOf (ax st.n y)) _ 0 st w h ar4 W l;refine ah4 (w':=w') ?_ (I _ _ s (by rw[Lo];exact D));have:=ahb F w w' ⟨z,c,none⟩ (a.eval y) (by rw[←Tq,l.length];simp) r;simp [execOp,J,v,this]
 ·rename_i b k i c;obtain⟨_,ro,b6,n,f,m,D,R⟩:=(show eg S ι st.k w (.fp b k i c) _ from A);rw[m]at d;simp only[ay,bL,iL]at d;obtain⟨⟨⟨⟨⟨⟨TG,aDU⟩,asm⟩,TO⟩,TA⟩,H⟩,rfl,Z,g,Y,s⟩:=d;subst TG;obtain⟨z,C,v⟩:=R rfl;have l:=eh.cells (Bw N) asm;have X:aU (aR w (aK S ι st.k w)) (cellsOf (eD (ax st.n y))) (a.eval y).cells.toList:=aU.mk l.length fun j p q L iI=>by
   obtain⟨Gu,M,gv⟩:=l.get j p L;rw[iI]at M;cases M;exact b8.p4 gv (ds.1 TA p (e0 L))
  have G:=h.k b 0;rw[m]at G;have V:k≤dj:=by
   rcases G.2 with u|u
   ·cases u.1
   ·exact u.1
  obtain⟨w',r,U⟩:=aP.ahB (P:=E.P) (S:=S) (a:=a) (fC:=c) C Z V _ _ 0 f st w h m (by omega) X (by intro e;rw[e]at H;cases H) g Y;refine ah4 (w':=w') ?_ (I _ _ s U);have:=ahb F w w' ⟨z,i*b6+c,none⟩ (a.eval y) (by rw[←TO,l.length];simp) r;simp [execOp,J,v,this]
theorem aoo{o:Oper}{T:TypeId}{t:bD}{x:Operand}{f:Nat}(V:o.op= .fieldAddr T x f)(N:gl E.P T t)(h:aP S ι st a w){K:J→Prop}(c:rP t st.k f (ax st.n x) K){next:Act→World→Prop}{Q:Exit→Act→World→Prop}
  (z: ∀av v,K av→bg S ι st.k w av v→next (a.put o.dst v) w):o.wp E.P a w next Q:=by
 have r:=h.eval x;have G:=N.d
 cases D:t.d<;>simp only[rP,D]at c<;>try exact c.elim
 rename_i Y;rw[D]at G;obtain⟨Iw,X,_,W⟩:=G
 cases F:Y[f]? <;>rw[F]at c<;>simp only at c
 rename_i d;obtain⟨d,C⟩:=d;simp only at c;obtain⟨aot,O,P,i,R,U,H⟩:=W f d C F;rw[←U]at H;have A: ∀(y p:Nat),a.eval x= .pointer (some ⟨y,p,none⟩)→(execOp a.eval o).run E.P w= .ok (.value (.pointer (some ⟨y,p+d,none⟩))) w:=fun y p e=>by
  simp [execOp,V,e,Instr.fieldAt,eY X,O,Instr.sureAddr,fieldPlace,sizeOf,typeInfo,R,H,P,Addr.add_lit]
 cases e:ax st.n x<;>rw[e]at c r<;>simp only at c<;>try exact c.elim
 ·rename_i b p;obtain⟨L,y,B,m⟩:=(show eg S ι st.k w (.ptr b p) _ from r);exact di (A y p m) (z _ _ c ⟨L,y,B,rfl⟩)
 ·rename_i b k i p;obtain⟨_,Z,C,n,g,q,s,u⟩:=(show eg S ι st.k w (.fp b k i p) _ from r);rw[q]at c;simp only at c;obtain⟨y,B,m⟩:=u c.1;exact di (A y _ m) (z _ _ c.2 ⟨rfl,Z,C,n,g,q,s,fun _=>⟨y,B,by rw[pL]⟩⟩)
 ·rename_i cs;have I:aR w (aK S ι st.k w) (.ref cs) (a.eval x):=r;generalize m:a.eval x=v at I
  cases I with
  |ref _ b p g b6 M q s u=>
   refine di (A b p m) (z _ _ c (show aR w _ (.ref (cs.drop d)) _ from .ref _ b (p+d) (fun j=>g (d+j)) (fun j=>b6 (d+j)) M (fun j l=> ?_) (fun j l=> ?_) (fun j l=> ?_)))
   ·rw[ou];exact q _ (by simp at l;omega)
   ·rw[pL];exact s _ (by simp at l;omega)
   ·exact u _ (by simp at l;omega)
theorem aU.Zq{α β:Type}{R:α→β→Prop} : ∀{aa:List α} {a:List β} (n:Nat),aU R aa a→aU R (aa.drop n) (a.drop n)
 |[],[],n,_=>by simp [aU]
 |_::_,_::_,0,h=>h
 |_::_,_::_,n+1,h=>aU.Zq n h.2
 |[],_::_,_,h=>h.elim
 |_::_,[],_,h=>h.elim
theorem ata{o:Oper}{T:TypeId}{t:bD}{x y:Operand}(ed:o.op= .indexAddr T x y)(jc:gl E.P T t)(e2:aP S ι st a w){eo:J→Prop}(d:sQ t st.k (ax st.n x) (ax st.n y) eo){next:Act→World→Prop}{Q:Exit→Act→World→Prop}
  (G: ∀av v,eo av→bg S ι st.k w av v→next (a.put o.dst v) w):o.wp E.P a w next Q:=by
 have A:=e2.eval x;have H:=e2.eval y;have F:=jc.d
 cases K:t.d<;>simp only[sQ,K]at d<;>try exact d.elim
 case slice e l lX=>
  rw[K]at F;obtain⟨X,i,R,U,_⟩:=F
  cases L:ax st.n y<;>rw[L]at d H<;>simp only at d<;>try exact d.elim
  rename_i k z;have Y:a.eval y= .int k z:=by
   have:aR w (aK S ι st.k w) (.int k z) (a.eval y):=H;generalize a.eval y=v at this;cases this;rfl
  have B: ∀(b p n c:Nat),a.eval x= .slice (some ⟨b,p,none⟩) n c→0≤z→z<n→(execOp a.eval o).run E.P w= .ok (.value (.pointer (some ⟨b,p+z.toNat*l,none⟩))) w:=fun b p n c r s h=>by
   simp [execOp,ed,r,Y,Instr.indexAt,eY X,asIntOf,s,h,sizeOf,typeInfo,R,U,Addr.add_lit]
  cases r:ax st.n x<;>rw[r]at d A<;>simp only at d<;>try exact d.elim
  ·rename_i M n f;simp only[ay,jJ]at d;obtain⟨W,⟨s,h⟩,P⟩:=d;have D:aR w (aK S ι st.k w) (.arr M n f) (a.eval x):=A;generalize u:a.eval x=v at D
   cases D with
   |nil=>simp at h;omega
   |mt=>simp at h;omega
   |arr _ _ _ b p c g b6 eX ac_ O hZ iB fe=>
    have I:z.toNat<n:=by omega
    have hlen:((f z.toNat).take M).length=M:=by
     rcases fk ((f z.toNat).take M).length M with gu|sI
     ·have:=hZ z.toNat _ I gu;rw[eF (by simp at gu ⊢;omega)]at this;cases this
     ·have:=List.length_take_le M (f z.toNat);omega
    refine di (B b p n c u s h) (G _ _ P (show aR w _ (.ref ((f z.toNat).take M)) _ from .ref _ b (p+z.toNat*l) (g z.toNat) (b6 z.toNat) (O (by omega)) (fun j m=> ?_) (fun j m=> ?_) (fun j m=> ?_)))
    ·rw[yH (by omega)];exact hZ _ _ I (by omega)
    ·rw[←W];exact iB _ _ I (by omega)
    ·exact fe _ _ I (by omega)
  ·rename_i b Z;obtain⟨_,ro,M,n,f,h,gX,N⟩:=(show eg S ι st.k w (.own b Z) _ from A);rw[h]at d;simp only[ay,jJ]at d;obtain⟨W,rfl,⟨xN,FD⟩,P⟩:=d;rcases N rfl with⟨q,c,C,kV,V,u,me,j2,kB⟩|⟨AW,_,_⟩
   ·refine di (B q 0 Z c u xN FD) (G _ _ P ⟨rfl,ro,M,Z,f,h,bC _,fun _=>⟨q,V,by rw[W];simp⟩⟩)
   ·omega
 case array n e l=>
  rw[K]at F;obtain⟨X,i,R,U⟩:=F
  cases L:ax st.n y<;>rw[L]at d H<;>simp only at d<;>try exact d.elim
  rename_i k z;have Y:a.eval y= .int k z:=by
   have:aR w (aK S ι st.k w) (.int k z) (a.eval y):=H;generalize a.eval y=v at this;cases this;rfl
  have B: ∀(b p:Nat),a.eval x= .pointer (some ⟨b,p,none⟩)→0≤z→z<n→(execOp a.eval o).run E.P w= .ok (.value (.pointer (some ⟨b,p+z.toNat*l,none⟩))) w:=fun b p r s h=>by
   simp [execOp,ed,r,Y,Instr.indexAt,Instr.sureAddr,eY X,asIntOf,s,h,sizeOf,typeInfo,R,U,Addr.add_lit]
  cases r:ax st.n x<;>rw[r]at d A<;>simp only[ay,bL,jJ]at d<;>try exact d.elim
  ·rename_i b p;obtain⟨s,q,V,u⟩:=(show eg S ι st.k w (.ptr b p) _ from A);exact di (B q p u d.1.1 d.1.2) (G _ _ d.2 ⟨s,q,V,rfl⟩)
  ·rename_i cs;have D:aR w (aK S ι st.k w) (.ref cs) (a.eval x):=A;generalize u:a.eval x=v at D
   cases D with
   |ref _ b p g b6 O h gX N=>
    refine di (B b p u d.1.1 d.1.2) (G _ _ d.2 (show aR w _ (.ref (cs.drop (z.toNat*l))) _ from .ref _ b (p+z.toNat*l) (fun j=>g (z.toNat*l+j)) (fun j=>b6 (z.toNat*l+j)) O (fun j m=> ?_) (fun j m=> ?_) (fun j m=> ?_)))
    ·rw[ou];exact h _ (by simp at m;omega)
    ·rw[pL];exact gX _ (by simp at m;omega)
    ·exact N _ (by simp at m;omega)
theorem aAC{P:Program}{T:TypeId}{t:bD}{w:World}(c:gl P T t)(b:List Value)(a:Nat)(h:a+t.size≤b.length):
  (part T b.toArray a).run P w= .ok (rF t.d.isAgg ((b.drop a).take t.size)) w:=by
 cases e:t.d.isAgg with
 |true=>simp [part,Sem.run_bind,MK w c,e,Result.andThen_ok,run_sizeOf w c,rF]
 |false=>
  have f:=c.one e;have d:a<b.length:=by omega
  have g:(b.drop a).take 1=[b[a]]:=by rw[tx d];rfl
  simp [part,Sem.run_bind,MK w c,e,Result.andThen_ok,rF,f,g,d]
theorem as3{c:TypeId→Option bD}(D: ∀T t,c T=some t→gl E.P T t){o:Oper}{T:TypeId}{t:bD}{x y:Operand}(L:o.op= .index T x y)(G:gl E.P T t)(h:aP S ι st a w){K:J→Prop}(b:vb c t (ax st.n x) (ax st.n y) K){next:Act→World→Prop}{Q:Exit→Act→World→Prop}
  (I: ∀av v,K av→bg S ι st.k w av v→next (a.put o.dst v) w):o.wp E.P a w next Q:=by
 have p:=h.eval x;have q:=h.eval y;have l:=G.d
 cases f:t.d<;>simp only[vb,f]at b<;>try exact b.elim
 rename_i n e U;rw[f]at l;obtain⟨O,i,W,X⟩:=l
 cases A:ax st.n y<;>rw[A]at b q<;>simp only at b<;>try exact b.elim
 rename_i k z;have R:a.eval y= .int k z:=by
  have:aR w (aK S ι st.k w) (.int k z) (a.eval y):=q;generalize a.eval y=v at this;cases this;rfl
 cases s:ax st.n x<;>rw[s]at b p<;>simp only at b<;>try exact b.elim
 rename_i cs
 cases g:c e<;>rw[g]at b<;>simp only[ay,bL,jJ]at b<;>try exact b.elim
 rename_i u;obtain⟨⟨⟨⟨B,C⟩,j⟩,V⟩,F⟩:=b;have d:=D e u g;obtain⟨r,P,m⟩:=(show bg S ι st.k w (.agg cs) _ from p);have Y:=m.length;have M:=aAC (w:=w) d r (z.toNat*u.size) (by rw[j];omega);have N:(execOp a.eval o).run E.P w= .ok (.value (rF u.d.isAgg ((r.drop (z.toNat*u.size)).take u.size))) w:=by
  simp [execOp,L,P,R,Instr.index,eY O,asIntOf,B,C,run_sizeOf w d,M]
 refine di N (I _ _ F ?_);rw[j];refine Yd ((m.Zq _).take _) fun H=> ?_;have:=d.one H;rw[jj,rl];omega
theorem an_{o:Oper}{x:Operand}{i:Nat}(k:o.op= .extract x i)(h:aP S ι st a w){K:J→Prop}(b:zl i (ax st.n x) K){next:Act→World→Prop}{Q:Exit→Act→World→Prop}
  (j: ∀av v,K av→bg S ι st.k w av v→next (a.put o.dst v) w):o.wp E.P a w next Q:=by
 have e:=h.eval x
 cases f:ax st.n x<;>rw[f]at b e<;>simp only[zl]at b<;>try exact b.elim
 rename_i c;simp only[ay,jJ]at b;obtain⟨d,g⟩:=b;obtain⟨us,n,l⟩:=(show∃us:List Value,a.eval x= .tuple us.toArray∧aU (fR ι st.k w (aK S ι st.k w)) c us from e);obtain⟨v,p,m⟩:=l.get i c[i] (cI d);refine di (v:=v) (w':=w) ?_ (j (c.getD i .undef) v g ?_)
 ·simp [execOp,k,n,Instr.extract,p]
 ·simp only[List.getD,cI d,kM];exact eh.yf m
def kR(S:dM)(w:World)(x:Nat):Prop:=S.oA x∨(S.kL.heap.size≤x∧x<w.heap.size)
theorem Oj{H:Heap}{x:Nat}(h:aK S ι H w x):kR S w x:=h.1.imp id fun a=>⟨a,h.2.1⟩
theorem aad(h:aP S ι st a w){x:J}{v:Value}(D:eg S ι st.k w x v){K:J→Prop}(z:ih st.k x K): ∃y,K y∧aR w (kR S w) y v:=by
 have V:c0 (nL x) (K x)→ ∃y,K y∧aR w (kR S w) y v:=fun P=>(fun⟨t,E⟩=>⟨x,E,(b8.p4 D t).mono (fun _=>Oj) fun _ _ _=>rfl⟩) (ay.1 P)
 cases x
 case own b k=>
  obtain⟨_,ro,s,n,f,t,E,M⟩:=D;simp only[ih,t]at z;obtain⟨rfl,N⟩:=z;refine⟨_,N,?_⟩;rcases M rfl with⟨q,c,C,L,r,B,T,F,Y⟩|⟨rfl,_,B⟩
  ·have p:=h.k b 0;rw[t]at p;obtain⟨_,H|⟨O,p|⟨Z,W,X,I,G,Q⟩⟩⟩:=p
   ·rw[r]at H;cases H.2.2
   ·rw[r]at p;cases p.2
   ·rw[r]at I;cases I;rw[F]at G;cases G;have R:=h.fresh b q r;rw[B];have A: ∀i j,i<k→j<s→ ∃av u,(f i)[j]? =some av∧C[i*s+j]? =some u∧aR w (kR S w) av u:=fun i j d e=>by
     obtain⟨av,u,l,m,o⟩:=Q i j d e;exact⟨av,u,l,m,o.mono (fun _=>Oj) fun _ _ _=>rfl⟩
    refine .arr s k f q 0 c (fun i j=>((f i)[j]?).getD .undef) (fun i j=>(C[i*s+j]?).getD undef) T O (fun _=>(h.own r).imp id fun g=>⟨g,R.2⟩) (fun i j d e=> ?_) (fun i j d e=> ?_) (fun i j d e=> ?_)
    ·obtain⟨av,u,l,m,o⟩:=A i j d e;rw[l];rfl
    ·obtain⟨av,u,l,m,o⟩:=A i j d e;rw[tC w q _ C L (0,0) F,c1,m];rfl
    ·obtain⟨av,u,l,m,o⟩:=A i j d e;simp only[l,m,kM];exact o
  ·rw[B];exact .nil s f
 case lit b=>
  have U:aR w (aK S ι st.k w) (.lit b) v:=D
  cases U
  exact⟨_,z,.bool b⟩
 all_goals exact V z
theorem aak(h:aP S ι st a w): ∀(cs:List J) (e:List Value) (K:List J→Prop),aU (eg S ι st.k w) cs e→lq st.k cs K→ ∃f,K f∧aU (aR w (kR S w)) f e
 |[],[],K,_,b=>⟨[],b,trivial⟩
 |[],_::_,_,d,_=>d.elim
 |_::_,[],_,d,_=>d.elim
 |c::cs,v::e,K,d,b=>by
  obtain⟨y,b,g⟩:=aad h d.1 b;obtain⟨f,b,i⟩:=aak h cs e _ d.2 b;exact⟨y::f,b,g,i⟩
theorem QC(h:aP S ι st a w){x:J}{v:Value}(e:bg S ι st.k w x v){K:J→Prop}(b:km st.k x K): ∃y,K y∧fl w (kR S w) y v:=by
 have j: ∀y,aR w (kR S w) y v→fl w (kR S w) y v:=fun y i=>by cases i<;>first|exact .int _ _|exact .bool _|exact .str _ (by assumption)|exact .aA|exact .nil _ _|exact .mt _ _ _ _|(constructor<;>assumption)
 cases x
 case agg cs=>
  obtain⟨f,rfl,g⟩:=e;obtain⟨k,c,d⟩:=aak h cs f _ g b;exact⟨.agg k,c,f,rfl,d⟩
 case undef=>exact b.elim
 case gone=>exact b.elim
 case c7=>exact b.elim
 case ad=>exact b.elim
 all_goals
  simp only[bg,eh,fR]at e;obtain⟨y,c,d⟩:=aad h e b;exact⟨y,c,j y d⟩
theorem aah(h:aP S ι st a w): ∀(g:List J) (e:List Value) (K:List J→Prop),aU (bg S ι st.k w) g e→lY st.k g K→ ∃f,K f∧aU (fl w (kR S w)) f e
 |[],[],K,_,b=>⟨[],b,trivial⟩
 |[],_::_,_,d,_=>d.elim
 |_::_,[],_,d,_=>d.elim
 |c::cs,v::e,K,d,b=>by
  obtain⟨y,b,i⟩:=QC h d.1 b;obtain⟨f,b,j⟩:=aah h cs e _ d.2 b;exact⟨y::f,b,i,j⟩
theorem aac{H:Heap}{x:J}{K:J→Prop}(b:nL x=true)(a:ih H x K):K x:=by
 cases x<;>first|(cases b;done)|(simp only[ih,ay]at a;exact a.2)
theorem aaj{H:Heap} : ∀{cs:List J} {K:List J→Prop},cs.all nL=true→lq H cs K→K cs
 |[],_,_,b=>b
 |c::cs,K,a,b=>by
  simp only[yM,bL]at a;exact aaj (K:=fun d=>K (c::d)) a.2 (aac a.1 b)
theorem aoG{H:Heap}{x:J}{K:J→Prop}(a:zr x=true)(b:km H x K):K x:=by
 cases x
 case agg cs=>exact aaj (K:=fun c=>K (.agg c)) a b
 all_goals exact aac (H:=H) a b
theorem aag{H:Heap} : ∀{cs:List J} {K:List J→Prop},cs.all zr=true→lY H cs K→K cs
 |[],_,_,b=>b
 |c::cs,K,a,b=>by
  simp only[yM,bL]at a;exact aag (K:=fun d=>K (c::d)) a.2 (aoG a.1 b)
theorem ahm{F F':Nat→Prop}{w':World}{x:J}{v:Value}(a:Wi x=true)(h:aR w F x v):aR w' F' x v:=by
 cases h<;>first|(cases a;done)|(constructor;done)|(constructor;assumption)
theorem ahj{F F':Nat→Prop}{w':World}{x:J}{v:Value}(d:Wj x=true)(h:fl w F x v):fl w' F' x v:=by
 cases x
 case agg cs=>
  obtain⟨g,rfl,c⟩:=h;refine⟨g,rfl,aU.mk c.length fun i p q a e=> ?_⟩;obtain⟨j,b,f⟩:=c.get i p a;rw[e]at b;cases b;exact ahm (ds.1 d p (e0 a)) f
 case undef=>exact h.elim
 all_goals
  simp only[fl]at h ⊢;exact ahm d h
theorem ahl{F F':Nat→Prop}{w':World}{x:J}{v:Value}(d:BU x=true)(h:jL w F x v):jL w' F' x v:=by
 cases x
 case c7 cs=>
  obtain⟨g,rfl,c⟩:=h;refine⟨g,rfl,aU.mk c.length fun i p q a e=> ?_⟩;obtain⟨j,b,f⟩:=c.get i p a;rw[e]at b;cases b;exact ahj (ds.1 d p (e0 a)) f
 all_goals
  simp only[jL]at h ⊢;exact ahj d h
end
section
variable {E:Env} {S:dM} {ι:Nat→Option Nat} {st:K} {a:Act} {w:World}
theorem bg.int{H:Heap}{k:IntKind}{n:Int}{v:Value}(h:bg S ι H w (.int k n) v):v= .int k n:=by
 have:aR w (aK S ι H w) (.int k n) v:=h
 cases this;rfl
theorem bg.bool{H:Heap}{b:Bool}{v:Value}(h:bg S ι H w (.bool b) v):v= .bool b:=by
 have:aR w (aK S ι H w) (.bool b) v:=h
 cases this;rfl
theorem bg.str{H:Heap}{s:ByteArray}{v:Value}(h:bg S ι H w (.str s) v):v= .string s:=by
 have:aR w (aK S ι H w) (.str s) v:=h
 cases this;rfl
theorem bg.mkInt{H:Heap}(k:IntKind)(n:Int):bg S ι H w (.int k n) (.int k n):=aR.int k n
theorem bg.x7{H:Heap}(b:Bool):bg S ι H w (.bool b) (.bool b):=aR.bool b
theorem bg.mkStr{H:Heap}(s:ByteArray)(a:s.size≤dj):bg S ι H w (.str s) (.string s):=aR.str s a
theorem bg.Wz{H:Heap}{s:ByteArray}{v:Value}(h:bg S ι H w (.str s) v):s.size≤dj:=by
 have:aR w (aK S ι H w) (.str s) v:=h
 cases this;assumption
theorem bg.lit{H:Heap}{b:Bool}{v:Value}(h:bg S ι H w (.lit b) v):v= .bool b:=by
 have:aR w (aK S ι H w) (.lit b) v:=h
 cases this;rfl
theorem bg.mkLit{H:Heap}(b:Bool):bg S ι H w (.lit b) (.bool b):=aR.lit b
theorem agn{o:Oper}{c x y:Operand}{b:Bool}(g:o.op= .pick c x y)(f:a.eval c= .bool b)(h:aP S ι st a w){K:J→Prop}(d:Gs b (ax st.n x) (ax st.n y) K){next:Act→World→Prop}{Q:Exit→Act→World→Prop}
  (e: ∀av v,K av→bg S ι st.k w av v→next (a.put o.dst v) w):o.wp E.P a w next Q:=by
 refine di (v:=if b then a.eval x else a.eval y) (w':=w) (by simp [execOp,g,f,asBool]) ?_
 cases b
 ·exact e _ _ d (h.eval y)
 ·exact e _ _ d (h.eval x)
theorem atf{b:BinOp}{k:IntKind}{p q:Int}{T:TypeId}{x y:Operand}{K:J→Prop}(a:ve b k p q K)(H:Heap): ∃av v,K av∧bg S ι H w av v∧
  (do eqGuard b T x y (.int k p) (.int k q);binOp b T (.int k p) (.int k q):Sem Value).run E.P w= .ok v w:=by
 cases b<;>simp only[ve]at a<;>try exact a.elim
 all_goals first
  |exact⟨_,_,a,bg.mkInt _ _,by simp [go_sem,Op.intArith]⟩
  |exact⟨_,_,a,bg.x7 _,by simp [go_sem]⟩
  |exact⟨_,_,a.2,bg.mkInt _ _,by simp [go_sem,Op.intDiv,a.1]⟩
theorem HK{d:List J} : ∀{cs:List J} {a:List Value} {H:Heap} {F:Nat→Prop},hn d cs=true→aU (b8 ι H w F) cs a→aU vK cs a:=by
 intro cs a H F b h
 induction cs generalizing d a with
 |nil=>cases a;exact trivial;exact h.elim
 |cons c cs g=>
  cases a with
  |nil=>exact h.elim
  |cons v a=>
   cases d with
   |nil=>cases b
   |cons z d=>
    simp only[hn,bL]at b;refine⟨?_,g b.2 h.2⟩;have e:=h.1
    cases z<;>cases c<;>simp [Qq]at b<;>(have f:aR w F _ v:=e;cases f;rfl)
theorem ZI{P:Program}{T:TypeId}(a:P.underlying T=some .bool)(d:Nat)(p q:Bool):(Op.equalIn (d+1) T (.bool p) (.bool q)).run P w= .ok (p==q) w:=by
 simp [Op.equalIn,eY a]
theorem run_eql_bool{P:Program}{T:TypeId}(a:P.underlying T=some .bool)(x y:Operand)(p q:Bool):
  (do eqGuard .eql T x y (.bool p) (.bool q);binOp .eql T (.bool p) (.bool q):Sem Value).run P w= .ok (.bool (p==q)) w:=by
 have h:binOp .eql T (.bool p) (.bool q)=(do pure (.bool (←Op.equal T (.bool p) (.bool q)))):=rfl;rw[h];simp [go_sem,Op.equal,Op.maxDepth,ZI a 9999 p q]
theorem run_neq_bool{P:Program}{T:TypeId}(a:P.underlying T=some .bool)(x y:Operand)(p q:Bool):
  (do eqGuard .neq T x y (.bool p) (.bool q);binOp .neq T (.bool p) (.bool q):Sem Value).run P w= .ok (.bool (!(p==q))) w:=by
 have h:binOp .neq T (.bool p) (.bool q)=(do pure (.bool (!(←Op.equal T (.bool p) (.bool q))))):=rfl;rw[h];simp [go_sem,Op.equal,Op.maxDepth,ZI a 9999 p q]
theorem amg{o:Oper}{d:BinOp}{T B:TypeId}{t:bD}{x y:Operand}(M:o.op= .binOp d T x y B)(r:gl E.P T t)(h:aP S ι st a w){K:J→Prop}(b:oI t d (eD (ax st.n x)) (eD (ax st.n y)) K){next:Act→World→Prop}{Q:Exit→Act→World→Prop}
  (L: ∀av v,K av→bg S ι st.k w av v→next (a.put o.dst v) w):o.wp E.P a w next Q:=by
 have e:bg S ι st.k w (eD (ax st.n x)) (a.eval x):=Bw (h.eval x);have f:bg S ι st.k w (eD (ax st.n y)) (a.eval y):=Bw (h.eval y);have c: ∀av v,K av→bg S ι st.k w av v→(do eqGuard d T x y (a.eval x) (a.eval y);binOp d T (a.eval x) (a.eval y):Sem Value).run E.P w= .ok v w→o.wp E.P a w next Q:=fun av v H n i=>by
  refine di (v:=v) (w':=w) ?_ (L av v H n);have:(execOp a.eval o).run E.P w=((do eqGuard d T x y (a.eval x) (a.eval y);binOp d T (a.eval x) (a.eval y):Sem Value).run E.P w).andThen fun v w=> .ok (.value v) w:=by
   simp only[execOp,M];rw[Sem.run_bind];rfl
  rw[this,i];rfl
 cases p:eD (ax st.n x)<;>cases q:eD (ax st.n y)<;>rw[p,q]at b<;>rw[p]at e<;>rw[q]at f<;>simp only[oI]at b<;>try exact b.elim
 ·rw[e.int,f.int]at c
  cases l:LC d with
  |true=>
   rw[l]at b;obtain⟨⟨s,u⟩,b⟩:=b
   cases d<;>first|(cases l;done)|skip
   ·exact c _ _ b (bg.mkInt _ _) (by simp [go_sem,shift_shl _ _ _ _ s u])
   ·exact c _ _ b (bg.mkInt _ _) (by simp [go_sem,shift_shr _ _ _ _ s u])
  |false=>
  rw[l]at b;simp only[ay,jJ]at b;obtain⟨rfl,b⟩:=b;obtain⟨av,v,D,F,G⟩:=atf (E:=E) (S:=S) (ι:=ι) (w:=w) (T:=T) (x:=x) (y:=y) b st.k;exact c av v D F G
 ·rw[e.bool,f.bool]at c;have m:=r.d
  cases C:t.d<;>rw[C]at b m<;>simp only at b<;>try exact b.elim
  cases d<;>simp only at b<;>try exact b.elim
  ·exact c _ _ b (bg.x7 _) (run_eql_bool m _ _ _ _)
  ·exact c _ _ b (bg.x7 _) (run_neq_bool m _ _ _ _)
 ·rw[e.str,f.str]at c
  cases d<;>simp only at b<;>try exact b.elim
  all_goals first
   |exact c _ _ b (bg.x7 _) (by simp [go_sem])
   |exact c _ _ b.2 (bg.mkStr _ (by rw[ByteArray.size_append];exact b.1)) (by have:=b.1;have O:dj=549755813888:=rfl;simp [go_sem,Op.stringOp];omega)
 ·simp only[ay,bL]at b;obtain⟨⟨⟨I,j⟩,k⟩,b⟩:=b;have A:=r.cmp I;obtain⟨g,n,i⟩:=(show∃g:List Value,a.eval x= .agg g.toArray∧aU (eg S ι st.k w) _ g from e);obtain⟨us,N,z⟩:=(show∃us:List Value,a.eval y= .agg us.toArray∧aU (eg S ι st.k w) _ us from f);rw[n,N]at c
  cases d<;>simp only at b<;>try exact b.elim
  ·exact c _ _ b (bg.x7 _) (A .eql x y _ _ g us w (.inl rfl) j k (HK j i) (HK k z))
  ·exact c _ _ b (bg.x7 _) (A .neq x y _ _ g us w (.inr rfl) j k (HK j i) (HK k z))
theorem aBT{o:Oper}{f:UnOp}{T:TypeId}{x:Operand}(e:o.op= .unOp f T x)(h:aP S ι st a w){K:J→Prop}(b:yC f (ax st.n x) K){next:Act→World→Prop}{Q:Exit→Act→World→Prop}
  (d: ∀av v,K av→bg S ι st.k w av v→next (a.put o.dst v) w):o.wp E.P a w next Q:=by
 have c:=h.eval x
 cases f<;>cases g:ax st.n x<;>rw[g]at b c<;>simp only[yC]at b<;>try exact b.elim
 all_goals first
  |exact di (v:= .bool _) (by simp only[execOp,e,c.bool,Op.unary];rfl) (d _ _ b (bg.x7 _))
  |exact di (v:= .bool _) (by simp only[execOp,e,c.lit,Op.unary];rfl) (d _ _ b (bg.mkLit _))
  |exact di (v:= .int _ _) (by simp only[execOp,e,c.int,Op.unary,Op.intArith];rfl) (d _ _ b (bg.mkInt _ _))
theorem awX{o:Oper}{c:Go.Call}{x:Operand}{T:TypeId}{t:bD}(I:o.op= .call c)(H:c.callee= .builtin .len)(G:c.args= #[x])(L:c.argTypes= #[T])(F:gl E.P T t)(h:aP S ι st a w)
  (u:(match t.d with| .slice .. =>true| .string=>true|_=>false)=true) {K:J→Prop} (d:po st.k (ax st.n x) K) (g:(match t.d,ax st.n x with| .string,.str _=>true| .slice ..,.str _=>false| .string,_=>false|_,_=>true)=true) {next:Act→World→Prop} {Q:Exit→Act→World→Prop}
  (i: ∀av v,K av→bg S ι st.k w av v→next (a.put o.dst v) w):o.wp E.P a w next Q:=by
 have m:=h.eval x;have s:=F.d;have j: ∀v,(Builtin.len_ #[T] o.type #[a.eval x]).run E.P w= .ok v w→(execOp a.eval o).run E.P w= .ok (.value v) w:=fun v e=>by
  simp [execOp,I,resolve,H,G,L,invoke,builtin,e]
 cases A:t.d<;>rw[A]at u s g<;>simp only at u<;>try (cases u;done)
 ·cases r:ax st.n x<;>rw[r]at d m g<;>simp only[po]at d<;>simp only at g<;>first|(cases g;done)|skip
  exact di (j _ (by simp [Builtin.len_,eY s,m.str];rfl)) (i _ _ d (bg.mkInt _ _))
 ·obtain⟨l,_⟩:=s
  cases r:ax st.n x<;>rw[r]at d m g<;>simp only[po]at d<;>simp only at g<;>first|(cases g;done)|(exact d.elim)|skip
  ·have p:aR w (aK S ι st.k w) .aA (a.eval x):=m;generalize e:a.eval x=v at p
   cases p
   exact di (j _ (by simp [Builtin.len_,eY l,e];rfl)) (i _ _ d (bg.mkInt _ _))
  ·rename_i z n f;have p:aR w (aK S ι st.k w) (.arr z n f) (a.eval x):=m;generalize e:a.eval x=v at p
   cases p with
   |nil=>exact di (j _ (by simp [Builtin.len_,eY l,e];rfl)) (i _ _ d (bg.mkInt _ _))
   |mt=>exact di (j _ (by simp [Builtin.len_,eY l,e];rfl)) (i _ _ d (bg.mkInt _ _))
   |arr=>exact di (j _ (by simp [Builtin.len_,eY l,e];rfl)) (i _ _ d (bg.mkInt _ _))
  ·rename_i b k;obtain⟨_,W,z,n,f,B,O,D⟩:=(show eg S ι st.k w (.own b k) _ from m);rw[B]at d;simp only at d;obtain⟨rfl,y⟩:=d;rcases D rfl with⟨q,N,C,M,V,e,U,P,R⟩|⟨rfl,_,e⟩
   ·exact di (j _ (by simp [Builtin.len_,eY l,e];rfl)) (i _ _ y (bg.mkInt _ _))
   ·exact di (j _ (by simp [Builtin.len_,eY l,e];rfl)) (i _ _ y (bg.mkInt _ _))
end
section
variable {E:Env} {S:dM} {ι:Nat→Option Nat} {st:K} {a:Act} {w:World}
theorem ahp{R:J→Value→Prop} : ∀(cs:List J) (f:List Value) (e:List J) (us:Array Value) (a j:Nat),aU R cs f→aU R e us.toList→a+j+cs.length≤e.length→
  aU R (qR e cs (a+j)) ((f.zipIdx j).foldl (fun cs (c,j)=>cs.setIfInBounds (a+j) c) us).toList
 |[],[],e,us,a,j,_,h,_=>h
 |[],_::_,_,_,_,_,h,_,_=>h.elim
 |_::_,[],_,_,_,_,h,_,_=>h.elim
 |c::cs,v::f,e,us,a,j,h,k,n=>by
  simp only[qR,List.zipIdx_cons,G4];have:=ahp cs f (e.set (a+j) c) (us.setIfInBounds (a+j) v) a (j+1) h.2 (by
   refine aU.mk (by simp [k.length]) fun i x y d b=> ?_;simp only[Array.toList_setIfInBounds]at b
   by_cases m:i=a+j
   ·subst m;rw[tw]at d b;simp only[kN]at d b
    split at d<;>split at b<;>first|(cases d;cases b;exact h.1)|(cases d;done)|(cases b;done)
   ·rw[Cc (by omega)]at d b;obtain⟨o,g,l⟩:=k.get i x d;rw[b]at g;cases g;exact l) (by simp at n ⊢;omega)
  rwa [show a+(j+1)=a+j+1 by omega]at this
theorem YE{j:List (Nat×Nat)}(h:aP S ι st a w): ∀(e:List (Nat×Operand)) (cs:List J) (us:Array Value) (K:List J→Prop),aU (eg S ι st.k w) cs us.toList→mC j st.n e cs K→
  ∃c f,K c∧aU (eg S ι st.k w) c f.toList∧Instr.fill (j[·]?) us (e.map fun(i,x)=>(i,a.eval x))=some f
 |[],cs,us,K,d,b=>⟨cs,us,b,d,rfl⟩
 |(i,x)::e,cs,us,K,d,b=>by
  simp only[mC]at b
  cases g:j[i]? with
  |none=>rw[g]at b;exact b.elim
  |some q=>
   obtain⟨s,M⟩:=q;rw[g]at b;simp only[ay,bL,jJ]at b;obtain⟨⟨⟨p,r⟩,t⟩,b⟩:=b;have k:=(h.eval x).cells p;have u:(a.eval x).cells.size=M:=by rw[←r,k.length];simp
   have v:us.size=cs.length:=by rw[d.length];simp
   have l:=ahp (cellsOf (ax st.n x)) (a.eval x).cells.toList cs us s 0 k d (by omega);rw[lN]at l;obtain⟨c,f,m,n,o⟩:=YE h e _ _ K l b;refine⟨c,f,m,n,?_⟩;simp only[G8,Instr.fill,g];rw[a7 (by simp;omega),←o]
   congr 1
   rw[←Array.foldl_toList];simp
theorem amq{o:Oper}{T:TypeId}{t:bD}{b:Array (Nat×Operand)}{f:List (Nat×Nat)}(r:o.op= .build T b)(d:gl E.P T t)(s:t.d= .struct f)(h:aP S ι st a w){K:J→Prop}
  (n:mC f st.n b.toList t.zero fun cs=>K (.agg cs)) {next:Act→World→Prop} {Q:Exit→Act→World→Prop}
  (q: ∀av v,K av→bg S ι st.k w av v→next (a.put o.dst v) w):o.wp E.P a w next Q:=by
 have e:=d.d;rw[s]at e;obtain⟨C,u,p,_⟩:=e;obtain⟨i,z,m,_,y,D,A⟩:=d.info;obtain⟨B,c,g,j,k⟩:=YE h b.toList t.zero z.cells (fun cs=>K (.agg cs)) (A.imp fun _ _=>kW.rel) n;refine di (v:= .agg c) (w':=w) ?_ (q _ _ g ⟨c.toList,by simp,j⟩);have l:E.P.built T (b.map fun(i,x)=>(i,a.eval x)).toList=some c:=by
  simp only[Program.built,m,u,y,p];rw[←k];simp
 simp only[execOp,r];rw[Sem.run_bind,run_build w T _ c l];rfl
end
end Go.af
