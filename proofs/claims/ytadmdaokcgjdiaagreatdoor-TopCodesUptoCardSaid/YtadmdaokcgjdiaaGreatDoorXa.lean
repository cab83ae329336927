import Derived.KernelRfl
import Derived.Tactics
import Derived.Orders
import Derived.Below
import Derived.Laws.Cells
import Derived.Laws.World
import Derived.Laws.Rows
import Derived.WalkLawsBesides
import Derived.Laws.Tables
open Go.IntKind (i64 u64 u8)
open Int (toNat)
set_option maxRecDepth 100000
set_option maxHeartbeats 4000000
set_option linter.all false
noncomputable section
namespace Go
def an{p:Prop}[a:Decidable p]:decide p=true->p:=of_decide_eq_true
def hX{p:Prop}[a:Decidable p]:decide p=false->¬p:=of_decide_eq_false
def bM{p:Prop}[a:Decidable p]:p->decide p=true:=decide_eq_true
def bj{p:Prop}[a:Decidable p]:¬p->decide p=false:=decide_eq_false
def bK{α:Type _}[BEq α][LawfulBEq α]{a b:α}:(a != b)=false->a=b:=bne_eq_false_iff_eq.1
def dc{α:Type _}[BEq α][ReflBEq α]{a b:α}:(a==b)=false->a≠b:=ne_of_beq_false
def eD(n:Nat):¬n<0:=Nat.not_lt_zero n
abbrev u:Type:=ByteArray
def b4:=@Bool.and_eq_true
def aX:=@cond_false
def cM:=@List.getElem?_eq_getElem
def aR:=@cond_true
def bN:=@Nat.le_refl
def eg:=@Nat.eq_of_beq_eq_true
def dK:=@List.all_eq_true
def eX:=@List.getElem?_eq_none
def db:=@Nat.zero_add
def ft:=@List.mem_of_getElem?
def a5:=@if_pos
def aS:=@if_neg
def g8:=@Nat.le_of_ble_eq_true
def cp:=@Nat.zero_le
def hy:=@Nat.mul_le_mul_right
def gi:=@Int.toNat_natCast
def gR:=@Nat.lt_of_lt_of_le
def fr:=@run_underlying
def il:=@List.getElem?_eq_some_iff
def aZ:=@Int.le_refl
def g9:=@Option.some.injEq
def g_:=@List.getElem?_map
def dP:=@Nat.le_trans
def fE:=@Nat.lt_or_ge
def dq:=@List.length_append
def gj:=@List.mem_append
def dy:=@List.length_cons
def jn:=@Bool.not_eq_true'
def j7:=@decide_eq_true_eq
def fk:=@List.append_assoc
def hI:=@Nat.add_mul
def mC:=@Option.map_eq_some_iff
def qJ:=@Array.getElem?_append_left
def qK:=@Array.getElem?_eq_getElem
def iI:=@List.mem_cons
def so:=@Array.getElem?_eq_some_iff
def lX:=@List.mem_flatMap
def fs:=@List.length_nil
def g0:=@List.flatMap_cons
def iX:=@Nat.succ_mul
def lY:=@Option.getD_some
def im:=@List.append_nil
def uO:=@List.getElem?_append_left
def iY:=@Nat.blt_eq
def qL:=@List.take_append_drop
def nn:=@List.cons.injEq
def pv:=@List.getElem?_drop
def iJ:=@List.length_take
def fl:=@beq_eq_false_iff_ne
def uP:=@List.getElem?_toArray
def qM:=@List.size_toArray
def mD:=@Nat.add_zero
def qN:=@List.getElem?_of_mem
def zV:=@List.getElem?_take_of_lt
def qO:=@Nat.le_add_right
def oC:=@Nat.beq_refl
def zW:=@List.getElem?_append_right
def IM:=@Array.getElem?_setIfInBounds_ne
def uQ:=@List.getElem?_set
def sr:=@Option.map_some
def qP:=@List.nil_append
def ss:=@heap_alloc_new
def wW:=@Array.size_append
def pw:=@Nat.le_succ_of_le
def IN:=@Array.getD_eq_getD_getElem?
def px:=@List.mem_map
def qQ:=@Nat.add_assoc
def wX:=@Nat.eq_zero_or_pos
def Dz:=@List.singleton_append
def qR:=@List.drop_eq_getElem_cons
def DA:=@List.getElem?_set_ne
def py:=@Array.ext'
def DB:=@Bool.or_eq_false_iff
def lp:=@if_true
def zX:=@List.flatten_cons
def pz:=@Prod.mk.injEq
def IP:=@List.length_eq_zero_iff
def wY:=@Int.eq_ofNat_of_zero_le
def DC:=@List.getElem?_range
def zY:=@List.flatMap_append
def np:=@if_false
def j8:=@List.getElem_mem
def uR:=@List.mem_range
def wZ:=@List.drop_drop
def uS:=@Nat.mul_comm
def jM:=@Option.some.inj
def DD:=@List.getD_eq_getElem?_getD
def w0:=@List.ext_getElem?
def qS:=@List.mem_of_mem_drop
def iK:=@beq_iff_eq
def uT:=@cell_of_row
def pA:=@beq_self_eq_true
def zZ:=@List.not_mem_nil
def pB:=@List.length_drop
def w1:=@List.cons_append
def IQ:=@run_firstCells_some
def IS:=@List.map_congr_left
def z1:=@List.all_cons
def IT:=@List.filter_append
def O2:=@Array.getElem?_eq_none
def wU:=@decide_true
def wV:=@grownCap_ge
def OV:=@Nat.ne_of_beq_eq_false
def OW:=@List.eq_nil_of_length_eq_zero
def zU:=@decide_false
def OX:=@Array.getElem?_toList
def Dw:=@Int.lt_irrefl
def qI:=@wp_mono
def OY:=@Int.toNat_of_nonneg
def IH:=@List.foldl_cons
def II:=@List.mem_filter
def IJ:=@Bool.or_eq_true
def Y_:=@List.getElem?_zip_eq_some
def OZ:=@run_loadCells_list
def IK:=@List.getElem?_take
def Dx:=@wpList_plain
def Za:=@List.getElem?_replicate
def Dy:=@Nat.sub_mul
def IL:=@List.map_cons
def O0:=@Nat.div_eq_of_lt
def O1:=@Nat.mod_eq_of_lt
theorem Ω{p:Prop}(h:p:=by omega):p:=h
theorem Δ{p:Prop}(h:p:=by decide):p:=h
theorem Ξ{p:Prop}(h:p:=by kernel_rfl):p:=h
theorem Ψ{p:Prop}(h:p:=by assumption):p:=h
instance:CoeFun IntKind λ_=>Int->Int:=⟨IntKind.wrap⟩
end Go
namespace Go.af
open Go Go.RowKit
inductive J where
 |undef
 |int (k:IntKind) (n:Int)
 |bool (b:Bool)
 |lit (b:Bool)
 |gone
 |str (s:ByteArray)
 |aG
 |arr (V n:Nat) (f:Nat->List J)
 |own (b n:Nat)
 |ad (ro:Bool) (V n:Nat) (f:Nat->List J)
 |ptr (b o:Nat)
 |fN (b n i o:Nat)
 |ref (cs:List J)
 |fn (f:FuncId) (jx:List J)
 |agg (cs:List J)
 |dp (cI:List J)
 |jJ
 |ke (V n:Nat) (f:Nat->List J)
instance:Inhabited J:=⟨.undef⟩
abbrev _root_.Go.b(n:Int):J:= .int .i64 n
def v8:List (Nat×List J):=[(0,[.int .i64 22,.str ⟨#[]⟩,.str ⟨#[]⟩,.str ⟨#[]⟩,.int .i64 0])]
def qi(g:Nat):List (Nat×List J)->J
 |[]=> .undef
 |x::l=>match Nat.beq g x.1 with
  |true=> .ref x.2
  |false=>qi g l
abbrev dz:Nat:=549755813888
def one:Value->Bool
 | .agg _=>false
 | .tuple _=>false
 |_=>true
def a6{α β:Type}(R:α->β->Prop):List α->List β->Prop
 |[],[]=>True
 |a::aa,b::c=>R a b/\a6 R aa c
 |_,_=>False
def a6.length{α β:Type}{R:α->β->Prop} : ∀{aa:List α} {a:List β},a6 R aa a->aa.length=a.length
 |[],[],_=>rfl
 |_::_,_::_,h=>by simp [a6.length h.2]
 |[],_::_,h=>h.elim
 |_::_,[],h=>h.elim
def a6.imp{α β:Type}{R c:α->β->Prop}(e: ∀a b,R a b->c a b): ∀{aa:List α} {d:List β},a6 R aa d->a6 c aa d
 |[],[],_=>trivial
 |_::_,_::_,h=>⟨e _ _ h.1,a6.imp e h.2⟩
 |[],_::_,h=>h.elim
 |_::_,[],h=>h.elim
def a6.get{α β:Type}{R:α->β->Prop} : ∀{aa:List α} {c:List β},a6 R aa c-> ∀(i:Nat) (a:α),aa[i]? =some a-> ∃b,c[i]? =some b/\R a b
 |[],[],_,i,a,h=>by simp at h
 |x::aa,y::c,h,0,a,d=>by simp at d;subst d;exact⟨y,by simp,h.1⟩
 |x::aa,y::c,h,i+1,a,d=>by simpa using a6.get h.2 i a (by simpa using d)
 |[],_::_,h,_,_,_=>h.elim
 |_::_,[],h,_,_,_=>h.elim
def a6.mk{α β:Type}{R:α->β->Prop} : ∀{aa:List α} {d:List β},aa.length=d.length->(∀(i:Nat) (a:α) (b:β),aa[i]? =some a->d[i]? =some b->R a b)->a6 R aa d
 |[],[],_,_=>trivial
 |a::aa,b::d,c,h=>⟨h 0 a b rfl rfl,a6.mk (by simpa using c) λi e b' f g=>h (i+1) e b' (by simpa using f) (by simpa using g)⟩
 |[],_::_,c,_=>by simp at c
 |_::_,[],c,_=>by simp at c
def a6.append{α β:Type}{R:α->β->Prop} : ∀{aa:List α} {a:List β} {cs:List α} {b:List β},a6 R aa a->a6 R cs b->a6 R (aa++cs) (a++b)
 |[],[],_,_,_,h=>h
 |_::_,_::_,_,_,h,k=>⟨h.1,a6.append h.2 k⟩
 |[],_::_,_,_,h,_=>h.elim
 |_::_,[],_,_,h,_=>h.elim
inductive a1 (w:World) (F:Nat->Prop):J->Value->Prop
 |int (k:IntKind) (n:Int):a1 w F (.int k n) (.int k n)
 |bool (b:Bool):a1 w F (.bool b) (.bool b)
 |lit (b:Bool):a1 w F (.lit b) (.bool b)
 |str (s:ByteArray) (jh:s.size<=dz):a1 w F (.str s) (.string s)
 |aG:a1 w F .aG (.slice none 0 0)
 |jJ:a1 w F .jJ (.pointer none)
 |ke (V n:Nat) (f:Nat->List J) (p:Option Addr) (c:Nat) (h:a1 w F (.arr V n f) (.slice p n c)) (jF:c=n):a1 w F (.ke V n f) (.slice p n c)
 |nil (V:Nat) (f:Nat->List J):a1 w F (.arr V 0 f) (.slice none 0 0)
 |mt (V:Nat) (f:Nat->List J) (a:Addr) (c:Nat):a1 w F (.arr V 0 f) (.slice (some a) 0 c)
 |arr (V n:Nat) (f:Nat->List J) (b o c:Nat) (g:Nat->Nat->J) (cI:Nat->Nat->Value) (fP:n<=c) (jh:n<=dz) (od:0<n->F b)
   (e5: ∀i j,i<n->j<V->(f i)[j]? =some (g i j)) (hl: ∀i j,i<n->j<V->w.cell? ⟨b,o+i*V+j,none⟩=some (cI i j))
   (fe: ∀i j,i<n->j<V->a1 w F (g i j) (cI i j)):a1 w F (.arr V n f) (.slice (some ⟨b,o,none⟩) n c)
 |ref (cs:List J) (b o:Nat) (g:Nat->J) (cI:Nat->Value) (od:F b) (e5: ∀j,j<cs.length->cs[j]? =some (g j))
   (hl: ∀j,j<cs.length->w.cell? ⟨b,o+j,none⟩=some (cI j)) (fe: ∀j,j<cs.length->a1 w F (g j) (cI j)):a1 w F (.ref cs) (.pointer (some ⟨b,o,none⟩))
 |fn (f:FuncId) (jx:List J) (cI:List Value) (g:Nat->J) (u:Nat->Value) (pc:cI.length=jx.length) (e5: ∀j,j<jx.length->jx[j]? =some (g j))
   (hl: ∀j,j<jx.length->cI[j]? =some (u j)) (fe: ∀j,j<jx.length->a1 w F (g j) (u j)):a1 w F (.fn f jx) (.func (.func f) #[] cI.toArray)
def a1.mono{w w':World}{F F':Nat->Prop}(B: ∀x,F x->F' x)(t: ∀x o,F x->w'.cell? ⟨x,o,none⟩=w.cell? ⟨x,o,none⟩){av:J}{v:Value}(h:a1 w F av v):a1 w' F' av v:=by
 induction h with
 |int k n=>exact .int k n
 |bool b=>exact .bool b
 |lit b=>exact .lit b
 |str s y=>exact .str s y
 |aG=>exact .aG
 |jJ=>exact .jJ
 |ke e n f p c h t d=>exact .ke e n f p c d t
 |nil e f=>exact .nil e f
 |mt e f a c=>exact .mt e f a c
 |arr e n f b o c g r G y q l m A d=>
  exact .arr e n f b o c g r G y (λh=>B _ (q h)) l (λi j D z=>by rw[t b _ (q Ω)];exact m i j D z) d
 |ref cs b o g r q l m A d=>
  exact .ref cs b o g r (B _ q) l (λj z=>by rw[t b _ q];exact m j z) d
 |fn f C r g u E l m A d=>exact .fn f C r g u E l m d
def fK(w:World)(F:Nat->Prop):J->Value->Prop
 | .undef,_=>False
 | .agg cs,v=> ∃a:List Value,v= .agg a.toArray/\a6 (a1 w F) cs a
 |av,v=>a1 w F av v
def fK.mono{w w':World}{F F':Nat->Prop}(a: ∀x,F x->F' x)(b: ∀x o,F x->w'.cell? ⟨x,o,none⟩=w.cell? ⟨x,o,none⟩){av:J}{v:Value}(h:fK w F av v):fK w' F' av v:=by
 cases av<;>simp only[fK]at* <;>first|exact h|exact h.mono a b|skip
 obtain⟨c,rfl,h⟩:=h;exact⟨c,rfl,h.imp λ_ _=>a1.mono a b⟩
def kb(w:World)(F:Nat->Prop):J->Value->Prop
 | .dp aa,v=> ∃a:List Value,v= .tuple a.toArray/\a6 (fK w F) aa a
 |av,v=>fK w F av v
def kb.mono{w w':World}{F F':Nat->Prop}(a: ∀x,F x->F' x)(b: ∀x o,F x->w'.cell? ⟨x,o,none⟩=w.cell? ⟨x,o,none⟩){av:J}{v:Value}(h:kb w F av v):kb w' F' av v:=by
 cases av
 case dp aa=>
  obtain⟨us,rfl,c⟩:=h;exact⟨us,rfl,c.imp λ_ _=>fK.mono a b⟩
 all_goals (simp only[kb]at h |-;exact fK.mono a b h)
def q0(b:Nat)(w:World)(F:Nat->Prop):J->Value->Prop
 | .ad _ a n f,v=>(n=0/\v= .slice none 0 0)\/ ∃x c C T,b<=x/\x<w.heap.size/\v= .slice (some ⟨x,0,none⟩) n c/\n<=c/\n<=dz/\w.heap[x]? =some (.cells C T (0,0))/\C.size=c*a/\
   ∀i j,i<n->j<a-> ∃av u,(f i)[j]? =some av/\C[i*a+j]? =some u/\a1 w (λy=>F y/\y≠x) av u
 |av,v=>kb w F av v
structure DJ (w:World) (F:Nat->Prop):Prop where
 lt: ∀x,F x->x<w.heap.size
 v7: ∀g,qi g v8= .undef\/a1 w F (qi g v8) (.pointer (some ⟨g,0,none⟩))
def fo(P:Program)(f:FuncId)(aa:List J)(r:J):Prop:=
 ∀(w:World) (F:Nat->Prop) (a:List Value),DJ w F->a6 (fK w F) aa a->
  Calls P f a.toArray w λe w'=> ∃v,e= .returned v/\q0 w.heap.size w' (λx=>F x\/(w.heap.size<=x/\x<w'.heap.size)) r v/\Below w.heap.size w w'
abbrev Heap:=List (List J)
def I(H:Heap)(b o:Nat):J:=(H.getD b []).getD o .undef
def cr:J->Bool
 | .ad .. =>true
 |_=>false
def pt:J->Bool
 | .undef=>false
 | .ad a _ _ _=> !a
 |_=>true
def ni(H:Heap)(b:Nat):Prop:=(cr (I H b 0)=true/\pt (I H b 0)=true)\/(cr (I H b 0)=false/\ ∃o,pt (I H b o)=true)
def oy{H H':Heap}{b:Nat}(h: ∀o,I H' b o=I H b o)(k:ni H' b):ni H b:=by
 unfold ni at*
 simpa only[h]using k
def uZ(a:Nat->Prop)(B:Nat)(ι:Nat->Option Nat)(H:Heap)(w:World)(x:Nat):Prop:=(a x\/B<=x)/\x<w.heap.size/\ ∀b,ni H b->ι b≠some x
def ja(ι:Nat->Option Nat)(H:Heap)(w:World)(F:Nat->Prop):J->Value->Prop
 | .ptr b o,v=>cr (I H b 0)=false/\ ∃x,ι b=some x/\v= .pointer (some ⟨x,o,none⟩)
 |av,v=>a1 w F av v
def cq(ι:Nat->Option Nat)(H:Heap)(w:World)(F:Nat->Prop):J->Value->Prop
 | .undef,v=>one v=true
 | .gone,v=>one v=true
 | .own b k,v=>one v=true/\ ∃d a n f,I H b 0= .ad d a n f/\k<=n/\(k=n->(∃x c C T,ι b=some x/\v= .slice (some ⟨x,0,none⟩) n c/\n<=c/\w.heap[x]? =some (.cells C T (0,0))/\C.size=c*a)\/
   (n=0/\ι b=none/\v= .slice none 0 0))
 | .ptr b o,v=>cr (I H b 0)=false/\ ∃x,ι b=some x/\v= .pointer (some ⟨x,o,none⟩)
 | .fN b k i o,v=>one v=true/\ ∃d a n f,I H b 0= .ad d a n f/\k<=n/\(k=n-> ∃x,ι b=some x/\v= .pointer (some ⟨x,i*a+o,none⟩))
 | .fn f g,v=> ∃e:List Value,v= .func (.func f) #[] e.toArray/\a6 (ja ι H w F) g e
 | .agg _,_=>False
 | .dp _,_=>False
 | .ad ..,_=>False
 |av,v=>a1 w F av v
def e9(ι:Nat->Option Nat)(H:Heap)(w:World)(F:Nat->Prop)(b o:Nat):J->Prop
 | .undef=>True
 | .ad c a n f=>o=0/\((c=true/\a=0/\ι b=none)\/n<=dz/\((n=0/\ι b=none)\/ ∃x C T,ι b=some x/\w.heap[x]? =some (.cells C T (0,0))/\
   ∀i j,i<n->j<a-> ∃av v,(f i)[j]? =some av/\C[i*a+j]? =some v/\a1 w F av v))
 |av=>cr (I H b 0)=false/\ ∃x v,ι b=some x/\w.cell? ⟨x,o,none⟩=some v/\w.frozen? ⟨x,o,none⟩=false/\cq ι H w F av v
def gw(ι:Nat->Option Nat)(H:Heap)(w:World)(F:Nat->Prop):J->Value->Prop
 | .agg cs,v=> ∃a:List Value,v= .agg a.toArray/\a6 (cq ι H w F) cs a
 | .gone,_=>False
 |av,v=>cq ι H w F av v
def eF(ι:Nat->Option Nat)(H:Heap)(w:World)(F:Nat->Prop):J->Value->Prop
 | .undef,_=>True
 | .gone,v=>v=undef
 | .dp aa,v=> ∃a:List Value,v= .tuple a.toArray/\a6 (gw ι H w F) aa a
 |av,v=>gw ι H w F av v
structure O where
 D:List J
 k:Heap
structure ey (ι:Nat->Option Nat) (H:Heap) (w:World) (F:Nat->Prop) (az:Nat->Option Nat) (H':Heap) (w':World) (F':Nat->Prop):Prop where
 h5: ∀x,F x->F' x
 cell: ∀x o,F x->w'.cell? ⟨x,o,none⟩=w.cell? ⟨x,o,none⟩
 box: ∀b x,ι b=some x->cr (I H b 0)=false->az b=some x/\cr (I H' b 0)=false
 arr: ∀b ro V n f,I H b 0= .ad ro V n f-> ∃ow kG n' fW,I H' b 0= .ad ow kG n' fW/\n<=n'/\
  (n=n'->kG=V/\az b=ι b/\ ∀x C T,ι b=some x->w.heap[x]? =some (.cells C T (0,0))-> ∃kJ:Array Value,w'.heap[x]? =some (.cells kJ T (0,0))/\kJ.size=C.size)
structure iM (pE:Nat->Prop) (B:Nat) (w w':World):Prop where
 os:w'.os=w.os
 tape:w'.tape=w.tape
 output:w'.output=w.output
 size:w.heap.size<=w'.heap.size
 block: ∀k,k<B-> ¬pE k->w'.heap[k]? =w.heap[k]?
def iM.refl(a:Nat->Prop)(B:Nat)(w:World):iM a B w w:=⟨rfl,rfl,rfl,bN _,λ_ _ _=>rfl⟩
def iM.of{a:Nat->Prop}{B:Nat}{w w':World}(h:Below B w w'):iM a B w w':=⟨h.os,h.tape,h.output,h.size,λk b _=>h.block k b⟩
def iM.then{d:Nat->Prop}{B:Nat}{a b c:World}(h:iM d B a b)(k:iM d B b c):iM d B a c:=
 ⟨k.os.trans h.os,k.tape.trans h.tape,k.output.trans h.output,dP h.size k.size,λi e f=>(k.block i e f).trans (h.block i e f)⟩
def iM.trans{d:Nat->Prop}{B:Nat}{a b c:World}(h:iM d B a b)(k:Below B b c):iM d B a c:=h.then (.of k)
def iM.alloc{b:Nat->Prop}{B:Nat}{a w:World}(h:iM b B a w)(c:B<=w.heap.size)(o:Obj):iM b B a (w.alloc o):=
 h.trans ((Below.refl B w).alloc c o)
def iM.setCell{b:Nat->Prop}{B:Nat}{a w:World}(h:iM b B a w){p:Addr}(d:B<=p.block\/b p.block)(u:Value):iM b B a (w.setCell p u):=
 h.then ⟨rfl,rfl,rfl,by simp [World.setCell],λk f c=>Below.heap_setCell _ _ _ _ (λe=>d.elim (λh=>by omega) λh=>c (by rw[e];exact h))⟩
def iM.plain{b:Nat->Prop}{B:Nat}{a w:World}(h:iM b B a w)(d: ∀k,¬b k):Below B a w:=⟨h.os,h.tape,h.output,h.size,λk c=>h.block k c (d k)⟩
structure eb where
 pC:Nat->Prop
 kI:World
 lt: ∀x,pC x->x<kI.heap.size
 pE:Nat->Prop
 aCi: ∀x,pE x->pC x
 jq:Nat->Option Nat
 u0:Heap
 Zw:Nat->Prop
 q8: ∀b x,jq b=some x->b<u0.length
 v7: ∀g,qi g v8= .undef\/a1 kI Zw (qi g v8) (.pointer (some ⟨g,0,none⟩))
structure aY (S:eb) (ι:Nat->Option Nat) (st:O) (a:Act) (w:World):Prop where
 below:iM S.pE S.kI.heap.size S.kI w
 defers:a.defers=[]
 D: ∀(t:Nat) (av:J),st.D[t]? =some av-> ∃v,a.tmps[t]? =some v/\eF ι st.k w (uZ S.pC S.kI.heap.size ι st.k w) av v
 k: ∀b o,e9 ι st.k w (uZ S.pC S.kI.heap.size ι st.k w) b o (I st.k b o)
 inj: ∀b b' x,ι b=some x->ι b'=some x->b=b'
 fresh: ∀b x,ι b=some x->(S.kI.heap.size<=x\/S.pE x)/\x<w.heap.size
 gT: ∀b x,ι b=some x->b<st.k.length
 gW:ey S.jq S.u0 S.kI S.Zw ι st.k w (uZ S.pC S.kI.heap.size ι st.k w)
def aY.own{S:eb}{ι:Nat->Option Nat}{st:O}{a:Act}{w:World}(h:aY S ι st a w){b x:Nat}(c:ι b=some x):S.pC x\/S.kI.heap.size<=x:=
 (h.fresh b x c).1.elim .inr λh=> .inl (S.aCi x h)
def aeR: ∀(g:Nat) (l:List (Nat×List J)),qi g l= .undef\/ ∃cs,qi g l= .ref cs
 |_,[]=> .inl rfl
 |g,x::l=>by
  unfold qi
  cases Nat.beq g x.1
  .exact aeR g l
  .exact .inr ⟨_,rfl⟩
def aY.v7{S:eb}{ι:Nat->Option Nat}{st:O}{a:Act}{w:World}(h:aY S ι st a w)(g:Nat):qi g v8= .undef\/a1 w (uZ S.pC S.kI.heap.size ι st.k w) (qi g v8) (.pointer (some ⟨g,0,none⟩)):=
 (S.v7 g).imp id λk=>k.mono h.gW.h5 h.gW.cell
def aY.R3{S:eb}{ι:Nat->Option Nat}{st:O}{a:Act}{w:World}(h:aY S ι st a w):DJ w (uZ S.pC S.kI.heap.size ι st.k w):=⟨λ_ b=>b.2.1,h.v7⟩
def pack(us:List Value):Value:=if h:us.toArray.size=1 then us.toArray[0]else .tuple us.toArray
def fL(P:Program)(f:FuncId)(aa:List J)(H:Heap)(rs:List J)(H':Heap):Prop:=
 ∀(S:eb) (ι:Nat->Option Nat) (w:World) (a:List Value),S.u0.length<=H.length->a.length=aa.length->aY S ι ⟨aa,H⟩ {tmps:=a.toArray,defers:=[]} w->
  Calls P f a.toArray w λe w'=> ∃us az,e= .returned (pack us)/\us.length=rs.length/\aY S az ⟨rs,H'⟩ {tmps:=us.toArray,defers:=[]} w'
section
variable {ι az:Nat->Option Nat} {H H':Heap} {w w':World} {F F':Nat->Prop}
def ey.refl:ey ι H w F ι H w F:=⟨λ_ h=>h,λ_ _ _=>rfl,λ_ _ h k=>⟨h,k⟩,λ_ a b n f h=>⟨a,b,n,f,h,bN _,λ_=>⟨rfl,rfl,λ_ C _ _ h=>⟨C,h,rfl⟩⟩⟩⟩
def ey.trans{ι az ev:Nat->Option Nat}{H H' kL:Heap}{w w' j:World}{F F' nr:Nat->Prop}(h:ey ι H w F az H' w' F')(k:ey az H' w' F' ev kL j nr):ey ι H w F ev kL j nr:=by
 refine⟨λx a=>k.h5 x (h.h5 x a),λx o a=>(k.cell x o (h.h5 x a)).trans (h.cell x o a),λb x a g=>k.box b x (h.box b x a g).1 (h.box b x a g).2,λb N Q n f B=> ?_⟩;obtain⟨O,R,c,r,t,U,u⟩:=h.arr b N Q n f B;obtain⟨P,S,i,s,E,V,G⟩:=k.arr b O R c r t;refine⟨P,S,i,s,E,Ω,λe=> ?_⟩;have p:n=c:=by omega
 have q:c=i:=by omega
 obtain⟨D,d,v⟩:=u p;obtain⟨M,I,J⟩:=G q;refine⟨M.trans D,I.trans d,λx C T a A=> ?_⟩;obtain⟨l,y,z⟩:=v x C T a A;obtain⟨m,K,L⟩:=J x l T (by rw[d];exact a) y;exact⟨m,K,L.trans z⟩
def ja.step(h:ey ι H w F az H' w' F'){av:J}{v:Value}(k:ja ι H w F av v):ja az H' w' F' av v:=by
 cases av<;>simp only[ja]at* <;>first|exact k.mono h.h5 h.cell|skip
 obtain⟨a,x,b,c⟩:=k;exact⟨(h.box _ _ b a).2,x,(h.box _ _ b a).1,c⟩
def cq.step(h:ey ι H w F az H' w' F'){av:J}{v:Value}(k:cq ι H w F av v):cq az H' w' F' av v:=by
 cases av<;>simp only[cq]at* <;>first|exact k.mono h.h5 h.cell|exact k|skip
 .obtain⟨s,K,L,n,f,a,b,d⟩:=k;obtain⟨t,u,j,o,p,A,q⟩:=h.arr _ _ _ _ _ a;refine⟨s,t,u,j,o,p,Ω,λe=> ?_⟩;have l:n=j:=by omega
  obtain⟨r,m,B⟩:=q l;subst r;rcases d Ω with⟨x,c,C,T,g,i,y,G,I⟩|⟨g,i,y⟩
  .obtain⟨z,D,E⟩:=B x C T g G;exact .inl ⟨x,c,z,T,by rw[m];exact g,by rw[<-l];exact i,Ω,D,by rw[E];exact I⟩
  .exact .inr ⟨Ω,by rw[m];exact i,y⟩
 .obtain⟨a,x,b,d⟩:=k;exact⟨(h.box _ _ b a).2,x,(h.box _ _ b a).1,d⟩
 .obtain⟨s,K,L,n,f,a,b,d⟩:=k;obtain⟨t,u,j,o,p,A,q⟩:=h.arr _ _ _ _ _ a;refine⟨s,t,u,j,o,p,Ω,λe=> ?_⟩;have l:n=j:=by omega
  obtain⟨x,g,i⟩:=d Ω;obtain⟨r,m,_⟩:=q l;subst r;exact⟨x,by rw[m];exact g,i⟩
 .obtain⟨M,a,b⟩:=k;exact⟨M,a,b.imp λ_ _=>ja.step h⟩
def a1.one{av:J}{v:Value}(k:a1 w F av v):one v=true:=by cases k<;>rfl
def cq.one{av:J}{v:Value}(k:cq ι H w F av v):one v=true:=by
 cases av<;>simp only[cq]at k<;>first|exact k|exact k.one|exact k.1|(obtain⟨_,_,_,rfl⟩:=k;rfl)|(obtain⟨_,rfl,_⟩:=k;rfl)
def gw.step(h:ey ι H w F az H' w' F'){av:J}{v:Value}(k:gw ι H w F av v):gw az H' w' F' av v:=by
 cases av<;>simp only[gw]at* <;>first|exact k.step h|skip
 obtain⟨c,a,b⟩:=k;exact⟨c,a,b.imp λ_ _=>cq.step h⟩
def eF.step(h:ey ι H w F az H' w' F'){av:J}{v:Value}(k:eF ι H w F av v):eF az H' w' F' av v:=by
 cases av<;>simp only[eF]at* <;>first|exact gw.step h k|exact k|skip
 obtain⟨c,a,b⟩:=k;exact⟨c,a,b.imp λ_ _=>gw.step h⟩
def e9.step(h:ey ι H w F az H' w' F'){b o:Nat}{av:J}(n:cr av=false->az b=ι b)(m: ∀x,ι b=some x->cr av=false->w'.cell? ⟨x,o,none⟩=w.cell? ⟨x,o,none⟩/\w'.frozen? ⟨x,o,none⟩=w.frozen? ⟨x,o,none⟩)
  (c:cr av=true->az b=ι b/\ ∀x,ι b=some x->w'.heap[x]? =w.heap[x]?) (k:e9 ι H w F b o av):e9 az H' w' F' b o av:=by
 cases av<;>simp only[e9]at* <;>try exact k
 all_goals first
  |(obtain⟨d,x,v,a,e,f,g⟩:=k
    exact⟨(h.box _ _ a d).2,x,v,by rw[n rfl];exact a,by rw[(m x a rfl).1];exact e,by rw[(m x a rfl).2];exact f,cq.step h g⟩)
  |skip
 obtain⟨d,l|⟨t,k⟩⟩:=k
 .exact⟨d,.inl ⟨l.1,l.2.1,by rw[(c rfl).1];exact l.2.2⟩⟩
 refine⟨d,.inr ⟨t,?_⟩⟩;rcases k with k|⟨x,C,T,a,e,f⟩
 .exact .inl ⟨k.1,by rw[(c rfl).1];exact k.2⟩
 .refine .inr ⟨x,C,T,by rw[(c rfl).1];exact a,by rw[(c rfl).2 x a];exact e,λi j p q=> ?_⟩;obtain⟨av,v,g,r,s⟩:=f i j p q;exact⟨av,v,g,r,s.mono h.h5 h.cell⟩
end
def setAt{α:Type}(d:α):List α->Nat->α->List α
 |[],0,x=>[x]
 |[],i+1,x=>d::setAt d [] i x
 |_::aa,0,x=>x::aa
 |a::aa,i+1,x=>a::setAt d aa i x
def qh{α:Type}(d:α)(x:α): ∀(l:List α) (i j:Nat),(setAt d l i x).getD j d=if j=i then x else l.getD j d
 |[],0,0=>by simp [setAt]
 |[],0,j+1=>by simp [setAt]
 |[],i+1,0=>by simp [setAt]
 |[],i+1,j+1=>by simpa[setAt]using qh d x [] i j
 |_::aa,0,0=>by simp [setAt]
 |_::aa,0,j+1=>by simp [setAt]
 |a::aa,i+1,0=>by simp [setAt]
 |a::aa,i+1,j+1=>by simpa[setAt]using qh d x aa i j
def mq{α:Type}(d:α)(x:α): ∀(l:List α) (i:Nat),l.length<=(setAt d l i x).length/\i<(setAt d l i x).length
 |[],0=>by simp [setAt]
 |[],i+1=>by simp [setAt];exact(mq d x [] i).2
 |_::aa,0=>by simp [setAt]
 |a::aa,i+1=>by simp [setAt];exact mq d x aa i
def bI(H:Heap)(b o:Nat)(av:J):Heap:=setAt [] H b (setAt .undef (H.getD b []) o av)
def m7(H:Heap)(b:Nat)(cs:List J):Heap:=setAt [] H b cs
def eZ(H:Heap)(b o:Nat)(av:J)(b' a:Nat):I (bI H b o av) b' a=if b'=b/\a=o then av else I H b' a:=by
 unfold I bI;rw[qh]
 by_cases c:b'=b
 .subst c;rw[a5 rfl,qh]
  by_cases d:a=o<;>simp [d]
 .simp [c]
def GQ(H:Heap)(b:Nat)(cs:List J)(b' a:Nat):I (m7 H b cs) b' a=if b'=b then cs.getD a .undef else I H b' a:=by
 unfold I m7;rw[qh]
 by_cases c:b'=b<;>simp [c]
section
variable {S:eb} {ι:Nat->Option Nat} {st:O} {a:Act} {w:World}
abbrev aT(S:eb)(ι:Nat->Option Nat)(H:Heap)(w:World):Nat->Prop:=uZ S.pC S.kI.heap.size ι H w
def aY.put(h:aY S ι st a w)(d:Nat){av:J}{v:Value}(k:eF ι st.k w (aT S ι st.k w) av v):aY S ι ⟨st.D.set d av,st.k⟩ (a.put (some d) v) w:=by
 refine⟨h.below,h.defers,λt u b=> ?_,h.k,h.inj,h.fresh,h.gT,h.gW⟩
 by_cases j:t=d
 .subst j;rw[uQ]at b;simp only[lp]at b
  split at b
  .rename_i g;simp only[g9]at b;subst b;obtain⟨e,c,_⟩:=h.D t (st.D[t]) (cM g);have i:t<a.tmps.size:=by
    rcases fE t a.tmps.size with h|h
    .exact h
    .simp [O2 h]at c
   exact⟨v,by simp [Act.put,i],k⟩
  .cases b
 .rw[DA Ω]at b;obtain⟨e,c,f⟩:=h.D t u b;exact⟨e,by simp only[Act.put];rw[IM Ω];exact c,f⟩
def aY.world(h:aY S ι st a w){w':World}(d:Below w.heap.size w w'):aY S ι st a w'/\ey ι st.k w (aT S ι st.k w) ι st.k w' (aT S ι st.k w'):=by
 have g:ey ι st.k w (aT S ι st.k w) ι st.k w' (aT S ι st.k w'):=by
  refine⟨λx ⟨i,e,j⟩=>⟨i,gR e d.size,j⟩,λx o ⟨_,e,_⟩=>d.cell e,λ_ _ h k=>⟨h,k⟩,λb q r n f m=>⟨q,_,n,f,m,bN _,λ_=>⟨rfl,rfl,λx C T c l=>⟨C,?_,rfl⟩⟩⟩⟩;rw[d.block x (h.fresh _ _ c).2];exact l
 refine⟨⟨h.below.trans (d.mono h.below.size),h.defers,λt av p=> ?_,λb o=> ?_,h.inj,λb x c=>⟨(h.fresh b x c).1,gR (h.fresh b x c).2 d.size⟩,h.gT,h.gW.trans g⟩,g⟩
 .obtain⟨v,i,e⟩:=h.D t av p;exact⟨v,i,e.step g⟩
 .exact(h.k b o).step g (λ_=>rfl) (λx c _=>⟨d.cell (h.fresh _ _ c).2,d.frozen (h.fresh _ _ c).2⟩) (λ_=>⟨rfl,λx c=>d.block x (h.fresh _ _ c).2⟩)
def cF(ι:Nat->Option Nat)(b:Nat)(x:Nat):Nat->Option Nat:=λk=>if k=b then some x else ι k
def aY.aAO(h:aY S ι st a w)(b:Nat)(H: ∀o,I st.k b o= .undef)(V:ι b=none)(cs:List J)(g:List Value)(T:TypeId)(r:a6 (cq ι st.k w (aT S ι st.k w)) cs g):
  aY S (cF ι b w.heap.size) ⟨st.D,m7 st.k b cs⟩ a (w.alloc (.cells g.toArray T))/\
  ey ι st.k w (aT S ι st.k w) (cF ι b w.heap.size) (m7 st.k b cs) (w.alloc (.cells g.toArray T)) (aT S (cF ι b w.heap.size) (m7 st.k b cs) (w.alloc (.cells g.toArray T)))/\
  cq (cF ι b w.heap.size) (m7 st.k b cs) (w.alloc (.cells g.toArray T)) (aT S (cF ι b w.heap.size) (m7 st.k b cs) (w.alloc (.cells g.toArray T))) (.ptr b 0) (.pointer (some ⟨w.heap.size,0,none⟩)):=by
 have y: ∀b' x,ι b'=some x->b'≠b:=λb' x d e=>by rw[e,V]at d;cases d
 have m: ∀b' o,b'≠b->I (m7 st.k b cs) b' o=I st.k b' o:=λb' o P=>by rw[GQ,aS P]
 have u:cr (I (m7 st.k b cs) b 0)=false:=by
  rw[GQ,a5 rfl]
  cases cs with
  |nil=>rfl
  |cons c cs=>
   cases g with
   |nil=>exact r.elim
   |cons v g=>simp;cases c<;>first|rfl|exact r.1.elim
 have l:ey ι st.k w (aT S ι st.k w) (cF ι b w.heap.size) (m7 st.k b cs) (w.alloc (.cells g.toArray T)) (aT S (cF ι b w.heap.size) (m7 st.k b cs) (w.alloc (.cells g.toArray T))):=by
  refine⟨λx ⟨j,i,F⟩=>⟨j,by simp;omega,λb' K=> ?_⟩,λx o ⟨_,i,_⟩=>World.cell?_alloc_lt w _ (a:=⟨x,o,none⟩) i,λb' x d k=>⟨by simp [cF,y b' x d,d],by rw[m _ _ (y b' x d)];exact k⟩,λb' W Y n f k=> ?_⟩
  .unfold cF
   by_cases e:b'=b
   .simp only[e,lp];intro M;simp at M;omega
   .simp only[e,np];exact F b' (oy (λo=>m b' o e) K)
  .have e:b'≠b:=λe=>by rw[e,H]at k;cases k
   refine⟨W,_,n,f,by rw[m _ _ e];exact k,bN _,λ_=>⟨rfl,by simp [cF,e],λx C X d G=>⟨C,?_,rfl⟩⟩⟩;rw[Below.heap_alloc _ _ _ (h.fresh _ _ d).2];exact G
 refine⟨⟨h.below.alloc h.below.size _,h.defers,λt av R=> ?_,λb' o=> ?_,λA B x j i=> ?_,λb' x d=> ?_,λb' x d=> ?_,h.gW.trans l⟩,l,?_⟩
 .obtain⟨v,j,i⟩:=h.D t av R;exact⟨v,j,i.step l⟩
 .by_cases e:b'=b
  .subst e;rw[GQ,a5 rfl];rcases fE o cs.length with q|q
   .have s:cs[o]? =some cs[o]:=cM q;obtain⟨v,U,z⟩:=r.get o _ s;have L:(w.alloc (.cells g.toArray T)).cell? ⟨w.heap.size,o,none⟩=some v:=by rw[World.cell?_alloc_new];simpa using U
    have N:(w.alloc (.cells g.toArray T)).frozen? ⟨w.heap.size,o,none⟩=false:=by simp
    have Q:=cq.step l z;have p:cs.getD o .undef=cs[o]:=by simp [List.getD,s]
    rw[p];have O:cF ι b' w.heap.size b'=some w.heap.size:=by simp [cF]
    generalize cs[o]=c at*
    cases c<;>simp only[e9]<;>first|trivial|exact⟨u,_,v,O,L,N,Q⟩|exact z.elim
   .have p:cs.getD o .undef= .undef:=by simp [List.getD,eX q]
    rw[p];trivial
  .rw[m _ _ e];refine(h.k b' o).step l (λ_=>by simp [cF,e]) (λx d _=>⟨World.cell?_alloc_lt w _ (a:=⟨x,o,none⟩) (h.fresh _ _ d).2,World.frozen?_alloc_old w _ (a:=⟨x,o,none⟩) (by have:=(h.fresh _ _ d).2;show x≠_;omega)⟩) (λ_=>⟨by simp [cF,e],λx d=>Below.heap_alloc _ _ _ (h.fresh _ _ d).2⟩)
 .unfold cF at j i
  by_cases D:A=b<;>by_cases E:B=b<;>simp only[D,E,lp,np]at j i
  .omega
  .simp at j;have:=(h.fresh _ _ i).2;omega
  .simp at i;have:=(h.fresh _ _ j).2;omega
  .exact h.inj _ _ _ j i
 .unfold cF at d
  by_cases e:b'=b<;>simp only[e,lp,np]at d
  .simp at d;subst d;exact⟨.inl h.below.size,by simp⟩
  .have:=h.fresh _ _ d;exact⟨this.1,by simp;omega⟩
 .unfold cF at d
  by_cases e:b'=b
  .rw[e];exact(mq _ _ _ _).2
  .simp only[e,np]at d;exact gR (h.gT _ _ d) (mq _ _ _ _).1
 .exact⟨u,w.heap.size,by simp [cF],rfl⟩
end
section
variable {S:eb} {ι:Nat->Option Nat} {st:O} {a:Act} {w:World}
def M4{av:J}(h:cr av=true): ∃a b n f,av= .ad a b n f:=by
 cases av<;>first|exact⟨_,_,_,_,rfl⟩|(cases h;done)
def e9.box{b o:Nat}{av:J}{H:Heap}{F:Nat->Prop}(h:e9 ι H w F b o av)(c:av≠ .undef)(a:cr av=false):
  ∃x v,ι b=some x/\w.cell? ⟨x,o,none⟩=some v/\w.frozen? ⟨x,o,none⟩=false/\cq ι H w F av v:=by
 cases av<;>first|exact h.2|exact absurd rfl c|(cases a;done)
def e9.aAK{b o:Nat}{av:J}{H:Heap}{F:Nat->Prop}(h:e9 ι H w F b o av)(c:av≠ .undef)(a:cr av=false):cr (I H b 0)=false:=by
 cases av<;>first|exact h.1|exact absurd rfl c|(cases a;done)
def aj6{av:J}(b:av≠ .undef)(a:cr av=false):pt av=true:=by
 cases av<;>first|rfl|exact absurd rfl b|(cases a;done)
def aY.store(h:aY S ι st a w){b o x:Nat}(i:ι b=some x)(G:I st.k b o≠ .undef)(j:cr (I st.k b 0)=false)(D:cr (I st.k b o)=false)
  {av:J} {v:Value} (H:cq ι st.k w (aT S ι st.k w) av v):
  aY S ι ⟨st.D,bI st.k b o av⟩ a (w.setCell ⟨x,o,none⟩ v)/\ey ι st.k w (aT S ι st.k w) ι (bI st.k b o av) (w.setCell ⟨x,o,none⟩ v) (aT S ι (bI st.k b o av) (w.setCell ⟨x,o,none⟩ v)):=by
 have s:cr av=false:=by cases av<;>first|rfl|exact H.elim
 have F:ni st.k b:= .inr ⟨j,o,aj6 G D⟩;obtain⟨aHb,v0,K,O,Q,_⟩:=(h.k b o).box G D;rw[i]at K;cases K;have E: ∀y p,y≠x->(w.setCell ⟨x,o,none⟩ v).cell? ⟨y,p,none⟩=w.cell? ⟨y,p,none⟩:=λy p c=>World.cell?_setCell_other w _ _ _ (by intro e;cases e;exact c rfl);have V:cr (I (bI st.k b o av) b 0)=false:=by
  rw[eZ];split
  .exact s
  .exact j
 have l:ey ι st.k w (aT S ι st.k w) ι (bI st.k b o av) (w.setCell ⟨x,o,none⟩ v) (aT S ι (bI st.k b o av) (w.setCell ⟨x,o,none⟩ v)):=by
  refine⟨λy ⟨q,r,m⟩=>⟨q,by simpa using r,λb' N=> ?_⟩,λy p ⟨_,_,m⟩=>E y p (λe=>m b F (by rw[i,e])),λb' y c g=>⟨c,?_⟩,λb' L Z n f g=> ?_⟩
  .by_cases e:b'=b
   .rw[e];exact m b F
   .exact m b' (oy (λp=>by rw[eZ,aS (λd=>e d.1)]) N)
  .rw[eZ];split
   .exact s
   .exact g
  .have e:b'≠b:=λe=>by rw[e]at g;rw[g]at j;cases j
   refine⟨L,_,n,f,by rw[eZ,aS (λd=>e d.1)];exact g,bN _,λ_=>⟨rfl,rfl,λy C T c M=>⟨C,?_,rfl⟩⟩⟩;rw[Below.heap_setCell _ _ _ _ (by intro d;exact e (h.inj _ _ _ c (by rw[d];exact i)))];exact M
 refine⟨⟨h.below.setCell (h.fresh _ _ i).1 _,h.defers,λt u Y=> ?_,λb' p=> ?_,h.inj,λb' y c=>⟨(h.fresh _ _ c).1,by simpa using(h.fresh _ _ c).2⟩,λb' y c=>gR (h.gT _ _ c) (mq _ _ _ _).1,h.gW.trans l⟩,l⟩
 .obtain⟨v,q,r⟩:=h.D t u Y;exact⟨v,q,r.step l⟩
 .by_cases e:b'=b/\p=o
  .obtain⟨rfl,rfl⟩:=e;rw[eZ,a5 ⟨rfl,rfl⟩];have k:=cq.step l H;have P:=World.cell?_setCell_same w _ v O;have R:(w.setCell ⟨x,p,none⟩ v).frozen? ⟨x,p,none⟩=false:=by simpa using Q
   cases av<;>first|exact⟨V,x,v,i,P,R,k⟩|trivial|(cases s;done)
  .have U:I (bI st.k b o av) b' p=I st.k b' p:=by rw[eZ,aS e]
   rw[U]
   by_cases z:b'=b
   .subst z;have X:p≠o:=λd=>e ⟨rfl,d⟩
    by_cases A:cr (I st.k b' p)=true
    .obtain⟨L,Z,n,f,g⟩:=M4 A;have B:=h.k b' p;rw[g]at B;have W:p=0:=B.1;rw[W]at g;rw[g]at j;cases j
    .refine(h.k b' p).step l (λ_=>rfl) (λy c _=> ?_) (λg=>absurd g A);rw[i]at c;cases c;exact⟨World.cell?_setCell_other w _ _ _ (by intro d;cases d;exact X rfl),by simp⟩
   .refine(h.k b' p).step l (λ_=>rfl) (λy c _=>⟨E y p (λd=>z (h.inj _ _ _ c (by rw[d];exact i))),by simp⟩) (λ_=>⟨rfl,λy c=>Below.heap_setCell _ _ _ _ (λd=>z (h.inj _ _ _ c (by rw[d];exact i)))⟩)
def avA{a i b j q:Nat}(f:j<a)(g:q<a)(h:b*a+j=i*a+q):b=i/\j=q:=by
 have c:(b*a+j)/a=b:=by rw[uS,Nat.mul_add_div Ω,O0 f,mD]
 have d:(i*a+q)/a=i:=by rw[uS,Nat.mul_add_div Ω,O0 g,mD]
 have e:b=i:=by rw[<-c,<-d,h]
 subst e;exact⟨rfl,Ω⟩
def aY.ajx(h:aY S ι st a w){b x n d i q:Nat}{f:Nat->List J}{C:Array Value}{T:TypeId}(A:ι b=some x)(B:I st.k b 0= .ad false d n f)(V:w.heap[x]? =some (.cells C T (0,0)))(jk:q<d)(ji:i*d+q<C.size){c:J}{v:Value}(dh:a1 w (aT S ι st.k w) c v){g:Nat->List J}
  (auq: ∀j,j<n->g j=bif Nat.beq j i then(f j).set q c else f j) (lN: ∀o j,o<n->j<d-> ∃av u,(f o)[j]? =some av/\C[o*d+j]? =some u/\a1 w (aT S ι st.k w) av u) (jY:n<=dz):
  aY S ι ⟨st.D,bI st.k b 0 (.ad false d n g)⟩ a (w.setCell ⟨x,i*d+q,none⟩ v)/\ey ι st.k w (aT S ι st.k w) ι (bI st.k b 0 (.ad false d n g)) (w.setCell ⟨x,i*d+q,none⟩ v) (aT S ι (bI st.k b 0 (.ad false d n g)) (w.setCell ⟨x,i*d+q,none⟩ v)):=by
 have Y:ni st.k b:= .inl ⟨by rw[B];rfl,by rw[B];rfl⟩;have M: ∀b' r,I (bI st.k b 0 (.ad false d n g)) b' r=if b'=b/\r=0 then .ad false d n g else I st.k b' r:=λb' r=>eZ _ _ _ _ _ _
 have MC:I (bI st.k b 0 (.ad false d n g)) b 0= .ad false d n g:=by rw[M,a5 ⟨rfl,rfl⟩]
 have P: ∀b' r,b'≠b->I (bI st.k b 0 (.ad false d n g)) b' r=I st.k b' r:=λb' r e=>by rw[M,aS (λh=>e h.1)]
 have F: ∀y,y≠x->(w.setCell ⟨x,i*d+q,none⟩ v).heap[y]? =w.heap[y]? :=λy l=>heap_setCell_other w ⟨x,i*d+q,none⟩ y v l;have Z:(w.setCell ⟨x,i*d+q,none⟩ v).heap[x]? =some (.cells (C.setIfInBounds (i*d+q) v) T (0,0)):=heap_setCell_same w x (i*d+q) C T v V;have Cr: ∀b',ni (bI st.k b 0 (.ad false d n g)) b'->ni st.k b':=λb' N=>by
  by_cases e:b'=b
  .rw[e];exact Y
  .exact oy (λcx=>P b' cx e) N
 have m:ey ι st.k w (aT S ι st.k w) ι (bI st.k b 0 (.ad false d n g)) (w.setCell ⟨x,i*d+q,none⟩ v) (aT S ι (bI st.k b 0 (.ad false d n g)) (w.setCell ⟨x,i*d+q,none⟩ v)):=by
  refine⟨λy ⟨H,K,L⟩=>⟨H,by simpa using K,λb' N=>L b' (Cr b' N)⟩,λy p ⟨_,_,L⟩=>World.cell?_of_block (w:=w) (F y (λe=>L b Y (by rw[A,e]))),λb' y l z=>⟨l,?_⟩,λb' ro d n' fW z=> ?_⟩
  .have e:b'≠b:=λe=>by rw[e,B]at z;cases z
   rw[P _ _ e];exact z
  .by_cases e:b'=b
   .subst e;rw[B]at z;cases z;refine⟨false,_,n,g,MC,bN _,λ_=>⟨rfl,rfl,λy D lx l E=> ?_⟩⟩;rw[A]at l;cases l;rw[V]at E;cases E;exact⟨_,Z,by simp⟩
   .exact⟨ro,_,n',fW,by rw[P _ _ e];exact z,bN _,λ_=>⟨rfl,rfl,λy D lx l E=>⟨D,by rw[F y (λs=>e (h.inj _ _ _ l (by rw[s];exact A)))];exact E,rfl⟩⟩⟩
 refine⟨⟨h.below.setCell (h.fresh _ _ A).1 _,h.defers,λt u iC=> ?_,λb' p=> ?_,h.inj,λb' y l=>⟨(h.fresh _ _ l).1,by simpa using(h.fresh _ _ l).2⟩,λb' y l=>gR (h.gT _ _ l) (mq _ _ _ _).1,h.gW.trans m⟩,m⟩
 .obtain⟨v,H,K⟩:=h.D t u iC;exact⟨v,H,K.step m⟩
 .show e9 _ _ _ _ _ _ (I (bI st.k b 0 (.ad false d n g)) b' p);rw[M]
  by_cases e:b'=b/\p=0
  .obtain⟨rfl,rfl⟩:=e;rw[a5 ⟨rfl,rfl⟩];refine⟨rfl,.inr ⟨jY,.inr ⟨x,_,T,A,Z,λo j W X=> ?_⟩⟩⟩;obtain⟨av,u,R,gE,j1⟩:=lN o j W X;rw[auq o W]
   by_cases G:o=i
   .subst G;rw[oC];simp only[aR]
    by_cases U:j=q
    .subst U;have gX:=(il.1 R).1;exact⟨c,v,by rw[List.getElem?_set_self gX],by rw[Array.getElem?_setIfInBounds_self_of_lt ji],dh.mono m.h5 m.cell⟩
    .exact⟨av,u,by rw[DA (λe=>U e.symm)];exact R,by rw[IM Ω];exact gE,j1.mono m.h5 m.cell⟩
   .have atV:Nat.beq o i=false:=by
     cases e:Nat.beq o i with
     |false=>rfl
     |true=>exact absurd (eg e) G
    rw[atV];refine⟨av,u,R,?_,j1.mono m.h5 m.cell⟩;rw[IM (λe=>G (avA X jk e.symm).1)];exact gE
  .rw[aS e]
   by_cases O:b'=b
   .subst O;have k:p≠0:=λs=>e ⟨rfl,s⟩;have Q:=h.k b' p
    cases hC:I st.k b' p<;>rw[hC]at Q
    case undef=>trivial
    case ad=>exact absurd Q.1 k
    all_goals
     have:=Q.1;rw[B]at this;cases this
   .refine(h.k b' p).step m (λ_=>rfl) (λy l _=> ?_) (λ_=>⟨rfl,λy l=>F y (λs=>O (h.inj _ _ _ l (by rw[s];exact A)))⟩);have:=F y (λs=>O (h.inj _ _ _ l (by rw[s];exact A)));exact⟨World.cell?_of_block (w:=w) this,World.frozen?_of_block (w:=w) this⟩
end
inductive sG where
 |bool|string|other
 |int (k:IntKind)
 |slice (e l8 aFC:Nat)
 |pointer (e:Nat)
 |struct (HS:List (Nat×Nat))
 |array (n e l8:Nat)
structure bS where
 size:Nat
 d:sG
 zero:List J
 cmp:Bool:=false
def sG.isAgg:sG->Bool
 | .struct _=>true
 | .array .. =>true
 |_=>false
def ly:J->Value->Prop
 | .int k n,v=>v= .int k n
 | .bool b,v=>v= .bool b
 | .str s,v=>v= .string s/\s.size=0
 | .aG,v=>v= .slice none 0 0
 | .jJ,v=>v= .pointer none
 | .undef,v=>one v=true
 |_,_=>False
def JK:J->J->Bool
 | .int _ a,.int _ b=>a==b
 | .bool a,.bool b=>a==b
 | .str a,.str b=>a.toList==b.toList
 |_,_=>false
def jy:List J->List J->Bool
 |[],[]=>true
 |a::aa,b::c=>JK a b&&jy aa c
 |_,_=>false
def RU:J->J->Bool
 | .int k _,.int a _=>decide (k=a)
 | .bool _,.bool _=>true
 | .str _,.str _=>true
 |_,_=>false
def hN:List J->List J->Bool
 |[],[]=>true
 |a::aa,b::c=>RU a b&&hN aa c
 |_,_=>false
def w5:J->Value->Prop
 | .int k n,v=>v= .int k n
 | .bool b,v=>v= .bool b
 | .str s,v=>v= .string s
 |_,_=>False
def IZ(P:Program)(T:TypeId)(d:List J):Prop:=
 ∀(a:BinOp) (x y:Operand) (cs b:List J) (c us:List Value) (w:World),a= .eql\/a= .neq->hN d cs=true->hN d b=true->a6 w5 cs c->a6 w5 b us->
  (do eqGuard a T x y (.agg c.toArray) (.agg us.toArray);binOp a T (.agg c.toArray) (.agg us.toArray):Sem Value).run P w= .ok (.bool (cond (a== .eql) (jy cs b) (!(jy cs b)))) w
structure gS (P:Program) (T:TypeId) (t:bS):Prop where
 info: ∃i z,P.info? T=some i/\i.size=t.size/\i.zero=some z/\z.cells.size=t.size/\a6 ly t.zero z.cells.toList
 agg: ∃d,P.underlying T=some d/\(t.d.isAgg=true->(match d with| .struct _| .array _ _=>true|_=>false)=true)/\(t.d.isAgg=false->t.size=1/\(match d with| .struct _| .array _ _=>false|_=>true)=true)
 d:match t.d with
  | .bool=>P.underlying T=some .bool
  | .string=>P.underlying T=some .string
  | .int k=>P.underlying T=some (.int k)
  | .slice e l8 mP=>P.underlying T=some (.slice e)/\ ∃i,P.info? e=some i/\i.size=l8/\i.bytes=mP/\i.zero.isSome=true/\ ∀z,i.zero=some z->z.cells.size=i.size
  | .pointer e=>P.underlying T=some (.pointer e)
  | .struct HS=> ∃JY:Array Field,P.underlying T=some (.struct JY)/\JY.toList.mapM (λf=>(P.info? f.type).map λi=>(f.offset,i.size))=some HS/\ ∀(k off V:Nat),HS[k]? =some (off,V)-> ∃f:Field,JY[k]? =some f/\f.offset=off/\ ∃i,P.info? f.type=some i/\i.size=V/\V≠0
  | .array n e l8=>P.underlying T=some (.array n e)/\ ∃i,P.info? e=some i/\i.size=l8
  | .other=>True
 cmp:t.cmp=true->IZ P T t.zero
section
variable {P:Program} {T:TypeId} {t:bS} (w:World)
def run_sizeOf(h:gS P T t):(sizeOf T).run P w= .ok t.size w:=by
 obtain⟨i,z,a,b,_⟩:=h.info;simp [sizeOf,typeInfo,a,b]
def Oy(h:gS P T t):(isAgg T).run P w= .ok t.d.isAgg w:=by
 obtain⟨d,a,c,f⟩:=h.agg
 cases e:t.d.isAgg with
 |true=>
  have b:=c e
  cases d<;>first|(cases b;done)|simp [isAgg,fr a]
 |false=>
  have b:=(f e).2
  cases d<;>simp [isAgg,fr a]at*
def aDg(h:gS P T t): ∃z,(zeroValue T).run P w= .ok z w/\a6 ly t.zero z.cells.toList/\z.cells.size=t.size:=by
 obtain⟨i,z,a,e,b,c,d⟩:=h.info;exact⟨z,by simp [zeroValue,typeInfo,a,b],d,c⟩
def sK(b:Bool)(a:List Value):Value:=if b then .agg a.toArray else a.headD undef
def aDc(h:gS P T t)(x o:Nat)(b:List Value)(a:b.length=t.size)(c: ∀(j:Nat) v,b[j]? =some v->w.cell? ⟨x,o+j,none⟩=some v):
  (loadVar T ⟨x,o,none⟩).run P w= .ok (sK t.d.isAgg b) w:=by
 have g: ∀j:Nat,(Addr.add ⟨x,o,none⟩ j)=⟨x,o+j,none⟩:=λj=>Addr.add_lit x o j
 cases e:t.d.isAgg with
 |true=>
  have:=OZ (P:=P) w ⟨x,o,none⟩ b (λj v i=>by rw[g];exact c j v i);rw[a]at this;simp [loadVar,Oy w h,e,run_sizeOf w h,this,sK]
 |false=>
  obtain⟨d,_,_,f⟩:=h.agg;have k:=(f e).1
  match b,a with
  |[],a=>simp at a;omega
  |[v],_=>
   have:=c 0 v rfl;simp only[mD]at this;simp [loadVar,Oy w h,e,sK,this]
  |_::_::_,a=>simp at a;omega
end
section
variable {P:Program} {S:eb} {ι:Nat->Option Nat} {st:O} {a:Act} {w:World}
def qk(H:Heap)(b:Nat):List J->Nat->Heap
 |[],_=>H
 |c::cs,o=>qk (bI H b o c) b cs (o+1)
def ai_(w:World)(p:Addr){v u:Value}(a:one v=true)(b:w.cell? p=some u)(c:w.frozen? p=false):(Go.store p v).run P w= .ok () (w.setCell p v):=by
 cases v<;>first|(cases a;done)|simp [Go.store,Sem.run,b,c]
def aY.ajy{b x fY:Nat}(k:ι b=some x): ∀(cs:List J) (e:List Value) (i:Nat) (st:O) (w:World),aY S ι st a w->cr (I st.k b 0)=false->
  (∀j,j<cs.length->I st.k b (fY+i+j)≠ .undef/\cr (I st.k b (fY+i+j))=false)->a6 (cq ι st.k w (aT S ι st.k w)) cs e->
  ∃w',(storeCells ⟨x,fY,none⟩ e i).run P w= .ok () w'/\aY S ι ⟨st.D,qk st.k b cs (fY+i)⟩ a w'/\ey ι st.k w (aT S ι st.k w) ι (qk st.k b cs (fY+i)) w' (aT S ι (qk st.k b cs (fY+i)) w')
 |[],[],i,st,w,h,_,_,_=>⟨w,by simp [storeCells],h,ey.refl⟩
 |[],_::_,_,_,_,_,_,_,d=>d.elim
 |_::_,[],_,_,_,_,_,_,d=>d.elim
 |c::cs,v::e,i,st,w,h,l,m,d=>by
  obtain⟨f,g⟩:=m 0 (by simp);simp only[mD]at f g;obtain⟨q,o⟩:=h.store k f l g d.1;obtain⟨D,C,n,t,y,_⟩:=(h.k b (fY+i)).box f g;rw[k]at n;cases n;have u:cr c=false:=by cases c<;>first|rfl|exact d.1.elim
  have p:cr (I (bI st.k b (fY+i) c) b 0)=false:=by rw[eZ];split;exact u;exact l
  obtain⟨w',r,s,A⟩:=aY.ajy (fY:=fY) k cs e (i+1) ⟨st.D,bI st.k b (fY+i) c⟩ _ q p (λj B=>by
   rw[eZ,aS Ω];have:=m (j+1) (by simp;omega);rwa [show fY+i+(j+1)=fY+(i+1)+j by omega]at this) (d.2.imp λ_ _=>cq.step o)
  refine⟨w',?_,s,o.trans A⟩;have z:=ai_ (P:=P) w ⟨x,fY+i,none⟩ (cq.one d.1) t y;simp only[storeCells,Sem.run_bind,Addr.add_lit,z,Result.andThen];exact r
end
def de(b:Bool)(p:Prop):Prop:=
 match b with
 |true=>p
 |false=>False
def aF{b:Bool}{p:Prop} :de b p↔b=true/\p:=by cases b<;>simp [de]
def ou(a:Option Prop)(p:Prop):Prop:=
 match a with
 |none=>p
 |some q=>q/\p
def qy{a:Option Prop}{p:Prop} :ou a p↔ou a True/\p:=by cases a<;>simp [ou]
def l1(P:Program)(f:FuncId):Prop:= ∃a c,P.funcs[f]? =some a/\a.body=some c/\(a.name== "runtime.NumGoroutine")=false
structure Env where
 P:Program
 ty:TypeId->Option bS
 spec:FuncId->List J->Option (Option Prop×J)
 /--aFk many blocks have aFs handed on to ba function iW is looked at. -/
 m:Nat:=0
 /--dW aV do iW Aj handed boxes. -/
 oi:FuncId->List J->Heap->Option (Option Prop×List J×Heap):=λ_ _ _=>none
 /--aFp aV Aj handed lk of ba aaK own,or hand ajp back. -/
 eA:FuncId->Bool:=λ_=>false
structure Env.dE (E:Env):Prop where
 ty: ∀T t,E.ty T=some t->gS E.P T t
 mixed:E.P.follows .mixedOrders=true
 spec: ∀f args pre r,E.spec f args=some (pre,r)->l1 E.P f/\(ou pre True->fo E.P f args r)
 oi: ∀f args H pre rs H',E.oi f args H=some (pre,rs,H')->l1 E.P f/\(ou pre True->fL E.P f args H rs H')
def Ry:Value->J
 | .int k n=> .int k n
 | .bool b=> .lit b
 | .string s=>match Nat.ble s.size dz with
   |true=> .str s
   |false=> .undef
 | .slice none 0 0=> .aG
 |_=> .undef
def aE(a:List J):Operand->J
 | .tmp t=>a.getD t .undef
 | .const v=>Ry v
 | .func f=> .fn f []
 | .global g=>qi g v8
abbrev b5:=List (Nat×Nat×J)
def bJ(H:Heap):b5->Heap
 |[]=>H
 |(b,o,av)::r=>bJ (bI H b o av) r
def h3(b:Nat):List J->Nat->b5
 |[],_=>[]
 |c::cs,o=>(b,o,c)::h3 b cs (o+1)
def MT(b:Nat): ∀(cs:List J) (o:Nat) (H:Heap),bJ H (h3 b cs o)=qk H b cs o
 |[],_,_=>rfl
 |c::cs,o,H=>by simp [h3,bJ,qk,MT b cs]
def cellsOf:J->List J
 | .agg cs=>cs
 |av=>[av]
def oA:J->Bool
 | .undef| .gone| .dp _| .ad .. =>false
 |_=>true
def xd:J->Bool
 | .undef| .ad .. =>false
 |_=>true
def kP(H:Heap)(b o n:Nat):List J:=(List.range n).map λj=>I H b (o+j)
def pH:Bool->List J->J
 |true,cs=> .agg cs
 |false,cs=>match cs.headD .undef with
  | .gone=> .undef
  |c=>c
def H4(c:Bool)(x y:J)(K:J->Prop):Prop:=
 match c with
 |true=>K x
 |false=>K y
def CF(a:Bool)(av:J)(K:J->Prop):Prop:=
 match a with
 |true=>match av with
  | .bool b=>(b=true->K (.lit true))/\(b=false->K (.lit false))
  |av=>K av
 |false=>K av
def HJ:J->J
 | .lit b=> .bool b
 |av=>av
def eT:J->J
 | .agg cs=> .agg (cs.map HJ)
 |av=>HJ av
def oq(t:bS)(H:Heap)(x:J)(K:J->Prop):Prop:=
 match x with
 | .ptr b o=>de ((kP H b o t.size).all xd) (K (pH t.d.isAgg (kP H b o t.size)))
 | .ref cs=>de (decide (t.size<=cs.length)) (K (pH t.d.isAgg (cs.take t.size)))
 | .fN b k i o=>match I H b 0 with
   | .ad _ a n f=>k=n/\i<n/\de (decide (o+t.size<=a)) (K (pH t.d.isAgg (((f i).drop o).take t.size)))
   |_=>False
 |_=>False
def ny:J->Bool
 | .int .. | .bool _| .str _| .aG| .arr .. | .ref _=>true
 |_=>false
def aaM:J->Bool
 | .ptr .. =>true
 |x=>ny x
def oQ:J->Bool
 | .int .. | .bool _| .str _| .aG| .arr .. | .ref _=>true
 | .fn _ a=>a.all ny
 |_=>false
def AS:J->Bool
 | .agg cs=>cs.all oQ
 |av=>oQ av
def r4(cs:List J):List J->Nat->List J
 |[],_=>cs
 |c::r,o=>r4 (cs.set o c) r (o+1)
def OP(f:Nat->List J)(i o:Nat)(cs:List J)(j:Nat):List J:=bif Nat.beq j i then r4 (f j) cs o else f j
def Oa:J->Bool
 | .int .. | .bool _| .str _=>true
 |_=>false
def uJ(t:bS)(H:Heap)(x v:J)(K:b5->Prop):Prop:=
 match x with
 | .ptr b o=>de (oA v&&decide ((cellsOf v).length=t.size)&&(kP H b o t.size).all xd&& !(cr (I H b 0))) (K (h3 b (cellsOf v) o))
 | .fN b k i o=>match I H b 0 with
   | .ad c a n f=>de (!c&&decide (o+t.size<=a)&&oA (eT v)&&decide ((cellsOf (eT v)).length=t.size)&&(cellsOf (eT v)).all oQ&& !((cellsOf (eT v)).isEmpty))
     (k=n/\i<n/\ ∃h:Nat->List J,(∀j,j<n->OP f i o (cellsOf (eT v)) j=h j)/\K [(b,0,.ad false a n h)])
   |_=>False
 |_=>False
def sV(t:bS)(H:Heap)(f:Nat)(x:J)(K:J->Prop):Prop:=
 match t.d with
 | .struct c=>match c[f]? with
   |some (a,_)=>match x with
    | .ptr b o=>K (.ptr b (o+a))
    | .ref cs=>K (.ref (cs.drop a))
    | .fN b k i o=>match I H b 0 with
      | .ad _ _ n _=>k=n/\K (.fN b k i (o+a))
      |_=>False
    |_=>False
   |none=>False
 |_=>False
def tW(t:bS)(H:Heap)(x i:J)(K:J->Prop):Prop:=
 match t.d with
 | .slice _ a _=>match i with
   | .int _ z=>match x with
     | .arr c n f=>de (decide (c=a)) ((0<=z/\z<n)/\K (.ref ((f z.toNat).take c)))
     | .own b k=>match I H b 0 with
       | .ad _ c n _=>de (decide (c=a)) (k=n/\(0<=z/\z<n)/\K (.fN b k z.toNat 0))
       |_=>False
     |_=>False
   |_=>False
 | .array n _ a=>match i with
   | .int _ z=>match x with
     | .ptr b o=>de (decide (0<=z)&&decide (z<n)) (K (.ptr b (o+z.toNat*a)))
     | .ref cs=>de (decide (0<=z)&&decide (z<n)) (K (.ref (cs.drop (z.toNat*a))))
     |_=>False
   |_=>False
 |_=>False
def wj(E:TypeId->Option bS)(t:bS)(x i:J)(K:J->Prop):Prop:=
 match t.d with
 | .array n e a=>match i with
   | .int _ z=>match x with
     | .agg cs=>match E e with
       |some u=>de (decide (0<=z)&&decide (z<n)&&decide (u.size=a)&&decide (z.toNat*a+a<=cs.length)) (K (pH u.d.isAgg ((cs.drop (z.toNat*a)).take a)))
       |none=>False
     |_=>False
   |_=>False
 |_=>False
def wo(c:BinOp)(k:IntKind)(a b:Int)(K:J->Prop):Prop:=
 match c with
 | .add=>K (.int k (k.wrap (a+b)))
 | .sub=>K (.int k (k.wrap (a-b)))
 | .mul=>K (.int k (k.wrap (a*b)))
 | .eql=>K (.bool (a==b))
 | .neq=>K (.bool (a !=b))
 | .lss=>K (.bool (decide (a<b)))
 | .leq=>K (.bool (decide (a<=b)))
 | .gtr=>K (.bool (decide (a>b)))
 | .geq=>K (.bool (decide (a>=b)))
 | .quo=>b≠0/\K (.int k (k.wrap (a.tdiv b)))
 | .rem=>b≠0/\K (.int k (a.tmod b))
 | .and=>K (.int k (bits .and k a b))
 | .or=>K (.int k (bits .or k a b))
 |_=>False
def M6:BinOp->Bool
 | .shl| .shr=>true
 |_=>false
def OG(c:BinOp)(k:IntKind)(a b:Int)(K:J->Prop):Prop:=
 (0<=b/\b<=k.bits)/\match c with
  | .shl=>K (.int k (k.wrap (a*2^b.toNat)))
  | .shr=>K (.int k (a/2^b.toNat))
  |_=>False
def pJ(t:bS)(c:BinOp)(x y:J)(K:J->Prop):Prop:=
 match x,y with
 | .int k a,.int e b=>match M6 c with
   |true=>OG c k a b K
   |false=>de (decide (k=e)) (wo c k a b K)
 | .bool a,.bool b=>match t.d with
   | .bool=>match c with
     | .eql=>K (.bool (a==b))
     | .neq=>K (.bool (!(a==b)))
     |_=>False
   |_=>False
 | .str a,.str b=>match c with
   | .eql=>K (.bool (a.toList==b.toList))
   | .neq=>K (.bool (!(a.toList==b.toList)))
   | .leq=>K (.bool (Op.bytesLess a.toList b.toList||a.toList==b.toList))
   | .gtr=>K (.bool (!(Op.bytesLess a.toList b.toList||a.toList==b.toList)))
   | .lss=>K (.bool (Op.bytesLess a.toList b.toList))
   | .geq=>K (.bool (!Op.bytesLess a.toList b.toList))
   | .add=>a.size+b.size<=dz/\K (.str (a++b))
   |_=>False
 | .agg cs,.agg d=>de (t.cmp&&hN t.zero cs&&hN t.zero d) (match c with
   | .eql=>K (.bool (jy cs d))
   | .neq=>K (.bool (!(jy cs d)))
   |_=>False)
 |_,_=>False
def zQ(a:UnOp)(x:J)(K:J->Prop):Prop:=
 match a,x with
 | .not,.bool b=>K (.bool (!b))
 | .not,.lit b=>K (.lit (!b))
 | .neg,.int k n=>K (.int k (k.wrap (0-n)))
 |_,_=>False
def nw(c:List (Nat×Nat))(a:List J):List (Nat×Operand)->List J->(List J->Prop)->Prop
 |[],cs,K=>K cs
 |(i,x)::r,cs,K=>match c[i]? with
  |some (b,d)=>de (oA (aE a x)&&decide ((cellsOf (aE a x)).length=d)&&decide (b+d<=cs.length)) (nw c a r (r4 cs (cellsOf (aE a x)) b) K)
  |none=>False
def qs(H:Heap)(x:J)(K:J->Prop):Prop:=
 match x with
 | .arr _ n _=>K (.int .i64 n)
 | .aG=>K (.int .i64 0)
 | .str s=>K (.int .i64 s.size)
 | .own b k=>match I H b 0 with
   | .ad _ _ n _=>k=n/\K (.int .i64 n)
   |_=>False
 |_=>False
def iR(H:Heap)(x:J)(K:J->Prop):Prop:=
 match x with
 | .own b k=>match I H b 0 with
   | .ad _ a n f=>k=n/\K (.arr a n f)
   |_=>False
 | .lit b=>K (.bool b)
 |av=>de (oQ av) (K av)
def l9(H:Heap):List J->(List J->Prop)->Prop
 |[],K=>K []
 |x::r,K=>iR H x λy=>l9 H r λa=>K (y::a)
def kR(H:Heap)(x:J)(K:J->Prop):Prop:=
 match x with
 | .agg cs=>l9 H cs λa=>K (.agg a)
 |av=>iR H av K
def mQ(H:Heap):List J->(List J->Prop)->Prop
 |[],K=>K []
 |x::r,K=>kR H x λy=>mQ H r λa=>K (y::a)
def Yv:J->Bool
 | .int .. | .bool _| .str _=>true
 |_=>false
def Yw:J->Bool
 | .agg cs=>cs.all Yv
 |av=>Yv av
def Db:J->Bool
 | .dp a=>a.all Yw
 |av=>Yw av
def uD(H:Heap):J->b5
 | .own b _=>match I H b 0 with
   | .ad _ a n f=>[(b,0,.ad true a n f)]
   |_=>[]
 |_=>[]
def Da(H:Heap):J->b5
 | .agg cs=>cs.flatMap (uD H)
 |av=>uD H av
def eO(H:Heap)(l:List J):b5:=l.flatMap (Da H)
def uC(aC:Nat)(r:J)(a:b5)(K:J->b5->Prop):Prop:=
 match r with
 | .ad _ b n f=>K (.own aC n) (a++[(aC,0,.ad false b n f)])
 |r=>K r a
def ox(H:Heap)(r:J)(aa:List J):b5:=
 match Db r||aa.all AS with
 |true=>[]
 |false=>eO H aa
def va(E:Env)(H:Heap)(aC:Nat)(f:FuncId)(a:List J)(K:J->b5->Prop):Prop:=
 mQ H (a.map eT) λb=>match E.spec f b with
  |some (c,r)=>ou c (uC aC r (ox H r (a.map eT)) K)
  |none=>False
def AL(i:Nat)(x:J)(K:J->Prop):Prop:=
 match x with
 | .dp a=>de (decide (i<a.length)) (K (a.getD i .undef))
 |_=>False
def w_(s:ByteArray)(i:Nat):List J:=[.int .u8 ((s.data.toList.getD i 0).toNat:Int)]
def nk(H:Heap)(a:Bool)(c:Nat)(y:J)(K:Nat->(Nat->List J)->Prop):Prop:=
 match y with
 | .aG=>de (!a) (K 0 λ_=>[])
 | .arr d n f=>de (!a&&decide (d=c)) (K n f)
 | .str s=>de (a&&decide (c=1)) (K s.size (w_ s))
 | .own b k=>match I H b 0 with
   | .ad _ d n f=>de (!a&&decide (d=c)) (k=n/\K n f)
   |_=>False
 |_=>False
def h2(n:Nat)(f g:Nat->List J)(i:Nat):List J:=bif Nat.blt i n then f i else g (i-n)
def oI(t:bS)(j:Bool)(H:Heap)(aC:Nat)(x y:J)(K:J->b5->Prop):Prop:=
 match t.d with
 | .slice _ a d=>de (Nat.ble d 256&&Nat.blt 0 a) (nk H j a y λm g=>match x with
   | .aG=>m<=dz/\K (.own aC m) [(aC,0,.ad false a m g)]
   | .own b k=>match I H b 0 with
     | .ad e c n f=>de (!e&&decide (c=a)) (k=n/\n+m<=dz/\ ∃h:Nat->List J,(∀i,i<n+m->h2 n f g i=h i)/\K (.own b (n+m)) [(b,0,.ad false a (n+m) h)])
     |_=>False
   | .ke c n f=>de (decide (c=a)) (0<m/\n+m<=dz/\ ∃h:Nat->List J,(∀i,i<n+m->h2 n f g i=h i)/\K (.own aC (n+m)) [(aC,0,.ad false a (n+m) h)])
   |_=>False)
 |_=>False
def WU(x y:J):Prop:=x=y\/(x= .aG/\ ∃a h,y= .arr a 0 h)
def kA:List J->List J->Prop
 |[],[]=>True
 |x::a,y::b=>WU x y/\kA a b
 |_,_=>False
def zr: ∀l:List J,kA l l
 |[]=>trivial
 |_::l=>⟨.inl rfl,zr l⟩
def N0: ∀{b c:List J} (j:Nat) (x:J),kA b c->b[j]? =some x-> ∃y,c[j]? =some y/\WU x y
 |[],[],_,_,_,h=>by simp at h
 |x::b,y::c,0,z,h,a=>by
  simp at a;subst a;exact⟨y,rfl,h.1⟩
 |x::b,y::c,j+1,z,h,a=>by simpa using N0 j z h.2 (by simpa using a)
 |[],_::_,_,_,h,_=>h.elim
 |_::_,[],_,_,h,_=>h.elim
def WV{w:World}{F:Nat->Prop}{x y:J}{v:Value}(h:WU x y)(k:a1 w F x v):a1 w F y v:=by
 rcases h with rfl|⟨rfl,a,g,rfl⟩
 .exact k
 .cases k;exact .nil a g
def acq:J->Bool
 | .own .. =>true
 |x=>oQ x
def nF(H:Heap):List (List J)->(List (List J)->Prop)->Prop
 |[],K=>K []
 |l::r,K=>l9 H l λy=>nF H r λa=>K (y::a)
def lh(b:Nat)(a:List J):List (Nat×Operand)->Nat->Option (List (List J))
 |[],_=>some []
 |(i,x)::r,k=>match Nat.beq i k&&(oA (eT (aE a x))&&Nat.beq (cellsOf (eT (aE a x))).length b&&(cellsOf (eT (aE a x))).all acq)with
  |true=>match lh b a r (k+1)with
   |some l=>some (cellsOf (eT (aE a x))::l)
   |none=>none
  |false=>none
def q5(t:bS)(e:List J)(H:Heap)(aC a:Nat)(d:List (Nat×Operand))(K:J->b5->Prop):Prop:=
 match t.d with
 | .slice _ b _=>match lh b e d 0 with
   |some l=>de (Nat.beq l.length a&&Nat.ble a 4096&&Nat.ble b 4096&&Nat.blt 0 b) (nF H l λc=> ∃h:Nat->List J,(∀i,i<a->kA (c.getD i []) (h i))/\K (.own aC a) (eO H l.flatten++[(aC,0,.ad false b a h)]))
   |none=>False
 |_=>False
def r7(E:Env)(t:bS)(d:List J)(aC:Nat)(l c:Operand)(K:J->b5->Prop):Prop:=
 match t.d with
 | .slice e a f=>match E.ty e with
   |some b=>match aE d l with
    | .int _ z=>match aE d c with
      | .int _ g=>de (b.zero.all Oa&&Nat.beq b.zero.length a&&Nat.ble a 4096&&Nat.ble f 4096&&Nat.blt 0 a) ((z=g/\0<=z/\z<=4096)/\K (.own aC z.toNat) [(aC,0,.ad false a z.toNat λ_=>b.zero)])
      |_=>False
    |_=>False
   |none=>False
 |_=>False
def cV(a:List J)(d:Int)(o:Option Operand)(K:Int->Prop):Prop:=
 match o with
 |none=>K d
 |some x=>match aE a x with
  | .int _ z=>K z
  |_=>False
def kO(m:Option Operand)(a:Nat):Bool:=
 match m with
 |some _=>Nat.blt 1 a
 |none=>false
def uv(c:Bool)(a k:Nat)(g:Nat->List J):J:=
 match c with
 |true=> .ke a k g
 |false=> .arr a k g
def si(t:bS)(H:Heap)(d:List J)(x:J)(l h m:Option Operand)(K:J->b5->Prop):Prop:=
 de (h.isSome|| !(m.isSome)) (match t.d with
 | .slice _ j _=>match x with
   | .arr e n f=>de (decide (e=j)) (cV d 0 l λc=>cV d n h λa=>cV d a m λg=>
     ((0<=c/\c<=a/\a<=g/\g<=n)/\(kO m e=true->a=g))/\K (uv (kO m e) e (a-c).toNat λi=>f (c.toNat+i)) [])
   | .aG=>cV d 0 l λc=>cV d 0 h λa=>cV d a m λg=>(c=0/\a=0/\g=0)/\K .aG []
   | .own b k=>match I H b 0 with
     | .ad o e n f=>de (decide (e=j)) (k=n/\cV d 0 l λc=>cV d n h λa=>cV d a m λg=>
       ((0<=c/\c<=a/\a<=g/\g<=n)/\(kO m e=true->a=g))/\K (uv (kO m e) e (a-c).toNat λi=>f (c.toNat+i)) [(b,0,.ad true e n f)])
     |_=>False
   |_=>False
 | .string=>match x with
   | .str s=>match m with
     |none=>cV d 0 l λc=>cV d s.size h λa=>(0<=c/\c<=a/\a<=s.size)/\K (.str (s.extract c.toNat a.toNat)) []
     |some _=>False
   |_=>False
 |_=>False)
def ajV:J->Nat
 | .int _ z=>z.toNat
 |_=>0
def Hh:J->Bool
 | .int .u8 _=>true
 |_=>false
def bytesOf(n:Nat)(f:Nat->List J):ByteArray:=⟨((List.range n).map λi=>UInt8.ofNat (ajV ((f i).getD 0 .undef))).toArray⟩
def oJ(t:bS)(b:Option bS):Bool:=
 match t.d with
 | .slice _ a _=>Nat.beq a 1&&(match b with
   |some c=>match c.d with
    | .int .u8=>true
    |_=>false
   |none=>false)
 |_=>false
def sG.isStr:sG->Bool
 | .string=>true
 |_=>false
def sG.tY:sG->Bool
 | .slice .. =>true
 |_=>false
def sO(t u:bS)(a:Option bS)(H:Heap)(x:J)(K:J->Prop):Prop:=
 match x with
 | .int _ z=>match u.d with
   | .int k=>match t.d with
     | .int _=>K (.int k (k.wrap z))
     |_=>False
   |_=>False
 | .str s=>match t.d with
   | .string=>match u.d with
     | .string=>K (.str s)
     |_=>de (oJ u a) (K (.arr 1 s.size (w_ s)))
   |_=>False
 | .arr c n f=>de (u.d.isStr&&oJ t a&&Nat.beq c 1) ((∀i,i<n->Hh ((f i).getD 0 .undef)=true)/\K (.str (bytesOf n f)))
 | .aG=>de (u.d.isStr&&oJ t a) (K (.str ⟨#[]⟩))
 | .own b d=>match I H b 0 with
   | .ad _ c n f=>de (u.d.isStr&&oJ t a&&Nat.beq c 1) (d=n/\(∀i,i<n->Hh ((f i).getD 0 .undef)=true)/\K (.str (bytesOf n f)))
   |_=>False
 |_=>False
def zk(x y:J)(K:J->Prop):Prop:=
 match x,y with
 | .int k a,.int c b=>de (decide (k=c)) (K (.int k (cond (decide (b<a)) b a)))
 |_,_=>False
def zi(x y:J)(K:J->Prop):Prop:=
 match x,y with
 | .int k a,.int c b=>de (decide (k=c)) (K (.int k (cond (decide (b>a)) b a)))
 |_,_=>False
section
variable {E:Env} {S:eb} {ι:Nat->Option Nat} {st:O} {a:Act} {w:World}
abbrev bz(S:eb)(ι:Nat->Option Nat)(H:Heap)(w:World):J->Value->Prop:=eF ι H w (aT S ι H w)
abbrev eE(S:eb)(ι:Nat->Option Nat)(H:Heap)(w:World):J->Value->Prop:=cq ι H w (aT S ι H w)
def apn{H:Heap}{F:Nat->Prop}(v:Value):eF ι H w F (Ry v) v:=by
 unfold Ry
 split
 .exact a1.int _ _
 .exact a1.lit _
 .split
  .rename_i a;exact a1.str _ (g8 a)
  .trivial
 .exact a1.aG
 .trivial
def aY.eval(h:aY S ι st a w)(x:Operand):bz S ι st.k w (aE st.D x) (a.eval x):=by
 cases x with
 |tmp t=>
  simp only[aE,Act.eval]
  cases e:st.D[t]? with
  |none=>simp only[List.getD,e];trivial
  |some av=>
   obtain⟨v,b,c⟩:=h.D t av e;have:a.tmps.getD t undef=v:=by simp [IN,b]
   rw[this];simp only[List.getD,e];exact c
 |const v=>exact apn v
 |global g=>
  simp only[aE,Act.eval];rcases aeR g v8 with e|⟨cs,e⟩
  .rw[e];trivial
  .rcases h.v7 g with k|k
   .rw[k]at e;cases e
   .rw[e]at k |-;exact k
 |func f=>exact⟨[],rfl,trivial⟩
def ja.CU{H:Heap}{F:Nat->Prop}{av:J}{v:Value}(h:a1 w F av v):ja ι H w F av v:=by
 cases h<;>simp only[ja]<;>constructor<;>assumption
def cq.CU{H:Heap}{F:Nat->Prop}{av:J}{v:Value}(h:a1 w F av v):cq ι H w F av v:=by
 cases h with
 |int k n=>exact .int k n
 |bool b=>exact .bool b
 |lit b=>exact .lit b
 |str s r=>exact .str s r
 |aG=>exact .aG
 |jJ=>exact .jJ
 |ke d n f p c h D=>exact a1.ke d n f p c h D
 |nil d f=>exact .nil d f
 |mt d f a c=>exact .mt d f a c
 |arr d n f b o c g m G r q e j l=>exact .arr d n f b o c g m G r q e j l
 |ref cs b o g m q e j l=>exact .ref cs b o g m q e j l
 |fn f A m g u E e j l=>
  refine⟨m,rfl,a6.mk E.symm λi x y z I=>ja.CU ?_⟩;have t:i<A.length:=by
   rcases fE i A.length with h|h
   .exact h
   .rw[eX h]at z;cases z
  have B:=e i t;have C:=j i t;rw[z]at B;rw[I]at C
  cases B;cases C
  exact l i t
def cq.q_{H:Heap}{F:Nat->Prop}{av:J}{v:Value}(h:cq ι H w F av v)(k:oQ av=true):a1 w F av v:=by
 cases av<;>first|exact h|(cases k;done)|skip
 rename_i f a;obtain⟨d,rfl,e⟩:=h;have o:=e.length;refine .fn f a d (λj=>a.getD j .undef) (λj=>d.getD j undef) o.symm (λj b=>by simp [List.getD,cM b]) (λj b=>by simp [List.getD,cM (show j<d.length by omega)]) λj b=> ?_;obtain⟨v,l,g⟩:=e.get j a[j] (cM b);have m:a.getD j .undef=a[j]:=by simp [List.getD,cM b]
 have n:d.getD j undef=v:=by simp [List.getD,l]
 rw[m,n];have i:=dK.1 k a[j] (j8 b);generalize a[j]=c at g i
 cases c<;>first|(cases i;done)|exact g
def eF.q_{H:Heap}{F:Nat->Prop}{av:J}{v:Value}(h:eF ι H w F av v)(a:AS av=true):fK w F av v:=by
 cases av
 case agg cs=>
  obtain⟨g,rfl,b⟩:=h;refine⟨g,rfl,a6.mk b.length λi x y c f=> ?_⟩;obtain⟨j,d,e⟩:=b.get i x c;rw[f]at d;cases d;exact cq.q_ e (dK.1 a x (ft c))
 case undef=>cases a
 case gone=>cases a
 case dp=>cases a
 case ad=>cases a
 all_goals exact cq.q_ (show cq ι H w F _ _ from h) a
def a1.ahT{F:Nat->Prop}{v:Value}(h:a1 w F .gone v):False:=by cases h
def gw.N3{H:Heap}{F:Nat->Prop}{av:J}{v:Value}(h:fK w F av v):gw ι H w F av v:=by
 cases av
 case agg cs=>
  obtain⟨b,rfl,a⟩:=h;exact⟨b,rfl,a.imp λ_ _=>cq.CU⟩
 case undef=>exact h.elim
 case gone=>exact(a1.ahT h).elim
 all_goals exact(cq.CU (ι:=ι) (H:=H) (show a1 w F _ _ from h):cq ι H w F _ _)
def eF.zu{H:Heap}{F:Nat->Prop}{av:J}{v:Value}(h:gw ι H w F av v):eF ι H w F av v:=by
 cases av<;>first|trivial|exact h|exact False.elim h
def eF.WW{H:Heap}{F:Nat->Prop}{av:J}{v:Value}(h:kb w F av v):eF ι H w F av v:=by
 cases av<;>simp only[kb]at h<;>first|exact eF.zu (gw.N3 h)|skip
 obtain⟨b,rfl,a⟩:=h;exact⟨b,rfl,a.imp λ_ _=>gw.N3⟩
def eF.cells{H:Heap}{F:Nat->Prop}{av:J}{v:Value}(h:eF ι H w F av v)(b:oA av=true):a6 (cq ι H w F) (cellsOf av) v.cells.toList:=by
 have c:cq ι H w F av v->a6 (cq ι H w F) [av] v.cells.toList:=λk=>by
  have:=cq.one k
  cases v<;>first|(cases this;done)|exact⟨k,trivial⟩
 cases av<;>first|(cases b;done)|exact c h|skip
 obtain⟨d,rfl,a⟩:=h;simpa[Value.cells,cellsOf]using a
def aY.kP(h:aY S ι st a w){b o n:Nat}(C:(kP st.k b o n).all xd=true):
  ∃p:List Value,p.length=n/\a6 (eE S ι st.k w) (kP st.k b o n) p/\(0<n-> ∃x,ι b=some x/\ ∀(j:Nat) v,p[j]? =some v->w.cell? ⟨x,o+j,none⟩=some v):=by
 have r: ∀j,j<n->I st.k b (o+j)≠ .undef/\cr (I st.k b (o+j))=false:=λj c=>by
  have:=dK.1 C (I st.k b (o+j)) (by simp [af.kP];exact⟨j,c,rfl⟩)
  cases e:I st.k b (o+j)<;>rw[e]at this<;>simp_all [xd,cr]
 have s: ∀j,j<n-> ∃v,(∃x,ι b=some x/\w.cell? ⟨x,o+j,none⟩=some v)/\eE S ι st.k w (I st.k b (o+j)) v:=λj c=>by
  obtain⟨x,v,z,A,_,B⟩:=(h.k b (o+j)).box (r j c).1 (r j c).2;exact⟨v,⟨x,z,A⟩,B⟩
 have H: ∃f:Nat->Value,∀j,j<n->(∃x,ι b=some x/\w.cell? ⟨x,o+j,none⟩=some (f j))/\eE S ι st.k w (I st.k b (o+j)) (f j):=by
  refine⟨λj=>if c:j<n then(s j c).choose else undef,λj c=> ?_⟩;simp only[c,dif_pos];exact(s j c).choose_spec
 obtain⟨f,l⟩:=H;refine⟨(List.range n).map f,by simp,a6.mk (by simp [af.kP]) λi x y k u=> ?_,λG=> ?_⟩
 .simp only[af.kP,g_,mC]at k u;obtain⟨g,d,rfl⟩:=k;obtain⟨J,q,rfl⟩:=u;have m:g<n:=by have:=ft d;simpa using this
  rw[d]at q;cases q;exact(l g m).2
 .obtain⟨x,k,_⟩:=(l 0 G).1;refine⟨x,k,λj v c=> ?_⟩;simp only[g_,mC]at c;obtain⟨g,d,rfl⟩:=c;have m:g<n:=by have:=ft d;simpa using this
  have E:g=j:=by
   have F:j<n:=by
    rcases fE j n with h|h
    .exact h
    .rw[eX (by simpa using h)]at d;cases d
   rw[DC F]at d
   cases d;rfl
  subst E;obtain⟨K,t,D⟩:=(l g m).1;rw[k]at t;cases t;exact D
end
section
variable {E:Env} {S:eb} {ι:Nat->Option Nat} {st:O} {a:Act} {w:World}
def dx{P:Program}{o:Oper}{next:Act->World->Prop}{Q:Exit->Act->World->Prop}{v:Value}{w':World}(c:(execOp a.eval o).run P w= .ok (.value v) w')(b:next (a.put o.dst v) w'):o.wp P a w next Q:=by
 unfold Oper.wp;rw[c];exact b
def aj5{P:Program}{o:Oper}{next:Act->World->Prop}{Q:Exit->Act->World->Prop}{w':World}(c:(execOp a.eval o).run P w= .ok .skip w')(b:next (a.put o.dst undef) w'):o.wp P a w next Q:=by
 unfold Oper.wp;rw[c];exact b
def afq(b:Nat): ∀(cs:List J) (o:Nat) (H:Heap) (b' a:Nat),I (qk H b cs o) b' a=if b'=b/\o<=a/\a<o+cs.length then cs.getD (a-o) .undef else I H b' a
 |[],o,H,b',a=>by simp [qk];omega
 |c::cs,o,H,b',a=>by
  rw[qk,afq b cs (o+1)]
  by_cases d:b'=b/\o+1<=a/\a<o+1+cs.length
  .rw[a5 d,a5 ⟨d.1,Ω,by simp;omega⟩,show a-o=(a- (o+1))+1 by omega];simp
  .rw[aS d,eZ]
   by_cases e:b'=b/\a=o
   .rw[a5 e,a5 ⟨e.1,Ω,by simp;omega⟩,show a-o=0 by omega];simp
   .rw[aS e,aS (by simp only[dy];omega)]
def wx(H:Heap)(b o:Nat)(c:J):H.length<=(bI H b o c).length/\b<(bI H b o c).length:=mq _ _ _ _
def aha(b:Nat): ∀(cs:List J) (o:Nat) (H:Heap),H.length<=(qk H b cs o).length/\(cs≠[]->b<(qk H b cs o).length)
 |[],_,_=>⟨bN _,λh=>absurd rfl h⟩
 |c::cs,o,H=>by
  have a:=wx H b o c;have d:=(aha b cs (o+1) (bI H b o c)).1;exact⟨dP a.1 d,λ_=>gR a.2 d⟩
def ey.ext{H H':Heap}(a: ∀b o,I H' b o=I H b o):ey ι H w (aT S ι H w) ι H' w (aT S ι H' w):=by
 refine⟨λx ⟨d,e,g⟩=>⟨d,e,λb c=>g b (oy (a b) c)⟩,λ_ _ _=>rfl,λb x j c=>⟨j,by rw[a];exact c⟩,λb k l n f i=>⟨k,_,n,f,by rw[a];exact i,bN _,λ_=>⟨rfl,rfl,λx C T _ h=>⟨C,h,rfl⟩⟩⟩⟩
def aY.ext{D:List J}{H H':Heap}(h:aY S ι ⟨D,H⟩ a w)(d: ∀b o,I H' b o=I H b o)(g: ∀b x,ι b=some x->b<H'.length):aY S ι ⟨D,H'⟩ a w:=by
 have c:ey ι H w (aT S ι H w) ι H' w (aT S ι H' w):=ey.ext d;refine⟨h.below,h.defers,λt av i=> ?_,λb o=> ?_,h.inj,h.fresh,g,h.gW.trans c⟩
 .obtain⟨v,e,f⟩:=h.D t av i;exact⟨v,e,f.step c⟩
 .show e9 ι H' w _ b o (I H' b o);rw[d];exact(h.k b o).step c (λ_=>rfl) (λ_ _ _=>⟨rfl,rfl⟩) (λ_=>⟨rfl,λ_ _=>rfl⟩)
def tQ{H:Heap}{b:Nat}(h:H.length<=b)(o:Nat):I H b o= .undef:=by
 simp [I,List.getD,eX h]
def aY.NT(h:aY S ι st a w){b:Nat}(c:st.k.length<=b):ι b=none:=by
 cases e:ι b with
 |none=>rfl
 |some x=>have:=h.gT b x e;omega
def Dk(ι:Nat->Option Nat)(aC x:Nat): ∀b,cF ι aC x b≠none->ι b≠none\/b=aC:=λb h=>by
 unfold cF at h
 by_cases e:b=aC
 .exact .inr e
 .simp only[e,np]at h;exact .inl h
def aY.ahP(h:aY S ι st a w){b:Nat}(g: ∀o,I st.k b o= .undef)(q:ι b=none)(cs:List J)(m:cs≠[])(c:List Value)(T:TypeId)(p:a6 (eE S ι st.k w) cs c):
  aY S (cF ι b w.heap.size) ⟨st.D,bJ st.k (h3 b cs 0)⟩ a (w.alloc (.cells c.toArray T))/\
  bz S (cF ι b w.heap.size) (bJ st.k (h3 b cs 0)) (w.alloc (.cells c.toArray T)) (.ptr b 0) (.pointer (some ⟨w.heap.size,0,none⟩)):=by
 obtain⟨k,_,l⟩:=h.aAO b g q cs c T p;have f: ∀b' o,I (bJ st.k (h3 b cs 0)) b' o=I (m7 st.k b cs) b' o:=λb' o=>by
  rw[MT,afq,GQ]
  by_cases e:b'=b
  .subst e
   by_cases n:o<cs.length
   .rw[a5 ⟨rfl,Ω,Ω⟩,a5 rfl];simp
   .rw[aS Ω,a5 rfl,g];simp [List.getD,eX (Nat.le_of_not_lt n)]
  .rw[aS (λj=>e j.1),aS e]
 refine⟨k.ext f λb' x d=> ?_,?_⟩
 .rw[MT];have i:=aha b cs 0 st.k;unfold cF at d
  by_cases e:b'=b
  .rw[e];exact i.2 m
  .simp only[e,np]at d;exact gR (h.gT _ _ d) i.1
 .exact cq.step (ey.ext (S:=S) f) l
def ly.rel{H:Heap}{F:Nat->Prop}{av:J}{v:Value}(h:ly av v):cq ι H w F av v:=by
 cases av<;>simp only[ly]at h<;>first|(subst h;constructor)|exact h|exact h.elim|(obtain⟨rfl,a⟩:=h;exact a1.str _ Ω)
def an9{o:Oper}{T:TypeId}{t:bS}(j:o.op= .alloc T)(e:gS E.P T t)(h:aY S ι st a w){aC:Nat}(f: ∀o,I st.k aC o= .undef)(m:ι aC=none)(g:t.zero≠[]){next:Act->World->Prop}{Q:Exit->Act->World->Prop}
  (i: ∀az w' v,(∀b,az b≠none->ι b≠none\/b=aC)->aY S az ⟨st.D,bJ st.k (h3 aC t.zero 0)⟩ a w'->bz S az (bJ st.k (h3 aC t.zero 0)) w' (.ptr aC 0) v->next (a.put o.dst v) w'):o.wp E.P a w next Q:=by
 obtain⟨z,k,l,n⟩:=aDg w e;obtain⟨c,d⟩:=h.ahP f m t.zero g z.cells.toList T (l.imp λ_ _=>ly.rel);refine dx (v:= .pointer (some ⟨w.heap.size,0,none⟩)) (w':=w.alloc (.cells z.cells T)) ?_ (i _ _ _ (Dk _ _ _) (by simpa using c) (by simpa using d));simp [execOp,j,Instr.alloc,k,newVar,newRow]
def aov{o:Oper}{T:TypeId}{x:Operand}(i:o.op= .box T x)(h:aY S ι st a w){aC:Nat}(e: ∀o,I st.k aC o= .undef)(l:ι aC=none)(j:oA (aE st.D x)=true)(f:cellsOf (aE st.D x)≠[]){next:Act->World->Prop}{Q:Exit->Act->World->Prop}
  (g: ∀az w' v,(∀b,az b≠none->ι b≠none\/b=aC)->aY S az ⟨st.D,bJ st.k (h3 aC (cellsOf (aE st.D x)) 0)⟩ a w'->bz S az (bJ st.k (h3 aC (cellsOf (aE st.D x)) 0)) w' (.ptr aC 0) v->next (a.put o.dst v) w'):o.wp E.P a w next Q:=by
 have k:=(h.eval x).cells j;obtain⟨c,d⟩:=h.ahP e l _ f _ T k;refine dx (v:= .pointer (some ⟨w.heap.size,0,none⟩)) (w':=w.alloc (.cells (a.eval x).cells T)) ?_ (g _ _ _ (Dk _ _ _) (by simpa using c) (by simpa using d));simp [execOp,i,Instr.box,newVar,newRow]
def aag{b:Bool}{cs:List J}{a:List Value}{H:Heap}{F:Nat->Prop}(h:a6 (cq ι H w F) cs a)(d:b=false->cs.length=1):eF ι H w F (pH b cs) (sK b a):=by
 cases b with
 |true=>exact⟨a,rfl,h⟩
 |false=>
  match cs,a,h,d rfl with
  |[c],[v],h,_=>
   have:=h.1
   cases c<;>first|trivial|exact this|exact False.elim this
def a6.take{α β:Type}{R:α->β->Prop} : ∀{aa:List α} {a:List β} (n:Nat),a6 R aa a->a6 R (aa.take n) (a.take n)
 |[],[],n,_=>by simp [a6]
 |_::_,_::_,0,_=>trivial
 |_::_,_::_,n+1,h=>⟨h.1,a6.take n h.2⟩
 |[],_::_,_,h=>h.elim
 |_::_,[],_,h=>h.elim
def gS.one{P:Program}{T:TypeId}{t:bS}(h:gS P T t)(b:t.d.isAgg=false):t.size=1:=by
 obtain⟨d,_,_,a⟩:=h.agg;exact(a b).1
def NB{T:TypeId}{t:bS}{qH:J}{v0:Value}(Q:gS E.P T t)(h:aY S ι st a w)(O:bz S ι st.k w qH v0){K:J->Prop}(s:oq t st.k qH K):
  ∃(p:Addr) (av:J) (u:Value),v0= .pointer (some p)/\K av/\bz S ι st.k w av u/\(loadVar T p).run E.P w= .ok u w:=by
 have I: ∀(y k:Nat) (cs:List J) (l:List Value),v0= .pointer (some ⟨y,k,none⟩)->l.length=t.size->a6 (eE S ι st.k w) cs l->(∀(j:Nat) v,l[j]? =some v->w.cell? ⟨y,k+j,none⟩=some v)->K (pH t.d.isAgg cs)->
   ∃(p:Addr) (av:J) (u:Value),v0= .pointer (some p)/\K av/\bz S ι st.k w av u/\(loadVar T p).run E.P w= .ok u w:=λy k cs l e r F m x=>
  ⟨⟨y,k,none⟩,pH t.d.isAgg cs,sK t.d.isAgg l,e,x,aag F λY=>by rw[F.length,r,Q.one Y],aDc w Q y k l r m⟩
 cases qH<;>simp only[oq,aF,j7]at s<;>try exact s.elim
 .rename_i b k;obtain⟨U,Vg⟩:=s;obtain⟨l,r,F,m⟩:=h.kP U;obtain⟨_,y,G,o⟩:=(show eE S ι st.k w (.ptr b k) _ from O);refine I y k _ l o r F (λj v d=> ?_) Vg;obtain⟨wS,z,Z⟩:=m (by rw[<-r];rcases fE 0 l.length with h|h;exact h;rw[eX Ω]at d;cases d);rw[G]at z;cases z;exact Z j v d
 .rename_i b cx i k;obtain⟨_,ro,H,n,f,D,P,M⟩:=(show eE S ι st.k w (.fN b cx i k) _ from O);rw[D]at s;simp only at s;obtain⟨rfl,ji,oj,x⟩:=s;obtain⟨y,G,o⟩:=M rfl;have r:=h.k b 0;rw[D]at r;obtain⟨_,R|⟨_,r|⟨wS,C,W,z,X,lN⟩⟩⟩:=r
  .rw[G]at R;cases R.2.2
  .omega
  rw[G]at z;cases z;have N: ∀j,j<t.size-> ∃v,C[i*H+(k+j)]? =some v/\ ∃c,((((f i).drop k).take t.size))[j]? =some c/\eE S ι st.k w c v:=λj d=>by
   obtain⟨c,v,A,B,L⟩:=lN i (k+j) ji Ω;exact⟨v,B,c,by rw[zV d,pv];exact A,cq.CU L⟩
  have hlen:(((f i).drop k).take t.size).length=t.size:=by
   rcases fE (((f i).drop k).take t.size).length t.size with gX|tP
   .obtain⟨_,_,c,m,_⟩:=N _ gX;rw[eX (bN _)]at m;cases m
   .have:=List.length_take_le t.size ((f i).drop k);omega
  let l:=(List.range t.size).map λj=>(C[i*H+(k+j)]?).getD undef;have V: ∀j v,l[j]? =some v->j<t.size/\C[i*H+(k+j)]? =some v:=λj v d=>by
   have q:j<t.size:=by
    rcases fE j t.size with h|h
    .exact h
    .rw[eX (by simpa[l]using h)]at d;cases d
   refine⟨q,?_⟩;simp only[l,g_,DC q,sr,g9]at d;obtain⟨aEx,g,_⟩:=N j q;rw[g]at d |-;simpa using d
  refine I y (i*H+k) _ l o (by simp [l]) (a6.mk (by simp [l,hlen]) λj c v m o=> ?_) (λj v d=> ?_) x
  .obtain⟨q,g⟩:=V j v o;obtain⟨aEx,A,Rh,B,L⟩:=N j q;rw[g]at A;cases A;rw[m]at B;cases B;exact L
  .obtain⟨_,g⟩:=V j v d;rw[uT w y _ C W (0,0) X,qQ];exact g
 .rename_i cs;obtain⟨U,x⟩:=s;have y0:a1 w (aT S ι st.k w) (.ref cs) v0:=O
  cases y0 with
  |ref _ b k g u od D P M=>
   have GN: ∀j c,cs[j]? =some c->j<cs.length:=λj c d=>by
    rcases fE j cs.length with h|h
    .exact h
    .rw[eX h]at d;cases d
   refine I b k (cs.take t.size) ((List.range t.size).map u) rfl (by simp) (a6.mk (by simp;omega) λj c v m o=> ?_) (λj v d=> ?_) x
   all_goals
    have q:j<t.size:=by
     rcases fE j t.size with h|h
     .exact h
     .first
       |(rw[eX (by simpa using h)]at o;cases o;done)
       |(rw[eX (by simpa using h)]at d;cases d;done)
   .simp only[g_,DC q,sr,g9]at o;rw[zV q]at m;have:=GN j c m;rw[D j this]at m;cases m;subst o;exact cq.CU (M j this)
   .simp only[g_,DC q,sr,g9]at d;subst d;exact P j Ω
def azF{o:Oper}{T:TypeId}{t:bS}{x:Operand}(j:o.op= .load T x)(f:gS E.P T t)(h:aY S ι st a w){K:J->Prop}(g:oq t st.k (aE st.D x) K){next:Act->World->Prop}{Q:Exit->Act->World->Prop}
  (i: ∀av v,K av->bz S ι st.k w av v->next (a.put o.dst v) w):o.wp E.P a w next Q:=by
 obtain⟨p,av,u,b,c,d,e⟩:=NB f h (h.eval x) g;refine dx (v:=u) (w':=w) ?_ (i _ _ c d);simp [execOp,j,b,Instr.loadAt,Instr.sureAddr,e]
end
section
variable {E:Env} {S:eb} {ι:Nat->Option Nat} {st:O} {a:Act} {w:World}
def ahU{H:Heap}{F:Nat->Prop}{x:J}{v:Value}(h:cq ι H w F x v):cq ι H w F (HJ x) v:=by
 cases x
 case lit b=>
  have a:a1 w F (.lit b) v:=h
  cases a
  exact a1.bool b
 all_goals exact h
def CQ{H:Heap}{F:Nat->Prop}{x:J}{v:Value}(h:eF ι H w F x v):eF ι H w F (eT x) v:=by
 cases x
 case lit b=>exact ahU (ι:=ι) (H:=H) (F:=F) (w:=w) (x:= .lit b) (show cq ι H w F (.lit b) v from h)
 case agg cs=>
  obtain⟨k,rfl,e⟩:=h;refine⟨k,rfl,a6.mk (by simp [e.length]) λi p q a g=> ?_⟩;simp only[g_,mC]at a;obtain⟨c,f,rfl⟩:=a;obtain⟨l,d,j⟩:=e.get i c f;rw[g]at d;cases d;exact ahU j
 all_goals exact h
def Is{α:Type}(d x y:α): ∀(l:List α) (i:Nat),setAt d (setAt d l i x) i y=setAt d l i y
 |[],0=>rfl
 |[],i+1=>by simp only[setAt,Is d x y [] i]
 |_::_,0=>rfl
 |a::aa,i+1=>by simp only[setAt,Is d x y aa i]
def au6(H:Heap)(b o:Nat)(x y:J):bI (bI H b o x) b o y=bI H b o y:=by
 unfold bI;have a:(setAt [] H b (setAt .undef (H.getD b []) o x)).getD b []=setAt .undef (H.getD b []) o x:=by rw[qh,a5 rfl]
 rw[a,Is,Is]
def aY.ajz{P:Program}{b l i V n fY:Nat}(m:ι b=some l)(H:i<n)(u:n<=dz): ∀(cs:List J) (p:List Value) (k:Nat) (f:Nat->List J) (st:O) (w:World),aY S ι st a w->I st.k b 0= .ad false V n f->fY+k+cs.length<=V->
  a6 (a1 w (aT S ι st.k w)) cs p->cs≠[]-> ∀(g:Nat->List J),(∀j,j<n->OP f i (fY+k) cs j=g j)-> ∃w',(storeCells ⟨l,i*V+fY,none⟩ p k).run P w= .ok () w'/\aY S ι ⟨st.D,bI st.k b 0 (.ad false V n g)⟩ a w'
 |[],_,_,_,_,_,_,_,_,_,T,_,_=>absurd rfl T
 |_::_,[],_,_,_,_,_,_,_,d,_,_,_=>d.elim
 |c::cs,v::p,k,f,st,w,h,t,K,d,_,g,G=>by
  have B:fY+k<V:=by simp only[dy]at K;omega
  have o:=h.k b 0;rw[t]at o;obtain⟨_,F|⟨_,o|⟨Z,C,D,M,q,x⟩⟩⟩:=o
  .rw[m]at F;cases F.2.2
  .rw[m]at o;cases o.2
  rw[m]at M;cases M;obtain⟨_,Y,_,X,_⟩:=x i (fY+k) H B;have y:=(so.1 X).1;have U:one v=true:=d.1.one;have Q:w.cell? ⟨l,i*V+(fY+k),none⟩=some (C[i*V+(fY+k)]):=by
   rw[uT w l (i*V+(fY+k)) C D (0,0) q,qK y]
  have R:w.frozen? ⟨l,i*V+(fY+k),none⟩=false:=frozen_of_row w l (i*V+(fY+k)) C D q;have L:=ai_ (P:=P) w ⟨l,i*V+(fY+k),none⟩ U Q R
  cases cs with
  |nil=>
   cases p with
   |cons _ _=>exact d.2.elim
   |nil=>
    obtain⟨s,_⟩:=h.ajx m t q B y d.1 (g:=g) (λj A=>(G j A).symm) x u;refine⟨_,?_,s⟩;simp only[storeCells,Sem.run_bind,Addr.add_lit,qQ,L,Result.andThen];rfl
  |cons z cs=>
   obtain⟨s,N⟩:=h.ajx m t q B y d.1 (g:=λj=>bif Nat.beq j i then(f j).set (fY+k) c else f j) (λ_ _=>rfl) x u;obtain⟨w',r,E⟩:=aY.ajz (P:=P) (fY:=fY) m H u (z::cs) p (k+1) _ ⟨st.D,bI st.k b 0 (.ad false V n λj=>bif Nat.beq j i then(f j).set (fY+k) c else f j)⟩ _ s (by rw[eZ,a5 ⟨rfl,rfl⟩]) (by simp only[dy]at K |-;omega)
    (d.2.imp λ_ _ W=>W.mono N.h5 N.cell) (by simp) g (λj A=>by
     rw[<-G j A];unfold OP
     cases e:Nat.beq j i<;>simp only[e,aR,aX,r4,qQ])
   refine⟨w',?_,by rw[au6]at E;exact E⟩;simp only[storeCells,Sem.run_bind,Addr.add_lit,qQ,L,Result.andThen];exact r
def ai9{P:Program}{T:TypeId}{t:bS}(a:gS P T t)(w w':World)(p:Addr)(v:Value)(b:v.cells.size=t.size)(c:(storeCells p v.cells.toList 0).run P w= .ok () w'):
  (Instr.storeAt T (.pointer (some p)) v).run P w= .ok () w':=by
 simp [Instr.storeAt,Instr.sureAddr,storeVar,run_sizeOf w a,b,c]
def aDP{o:Oper}{T:TypeId}{t:bS}{x y:Operand}(J:o.op= .store T x y)(D:gS E.P T t)(h:aY S ι st a w){K:b5->Prop}(d:uJ t st.k (aE st.D x) (aE st.D y) K){next:Act->World->Prop}{Q:Exit->Act->World->Prop}
  (H: ∀O w',K O->aY S ι ⟨st.D,bJ st.k O⟩ a w'->next (a.put o.dst undef) w'):o.wp E.P a w next Q:=by
 have A:=h.eval x;have N:=h.eval y
 cases e:aE st.D x<;>rw[e]at d A<;>simp only[uJ,aF,b4,j7,jn]at d<;>try exact d.elim
 .rename_i b c;obtain⟨⟨⟨⟨Cq,Vg⟩,auB⟩,auC⟩,s⟩:=d;have l:=N.cells Cq;obtain⟨_,z,B,v⟩:=(show eE S ι st.k w (.ptr b c) _ from A);have W: ∀j,j<(cellsOf (aE st.D y)).length->I st.k b (c+0+j)≠ .undef/\cr (I st.k b (c+0+j))=false:=λj fX=>by
   have:=dK.1 auB (I st.k b (c+j)) (by simp [af.kP];exact⟨j,Ω,rfl⟩);rw[mD]
   cases e:I st.k b (c+j)<;>rw[e]at this<;>simp_all [xd,cr]
  obtain⟨w',r,C,_⟩:=aY.ajy (P:=E.P) (S:=S) (a:=a) (fY:=c) B (cellsOf (aE st.D y)) _ 0 st w h auC W l;refine aj5 (w':=w') ?_ (H _ _ s (by rw[MT];exact C));have:=ai9 D w w' ⟨z,c,none⟩ (a.eval y) (by rw[<-Vg,l.length];simp) r;simp [execOp,J,v,this]
 .rename_i b k i c;obtain⟨_,ro,cx,n,f,m,C,R⟩:=(show eE S ι st.k w (.fN b k i c) _ from A);rw[m]at d;simp only[aF,b4,jn]at d;obtain⟨⟨⟨⟨⟨⟨Vw,aGt⟩,auU⟩,VE⟩,Vq⟩,G⟩,rfl,Z,g,Y,s⟩:=d;subst Vw;obtain⟨z,B,v⟩:=R rfl;have l:=eF.cells (CQ N) auU;have X:a6 (a1 w (aT S ι st.k w)) (cellsOf (eT (aE st.D y))) (a.eval y).cells.toList:=a6.mk l.length λj p q L jk=>by
   obtain⟨Ia,M,gD⟩:=l.get j p L;rw[jk]at M;cases M;exact cq.q_ gD (dK.1 Vq p (ft L))
  have F:=h.k b 0;rw[m]at F;have V:k<=dz:=by
   rcases F.2 with u|u
   .cases u.1
   .exact u.1
  obtain⟨w',r,U⟩:=aY.ajz (P:=E.P) (S:=S) (a:=a) (fY:=c) B Z V _ _ 0 f st w h m Ω X (by intro e;rw[e]at G;cases G) g Y;refine aj5 (w':=w') ?_ (H _ _ s U);have:=ai9 D w w' ⟨z,i*cx+c,none⟩ (a.eval y) (by rw[<-VE,l.length];simp) r;simp [execOp,J,v,this]
def aqy{o:Oper}{T:TypeId}{t:bS}{x:Operand}{f:Nat}(V:o.op= .fieldAddr T x f)(N:gS E.P T t)(h:aY S ι st a w){K:J->Prop}(c:sV t st.k f (aE st.D x) K){next:Act->World->Prop}{Q:Exit->Act->World->Prop}
  (z: ∀av v,K av->bz S ι st.k w av v->next (a.put o.dst v) w):o.wp E.P a w next Q:=by
 have r:=h.eval x;have G:=N.d
 cases D:t.d<;>simp only[sV,D]at c<;>try exact c.elim
 rename_i Y;rw[D]at G;obtain⟨JY,X,_,W⟩:=G
 cases F:Y[f]? <;>rw[F]at c<;>simp only at c
 rename_i d;obtain⟨d,C⟩:=d;simp only at c;obtain⟨aqD,O,P,i,R,U,H⟩:=W f d C F;rw[<-U]at H;have A: ∀(y p:Nat),a.eval x= .pointer (some ⟨y,p,none⟩)->(execOp a.eval o).run E.P w= .ok (.value (.pointer (some ⟨y,p+d,none⟩))) w:=λy p e=>by
  simp [execOp,V,e,Instr.fieldAt,fr X,O,Instr.sureAddr,fieldPlace,sizeOf,typeInfo,R,H,P,Addr.add_lit]
 cases e:aE st.D x<;>rw[e]at c r<;>simp only at c<;>try exact c.elim
 .rename_i b p;obtain⟨L,y,B,m⟩:=(show eE S ι st.k w (.ptr b p) _ from r);exact dx (A y p m) (z _ _ c ⟨L,y,B,rfl⟩)
 .rename_i b k i p;obtain⟨_,Z,C,n,g,q,s,u⟩:=(show eE S ι st.k w (.fN b k i p) _ from r);rw[q]at c;simp only at c;obtain⟨y,B,m⟩:=u c.1;exact dx (A y _ m) (z _ _ c.2 ⟨rfl,Z,C,n,g,q,s,λ_=>⟨y,B,by rw[qQ]⟩⟩)
 .rename_i cs;have I:a1 w (aT S ι st.k w) (.ref cs) (a.eval x):=r;generalize m:a.eval x=v at I
  cases I with
  |ref _ b p g cx M q s u=>
   refine dx (A b p m) (z _ _ c (show a1 w _ (.ref (cs.drop d)) _ from .ref _ b (p+d) (λj=>g (d+j)) (λj=>cx (d+j)) M (λj l=> ?_) (λj l=> ?_) (λj l=> ?_)))
   .rw[pv];exact q _ (by simp at l;omega)
   .rw[qQ];exact s _ (by simp at l;omega)
   .exact u _ (by simp at l;omega)
def a6.abt{α β:Type}{R:α->β->Prop} : ∀{aa:List α} {a:List β} (n:Nat),a6 R aa a->a6 R (aa.drop n) (a.drop n)
 |[],[],n,_=>by simp [a6]
 |_::_,_::_,0,h=>h
 |_::_,_::_,n+1,h=>a6.abt n h.2
 |[],_::_,_,h=>h.elim
 |_::_,[],_,h=>h.elim
def avJ{o:Oper}{T:TypeId}{t:bS}{x y:Operand}(eA:o.op= .indexAddr T x y)(iU:gS E.P T t)(fu:aY S ι st a w){eI:J->Prop}(d:tW t st.k (aE st.D x) (aE st.D y) eI){next:Act->World->Prop}{Q:Exit->Act->World->Prop}
  (G: ∀av v,eI av->bz S ι st.k w av v->next (a.put o.dst v) w):o.wp E.P a w next Q:=by
 have A:=fu.eval x;have H:=fu.eval y;have F:=iU.d
 cases K:t.d<;>simp only[tW,K]at d<;>try exact d.elim
 case slice e l mP=>
  rw[K]at F;obtain⟨X,i,P,R,_⟩:=F
  cases L:aE st.D y<;>rw[L]at d H<;>simp only at d<;>try exact d.elim
  rename_i k z;have Y:a.eval y= .int k z:=by
   have:a1 w (aT S ι st.k w) (.int k z) (a.eval y):=H;generalize a.eval y=v at this;cases this;rfl
  have B: ∀(b p n c:Nat),a.eval x= .slice (some ⟨b,p,none⟩) n c->0<=z->z<n->(execOp a.eval o).run E.P w= .ok (.value (.pointer (some ⟨b,p+z.toNat*l,none⟩))) w:=λb p n c r s h=>by
   simp [execOp,eA,r,Y,Instr.indexAt,fr X,asIntOf,s,h,sizeOf,typeInfo,P,R,Addr.add_lit]
  cases r:aE st.D x<;>rw[r]at d A<;>simp only at d<;>try exact d.elim
  .rename_i V n f;simp only[aF,j7]at d;obtain⟨W,⟨s,h⟩,O⟩:=d;have D:a1 w (aT S ι st.k w) (.arr V n f) (a.eval x):=A;generalize u:a.eval x=v at D
   cases D with
   |nil=>simp at h;omega
   |mt=>simp at h;omega
   |arr _ _ _ b p c g cx fP afb N jc jg fG=>
    have I:z.toNat<n:=by omega
    have hlen:((f z.toNat).take V).length=V:=by
     rcases fE ((f z.toNat).take V).length V with gX|tP
     .have:=jc z.toNat _ I gX;rw[eX (by simp at gX |-;omega)]at this;cases this
     .have:=List.length_take_le V (f z.toNat);omega
    refine dx (B b p n c u s h) (G _ _ O (show a1 w _ (.ref ((f z.toNat).take V)) _ from .ref _ b (p+z.toNat*l) (g z.toNat) (cx z.toNat) (N Ω) (λj m=> ?_) (λj m=> ?_) (λj m=> ?_)))
    .rw[zV Ω];exact jc _ _ I Ω
    .rw[<-W];exact jg _ _ I Ω
    .exact fG _ _ I Ω
  .rename_i b Z;obtain⟨_,ro,V,n,f,h,hl,M⟩:=(show eE S ι st.k w (.own b Z) _ from A);rw[h]at d;simp only[aF,j7]at d;obtain⟨W,rfl,⟨y1,Ha⟩,O⟩:=d;rcases M rfl with⟨q,c,C,lx,U,u,m6,ku,la⟩|⟨yQ,_,_⟩
   .refine dx (B q 0 Z c u y1 Ha) (G _ _ O ⟨rfl,ro,V,Z,f,h,bN _,λ_=>⟨q,U,by rw[W];simp⟩⟩)
   .omega
 case array n e l=>
  rw[K]at F;obtain⟨X,i,P,R⟩:=F
  cases L:aE st.D y<;>rw[L]at d H<;>simp only at d<;>try exact d.elim
  rename_i k z;have Y:a.eval y= .int k z:=by
   have:a1 w (aT S ι st.k w) (.int k z) (a.eval y):=H;generalize a.eval y=v at this;cases this;rfl
  have B: ∀(b p:Nat),a.eval x= .pointer (some ⟨b,p,none⟩)->0<=z->z<n->(execOp a.eval o).run E.P w= .ok (.value (.pointer (some ⟨b,p+z.toNat*l,none⟩))) w:=λb p r s h=>by
   simp [execOp,eA,r,Y,Instr.indexAt,Instr.sureAddr,fr X,asIntOf,s,h,sizeOf,typeInfo,P,R,Addr.add_lit]
  cases r:aE st.D x<;>rw[r]at d A<;>simp only[aF,b4,j7]at d<;>try exact d.elim
  .rename_i b p;obtain⟨s,q,U,u⟩:=(show eE S ι st.k w (.ptr b p) _ from A);exact dx (B q p u d.1.1 d.1.2) (G _ _ d.2 ⟨s,q,U,rfl⟩)
  .rename_i cs;have D:a1 w (aT S ι st.k w) (.ref cs) (a.eval x):=A;generalize u:a.eval x=v at D
   cases D with
   |ref _ b p g cx N h hl M=>
    refine dx (B b p u d.1.1 d.1.2) (G _ _ d.2 (show a1 w _ (.ref (cs.drop (z.toNat*l))) _ from .ref _ b (p+z.toNat*l) (λj=>g (z.toNat*l+j)) (λj=>cx (z.toNat*l+j)) N (λj m=> ?_) (λj m=> ?_) (λj m=> ?_)))
    .rw[pv];exact h _ (by simp at m;omega)
    .rw[qQ];exact hl _ (by simp at m;omega)
    .exact M _ (by simp at m;omega)
def aDd{P:Program}{T:TypeId}{t:bS}{w:World}(c:gS P T t)(b:List Value)(a:Nat)(h:a+t.size<=b.length):
  (part T b.toArray a).run P w= .ok (sK t.d.isAgg ((b.drop a).take t.size)) w:=by
 cases e:t.d.isAgg with
 |true=>simp [part,Sem.run_bind,Oy w c,e,Result.andThen_ok,run_sizeOf w c,sK]
 |false=>
  have f:=c.one e;have d:a<b.length:=by omega
  have g:(b.drop a).take 1=[b[a]]:=by rw[qR d];rfl
  simp [part,Sem.run_bind,Oy w c,e,Result.andThen_ok,sK,f,g,d]
def avB{c:TypeId->Option bS}(D: ∀T t,c T=some t->gS E.P T t){o:Oper}{T:TypeId}{t:bS}{x y:Operand}(L:o.op= .index T x y)(G:gS E.P T t)(h:aY S ι st a w){K:J->Prop}(b:wj c t (aE st.D x) (aE st.D y) K){next:Act->World->Prop}{Q:Exit->Act->World->Prop}
  (I: ∀av v,K av->bz S ι st.k w av v->next (a.put o.dst v) w):o.wp E.P a w next Q:=by
 have p:=h.eval x;have q:=h.eval y;have l:=G.d
 cases f:t.d<;>simp only[wj,f]at b<;>try exact b.elim
 rename_i n e U;rw[f]at l;obtain⟨O,i,W,X⟩:=l
 cases A:aE st.D y<;>rw[A]at b q<;>simp only at b<;>try exact b.elim
 rename_i k z;have R:a.eval y= .int k z:=by
  have:a1 w (aT S ι st.k w) (.int k z) (a.eval y):=q;generalize a.eval y=v at this;cases this;rfl
 cases s:aE st.D x<;>rw[s]at b p<;>simp only at b<;>try exact b.elim
 rename_i cs
 cases g:c e<;>rw[g]at b<;>simp only[aF,b4,j7]at b<;>try exact b.elim
 rename_i u;obtain⟨⟨⟨⟨B,C⟩,j⟩,V⟩,F⟩:=b;have d:=D e u g;obtain⟨r,P,m⟩:=(show bz S ι st.k w (.agg cs) _ from p);have Y:=m.length;have M:=aDd (w:=w) d r (z.toNat*u.size) (by rw[j];omega);have N:(execOp a.eval o).run E.P w= .ok (.value (sK u.d.isAgg ((r.drop (z.toNat*u.size)).take u.size))) w:=by
  simp [execOp,L,P,R,Instr.index,fr O,asIntOf,B,C,run_sizeOf w d,M]
 refine dx N (I _ _ F ?_);rw[j];refine aag ((m.abt _).take _) λH=> ?_;have:=d.one H;rw[iJ,pB];omega
def aqj{o:Oper}{x:Operand}{i:Nat}(k:o.op= .extract x i)(h:aY S ι st a w){K:J->Prop}(b:AL i (aE st.D x) K){next:Act->World->Prop}{Q:Exit->Act->World->Prop}
  (j: ∀av v,K av->bz S ι st.k w av v->next (a.put o.dst v) w):o.wp E.P a w next Q:=by
 have e:=h.eval x
 cases f:aE st.D x<;>rw[f]at b e<;>simp only[AL]at b<;>try exact b.elim
 rename_i c;simp only[aF,j7]at b;obtain⟨d,g⟩:=b;obtain⟨us,n,l⟩:=(show∃us:List Value,a.eval x= .tuple us.toArray/\a6 (gw ι st.k w (aT S ι st.k w)) c us from e);obtain⟨v,p,m⟩:=l.get i c[i] (cM d);refine dx (v:=v) (w':=w) ?_ (j (c.getD i .undef) v g ?_)
 .simp [execOp,k,n,Instr.extract,p]
 .simp only[List.getD,cM d,lY];exact eF.zu m
def lu(S:eb)(w:World)(x:Nat):Prop:=S.pC x\/(S.kI.heap.size<=x/\x<w.heap.size)
def P1{H:Heap}{x:Nat}(h:aT S ι H w x):lu S w x:=h.1.imp id λa=>⟨a,h.2.1⟩
def acd(h:aY S ι st a w){x:J}{v:Value}(D:eE S ι st.k w x v){K:J->Prop}(z:iR st.k x K): ∃y,K y/\a1 w (lu S w) y v:=by
 have V:de (oQ x) (K x)-> ∃y,K y/\a1 w (lu S w) y v:=λP=>(λ⟨t,E⟩=>⟨x,E,(cq.q_ D t).mono (λ_=>P1) λ_ _ _=>rfl⟩) (aF.1 P)
 cases x
 case own b k=>
  obtain⟨_,ro,s,n,f,t,E,M⟩:=D;simp only[iR,t]at z;obtain⟨rfl,N⟩:=z;refine⟨_,N,?_⟩;rcases M rfl with⟨q,c,C,L,r,B,T,F,Y⟩|⟨rfl,_,B⟩
  .have p:=h.k b 0;rw[t]at p;obtain⟨_,H|⟨O,p|⟨Z,W,X,I,G,Q⟩⟩⟩:=p
   .rw[r]at H;cases H.2.2
   .rw[r]at p;cases p.2
   .rw[r]at I;cases I;rw[F]at G;cases G;have R:=h.fresh b q r;rw[B];have A: ∀i j,i<k->j<s-> ∃av u,(f i)[j]? =some av/\C[i*s+j]? =some u/\a1 w (lu S w) av u:=λi j d e=>by
     obtain⟨av,u,l,m,o⟩:=Q i j d e;exact⟨av,u,l,m,o.mono (λ_=>P1) λ_ _ _=>rfl⟩
    refine .arr s k f q 0 c (λi j=>((f i)[j]?).getD .undef) (λi j=>(C[i*s+j]?).getD undef) T O (λ_=>(h.own r).imp id λg=>⟨g,R.2⟩) (λi j d e=> ?_) (λi j d e=> ?_) (λi j d e=> ?_)
    .obtain⟨av,u,l,m,o⟩:=A i j d e;rw[l];rfl
    .obtain⟨av,u,l,m,o⟩:=A i j d e;rw[uT w q _ C L (0,0) F,db,m];rfl
    .obtain⟨av,u,l,m,o⟩:=A i j d e;simp only[l,m,lY];exact o
  .rw[B];exact .nil s f
 case lit b=>
  have U:a1 w (aT S ι st.k w) (.lit b) v:=D
  cases U
  exact⟨_,z,.bool b⟩
 all_goals exact V z
def ack(h:aY S ι st a w): ∀(cs:List J) (e:List Value) (K:List J->Prop),a6 (eE S ι st.k w) cs e->l9 st.k cs K-> ∃f,K f/\a6 (a1 w (lu S w)) f e
 |[],[],K,_,b=>⟨[],b,trivial⟩
 |[],_::_,_,d,_=>d.elim
 |_::_,[],_,d,_=>d.elim
 |c::cs,v::e,K,d,b=>by
  obtain⟨y,b,g⟩:=acd h d.1 b;obtain⟨f,b,i⟩:=ack h cs e _ d.2 b;exact⟨y::f,b,g,i⟩
def R6(h:aY S ι st a w){x:J}{v:Value}(e:bz S ι st.k w x v){K:J->Prop}(b:kR st.k x K): ∃y,K y/\fK w (lu S w) y v:=by
 have j: ∀y,a1 w (lu S w) y v->fK w (lu S w) y v:=λy i=>by cases i<;>first|exact .int _ _|exact .bool _|exact .str _ Ψ|exact .aG|exact .nil _ _|exact .mt _ _ _ _|(constructor<;>assumption)
 cases x
 case agg cs=>
  obtain⟨f,rfl,g⟩:=e;obtain⟨k,c,d⟩:=ack h cs f _ g b;exact⟨.agg k,c,f,rfl,d⟩
 case undef=>exact b.elim
 case gone=>exact b.elim
 case dp=>exact b.elim
 case ad=>exact b.elim
 all_goals
  simp only[bz,eF,gw]at e;obtain⟨y,c,d⟩:=acd h e b;exact⟨y,c,j y d⟩
def ach(h:aY S ι st a w): ∀(g:List J) (e:List Value) (K:List J->Prop),a6 (bz S ι st.k w) g e->mQ st.k g K-> ∃f,K f/\a6 (fK w (lu S w)) f e
 |[],[],K,_,b=>⟨[],b,trivial⟩
 |[],_::_,_,d,_=>d.elim
 |_::_,[],_,d,_=>d.elim
 |c::cs,v::e,K,d,b=>by
  obtain⟨y,b,i⟩:=R6 h d.1 b;obtain⟨f,b,j⟩:=ach h cs e _ d.2 b;exact⟨y::f,b,i,j⟩
def acb{H:Heap}{x:J}{K:J->Prop}(b:oQ x=true)(a:iR H x K):K x:=by
 cases x<;>first|(cases b;done)|(simp only[iR,aF]at a;exact a.2)
def acj{H:Heap} : ∀{cs:List J} {K:List J->Prop},cs.all oQ=true->l9 H cs K->K cs
 |[],_,_,b=>b
 |c::cs,K,a,b=>by
  simp only[z1,b4]at a;exact acj (K:=λd=>K (c::d)) a.2 (acb a.1 b)
def aqR{H:Heap}{x:J}{K:J->Prop}(a:AS x=true)(b:kR H x K):K x:=by
 cases x
 case agg cs=>exact acj (K:=λc=>K (.agg c)) a b
 all_goals exact acb (H:=H) a b
def acg{H:Heap} : ∀{cs:List J} {K:List J->Prop},cs.all AS=true->mQ H cs K->K cs
 |[],_,_,b=>b
 |c::cs,K,a,b=>by
  simp only[z1,b4]at a;exact acg (K:=λd=>K (c::d)) a.2 (aqR a.1 b)
def ajj{F F':Nat->Prop}{w':World}{x:J}{v:Value}(a:Yv x=true)(h:a1 w F x v):a1 w' F' x v:=by
 cases h<;>first|(cases a;done)|(constructor;done)|(constructor;assumption)
def ajg{F F':Nat->Prop}{w':World}{x:J}{v:Value}(d:Yw x=true)(h:fK w F x v):fK w' F' x v:=by
 cases x
 case agg cs=>
  obtain⟨g,rfl,c⟩:=h;refine⟨g,rfl,a6.mk c.length λi p q a e=> ?_⟩;obtain⟨j,b,f⟩:=c.get i p a;rw[e]at b;cases b;exact ajj (dK.1 d p (ft a)) f
 case undef=>exact h.elim
 all_goals
  simp only[fK]at h |-;exact ajj d h
def aji{F F':Nat->Prop}{w':World}{x:J}{v:Value}(d:Db x=true)(h:kb w F x v):kb w' F' x v:=by
 cases x
 case dp cs=>
  obtain⟨g,rfl,c⟩:=h;refine⟨g,rfl,a6.mk c.length λi p q a e=> ?_⟩;obtain⟨j,b,f⟩:=c.get i p a;rw[e]at b;cases b;exact ajg (dK.1 d p (ft a)) f
 all_goals
  simp only[kb]at h |-;exact ajg d h
end
section
variable {E:Env} {S:eb} {ι:Nat->Option Nat} {st:O} {a:Act} {w:World}
def bz.int{H:Heap}{k:IntKind}{n:Int}{v:Value}(h:bz S ι H w (.int k n) v):v= .int k n:=by
 have:a1 w (aT S ι H w) (.int k n) v:=h
 cases this;rfl
def bz.bool{H:Heap}{b:Bool}{v:Value}(h:bz S ι H w (.bool b) v):v= .bool b:=by
 have:a1 w (aT S ι H w) (.bool b) v:=h
 cases this;rfl
def bz.str{H:Heap}{s:ByteArray}{v:Value}(h:bz S ι H w (.str s) v):v= .string s:=by
 have:a1 w (aT S ι H w) (.str s) v:=h
 cases this;rfl
def bz.mkInt{H:Heap}(k:IntKind)(n:Int):bz S ι H w (.int k n) (.int k n):=a1.int k n
def bz.zl{H:Heap}(b:Bool):bz S ι H w (.bool b) (.bool b):=a1.bool b
def bz.mkStr{H:Heap}(s:ByteArray)(a:s.size<=dz):bz S ι H w (.str s) (.string s):=a1.str s a
def bz.YM{H:Heap}{s:ByteArray}{v:Value}(h:bz S ι H w (.str s) v):s.size<=dz:=by
 have:a1 w (aT S ι H w) (.str s) v:=h
 cases this;assumption
def bz.lit{H:Heap}{b:Bool}{v:Value}(h:bz S ι H w (.lit b) v):v= .bool b:=by
 have:a1 w (aT S ι H w) (.lit b) v:=h
 cases this;rfl
def bz.mkLit{H:Heap}(b:Bool):bz S ι H w (.lit b) (.bool b):=a1.lit b
def aip{o:Oper}{c x y:Operand}{b:Bool}(g:o.op= .pick c x y)(f:a.eval c= .bool b)(h:aY S ι st a w){K:J->Prop}(d:H4 b (aE st.D x) (aE st.D y) K){next:Act->World->Prop}{Q:Exit->Act->World->Prop}
  (e: ∀av v,K av->bz S ι st.k w av v->next (a.put o.dst v) w):o.wp E.P a w next Q:=by
 refine dx (v:=if b then a.eval x else a.eval y) (w':=w) (by simp [execOp,g,f,asBool]) ?_
 cases b
 .exact e _ _ d (h.eval y)
 .exact e _ _ d (h.eval x)
def avO{b:BinOp}{k:IntKind}{p q:Int}{T:TypeId}{x y:Operand}{K:J->Prop}(a:wo b k p q K)(H:Heap): ∃av v,K av/\bz S ι H w av v/\
  (do eqGuard b T x y (.int k p) (.int k q);binOp b T (.int k p) (.int k q):Sem Value).run E.P w= .ok v w:=by
 cases b<;>simp only[wo]at a<;>try exact a.elim
 all_goals first
  |exact⟨_,_,a,bz.mkInt _ _,by simp [go_sem,Op.intArith]⟩
  |exact⟨_,_,a,bz.zl _,by simp [go_sem]⟩
  |exact⟨_,_,a.2,bz.mkInt _ _,by simp [go_sem,Op.intDiv,a.1]⟩
def Jp{d:List J} : ∀{cs:List J} {a:List Value} {H:Heap} {F:Nat->Prop},hN d cs=true->a6 (cq ι H w F) cs a->a6 w5 cs a:=by
 intro cs a H F b h
 induction cs generalizing d a with
 |nil=>cases a;exact trivial;exact h.elim
 |cons c cs g=>
  cases a with
  |nil=>exact h.elim
  |cons v a=>
   cases d with
   |nil=>cases b
   |cons z d=>
    simp only[hN,b4]at b;refine⟨?_,g b.2 h.2⟩;have e:=h.1
    cases z<;>cases c<;>simp [RU]at b<;>(have f:a1 w F _ v:=e;cases f;rfl)
def abL{P:Program}{T:TypeId}(a:P.underlying T=some .bool)(d:Nat)(p q:Bool):(Op.equalIn (d+1) T (.bool p) (.bool q)).run P w= .ok (p==q) w:=by
 simp [Op.equalIn,fr a]
def run_eql_bool{P:Program}{T:TypeId}(a:P.underlying T=some .bool)(x y:Operand)(p q:Bool):
  (do eqGuard .eql T x y (.bool p) (.bool q);binOp .eql T (.bool p) (.bool q):Sem Value).run P w= .ok (.bool (p==q)) w:=by
 have h:binOp .eql T (.bool p) (.bool q)=(do pure (.bool (<-Op.equal T (.bool p) (.bool q)))):=rfl;rw[h];simp [go_sem,Op.equal,Op.maxDepth,abL a 9999 p q]
def run_neq_bool{P:Program}{T:TypeId}(a:P.underlying T=some .bool)(x y:Operand)(p q:Bool):
  (do eqGuard .neq T x y (.bool p) (.bool q);binOp .neq T (.bool p) (.bool q):Sem Value).run P w= .ok (.bool (!(p==q))) w:=by
 have h:binOp .neq T (.bool p) (.bool q)=(do pure (.bool (!(<-Op.equal T (.bool p) (.bool q))))):=rfl;rw[h];simp [go_sem,Op.equal,Op.maxDepth,abL a 9999 p q]
def aos{o:Oper}{d:BinOp}{T B:TypeId}{t:bS}{x y:Operand}(M:o.op= .binOp d T x y B)(r:gS E.P T t)(h:aY S ι st a w){K:J->Prop}(b:pJ t d (eT (aE st.D x)) (eT (aE st.D y)) K){next:Act->World->Prop}{Q:Exit->Act->World->Prop}
  (L: ∀av v,K av->bz S ι st.k w av v->next (a.put o.dst v) w):o.wp E.P a w next Q:=by
 have e:bz S ι st.k w (eT (aE st.D x)) (a.eval x):=CQ (h.eval x);have f:bz S ι st.k w (eT (aE st.D y)) (a.eval y):=CQ (h.eval y);have c: ∀av v,K av->bz S ι st.k w av v->(do eqGuard d T x y (a.eval x) (a.eval y);binOp d T (a.eval x) (a.eval y):Sem Value).run E.P w= .ok v w->o.wp E.P a w next Q:=λav v H n i=>by
  refine dx (v:=v) (w':=w) ?_ (L av v H n);have:(execOp a.eval o).run E.P w=((do eqGuard d T x y (a.eval x) (a.eval y);binOp d T (a.eval x) (a.eval y):Sem Value).run E.P w).andThen λv w=> .ok (.value v) w:=by
   simp only[execOp,M];rw[Sem.run_bind];rfl
  rw[this,i];rfl
 cases p:eT (aE st.D x)<;>cases q:eT (aE st.D y)<;>rw[p,q]at b<;>rw[p]at e<;>rw[q]at f<;>simp only[pJ]at b<;>try exact b.elim
 .rw[e.int,f.int]at c
  cases l:M6 d with
  |true=>
   rw[l]at b;obtain⟨⟨s,u⟩,b⟩:=b
   cases d<;>first|(cases l;done)|skip
   .exact c _ _ b (bz.mkInt _ _) (by simp [go_sem,shift_shl _ _ _ _ s u])
   .exact c _ _ b (bz.mkInt _ _) (by simp [go_sem,shift_shr _ _ _ _ s u])
  |false=>
  rw[l]at b;simp only[aF,j7]at b;obtain⟨rfl,b⟩:=b;obtain⟨av,v,D,F,G⟩:=avO (E:=E) (S:=S) (ι:=ι) (w:=w) (T:=T) (x:=x) (y:=y) b st.k;exact c av v D F G
 .rw[e.bool,f.bool]at c;have m:=r.d
  cases C:t.d<;>rw[C]at b m<;>simp only at b<;>try exact b.elim
  cases d<;>simp only at b<;>try exact b.elim
  .exact c _ _ b (bz.zl _) (run_eql_bool m _ _ _ _)
  .exact c _ _ b (bz.zl _) (run_neq_bool m _ _ _ _)
 .rw[e.str,f.str]at c
  cases d<;>simp only at b<;>try exact b.elim
  all_goals first
   |exact c _ _ b (bz.zl _) (by simp [go_sem])
   |exact c _ _ b.2 (bz.mkStr _ (by rw[ByteArray.size_append];exact b.1)) (by have:=b.1;have O:dz=549755813888:=rfl;simp [go_sem,Op.stringOp];omega)
 .simp only[aF,b4]at b;obtain⟨⟨⟨I,j⟩,k⟩,b⟩:=b;have A:=r.cmp I;obtain⟨g,n,i⟩:=(show∃g:List Value,a.eval x= .agg g.toArray/\a6 (eE S ι st.k w) _ g from e);obtain⟨us,N,z⟩:=(show∃us:List Value,a.eval y= .agg us.toArray/\a6 (eE S ι st.k w) _ us from f);rw[n,N]at c
  cases d<;>simp only at b<;>try exact b.elim
  .exact c _ _ b (bz.zl _) (A .eql x y _ _ g us w (.inl rfl) j k (Jp j i) (Jp k z))
  .exact c _ _ b (bz.zl _) (A .neq x y _ _ g us w (.inr rfl) j k (Jp j i) (Jp k z))
def aEw{o:Oper}{f:UnOp}{T:TypeId}{x:Operand}(e:o.op= .unOp f T x)(h:aY S ι st a w){K:J->Prop}(b:zQ f (aE st.D x) K){next:Act->World->Prop}{Q:Exit->Act->World->Prop}
  (d: ∀av v,K av->bz S ι st.k w av v->next (a.put o.dst v) w):o.wp E.P a w next Q:=by
 have c:=h.eval x
 cases f<;>cases g:aE st.D x<;>rw[g]at b c<;>simp only[zQ]at b<;>try exact b.elim
 all_goals first
  |exact dx (v:= .bool _) (by simp only[execOp,e,c.bool,Op.unary];rfl) (d _ _ b (bz.zl _))
  |exact dx (v:= .bool _) (by simp only[execOp,e,c.lit,Op.unary];rfl) (d _ _ b (bz.mkLit _))
  |exact dx (v:= .int _ _) (by simp only[execOp,e,c.int,Op.unary,Op.intArith];rfl) (d _ _ b (bz.mkInt _ _))
def azw{o:Oper}{c:Go.Call}{x:Operand}{T:TypeId}{t:bS}(I:o.op= .call c)(H:c.callee= .builtin .len)(G:c.args= #[x])(L:c.argTypes= #[T])(F:gS E.P T t)(h:aY S ι st a w)
  (u:(match t.d with| .slice .. =>true| .string=>true|_=>false)=true) {K:J->Prop} (d:qs st.k (aE st.D x) K) (g:(match t.d,aE st.D x with| .string,.str _=>true| .slice ..,.str _=>false| .string,_=>false|_,_=>true)=true) {next:Act->World->Prop} {Q:Exit->Act->World->Prop}
  (i: ∀av v,K av->bz S ι st.k w av v->next (a.put o.dst v) w):o.wp E.P a w next Q:=by
 have m:=h.eval x;have s:=F.d;have j: ∀v,(Builtin.len_ #[T] o.type #[a.eval x]).run E.P w= .ok v w->(execOp a.eval o).run E.P w= .ok (.value v) w:=λv e=>by
  simp [execOp,I,resolve,H,G,L,invoke,builtin,e]
 cases A:t.d<;>rw[A]at u s g<;>simp only at u<;>try (cases u;done)
 .cases r:aE st.D x<;>rw[r]at d m g<;>simp only[qs]at d<;>simp only at g<;>first|(cases g;done)|skip
  exact dx (j _ (by simp [Builtin.len_,fr s,m.str];rfl)) (i _ _ d (bz.mkInt _ _))
 .obtain⟨l,_⟩:=s
  cases r:aE st.D x<;>rw[r]at d m g<;>simp only[qs]at d<;>simp only at g<;>first|(cases g;done)|(exact d.elim)|skip
  .have p:a1 w (aT S ι st.k w) .aG (a.eval x):=m;generalize e:a.eval x=v at p
   cases p
   exact dx (j _ (by simp [Builtin.len_,fr l,e];rfl)) (i _ _ d (bz.mkInt _ _))
  .rename_i z n f;have p:a1 w (aT S ι st.k w) (.arr z n f) (a.eval x):=m;generalize e:a.eval x=v at p
   cases p with
   |nil=>exact dx (j _ (by simp [Builtin.len_,fr l,e];rfl)) (i _ _ d (bz.mkInt _ _))
   |mt=>exact dx (j _ (by simp [Builtin.len_,fr l,e];rfl)) (i _ _ d (bz.mkInt _ _))
   |arr=>exact dx (j _ (by simp [Builtin.len_,fr l,e];rfl)) (i _ _ d (bz.mkInt _ _))
  .rename_i b k;obtain⟨_,W,z,n,f,B,O,D⟩:=(show eE S ι st.k w (.own b k) _ from m);rw[B]at d;simp only at d;obtain⟨rfl,y⟩:=d;rcases D rfl with⟨q,N,C,M,V,e,U,P,R⟩|⟨rfl,_,e⟩
   .exact dx (j _ (by simp [Builtin.len_,fr l,e];rfl)) (i _ _ y (bz.mkInt _ _))
   .exact dx (j _ (by simp [Builtin.len_,fr l,e];rfl)) (i _ _ y (bz.mkInt _ _))
end
section
variable {E:Env} {S:eb} {ι:Nat->Option Nat} {st:O} {a:Act} {w:World}
def ajm{R:J->Value->Prop} : ∀(cs:List J) (f:List Value) (e:List J) (us:Array Value) (a j:Nat),a6 R cs f->a6 R e us.toList->a+j+cs.length<=e.length->
  a6 R (r4 e cs (a+j)) ((f.zipIdx j).foldl (λcs (c,j)=>cs.setIfInBounds (a+j) c) us).toList
 |[],[],e,us,a,j,_,h,_=>h
 |[],_::_,_,_,_,_,h,_,_=>h.elim
 |_::_,[],_,_,_,_,h,_,_=>h.elim
 |c::cs,v::f,e,us,a,j,h,k,n=>by
  simp only[r4,List.zipIdx_cons,IH];have:=ajm cs f (e.set (a+j) c) (us.setIfInBounds (a+j) v) a (j+1) h.2 (by
   refine a6.mk (by simp [k.length]) λi x y d b=> ?_;simp only[Array.toList_setIfInBounds]at b
   by_cases m:i=a+j
   .subst m;rw[uQ]at d b;simp only[lp]at d b
    split at d<;>split at b<;>first|(cases d;cases b;exact h.1)|(cases d;done)|(cases b;done)
   .rw[DA Ω]at d b;obtain⟨o,g,l⟩:=k.get i x d;rw[b]at g;cases g;exact l) (by simp at n |-;omega)
  rwa [show a+(j+1)=a+j+1 by omega]at this
def aaH{j:List (Nat×Nat)}(h:aY S ι st a w): ∀(e:List (Nat×Operand)) (cs:List J) (us:Array Value) (K:List J->Prop),a6 (eE S ι st.k w) cs us.toList->nw j st.D e cs K->
  ∃c f,K c/\a6 (eE S ι st.k w) c f.toList/\Instr.fill (j[·]?) us (e.map λ(i,x)=>(i,a.eval x))=some f
 |[],cs,us,K,d,b=>⟨cs,us,b,d,rfl⟩
 |(i,x)::e,cs,us,K,d,b=>by
  simp only[nw]at b
  cases g:j[i]? with
  |none=>rw[g]at b;exact b.elim
  |some q=>
   obtain⟨s,V⟩:=q;rw[g]at b;simp only[aF,b4,j7]at b;obtain⟨⟨⟨p,r⟩,t⟩,b⟩:=b;have k:=(h.eval x).cells p;have u:(a.eval x).cells.size=V:=by rw[<-r,k.length];simp
   have v:us.size=cs.length:=by rw[d.length];simp
   have l:=ajm (cellsOf (aE st.D x)) (a.eval x).cells.toList cs us s 0 k d Ω;rw[mD]at l;obtain⟨c,f,m,n,o⟩:=aaH h e _ _ K l b;refine⟨c,f,m,n,?_⟩;simp only[IL,Instr.fill,g];rw[aS (by simp;omega),<-o]
   congr 1
   rw[<-Array.foldl_toList];simp
def aoA{o:Oper}{T:TypeId}{t:bS}{b:Array (Nat×Operand)}{f:List (Nat×Nat)}(r:o.op= .build T b)(d:gS E.P T t)(s:t.d= .struct f)(h:aY S ι st a w){K:J->Prop}
  (n:nw f st.D b.toList t.zero λcs=>K (.agg cs)) {next:Act->World->Prop} {Q:Exit->Act->World->Prop}
  (q: ∀av v,K av->bz S ι st.k w av v->next (a.put o.dst v) w):o.wp E.P a w next Q:=by
 have e:=d.d;rw[s]at e;obtain⟨C,u,p,_⟩:=e;obtain⟨i,z,m,_,y,D,A⟩:=d.info;obtain⟨B,c,g,j,k⟩:=aaH h b.toList t.zero z.cells (λcs=>K (.agg cs)) (A.imp λ_ _=>ly.rel) n;refine dx (v:= .agg c) (w':=w) ?_ (q _ _ g ⟨c.toList,by simp,j⟩);have l:E.P.built T (b.map λ(i,x)=>(i,a.eval x)).toList=some c:=by
  simp only[Program.built,m,u,y,p];rw[<-k];simp
 simp only[execOp,r];rw[Sem.run_bind,run_build w T _ c l];rfl
end
end Go.af
