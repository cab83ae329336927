import Derived.KernelRfl
import Derived.Tactics
import Derived.Orders
import Derived.Below
import Derived.Laws.Cells
import Derived.Laws.World
import Derived.Laws.Rows
import Derived.WalkLawsBesides
import Derived.Laws.Tables
open Go.IntKind (i64 u64 u8)
open Int (toNat)
set_option maxRecDepth 100000
set_option maxHeartbeats 4000000
set_option linter.all false
noncomputable section
namespace Go
def al{p:Prop}[a:Decidable p]:decide p=true->p:=of_decide_eq_true
def hy{p:Prop}[a:Decidable p]:decide p=false->¬p:=of_decide_eq_false
def bm{p:Prop}[a:Decidable p]:p->decide p=true:=decide_eq_true
def a8{p:Prop}[a:Decidable p]:¬p->decide p=false:=decide_eq_false
def bP{α:Type _}[BEq α][LawfulBEq α]{a b:α}:(a != b)=false->a=b:=bne_eq_false_iff_eq.1
def dk{α:Type _}[BEq α][ReflBEq α]{a b:α}:(a==b)=false->a≠b:=ne_of_beq_false
def dJ(n:Nat):¬n<0:=Nat.not_lt_zero n
abbrev z:Type:=ByteArray
def b2:=@Bool.and_eq_true
def aB:=@cond_false
def cG:=@List.getElem?_eq_getElem
def au:=@cond_true
def bH:=@Nat.le_refl
def ey:=@Nat.eq_of_beq_eq_true
def d_:=@List.all_eq_true
def fk:=@List.getElem?_eq_none
def dj:=@Nat.zero_add
def fr:=@List.mem_of_getElem?
def bg:=@if_pos
def aW:=@if_neg
def hH:=@Nat.le_of_ble_eq_true
def cd:=@Nat.zero_le
def h4:=@Nat.mul_le_mul_right
def gN:=@Int.toNat_natCast
def hj:=@Nat.lt_of_lt_of_le
def fN:=@run_underlying
def hk:=@List.getElem?_eq_some_iff
def bz:=@Int.le_refl
def hI:=@Option.some.injEq
def hJ:=@List.getElem?_map
def ec:=@Nat.le_trans
def ga:=@Nat.lt_or_ge
def db:=@List.length_append
def fj:=@List.mem_append
def dE:=@List.length_cons
def j4:=@Bool.not_eq_true'
def kS:=@decide_eq_true_eq
def e5:=@List.append_assoc
def ig:=@Nat.add_mul
def nt:=@Option.map_eq_some_iff
def r2:=@Array.getElem?_append_left
def r3:=@Array.getElem?_eq_getElem
def ih:=@List.mem_cons
def tL:=@Array.getElem?_eq_some_iff
def mL:=@List.mem_flatMap
def gx:=@List.length_nil
def gO:=@List.flatMap_cons
def jK:=@Nat.succ_mul
def mM:=@Option.getD_some
def iE:=@List.append_nil
def wb:=@List.getElem?_append_left
def jL:=@Nat.blt_eq
def qz:=@List.take_append_drop
def oa:=@List.cons.injEq
def qA:=@List.getElem?_drop
def jr:=@List.length_take
def ew:=@beq_eq_false_iff_ne
def wc:=@List.getElem?_toArray
def r4:=@List.size_toArray
def nu:=@Nat.add_zero
def l_:=@List.getElem?_of_mem
def Bs:=@List.getElem?_take_of_lt
def r5:=@Nat.le_add_right
def ob:=@Nat.beq_refl
def E2:=@List.getElem?_append_right
def J4:=@Array.getElem?_setIfInBounds_ne
def we:=@List.getElem?_set
def tM:=@Option.map_some
def r6:=@List.nil_append
def tN:=@heap_alloc_new
def yq:=@Array.size_append
def qB:=@Nat.le_succ_of_le
def J5:=@Array.getD_eq_getD_getElem?
def oc:=@List.mem_map
def r7:=@Nat.add_assoc
def yr:=@Nat.eq_zero_or_pos
def E3:=@List.singleton_append
def r8:=@List.drop_eq_getElem_cons
def E4:=@List.getElem?_set_ne
def qC:=@Array.ext'
def E5:=@Bool.or_eq_false_iff
def ma:=@if_true
def Bt:=@List.flatten_cons
def od:=@Prod.mk.injEq
def J6:=@List.length_eq_zero_iff
def tO:=@Int.eq_ofNat_of_zero_le
def E6:=@List.getElem?_range
def tP:=@List.flatMap_append
def oe:=@if_false
def mb:=@List.getElem_mem
def wg:=@List.mem_range
def ys:=@List.drop_drop
def wh:=@Nat.mul_comm
def ij:=@Option.some.inj
def E7:=@List.getD_eq_getElem?_getD
def yt:=@List.ext_getElem?
def Bu:=@List.mem_of_mem_drop
def gy:=@beq_iff_eq
def wi:=@cell_of_row
def r9:=@beq_self_eq_true
def tQ:=@List.not_mem_nil
def r_:=@List.length_drop
def yu:=@List.cons_append
def J7:=@run_firstCells_some
def J8:=@List.map_congr_left
def Bv:=@List.all_cons
def J9:=@List.filter_append
def QR:=@Array.getElem?_eq_none
def yo:=@decide_true
def yp:=@grownCap_ge
def QL:=@Nat.ne_of_beq_eq_false
def aaS:=@List.eq_nil_of_length_eq_zero
def Bp:=@decide_false
def QM:=@Array.getElem?_toList
def aJH:=@Int.lt_irrefl
def r1:=@wp_mono
def QN:=@Int.toNat_of_nonneg
def Bq:=@List.foldl_cons
def JZ:=@List.mem_filter
def J0:=@Bool.or_eq_true
def aaT:=@List.getElem?_zip_eq_some
def QO:=@run_loadCells_list
def J3:=@List.getElem?_take
def E0:=@wpList_plain
def aaU:=@List.getElem?_replicate
def E1:=@Nat.sub_mul
def Br:=@List.map_cons
def QP:=@Nat.div_eq_of_lt
def QQ:=@Nat.mod_eq_of_lt
abbrev ε:ByteArray:=⟨#[]⟩
theorem Ω{p:Prop}(h:p:=by omega):p:=h
theorem Ζ{p:Prop}(h:p:=by contradiction):p:=h
theorem Χ{p:Prop}(h:p:=by simp):p:=h
theorem Η{p:Prop}(h:p:=by simp [Op.operands]):p:=h
theorem Θ{p:Prop}(h:p:=by first|(with_reducible (repeat first|assumption|apply en|apply eM|apply eW|apply eP|apply gV|apply gL|apply gM|apply hd|apply gK|apply hf|apply hb|apply hc|apply hF|apply h1|apply h2|apply mK|apply l9|apply jn|apply B|apply QA);done)|assumption):p:=h
theorem Γ{p:Prop}(h:p:=by repeat first|assumption|apply en|apply eM|apply eW|apply eP|apply kO|apply uw|apply ux|apply v5|apply ss|apply xX|apply nr|apply th|apply vQ|apply vP|apply tA|apply s7|apply s8|apply jn|apply vY|apply mJ|apply And.intro|apply gV|apply gL|apply gM|apply B|apply hd|apply gK|apply hf|apply hb|apply hc|apply aFj|apply aFp):p:=h
theorem Λ{p:Prop}(h:p:=by first|assumption|exact iZ.z Ψ):p:=h
theorem Φ{p:Prop}(h:p:=by first|assumption|exact iY.y Ψ):p:=h
theorem Δ{p:Prop}(h:p:=by decide):p:=h
theorem Ξ{p:Prop}(h:p:=by kernel_rfl):p:=h
theorem Ψ{p:Prop}(h:p:=by assumption):p:=h
instance:CoeFun IntKind λ_=>Int->Int:=⟨IntKind.wrap⟩
end Go
namespace Go.ag
open Go Go.RowKit
inductive J where
 |undef
 |int (k:IntKind) (n:Int)
 |bool (b:Bool)
 |lit (b:Bool)
 |gone
 |str (s:ByteArray)
 |aH
 |arr (af n:Nat) (f:Nat->List J)
 |own (b n:Nat)
 |ad (ro:Bool) (af n:Nat) (f:Nat->List J)
 |ptr (b o:Nat)
 |gr (b n i o:Nat)
 |ref (cs:List J)
 |fn (f:FuncId) (kb:List J)
 |agg (cs:List J)
 |du (cQ:List J)
 |kn
 |kX (af n:Nat) (f:Nat->List J)
instance:Inhabited J:=⟨.undef⟩
abbrev _root_.Go.c(n:Int):J:= .int .i64 n
def xK:List (Nat×List J):=[(0,[.int .i64 22,.str ⟨#[]⟩,.str ⟨#[]⟩,.str ⟨#[]⟩,.int .i64 0])]
def rD(g:Nat):List (Nat×List J)->J
 |[]=> .undef
 |x::l=>match Nat.beq g x.1 with
  |true=> .ref x.2
  |false=>rD g l
abbrev dL:Nat:=549755813888
def one:Value->Bool
 | .agg _=>false
 | .tuple _=>false
 |_=>true
def bb{α β:Type}(R:α->β->Prop):List α->List β->Prop
 |[],[]=>True
 |a::aa,b::c=>R a b/\bb R aa c
 |_,_=>False
def bb.length{α β:Type}{R:α->β->Prop} : ∀{aa:List α} {a:List β},bb R aa a->aa.length=a.length
 |[],[],_=>rfl
 |_::_,_::_,h=>by simp [bb.length h.2]
 |[],_::_,h=>h.elim
 |_::_,[],h=>h.elim
def bb.imp{α β:Type}{R c:α->β->Prop}(e: ∀a b,R a b->c a b): ∀{aa:List α} {d:List β},bb R aa d->bb c aa d
 |[],[],_=>trivial
 |_::_,_::_,h=>⟨e _ _ h.1,bb.imp e h.2⟩
 |[],_::_,h=>h.elim
 |_::_,[],h=>h.elim
def bb.get{α β:Type}{R:α->β->Prop} : ∀{aa:List α} {c:List β},bb R aa c-> ∀(i:Nat) (a:α),aa[i]? =some a-> ∃b,c[i]? =some b/\R a b
 |[],[],_,i,a,h=>by simp at h
 |x::aa,y::c,h,0,a,d=>by simp at d;subst d;exact⟨y,by simp,h.1⟩
 |x::aa,y::c,h,i+1,a,d=>by simpa using bb.get h.2 i a (by simpa using d)
 |[],_::_,h,_,_,_=>h.elim
 |_::_,[],h,_,_,_=>h.elim
def bb.mk{α β:Type}{R:α->β->Prop} : ∀{aa:List α} {d:List β},aa.length=d.length->(∀(i:Nat) (a:α) (b:β),aa[i]? =some a->d[i]? =some b->R a b)->bb R aa d
 |[],[],_,_=>trivial
 |a::aa,b::d,c,h=>⟨h 0 a b rfl rfl,bb.mk (by simpa using c) λi a' b' e f=>h (i+1) a' b' (by simpa using e) (by simpa using f)⟩
 |[],_::_,c,_=>by simp at c
 |_::_,[],c,_=>by simp at c
def bb.append{α β:Type}{R:α->β->Prop} : ∀{aa:List α} {a:List β} {cs:List α} {b:List β},bb R aa a->bb R cs b->bb R (aa++cs) (a++b)
 |[],[],_,_,_,h=>h
 |_::_,_::_,_,_,h,k=>⟨h.1,bb.append h.2 k⟩
 |[],_::_,_,_,h,_=>h.elim
 |_::_,[],_,_,h,_=>h.elim
inductive a6 (w:World) (F:Nat->Prop):J->Value->Prop
 |int (k:IntKind) (n:Int):a6 w F (.int k n) (.int k n)
 |bool (b:Bool):a6 w F (.bool b) (.bool b)
 |lit (b:Bool):a6 w F (.lit b) (.bool b)
 |str (s:ByteArray) (jH:s.size<=dL):a6 w F (.str s) (.string s)
 |aH:a6 w F .aH (.slice none 0 0)
 |kn:a6 w F .kn (.pointer none)
 |kX (af n:Nat) (f:Nat->List J) (p:Option Addr) (c:Nat) (h:a6 w F (.arr af n f) (.slice p n c)) (kk:c=n):a6 w F (.kX af n f) (.slice p n c)
 |nil (af:Nat) (f:Nat->List J):a6 w F (.arr af 0 f) (.slice none 0 0)
 |mt (af:Nat) (f:Nat->List J) (a:Addr) (c:Nat):a6 w F (.arr af 0 f) (.slice (some a) 0 c)
 |arr (af n:Nat) (f:Nat->List J) (b o c:Nat) (g:Nat->Nat->J) (cQ:Nat->Nat->Value) (gT:n<=c) (jH:n<=dL) (o9:0<n->F b)
   (fw: ∀i j,i<n->j<af->(f i)[j]? =some (g i j)) (hU: ∀i j,i<n->j<af->w.cell? ⟨b,o+i*af+j,none⟩=some (cQ i j))
   (fG: ∀i j,i<n->j<af->a6 w F (g i j) (cQ i j)):a6 w F (.arr af n f) (.slice (some ⟨b,o,none⟩) n c)
 |ref (cs:List J) (b o:Nat) (g:Nat->J) (cQ:Nat->Value) (o9:F b) (fw: ∀j,j<cs.length->cs[j]? =some (g j))
   (hU: ∀j,j<cs.length->w.cell? ⟨b,o+j,none⟩=some (cQ j)) (fG: ∀j,j<cs.length->a6 w F (g j) (cQ j)):a6 w F (.ref cs) (.pointer (some ⟨b,o,none⟩))
 |fn (f:FuncId) (kb:List J) (cQ:List Value) (g:Nat->J) (u:Nat->Value) (nV:cQ.length=kb.length) (fw: ∀j,j<kb.length->kb[j]? =some (g j))
   (hU: ∀j,j<kb.length->cQ[j]? =some (u j)) (fG: ∀j,j<kb.length->a6 w F (g j) (u j)):a6 w F (.fn f kb) (.func (.func f) #[] cQ.toArray)
def a6.mono{w w':World}{F F':Nat->Prop}(B: ∀x,F x->F' x)(t: ∀x o,F x->w'.cell? ⟨x,o,none⟩=w.cell? ⟨x,o,none⟩){av:J}{v:Value}(h:a6 w F av v):a6 w' F' av v:=by
 induction h with
 |int k n=>exact .int k n
 |bool b=>exact .bool b
 |lit b=>exact .lit b
 |str s y=>exact .str s y
 |aH=>exact .aH
 |kn=>exact .kn
 |kX e n f p c h t d=>exact .kX e n f p c d t
 |nil e f=>exact .nil e f
 |mt e f a c=>exact .mt e f a c
 |arr e n f b o c g r G y q l m A d=>
  exact .arr e n f b o c g r G y (λh=>B _ (q h)) l (λi j D z=>by rw[t b _ (q Ω)];exact m i j D z) d
 |ref cs b o g r q l m A d=>
  exact .ref cs b o g r (B _ q) l (λj z=>by rw[t b _ q];exact m j z) d
 |fn f C r g u E l m A d=>exact .fn f C r g u E l m d
def gm(w:World)(F:Nat->Prop):J->Value->Prop
 | .undef,_=>False
 | .agg cs,v=> ∃a:List Value,v= .agg a.toArray/\bb (a6 w F) cs a
 |av,v=>a6 w F av v
def gm.mono{w w':World}{F F':Nat->Prop}(a: ∀x,F x->F' x)(b: ∀x o,F x->w'.cell? ⟨x,o,none⟩=w.cell? ⟨x,o,none⟩){av:J}{v:Value}(h:gm w F av v):gm w' F' av v:=by
 cases av<;>simp only[gm]at* <;>first|exact h|exact h.mono a b|skip
 obtain⟨c,rfl,h⟩:=h;exact⟨c,rfl,h.imp λ_ _=>a6.mono a b⟩
def kW(w:World)(F:Nat->Prop):J->Value->Prop
 | .du aa,v=> ∃a:List Value,v= .tuple a.toArray/\bb (gm w F) aa a
 |av,v=>gm w F av v
def kW.mono{w w':World}{F F':Nat->Prop}(a: ∀x,F x->F' x)(b: ∀x o,F x->w'.cell? ⟨x,o,none⟩=w.cell? ⟨x,o,none⟩){av:J}{v:Value}(h:kW w F av v):kW w' F' av v:=by
 cases av
 case du aa=>
  obtain⟨us,rfl,c⟩:=h;exact⟨us,rfl,c.imp λ_ _=>gm.mono a b⟩
 all_goals (simp only[kW]at h |-;exact gm.mono a b h)
def sj(b:Nat)(w:World)(F:Nat->Prop):J->Value->Prop
 | .ad _ a n f,v=>(n=0/\v= .slice none 0 0)\/ ∃x c C T,b<=x/\x<w.heap.size/\v= .slice (some ⟨x,0,none⟩) n c/\n<=c/\n<=dL/\w.heap[x]? =some (.cells C T (0,0))/\C.size=c*a/\
   ∀i j,i<n->j<a-> ∃av u,(f i)[j]? =some av/\C[i*a+j]? =some u/\a6 w (λy=>F y/\y≠x) av u
 |av,v=>kW w F av v
structure Fb (w:World) (F:Nat->Prop):Prop where
 lt: ∀x,F x->x<w.heap.size
 xJ: ∀g,rD g xK= .undef\/a6 w F (rD g xK) (.pointer (some ⟨g,0,none⟩))
def fR(P:Program)(f:FuncId)(aa:List J)(r:J):Prop:=
 ∀(w:World) (F:Nat->Prop) (a:List Value),Fb w F->bb (gm w F) aa a->
  Calls P f a.toArray w λe w'=> ∃v,e= .returned v/\sj w.heap.size w' (λx=>F x\/(w.heap.size<=x/\x<w'.heap.size)) r v/\Below w.heap.size w w'
abbrev Heap:=List (List J)
def M(H:Heap)(b o:Nat):J:=(H.getD b []).getD o .undef
def cv:J->Bool
 | .ad .. =>true
 |_=>false
def qy:J->Bool
 | .undef=>false
 | .ad a _ _ _=> !a
 |_=>true
def n8(H:Heap)(b:Nat):Prop:=(cv (M H b 0)=true/\qy (M H b 0)=true)\/(cv (M H b 0)=false/\ ∃o,qy (M H b o)=true)
def pr{H H':Heap}{b:Nat}(h: ∀o,M H' b o=M H b o)(k:n8 H' b):n8 H b:=by
 unfold n8 at*
 simpa only[h]using k
def wu(a:Nat->Prop)(B:Nat)(ι:Nat->Option Nat)(H:Heap)(w:World)(x:Nat):Prop:=(a x\/B<=x)/\x<w.heap.size/\ ∀b,n8 H b->ι b≠some x
def jO(ι:Nat->Option Nat)(H:Heap)(w:World)(F:Nat->Prop):J->Value->Prop
 | .ptr b o,v=>cv (M H b 0)=false/\ ∃x,ι b=some x/\v= .pointer (some ⟨x,o,none⟩)
 |av,v=>a6 w F av v
def cu(ι:Nat->Option Nat)(H:Heap)(w:World)(F:Nat->Prop):J->Value->Prop
 | .undef,v=>one v=true
 | .gone,v=>one v=true
 | .own b k,v=>one v=true/\ ∃d a n f,M H b 0= .ad d a n f/\k<=n/\(k=n->(∃x c C T,ι b=some x/\v= .slice (some ⟨x,0,none⟩) n c/\n<=c/\w.heap[x]? =some (.cells C T (0,0))/\C.size=c*a)\/
   (n=0/\ι b=none/\v= .slice none 0 0))
 | .ptr b o,v=>cv (M H b 0)=false/\ ∃x,ι b=some x/\v= .pointer (some ⟨x,o,none⟩)
 | .gr b k i o,v=>one v=true/\ ∃d a n f,M H b 0= .ad d a n f/\k<=n/\(k=n-> ∃x,ι b=some x/\v= .pointer (some ⟨x,i*a+o,none⟩))
 | .fn f g,v=> ∃e:List Value,v= .func (.func f) #[] e.toArray/\bb (jO ι H w F) g e
 | .agg _,_=>False
 | .du _,_=>False
 | .ad ..,_=>False
 |av,v=>a6 w F av v
def fC(ι:Nat->Option Nat)(H:Heap)(w:World)(F:Nat->Prop)(b o:Nat):J->Prop
 | .undef=>True
 | .ad c a n f=>o=0/\((c=true/\a=0/\ι b=none)\/n<=dL/\((n=0/\ι b=none)\/ ∃x C T,ι b=some x/\w.heap[x]? =some (.cells C T (0,0))/\
   ∀i j,i<n->j<a-> ∃av v,(f i)[j]? =some av/\C[i*a+j]? =some v/\a6 w F av v))
 |av=>cv (M H b 0)=false/\ ∃x v,ι b=some x/\w.cell? ⟨x,o,none⟩=some v/\w.frozen? ⟨x,o,none⟩=false/\cu ι H w F av v
def g1(ι:Nat->Option Nat)(H:Heap)(w:World)(F:Nat->Prop):J->Value->Prop
 | .agg cs,v=> ∃a:List Value,v= .agg a.toArray/\bb (cu ι H w F) cs a
 | .gone,_=>False
 |av,v=>cu ι H w F av v
def eZ(ι:Nat->Option Nat)(H:Heap)(w:World)(F:Nat->Prop):J->Value->Prop
 | .undef,_=>True
 | .gone,v=>v=undef
 | .du aa,v=> ∃a:List Value,v= .tuple a.toArray/\bb (g1 ι H w F) aa a
 |av,v=>g1 ι H w F av v
structure O where
 n:List J
 k:Heap
structure eS (ι:Nat->Option Nat) (H:Heap) (w:World) (F:Nat->Prop) (aC:Nat->Option Nat) (H':Heap) (w':World) (F':Nat->Prop):Prop where
 iL: ∀x,F x->F' x
 cell: ∀x o,F x->w'.cell? ⟨x,o,none⟩=w.cell? ⟨x,o,none⟩
 box: ∀b x,ι b=some x->cv (M H b 0)=false->aC b=some x/\cv (M H' b 0)=false
 arr: ∀b ro af n f,M H b 0= .ad ro af n f-> ∃po lu n' gD,M H' b 0= .ad po lu n' gD/\n<=n'/\
  (n=n'->lu=af/\aC b=ι b/\ ∀x C T,ι b=some x->w.heap[x]? =some (.cells C T (0,0))-> ∃lv:Array Value,w'.heap[x]? =some (.cells lv T (0,0))/\lv.size=C.size)
structure js (qH:Nat->Prop) (B:Nat) (w w':World):Prop where
 os:w'.os=w.os
 tape:w'.tape=w.tape
 output:w'.output=w.output
 size:w.heap.size<=w'.heap.size
 block: ∀k,k<B-> ¬qH k->w'.heap[k]? =w.heap[k]?
def js.refl(a:Nat->Prop)(B:Nat)(w:World):js a B w w:=⟨rfl,rfl,rfl,bH _,λ_ _ _=>rfl⟩
def js.of{a:Nat->Prop}{B:Nat}{w w':World}(h:Below B w w'):js a B w w':=⟨h.os,h.tape,h.output,h.size,λk b _=>h.block k b⟩
def js.then{d:Nat->Prop}{B:Nat}{a b c:World}(h:js d B a b)(k:js d B b c):js d B a c:=
 ⟨k.os.trans h.os,k.tape.trans h.tape,k.output.trans h.output,ec h.size k.size,λi e f=>(k.block i e f).trans (h.block i e f)⟩
def js.trans{d:Nat->Prop}{B:Nat}{a b c:World}(h:js d B a b)(k:Below B b c):js d B a c:=h.then (.of k)
def js.alloc{b:Nat->Prop}{B:Nat}{a w:World}(h:js b B a w)(c:B<=w.heap.size)(o:Obj):js b B a (w.alloc o):=
 h.trans ((Below.refl B w).alloc c o)
def js.setCell{b:Nat->Prop}{B:Nat}{a w:World}(h:js b B a w){p:Addr}(d:B<=p.block\/b p.block)(u:Value):js b B a (w.setCell p u):=
 h.then ⟨rfl,rfl,rfl,by simp [World.setCell],λk f c=>Below.heap_setCell _ _ _ _ (λe=>d.elim (λh=>by omega) λh=>c (by rw[e];exact h))⟩
def js.plain{b:Nat->Prop}{B:Nat}{a w:World}(h:js b B a w)(d: ∀k,¬b k):Below B a w:=⟨h.os,h.tape,h.output,h.size,λk c=>h.block k c (d k)⟩
structure ez where
 qE:Nat->Prop
 fy:World
 lt: ∀x,qE x->x<fy.heap.size
 qH:Nat->Prop
 aEq: ∀x,qH x->qE x
 j6:Nat->Option Nat
 wv:Heap
 abj:Nat->Prop
 sq: ∀b x,j6 b=some x->b<wv.length
 xJ: ∀g,rD g xK= .undef\/a6 fy abj (rD g xK) (.pointer (some ⟨g,0,none⟩))
structure a2 (S:ez) (ι:Nat->Option Nat) (st:O) (a:Act) (w:World):Prop where
 below:js S.qH S.fy.heap.size S.fy w
 defers:a.defers=[]
 n: ∀(t:Nat) (av:J),st.n[t]? =some av-> ∃v,a.tmps[t]? =some v/\eZ ι st.k w (wu S.qE S.fy.heap.size ι st.k w) av v
 k: ∀b o,fC ι st.k w (wu S.qE S.fy.heap.size ι st.k w) b o (M st.k b o)
 inj: ∀b b' x,ι b=some x->ι b'=some x->b=b'
 fresh: ∀b x,ι b=some x->(S.fy.heap.size<=x\/S.qH x)/\x<w.heap.size
 hn: ∀b x,ι b=some x->b<st.k.length
 hs:eS S.j6 S.wv S.fy S.abj ι st.k w (wu S.qE S.fy.heap.size ι st.k w)
def a2.own{S:ez}{ι:Nat->Option Nat}{st:O}{a:Act}{w:World}(h:a2 S ι st a w){b x:Nat}(c:ι b=some x):S.qE x\/S.fy.heap.size<=x:=
 (h.fresh b x c).1.elim .inr λh=> .inl (S.aEq x h)
def agR: ∀(g:Nat) (l:List (Nat×List J)),rD g l= .undef\/ ∃cs,rD g l= .ref cs
 |_,[]=> .inl rfl
 |g,x::l=>by
  unfold rD
  cases Nat.beq g x.1
  .exact agR g l
  .exact .inr ⟨_,rfl⟩
def a2.xJ{S:ez}{ι:Nat->Option Nat}{st:O}{a:Act}{w:World}(h:a2 S ι st a w)(g:Nat):rD g xK= .undef\/a6 w (wu S.qE S.fy.heap.size ι st.k w) (rD g xK) (.pointer (some ⟨g,0,none⟩)):=
 (S.xJ g).imp id λk=>k.mono h.hs.iL h.hs.cell
def a2.T1{S:ez}{ι:Nat->Option Nat}{st:O}{a:Act}{w:World}(h:a2 S ι st a w):Fb w (wu S.qE S.fy.heap.size ι st.k w):=⟨λ_ b=>b.2.1,h.xJ⟩
def pack(us:List Value):Value:=if h:us.toArray.size=1 then us.toArray[0]else .tuple us.toArray
def gn(P:Program)(f:FuncId)(aa:List J)(H:Heap)(rs:List J)(H':Heap):Prop:=
 ∀(S:ez) (ι:Nat->Option Nat) (w:World) (a:List Value),S.wv.length<=H.length->a.length=aa.length->a2 S ι ⟨aa,H⟩ {tmps:=a.toArray,defers:=[]} w->
  Calls P f a.toArray w λe w'=> ∃us aC,e= .returned (pack us)/\us.length=rs.length/\a2 S aC ⟨rs,H'⟩ {tmps:=us.toArray,defers:=[]} w'
section
variable {ι aC:Nat->Option Nat} {H H':Heap} {w w':World} {F F':Nat->Prop}
def eS.refl:eS ι H w F ι H w F:=⟨λ_ h=>h,λ_ _ _=>rfl,λ_ _ h k=>⟨h,k⟩,λ_ a b n f h=>⟨a,b,n,f,h,bH _,λ_=>⟨rfl,rfl,λ_ C _ _ h=>⟨C,h,rfl⟩⟩⟩⟩
def eS.trans{ι aC eQ:Nat->Option Nat}{H H' lz:Heap}{w w' fq:World}{F F' oh:Nat->Prop}(h:eS ι H w F aC H' w' F')(k:eS aC H' w' F' eQ lz fq oh):eS ι H w F eQ lz fq oh:=by
 refine⟨λx a=>k.iL x (h.iL x a),λx o a=>(k.cell x o (h.iL x a)).trans (h.cell x o a),λb x a g=>k.box b x (h.box b x a g).1 (h.box b x a g).2,λb M P n f A=> ?_⟩;have⟨N,Q,c,q,s,S,t⟩:=h.arr b M P n f A;have⟨O,R,i,r,D,U,E⟩:=k.arr b N Q c q s;refine⟨O,R,i,r,D,Ω,λe=> ?_⟩;have m:n=c:=by omega
 have p:c=i:=by omega
 have⟨B,d,u⟩:=t m;have⟨L,G,I⟩:=E p;refine⟨L.trans B,G.trans d,λx C T a z=> ?_⟩;have⟨j,v,y⟩:=u x C T a z;have⟨l,J,K⟩:=I x j T (by rw[d];exact a) v;exact⟨l,J,K.trans y⟩
def jO.step(h:eS ι H w F aC H' w' F'){av:J}{v:Value}(k:jO ι H w F av v):jO aC H' w' F' av v:=by
 cases av<;>simp only[jO]at* <;>first|exact k.mono h.iL h.cell|skip
 obtain⟨a,x,b,c⟩:=k;exact⟨(h.box _ _ b a).2,x,(h.box _ _ b a).1,c⟩
def cu.step(h:eS ι H w F aC H' w' F'){av:J}{v:Value}(k:cu ι H w F av v):cu aC H' w' F' av v:=by
 cases av<;>simp only[cu]at* <;>first|exact k.mono h.iL h.cell|exact k|skip
 .obtain⟨s,K,L,n,f,a,b,d⟩:=k;have⟨t,u,j,o,p,A,q⟩:=h.arr _ _ _ _ _ a;refine⟨s,t,u,j,o,p,Ω,λe=> ?_⟩;have l:n=j:=by omega
  have⟨r,m,B⟩:=q l;subst r;rcases d Ω with⟨x,c,C,T,g,i,y,G,I⟩|⟨g,i,y⟩
  .obtain⟨z,D,E⟩:=B x C T g G;exact .inl ⟨x,c,z,T,by rw[m];exact g,by rw[<-l];exact i,Ω,D,by rw[E];exact I⟩
  .exact .inr ⟨Ω,by rw[m];exact i,y⟩
 .obtain⟨a,x,b,d⟩:=k;exact⟨(h.box _ _ b a).2,x,(h.box _ _ b a).1,d⟩
 .obtain⟨s,K,L,n,f,a,b,d⟩:=k;have⟨t,u,j,o,p,A,q⟩:=h.arr _ _ _ _ _ a;refine⟨s,t,u,j,o,p,Ω,λe=> ?_⟩;have l:n=j:=by omega
  have⟨x,g,i⟩:=d Ω;have⟨r,m,_⟩:=q l;subst r;exact⟨x,by rw[m];exact g,i⟩
 .obtain⟨M,a,b⟩:=k;exact⟨M,a,b.imp λ_ _=>jO.step h⟩
def a6.one{av:J}{v:Value}(k:a6 w F av v):one v=true:=by cases k<;>rfl
def cu.one{av:J}{v:Value}(k:cu ι H w F av v):one v=true:=by
 cases av<;>simp only[cu]at k<;>first|exact k|exact k.one|exact k.1|(obtain⟨_,_,_,rfl⟩:=k;rfl)|(obtain⟨_,rfl,_⟩:=k;rfl)
def g1.step(h:eS ι H w F aC H' w' F'){av:J}{v:Value}(k:g1 ι H w F av v):g1 aC H' w' F' av v:=by
 cases av<;>simp only[g1]at* <;>first|exact k.step h|skip
 obtain⟨c,a,b⟩:=k;exact⟨c,a,b.imp λ_ _=>cu.step h⟩
def eZ.step(h:eS ι H w F aC H' w' F'){av:J}{v:Value}(k:eZ ι H w F av v):eZ aC H' w' F' av v:=by
 cases av<;>simp only[eZ]at* <;>first|exact g1.step h k|exact k|skip
 obtain⟨c,a,b⟩:=k;exact⟨c,a,b.imp λ_ _=>g1.step h⟩
def fC.step(h:eS ι H w F aC H' w' F'){b o:Nat}{av:J}(n:cv av=false->aC b=ι b)(m: ∀x,ι b=some x->cv av=false->w'.cell? ⟨x,o,none⟩=w.cell? ⟨x,o,none⟩/\w'.frozen? ⟨x,o,none⟩=w.frozen? ⟨x,o,none⟩)
  (c:cv av=true->aC b=ι b/\ ∀x,ι b=some x->w'.heap[x]? =w.heap[x]?) (k:fC ι H w F b o av):fC aC H' w' F' b o av:=by
 cases av<;>simp only[fC]at* <;>try exact k
 all_goals first
  |(obtain⟨d,x,v,a,e,f,g⟩:=k
    exact⟨(h.box _ _ a d).2,x,v,by rw[n rfl];exact a,by rw[(m x a rfl).1];exact e,by rw[(m x a rfl).2];exact f,cu.step h g⟩)
  |skip
 obtain⟨d,l|⟨t,k⟩⟩:=k
 .exact⟨d,.inl ⟨l.1,l.2.1,by rw[(c rfl).1];exact l.2.2⟩⟩
 refine⟨d,.inr ⟨t,?_⟩⟩;rcases k with k|⟨x,C,T,a,e,f⟩
 .exact .inl ⟨k.1,by rw[(c rfl).1];exact k.2⟩
 .refine .inr ⟨x,C,T,by rw[(c rfl).1];exact a,by rw[(c rfl).2 x a];exact e,λi j p q=> ?_⟩;have⟨av,v,g,r,s⟩:=f i j p q;exact⟨av,v,g,r,s.mono h.iL h.cell⟩
end
def setAt{α:Type}(d:α):List α->Nat->α->List α
 |[],0,x=>[x]
 |[],i+1,x=>d::setAt d [] i x
 |_::aa,0,x=>x::aa
 |a::aa,i+1,x=>a::setAt d aa i x
def rC{α:Type}(d x:α): ∀(l:List α) (i j:Nat),(setAt d l i x).getD j d=if j=i then x else l.getD j d
 |[],0,0=>by simp [setAt]
 |[],0,j+1=>by simp [setAt]
 |[],i+1,0=>by simp [setAt]
 |[],i+1,j+1=>by simpa[setAt]using rC d x [] i j
 |_::aa,0,0=>by simp [setAt]
 |_::aa,0,j+1=>by simp [setAt]
 |a::aa,i+1,0=>by simp [setAt]
 |a::aa,i+1,j+1=>by simpa[setAt]using rC d x aa i j
def nj{α:Type}(d x:α): ∀(l:List α) (i:Nat),l.length<=(setAt d l i x).length/\i<(setAt d l i x).length
 |[],0=>by simp [setAt]
 |[],i+1=>by simp [setAt];exact(nj d x [] i).2
 |_::aa,0=>by simp [setAt]
 |a::aa,i+1=>by simp [setAt];exact nj d x aa i
def bM(H:Heap)(b o:Nat)(av:J):Heap:=setAt [] H b (setAt .undef (H.getD b []) o av)
def nX(H:Heap)(b:Nat)(cs:List J):Heap:=setAt [] H b cs
def fo(H:Heap)(b o:Nat)(av:J)(b' a:Nat):M (bM H b o av) b' a=if b'=b/\a=o then av else M H b' a:=by
 unfold M bM;rw[rC]
 by_cases c:b'=b
 .subst c;rw[bg rfl,rC]
  by_cases d:a=o<;>simp [d]
 .simp [c]
def Iq(H:Heap)(b:Nat)(cs:List J)(b' a:Nat):M (nX H b cs) b' a=if b'=b then cs.getD a .undef else M H b' a:=by
 unfold M nX;rw[rC]
 by_cases c:b'=b<;>simp [c]
section
variable {S:ez} {ι:Nat->Option Nat} {st:O} {a:Act} {w:World}
abbrev aX(S:ez)(ι:Nat->Option Nat)(H:Heap)(w:World):Nat->Prop:=wu S.qE S.fy.heap.size ι H w
def a2.put(h:a2 S ι st a w)(d:Nat){av:J}{v:Value}(k:eZ ι st.k w (aX S ι st.k w) av v):a2 S ι ⟨st.n.set d av,st.k⟩ (a.put (some d) v) w:=by
 refine⟨h.below,h.defers,λt u b=> ?_,h.k,h.inj,h.fresh,h.hn,h.hs⟩
 by_cases j:t=d
 .subst j;rw[we]at b;simp only[ma]at b
  split at b
  .rename_i g;simp only[hI]at b;subst b;have⟨e,c,_⟩:=h.n t (st.n[t]) (cG g);have i:t<a.tmps.size:=by
    rcases ga t a.tmps.size with h|h
    .exact h
    .simp [QR h]at c
   exact⟨v,by simp [Act.put,i],k⟩
  .cases b
 .rw[E4 Ω]at b;have⟨e,c,f⟩:=h.n t u b;exact⟨e,by simp only[Act.put];rw[J4 Ω];exact c,f⟩
def a2.world(h:a2 S ι st a w){w':World}(d:Below w.heap.size w w'):a2 S ι st a w'/\eS ι st.k w (aX S ι st.k w) ι st.k w' (aX S ι st.k w'):=by
 have g:eS ι st.k w (aX S ι st.k w) ι st.k w' (aX S ι st.k w'):=by
  refine⟨λx ⟨i,e,j⟩=>⟨i,hj e d.size,j⟩,λx o ⟨_,e,_⟩=>d.cell e,λ_ _ h k=>⟨h,k⟩,λb q r n f m=>⟨q,_,n,f,m,bH _,λ_=>⟨rfl,rfl,λx C T c l=>⟨C,?_,rfl⟩⟩⟩⟩;rw[d.block x (h.fresh _ _ c).2];exact l
 refine⟨⟨h.below.trans (d.mono h.below.size),h.defers,λt av p=> ?_,λb o=> ?_,h.inj,λb x c=>⟨(h.fresh b x c).1,hj (h.fresh b x c).2 d.size⟩,h.hn,h.hs.trans g⟩,g⟩
 .obtain⟨v,i,e⟩:=h.n t av p;exact⟨v,i,e.step g⟩
 .exact(h.k b o).step g (λ_=>rfl) (λx c _=>⟨d.cell (h.fresh _ _ c).2,d.frozen (h.fresh _ _ c).2⟩) (λ_=>⟨rfl,λx c=>d.block x (h.fresh _ _ c).2⟩)
def cC(ι:Nat->Option Nat)(b x:Nat):Nat->Option Nat:=λk=>if k=b then some x else ι k
def a2.aCX(h:a2 S ι st a w)(b:Nat)(F: ∀o,M st.k b o= .undef)(R:ι b=none)(cs:List J)(g:List Value)(T:TypeId)(r:bb (cu ι st.k w (aX S ι st.k w)) cs g):
  a2 S (cC ι b w.heap.size) ⟨st.n,nX st.k b cs⟩ a (w.alloc (.cells g.toArray T))/\
  eS ι st.k w (aX S ι st.k w) (cC ι b w.heap.size) (nX st.k b cs) (w.alloc (.cells g.toArray T)) (aX S (cC ι b w.heap.size) (nX st.k b cs) (w.alloc (.cells g.toArray T)))/\
  cu (cC ι b w.heap.size) (nX st.k b cs) (w.alloc (.cells g.toArray T)) (aX S (cC ι b w.heap.size) (nX st.k b cs) (w.alloc (.cells g.toArray T))) (.ptr b 0) (.pointer (some ⟨w.heap.size,0,none⟩)):=by
 have y: ∀b' x,ι b'=some x->b'≠b:=λb' x d e=>by rw[e,R]at d;cases d
 have m: ∀b' o,b'≠b->M (nX st.k b cs) b' o=M st.k b' o:=λb' o N=>by rw[Iq,aW N]
 have u:cv (M (nX st.k b cs) b 0)=false:=by
  rw[Iq,bg rfl]
  cases cs with
  |nil=>rfl
  |cons c cs=>
   cases g with
   |nil=>exact r.elim
   |cons v g=>simp;cases c<;>first|rfl|exact r.1.elim
 have l:eS ι st.k w (aX S ι st.k w) (cC ι b w.heap.size) (nX st.k b cs) (w.alloc (.cells g.toArray T)) (aX S (cC ι b w.heap.size) (nX st.k b cs) (w.alloc (.cells g.toArray T))):=by
  refine⟨λx ⟨j,i,D⟩=>⟨j,by simp;omega,λb' G=> ?_⟩,λx o ⟨_,i,_⟩=>World.cell?_alloc_lt w _ (a:=⟨x,o,none⟩) i,λb' x d k=>⟨by simp [cC,y b' x d,d],by rw[m _ _ (y b' x d)];exact k⟩,λb' U W n f k=> ?_⟩
  .unfold cC
   by_cases e:b'=b
   .simp only[e,ma];intro I;simp at I;omega
   .simp only[e,oe];exact D b' (pr (λo=>m b' o e) G)
  .have e:b'≠b:=λe=>by rw[e,F]at k;cases k
   refine⟨U,_,n,f,by rw[m _ _ e];exact k,bH _,λ_=>⟨rfl,by simp [cC,e],λx C V d E=>⟨C,?_,rfl⟩⟩⟩;rw[Below.heap_alloc _ _ _ (h.fresh _ _ d).2];exact E
 refine⟨⟨h.below.alloc h.below.size _,h.defers,λt av P=> ?_,λb' o=> ?_,λcw a5 x j i=> ?_,λb' x d=> ?_,λb' x d=> ?_,h.hs.trans l⟩,l,?_⟩
 .obtain⟨v,j,i⟩:=h.n t av P;exact⟨v,j,i.step l⟩
 .by_cases e:b'=b
  .subst e;rw[Iq,bg rfl];rcases ga o cs.length with q|q
   .have s:cs[o]? =some cs[o]:=cG q;have⟨v,Q,z⟩:=r.get o _ s;have H:(w.alloc (.cells g.toArray T)).cell? ⟨w.heap.size,o,none⟩=some v:=by rw[World.cell?_alloc_new];simpa using Q
    have K:(w.alloc (.cells g.toArray T)).frozen? ⟨w.heap.size,o,none⟩=false:=by simp
    have O:=cu.step l z;have p:cs.getD o .undef=cs[o]:=by simp [List.getD,s]
    rw[p];have L:cC ι b' w.heap.size b'=some w.heap.size:=by simp [cC]
    generalize cs[o]=c at*
    cases c<;>simp only[fC]<;>first|trivial|exact⟨u,_,v,L,H,K,O⟩|exact z.elim
   .have p:cs.getD o .undef= .undef:=by simp [List.getD,fk q]
    rw[p];trivial
  .rw[m _ _ e];refine(h.k b' o).step l (λ_=>by simp [cC,e]) (λx d _=>⟨World.cell?_alloc_lt w _ (a:=⟨x,o,none⟩) (h.fresh _ _ d).2,World.frozen?_alloc_old w _ (a:=⟨x,o,none⟩) (by have:=(h.fresh _ _ d).2;show x≠_;omega)⟩) (λ_=>⟨by simp [cC,e],λx d=>Below.heap_alloc _ _ _ (h.fresh _ _ d).2⟩)
 .unfold cC at j i
  by_cases A:cw=b<;>by_cases B:a5=b<;>simp only[A,B,ma,oe]at j i
  .omega
  .simp at j;have:=(h.fresh _ _ i).2;omega
  .simp at i;have:=(h.fresh _ _ j).2;omega
  .exact h.inj _ _ _ j i
 .unfold cC at d
  by_cases e:b'=b<;>simp only[e,ma,oe]at d
  .simp at d;subst d;exact⟨.inl h.below.size,by simp⟩
  .have:=h.fresh _ _ d;exact⟨this.1,by simp;omega⟩
 .unfold cC at d
  by_cases e:b'=b
  .rw[e];exact(nj _ _ _ _).2
  .simp only[e,oe]at d;exact hj (h.hn _ _ d) (nj _ _ _ _).1
 .exact⟨u,w.heap.size,by simp [cC],rfl⟩
end
section
variable {S:ez} {ι:Nat->Option Nat} {st:O} {a:Act} {w:World}
def OM{av:J}(h:cv av=true): ∃a b n f,av= .ad a b n f:=by
 cases av<;>first|exact⟨_,_,_,_,rfl⟩|(cases h;done)
def fC.box{b o:Nat}{av:J}{H:Heap}{F:Nat->Prop}(h:fC ι H w F b o av)(c:av≠ .undef)(a:cv av=false):
  ∃x v,ι b=some x/\w.cell? ⟨x,o,none⟩=some v/\w.frozen? ⟨x,o,none⟩=false/\cu ι H w F av v:=by
 cases av<;>first|exact h.2|exact absurd rfl c|(cases a;done)
def fC.aCU{b o:Nat}{av:J}{H:Heap}{F:Nat->Prop}(h:fC ι H w F b o av)(c:av≠ .undef)(a:cv av=false):cv (M H b 0)=false:=by
 cases av<;>first|exact h.1|exact absurd rfl c|(cases a;done)
def amn{av:J}(b:av≠ .undef)(a:cv av=false):qy av=true:=by
 cases av<;>first|rfl|exact absurd rfl b|(cases a;done)
def a2.store(h:a2 S ι st a w){b o x:Nat}(i:ι b=some x)(G:M st.k b o≠ .undef)(j:cv (M st.k b 0)=false)(D:cv (M st.k b o)=false)
  {av:J} {v:Value} (H:cu ι st.k w (aX S ι st.k w) av v):
  a2 S ι ⟨st.n,bM st.k b o av⟩ a (w.setCell ⟨x,o,none⟩ v)/\eS ι st.k w (aX S ι st.k w) ι (bM st.k b o av) (w.setCell ⟨x,o,none⟩ v) (aX S ι (bM st.k b o av) (w.setCell ⟨x,o,none⟩ v)):=by
 have s:cv av=false:=by cases av<;>first|rfl|exact H.elim
 have F:n8 st.k b:= .inr ⟨j,o,amn G D⟩;have⟨aJF,v0,I,O,Q,_⟩:=(h.k b o).box G D;rw[i]at I;cases I;have E: ∀y p,y≠x->(w.setCell ⟨x,o,none⟩ v).cell? ⟨y,p,none⟩=w.cell? ⟨y,p,none⟩:=λy p c=>World.cell?_setCell_other w _ _ _ (by intro e;cases e;exact c rfl);have V:cv (M (bM st.k b o av) b 0)=false:=by
  rw[fo];split
  .exact s
  .exact j
 have l:eS ι st.k w (aX S ι st.k w) ι (bM st.k b o av) (w.setCell ⟨x,o,none⟩ v) (aX S ι (bM st.k b o av) (w.setCell ⟨x,o,none⟩ v)):=by
  refine⟨λy ⟨q,r,m⟩=>⟨q,by simpa using r,λb' N=> ?_⟩,λy p ⟨_,_,m⟩=>E y p (λe=>m b F (by rw[i,e])),λb' y c g=>⟨c,?_⟩,λb' K Z n f g=> ?_⟩
  .by_cases e:b'=b
   .rw[e];exact m b F
   .exact m b' (pr (λp=>by rw[fo,aW (λd=>e d.1)]) N)
  .rw[fo];split
   .exact s
   .exact g
  .have e:b'≠b:=λe=>by rw[e]at g;rw[g]at j;cases j
   refine⟨K,_,n,f,by rw[fo,aW (λd=>e d.1)];exact g,bH _,λ_=>⟨rfl,rfl,λy C T c L=>⟨C,?_,rfl⟩⟩⟩;rw[Below.heap_setCell _ _ _ _ (by intro d;exact e (h.inj _ _ _ c (by rw[d];exact i)))];exact L
 refine⟨⟨h.below.setCell (h.fresh _ _ i).1 _,h.defers,λt u Y=> ?_,λb' p=> ?_,h.inj,λb' y c=>⟨(h.fresh _ _ c).1,by simpa using(h.fresh _ _ c).2⟩,λb' y c=>hj (h.hn _ _ c) (nj _ _ _ _).1,h.hs.trans l⟩,l⟩
 .obtain⟨v,q,r⟩:=h.n t u Y;exact⟨v,q,r.step l⟩
 .by_cases e:b'=b/\p=o
  .obtain⟨rfl,rfl⟩:=e;rw[fo,bg ⟨rfl,rfl⟩];have k:=cu.step l H;have P:=World.cell?_setCell_same w _ v O;have R:(w.setCell ⟨x,p,none⟩ v).frozen? ⟨x,p,none⟩=false:=by simpa using Q
   cases av<;>first|exact⟨V,x,v,i,P,R,k⟩|trivial|(cases s;done)
  .have U:M (bM st.k b o av) b' p=M st.k b' p:=by rw[fo,aW e]
   rw[U]
   by_cases z:b'=b
   .subst z;have X:p≠o:=λd=>e ⟨rfl,d⟩
    by_cases A:cv (M st.k b' p)=true
    .obtain⟨K,Z,n,f,g⟩:=OM A;have B:=h.k b' p;rw[g]at B;have W:p=0:=B.1;rw[W]at g;rw[g]at j;cases j
    .refine(h.k b' p).step l (λ_=>rfl) (λy c _=> ?_) (λg=>absurd g A);rw[i]at c;cases c;exact⟨World.cell?_setCell_other w _ _ _ (by intro d;cases d;exact X rfl),by simp⟩
   .refine(h.k b' p).step l (λ_=>rfl) (λy c _=>⟨E y p (λd=>z (h.inj _ _ _ c (by rw[d];exact i))),by simp⟩) (λ_=>⟨rfl,λy c=>Below.heap_setCell _ _ _ _ (λd=>z (h.inj _ _ _ c (by rw[d];exact i)))⟩)
def axN{a i b j q:Nat}(f:j<a)(g:q<a)(h:b*a+j=i*a+q):b=i/\j=q:=by
 have c:(b*a+j)/a=b:=by rw[wh,Nat.mul_add_div Ω,QP f,nu]
 have d:(i*a+q)/a=i:=by rw[wh,Nat.mul_add_div Ω,QP g,nu]
 have e:b=i:=by rw[<-c,<-d,h]
 subst e;exact⟨rfl,Ω⟩
def a2.alI(h:a2 S ι st a w){b x n d i q:Nat}{f:Nat->List J}{C:Array Value}{T:TypeId}(A:ι b=some x)(B:M st.k b 0= .ad false d n f)(V:w.heap[x]? =some (.cells C T (0,0)))(jZ:q<d)(g5:i*d+q<C.size){c:J}{v:Value}(dq:a6 w (aX S ι st.k w) c v){g:Nat->List J}
  (awF: ∀j,j<n->g j=bif Nat.beq j i then(f j).set q c else f j) (mE: ∀o j,o<n->j<d-> ∃av u,(f o)[j]? =some av/\C[o*d+j]? =some u/\a6 w (aX S ι st.k w) av u) (kK:n<=dL):
  a2 S ι ⟨st.n,bM st.k b 0 (.ad false d n g)⟩ a (w.setCell ⟨x,i*d+q,none⟩ v)/\eS ι st.k w (aX S ι st.k w) ι (bM st.k b 0 (.ad false d n g)) (w.setCell ⟨x,i*d+q,none⟩ v) (aX S ι (bM st.k b 0 (.ad false d n g)) (w.setCell ⟨x,i*d+q,none⟩ v)):=by
 have Y:n8 st.k b:= .inl ⟨by rw[B];rfl,by rw[B];rfl⟩;have L: ∀b' r,M (bM st.k b 0 (.ad false d n g)) b' r=if b'=b/\r=0 then .ad false d n g else M st.k b' r:=λb' r=>fo _ _ _ _ _ _
 have Oi:M (bM st.k b 0 (.ad false d n g)) b 0= .ad false d n g:=by rw[L,bg ⟨rfl,rfl⟩]
 have P: ∀b' r,b'≠b->M (bM st.k b 0 (.ad false d n g)) b' r=M st.k b' r:=λb' r e=>by rw[L,aW (λh=>e h.1)]
 have F: ∀y,y≠x->(w.setCell ⟨x,i*d+q,none⟩ v).heap[y]? =w.heap[y]? :=λy l=>heap_setCell_other w ⟨x,i*d+q,none⟩ y v l;have Z:(w.setCell ⟨x,i*d+q,none⟩ v).heap[x]? =some (.cells (C.setIfInBounds (i*d+q) v) T (0,0)):=heap_setCell_same w x (i*d+q) C T v V;have DT: ∀b',n8 (bM st.k b 0 (.ad false d n g)) b'->n8 st.k b':=λb' N=>by
  by_cases e:b'=b
  .rw[e];exact Y
  .exact pr (λaL=>P b' aL e) N
 have m:eS ι st.k w (aX S ι st.k w) ι (bM st.k b 0 (.ad false d n g)) (w.setCell ⟨x,i*d+q,none⟩ v) (aX S ι (bM st.k b 0 (.ad false d n g)) (w.setCell ⟨x,i*d+q,none⟩ v)):=by
  refine⟨λy ⟨H,I,K⟩=>⟨H,by simpa using I,λb' N=>K b' (DT b' N)⟩,λy p ⟨_,_,K⟩=>World.cell?_of_block (w:=w) (F y (λe=>K b Y (by rw[A,e]))),λb' y l z=>⟨l,?_⟩,λb' ro d n' gD z=> ?_⟩
  .have e:b'≠b:=λe=>by rw[e,B]at z;cases z
   rw[P _ _ e];exact z
  .by_cases e:b'=b
   .subst e;rw[B]at z;cases z;refine⟨false,_,n,g,Oi,bH _,λ_=>⟨rfl,rfl,λy D mh l E=> ?_⟩⟩;rw[A]at l;cases l;rw[V]at E;cases E;exact⟨_,Z,by simp⟩
   .exact⟨ro,_,n',gD,by rw[P _ _ e];exact z,bH _,λ_=>⟨rfl,rfl,λy D mh l E=>⟨D,by rw[F y (λs=>e (h.inj _ _ _ l (by rw[s];exact A)))];exact E,rfl⟩⟩⟩
 refine⟨⟨h.below.setCell (h.fresh _ _ A).1 _,h.defers,λt u jI=> ?_,λb' p=> ?_,h.inj,λb' y l=>⟨(h.fresh _ _ l).1,by simpa using(h.fresh _ _ l).2⟩,λb' y l=>hj (h.hn _ _ l) (nj _ _ _ _).1,h.hs.trans m⟩,m⟩
 .obtain⟨v,H,I⟩:=h.n t u jI;exact⟨v,H,I.step m⟩
 .show fC _ _ _ _ _ _ (M (bM st.k b 0 (.ad false d n g)) b' p);rw[L]
  by_cases e:b'=b/\p=0
  .obtain⟨rfl,rfl⟩:=e;rw[bg ⟨rfl,rfl⟩];refine⟨rfl,.inr ⟨kK,.inr ⟨x,_,T,A,Z,λo j W X=> ?_⟩⟩⟩;have⟨av,u,R,gF,j0⟩:=mE o j W X;rw[awF o W]
   by_cases G:o=i
   .subst G;rw[ob];simp only[au]
    by_cases U:j=q
    .subst U;have ht:=(hk.1 R).1;exact⟨c,v,by rw[List.getElem?_set_self ht],by rw[Array.getElem?_setIfInBounds_self_of_lt g5],dq.mono m.iL m.cell⟩
    .exact⟨av,u,by rw[E4 (λe=>U e.symm)];exact R,by rw[J4 Ω];exact gF,j0.mono m.iL m.cell⟩
   .have awc:Nat.beq o i=false:=by
     cases e:Nat.beq o i with
     |false=>rfl
     |true=>exact absurd (ey e) G
    rw[awc];refine⟨av,u,R,?_,j0.mono m.iL m.cell⟩;rw[J4 (λe=>G (axN X jZ e.symm).1)];exact gF
  .rw[aW e]
   by_cases O:b'=b
   .subst O;have k:p≠0:=λs=>e ⟨rfl,s⟩;have Q:=h.k b' p
    cases iJ:M st.k b' p<;>rw[iJ]at Q
    case undef=>trivial
    case ad=>exact absurd Q.1 k
    all_goals
     have:=Q.1;rw[B]at this;cases this
   .refine(h.k b' p).step m (λ_=>rfl) (λy l _=> ?_) (λ_=>⟨rfl,λy l=>F y (λs=>O (h.inj _ _ _ l (by rw[s];exact A)))⟩);have:=F y (λs=>O (h.inj _ _ _ l (by rw[s];exact A)));exact⟨World.cell?_of_block (w:=w) this,World.frozen?_of_block (w:=w) this⟩
end
inductive ua where
 |bool|string|other
 |int (k:IntKind)
 |slice (e mZ aHY:Nat)
 |pointer (e:Nat)
 |struct (Jl:List (Nat×Nat))
 |array (n e mZ:Nat)
structure bU where
 size:Nat
 d:ua
 zero:List J
 cmp:Bool:=false
def ua.isAgg:ua->Bool
 | .struct _=>true
 | .array .. =>true
 |_=>false
def mi:J->Value->Prop
 | .int k n,v=>v= .int k n
 | .bool b,v=>v= .bool b
 | .str s,v=>v= .string s/\s.size=0
 | .aH,v=>v= .slice none 0 0
 | .kn,v=>v= .pointer none
 | .undef,v=>one v=true
 |_,_=>False
def Lm:J->J->Bool
 | .int _ a,.int _ b=>a==b
 | .bool a,.bool b=>a==b
 | .str a,.str b=>a.toList==b.toList
 |_,_=>false
def ke:List J->List J->Bool
 |[],[]=>true
 |a::aa,b::c=>Lm a b&&ke aa c
 |_,_=>false
def TN:J->J->Bool
 | .int k _,.int a _=>decide (k=a)
 | .bool _,.bool _=>true
 | .str _,.str _=>true
 |_,_=>false
def im:List J->List J->Bool
 |[],[]=>true
 |a::aa,b::c=>TN a b&&im aa c
 |_,_=>false
def yA:J->Value->Prop
 | .int k n,v=>v= .int k n
 | .bool b,v=>v= .bool b
 | .str s,v=>v= .string s
 |_,_=>False
def Kp(P:Program)(T:TypeId)(d:List J):Prop:=
 ∀(a:BinOp) (x y:Operand) (cs b:List J) (c us:List Value) (w:World),a= .eql\/a= .neq->im d cs=true->im d b=true->bb yA cs c->bb yA b us->
  (do eqGuard a T x y (.agg c.toArray) (.agg us.toArray);binOp a T (.agg c.toArray) (.agg us.toArray):Sem Value).run P w= .ok (.bool (cond (a== .eql) (ke cs b) (!(ke cs b)))) w
structure hl (P:Program) (T:TypeId) (t:bU):Prop where
 info: ∃i z,P.info? T=some i/\i.size=t.size/\i.zero=some z/\z.cells.size=t.size/\bb mi t.zero z.cells.toList
 agg: ∃d,P.underlying T=some d/\(t.d.isAgg=true->(match d with| .struct _| .array _ _=>true|_=>false)=true)/\(t.d.isAgg=false->t.size=1/\(match d with| .struct _| .array _ _=>false|_=>true)=true)
 d:match t.d with
  | .bool=>P.underlying T=some .bool
  | .string=>P.underlying T=some .string
  | .int k=>P.underlying T=some (.int k)
  | .slice e mZ nD=>P.underlying T=some (.slice e)/\ ∃i,P.info? e=some i/\i.size=mZ/\i.bytes=nD/\i.zero.isSome=true/\ ∀z,i.zero=some z->z.cells.size=i.size
  | .pointer e=>P.underlying T=some (.pointer e)
  | .struct Jl=> ∃LI:Array Field,P.underlying T=some (.struct LI)/\LI.toList.mapM (λf=>(P.info? f.type).map λi=>(f.offset,i.size))=some Jl/\ ∀(k off af:Nat),Jl[k]? =some (off,af)-> ∃f:Field,LI[k]? =some f/\f.offset=off/\ ∃i,P.info? f.type=some i/\i.size=af/\af≠0
  | .array n e mZ=>P.underlying T=some (.array n e)/\ ∃i,P.info? e=some i/\i.size=mZ
  | .other=>True
 cmp:t.cmp=true->Kp P T t.zero
section
variable {P:Program} {T:TypeId} {t:bU} (w:World)
def run_sizeOf(h:hl P T t):(sizeOf T).run P w= .ok t.size w:=by
 have⟨i,z,a,b,_⟩:=h.info;simp [sizeOf,typeInfo,a,b]
def P7(h:hl P T t):(isAgg T).run P w= .ok t.d.isAgg w:=by
 have⟨d,a,c,f⟩:=h.agg
 cases e:t.d.isAgg with
 |true=>
  have b:=c e
  cases d<;>first|(cases b;done)|simp [isAgg,fN a]
 |false=>
  have b:=(f e).2
  cases d<;>simp [isAgg,fN a]at*
def aFo(h:hl P T t): ∃z,(zeroValue T).run P w= .ok z w/\bb mi t.zero z.cells.toList/\z.cells.size=t.size:=by
 have⟨i,z,a,e,b,c,d⟩:=h.info;exact⟨z,by simp [zeroValue,typeInfo,a,b],d,c⟩
def ue(b:Bool)(a:List Value):Value:=if b then .agg a.toArray else a.headD undef
def aFm(h:hl P T t)(x o:Nat)(b:List Value)(a:b.length=t.size)(c: ∀(j:Nat) v,b[j]? =some v->w.cell? ⟨x,o+j,none⟩=some v):
  (loadVar T ⟨x,o,none⟩).run P w= .ok (ue t.d.isAgg b) w:=by
 have g: ∀j:Nat,Addr.add ⟨x,o,none⟩ j=⟨x,o+j,none⟩:=λj=>Addr.add_lit x o j
 cases e:t.d.isAgg with
 |true=>
  have:=QO (P:=P) w ⟨x,o,none⟩ b (λj v i=>by rw[g];exact c j v i);rw[a]at this;simp [loadVar,P7 w h,e,run_sizeOf w h,this,ue]
 |false=>
  have⟨d,_,_,f⟩:=h.agg;have k:=(f e).1
  match b,a with
  |[],a=>simp at a;omega
  |[v],_=>
   have:=c 0 v rfl;simp only[nu]at this;simp [loadVar,P7 w h,e,ue,this]
  |_::_::_,a=>simp at a;omega
end
section
variable {P:Program} {S:ez} {ι:Nat->Option Nat} {st:O} {a:Act} {w:World}
def rF(H:Heap)(b:Nat):List J->Nat->Heap
 |[],_=>H
 |c::cs,o=>rF (bM H b o c) b cs (o+1)
def alb(w:World)(p:Addr){v u:Value}(a:one v=true)(b:w.cell? p=some u)(c:w.frozen? p=false):(Go.store p v).run P w= .ok () (w.setCell p v):=by
 cases v<;>first|(cases a;done)|simp [Go.store,Sem.run,b,c]
def a2.alJ{b x gG:Nat}(k:ι b=some x): ∀(cs:List J) (e:List Value) (i:Nat) (st:O) (w:World),a2 S ι st a w->cv (M st.k b 0)=false->
  (∀j,j<cs.length->M st.k b (gG+i+j)≠ .undef/\cv (M st.k b (gG+i+j))=false)->bb (cu ι st.k w (aX S ι st.k w)) cs e->
  ∃w',(storeCells ⟨x,gG,none⟩ e i).run P w= .ok () w'/\a2 S ι ⟨st.n,rF st.k b cs (gG+i)⟩ a w'/\eS ι st.k w (aX S ι st.k w) ι (rF st.k b cs (gG+i)) w' (aX S ι (rF st.k b cs (gG+i)) w')
 |[],[],i,st,w,h,_,_,_=>⟨w,by simp [storeCells],h,eS.refl⟩
 |[],_::_,_,_,_,_,_,_,d=>d.elim
 |_::_,[],_,_,_,_,_,_,d=>d.elim
 |c::cs,v::e,i,st,w,h,l,m,d=>by
  have⟨f,g⟩:=m 0 Χ;simp only[nu]at f g;have⟨q,o⟩:=h.store k f l g d.1;have⟨D,C,n,t,y,_⟩:=(h.k b (gG+i)).box f g;rw[k]at n;cases n;have u:cv c=false:=by cases c<;>first|rfl|exact d.1.elim
  have p:cv (M (bM st.k b (gG+i) c) b 0)=false:=by rw[fo];split;exact u;exact l
  have⟨w',r,s,A⟩:=a2.alJ (gG:=gG) k cs e (i+1) ⟨st.n,bM st.k b (gG+i) c⟩ _ q p (λj B=>by
   rw[fo,aW Ω];have:=m (j+1) (by simp;omega);rwa [show gG+i+(j+1)=gG+(i+1)+j by omega]at this) (d.2.imp λ_ _=>cu.step o)
  refine⟨w',?_,s,o.trans A⟩;have z:=alb (P:=P) w ⟨x,gG+i,none⟩ (cu.one d.1) t y;simp only[storeCells,Sem.run_bind,Addr.add_lit,z,Result.andThen];exact r
end
def dm(b:Bool)(p:Prop):Prop:=
 match b with
 |true=>p
 |false=>False
def aF{b:Bool}{p:Prop} :dm b p↔b=true/\p:=by cases b<;>simp [dm]
def pj(a:Option Prop)(p:Prop):Prop:=
 match a with
 |none=>p
 |some q=>q/\p
def rS{a:Option Prop}{p:Prop} :pj a p↔pj a True/\p:=by cases a<;>simp [pj]
def mN(P:Program)(f:FuncId):Prop:= ∃a c,P.funcs[f]? =some a/\a.body=some c/\(a.name== "runtime.NumGoroutine")=false
structure Env where
 P:Program
 ty:TypeId->Option bU
 spec:FuncId->List J->Option (Option Prop×J)
 /--aHG many blocks have acu handed on to bf function kN is looked at. -/
 m:Nat:=0
 /--eT aY do kN BM handed boxes. -/
 pc:FuncId->List J->Heap->Option (Option Prop×List J×Heap):=λ_ _ _=>none
 /--aHM aY BM handed l8 of bf acG own,or hand aly back. -/
 eV:FuncId->Bool:=λ_=>false
structure Env.dU (E:Env):Prop where
 ty: ∀T t,E.ty T=some t->hl E.P T t
 mixed:E.P.follows .mixedOrders=true
 spec: ∀f args pre r,E.spec f args=some (pre,r)->mN E.P f/\(pj pre True->fR E.P f args r)
 pc: ∀f args H pre rs H',E.pc f args H=some (pre,rs,H')->mN E.P f/\(pj pre True->gn E.P f args H rs H')
def To:Value->J
 | .int k n=> .int k n
 | .bool b=> .lit b
 | .string s=>match Nat.ble s.size dL with
   |true=> .str s
   |false=> .undef
 | .slice none 0 0=> .aH
 |_=> .undef
def aE(a:List J):Operand->J
 | .tmp t=>a.getD t .undef
 | .const v=>To v
 | .func f=> .fn f []
 | .global g=>rD g xK
abbrev b3:=List (Nat×Nat×J)
def bN(H:Heap):b3->Heap
 |[]=>H
 |(b,o,av)::r=>bN (bM H b o av) r
def iI(b:Nat):List J->Nat->b3
 |[],_=>[]
 |c::cs,o=>(b,o,c)::iI b cs (o+1)
def OD(b:Nat): ∀(cs:List J) (o:Nat) (H:Heap),bN H (iI b cs o)=rF H b cs o
 |[],_,_=>rfl
 |c::cs,o,H=>by simp [iI,bN,rF,OD b cs]
def cellsOf:J->List J
 | .agg cs=>cs
 |av=>[av]
def pv:J->Bool
 | .undef| .gone| .du _| .ad .. =>false
 |_=>true
def yH:J->Bool
 | .undef| .ad .. =>false
 |_=>true
def lH(H:Heap)(b o n:Nat):List J:=(List.range n).map λj=>M H b (o+j)
def qM:Bool->List J->J
 |true,cs=> .agg cs
 |false,cs=>match cs.headD .undef with
  | .gone=> .undef
  |c=>c
def Jv(c:Bool)(x y:J)(K:J->Prop):Prop:=
 match c with
 |true=>K x
 |false=>K y
def D5(a:Bool)(av:J)(K:J->Prop):Prop:=
 match a with
 |true=>match av with
  | .bool b=>(b=true->K (.lit true))/\(b=false->K (.lit false))
  |av=>K av
 |false=>K av
def Jc:J->J
 | .lit b=> .bool b
 |av=>av
def fh:J->J
 | .agg cs=> .agg (cs.map Jc)
 |av=>Jc av
def pg(t:bU)(H:Heap)(x:J)(K:J->Prop):Prop:=
 match x with
 | .ptr b o=>dm ((lH H b o t.size).all yH) (K (qM t.d.isAgg (lH H b o t.size)))
 | .ref cs=>dm (decide (t.size<=cs.length)) (K (qM t.d.isAgg (cs.take t.size)))
 | .gr b k i o=>match M H b 0 with
   | .ad _ a n f=>k=n/\i<n/\dm (decide (o+t.size<=a)) (K (qM t.d.isAgg (((f i).drop o).take t.size)))
   |_=>False
 |_=>False
def ot:J->Bool
 | .int .. | .bool _| .str _| .aH| .arr .. | .ref _=>true
 |_=>false
def acI:J->Bool
 | .ptr .. =>true
 |x=>ot x
def pR:J->Bool
 | .int .. | .bool _| .str _| .aH| .arr .. | .ref _=>true
 | .fn _ a=>a.all ot
 |_=>false
def Cl:J->Bool
 | .agg cs=>cs.all pR
 |av=>pR av
def tk(cs:List J):List J->Nat->List J
 |[],_=>cs
 |c::r,o=>tk (cs.set o c) r (o+1)
def QD(f:Nat->List J)(i o:Nat)(cs:List J)(j:Nat):List J:=bif Nat.beq j i then tk (f j) cs o else f j
def PJ:J->Bool
 | .int .. | .bool _| .str _=>true
 |_=>false
def vZ(t:bU)(H:Heap)(x v:J)(K:b3->Prop):Prop:=
 match x with
 | .ptr b o=>dm (pv v&&decide ((cellsOf v).length=t.size)&&(lH H b o t.size).all yH&& !(cv (M H b 0))) (K (iI b (cellsOf v) o))
 | .gr b k i o=>match M H b 0 with
   | .ad c a n f=>dm (!c&&decide (o+t.size<=a)&&pv (fh v)&&decide ((cellsOf (fh v)).length=t.size)&&(cellsOf (fh v)).all pR&& !((cellsOf (fh v)).isEmpty))
     (k=n/\i<n/\ ∃h:Nat->List J,(∀j,j<n->QD f i o (cellsOf (fh v)) j=h j)/\K [(b,0,.ad false a n h)])
   |_=>False
 |_=>False
def uu(t:bU)(H:Heap)(f:Nat)(x:J)(K:J->Prop):Prop:=
 match t.d with
 | .struct c=>match c[f]? with
   |some (a,_)=>match x with
    | .ptr b o=>K (.ptr b (o+a))
    | .ref cs=>K (.ref (cs.drop a))
    | .gr b k i o=>match M H b 0 with
      | .ad _ _ n _=>k=n/\K (.gr b k i (o+a))
      |_=>False
    |_=>False
   |none=>False
 |_=>False
def vo(t:bU)(H:Heap)(x i:J)(K:J->Prop):Prop:=
 match t.d with
 | .slice _ a _=>match i with
   | .int _ z=>match x with
     | .arr c n f=>dm (decide (c=a)) ((0<=z/\z<n)/\K (.ref ((f z.toNat).take c)))
     | .own b k=>match M H b 0 with
       | .ad _ c n _=>dm (decide (c=a)) (k=n/\(0<=z/\z<n)/\K (.gr b k z.toNat 0))
       |_=>False
     |_=>False
   |_=>False
 | .array n _ a=>match i with
   | .int _ z=>match x with
     | .ptr b o=>dm (decide (0<=z)&&decide (z<n)) (K (.ptr b (o+z.toNat*a)))
     | .ref cs=>dm (decide (0<=z)&&decide (z<n)) (K (.ref (cs.drop (z.toNat*a))))
     |_=>False
   |_=>False
 |_=>False
def xT(E:TypeId->Option bU)(t:bU)(x i:J)(K:J->Prop):Prop:=
 match t.d with
 | .array n e a=>match i with
   | .int _ z=>match x with
     | .agg cs=>match E e with
       |some u=>dm (decide (0<=z)&&decide (z<n)&&decide (u.size=a)&&decide (z.toNat*a+a<=cs.length)) (K (qM u.d.isAgg ((cs.drop (z.toNat*a)).take a)))
       |none=>False
     |_=>False
   |_=>False
 |_=>False
def xW(c:BinOp)(k:IntKind)(a b:Int)(K:J->Prop):Prop:=
 match c with
 | .add=>K (.int k (k.wrap (a+b)))
 | .sub=>K (.int k (k.wrap (a-b)))
 | .mul=>K (.int k (k.wrap (a*b)))
 | .eql=>K (.bool (a==b))
 | .neq=>K (.bool (a !=b))
 | .lss=>K (.bool (decide (a<b)))
 | .leq=>K (.bool (decide (a<=b)))
 | .gtr=>K (.bool (decide (a>b)))
 | .geq=>K (.bool (decide (a>=b)))
 | .quo=>b≠0/\K (.int k (k.wrap (a.tdiv b)))
 | .rem=>b≠0/\K (.int k (a.tmod b))
 | .and=>K (.int k (bits .and k a b))
 | .or=>K (.int k (bits .or k a b))
 |_=>False
def OO:BinOp->Bool
 | .shl| .shr=>true
 |_=>false
def Qr(c:BinOp)(k:IntKind)(a b:Int)(K:J->Prop):Prop:=
 (0<=b/\b<=k.bits)/\match c with
  | .shl=>K (.int k (k.wrap (a*2^b.toNat)))
  | .shr=>K (.int k (a/2^b.toNat))
  |_=>False
def qP(t:bU)(c:BinOp)(x y:J)(K:J->Prop):Prop:=
 match x,y with
 | .int k a,.int e b=>match OO c with
   |true=>Qr c k a b K
   |false=>dm (decide (k=e)) (xW c k a b K)
 | .bool a,.bool b=>match t.d with
   | .bool=>match c with
     | .eql=>K (.bool (a==b))
     | .neq=>K (.bool (!(a==b)))
     |_=>False
   |_=>False
 | .str a,.str b=>match c with
   | .eql=>K (.bool (a.toList==b.toList))
   | .neq=>K (.bool (!(a.toList==b.toList)))
   | .leq=>K (.bool (Op.bytesLess a.toList b.toList||a.toList==b.toList))
   | .gtr=>K (.bool (!(Op.bytesLess a.toList b.toList||a.toList==b.toList)))
   | .lss=>K (.bool (Op.bytesLess a.toList b.toList))
   | .geq=>K (.bool (!Op.bytesLess a.toList b.toList))
   | .add=>a.size+b.size<=dL/\K (.str (a++b))
   |_=>False
 | .agg cs,.agg d=>dm (t.cmp&&im t.zero cs&&im t.zero d) (match c with
   | .eql=>K (.bool (ke cs d))
   | .neq=>K (.bool (!(ke cs d)))
   |_=>False)
 |_,_=>False
def Bk(a:UnOp)(x:J)(K:J->Prop):Prop:=
 match a,x with
 | .not,.bool b=>K (.bool (!b))
 | .not,.lit b=>K (.lit (!b))
 | .neg,.int k n=>K (.int k (k.wrap (0-n)))
 |_,_=>False
def oq(c:List (Nat×Nat))(a:List J):List (Nat×Operand)->List J->(List J->Prop)->Prop
 |[],cs,K=>K cs
 |(i,x)::r,cs,K=>match c[i]? with
  |some (b,d)=>dm (pv (aE a x)&&decide ((cellsOf (aE a x)).length=d)&&decide (b+d<=cs.length)) (oq c a r (tk cs (cellsOf (aE a x)) b) K)
  |none=>False
def rM(H:Heap)(x:J)(K:J->Prop):Prop:=
 match x with
 | .arr _ n _=>K (.int .i64 n)
 | .aH=>K (.int .i64 0)
 | .str s=>K (.int .i64 s.size)
 | .own b k=>match M H b 0 with
   | .ad _ _ n _=>k=n/\K (.int .i64 n)
   |_=>False
 |_=>False
def jy(H:Heap)(x:J)(K:J->Prop):Prop:=
 match x with
 | .own b k=>match M H b 0 with
   | .ad _ a n f=>k=n/\K (.arr a n f)
   |_=>False
 | .lit b=>K (.bool b)
 |av=>dm (pR av) (K av)
def m0(H:Heap):List J->(List J->Prop)->Prop
 |[],K=>K []
 |x::r,K=>jy H x λy=>m0 H r λa=>K (y::a)
def lL(H:Heap)(x:J)(K:J->Prop):Prop:=
 match x with
 | .agg cs=>m0 H cs λa=>K (.agg a)
 |av=>jy H av K
def nF(H:Heap):List J->(List J->Prop)->Prop
 |[],K=>K []
 |x::r,K=>lL H x λy=>nF H r λa=>K (y::a)
def aaa:J->Bool
 | .int .. | .bool _| .str _=>true
 |_=>false
def aab:J->Bool
 | .agg cs=>cs.all aaa
 |av=>aaa av
def EJ:J->Bool
 | .du a=>a.all aab
 |av=>aab av
def vT(H:Heap):J->b3
 | .own b _=>match M H b 0 with
   | .ad _ a n f=>[(b,0,.ad true a n f)]
   |_=>[]
 |_=>[]
def EI(H:Heap):J->b3
 | .agg cs=>cs.flatMap (vT H)
 |av=>vT H av
def e_(H:Heap)(l:List J):b3:=l.flatMap (EI H)
def vS(aD:Nat)(r:J)(a:b3)(K:J->b3->Prop):Prop:=
 match r with
 | .ad _ b n f=>K (.own aD n) (a++[(aD,0,.ad false b n f)])
 |r=>K r a
def pq(H:Heap)(r:J)(aa:List J):b3:=
 match EJ r||aa.all Cl with
 |true=>[]
 |false=>e_ H aa
def wF(E:Env)(H:Heap)(aD:Nat)(f:FuncId)(a:List J)(K:J->b3->Prop):Prop:=
 nF H (a.map fh) λb=>match E.spec f b with
  |some (c,r)=>pj c (vS aD r (pq H r (a.map fh)) K)
  |none=>False
def Ca(i:Nat)(x:J)(K:J->Prop):Prop:=
 match x with
 | .du a=>dm (decide (i<a.length)) (K (a.getD i .undef))
 |_=>False
def yD(s:ByteArray)(i:Nat):List J:=[.int .u8 ((s.data.toList.getD i 0).toNat:Int)]
def n9(H:Heap)(a:Bool)(c:Nat)(y:J)(K:Nat->(Nat->List J)->Prop):Prop:=
 match y with
 | .aH=>dm (!a) (K 0 λ_=>[])
 | .arr d n f=>dm (!a&&decide (d=c)) (K n f)
 | .str s=>dm (a&&decide (c=1)) (K s.size (yD s))
 | .own b k=>match M H b 0 with
   | .ad _ d n f=>dm (!a&&decide (d=c)) (k=n/\K n f)
   |_=>False
 |_=>False
def iH(n:Nat)(f g:Nat->List J)(i:Nat):List J:=bif Nat.blt i n then f i else g (i-n)
def pG(t:bU)(j:Bool)(H:Heap)(aD:Nat)(x y:J)(K:J->b3->Prop):Prop:=
 match t.d with
 | .slice _ a d=>dm (Nat.ble d 256&&Nat.blt 0 a) (n9 H j a y λm g=>match x with
   | .aH=>m<=dL/\K (.own aD m) [(aD,0,.ad false a m g)]
   | .own b k=>match M H b 0 with
     | .ad e c n f=>dm (!e&&decide (c=a)) (k=n/\n+m<=dL/\ ∃h:Nat->List J,(∀i,i<n+m->iH n f g i=h i)/\K (.own b (n+m)) [(b,0,.ad false a (n+m) h)])
     |_=>False
   | .kX c n f=>dm (decide (c=a)) (0<m/\n+m<=dL/\ ∃h:Nat->List J,(∀i,i<n+m->iH n f g i=h i)/\K (.own aD (n+m)) [(aD,0,.ad false a (n+m) h)])
   |_=>False)
 |_=>False
def YE(x y:J):Prop:=x=y\/(x= .aH/\ ∃a h,y= .arr a 0 h)
def ll:List J->List J->Prop
 |[],[]=>True
 |x::a,y::b=>YE x y/\ll a b
 |_,_=>False
def AQ: ∀l:List J,ll l l
 |[]=>trivial
 |_::l=>⟨.inl rfl,AQ l⟩
def Py: ∀{b c:List J} (j:Nat) (x:J),ll b c->b[j]? =some x-> ∃y,c[j]? =some y/\YE x y
 |[],[],_,_,_,h=>by simp at h
 |x::b,y::c,0,z,h,a=>by
  simp at a;subst a;exact⟨y,rfl,h.1⟩
 |x::b,y::c,j+1,z,h,a=>by simpa using Py j z h.2 (by simpa using a)
 |[],_::_,_,_,h,_=>h.elim
 |_::_,[],_,_,h,_=>h.elim
def YF{w:World}{F:Nat->Prop}{x y:J}{v:Value}(h:YE x y)(k:a6 w F x v):a6 w F y v:=by
 rcases h with rfl|⟨rfl,a,g,rfl⟩
 .exact k
 .cases k;exact .nil a g
def aeD:J->Bool
 | .own .. =>true
 |x=>pR x
def oB(H:Heap):List (List J)->(List (List J)->Prop)->Prop
 |[],K=>K []
 |l::r,K=>m0 H l λy=>oB H r λa=>K (y::a)
def l6(b:Nat)(a:List J):List (Nat×Operand)->Nat->Option (List (List J))
 |[],_=>some []
 |(i,x)::r,k=>match Nat.beq i k&&(pv (fh (aE a x))&&Nat.beq (cellsOf (fh (aE a x))).length b&&(cellsOf (fh (aE a x))).all aeD)with
  |true=>match l6 b a r (k+1)with
   |some l=>some (cellsOf (fh (aE a x))::l)
   |none=>none
  |false=>none
def sm(t:bU)(e:List J)(H:Heap)(aD a:Nat)(d:List (Nat×Operand))(K:J->b3->Prop):Prop:=
 match t.d with
 | .slice _ b _=>match l6 b e d 0 with
   |some l=>dm (Nat.beq l.length a&&Nat.ble a 4096&&Nat.ble b 4096&&Nat.blt 0 b) (oB H l λc=> ∃h:Nat->List J,(∀i,i<a->ll (c.getD i []) (h i))/\K (.own aD a) (e_ H l.flatten++[(aD,0,.ad false b a h)]))
   |none=>False
 |_=>False
def tp(E:Env)(t:bU)(d:List J)(aD:Nat)(l c:Operand)(K:J->b3->Prop):Prop:=
 match t.d with
 | .slice e a f=>match E.ty e with
   |some b=>match aE d l with
    | .int _ z=>match aE d c with
      | .int _ g=>dm (b.zero.all PJ&&Nat.beq b.zero.length a&&Nat.ble a 4096&&Nat.ble f 4096&&Nat.blt 0 a) ((z=g/\0<=z/\z<=4096)/\K (.own aD z.toNat) [(aD,0,.ad false a z.toNat λ_=>b.zero)])
      |_=>False
    |_=>False
   |none=>False
 |_=>False
def c4(a:List J)(d:Int)(o:Option Operand)(K:Int->Prop):Prop:=
 match o with
 |none=>K d
 |some x=>match aE a x with
  | .int _ z=>K z
  |_=>False
def lG(m:Option Operand)(a:Nat):Bool:=
 match m with
 |some _=>Nat.blt 1 a
 |none=>false
def vL(c:Bool)(a k:Nat)(g:Nat->List J):J:=
 match c with
 |true=> .kX a k g
 |false=> .arr a k g
def tF(t:bU)(H:Heap)(d:List J)(x:J)(l h m:Option Operand)(K:J->b3->Prop):Prop:=
 dm (h.isSome|| !(m.isSome)) (match t.d with
 | .slice _ j _=>match x with
   | .arr e n f=>dm (decide (e=j)) (c4 d 0 l λc=>c4 d n h λa=>c4 d a m λg=>
     ((0<=c/\c<=a/\a<=g/\g<=n)/\(lG m e=true->a=g))/\K (vL (lG m e) e (a-c).toNat λi=>f (c.toNat+i)) [])
   | .aH=>c4 d 0 l λc=>c4 d 0 h λa=>c4 d a m λg=>(c=0/\a=0/\g=0)/\K .aH []
   | .own b k=>match M H b 0 with
     | .ad o e n f=>dm (decide (e=j)) (k=n/\c4 d 0 l λc=>c4 d n h λa=>c4 d a m λg=>
       ((0<=c/\c<=a/\a<=g/\g<=n)/\(lG m e=true->a=g))/\K (vL (lG m e) e (a-c).toNat λi=>f (c.toNat+i)) [(b,0,.ad true e n f)])
     |_=>False
   |_=>False
 | .string=>match x with
   | .str s=>match m with
     |none=>c4 d 0 l λc=>c4 d s.size h λa=>(0<=c/\c<=a/\a<=s.size)/\K (.str (s.extract c.toNat a.toNat)) []
     |some _=>False
   |_=>False
 |_=>False)
def al8:J->Nat
 | .int _ z=>z.toNat
 |_=>0
def IL:J->Bool
 | .int .u8 _=>true
 |_=>false
def bytesOf(n:Nat)(f:Nat->List J):ByteArray:=⟨((List.range n).map λi=>UInt8.ofNat (al8 ((f i).getD 0 .undef))).toArray⟩
def pH(t:bU)(b:Option bU):Bool:=
 match t.d with
 | .slice _ a _=>Nat.beq a 1&&(match b with
   |some c=>match c.d with
    | .int .u8=>true
    |_=>false
   |none=>false)
 |_=>false
def ua.isStr:ua->Bool
 | .string=>true
 |_=>false
def ua.vq:ua->Bool
 | .slice .. =>true
 |_=>false
def uk(t u:bU)(a:Option bU)(H:Heap)(x:J)(K:J->Prop):Prop:=
 match x with
 | .int _ z=>match u.d with
   | .int k=>match t.d with
     | .int _=>K (.int k (k.wrap z))
     |_=>False
   |_=>False
 | .str s=>match t.d with
   | .string=>match u.d with
     | .string=>K (.str s)
     |_=>dm (pH u a) (K (.arr 1 s.size (yD s)))
   |_=>False
 | .arr c n f=>dm (u.d.isStr&&pH t a&&Nat.beq c 1) ((∀i,i<n->IL ((f i).getD 0 .undef)=true)/\K (.str (bytesOf n f)))
 | .aH=>dm (u.d.isStr&&pH t a) (K (.str ε))
 | .own b d=>match M H b 0 with
   | .ad _ c n f=>dm (u.d.isStr&&pH t a&&Nat.beq c 1) (d=n/\(∀i,i<n->IL ((f i).getD 0 .undef)=true)/\K (.str (bytesOf n f)))
   |_=>False
 |_=>False
def AJ(x y:J)(K:J->Prop):Prop:=
 match x,y with
 | .int k a,.int c b=>dm (decide (k=c)) (K (.int k (cond (decide (b<a)) b a)))
 |_,_=>False
def AI(x y:J)(K:J->Prop):Prop:=
 match x,y with
 | .int k a,.int c b=>dm (decide (k=c)) (K (.int k (cond (decide (b>a)) b a)))
 |_,_=>False
section
variable {E:Env} {S:ez} {ι:Nat->Option Nat} {st:O} {a:Act} {w:World}
abbrev bA(S:ez)(ι:Nat->Option Nat)(H:Heap)(w:World):J->Value->Prop:=eZ ι H w (aX S ι H w)
abbrev eY(S:ez)(ι:Nat->Option Nat)(H:Heap)(w:World):J->Value->Prop:=cu ι H w (aX S ι H w)
def arC{H:Heap}{F:Nat->Prop}(v:Value):eZ ι H w F (To v) v:=by
 unfold To
 split
 .exact a6.int _ _
 .exact a6.lit _
 .split
  .rename_i a;exact a6.str _ (hH a)
  .trivial
 .exact a6.aH
 .trivial
def a2.eval(h:a2 S ι st a w)(x:Operand):bA S ι st.k w (aE st.n x) (a.eval x):=by
 cases x with
 |tmp t=>
  simp only[aE,Act.eval]
  cases e:st.n[t]? with
  |none=>simp only[List.getD,e];trivial
  |some av=>
   have⟨v,b,c⟩:=h.n t av e;have:a.tmps.getD t undef=v:=by simp [J5,b]
   rw[this];simp only[List.getD,e];exact c
 |const v=>exact arC v
 |global g=>
  simp only[aE,Act.eval];rcases agR g xK with e|⟨cs,e⟩
  .rw[e];trivial
  .rcases h.xJ g with k|k
   .rw[k]at e;cases e
   .rw[e]at k |-;exact k
 |func f=>exact⟨[],rfl,trivial⟩
def jO.Eo{H:Heap}{F:Nat->Prop}{av:J}{v:Value}(h:a6 w F av v):jO ι H w F av v:=by
 cases h<;>simp only[jO]<;>constructor<;>assumption
def cu.Eo{H:Heap}{F:Nat->Prop}{av:J}{v:Value}(h:a6 w F av v):cu ι H w F av v:=by
 cases h with
 |int k n=>exact .int k n
 |bool b=>exact .bool b
 |lit b=>exact .lit b
 |str s r=>exact .str s r
 |aH=>exact .aH
 |kn=>exact .kn
 |kX d n f p c h D=>exact a6.kX d n f p c h D
 |nil d f=>exact .nil d f
 |mt d f a c=>exact .mt d f a c
 |arr d n f b o c g m G r q e j l=>exact .arr d n f b o c g m G r q e j l
 |ref cs b o g m q e j l=>exact .ref cs b o g m q e j l
 |fn f A m g u E e j l=>
  refine⟨m,rfl,bb.mk E.symm λi x y z I=>jO.Eo ?_⟩;have t:i<A.length:=by
   rcases ga i A.length with h|h
   .exact h
   .rw[fk h]at z;cases z
  have B:=e i t;have C:=j i t;rw[z]at B;rw[I]at C
  cases B;cases C
  exact l i t
def cu.su{H:Heap}{F:Nat->Prop}{av:J}{v:Value}(h:cu ι H w F av v)(k:pR av=true):a6 w F av v:=by
 cases av<;>first|exact h|(cases k;done)|skip
 rename_i f a;obtain⟨d,rfl,e⟩:=h;have o:=e.length;refine .fn f a d (λj=>a.getD j .undef) (λj=>d.getD j undef) o.symm (λj b=>by simp [List.getD,cG b]) (λj b=>by simp [List.getD,cG (show j<d.length by omega)]) λj b=> ?_;have⟨v,l,g⟩:=e.get j a[j] (cG b);have m:a.getD j .undef=a[j]:=by simp [List.getD,cG b]
 have n:d.getD j undef=v:=by simp [List.getD,l]
 rw[m,n];have i:=d_.1 k a[j] (mb b);generalize a[j]=c at g i
 cases c<;>first|(cases i;done)|exact g
def eZ.su{H:Heap}{F:Nat->Prop}{av:J}{v:Value}(h:eZ ι H w F av v)(a:Cl av=true):gm w F av v:=by
 cases av
 case agg cs=>
  obtain⟨g,rfl,b⟩:=h;refine⟨g,rfl,bb.mk b.length λi x y c f=> ?_⟩;have⟨j,d,e⟩:=b.get i x c;rw[f]at d;cases d;exact cu.su e (d_.1 a x (fr c))
 case undef=>cases a
 case gone=>cases a
 case du=>cases a
 case ad=>cases a
 all_goals exact cu.su (show cu ι H w F _ _ from h) a
def a6.ajU{F:Nat->Prop}{v:Value}(h:a6 w F .gone v):False:=by cases h
def g1.PB{H:Heap}{F:Nat->Prop}{av:J}{v:Value}(h:gm w F av v):g1 ι H w F av v:=by
 cases av
 case agg cs=>
  obtain⟨b,rfl,a⟩:=h;exact⟨b,rfl,a.imp λ_ _=>cu.Eo⟩
 case undef=>exact h.elim
 case gone=>exact(a6.ajU h).elim
 all_goals exact(cu.Eo (ι:=ι) (H:=H) (show a6 w F _ _ from h):cu ι H w F _ _)
def eZ.AU{H:Heap}{F:Nat->Prop}{av:J}{v:Value}(h:g1 ι H w F av v):eZ ι H w F av v:=by
 cases av<;>first|trivial|exact h|exact False.elim h
def eZ.YH{H:Heap}{F:Nat->Prop}{av:J}{v:Value}(h:kW w F av v):eZ ι H w F av v:=by
 cases av<;>simp only[kW]at h<;>first|exact eZ.AU (g1.PB h)|skip
 obtain⟨b,rfl,a⟩:=h;exact⟨b,rfl,a.imp λ_ _=>g1.PB⟩
def eZ.cells{H:Heap}{F:Nat->Prop}{av:J}{v:Value}(h:eZ ι H w F av v)(b:pv av=true):bb (cu ι H w F) (cellsOf av) v.cells.toList:=by
 have c:cu ι H w F av v->bb (cu ι H w F) [av] v.cells.toList:=λk=>by
  have:=cu.one k
  cases v<;>first|(cases this;done)|exact⟨k,trivial⟩
 cases av<;>first|(cases b;done)|exact c h|skip
 obtain⟨d,rfl,a⟩:=h;simpa[Value.cells,cellsOf]using a
def a2.lH(h:a2 S ι st a w){b o n:Nat}(C:(lH st.k b o n).all yH=true):
  ∃p:List Value,p.length=n/\bb (eY S ι st.k w) (lH st.k b o n) p/\(0<n-> ∃x,ι b=some x/\ ∀(j:Nat) v,p[j]? =some v->w.cell? ⟨x,o+j,none⟩=some v):=by
 have r: ∀j,j<n->M st.k b (o+j)≠ .undef/\cv (M st.k b (o+j))=false:=λj c=>by
  have:=d_.1 C (M st.k b (o+j)) (by simp [ag.lH];exact⟨j,c,rfl⟩)
  cases e:M st.k b (o+j)<;>rw[e]at this<;>simp_all [yH,cv]
 have s: ∀j,j<n-> ∃v,(∃x,ι b=some x/\w.cell? ⟨x,o+j,none⟩=some v)/\eY S ι st.k w (M st.k b (o+j)) v:=λj c=>by
  have⟨x,v,z,A,_,B⟩:=(h.k b (o+j)).box (r j c).1 (r j c).2;exact⟨v,⟨x,z,A⟩,B⟩
 have H: ∃f:Nat->Value,∀j,j<n->(∃x,ι b=some x/\w.cell? ⟨x,o+j,none⟩=some (f j))/\eY S ι st.k w (M st.k b (o+j)) (f j):=by
  refine⟨λj=>if c:j<n then(s j c).choose else undef,λj c=> ?_⟩;simp only[c,dif_pos];exact(s j c).choose_spec
 obtain⟨f,l⟩:=H;refine⟨(List.range n).map f,by simp,bb.mk (by simp [ag.lH]) λi x y k u=> ?_,λG=> ?_⟩
 .simp only[ag.lH,hJ,nt]at k u;obtain⟨g,d,rfl⟩:=k;obtain⟨I,q,rfl⟩:=u;have m:g<n:=by have:=fr d;simpa using this
  rw[d]at q;cases q;exact(l g m).2
 .obtain⟨x,k,_⟩:=(l 0 G).1;refine⟨x,k,λj v c=> ?_⟩;simp only[hJ,nt]at c;obtain⟨g,d,rfl⟩:=c;have m:g<n:=by have:=fr d;simpa using this
  have E:g=j:=by
   have F:j<n:=by
    rcases ga j n with h|h
    .exact h
    .rw[fk (by simpa using h)]at d;cases d
   rw[E6 F]at d
   cases d;rfl
  subst E;have⟨J,t,D⟩:=(l g m).1;rw[k]at t;cases t;exact D
end
section
variable {E:Env} {S:ez} {ι:Nat->Option Nat} {st:O} {a:Act} {w:World}
def dK{P:Program}{o:Oper}{next:Act->World->Prop}{Q:Exit->Act->World->Prop}{v:Value}{w':World}(c:(execOp a.eval o).run P w= .ok (.value v) w')(b:next (a.put o.dst v) w'):o.wp P a w next Q:=by
 unfold Oper.wp;rw[c];exact b
def amm{P:Program}{o:Oper}{next:Act->World->Prop}{Q:Exit->Act->World->Prop}{w':World}(c:(execOp a.eval o).run P w= .ok .skip w')(b:next (a.put o.dst undef) w'):o.wp P a w next Q:=by
 unfold Oper.wp;rw[c];exact b
def ahi(b:Nat): ∀(cs:List J) (o:Nat) (H:Heap) (b' a:Nat),M (rF H b cs o) b' a=if b'=b/\o<=a/\a<o+cs.length then cs.getD (a-o) .undef else M H b' a
 |[],o,H,b',a=>by simp [rF];omega
 |c::cs,o,H,b',a=>by
  rw[rF,ahi b cs (o+1)]
  by_cases d:b'=b/\o+1<=a/\a<o+1+cs.length
  .rw[bg d,bg ⟨d.1,Ω,by simp;omega⟩,show a-o=(a- (o+1))+1 by omega];simp
  .rw[aW d,fo]
   by_cases e:b'=b/\a=o
   .rw[bg e,bg ⟨e.1,Ω,by simp;omega⟩,show a-o=0 by omega];simp
   .rw[aW e,aW (by simp only[dE];omega)]
def x1(H:Heap)(b o:Nat)(c:J):H.length<=(bM H b o c).length/\b<(bM H b o c).length:=nj _ _ _ _
def ai8(b:Nat): ∀(cs:List J) (o:Nat) (H:Heap),H.length<=(rF H b cs o).length/\(cs≠[]->b<(rF H b cs o).length)
 |[],_,_=>⟨bH _,λh=>absurd rfl h⟩
 |c::cs,o,H=>by
  have a:=x1 H b o c;have d:=(ai8 b cs (o+1) (bM H b o c)).1;exact⟨ec a.1 d,λ_=>hj a.2 d⟩
def eS.ext{H H':Heap}(a: ∀b o,M H' b o=M H b o):eS ι H w (aX S ι H w) ι H' w (aX S ι H' w):=by
 refine⟨λx ⟨d,e,g⟩=>⟨d,e,λb c=>g b (pr (a b) c)⟩,λ_ _ _=>rfl,λb x j c=>⟨j,by rw[a];exact c⟩,λb k l n f i=>⟨k,_,n,f,by rw[a];exact i,bH _,λ_=>⟨rfl,rfl,λx C T _ h=>⟨C,h,rfl⟩⟩⟩⟩
def a2.ext{n:List J}{H H':Heap}(h:a2 S ι ⟨n,H⟩ a w)(d: ∀b o,M H' b o=M H b o)(g: ∀b x,ι b=some x->b<H'.length):a2 S ι ⟨n,H'⟩ a w:=by
 have c:eS ι H w (aX S ι H w) ι H' w (aX S ι H' w):=eS.ext d;refine⟨h.below,h.defers,λt av i=> ?_,λb o=> ?_,h.inj,h.fresh,g,h.hs.trans c⟩
 .obtain⟨v,e,f⟩:=h.n t av i;exact⟨v,e,f.step c⟩
 .show fC ι H' w _ b o (M H' b o);rw[d];exact(h.k b o).step c (λ_=>rfl) (λ_ _ _=>⟨rfl,rfl⟩) (λ_=>⟨rfl,λ_ _=>rfl⟩)
def vj{H:Heap}{b:Nat}(h:H.length<=b)(o:Nat):M H b o= .undef:=by
 simp [M,List.getD,fk h]
def a2.Pp(h:a2 S ι st a w){b:Nat}(c:st.k.length<=b):ι b=none:=by
 cases e:ι b with
 |none=>rfl
 |some x=>have:=h.hn b x e;omega
def EU(ι:Nat->Option Nat)(aD x:Nat): ∀b,cC ι aD x b≠none->ι b≠none\/b=aD:=λb h=>by
 unfold cC at h
 by_cases e:b=aD
 .exact .inr e
 .simp only[e,oe]at h;exact .inl h
def a2.ajP(h:a2 S ι st a w){b:Nat}(g: ∀o,M st.k b o= .undef)(q:ι b=none)(cs:List J)(m:cs≠[])(c:List Value)(T:TypeId)(p:bb (eY S ι st.k w) cs c):
  a2 S (cC ι b w.heap.size) ⟨st.n,bN st.k (iI b cs 0)⟩ a (w.alloc (.cells c.toArray T))/\
  bA S (cC ι b w.heap.size) (bN st.k (iI b cs 0)) (w.alloc (.cells c.toArray T)) (.ptr b 0) (.pointer (some ⟨w.heap.size,0,none⟩)):=by
 have⟨k,_,l⟩:=h.aCX b g q cs c T p;have f: ∀b' o,M (bN st.k (iI b cs 0)) b' o=M (nX st.k b cs) b' o:=λb' o=>by
  rw[OD,ahi,Iq]
  by_cases e:b'=b
  .subst e
   by_cases n:o<cs.length
   .rw[bg ⟨rfl,Ω,Ω⟩,bg rfl];simp
   .rw[aW Ω,bg rfl,g];simp [List.getD,fk (Nat.le_of_not_lt n)]
  .rw[aW (λj=>e j.1),aW e]
 refine⟨k.ext f λb' x d=> ?_,?_⟩
 .rw[OD];have i:=ai8 b cs 0 st.k;unfold cC at d
  by_cases e:b'=b
  .rw[e];exact i.2 m
  .simp only[e,oe]at d;exact hj (h.hn _ _ d) i.1
 .exact cu.step (eS.ext (S:=S) f) l
def mi.rel{H:Heap}{F:Nat->Prop}{av:J}{v:Value}(h:mi av v):cu ι H w F av v:=by
 cases av<;>simp only[mi]at h<;>first|(subst h;constructor)|exact h|exact h.elim|(obtain⟨rfl,a⟩:=h;exact a6.str _ Ω)
def aqj{o:Oper}{T:TypeId}{t:bU}(j:o.op= .alloc T)(e:hl E.P T t)(h:a2 S ι st a w){aD:Nat}(f: ∀o,M st.k aD o= .undef)(m:ι aD=none)(g:t.zero≠[]){next:Act->World->Prop}{Q:Exit->Act->World->Prop}
  (i: ∀aC w' v,(∀b,aC b≠none->ι b≠none\/b=aD)->a2 S aC ⟨st.n,bN st.k (iI aD t.zero 0)⟩ a w'->bA S aC (bN st.k (iI aD t.zero 0)) w' (.ptr aD 0) v->next (a.put o.dst v) w'):o.wp E.P a w next Q:=by
 have⟨z,k,l,n⟩:=aFo w e;have⟨c,d⟩:=h.ajP f m t.zero g z.cells.toList T (l.imp λ_ _=>mi.rel);refine dK (v:= .pointer (some ⟨w.heap.size,0,none⟩)) (w':=w.alloc (.cells z.cells T)) ?_ (i _ _ _ (EU _ _ _) (by simpa using c) (by simpa using d));simp [execOp,j,Instr.alloc,k,newVar,newRow]
def aqG{o:Oper}{T:TypeId}{x:Operand}(i:o.op= .box T x)(h:a2 S ι st a w){aD:Nat}(e: ∀o,M st.k aD o= .undef)(l:ι aD=none)(j:pv (aE st.n x)=true)(f:cellsOf (aE st.n x)≠[]){next:Act->World->Prop}{Q:Exit->Act->World->Prop}
  (g: ∀aC w' v,(∀b,aC b≠none->ι b≠none\/b=aD)->a2 S aC ⟨st.n,bN st.k (iI aD (cellsOf (aE st.n x)) 0)⟩ a w'->bA S aC (bN st.k (iI aD (cellsOf (aE st.n x)) 0)) w' (.ptr aD 0) v->next (a.put o.dst v) w'):o.wp E.P a w next Q:=by
 have k:=(h.eval x).cells j;have⟨c,d⟩:=h.ajP e l _ f _ T k;refine dK (v:= .pointer (some ⟨w.heap.size,0,none⟩)) (w':=w.alloc (.cells (a.eval x).cells T)) ?_ (g _ _ _ (EU _ _ _) (by simpa using c) (by simpa using d));simp [execOp,i,Instr.box,newVar,newRow]
def ab8{b:Bool}{cs:List J}{a:List Value}{H:Heap}{F:Nat->Prop}(h:bb (cu ι H w F) cs a)(d:b=false->cs.length=1):eZ ι H w F (qM b cs) (ue b a):=by
 cases b with
 |true=>exact⟨a,rfl,h⟩
 |false=>
  match cs,a,h,d rfl with
  |[c],[v],h,_=>
   have:=h.1
   cases c<;>first|trivial|exact this|exact False.elim this
def bb.take{α β:Type}{R:α->β->Prop} : ∀{aa:List α} {a:List β} (n:Nat),bb R aa a->bb R (aa.take n) (a.take n)
 |[],[],n,_=>by simp [bb]
 |_::_,_::_,0,_=>trivial
 |_::_,_::_,n+1,h=>⟨h.1,bb.take n h.2⟩
 |[],_::_,_,h=>h.elim
 |_::_,[],_,h=>h.elim
def hl.one{P:Program}{T:TypeId}{t:bU}(h:hl P T t)(b:t.d.isAgg=false):t.size=1:=by
 have⟨d,_,_,a⟩:=h.agg;exact(a b).1
def O3{T:TypeId}{t:bU}{r0:J}{v0:Value}(Q:hl E.P T t)(h:a2 S ι st a w)(O:bA S ι st.k w r0 v0){K:J->Prop}(s:pg t st.k r0 K):
  ∃(p:Addr) (av:J) (u:Value),v0= .pointer (some p)/\K av/\bA S ι st.k w av u/\(loadVar T p).run E.P w= .ok u w:=by
 have I: ∀(y k:Nat) (cs:List J) (l:List Value),v0= .pointer (some ⟨y,k,none⟩)->l.length=t.size->bb (eY S ι st.k w) cs l->(∀(j:Nat) v,l[j]? =some v->w.cell? ⟨y,k+j,none⟩=some v)->K (qM t.d.isAgg cs)->
   ∃(p:Addr) (av:J) (u:Value),v0= .pointer (some p)/\K av/\bA S ι st.k w av u/\(loadVar T p).run E.P w= .ok u w:=λy k cs l e r F m x=>
  ⟨⟨y,k,none⟩,qM t.d.isAgg cs,ue t.d.isAgg l,e,x,ab8 F λY=>by rw[F.length,r,Q.one Y],aFm w Q y k l r m⟩
 cases r0<;>simp only[pg,aF,kS]at s<;>try exact s.elim
 .rename_i b k;obtain⟨U,WA⟩:=s;have⟨l,r,F,m⟩:=h.lH U;have⟨_,y,G,o⟩:=(show eY S ι st.k w (.ptr b k) _ from O);refine I y k _ l o r F (λj v d=> ?_) WA;have⟨ym,z,Z⟩:=m (by rw[<-r];rcases ga 0 l.length with h|h;exact h;rw[fk Ω]at d;cases d);rw[G]at z;cases z;exact Z j v d
 .rename_i b aL i k;have⟨_,ro,H,n,f,D,P,M⟩:=(show eY S ι st.k w (.gr b aL i k) _ from O);rw[D]at s;simp only at s;obtain⟨rfl,g5,pd,x⟩:=s;have⟨y,G,o⟩:=M rfl;have r:=h.k b 0;rw[D]at r;obtain⟨_,R|⟨_,r|⟨ym,C,W,z,X,mE⟩⟩⟩:=r
  .rw[G]at R;cases R.2.2
  .omega
  rw[G]at z;cases z;have N: ∀j,j<t.size-> ∃v,C[i*H+(k+j)]? =some v/\ ∃c,(((f i).drop k).take t.size)[j]? =some c/\eY S ι st.k w c v:=λj d=>by
   have⟨c,v,A,B,L⟩:=mE i (k+j) g5 Ω;exact⟨v,B,c,by rw[Bs d,qA];exact A,cu.Eo L⟩
  have hlen:(((f i).drop k).take t.size).length=t.size:=by
   rcases ga (((f i).drop k).take t.size).length t.size with ht|vi
   .obtain⟨_,_,c,m,_⟩:=N _ ht;rw[fk (bH _)]at m;cases m
   .have:=List.length_take_le t.size ((f i).drop k);omega
  let l:=(List.range t.size).map λj=>(C[i*H+(k+j)]?).getD undef;have V: ∀j v,l[j]? =some v->j<t.size/\C[i*H+(k+j)]? =some v:=λj v d=>by
   have q:j<t.size:=by
    rcases ga j t.size with h|h
    .exact h
    .rw[fk (by simpa[l]using h)]at d;cases d
   refine⟨q,?_⟩;simp only[l,hJ,E6 q,tM,hI]at d;have⟨aGV,g,_⟩:=N j q;rw[g]at d |-;simpa using d
  refine I y (i*H+k) _ l o (by simp [l]) (bb.mk (by simp [l,hlen]) λj c v m o=> ?_) (λj v d=> ?_) x
  .obtain⟨q,g⟩:=V j v o;have⟨aGV,A,S_,B,L⟩:=N j q;rw[g]at A;cases A;rw[m]at B;cases B;exact L
  .obtain⟨_,g⟩:=V j v d;rw[wi w y _ C W (0,0) X,r7];exact g
 .rename_i cs;obtain⟨U,x⟩:=s;have An:a6 w (aX S ι st.k w) (.ref cs) v0:=O
  cases An with
  |ref _ b k g u o9 D P M=>
   have Ip: ∀j c,cs[j]? =some c->j<cs.length:=λj c d=>by
    rcases ga j cs.length with h|h
    .exact h
    .rw[fk h]at d;cases d
   refine I b k (cs.take t.size) ((List.range t.size).map u) rfl Χ (bb.mk (by simp;omega) λj c v m o=> ?_) (λj v d=> ?_) x
   all_goals
    have q:j<t.size:=by
     rcases ga j t.size with h|h
     .exact h
     .first
       |(rw[fk (by simpa using h)]at o;cases o;done)
       |(rw[fk (by simpa using h)]at d;cases d;done)
   .simp only[hJ,E6 q,tM,hI]at o;rw[Bs q]at m;have:=Ip j c m;rw[D j this]at m;cases m;subst o;exact cu.Eo (M j this)
   .simp only[hJ,E6 q,tM,hI]at d;subst d;exact P j Ω
def aBP{o:Oper}{T:TypeId}{t:bU}{x:Operand}(j:o.op= .load T x)(f:hl E.P T t)(h:a2 S ι st a w){K:J->Prop}(g:pg t st.k (aE st.n x) K){next:Act->World->Prop}{Q:Exit->Act->World->Prop}
  (i: ∀av v,K av->bA S ι st.k w av v->next (a.put o.dst v) w):o.wp E.P a w next Q:=by
 have⟨p,av,u,b,c,d,e⟩:=O3 f h (h.eval x) g;refine dK (v:=u) (w':=w) ?_ (i _ _ c d);simp [execOp,j,b,Instr.loadAt,Instr.sureAddr,e]
end
section
variable {E:Env} {S:ez} {ι:Nat->Option Nat} {st:O} {a:Act} {w:World}
def ajW{H:Heap}{F:Nat->Prop}{x:J}{v:Value}(h:cu ι H w F x v):cu ι H w F (Jc x) v:=by
 cases x
 case lit b=>
  have a:a6 w F (.lit b) v:=h
  cases a
  exact a6.bool b
 all_goals exact h
def El{H:Heap}{F:Nat->Prop}{x:J}{v:Value}(h:eZ ι H w F x v):eZ ι H w F (fh x) v:=by
 cases x
 case lit b=>exact ajW (ι:=ι) (H:=H) (F:=F) (w:=w) (x:= .lit b) (show cu ι H w F (.lit b) v from h)
 case agg cs=>
  obtain⟨k,rfl,e⟩:=h;refine⟨k,rfl,bb.mk (by simp [e.length]) λi p q a g=> ?_⟩;simp only[hJ,nt]at a;obtain⟨c,f,rfl⟩:=a;have⟨l,d,j⟩:=e.get i c f;rw[g]at d;cases d;exact ajW j
 all_goals exact h
def JJ{α:Type}(d x y:α): ∀(l:List α) (i:Nat),setAt d (setAt d l i x) i y=setAt d l i y
 |[],0=>rfl
 |[],i+1=>by simp only[setAt,JJ d x y [] i]
 |_::_,0=>rfl
 |a::aa,i+1=>by simp only[setAt,JJ d x y aa i]
def axi(H:Heap)(b o:Nat)(x y:J):bM (bM H b o x) b o y=bM H b o y:=by
 unfold bM;have a:(setAt [] H b (setAt .undef (H.getD b []) o x)).getD b []=setAt .undef (H.getD b []) o x:=by rw[rC,bg rfl]
 rw[a,JJ,JJ]
def a2.alK{P:Program}{b z i af n gG:Nat}(l:ι b=some z)(H:i<n)(t:n<=dL): ∀(cs:List J) (o:List Value) (k:Nat) (f:Nat->List J) (st:O) (w:World),a2 S ι st a w->M st.k b 0= .ad false af n f->gG+k+cs.length<=af->
  bb (a6 w (aX S ι st.k w)) cs o->cs≠[]-> ∀(g:Nat->List J),(∀j,j<n->QD f i (gG+k) cs j=g j)-> ∃w',(storeCells ⟨z,i*af+gG,none⟩ o k).run P w= .ok () w'/\a2 S ι ⟨st.n,bM st.k b 0 (.ad false af n g)⟩ a w'
 |[],_,_,_,_,_,_,_,_,_,T,_,_=>absurd rfl T
 |_::_,[],_,_,_,_,_,_,_,d,_,_,_=>d.elim
 |c::cs,v::o,k,f,st,w,h,s,I,d,_,g,F=>by
  have A:gG+k<af:=by simp only[dE]at I;omega
  have m:=h.k b 0;rw[s]at m;obtain⟨_,E|⟨_,m|⟨Y,C,B,L,p,u⟩⟩⟩:=m
  .rw[l]at E;cases E.2.2
  .rw[l]at m;cases m.2
  rw[l]at L;cases L;obtain⟨_,X,_,W,_⟩:=u i (gG+k) H A;have x:=(tL.1 W).1;have U:one v=true:=d.1.one;have Q:w.cell? ⟨z,i*af+(gG+k),none⟩=some (C[i*af+(gG+k)]):=by
   rw[wi w z (i*af+(gG+k)) C B (0,0) p,r3 x]
  have R:w.frozen? ⟨z,i*af+(gG+k),none⟩=false:=frozen_of_row w z (i*af+(gG+k)) C B p;have K:=alb (P:=P) w ⟨z,i*af+(gG+k),none⟩ U Q R
  cases cs with
  |nil=>
   cases o with
   |cons _ _=>exact d.2.elim
   |nil=>
    obtain⟨q,_⟩:=h.alI l s p A x d.1 (g:=g) (λj y=>(F j y).symm) u t;refine⟨_,?_,q⟩;simp only[storeCells,Sem.run_bind,Addr.add_lit,r7,K,Result.andThen];rfl
  |cons G cs=>
   obtain⟨q,N⟩:=h.alI l s p A x d.1 (g:=λj=>bif Nat.beq j i then(f j).set (gG+k) c else f j) (λ_ _=>rfl) u t;obtain⟨w',r,D⟩:=a2.alK (P:=P) (gG:=gG) l H t (G::cs) o (k+1) _ ⟨st.n,bM st.k b 0 (.ad false af n λj=>bif Nat.beq j i then(f j).set (gG+k) c else f j)⟩ _ q (by rw[fo,bg ⟨rfl,rfl⟩]) (by simp only[dE]at I |-;omega)
    (d.2.imp λ_ _ V=>V.mono N.iL N.cell) Χ g (λj y=>by
     rw[<-F j y];unfold QD
     cases e:Nat.beq j i<;>simp only[e,au,aB,tk,r7])
   refine⟨w',?_,by rw[axi]at D;exact D⟩;simp only[storeCells,Sem.run_bind,Addr.add_lit,r7,K,Result.andThen];exact r
def ala{P:Program}{T:TypeId}{t:bU}(a:hl P T t)(w w':World)(p:Addr)(v:Value)(b:v.cells.size=t.size)(c:(storeCells p v.cells.toList 0).run P w= .ok () w'):
  (Instr.storeAt T (.pointer (some p)) v).run P w= .ok () w':=by
 simp [Instr.storeAt,Instr.sureAddr,storeVar,run_sizeOf w a,b,c]
def aGa{o:Oper}{T:TypeId}{t:bU}{x y:Operand}(I:o.op= .store T x y)(D:hl E.P T t)(h:a2 S ι st a w){K:b3->Prop}(d:vZ t st.k (aE st.n x) (aE st.n y) K){next:Act->World->Prop}{Q:Exit->Act->World->Prop}
  (H: ∀O w',K O->a2 S ι ⟨st.n,bN st.k O⟩ a w'->next (a.put o.dst undef) w'):o.wp E.P a w next Q:=by
 have A:=h.eval x;have N:=h.eval y
 cases e:aE st.n x<;>rw[e]at d A<;>simp only[vZ,aF,b2,kS,j4]at d<;>try exact d.elim
 .rename_i b c;obtain⟨⟨⟨⟨awO,WA⟩,awP⟩,awQ⟩,s⟩:=d;have l:=N.cells awO;have⟨_,z,B,v⟩:=(show eY S ι st.k w (.ptr b c) _ from A);have W: ∀j,j<(cellsOf (aE st.n y)).length->M st.k b (c+0+j)≠ .undef/\cv (M st.k b (c+0+j))=false:=λj ia=>by
   have:=d_.1 awP (M st.k b (c+j)) (by simp [ag.lH];exact⟨j,Ω,rfl⟩);rw[nu]
   cases e:M st.k b (c+j)<;>rw[e]at this<;>simp_all [yH,cv]
  have⟨w',r,C,_⟩:=a2.alJ (P:=E.P) (S:=S) (a:=a) (gG:=c) B (cellsOf (aE st.n y)) _ 0 st w h awQ W l;refine amm (w':=w') ?_ (H _ _ s (by rw[OD];exact C));have:=ala D w w' ⟨z,c,none⟩ (a.eval y) (by rw[<-WA,l.length];simp) r;simp [execOp,I,v,this]
 .rename_i b k i c;have⟨_,ro,af,n,f,m,C,R⟩:=(show eY S ι st.k w (.gr b k i c) _ from A);rw[m]at d;simp only[aF,b2,j4]at d;obtain⟨⟨⟨⟨⟨⟨WR,aIP⟩,aw7⟩,WZ⟩,WL⟩,G⟩,rfl,Z,g,Y,s⟩:=d;subst WR;have⟨z,B,v⟩:=R rfl;have l:=eZ.cells (El N) aw7;have X:bb (a6 w (aX S ι st.k w)) (cellsOf (fh (aE st.n y))) (a.eval y).cells.toList:=bb.mk l.length λj p q J jZ=>by
   have⟨Jx,L,hv⟩:=l.get j p J;rw[jZ]at L;cases L;exact cu.su hv (d_.1 WL p (fr J))
  have F:=h.k b 0;rw[m]at F;have V:k<=dL:=by
   rcases F.2 with u|u
   .cases u.1
   .exact u.1
  have⟨w',r,U⟩:=a2.alK (P:=E.P) (S:=S) (a:=a) (gG:=c) B Z V _ _ 0 f st w h m Ω X (by intro e;rw[e]at G;cases G) g Y;refine amm (w':=w') ?_ (H _ _ s U);have:=ala D w w' ⟨z,i*af+c,none⟩ (a.eval y) (by rw[<-WZ,l.length];simp) r;simp [execOp,I,v,this]
def atc{o:Oper}{T:TypeId}{t:bU}{x:Operand}{f:Nat}(V:o.op= .fieldAddr T x f)(N:hl E.P T t)(h:a2 S ι st a w){K:J->Prop}(c:uu t st.k f (aE st.n x) K){next:Act->World->Prop}{Q:Exit->Act->World->Prop}
  (z: ∀av v,K av->bA S ι st.k w av v->next (a.put o.dst v) w):o.wp E.P a w next Q:=by
 have r:=h.eval x;have G:=N.d
 cases D:t.d<;>simp only[uu,D]at c<;>try exact c.elim
 rename_i Y;rw[D]at G;obtain⟨LI,X,_,W⟩:=G
 cases F:Y[f]? <;>rw[F]at c<;>simp only at c
 rename_i d;obtain⟨d,C⟩:=d;simp only at c;have⟨ath,O,P,i,R,U,H⟩:=W f d C F;rw[<-U]at H;have A: ∀(y p:Nat),a.eval x= .pointer (some ⟨y,p,none⟩)->(execOp a.eval o).run E.P w= .ok (.value (.pointer (some ⟨y,p+d,none⟩))) w:=λy p e=>by
  simp [execOp,V,e,Instr.fieldAt,fN X,O,Instr.sureAddr,fieldPlace,sizeOf,typeInfo,R,H,P,Addr.add_lit]
 cases e:aE st.n x<;>rw[e]at c r<;>simp only at c<;>try exact c.elim
 .rename_i b p;have⟨L,y,B,m⟩:=(show eY S ι st.k w (.ptr b p) _ from r);exact dK (A y p m) (z _ _ c ⟨L,y,B,rfl⟩)
 .rename_i b k i p;have⟨_,Z,C,n,g,q,s,u⟩:=(show eY S ι st.k w (.gr b k i p) _ from r);rw[q]at c;simp only at c;have⟨y,B,m⟩:=u c.1;exact dK (A y _ m) (z _ _ c.2 ⟨rfl,Z,C,n,g,q,s,λ_=>⟨y,B,by rw[r7]⟩⟩)
 .rename_i cs;have I:a6 w (aX S ι st.k w) (.ref cs) (a.eval x):=r;generalize m:a.eval x=v at I
  cases I with
  |ref _ b p g aL M q s u=>
   refine dK (A b p m) (z _ _ c (show a6 w _ (.ref (cs.drop d)) _ from .ref _ b (p+d) (λj=>g (d+j)) (λj=>aL (d+j)) M (λj l=> ?_) (λj l=> ?_) (λj l=> ?_)))
   .rw[qA];exact q _ (by simp at l;omega)
   .rw[r7];exact s _ (by simp at l;omega)
   .exact u _ (by simp at l;omega)
def bb.adk{α β:Type}{R:α->β->Prop} : ∀{aa:List α} {a:List β} (n:Nat),bb R aa a->bb R (aa.drop n) (a.drop n)
 |[],[],n,_=>by simp [bb]
 |_::_,_::_,0,h=>h
 |_::_,_::_,n+1,h=>bb.adk n h.2
 |[],_::_,_,h=>h.elim
 |_::_,[],_,h=>h.elim
def axW{o:Oper}{T:TypeId}{t:bU}{x y:Operand}(eV:o.op= .indexAddr T x y)(hV:hl E.P T t)(aO:a2 S ι st a w){aL:J->Prop}(d:vo t st.k (aE st.n x) (aE st.n y) aL){next:Act->World->Prop}{Q:Exit->Act->World->Prop}
  (H: ∀av v,aL av->bA S ι st.k w av v->next (a.put o.dst v) w):o.wp E.P a w next Q:=by
 have B:=aO.eval x;have I:=aO.eval y;have G:=hV.d
 cases L:t.d<;>simp only[vo,L]at d<;>try exact d.elim
 case slice e l nD=>
  rw[L]at G;obtain⟨X,i,R,U,_⟩:=G
  cases M:aE st.n y<;>rw[M]at d I<;>simp only at d<;>try exact d.elim
  rename_i k z;have Y:a.eval y= .int k z:=by
   have:a6 w (aX S ι st.k w) (.int k z) (a.eval y):=I;generalize a.eval y=v at this;cases this;rfl
  have D: ∀(b p n c:Nat),a.eval x= .slice (some ⟨b,p,none⟩) n c->0<=z->z<n->(execOp a.eval o).run E.P w= .ok (.value (.pointer (some ⟨b,p+z.toNat*l,none⟩))) w:=λb p n c r s h=>by
   simp [execOp,eV,r,Y,Instr.indexAt,fN X,asIntOf,s,h,sizeOf,typeInfo,R,U,Addr.add_lit]
  cases r:aE st.n x<;>rw[r]at d B<;>simp only at d<;>try exact d.elim
  .rename_i af n f;simp only[aF,kS]at d;obtain⟨W,⟨s,h⟩,P⟩:=d;have F:a6 w (aX S ι st.k w) (.arr af n f) (a.eval x):=B;generalize A:a.eval x=v at F
   cases F with
   |nil=>simp at h;omega
   |mt=>simp at h;omega
   |arr _ _ _ b p c g u gT ag5 O jS kF gh=>
    have K:z.toNat<n:=by omega
    have hlen:((f z.toNat).take af).length=af:=by
     rcases ga ((f z.toNat).take af).length af with ht|vi
     .have:=jS z.toNat _ K ht;rw[fk (by simp at ht |-;omega)]at this;cases this
     .have:=List.length_take_le af (f z.toNat);omega
    refine dK (D b p n c A s h) (H _ _ P (show a6 w _ (.ref ((f z.toNat).take af)) _ from .ref _ b (p+z.toNat*l) (g z.toNat) (u z.toNat) (O Ω) (λj m=> ?_) (λj m=> ?_) (λj m=> ?_)))
    .rw[Bs Ω];exact jS _ _ K Ω
    .rw[<-W];exact kF _ _ K Ω
    .exact gh _ _ K Ω
  .rename_i b Z;have⟨_,ro,af,n,f,h,hU,N⟩:=(show eY S ι st.k w (.own b Z) _ from B);rw[h]at d;simp only[aF,kS]at d;obtain⟨W,rfl,⟨Ap,IE⟩,P⟩:=d;rcases N rfl with⟨q,c,C,mh,V,A,nW,lg,l0⟩|⟨DK,_,_⟩
   .refine dK (D q 0 Z c A Ap IE) (H _ _ P ⟨rfl,ro,af,Z,f,h,bH _,λ_=>⟨q,V,by rw[W];simp⟩⟩)
   .omega
 case array n e l=>
  rw[L]at G;obtain⟨X,i,R,U⟩:=G
  cases M:aE st.n y<;>rw[M]at d I<;>simp only at d<;>try exact d.elim
  rename_i k z;have Y:a.eval y= .int k z:=by
   have:a6 w (aX S ι st.k w) (.int k z) (a.eval y):=I;generalize a.eval y=v at this;cases this;rfl
  have D: ∀(b p:Nat),a.eval x= .pointer (some ⟨b,p,none⟩)->0<=z->z<n->(execOp a.eval o).run E.P w= .ok (.value (.pointer (some ⟨b,p+z.toNat*l,none⟩))) w:=λb p r s h=>by
   simp [execOp,eV,r,Y,Instr.indexAt,Instr.sureAddr,fN X,asIntOf,s,h,sizeOf,typeInfo,R,U,Addr.add_lit]
  cases r:aE st.n x<;>rw[r]at d B<;>simp only[aF,b2,kS]at d<;>try exact d.elim
  .rename_i b p;have⟨s,q,V,A⟩:=(show eY S ι st.k w (.ptr b p) _ from B);exact dK (D q p A d.1.1 d.1.2) (H _ _ d.2 ⟨s,q,V,rfl⟩)
  .rename_i cs;have F:a6 w (aX S ι st.k w) (.ref cs) (a.eval x):=B;generalize A:a.eval x=v at F
   cases F with
   |ref _ b p g u O h hU N=>
    refine dK (D b p A d.1.1 d.1.2) (H _ _ d.2 (show a6 w _ (.ref (cs.drop (z.toNat*l))) _ from .ref _ b (p+z.toNat*l) (λj=>g (z.toNat*l+j)) (λj=>u (z.toNat*l+j)) O (λj m=> ?_) (λj m=> ?_) (λj m=> ?_)))
    .rw[qA];exact h _ (by simp at m;omega)
    .rw[r7];exact hU _ (by simp at m;omega)
    .exact N _ (by simp at m;omega)
def aFn{P:Program}{T:TypeId}{t:bU}{w:World}(c:hl P T t)(b:List Value)(a:Nat)(h:a+t.size<=b.length):
  (part T b.toArray a).run P w= .ok (ue t.d.isAgg ((b.drop a).take t.size)) w:=by
 cases e:t.d.isAgg with
 |true=>simp [part,Sem.run_bind,P7 w c,e,Result.andThen_ok,run_sizeOf w c,ue]
 |false=>
  have f:=c.one e;have d:a<b.length:=by omega
  have g:(b.drop a).take 1=[b[a]]:=by rw[r8 d];rfl
  simp [part,Sem.run_bind,P7 w c,e,Result.andThen_ok,ue,f,g,d]
def axO{c:TypeId->Option bU}(D: ∀T t,c T=some t->hl E.P T t){o:Oper}{T:TypeId}{t:bU}{x y:Operand}(L:o.op= .index T x y)(G:hl E.P T t)(h:a2 S ι st a w){K:J->Prop}(b:xT c t (aE st.n x) (aE st.n y) K){next:Act->World->Prop}{Q:Exit->Act->World->Prop}
  (I: ∀av v,K av->bA S ι st.k w av v->next (a.put o.dst v) w):o.wp E.P a w next Q:=by
 have p:=h.eval x;have q:=h.eval y;have l:=G.d
 cases f:t.d<;>simp only[xT,f]at b<;>try exact b.elim
 rename_i n e U;rw[f]at l;obtain⟨O,i,W,X⟩:=l
 cases A:aE st.n y<;>rw[A]at b q<;>simp only at b<;>try exact b.elim
 rename_i k z;have R:a.eval y= .int k z:=by
  have:a6 w (aX S ι st.k w) (.int k z) (a.eval y):=q;generalize a.eval y=v at this;cases this;rfl
 cases s:aE st.n x<;>rw[s]at b p<;>simp only at b<;>try exact b.elim
 rename_i cs
 cases g:c e<;>rw[g]at b<;>simp only[aF,b2,kS]at b<;>try exact b.elim
 rename_i u;obtain⟨⟨⟨⟨B,C⟩,j⟩,V⟩,F⟩:=b;have d:=D e u g;have⟨r,P,m⟩:=(show bA S ι st.k w (.agg cs) _ from p);have Y:=m.length;have M:=aFn (w:=w) d r (z.toNat*u.size) (by rw[j];omega);have N:(execOp a.eval o).run E.P w= .ok (.value (ue u.d.isAgg ((r.drop (z.toNat*u.size)).take u.size))) w:=by
  simp [execOp,L,P,R,Instr.index,fN O,asIntOf,B,C,run_sizeOf w d,M]
 refine dK N (I _ _ F ?_);rw[j];refine ab8 ((m.adk _).take _) λH=> ?_;have:=d.one H;rw[jr,r_];omega
def asX{o:Oper}{x:Operand}{i:Nat}(k:o.op= .extract x i)(h:a2 S ι st a w){K:J->Prop}(b:Ca i (aE st.n x) K){next:Act->World->Prop}{Q:Exit->Act->World->Prop}
  (j: ∀av v,K av->bA S ι st.k w av v->next (a.put o.dst v) w):o.wp E.P a w next Q:=by
 have e:=h.eval x
 cases f:aE st.n x<;>rw[f]at b e<;>simp only[Ca]at b<;>try exact b.elim
 rename_i c;simp only[aF,kS]at b;obtain⟨d,g⟩:=b;have⟨us,n,l⟩:=(show∃us:List Value,a.eval x= .tuple us.toArray/\bb (g1 ι st.k w (aX S ι st.k w)) c us from e);have⟨v,p,m⟩:=l.get i c[i] (cG d);refine dK (v:=v) (w':=w) ?_ (j (c.getD i .undef) v g ?_)
 .simp [execOp,k,n,Instr.extract,p]
 .simp only[List.getD,cG d,mM];exact eZ.AU m
def mf(S:ez)(w:World)(x:Nat):Prop:=S.qE x\/(S.fy.heap.size<=x/\x<w.heap.size)
def RG{H:Heap}{x:Nat}(h:aX S ι H w x):mf S w x:=h.1.imp id λa=>⟨a,h.2.1⟩
def aer(h:a2 S ι st a w){x:J}{v:Value}(D:eY S ι st.k w x v){K:J->Prop}(z:jy st.k x K): ∃y,K y/\a6 w (mf S w) y v:=by
 have V:dm (pR x) (K x)-> ∃y,K y/\a6 w (mf S w) y v:=λP=>(λ⟨t,E⟩=>⟨x,E,(cu.su D t).mono (λ_=>RG) λ_ _ _=>rfl⟩) (aF.1 P)
 cases x
 case own b k=>
  obtain⟨_,ro,s,n,f,t,E,M⟩:=D;simp only[jy,t]at z;obtain⟨rfl,N⟩:=z;refine⟨_,N,?_⟩;rcases M rfl with⟨q,c,C,L,r,B,T,F,Y⟩|⟨rfl,_,B⟩
  .have p:=h.k b 0;rw[t]at p;obtain⟨_,H|⟨O,p|⟨Z,W,X,I,G,Q⟩⟩⟩:=p
   .rw[r]at H;cases H.2.2
   .rw[r]at p;cases p.2
   .rw[r]at I;cases I;rw[F]at G;cases G;have R:=h.fresh b q r;rw[B];have A: ∀i j,i<k->j<s-> ∃av u,(f i)[j]? =some av/\C[i*s+j]? =some u/\a6 w (mf S w) av u:=λi j d e=>by
     have⟨av,u,l,m,o⟩:=Q i j d e;exact⟨av,u,l,m,o.mono (λ_=>RG) λ_ _ _=>rfl⟩
    refine .arr s k f q 0 c (λi j=>((f i)[j]?).getD .undef) (λi j=>(C[i*s+j]?).getD undef) T O (λ_=>(h.own r).imp id λg=>⟨g,R.2⟩) (λi j d e=> ?_) (λi j d e=> ?_) (λi j d e=> ?_)
    .obtain⟨av,u,l,m,o⟩:=A i j d e;rw[l];rfl
    .obtain⟨av,u,l,m,o⟩:=A i j d e;rw[wi w q _ C L (0,0) F,dj,m];rfl
    .obtain⟨av,u,l,m,o⟩:=A i j d e;simp only[l,m,mM];exact o
  .rw[B];exact .nil s f
 case lit b=>
  have U:a6 w (aX S ι st.k w) (.lit b) v:=D
  cases U
  exact⟨_,z,.bool b⟩
 all_goals exact V z
def aey(h:a2 S ι st a w): ∀(cs:List J) (e:List Value) (K:List J->Prop),bb (eY S ι st.k w) cs e->m0 st.k cs K-> ∃f,K f/\bb (a6 w (mf S w)) f e
 |[],[],K,_,b=>⟨[],b,trivial⟩
 |[],_::_,_,d,_=>d.elim
 |_::_,[],_,d,_=>d.elim
 |c::cs,v::e,K,d,b=>by
  have⟨y,b,g⟩:=aer h d.1 b;have⟨f,b,i⟩:=aey h cs e _ d.2 b;exact⟨y::f,b,g,i⟩
def T4(h:a2 S ι st a w){x:J}{v:Value}(e:bA S ι st.k w x v){K:J->Prop}(b:lL st.k x K): ∃y,K y/\gm w (mf S w) y v:=by
 have j: ∀y,a6 w (mf S w) y v->gm w (mf S w) y v:=λy i=>by cases i<;>first|exact .int _ _|exact .bool _|exact .str _ Ψ|exact .aH|exact .nil _ _|exact .mt _ _ _ _|(constructor<;>assumption)
 cases x
 case agg cs=>
  obtain⟨f,rfl,g⟩:=e;obtain⟨k,c,d⟩:=aey h cs f _ g b;exact⟨.agg k,c,f,rfl,d⟩
 case undef=>exact b.elim
 case gone=>exact b.elim
 case du=>exact b.elim
 case ad=>exact b.elim
 all_goals
  simp only[bA,eZ,g1]at e;obtain⟨y,c,d⟩:=aer h e b;exact⟨y,c,j y d⟩
def aev(h:a2 S ι st a w): ∀(g:List J) (e:List Value) (K:List J->Prop),bb (bA S ι st.k w) g e->nF st.k g K-> ∃f,K f/\bb (gm w (mf S w)) f e
 |[],[],K,_,b=>⟨[],b,trivial⟩
 |[],_::_,_,d,_=>d.elim
 |_::_,[],_,d,_=>d.elim
 |c::cs,v::e,K,d,b=>by
  have⟨y,b,i⟩:=T4 h d.1 b;have⟨f,b,j⟩:=aev h cs e _ d.2 b;exact⟨y::f,b,i,j⟩
def aeq{H:Heap}{x:J}{K:J->Prop}(b:pR x=true)(a:jy H x K):K x:=by
 cases x<;>first|(cases b;done)|(simp only[jy,aF]at a;exact a.2)
def aex{H:Heap} : ∀{cs:List J} {K:List J->Prop},cs.all pR=true->m0 H cs K->K cs
 |[],_,_,b=>b
 |c::cs,K,a,b=>by
  simp only[Bv,b2]at a;exact aex (K:=λd=>K (c::d)) a.2 (aeq a.1 b)
def atu{H:Heap}{x:J}{K:J->Prop}(a:Cl x=true)(b:lL H x K):K x:=by
 cases x
 case agg cs=>exact aex (K:=λc=>K (.agg c)) a b
 all_goals exact aeq (H:=H) a b
def aeu{H:Heap} : ∀{cs:List J} {K:List J->Prop},cs.all Cl=true->nF H cs K->K cs
 |[],_,_,b=>b
 |c::cs,K,a,b=>by
  simp only[Bv,b2]at a;exact aeu (K:=λd=>K (c::d)) a.2 (atu a.1 b)
def alq{F F':Nat->Prop}{w':World}{x:J}{v:Value}(a:aaa x=true)(h:a6 w F x v):a6 w' F' x v:=by
 cases h<;>first|(cases a;done)|(constructor;done)|(constructor;assumption)
def aln{F F':Nat->Prop}{w':World}{x:J}{v:Value}(d:aab x=true)(h:gm w F x v):gm w' F' x v:=by
 cases x
 case agg cs=>
  obtain⟨g,rfl,c⟩:=h;refine⟨g,rfl,bb.mk c.length λi p q a e=> ?_⟩;have⟨j,b,f⟩:=c.get i p a;rw[e]at b;cases b;exact alq (d_.1 d p (fr a)) f
 case undef=>exact h.elim
 all_goals
  simp only[gm]at h |-;exact alq d h
def alp{F F':Nat->Prop}{w':World}{x:J}{v:Value}(d:EJ x=true)(h:kW w F x v):kW w' F' x v:=by
 cases x
 case du cs=>
  obtain⟨g,rfl,c⟩:=h;refine⟨g,rfl,bb.mk c.length λi p q a e=> ?_⟩;have⟨j,b,f⟩:=c.get i p a;rw[e]at b;cases b;exact aln (d_.1 d p (fr a)) f
 all_goals
  simp only[kW]at h |-;exact aln d h
end
section
variable {E:Env} {S:ez} {ι:Nat->Option Nat} {st:O} {a:Act} {w:World}
def bA.int{H:Heap}{k:IntKind}{n:Int}{v:Value}(h:bA S ι H w (.int k n) v):v= .int k n:=by
 have:a6 w (aX S ι H w) (.int k n) v:=h
 cases this;rfl
def bA.bool{H:Heap}{b:Bool}{v:Value}(h:bA S ι H w (.bool b) v):v= .bool b:=by
 have:a6 w (aX S ι H w) (.bool b) v:=h
 cases this;rfl
def bA.str{H:Heap}{s:ByteArray}{v:Value}(h:bA S ι H w (.str s) v):v= .string s:=by
 have:a6 w (aX S ι H w) (.str s) v:=h
 cases this;rfl
def bA.mkInt{H:Heap}(k:IntKind)(n:Int):bA S ι H w (.int k n) (.int k n):=a6.int k n
def bA.AK{H:Heap}(b:Bool):bA S ι H w (.bool b) (.bool b):=a6.bool b
def bA.mkStr{H:Heap}(s:ByteArray)(a:s.size<=dL):bA S ι H w (.str s) (.string s):=a6.str s a
def bA.aaw{H:Heap}{s:ByteArray}{v:Value}(h:bA S ι H w (.str s) v):s.size<=dL:=by
 have:a6 w (aX S ι H w) (.str s) v:=h
 cases this;assumption
def bA.lit{H:Heap}{b:Bool}{v:Value}(h:bA S ι H w (.lit b) v):v= .bool b:=by
 have:a6 w (aX S ι H w) (.lit b) v:=h
 cases this;rfl
def bA.mkLit{H:Heap}(b:Bool):bA S ι H w (.lit b) (.bool b):=a6.lit b
def akt{o:Oper}{c x y:Operand}{b:Bool}(g:o.op= .pick c x y)(f:a.eval c= .bool b)(h:a2 S ι st a w){K:J->Prop}(d:Jv b (aE st.n x) (aE st.n y) K){next:Act->World->Prop}{Q:Exit->Act->World->Prop}
  (e: ∀av v,K av->bA S ι st.k w av v->next (a.put o.dst v) w):o.wp E.P a w next Q:=by
 refine dK (v:=if b then a.eval x else a.eval y) (w':=w) (by simp [execOp,g,f,asBool]) ?_
 cases b
 .exact e _ _ d (h.eval y)
 .exact e _ _ d (h.eval x)
def ax1{b:BinOp}{k:IntKind}{p q:Int}{T:TypeId}{x y:Operand}{K:J->Prop}(a:xW b k p q K)(H:Heap): ∃av v,K av/\bA S ι H w av v/\
  (do eqGuard b T x y (.int k p) (.int k q);binOp b T (.int k p) (.int k q):Sem Value).run E.P w= .ok v w:=by
 cases b<;>simp only[xW]at a<;>try exact a.elim
 all_goals first
  |exact⟨_,_,a,bA.mkInt _ _,by simp [go_sem,Op.intArith]⟩
  |exact⟨_,_,a,bA.AK _,by simp [go_sem]⟩
  |exact⟨_,_,a.2,bA.mkInt _ _,by simp [go_sem,Op.intDiv,a.1]⟩
def KS{d:List J} : ∀{cs:List J} {a:List Value} {H:Heap} {F:Nat->Prop},im d cs=true->bb (cu ι H w F) cs a->bb yA cs a:=by
 intro cs a H F b h
 induction cs generalizing d a with
 |nil=>cases a;exact trivial;exact h.elim
 |cons c cs g=>
  cases a with
  |nil=>exact h.elim
  |cons v a=>
   cases d with
   |nil=>cases b
   |cons z d=>
    simp only[im,b2]at b;refine⟨?_,g b.2 h.2⟩;have e:=h.1
    cases z<;>cases c<;>simp [TN]at b<;>(have f:a6 w F _ v:=e;cases f;rfl)
def adV{P:Program}{T:TypeId}(a:P.underlying T=some .bool)(d:Nat)(p q:Bool):(Op.equalIn (d+1) T (.bool p) (.bool q)).run P w= .ok (p==q) w:=by
 simp [Op.equalIn,fN a]
def run_eql_bool{P:Program}{T:TypeId}(a:P.underlying T=some .bool)(x y:Operand)(p q:Bool):
  (do eqGuard .eql T x y (.bool p) (.bool q);binOp .eql T (.bool p) (.bool q):Sem Value).run P w= .ok (.bool (p==q)) w:=by
 have h:binOp .eql T (.bool p) (.bool q)=(do pure (.bool (<-Op.equal T (.bool p) (.bool q)))):=rfl;rw[h];simp [go_sem,Op.equal,Op.maxDepth,adV a 9999 p q]
def run_neq_bool{P:Program}{T:TypeId}(a:P.underlying T=some .bool)(x y:Operand)(p q:Bool):
  (do eqGuard .neq T x y (.bool p) (.bool q);binOp .neq T (.bool p) (.bool q):Sem Value).run P w= .ok (.bool (!(p==q))) w:=by
 have h:binOp .neq T (.bool p) (.bool q)=(do pure (.bool (!(<-Op.equal T (.bool p) (.bool q))))):=rfl;rw[h];simp [go_sem,Op.equal,Op.maxDepth,adV a 9999 p q]
def aqD{o:Oper}{d:BinOp}{T A:TypeId}{t:bU}{x y:Operand}(L:o.op= .binOp d T x y A)(q:hl E.P T t)(h:a2 S ι st a w){K:J->Prop}(b:qP t d (fh (aE st.n x)) (fh (aE st.n y)) K){next:Act->World->Prop}{Q:Exit->Act->World->Prop}
  (I: ∀av v,K av->bA S ι st.k w av v->next (a.put o.dst v) w):o.wp E.P a w next Q:=by
 have e:bA S ι st.k w (fh (aE st.n x)) (a.eval x):=El (h.eval x);have f:bA S ι st.k w (fh (aE st.n y)) (a.eval y):=El (h.eval y);have c: ∀av v,K av->bA S ι st.k w av v->(do eqGuard d T x y (a.eval x) (a.eval y);binOp d T (a.eval x) (a.eval y):Sem Value).run E.P w= .ok v w->o.wp E.P a w next Q:=λav v G m i=>by
  refine dK (v:=v) (w':=w) ?_ (I av v G m);have:(execOp a.eval o).run E.P w=((do eqGuard d T x y (a.eval x) (a.eval y);binOp d T (a.eval x) (a.eval y):Sem Value).run E.P w).andThen λv w=> .ok (.value v) w:=by
   simp only[execOp,L];rw[Sem.run_bind];rfl
  rw[this,i];rfl
 cases n:fh (aE st.n x)<;>cases p:fh (aE st.n y)<;>rw[n,p]at b<;>rw[n]at e<;>rw[p]at f<;>simp only[qP]at b<;>try exact b.elim
 .rw[e.int,f.int]at c
  cases es:OO d with
  |true=>
   rw[es]at b;obtain⟨⟨r,s⟩,b⟩:=b
   cases d<;>first|(cases es;done)|skip
   .exact c _ _ b (bA.mkInt _ _) (by simp [go_sem,shift_shl _ _ _ _ r s])
   .exact c _ _ b (bA.mkInt _ _) (by simp [go_sem,shift_shr _ _ _ _ r s])
  |false=>
  rw[es]at b;simp only[aF,kS]at b;obtain⟨rfl,b⟩:=b;have⟨av,v,C,D,F⟩:=ax1 (E:=E) (S:=S) (ι:=ι) (w:=w) (T:=T) (x:=x) (y:=y) b st.k;exact c av v C D F
 .rw[e.bool,f.bool]at c;have l:=q.d
  cases B:t.d<;>rw[B]at b l<;>simp only at b<;>try exact b.elim
  cases d<;>simp only at b<;>try exact b.elim
  .exact c _ _ b (bA.AK _) (run_eql_bool l _ _ _ _)
  .exact c _ _ b (bA.AK _) (run_neq_bool l _ _ _ _)
 .rw[e.str,f.str]at c
  cases d<;>simp only at b<;>try exact b.elim
  all_goals first
   |exact c _ _ b (bA.AK _) (by simp [go_sem])
   |exact c _ _ b.2 (bA.mkStr _ (by rw[ByteArray.size_append];exact b.1)) (by have:=b.1;have N:dL=549755813888:=rfl;simp [go_sem,Op.stringOp];omega)
 .simp only[aF,b2]at b;obtain⟨⟨⟨H,j⟩,k⟩,b⟩:=b;have z:=q.cmp H;have⟨g,m,i⟩:=(show∃g:List Value,a.eval x= .agg g.toArray/\bb (eY S ι st.k w) _ g from e);have⟨us,M,u⟩:=(show∃us:List Value,a.eval y= .agg us.toArray/\bb (eY S ι st.k w) _ us from f);rw[m,M]at c
  cases d<;>simp only at b<;>try exact b.elim
  .exact c _ _ b (bA.AK _) (z .eql x y _ _ g us w (.inl rfl) j k (KS j i) (KS k u))
  .exact c _ _ b (bA.AK _) (z .neq x y _ _ g us w (.inr rfl) j k (KS j i) (KS k u))
def aGS{o:Oper}{f:UnOp}{T:TypeId}{x:Operand}(e:o.op= .unOp f T x)(h:a2 S ι st a w){K:J->Prop}(b:Bk f (aE st.n x) K){next:Act->World->Prop}{Q:Exit->Act->World->Prop}
  (d: ∀av v,K av->bA S ι st.k w av v->next (a.put o.dst v) w):o.wp E.P a w next Q:=by
 have c:=h.eval x
 cases f<;>cases g:aE st.n x<;>rw[g]at b c<;>simp only[Bk]at b<;>try exact b.elim
 all_goals first
  |exact dK (v:= .bool _) (by simp only[execOp,e,c.bool,Op.unary];rfl) (d _ _ b (bA.AK _))
  |exact dK (v:= .bool _) (by simp only[execOp,e,c.lit,Op.unary];rfl) (d _ _ b (bA.mkLit _))
  |exact dK (v:= .int _ _) (by simp only[execOp,e,c.int,Op.unary,Op.intArith];rfl) (d _ _ b (bA.mkInt _ _))
def aBG{o:Oper}{c:Go.Call}{x:Operand}{T:TypeId}{t:bU}(I:o.op= .call c)(H:c.callee= .builtin .len)(G:c.args= #[x])(L:c.argTypes= #[T])(F:hl E.P T t)(h:a2 S ι st a w)
  (u:(match t.d with| .slice .. =>true| .string=>true|_=>false)=true) {K:J->Prop} (d:rM st.k (aE st.n x) K) (g:(match t.d,aE st.n x with| .string,.str _=>true| .slice ..,.str _=>false| .string,_=>false|_,_=>true)=true) {next:Act->World->Prop} {Q:Exit->Act->World->Prop}
  (i: ∀av v,K av->bA S ι st.k w av v->next (a.put o.dst v) w):o.wp E.P a w next Q:=by
 have m:=h.eval x;have s:=F.d;have j: ∀v,(Builtin.len_ #[T] o.type #[a.eval x]).run E.P w= .ok v w->(execOp a.eval o).run E.P w= .ok (.value v) w:=λv e=>by
  simp [execOp,I,resolve,H,G,L,invoke,builtin,e]
 cases A:t.d<;>rw[A]at u s g<;>simp only at u<;>try exact Ζ
 .cases r:aE st.n x<;>rw[r]at d m g<;>simp only[rM]at d<;>simp only at g<;>first|(cases g;done)|skip
  exact dK (j _ (by simp [Builtin.len_,fN s,m.str];rfl)) (i _ _ d (bA.mkInt _ _))
 .obtain⟨l,_⟩:=s
  cases r:aE st.n x<;>rw[r]at d m g<;>simp only[rM]at d<;>simp only at g<;>first|(cases g;done)|(exact d.elim)|skip
  .have p:a6 w (aX S ι st.k w) .aH (a.eval x):=m;generalize e:a.eval x=v at p
   cases p
   exact dK (j _ (by simp [Builtin.len_,fN l,e];rfl)) (i _ _ d (bA.mkInt _ _))
  .rename_i z n f;have p:a6 w (aX S ι st.k w) (.arr z n f) (a.eval x):=m;generalize e:a.eval x=v at p
   cases p with
   |nil=>exact dK (j _ (by simp [Builtin.len_,fN l,e];rfl)) (i _ _ d (bA.mkInt _ _))
   |mt=>exact dK (j _ (by simp [Builtin.len_,fN l,e];rfl)) (i _ _ d (bA.mkInt _ _))
   |arr=>exact dK (j _ (by simp [Builtin.len_,fN l,e];rfl)) (i _ _ d (bA.mkInt _ _))
  .rename_i b k;have⟨_,W,z,n,f,B,O,D⟩:=(show eY S ι st.k w (.own b k) _ from m);rw[B]at d;simp only at d;obtain⟨rfl,y⟩:=d;rcases D rfl with⟨q,N,C,M,V,e,U,P,R⟩|⟨rfl,_,e⟩
   .exact dK (j _ (by simp [Builtin.len_,fN l,e];rfl)) (i _ _ y (bA.mkInt _ _))
   .exact dK (j _ (by simp [Builtin.len_,fN l,e];rfl)) (i _ _ y (bA.mkInt _ _))
end
section
variable {E:Env} {S:ez} {ι:Nat->Option Nat} {st:O} {a:Act} {w:World}
def alv{R:J->Value->Prop} : ∀(cs:List J) (f:List Value) (e:List J) (us:Array Value) (a j:Nat),bb R cs f->bb R e us.toList->a+j+cs.length<=e.length->
  bb R (tk e cs (a+j)) ((f.zipIdx j).foldl (λcs (c,j)=>cs.setIfInBounds (a+j) c) us).toList
 |[],[],e,us,a,j,_,h,_=>h
 |[],_::_,_,_,_,_,h,_,_=>h.elim
 |_::_,[],_,_,_,_,h,_,_=>h.elim
 |c::cs,v::f,e,us,a,j,h,k,n=>by
  simp only[tk,List.zipIdx_cons,Bq];have:=alv cs f (e.set (a+j) c) (us.setIfInBounds (a+j) v) a (j+1) h.2 (by
   refine bb.mk (by simp [k.length]) λi x y d b=> ?_;simp only[Array.toList_setIfInBounds]at b
   by_cases m:i=a+j
   .subst m;rw[we]at d b;simp only[ma]at d b
    split at d<;>split at b<;>first|(cases d;cases b;exact h.1)|(cases d;done)|(cases b;done)
   .rw[E4 Ω]at d b;have⟨o,g,l⟩:=k.get i x d;rw[b]at g;cases g;exact l) (by simp at n |-;omega)
  rwa [show a+(j+1)=a+j+1 by omega]at this
def acD{j:List (Nat×Nat)}(h:a2 S ι st a w): ∀(e:List (Nat×Operand)) (cs:List J) (us:Array Value) (K:List J->Prop),bb (eY S ι st.k w) cs us.toList->oq j st.n e cs K->
  ∃c f,K c/\bb (eY S ι st.k w) c f.toList/\Instr.fill (j[·]?) us (e.map λ(i,x)=>(i,a.eval x))=some f
 |[],cs,us,K,d,b=>⟨cs,us,b,d,rfl⟩
 |(i,x)::e,cs,us,K,d,b=>by
  simp only[oq]at b
  cases g:j[i]? with
  |none=>rw[g]at b;exact b.elim
  |some q=>
   obtain⟨s,af⟩:=q;rw[g]at b;simp only[aF,b2,kS]at b;obtain⟨⟨⟨p,r⟩,t⟩,b⟩:=b;have k:=(h.eval x).cells p;have u:(a.eval x).cells.size=af:=by rw[<-r,k.length];simp
   have v:us.size=cs.length:=by rw[d.length];simp
   have l:=alv (cellsOf (aE st.n x)) (a.eval x).cells.toList cs us s 0 k d Ω;rw[nu]at l;have⟨c,f,m,n,o⟩:=acD h e _ _ K l b;refine⟨c,f,m,n,?_⟩;simp only[Br,Instr.fill,g];rw[aW (by simp;omega),<-o]
   congr 1
   rw[<-Array.foldl_toList];simp
def aqL{o:Oper}{T:TypeId}{t:bU}{b:Array (Nat×Operand)}{f:List (Nat×Nat)}(r:o.op= .build T b)(d:hl E.P T t)(s:t.d= .struct f)(h:a2 S ι st a w){K:J->Prop}
  (n:oq f st.n b.toList t.zero λcs=>K (.agg cs)) {next:Act->World->Prop} {Q:Exit->Act->World->Prop}
  (q: ∀av v,K av->bA S ι st.k w av v->next (a.put o.dst v) w):o.wp E.P a w next Q:=by
 have e:=d.d;rw[s]at e;obtain⟨C,u,p,_⟩:=e;have⟨i,z,m,_,y,D,A⟩:=d.info;have⟨B,c,g,j,k⟩:=acD h b.toList t.zero z.cells (λcs=>K (.agg cs)) (A.imp λ_ _=>mi.rel) n;refine dK (v:= .agg c) (w':=w) ?_ (q _ _ g ⟨c.toList,by simp,j⟩);have l:E.P.built T (b.map λ(i,x)=>(i,a.eval x)).toList=some c:=by
  simp only[Program.built,m,u,y,p];rw[<-k];simp
 simp only[execOp,r];rw[Sem.run_bind,run_build w T _ c l];rfl
end
