/- Part of a proof: walks of the program. -/
import Derived.Test.YtfmgjpcmcjjoiaaGreatDoorXh
open Go.IntKind (i64 u64 u8)
open Int (toNat)
set_option maxRecDepth 100000
set_option maxHeartbeats 4000000
set_option linter.all false
noncomputable section
namespace Go.Vc
open Go Go.RowKit
inductive Sh where
 |v (k:Kd)
 |g (ks:List Kd)
 |r (ks:List Kd)
 |fn (f:FuncId) (bp:List (List Kd))
 |p (b:Nat)
 |o (b:Nat)
 |fp (f:FuncId) (bs:List Nat)
 |po (b o:Nat)
def Sh.kd:Sh→List Kd
 | .v k=>[k]
 | .g ks=>ks
 | .r ks=>ks
 | .fn _ bp=>bp.flatten
 | .p _=>[]
 | .o _=>[]
 | .fp _ _=>[]
 | .po .. =>[]
def EW:List (List Kd)→List AV→List AV×List AV
 |[],l=>([],l)
 |ks::r,l=>match EW r (l.drop ks.length)with
  |(a,b)=>(.ref (l.take ks.length)::a,b)
def fS:List Sh→List AV→List AV
 |[],_=>[]
 |s::r,l=>match s with
  | .v _=>l.headD .undef::fS r l.tail
  | .g ks=> .agg (l.take ks.length)::fS r (l.drop ks.length)
  | .r ks=> .ref (l.take ks.length)::fS r (l.drop ks.length)
  | .fn f bp=>match EW bp l with
    |(a,b)=> .fn f a::fS r b
  | .p b=> .ptr b 0::fS r l
  | .o b=> .own b 0::fS r l
  | .fp f bs=> .fn f (bs.map fun b=> .ptr b 0)::fS r l
  | .po b o=> .ptr b o::fS r l
def R2:AV→List AV
 | .agg cs=>cs
 | .ref cs=>cs
 | .ptr .. =>[]
 | .own .. =>[]
 | .fn _ bp=>bp.flatMap fun c=>match c with
   | .ref cs=>cs
   | .ptr .. =>[]
   |x=>[x]
 |x=>[x]
@[reducible] def dM:List Kd→Type 1→Type 1
  |[],α=>α
  |k::ks,α=>k.ty→dM ks α
def dM.ap{α:Type 1} :(ks:List Kd)→dM ks α→List AV→Option α
 |[],f,[]=>some f
 |k::ks,f,x::xs=>match k.rd x with
  |some v=>dM.ap ks (f v) xs
  |none=>none
 |_,_,_=>none
structure Fa where
 pre:Option Prop
 res:AV
structure Fq where
 sh:List Sh
 f:dM (sh.flatMap Sh.kd) (ULift Fa)
def Sh.bs:Sh→List Bool
 | .v _=>[true]
 | .g ks=>List.replicate ks.length true
 | .r ks=>List.replicate ks.length false
 | .fn _ bp=>List.replicate bp.flatten.length false
 | .p _=>[]
 | .o _=>[]
 | .fp _ _=>[]
 | .po .. =>[]
def Bd(b:Bool):(k:Kd)→k.ty→Prop→Prop
 | .int _,_,p=>p
 | .bool,_,p=>p
 | .str,s,p=>match b with
   |true=>s.size≤549755813888→p
   |false=>p
 | .sl E,s,p=>match b with
   |true=>s.n≤549755813888→fJ (aL E.sz E.e s)→p
   |false=>p
 | .ah _,_,p=>p
def wx(pre:Option Prop)(p:Prop):Prop:=
 match pre with
 |none=>p
 |some q=>q→p
def Jp(P:Program)(f:FuncId)(sh:List Sh):(ks:List Kd)→List Bool→dM ks (ULift Fa)→List AV→Prop
 |[],_,F,acc=>wx F.down.pre (fk P f (fS sh acc) F.down.res)
 |k::ks,bs,F,acc=> ∀x:k.ty,Bd (bs.headD false) k x (Jp P f sh ks bs.tail (F x) (acc++[k.av x]))
def DV(p:Option Prop):Ob:=
 match p with
 |none=> .tt
 |some q=> .p q
def Av:List Sh→List AV→Bool
 |[],_=>true
 |s::r,l=>match s with
  | .fn f _=>match l with
    |x::xs=>match x with
     | .fn g _=>match Nat.beq f g with
       |true=>Av r xs
       |false=>false
     |_=>false
    |[]=>false
  | .fp f _=>match l with
    |x::xs=>match x with
     | .fn g _=>match Nat.beq f g with
       |true=>Av r xs
       |false=>false
     |_=>false
    |[]=>false
  | .po _ o=>match l with
    |x::xs=>match x with
     | .ptr _ o'=>match Nat.beq o o' with
       |true=>Av r xs
       |false=>false
     |_=>false
    |[]=>false
  |_=>Av r l.tail
def Fq.gW(F:Fq)(aa:List AV):Option (Ob×AV):=
 gd (Av F.sh aa) (match dB (F.sh.flatMap Sh.kd) (aa.flatMap R2)with
 |some cs=>match dM.ap _ F.f cs with
  |some a=>some (.and (.e (Ap aa (fS F.sh cs)) (fS F.sh cs)) (DV a.down.pre),a.down.res)
  |none=>none
 |none=>none)
structure Ei (P:Program) (f:FuncId) (s:List AV→Option (Ob×AV)):Prop where
 w4:ml P f
 pure: ∀args o r,s args=some (o,r)→o.holds→fk P f args r
def sZ:List Bool→List AV→Prop
 |b::bs,c::cs=>(b=true→fJ c)∧sZ bs cs
 |_,_=>True
theorem Fl: ∀{bs:List Bool} {cs:List AV} {EV:List Bool} {kM:List AV},bs.length=cs.length→sZ bs cs→sZ EV kM→sZ (bs++EV) (cs++kM)
 |[],[],_,_,_,_,h=>h
 |b::bs,c::cs,_,_,hl,h,h'=>⟨h.1,Fl (by simpa using hl) h.2 h'⟩
 |[],_::_,_,_,hl,_,_=>by simp at hl
 |_::_,[],_,_,hl,_,_=>by simp at hl
theorem ab1: ∀{cs:List AV},J8 cs→sZ (List.replicate cs.length true) cs
 |[],_=>trivial
 |_::_,h=>⟨fun _=>h.1,ab1 h.2⟩
theorem SN: ∀(n:Nat) (cs:List AV),sZ (List.replicate n false) cs
 |0,_=>trivial
 |_+1,[]=>trivial
 |n+1,_::cs=>⟨fun h=>(by cases h),SN n cs⟩
theorem RZ: ∀(bp:List (List Kd)) (l:List AV),(EW bp l).2=l.drop bp.flatten.length
 |[],l=>by simp [EW]
 |ks::r,l=>by
  simp only[EW,RZ r,aDX,aC8,aDT]
theorem DP: ∀{ks:List Kd} {xs ys:List AV},dB ks xs=some ys→dB ks ys=some ys
 |[],[],ys,h=>by cases h;rfl
 |[],_::_,_,h=>by cases h
 |_::_,[],_,h=>by cases h
 |k::ks,x::xs,ys,h=>by
  simp only[dB]at h
  split at h<;>try (cases h;done)
  rename_i y e
  split at h<;>try (cases h;done)
  rename_i zs e2
  cases h
  obtain⟨v,h1,h2⟩:=Kd.IQ e;subst h1;simp only[dB,Kd.nrm,h2,DP e2]
theorem IN: ∀{ks js:List Kd} {l:List AV},dB (ks++js) l=some l→dB ks (l.take ks.length)=some (l.take ks.length)∧dB js (l.drop ks.length)=some (l.drop ks.length)
 |[],js,l,h=>⟨rfl,h⟩
 |k::ks,js,[],h=>by cases h
 |k::ks,js,x::xs,h=>by
  simp only[aEd,dB]at h
  split at h<;>try (cases h;done)
  rename_i y e
  split at h<;>try (cases h;done)
  rename_i zs e2;simp only[aC3,aDm]at h;obtain⟨rfl,rfl⟩:=h;obtain⟨h1,h2⟩:=IN e2;exact⟨by simp only[aC7,List.take_succ_cons,dB,e,h1],h2⟩
theorem uM: ∀(sh:List Sh) (l:List AV),dB (sh.flatMap Sh.kd) l=some l→J7 (fS sh l)→sZ (sh.flatMap Sh.bs) l
 |[],l,_,_=>trivial
 |s::r,l,hn,h=>by
  simp only[aDj]at hn ⊢;obtain⟨n1,n2⟩:=IN hn;have hl:=wI n1
  cases s with
  |v k=>
   cases l with
   |nil=>cases hn
   |cons x xs=>
    simp only[fS,List.headD_cons,List.tail_cons]at h;refine Fl (bs:=[true]) (cs:=[x]) rfl ⟨fun _=> ?_,trivial⟩ (uM r xs n2 h.2);have h1:=h.1;simp only[Sh.kd,aC7,aDf,aCO,List.take_succ_cons,List.take_zero,dB]at n1
    split at n1<;>try (cases n1;done)
    rename_i y e;simp only[aC3,aDm,and_true]at n1;subst n1;obtain⟨v,e1,_⟩:=Kd.IQ e;subst e1
    cases k<;>exact h1
  |g ks=>
   simp only[fS]at h;simp only[Sh.kd]at hl n2;have h1:=ab1 h.1;rw[hl]at h1;have:=Fl (bs:=List.replicate ks.length true) (by simp [hl]) h1 (uM r (l.drop ks.length) n2 h.2);rwa [aDz]at this
  |r ks=>
   simp only[fS]at h;simp only[Sh.kd]at hl n2;have:=Fl (bs:=List.replicate ks.length false) (cs:=l.take ks.length) (by simp [hl]) (SN _ _) (uM r (l.drop ks.length) n2 h.2);rwa [aDz]at this
  |fn f bp=>
   simp only[fS]at h;simp only[Sh.kd]at hl n2;have h2:=h.2;rw[RZ]at h2;have:=Fl (bs:=List.replicate bp.flatten.length false) (cs:=l.take bp.flatten.length) (by rw[List.length_replicate,hl]) (SN _ _) (uM r (l.drop bp.flatten.length) n2 h2);rwa [aDz]at this
  |p b=>exact uM r l n2 h.2
  |o b=>exact uM r l n2 h.2
  |fp f bs=>exact uM r l n2 h.2
  |po b o=>exact uM r l n2 h.2
theorem dM.aaL{P:Program}{f:FuncId}{sh:List Sh} : ∀{ks:List Kd} {bs:List Bool} {F:dM ks (ULift Fa)} {acc cs:List AV} {a:ULift Fa},dM.ap ks F cs=some a→dB ks cs=some cs→sZ bs cs→Jp P f sh ks bs F acc→wx a.down.pre (fk P f (fS sh (acc++cs)) a.down.res)
 |[],bs,F,acc,[],a,h,_,_,hf=>by
  cases h
  rw[aDi];exact hf
 |[],_,_,_,_::_,_,h,_,_,_=>by cases h
 |_::_,_,_,_,[],_,h,_,_,_=>by cases h
 |k::ks,bs,F,acc,x::xs,a,h,hn,we,hf=>by
  simp only[dM.ap]at h
  split at h<;>try (cases h;done)
  rename_i v e;simp only[dB]at hn
  split at hn<;>try (cases hn;done)
  rename_i y ey
  split at hn<;>try (cases hn;done)
  rename_i ys Fi;simp only[aC3,aDm]at hn;obtain⟨rfl,rfl⟩:=hn;have hx:y=k.av v:=by
   unfold Kd.nrm at ey;rw[e]at ey
   cases ey;rfl
  subst hx;have hB: ∀p,Bd (bs.headD false) k v p→p:=fun p hb=>by
   cases bs with
   |nil=>cases k<;>exact hb
   |cons b bs=>
    cases b with
    |false=>cases k<;>exact hb
    |true=>
     have hc:=we.1 rfl
     cases k with
     |int _=>exact hb
     |bool=>exact hb
     |str=>exact hb hc.size
     |sl E=>exact hb (fJ.len hc) hc
     |ah _=>exact hb
  have as7:sZ bs.tail ys:=by
   cases bs with
   |nil=>trivial
   |cons b bs=>exact we.2
  have:=dM.aaL (ks:=ks) (bs:=bs.tail) (acc:=acc++[k.av v]) h Fi as7 (hB _ (hf v));rwa [aDe,aD5]at this
theorem Fq.ok{P:Program}{f:FuncId}{F:Fq}(hc:ml P f)(h:Jp P f F.sh _ (F.sh.flatMap Sh.bs) F.f []):Ei P f F.gW:=by
 refine⟨hc,fun args o r e ho=> ?_⟩;unfold Fq.gW at e;rw[cY]at e;replace e:=e.2
 split at e<;>try (cases e;done)
 rename_i cs Fb
 split at e<;>try (cases e;done)
 rename_i a ea
 cases e
 have hle:aT kJ args (fS F.sh cs):=YI ho.1;refine fk.aj9 ?_ hle;refine fk.nO fun hf=> ?_;have h1:=DP Fb;have:=dM.aaL ea h1 (uM F.sh cs h1 hf) h;have h2:=ho.2;unfold DV at h2
 cases hp:a.down.pre with
 |none=>rw[hp]at this;exact this
 |some q=>rw[hp]at this h2;exact this h2
def JX(X:XE)(R:RS)(lf:Lf):Option (List AV):=
 match lf with
 | .nrm s=>match Ar X R s with
   |some q=>some q.2
   |none=>none
 | .ret vs=>some vs
 |_=>none
def abK(X:XE)(R:RS)(lf:Lf):Ob:=
 match lf with
 | .nrm s=>match Ar X R s with
   |some q=>q.1
   |none=> .p False
 | .ret _=> .tt
 | .dead=> .tt
 | .ext .. => .p False
def J6(X:XE)(R:RS)(ms:List Mk)(r:jw):Option (Ob×List AV):=
 match r.t.prune (JX X R)with
 |some tv=>match E1 R.kd ms tv with
  |some q=>some (.and r.o (.and (rC r.f (r.t.Ah (abK X R))) (.es fun _:Unit=>q.1)),q.2)
  |none=>none
 |none=>none
theorem WP.axV{E:Env}{c:Code}{Q R:Exit→St→Prop}{st:St}(h:WP E c R st)(hr: ∀e s,R e s→ ∃s',Le E.m s s'∧Q e s'):WP E c Q st:=fun S hS ι a w hs=>aDs (h S hS ι a w hs) fun e a w ⟨aA,aX,h1,h2⟩=>by
 obtain⟨s',h3,h4⟩:=hr e aX h2;obtain⟨dU,h5⟩:=h3 S hS aA a w h1;exact⟨dU,s',h5,h4⟩
def aku(X:XE)(R:RS)(vs:List AV)(e:Exit)(s:St):Prop:=
 (match e with
  | .normal=>True
  | .ret=>True
  |_=>False)∧sJ X R s vs
theorem Fj{X:XE}{R:RS}{c:Code}{st:St}{r:jw}{ms:List Mk}{o:Ob}{vs:List AV}(h:J6 X R ms r=some (o,vs))(ho:o.holds)(hr:r.o.holds→RP X R c st r):WP X.env c (aku X R vs) st:=by
 unfold J6 at h
 split at h<;>try (cases h;done)
 rename_i tv etv
 split at h<;>try (cases h;done)
 rename_i q eq
 cases h
 obtain⟨h1,h2,h3⟩:=ho;have hp:=hr h1;have h4:=T.IU (MN h2 hp.f);have agA:tv.bq.length=R.kd.length→dB R.kd tv.bq=some q.2:=fun hl=>R7 (o:=q.1) (vs:=q.2) eq (h3 ()) hl;refine hp.wp.axV fun e s hs=> ?_
 cases el:r.t.bq with
 |nrm s'=>
  rw[el]at hs h4
  cases e<;>simp only[j5]at hs<;>try exact hs.elim
  simp only[abK]at h4
  cases er:Ar X R s' with
  |none=>rw[er]at h4;exact h4.elim
  |some p=>
   rw[er]at h4;obtain⟨g1,xs,g2⟩:=YR (o:=p.1) (vs:=p.2) er h4;obtain⟨t',e1,e2⟩:=T.nB (f:=JX X R) (t:=r.t) (x:=p.2) (by rw[el];simp only[JX,er]);rw[etv]at e1;cases e1;have:=agA (by rw[e2];exact wI g2);rw[e2,DP g2]at this;have hv:p.2=q.2:=aDZ this;exact⟨s',hs,trivial,hv▸g1⟩
 |ret ws=>
  rw[el]at hs
  cases e<;>simp only[j5]at hs<;>try exact hs.elim
  obtain⟨xs,g2⟩:=hp.ret ws el;obtain⟨t',e1,e2⟩:=T.nB (f:=JX X R) (t:=r.t) (x:=ws) (by rw[el];rfl);rw[etv]at e1;cases e1;have:=agA (by rw[e2];exact wI g2);rw[e2,DP g2]at this
  cases this
  exact⟨s,Le.refl _,trivial,hs⟩
 |ext id s'=>rw[el]at h4;exact h4.elim
 |dead=>exact absurd el hp.live
def XZ:List AV→Bool
 |[]=>false
 |[x]=>match x with
  | .cU _=>false
  | .ah .. =>false
  |_=>true
 |_=>true
noncomputable def sq(X:XE)(R:RS)(c:Code)(h:Hn R.kd)(ms:List Mk)(st:St):Ob×AV:=
 match J6 X R ms (exec X R c h st)with
 |some q=>match R.md with
  | .pure=>match XZ (R.st q.2).tm with
    |true=>(q.1,pq (R.st q.2).tm)
    |false=>(.p False,.undef)
  | .own _=>(q.1,q.2.headD .undef)
  |_=>(.p False,.undef)
 |none=>(.p False,.undef)
theorem aAW: ∀{xs ys:List AV},aT kJ xs ys→XZ ys=true→wL (pq xs) (pq ys)
 |[],[],_,h=>by cases h
 |[x],[y],h,ho=>by
  have h1:=h.1;simp only[pq];simp only[XZ]at ho
  cases x<;>cases y<;>first|exact h1|(cases ho;done)|(simp [kJ,gX]at h1;done)
 |_::_::_,_::_::_,h,_=>h
 |[],_::_,h,_=>h.elim
 |_::_,[],h,_=>h.elim
 |[_],_::_::_,h,_=>h.2.elim
 |_::_::_,[_],h,_=>h.2.elim
theorem azT{X:XE}{R:RS}{f:FuncId}{fn:Func}{c:Code}{h:Hn R.kd}{ms:List Mk}{aa:List AV}{r:AV}{p:Prop}(hE:X.env.Ok)(hf:X.P.funcs[f]? =some fn)(hb:fn.body=some c)(hR:R.rs=fn.results.toList)
  (e:((sq X R c h ms ⟨aa++List.replicate (fn.ntmps-aa.length) .undef,[]⟩).1.prop,(sq X R c h ms ⟨aa++List.replicate (fn.ntmps-aa.length) .undef,[]⟩).1.g9,(sq X R c h ms ⟨aa++List.replicate (fn.ntmps-aa.length) .undef,[]⟩).2)=(p,(sq X R c h ms ⟨aa++List.replicate (fn.ntmps-aa.length) .undef,[]⟩).1.iH,r)) (hp:p):fk X.P f aa r:=by
 generalize Ba:(⟨aa++List.replicate (fn.ntmps-aa.length) .undef,[]⟩:St)=st at e;simp only[aDL]at e;obtain⟨e1,e2,e3⟩:=e;have ho:(sq X R c h ms st).1.holds:=Ob.ok _ e2 (by rw[e1];exact hp);clear e1 e2;unfold sq at ho e3
 split at ho
 ·rename_i q eq;rw[eq]at e3;simp only at e3;obtain⟨o,vs⟩:=q;simp only at ho e3
  split at ho
  ·rename_i em;rw[em]at e3;simp only at e3
   split at ho
   ·rename_i eo;rw[eo]at e3;simp only at e3;have hw:=Fj eq ho fun h'=>Fh hE c h st h';refine wJ hE hf hb aa r ?_;rw[Ba];refine hw.mono fun e s hs=>⟨hs.1,?_⟩;have h2:=hs.2;unfold sJ at h2;rw[em]at h2;simp only at h2;subst e3;have h3:Aq X.env s fn.results.toList fun Zw=>wL (pq Zw) (pq (R.st vs).tm):=by
     rw[←hR];exact h2 _ fun ys hy=>aAW hy eo
    cases hr:pq (R.st vs).tm<;>rw[hr]at h3<;>first|exact h3|skip
    revert eo hr;generalize (R.st vs).tm=l;intro eo hr
    match l with
    |[]=>cases eo
    |[x]=>simp only[pq]at hr;subst hr;cases eo
    |_::_::_=>cases hr
   ·exact ho.elim
  ·rename_i El em;rw[em]at e3;simp only at e3;have hw:=Fj eq ho fun h'=>Fh hE c h st h';refine wJ hE hf hb aa r ?_;rw[Ba];refine hw.mono fun e s hs=>⟨hs.1,?_⟩;have h2:=hs.2;unfold sJ at h2;rw[em]at h2;simp only at h2;obtain⟨n,g,g1,g2⟩:=h2;subst g1;simp only[List.headD_cons]at e3;subst e3;rw[hR]at g2;exact g2
  ·exact ho.elim
 ·exact ho.elim
def abI:List (Nat×El)→TypeId→Option El
 |[],_=>none
 |(T',t)::r,T=>match Nat.beq T T' with
  |true=>some t
  |false=>abI r T
abbrev nH:=List AV→Option (Ob×AV)
def D6:List (Nat×nH)→FuncId→List AV→Option (Ob×AV)
 |[],_,_=>none
 |(g,s)::r,f,xs=>match Nat.beq f g with
  |true=>match s xs with
   |some q=>some q
   |none=>D6 r f xs
  |false=>D6 r f xs
def qK(P:Program):List (Nat×nH)→Prop
 |[]=>True
 |x::r=>Ei P x.1 x.2∧qK P r
theorem Zc{P:Program} : ∀{l:List (Nat×nH)},qK P l→ ∀f xs o r,D6 l f xs=some (o,r)→ml P f∧(o.holds→fk P f xs r)
 |[],_,_,_,_,_,h=>by cases h
 |(g,s)::l,hl,f,xs,o,r,h=>by
  simp only[D6]at h
  split at h
  ·rename_i e;have:f=g:=aCS e;subst this
   split at h
   ·rename_i q e2
    cases h
    exact⟨hl.1.w4,hl.1.pure xs _ _ e2⟩
   ·exact Zc hl.2 f xs o r h
  ·exact Zc hl.2 f xs o r h
abbrev XH:=List AV→Heap→Option (Ob×List AV×Heap)
def D5:List (Nat×XH)→FuncId→List AV→Heap→Option (Ob×List AV×Heap)
 |[],_,_,_=>none
 |(g,s)::r,f,xs,H=>match Nat.beq f g with
  |true=>match s xs H with
   |some q=>some q
   |none=>D5 r f xs H
  |false=>D5 r f xs H
structure jM (P:Program) (f:FuncId) (s:XH):Prop where
 w4:ml P f
 call: ∀args H o rs H',s args H=some (o,rs,H')→o.holds→fj P f args H rs H'
def sN(P:Program):List (Nat×XH)→Prop
 |[]=>True
 |x::r=>jM P x.1 x.2∧sN P r
theorem Za{P:Program} : ∀{l:List (Nat×XH)},sN P l→ ∀f xs H o rs H',D5 l f xs H=some (o,rs,H')→ml P f∧(o.holds→fj P f xs H rs H')
 |[],_,_,_,_,_,_,_,h=>by cases h
 |(g,s)::l,hl,f,xs,H,o,rs,H',h=>by
  simp only[D5]at h
  split at h
  ·rename_i e;have:f=g:=aCS e;subst this
   split at h
   ·rename_i q e2
    cases h
    exact⟨hl.1.w4,hl.1.call xs H _ _ _ e2⟩
   ·exact Za hl.2 f xs H o rs H' h
  ·exact Za hl.2 f xs H o rs H' h
theorem aAJ{P:Program}{l:List (Nat×nH)}(h:qK P l):Spec.Ok P (fun f xs=>match D6 l f xs with
  |some q=>some (some q.1.holds,q.2)
  |none=>none):=fun f args pre r e=>by
 simp only at e
 split at e
 ·rename_i q e2
  cases e
  obtain⟨h1,h2⟩:=Zc h f args q.1 q.2 e2;exact⟨h1,fun hp=>h2 hp.1⟩
 ·cases e
theorem aAI{P:Program}{l:List (Nat×XH)}(h:sN P l):wW.Ok P (fun f xs H=>match D5 l f xs H with
  |some q=>some (some q.1.holds,q.2)
  |none=>none):=fun f args H pre rs H' e=>by
 simp only at e
 split at e
 ·rename_i q e2;obtain⟨q1,q2,q3⟩:=q
  cases e
  obtain⟨h1,h2⟩:=Za h f args H q1 _ _ e2;exact⟨h1,fun hp=>h2 hp.1⟩
 ·cases e
abbrev kI:Kd:= .int .i64
abbrev kB:Kd:= .bool
abbrev kS:Kd:= .str
noncomputable def Sl.rep{α:Type}(n:Nat)(x:α):Sl α:=⟨n,fun _=>x⟩
theorem Sl.ajf{α:Type}(n:Nat)(x:α):(Sl.rep n x).n=n:=rfl
def U8(s:Sl Int):Prop:= ∀i,0≤s.at' i∧s.at' i≤255
def skA:AV→AV→Bool
 | .int k _,.int k' _=>decide (k=k')
 | .bool _,.bool _=>true
 | .str _,.str _=>true
 | .arr s _ _,.arr s' _ _=>Nat.beq s s'
 |_,_=>false
def g9:List AV→List AV→Bool
 |[],[]=>true
 |x::xs,y::ys=>match skA x y with
  |true=>g9 xs ys
  |false=>false
 |_,_=>false
def SL:List (Nat×El)→Nat→List AV→Option El
 |[],_,_=>none
 |(_,E)::r,sz,cs=>match Nat.beq E.sz sz with
  |true=>match g9 (E.e (E.d [])) cs with
   |true=>some E
   |false=>SL r sz cs
  |false=>SL r sz cs
def atj(hl:List (Nat×XH))(f:Nat):Bool:=hl.any fun x=>Nat.beq f x.1
def XE.of(P:Program)(ir:List (Nat×Ty))(xo:List (Nat×El))(l:List (Nat×nH))(m:Nat)(hl:List (Nat×XH)):XE:=⟨P,Ax ir,abI xo,D6 l,m,D5 hl,SL xo,atj hl⟩
theorem XE.aiy{P:Program}{ir:List (Nat×Ty)}{xo:List (Nat×El)}{l:List (Nat×nH)}{m:Nat}{hl:List (Nat×XH)}(hm:P.follows .mixedOrders=true)(h:(ir.all fun x=>D_ P x.1 x.2)=true)(hc:(ir.all fun x=>JI P x)=true)(h1:qK P l)(h2:sN P hl):
  (XE.of P ir xo l m hl).env.Ok:=abL hm h hc (aAJ h1) (aAI h2)
theorem VP{E:Env}(hE:E.Ok){f:FuncId}{fn:Func}{c:Code}(hf:E.P.funcs[f]? =some fn)(hb:fn.body=some c)(aa:List AV)(H:Heap)(rs:List AV)(H':Heap)(hm:Nat.ble H.length E.m=true)
  (hk:WP E c (fun e st=>(match e with
   | .normal=>True
   | .ret=>True
   |_=>False)∧wq E st fn.results.toList fun vs=>vs.length=rs.length∧Le E.m ⟨vs,st.hp⟩ ⟨rs,H'⟩) ⟨aa++List.replicate (fn.ntmps-aa.length) .undef,H⟩):fj E.P f aa H rs H':=by
 intro S ι w vs hS jV kX;have hS':=aCX hS (aC1 hm);have Wm:aP S ι ⟨aa++List.replicate (fn.ntmps-aa.length) .undef,H⟩ {tmps:=vs.toArray++Array.replicate (fn.ntmps-vs.toArray.size) undef,defers:=[]} w:=by
  refine⟨kX.below,rfl,fun t av ht=> ?_,kX.hp,kX.inj,kX.fresh,kX.gH,kX.gK⟩;rcases aCY t aa.length with h|h
  ·rw[aDH h]at ht;obtain⟨v,h1,h2⟩:=kX.tm t av ht;refine⟨v,?_,h2⟩;rw[aDt (by simp;omega)];exact h1
  ·rw[aD4 h]at ht;have Wt:t-aa.length<fn.ntmps-aa.length:=by
    rcases aCY (t-aa.length) (fn.ntmps-aa.length)with h'|h'
    ·exact h'
    ·rw[aCW (by simpa using h')]at ht;cases ht
   rw[aEC,aCL Wt]at ht
   cases ht
   exact⟨undef,by rw[Array.getElem?_append_right (by simp;omega),Array.getElem?_replicate,aCL (by simp;omega)],trivial⟩
 refine calls_of_wp hf hb (aDs (hk S hS' _ _ w Wm) fun e a w' ⟨lQ,st,hs,hq⟩=> ?_);obtain⟨he,o_⟩:=hq;obtain⟨ys,us,hle,h1,h2⟩:=agU hE hs _ _ o_;have b_:=YQ h2;have zL:aP S lQ ⟨ys,st.hp⟩ {tmps:=us.toArray,defers:=[]} w':=by
  refine⟨hs.below,rfl,fun t av ht=> ?_,hs.hp,hs.inj,hs.fresh,hs.gH,hs.gK⟩;obtain⟨v,g1,g2⟩:=h1.get t av ht;exact⟨v,by simpa using g1,g2⟩
 have hl:us.length=rs.length:=by rw[←h1.length];exact hle.1
 obtain⟨dU,Dt⟩:=hle.2 S hS' lQ _ w' zL;have post: ∃v,(results fn a.tmps).run E.P w'= .ok v w'∧ ∃us aA,Ending.returned v= .returned (pack us)∧us.length=rs.length∧aP S aA ⟨rs,H'⟩ {tmps:=us.toArray,defers:=[]} w':=
  ⟨_,b_,us,dU,rfl,hl,Dt⟩
 cases e<;>simp only at he<;>first|exact⟨hs.defers,post⟩|exact he.elim
noncomputable def nj(X:XE)(R:RS)(c:Code)(h:Hn R.kd)(ms:List Mk)(st:St):Ob×St:=
 match J6 X R ms (exec X R c h st)with
 |some q=>match R.md with
  | .heap=>(q.1,R.st q.2)
  | .ma .. =>(q.1,R.st q.2)
  | .dY .. =>(q.1,R.st q.2)
  |_=>(.p False,st)
 |none=>(.p False,st)
theorem agG{X:XE}{R:RS}{f:FuncId}{fn:Func}{c:Code}{h:Hn R.kd}{ms:List Mk}{aa:List AV}{H:Heap}{rs:List AV}{H':Heap}{p:Prop}(hE:X.env.Ok)(hf:X.P.funcs[f]? =some fn)(hb:fn.body=some c)(hR:R.rs=fn.results.toList)(hm:Nat.ble H.length X.m=true)
  (e:((nj X R c h ms ⟨aa++List.replicate (fn.ntmps-aa.length) .undef,H⟩).1.prop,(nj X R c h ms ⟨aa++List.replicate (fn.ntmps-aa.length) .undef,H⟩).1.g9,(nj X R c h ms ⟨aa++List.replicate (fn.ntmps-aa.length) .undef,H⟩).2)=(p,(nj X R c h ms ⟨aa++List.replicate (fn.ntmps-aa.length) .undef,H⟩).1.iH,⟨rs,H'⟩)) (hp:p):fj X.P f aa H rs H':=by
 generalize Ba:(⟨aa++List.replicate (fn.ntmps-aa.length) .undef,H⟩:St)=st at e;simp only[aDL]at e;obtain⟨e1,e2,e3⟩:=e;have ho:(nj X R c h ms st).1.holds:=Ob.ok _ e2 (by rw[e1];exact hp);clear e1 e2;unfold nj at ho e3
 split at ho
 ·rename_i q eq;rw[eq]at e3;simp only at e3;obtain⟨o,vs⟩:=q;simp only at ho e3
  split at ho
  ·rename_i em;rw[em]at e3;simp only at e3;have hw:=Fj eq ho fun h'=>Fh hE c h st h';refine VP hE hf hb aa H rs H' hm ?_;rw[Ba];refine hw.mono fun e s hs=>⟨hs.1,?_⟩;have h2:=hs.2;unfold sJ at h2;rw[em]at h2;simp only at h2;rw[e3]at h2;rw[←hR];exact h2 _ fun ys h3 h4=>⟨h3,h4⟩
  ·rename_i em;rw[em]at e3;simp only at e3;have hw:=Fj eq ho fun h'=>Fh hE c h st h';refine VP hE hf hb aa H rs H' hm ?_;rw[Ba];refine hw.mono fun e s hs=>⟨hs.1,?_⟩;have h2:=hs.2;unfold sJ at h2;rw[em]at h2;simp only at h2;rw[e3]at h2;rw[←hR];exact h2 _ fun ys h3 h4=>⟨h3,h4⟩
  ·rename_i em;rw[em]at e3;simp only at e3;have hw:=Fj eq ho fun h'=>Fh hE c h st h';refine VP hE hf hb aa H rs H' hm ?_;rw[Ba];refine hw.mono fun e s hs=>⟨hs.1,?_⟩;have h2:=hs.2;unfold sJ at h2;rw[em]at h2;simp only at h2;rw[e3]at h2;rw[←hR];exact h2 _ fun ys h3 h4=>⟨h3,h4⟩
  ·exact ho.elim
 ·exact ho.elim
structure Ha where
 pre:Option Prop
 rs:List AV
 H:Heap
structure Hq where
 sh:List Sh
 hk:List (Key×Kd)
 hb:Heap
 f:dM (sh.flatMap Sh.kd++hk.map (·.2)) (ULift Ha)
def Hq.heap(F:Hq)(cs:List AV):Heap:=(Ad ⟨[],F.hb⟩ (F.hk.map (·.1)) cs).hp
def Hq.na(F:Hq):Nat:=(F.sh.flatMap Sh.kd).length
def Hq.args(F:Hq)(cs:List AV):List AV:=(fS F.sh (cs.take F.na)).map (DZ (F.heap (cs.drop F.na)))
def AD(b:Bool):(k:Kd)→k.ty→Prop→Prop
 | .int _,_,p=>p
 | .bool,_,p=>p
 | .str,s,p=>match b with
   |true=>s.size≤549755813888→p
   |false=>p
 | .sl _,s,p=>match b with
   |true=>s.n≤549755813888→p
   |false=>p
 | .ah _,s,p=>match b with
   |true=>s.n≤549755813888→p
   |false=>p
def Ef(P:Program)(f:FuncId)(F:Hq):(ks:List Kd)→List Bool→dM ks (ULift Ha)→List AV→Prop
 |[],_,A,acc=>wx A.down.pre (fj P f (F.args acc) (F.heap (acc.drop F.na)) A.down.rs A.down.H)
 |k::ks,bs,A,acc=> ∀x:k.ty,AD (bs.headD true) k x (Ef P f F ks bs.tail (A x) (acc++[k.av x]))
def Hq.gW(F:Hq)(aa:List AV)(H:Heap):Option (Ob×List AV×Heap):=
 gd (Av F.sh aa) (match dB (F.sh.flatMap Sh.kd++F.hk.map (·.2)) (aa.flatMap R2++getAll ⟨[],H⟩ (F.hk.map (·.1)))with
 |some cs=>match dM.ap _ F.f cs with
  |some a=>gd (Nat.beq H.length (F.heap (cs.drop F.na)).length&&im H.length ⟨F.args cs,F.heap (cs.drop F.na)⟩)
    (some (.and (kN ⟨aa,H⟩ ⟨F.args cs,F.heap (cs.drop F.na)⟩) (.and (.e (getAll ⟨[],F.heap (cs.drop F.na)⟩ (F.hk.map (·.1))) (cs.drop F.na)) (DV a.down.pre)),a.down.rs,a.down.H))
  |none=>none
 |none=>none)
def oM(x:AV):Prop:=
 match x with
 | .str s=>s.size≤dg
 | .arr _ n _=>n≤dg
 | .ah ro sz n _=>n≤dg∨(ro=true∧sz=0)
 |_=>True
def Aj(x:AV):Prop:=
 match x with
 | .agg cs=> ∀c∈cs,oM c
 |x=>oM x
def nP:List Bool→List AV→Prop
 |bs,c::cs=>(bs.headD true=true→oM c)∧nP bs.tail cs
 |_,[]=>True
theorem xu: ∀{bs:List Bool} {cs:List AV} {EV:List Bool} {kM:List AV},bs.length=cs.length→nP bs cs→nP EV kM→nP (bs++EV) (cs++kM)
 |[],[],_,_,_,_,h=>h
 |b::bs,c::cs,_,_,hl,h,h'=>⟨h.1,xu (by simpa using hl) h.2 h'⟩
 |[],_::_,_,_,hl,_,_=>by simp at hl
 |_::_,[],_,_,hl,_,_=>by simp at hl
theorem Fk: ∀{n:Nat} {cs:List AV},(∀c∈cs,oM c)→nP (List.replicate n true) cs
 |n,[],_=>by cases n<;>trivial
 |0,c::cs,h=>⟨fun _=>h c (by simp),Fk (n:=0) fun c hc=>h c (by simp [hc])⟩
 |n+1,c::cs,h=>⟨fun _=>h c (by simp),Fk (n:=n) fun c hc=>h c (by simp [hc])⟩
theorem SM: ∀(n:Nat) (cs:List AV),cs.length=n→nP (List.replicate n false) cs
 |_,[],_=>by trivial
 |0,_::_,h=>by simp at h
 |n+1,_::cs,h=>⟨fun h=>(by cases h),SM n cs (by simpa using h)⟩
theorem sr: ∀(sh:List Sh) (l:List AV),dB (sh.flatMap Sh.kd) l=some l→(∀x∈fS sh l,Aj x)→nP (sh.flatMap Sh.bs) l
 |[],l,hn,_=>by
  cases l with
  |nil=>trivial
  |cons x xs=>cases hn
 |s::r,l,hn,h=>by
  simp only[aDj]at hn ⊢;obtain⟨n1,n2⟩:=IN hn;have hl:=wI n1
  cases s with
  |v k=>
   cases l with
   |nil=>cases hn
   |cons x xs=>
    simp only[fS,List.headD_cons,List.tail_cons]at h;refine xu (bs:=[true]) (cs:=[x]) rfl ⟨fun _=> ?_,trivial⟩ (sr r xs n2 fun y hy=>h y (by simp [hy]));have h1:=h x (by simp);simp only[Sh.kd,aC7,aDf,aCO,List.take_succ_cons,List.take_zero,dB]at n1
    split at n1<;>try (cases n1;done)
    rename_i y e;simp only[aC3,aDm,and_true]at n1;subst n1;obtain⟨v,e1,_⟩:=Kd.IQ e;subst e1
    cases k<;>exact h1
  |g ks=>
   simp only[fS]at h;simp only[Sh.kd]at hl n2;have h1: ∀c∈l.take ks.length,oM c:=h (.agg (l.take ks.length)) (by simp);have:=xu (bs:=List.replicate ks.length true) (by simp [hl]) (Fk h1) (sr r (l.drop ks.length) n2 fun y hy=>h y (by simp [hy]));rwa [aDz]at this
  |r ks=>
   simp only[fS]at h;simp only[Sh.kd]at hl n2;have:=xu (bs:=List.replicate ks.length false) (cs:=l.take ks.length) (by simp [hl]) (SM _ _ hl) (sr r (l.drop ks.length) n2 fun y hy=>h y (by simp [hy]));rwa [aDz]at this
  |fn f bp=>
   simp only[fS]at h;simp only[Sh.kd]at hl n2;have h2: ∀y∈fS r (l.drop bp.flatten.length),Aj y:=fun y hy=>h y (by
    rw[←RZ]at hy;simp [hy])
   have:=xu (bs:=List.replicate bp.flatten.length false) (cs:=l.take bp.flatten.length) (by rw[List.length_replicate,hl]) (SM _ _ hl) (sr r (l.drop bp.flatten.length) n2 h2);rwa [aDz]at this
  |p b=>exact sr r l n2 fun y hy=>h y (by simp [fS,hy])
  |o b=>exact sr r l n2 fun y hy=>h y (by simp [fS,hy])
  |fp f bs=>exact sr r l n2 fun y hy=>h y (by simp [fS,hy])
  |po b o=>exact sr r l n2 fun y hy=>h y (by simp [fS,hy])
theorem dM.aaM{P:Program}{f:FuncId}{F:Hq} : ∀{ks:List Kd} {bs:List Bool} {A:dM ks (ULift Ha)} {acc cs:List AV} {a:ULift Ha},dM.ap ks A cs=some a→dB ks cs=some cs→nP bs cs→Ef P f F ks bs A acc→wx a.down.pre (fj P f (F.args (acc++cs)) (F.heap ((acc++cs).drop F.na)) a.down.rs a.down.H)
 |[],bs,A,acc,[],a,h,_,_,hf=>by
  cases h
  rw[aDi];exact hf
 |[],_,_,_,_::_,_,h,_,_,_=>by cases h
 |_::_,_,_,_,[],_,h,_,_,_=>by cases h
 |k::ks,bs,A,acc,x::xs,a,h,hn,we,hf=>by
  simp only[dM.ap]at h
  split at h<;>try (cases h;done)
  rename_i v e;simp only[dB]at hn
  split at hn<;>try (cases hn;done)
  rename_i y ey
  split at hn<;>try (cases hn;done)
  rename_i ys Fi;simp only[aC3,aDm]at hn;obtain⟨rfl,rfl⟩:=hn;have hx:y=k.av v:=by
   unfold Kd.nrm at ey;rw[e]at ey
   cases ey;rfl
  subst hx;have hB: ∀p,AD (bs.headD true) k v p→p:=fun p hb=>by
   have hc:=we.1
   cases y_:bs.headD true with
   |false=>rw[y_]at hb;cases k<;>exact hb
   |true=>
    rw[y_]at hb;have hc:=hc y_
    cases k with
    |int _=>exact hb
    |bool=>exact hb
    |str=>exact hb hc
    |sl E=>exact hb hc
    |ah _=>exact hb (hc.resolve_right fun g=>by cases g.1)
  have:=dM.aaM (ks:=ks) (bs:=bs.tail) (acc:=acc++[k.av v]) h Fi we.2 (hB _ (hf v));rwa [aDe,aD5]at this
theorem Fm{S:dF}{ι:Nat→Option Nat}{H:Heap}{w:World}{c:AV}{v:Value}(h:CR S ι H w c v):oM c:=by
 cases c<;>try trivial
 ·have h':aR w (FZ S ι H w) (.str _) v:=h;exact(aR.nO h').size
 ·have h':aR w (FZ S ι H w) (.arr _ _ _) v:=h
  cases aR.nO h';assumption
 all_goals exact h.elim
theorem aiA{S:dF}{ι:Nat→Option Nat}{H:Heap}{w:World}{x:AV}{v:Value}(h:VR S ι H w x v):Aj x:=by
 cases x
 case agg cs=>
  obtain⟨vs,_,h⟩:=h;intro c hc;obtain⟨i,hi⟩:=aDJ hc;obtain⟨u,_,h2⟩:=h.get i c hi;exact Fm h2
 case undef=>trivial
 case gone=>trivial
 case cU=>trivial
 case str s=>exact Fm (show CR S ι H w (.str s) v from h)
 case arr sz n f=>exact Fm (show CR S ι H w (.arr sz n f) v from h)
 case ah ro sz n f=>exact(show False from h).elim
 all_goals trivial
theorem aiB{H:Heap}{x:AV}(h:Aj (DZ H x)):Aj x:=by
 have key: ∀c,oM (OU H c)→oM c:=fun c hc=>by cases c<;>first|exact hc|trivial
 cases x<;>first|exact h|trivial|skip
 intro c hc;exact key c (h _ (aDx.2 ⟨c,hc,rfl⟩))
theorem ab3{S:dF}{ι:Nat→Option Nat}{st:St}{a:Act}{w:World}(h:aP S ι st a w)(b o:Nat):oM (aj st.hp b o):=by
 have h1:=h.hp b o
 cases e:aj st.hp b o<;>rw[e]at h1<;>try trivial
 ·obtain⟨_,x,v,_,_,_,h2⟩:=h1;exact Fm (S:=S) h2
 ·obtain⟨_,x,v,_,_,_,h2⟩:=h1;exact Fm (S:=S) h2
 ·exact h1.2.elim (fun g=> .inr ⟨g.1,g.2.1⟩) fun g=> .inl g.1
theorem Hq.ok{P:Program}{f:FuncId}{F:Hq}(hc:ml P f)(hk:(F.hk.all fun k=>match k.1 with
  | .h _ _=>true
  |_=>false)=true) (h:Ef P f F _ (F.sh.flatMap Sh.bs) F.f []):jM P f F.gW:=by
 refine⟨hc,fun args H o rs H' e ho=> ?_⟩;unfold Hq.gW at e;rw[cY]at e;replace e:=e.2
 split at e<;>try (cases e;done)
 rename_i cs Fb
 split at e<;>try (cases e;done)
 rename_i a ea;rw[cY]at e;obtain⟨rM,e⟩:=e
 cases e
 simp only[aCN]at rM;obtain⟨HB,iX,zJ⟩:=ho;have kr:=DP Fb;have hlen:=aCS rM.1;intro S ι w vs hS jV kX;obtain⟨aA,hs⟩:=oL HB rM.2 S hS ι _ w kX;have iW:args.length=(F.args cs).length:=Bg (DD (A2 HB)).1;obtain⟨n1,n2⟩:=IN kr;have eK: ∀x∈fS F.sh (cs.take F.na),Aj x:=fun x hx=>by
  obtain⟨i,hi⟩:=aDJ hx;obtain⟨v,_,h2⟩:=hs.tm i (DZ (F.heap (cs.drop F.na)) x) (by simp [Hq.args,hi]);exact aiB (aiA h2)
 have VX: ∀c∈cs.drop F.na,oM c:=by
  have hg:getAll ⟨[],F.heap (cs.drop F.na)⟩ (F.hk.map (·.1))=cs.drop F.na:=iX;rw[←hg];have key: ∀(l:List (Key×Kd)),(l.all fun k=>match k.1 with
    | .h _ _=>true
    |_=>false)=true→ ∀c∈getAll ⟨[],F.heap (cs.drop F.na)⟩ (l.map (·.1)),oM c:=by
   intro l
   induction l with
   |nil=>intro _ c hc;simp [getAll]at hc
   |cons k l ih=>
    intro hl c hc;simp only[aD0,aCN]at hl;simp only[aEh,getAll,aDa]at hc;rcases hc with rfl|hc
    ·obtain⟨k1,k2⟩:=k
     cases k1 with
     |h b o=>exact ab3 hs b o
     |_=>cases hl.1
    ·exact ih hl.2 c hc
  exact key F.hk hk
 have VT:nP (F.sh.flatMap Sh.bs) cs:=by
  have h1:=sr F.sh (cs.take F.na) n1 eK;have h2:nP [] (cs.drop F.na):=by
   have:=Fk (n:=0) VX;exact this
  have hl:=wI n1;have Hw:(F.sh.flatMap Sh.bs).length=(cs.take F.na).length:=by
   have hb: ∀sh:List Sh,(sh.flatMap Sh.bs).length=(sh.flatMap Sh.kd).length:=by
    intro sh
    induction sh with
    |nil=>rfl
    |cons s r ih=>
     simp only[aDj,aC8,ih]
     congr 1
     cases s<;>simp [Sh.bs,Sh.kd]
   rw[hb];exact hl.symm
  have:=xu Hw h1 h2;rwa [aDi,aDz]at this
 have lH:=dM.aaM ea kr VT h;rw[aDD]at lH;have VH:fj P f (F.args cs) (F.heap (cs.drop F.na)) a.down.rs a.down.H:=by
  unfold DV at zJ
  cases hp:a.down.pre with
  |none=>rw[hp]at lH;exact lH
  |some q=>rw[hp]at lH zJ;exact lH zJ
 exact VH S aA w vs (by rw[←hlen];exact hS) (jV.trans iW) hs
@[reducible] def HL:List Kd→Type
  |[]=>Unit
  |k::ks=>k.ty×HL ks
def HL.cR:(ks:List Kd)→HL ks→List AV
 |[],_=>[]
 |k::ks,s=>k.av s.1::HL.cR ks s.2
def dM.hl{α:Type 1} :(ks:List Kd)→dM ks α→HL ks→α
 |[],a,_=>a
 |_::ks,f,s=>dM.hl ks (f s.1) s.2
def Jm:(k:Kd)→k.ty→Prop
 | .int _,_=>True
 | .bool,_=>True
 | .str,s=>s.size≤549755813888
 | .sl _,s=>s.n≤549755813888
 | .ah _,s=>s.n≤549755813888
def PD:(ks:List Kd)→HL ks→Prop
 |[],_=>True
 |k::ks,s=>Jm k s.1∧PD ks s.2
theorem ZO{k:Kd}{x:k.ty}{p:Prop}(h:Jm k x→p):AD true k x p:=by
 cases k<;>first|exact h trivial|exact h
theorem bJ{i:Nat}(h:i<3):i=0∨i=1∨i=2:=by omega
structure Hr where
 sh:List Sh
 ks:List Kd
 hv:List AV→Heap
 gt:Heap→List AV
 f:dM (sh.flatMap Sh.kd++ks) (ULift Ha)
def Hr.na(F:Hr):Nat:=(F.sh.flatMap Sh.kd).length
def Hr.args(F:Hr)(cs:List AV):List AV:=(fS F.sh (cs.take F.na)).map (DZ (F.hv (cs.drop F.na)))
def fb(P:Program)(f:FuncId)(F:Hr):(ks:List Kd)→List Bool→dM ks (ULift Ha)→List AV→Prop
 |[],_,A,acc=>wx A.down.pre (fj P f (F.args acc) (F.hv (acc.drop F.na)) A.down.rs A.down.H)
 |k::ks,bs,A,acc=> ∀x:k.ty,AD (bs.headD true) k x (fb P f F ks bs.tail (A x) (acc++[k.av x]))
def Hr.gW(F:Hr)(aa:List AV)(H:Heap):Option (Ob×List AV×Heap):=
 gd (Av F.sh aa) (match dB (F.sh.flatMap Sh.kd++F.ks) (aa.flatMap R2++F.gt H)with
 |some cs=>match dM.ap _ F.f cs with
  |some a=>gd (Nat.beq H.length (F.hv (cs.drop F.na)).length&&im H.length ⟨F.args cs,F.hv (cs.drop F.na)⟩)
    (some (.and (kN ⟨aa,H⟩ ⟨F.args cs,F.hv (cs.drop F.na)⟩) (.and (.e (F.gt (F.hv (cs.drop F.na))) (cs.drop F.na)) (DV a.down.pre)),a.down.rs,a.down.H))
  |none=>none
 |none=>none)
theorem dM.aaQ{P:Program}{f:FuncId}{F:Hr} : ∀{ks:List Kd} {bs:List Bool} {A:dM ks (ULift Ha)} {acc cs:List AV} {a:ULift Ha},dM.ap ks A cs=some a→dB ks cs=some cs→nP bs cs→fb P f F ks bs A acc→wx a.down.pre (fj P f (F.args (acc++cs)) (F.hv ((acc++cs).drop F.na)) a.down.rs a.down.H)
 |[],bs,A,acc,[],a,h,_,_,hf=>by
  cases h
  rw[aDi];exact hf
 |[],_,_,_,_::_,_,h,_,_,_=>by cases h
 |_::_,_,_,_,[],_,h,_,_,_=>by cases h
 |k::ks,bs,A,acc,x::xs,a,h,hn,we,hf=>by
  simp only[dM.ap]at h
  split at h<;>try (cases h;done)
  rename_i v e;simp only[dB]at hn
  split at hn<;>try (cases hn;done)
  rename_i y ey
  split at hn<;>try (cases hn;done)
  rename_i ys Fi;simp only[aC3,aDm]at hn;obtain⟨rfl,rfl⟩:=hn;have hx:y=k.av v:=by
   unfold Kd.nrm at ey;rw[e]at ey
   cases ey;rfl
  subst hx;have hB: ∀p,AD (bs.headD true) k v p→p:=fun p hb=>by
   have hc:=we.1
   cases y_:bs.headD true with
   |false=>rw[y_]at hb;cases k<;>exact hb
   |true=>
    rw[y_]at hb;have hc:=hc y_
    cases k with
    |int _=>exact hb
    |bool=>exact hb
    |str=>exact hb hc
    |sl E=>exact hb hc
    |ah _=>exact hb (hc.resolve_right fun g=>by cases g.1)
  have:=dM.aaQ (ks:=ks) (bs:=bs.tail) (acc:=acc++[k.av v]) h Fi we.2 (hB _ (hf v));rwa [aDe,aD5]at this
theorem Hr.ok{P:Program}{f:FuncId}{F:Hr}(hc:ml P f)(hk: ∀H,∀c∈F.gt H,∃b o,c=aj H b o)(h:fb P f F _ (F.sh.flatMap Sh.bs) F.f []):jM P f F.gW:=by
 refine⟨hc,fun args H o rs H' e ho=> ?_⟩;unfold Hr.gW at e;rw[cY]at e;replace e:=e.2
 split at e<;>try (cases e;done)
 rename_i cs Fb
 split at e<;>try (cases e;done)
 rename_i a ea;rw[cY]at e;obtain⟨rM,e⟩:=e
 cases e
 simp only[aCN]at rM;obtain⟨HB,iX,zJ⟩:=ho;have kr:=DP Fb;have hlen:=aCS rM.1;intro S ι w vs hS jV kX;obtain⟨aA,hs⟩:=oL HB rM.2 S hS ι _ w kX;have iW:args.length=(F.args cs).length:=Bg (DD (A2 HB)).1;obtain⟨n1,n2⟩:=IN kr;have eK: ∀x∈fS F.sh (cs.take F.na),Aj x:=fun x hx=>by
  obtain⟨i,hi⟩:=aDJ hx;obtain⟨v,_,h2⟩:=hs.tm i (DZ (F.hv (cs.drop F.na)) x) (by simp [Hr.args,hi]);exact aiB (aiA h2)
 have VX: ∀c∈cs.drop F.na,oM c:=by
  have hg:F.gt (F.hv (cs.drop F.na))=cs.drop F.na:=iX;intro c C8;rw[←hg]at C8;obtain⟨b,o,e⟩:=hk _ c C8;rw[e];exact ab3 hs b o
 have VT:nP (F.sh.flatMap Sh.bs) cs:=by
  have h1:=sr F.sh (cs.take F.na) n1 eK;have h2:nP [] (cs.drop F.na):=by
   have:=Fk (n:=0) VX;exact this
  have hl:=wI n1;have Hw:(F.sh.flatMap Sh.bs).length=(cs.take F.na).length:=by
   have hb: ∀sh:List Sh,(sh.flatMap Sh.bs).length=(sh.flatMap Sh.kd).length:=by
    intro sh
    induction sh with
    |nil=>rfl
    |cons s r ih=>
     simp only[aDj,aC8,ih]
     congr 1
     cases s<;>simp [Sh.bs,Sh.kd]
   rw[hb];exact hl.symm
  have:=xu Hw h1 h2;rwa [aDi,aDz]at this
 have lH:=dM.aaQ ea kr VT h;rw[aDD]at lH;have VH:fj P f (F.args cs) (F.hv (cs.drop F.na)) a.down.rs a.down.H:=by
  unfold DV at zJ
  cases hp:a.down.pre with
  |none=>rw[hp]at lH;exact lH
  |some q=>rw[hp]at lH zJ;exact lH zJ
 exact VH S aA w vs (by rw[←hlen];exact hS) (jV.trans iW) hs
theorem ZV{P:Program}{f:FuncId}{F:Hr} : ∀{ks:List Kd} {A:dM ks (ULift Ha)} {acc:List AV},
  (∀s:HL ks,PD ks s→wx (dM.hl ks A s).down.pre (fj P f (F.args (acc++HL.cR ks s)) (F.hv ((acc++HL.cR ks s).drop F.na)) (dM.hl ks A s).down.rs (dM.hl ks A s).down.H))→fb P f F ks [] A acc
 |[],A,acc,h=>by
  have:=h () trivial;simp only[HL.cR,aDi]at this;exact this
 |k::ks,A,acc,h=>fun x=>ZO fun hx=>ZV (ks:=ks) (A:=A x) (acc:=acc++[k.av x]) fun s hs=>by
  have:=h (x,s) ⟨hx,hs⟩;simp only[HL.cR,dM.hl]at this;simpa only[aDe,aD5]using this
def dM.part{α:Type 1} :(ks js:List Kd)→dM (ks++js) α→HL ks→dM js α
 |[],_,f,_=>f
 |_::ks,js,f,s=>dM.part ks js (f s.1) s.2
def ZN:List Bool→(ks:List Kd)→HL ks→Prop
 |_,[],_=>True
 |bs,k::ks,s=>(bs.headD true=true→Jm k s.1)∧ZN bs.tail ks s.2
theorem aks{b:Bool}{k:Kd}{x:k.ty}{p:Prop}(h:(b=true→Jm k x)→p):AD b k x p:=by
 cases b with
 |true=>exact ZO fun q=>h fun _=>q
 |false=>cases k<;>exact h fun e=>by cases e
theorem j4{P:Program}{f:FuncId}{F:Hr}{js:List Kd} : ∀{ks:List Kd} {bs:List Bool} {A:dM (ks++js) (ULift Ha)} {acc:List AV},
  (∀s:HL ks,ZN bs ks s→fb P f F js (bs.drop ks.length) (dM.part ks js A s) (acc++HL.cR ks s))→fb P f F (ks++js) bs A acc
 |[],bs,A,acc,h=>by
  have:=h () trivial;simp only[HL.cR,aDi,aDf,List.drop_zero]at this;exact this
 |k::ks,bs,A,acc,h=>fun x=>aks fun hx=>j4 (ks:=ks) (bs:=bs.tail) (A:=A x) (acc:=acc++[k.av x]) fun s hs=>by
  have:=h (x,s) ⟨hx,hs⟩;simp only[HL.cR]at this;have e:bs.drop (k::ks).length=bs.tail.drop ks.length:=by simp
  rw[e]at this;rw[aDe,aD5];exact this
end Go.Vc
namespace Go.Proofs.YtfmgjpcmcjjoiaaGreatDoor
open Go Go.RowKit Go.Vc
abbrev Jl(n:FuncId)(F:Fq):Prop:=Jp Tryz.prog n F.sh _ (F.sh.flatMap Sh.bs) F.f []
abbrev akd(n:FuncId)(F:Hq):Prop:=Ef Tryz.prog n F _ (F.sh.flatMap Sh.bs) F.f []
abbrev gi(n:FuncId)(F:Hr):Prop:=fb Tryz.prog n F _ (F.sh.flatMap Sh.bs) F.f []
abbrev ba(n:FuncId)(F:Fq):Prop:=Ei Tryz.prog n F.gW
abbrev dz(n:FuncId)(F:Hq):Prop:=jM Tryz.prog n F.gW
abbrev gj(n:FuncId)(F:Hr):Prop:=jM Tryz.prog n F.gW
end Go.Proofs.YtfmgjpcmcjjoiaaGreatDoor
namespace Go.Proofs.YtfmgjpcmcjjoiaaGreatDoor
open Go Go.Vc
noncomputable abbrev E3:El:=⟨Int,inferInstance,1,e3,d3,ed3⟩
noncomputable abbrev cN:El:=⟨bk,inferInstance,2,fM,d160,aoO⟩
noncomputable abbrev E9:El:=⟨ByteArray,inferInstance,1,e9,d9,ed9⟩
noncomputable abbrev cH:El:=⟨bD,inferInstance,2,fN,d164,aoP⟩
noncomputable abbrev aZ:El:=⟨ar,inferInstance,8,gn,d175,aoQ⟩
noncomputable abbrev bG:El:=⟨aG,inferInstance,7,gP,d137,aoN⟩
noncomputable abbrev cZ:El:=⟨aM,inferInstance,10,dH,d68,aoY⟩
noncomputable abbrev E5:El:=⟨Int,inferInstance,1,e5,d5,ed5⟩
noncomputable abbrev ZQ:El:=⟨(Sl Int),inferInstance,1,e43,d43,aoX⟩
noncomputable abbrev AE:El:=⟨cj,inferInstance,20,Ss,d122,aoM⟩
noncomputable abbrev mR:El:=⟨aK,inferInstance,10,e75,d75,aoZ⟩
noncomputable abbrev wU:El:=⟨fW,inferInstance,11,E_,abz,aoT⟩
noncomputable abbrev jf:El:=⟨bI,inferInstance,12,JT,abx,aoR⟩
noncomputable abbrev cr:El:=⟨aS,inferInstance,2,JU,aby,aoS⟩
noncomputable abbrev cA:El:=⟨iP,inferInstance,9,abG,abB,aoV⟩
noncomputable abbrev bK:El:=⟨aF,inferInstance,15,jh,abA,aoU⟩
noncomputable abbrev PH:El:=⟨jg,inferInstance,8,A9,nM,aoW⟩
noncomputable def xo:List (Nat×El):=[(3,E3),(130,cN),(9,E9),(133,cH),(127,aZ),(135,bG),(53,cZ),(5,E5),(83,ZQ),(166,AE),(38,mR),(51,wU),(101,jf),(105,cr),(147,cA),(117,bK),(73,PH)]
noncomputable def mkX(l:List (Nat×nH)):XE:=XE.of Tryz.prog ir xo l 0 []
theorem bU{l:List (Nat×nH)}(h:qK Tryz.prog l):(mkX l).env.Ok:=XE.aiy mixed Zj R6 h trivial
noncomputable def aib(m:Nat)(l:List (Nat×nH))(hl:List (Nat×XH)):XE:=XE.of Tryz.prog ir xo l m hl
theorem axU{m:Nat}{l:List (Nat×nH)}{hl:List (Nat×XH)}(h:qK Tryz.prog l)(h2:sN Tryz.prog hl):(aib m l hl).env.Ok:=XE.aiy mixed Zj R6 h h2
noncomputable abbrev X0:XE:=mkX []
theorem fK:X0.env.Ok:=bU trivial
end Go.Proofs.YtfmgjpcmcjjoiaaGreatDoor
namespace Go.Vc
def Hn.ai{R:List Kd}(h:Hn R):Hn R:=.s .z h
theorem bj{X:XE}{f:FuncId}{fn:Func}{c:Code}{xs:List AV}{r:AV}(R:RS)(h:Hn R.kd)(p:Prop)(hE:X.env.Ok)(hf:X.P.funcs[f]?=some fn)(hp:p)(ms:List Mk:=[])(hb:fn.body=some c:=by exact rfl)(hR:R.rs=fn.results.toList:=by exact rfl)(e:((sq X R c h ms ⟨xs++List.replicate (fn.ntmps-xs.length) .undef,[]⟩).1.prop,(sq X R c h ms ⟨xs++List.replicate (fn.ntmps-xs.length) .undef,[]⟩).1.g9,(sq X R c h ms ⟨xs++List.replicate (fn.ntmps-xs.length) .undef,[]⟩).2)=(p,(sq X R c h ms ⟨xs++List.replicate (fn.ntmps-xs.length) .undef,[]⟩).1.iH,r):=by kernel_rfl):fk X.P f xs r:=azT hE hf hb hR e hp
theorem dy{X:XE}{f:FuncId}{fn:Func}{c:Code}{xs:List AV}{H:Heap}{rs:List AV}{H':Heap}(R:RS)(h:Hn R.kd)(p:Prop)(hE:X.env.Ok)(hf:X.P.funcs[f]?=some fn)(hp:p)(ms:List Mk:=[])(hb:fn.body=some c:=by exact rfl)(hR:R.rs=fn.results.toList:=by exact rfl)(hm:Nat.ble H.length X.m=true:=by exact rfl)(e:((nj X R c h ms ⟨xs++List.replicate (fn.ntmps-xs.length) .undef,H⟩).1.prop,(nj X R c h ms ⟨xs++List.replicate (fn.ntmps-xs.length) .undef,H⟩).1.g9,(nj X R c h ms ⟨xs++List.replicate (fn.ntmps-xs.length) .undef,H⟩).2)=(p,(nj X R c h ms ⟨xs++List.replicate (fn.ntmps-xs.length) .undef,H⟩).1.iH,⟨rs,H'⟩):=by kernel_rfl):fj X.P f xs H rs H':=agG hE hf hb hR hm e hp
theorem dD{X:XE}{f:FuncId}{fn:Func}{c:Code}{xs:List AV}{H:Heap}{rs:List AV}{H':Heap}(R:RS)(h:Hn R.kd)(p:Prop)(hE:X.env.Ok)(hf:X.P.funcs[f]?=some fn)(ms:List Mk)(hm:Nat.ble H.length X.m=true)(e:((nj X R c h ms ⟨xs++List.replicate (fn.ntmps-xs.length) .undef,H⟩).1.prop,(nj X R c h ms ⟨xs++List.replicate (fn.ntmps-xs.length) .undef,H⟩).1.g9,(nj X R c h ms ⟨xs++List.replicate (fn.ntmps-xs.length) .undef,H⟩).2)=(p,(nj X R c h ms ⟨xs++List.replicate (fn.ntmps-xs.length) .undef,H⟩).1.iH,⟨rs,H'⟩))(hp:p)(hb:fn.body=some c:=by exact rfl)(hR:R.rs=fn.results.toList:=by exact rfl):fj X.P f xs H rs H':=agG hE hf hb hR hm e hp
end Go.Vc
namespace Go.Proofs.YtfmgjpcmcjjoiaaGreatDoor
open Go Go.RowKit Go.Vc
theorem aH{n:Nat}{a:nH}{l:List (Nat×nH)}(k:Ei Tryz.prog n a)(h:qK Tryz.prog l):qK Tryz.prog ((n,a)::l):=⟨k,h⟩
theorem aQ:qK Tryz.prog []:=trivial
theorem az{n:Nat}{a:XH}{l:List (Nat×XH)}(k:jM Tryz.prog n a)(h:sN Tryz.prog l):sN Tryz.prog ((n,a)::l):=⟨k,h⟩
theorem bA:sN Tryz.prog []:=trivial
theorem bB(m:Nat){l:List (Nat×nH)}{hl:List (Nat×XH)}(h:qK Tryz.prog l)(h2:sN Tryz.prog hl):(aib m l hl).env.Ok:=axU h h2
theorem bf{n:FuncId}{F:Fq}{fn:Func}{c:Code}(h:Tryz.prog.funcs[n]?=some fn)(p:Jl n F)(hb:fn.body=some c:=by exact rfl)(hn:(fn.name== "runtime.NumGoroutine")=false:=by kernel_rfl):ba n F:=Fq.ok ⟨fn,c,h,hb,hn⟩ p
theorem dE{n:FuncId}{F:Hq}{fn:Func}{c:Code}(h:Tryz.prog.funcs[n]?=some fn)(p:akd n F)(hb:fn.body=some c:=by exact rfl)(hn:(fn.name== "runtime.NumGoroutine")=false:=by kernel_rfl)(hk:(F.hk.all fun k=>match k.1 with|.h _ _=>true|_=>false)=true:=by kernel_rfl):dz n F:=Hq.ok ⟨fn,c,h,hb,hn⟩ hk p
theorem gE{n:FuncId}{F:Hr}{fn:Func}{c:Code}(hk:∀H,∀c∈F.gt H,∃b o,c=aj H b o)(h:Tryz.prog.funcs[n]?=some fn)(p:gi n F)(hb:fn.body=some c:=by exact rfl)(hn:(fn.name== "runtime.NumGoroutine")=false:=by kernel_rfl):gj n F:=Hr.ok ⟨fn,c,h,hb,hn⟩ hk p
theorem ay_(x0:Sl aM):fk Tryz.prog 35 [aL 10 dH x0] (.ah false 10 x0.n (fun i=>dH (x0.at' i))):=by
 refine fk.nO fun hf=> ?_;have t_:fJ (aL 10 dH x0):=hf.1;have Ns:x0.n≤549755813888:=t_.len;refine wJ (E:=Ac []) (gZ trivial) Tryz.func35 rfl _ _ ?_;refine WP.step (gZ trivial) ⟨[aL 10 dH x0,U,.aE,U,U,U,U,U],[]⟩ (((x0.n=x0.n∧ ∀i,i<x0.n→dH (x0.at' i)=dH (x0.at' i))∧((.aE:AV)= .aE)∧True)∧True∧true=true) (by kernel_rfl) ⟨⟨⟨rfl,fun _ _=>rfl⟩,rfl,trivial⟩,trivial,rfl⟩ ?_;refine WP.It ⟨[aL 10 dH x0,U,.aE,U,U,U,U,U],[]⟩ ?_ ?_
 ·refine WP.Fe (T:=41) (gZ (l:=[]) trivial) rfl rfl rfl rfl rfl rfl rfl rfl rfl (by show 3<8;omega) fun q hq=> ?_;refine WP.E4 q rfl (fun h=> ?_) (fun h=> ?_)
  ·refine WP.step (gZ trivial) ⟨[aL 10 dH x0,U,.aE,U,U,U,U,U],[]⟩ (((x0.n=x0.n∧ ∀i,i<x0.n→dH (x0.at' i)=dH (x0.at' i))∧((.aE:AV)= .aE)∧True)∧True∧true=true) (by kernel_rfl) ⟨⟨⟨rfl,fun _ _=>rfl⟩,rfl,trivial⟩,trivial,rfl⟩ ?_;exact WP.qy (True∧(x0.n=0)) (by kernel_rfl) ⟨trivial,hq h⟩
  ·exact WP.I_ (((x0.n=x0.n∧ ∀i,i<x0.n→dH (x0.at' i)=dH (x0.at' i))∧((.aE:AV)= .aE)∧True)∧True∧true=true) (by kernel_rfl) ⟨⟨⟨rfl,fun _ _=>rfl⟩,rfl,trivial⟩,trivial,rfl⟩
 ·refine WP.step (gZ trivial) ⟨[aL 10 dH x0,U,.own 0 x0.n,U,U,U,U,U],[[.ah false 10 x0.n (fun i=>dH (x0.at' i))]]⟩ (∃h:Nat→List AV,(∀i,i<0→kY (([]:List (List AV)).getD i []) (h i))∧((0:Nat)=0)∧(0+x0.n≤549755813888)∧ ∃h':Nat→List AV,(∀i,i<0+x0.n→ix 0 h (fun i=>dH (x0.at' i)) i=h' i)∧(((x0.n=x0.n∧ ∀i,i<x0.n→dH (x0.at' i)=dH (x0.at' i))∧((.own 0 (0+x0.n):AV)= .own 0 x0.n)∧True)∧(((0+x0.n=x0.n∧ ∀i,i<x0.n→kY (h' i) (dH (x0.at' i)))∧True)∧True)∧true=true)) (by kernel_rfl)
   ⟨fun _=>[],fun i h=>absurd h (fC i),rfl,by omega,fun i=>dH (x0.at' i),fun i _=>EI _ _ i,⟨⟨rfl,fun _ _=>rfl⟩,(by rw[aCO]),trivial⟩,⟨⟨⟨aCO _,fun _ _=>Ag _⟩,trivial⟩,trivial⟩,rfl⟩ ?_
  exact WP.qy (True∧((x0.n:Nat)=x0.n∧x0.n=x0.n∧ ∀i,i<x0.n→dH (x0.at' i)=dH (x0.at' i))) (by kernel_rfl) ⟨trivial,rfl,rfl,fun _ _=>rfl⟩
theorem aza(x0:Sl Int):fk Tryz.prog 127 [aL 1 e5 x0] (.ah false 1 x0.n (fun i=>e5 (x0.at' i))):=by
 refine fk.nO fun hf=> ?_;have t_:fJ (aL 1 e5 x0):=hf.1;have Ns:x0.n≤549755813888:=t_.len;refine wJ (E:=Ac []) (gZ trivial) Tryz.func127 rfl _ _ ?_;refine WP.step (gZ trivial) ⟨[aL 1 e5 x0,U,.aE,U,U,U,U,U],[]⟩ (((x0.n=x0.n∧ ∀i,i<x0.n→e5 (x0.at' i)=e5 (x0.at' i))∧((.aE:AV)= .aE)∧True)∧True∧true=true) (by kernel_rfl) ⟨⟨⟨rfl,fun _ _=>rfl⟩,rfl,trivial⟩,trivial,rfl⟩ ?_;refine WP.It ⟨[aL 1 e5 x0,U,.aE,U,U,U,U,U],[]⟩ ?_ ?_
 ·refine WP.Fe (T:=83) (gZ (l:=[]) trivial) rfl rfl rfl rfl rfl rfl rfl rfl rfl (by show 3<8;omega) fun q hq=> ?_;refine WP.E4 q rfl (fun h=> ?_) (fun h=> ?_)
  ·refine WP.step (gZ trivial) ⟨[aL 1 e5 x0,U,.aE,U,U,U,U,U],[]⟩ (((x0.n=x0.n∧ ∀i,i<x0.n→e5 (x0.at' i)=e5 (x0.at' i))∧((.aE:AV)= .aE)∧True)∧True∧true=true) (by kernel_rfl) ⟨⟨⟨rfl,fun _ _=>rfl⟩,rfl,trivial⟩,trivial,rfl⟩ ?_;exact WP.qy (True∧(x0.n=0)) (by kernel_rfl) ⟨trivial,hq h⟩
  ·exact WP.I_ (((x0.n=x0.n∧ ∀i,i<x0.n→e5 (x0.at' i)=e5 (x0.at' i))∧((.aE:AV)= .aE)∧True)∧True∧true=true) (by kernel_rfl) ⟨⟨⟨rfl,fun _ _=>rfl⟩,rfl,trivial⟩,trivial,rfl⟩
 ·refine WP.step (gZ trivial) ⟨[aL 1 e5 x0,U,.own 0 x0.n,U,U,U,U,U],[[.ah false 1 x0.n (fun i=>e5 (x0.at' i))]]⟩ (∃h:Nat→List AV,(∀i,i<0→kY (([]:List (List AV)).getD i []) (h i))∧((0:Nat)=0)∧(0+x0.n≤549755813888)∧ ∃h':Nat→List AV,(∀i,i<0+x0.n→ix 0 h (fun i=>e5 (x0.at' i)) i=h' i)∧(((x0.n=x0.n∧ ∀i,i<x0.n→e5 (x0.at' i)=e5 (x0.at' i))∧((.own 0 (0+x0.n):AV)= .own 0 x0.n)∧True)∧(((0+x0.n=x0.n∧ ∀i,i<x0.n→kY (h' i) (e5 (x0.at' i)))∧True)∧True)∧true=true)) (by kernel_rfl)
   ⟨fun _=>[],fun i h=>absurd h (fC i),rfl,by omega,fun i=>e5 (x0.at' i),fun i _=>EI _ _ i,⟨⟨rfl,fun _ _=>rfl⟩,(by rw[aCO]),trivial⟩,⟨⟨⟨aCO _,fun _ _=>Ag _⟩,trivial⟩,trivial⟩,rfl⟩ ?_
  exact WP.qy (True∧((x0.n:Nat)=x0.n∧x0.n=x0.n∧ ∀i,i<x0.n→e5 (x0.at' i)=e5 (x0.at' i))) (by kernel_rfl) ⟨trivial,rfl,rfl,fun _ _=>rfl⟩
theorem azd(x0:Sl bk):fk Tryz.prog 47 [aL 2 fM x0] (.ah false 2 x0.n (fun i=>fM (x0.at' i))):=by
 refine fk.nO fun hf=> ?_;have t_:fJ (aL 2 fM x0):=hf.1;have Ns:x0.n≤549755813888:=t_.len;refine wJ (E:=Ac []) (gZ trivial) Tryz.func47 rfl _ _ ?_;refine WP.step (gZ trivial) ⟨[aL 2 fM x0,U,.aE,U,U,U,U,U],[]⟩ (((x0.n=x0.n∧ ∀i,i<x0.n→fM (x0.at' i)=fM (x0.at' i))∧((.aE:AV)= .aE)∧True)∧True∧true=true) (by kernel_rfl) ⟨⟨⟨rfl,fun _ _=>rfl⟩,rfl,trivial⟩,trivial,rfl⟩ ?_;refine WP.It ⟨[aL 2 fM x0,U,.aE,U,U,U,U,U],[]⟩ ?_ ?_
 ·refine WP.Fe (T:=122) (gZ (l:=[]) trivial) rfl rfl rfl rfl rfl rfl rfl rfl rfl (by show 3<8;omega) fun q hq=> ?_;refine WP.E4 q rfl (fun h=> ?_) (fun h=> ?_)
  ·refine WP.step (gZ trivial) ⟨[aL 2 fM x0,U,.aE,U,U,U,U,U],[]⟩ (((x0.n=x0.n∧ ∀i,i<x0.n→fM (x0.at' i)=fM (x0.at' i))∧((.aE:AV)= .aE)∧True)∧True∧true=true) (by kernel_rfl) ⟨⟨⟨rfl,fun _ _=>rfl⟩,rfl,trivial⟩,trivial,rfl⟩ ?_;exact WP.qy (True∧(x0.n=0)) (by kernel_rfl) ⟨trivial,hq h⟩
  ·exact WP.I_ (((x0.n=x0.n∧ ∀i,i<x0.n→fM (x0.at' i)=fM (x0.at' i))∧((.aE:AV)= .aE)∧True)∧True∧true=true) (by kernel_rfl) ⟨⟨⟨rfl,fun _ _=>rfl⟩,rfl,trivial⟩,trivial,rfl⟩
 ·refine WP.step (gZ trivial) ⟨[aL 2 fM x0,U,.own 0 x0.n,U,U,U,U,U],[[.ah false 2 x0.n (fun i=>fM (x0.at' i))]]⟩ (∃h:Nat→List AV,(∀i,i<0→kY (([]:List (List AV)).getD i []) (h i))∧((0:Nat)=0)∧(0+x0.n≤549755813888)∧ ∃h':Nat→List AV,(∀i,i<0+x0.n→ix 0 h (fun i=>fM (x0.at' i)) i=h' i)∧(((x0.n=x0.n∧ ∀i,i<x0.n→fM (x0.at' i)=fM (x0.at' i))∧((.own 0 (0+x0.n):AV)= .own 0 x0.n)∧True)∧(((0+x0.n=x0.n∧ ∀i,i<x0.n→kY (h' i) (fM (x0.at' i)))∧True)∧True)∧true=true)) (by kernel_rfl)
   ⟨fun _=>[],fun i h=>absurd h (fC i),rfl,by omega,fun i=>fM (x0.at' i),fun i _=>EI _ _ i,⟨⟨rfl,fun _ _=>rfl⟩,(by rw[aCO]),trivial⟩,⟨⟨⟨aCO _,fun _ _=>Ag _⟩,trivial⟩,trivial⟩,rfl⟩ ?_
  exact WP.qy (True∧((x0.n:Nat)=x0.n∧x0.n=x0.n∧ ∀i,i<x0.n→fM (x0.at' i)=fM (x0.at' i))) (by kernel_rfl) ⟨trivial,rfl,rfl,fun _ _=>rfl⟩
theorem aze(x0:Sl ag):fk Tryz.prog 32 [aL 1 e9 x0] (.ah false 1 x0.n (fun i=>e9 (x0.at' i))):=by
 refine fk.nO fun hf=> ?_;have t_:fJ (aL 1 e9 x0):=hf.1;have Ns:x0.n≤549755813888:=t_.len;refine wJ (E:=Ac []) (gZ trivial) Tryz.func32 rfl _ _ ?_;refine WP.step (gZ trivial) ⟨[aL 1 e9 x0,U,.aE,U,U,U,U,U],[]⟩ (((x0.n=x0.n∧ ∀i,i<x0.n→e9 (x0.at' i)=e9 (x0.at' i))∧((.aE:AV)= .aE)∧True)∧True∧true=true) (by kernel_rfl) ⟨⟨⟨rfl,fun _ _=>rfl⟩,rfl,trivial⟩,trivial,rfl⟩ ?_;refine WP.It ⟨[aL 1 e9 x0,U,.aE,U,U,U,U,U],[]⟩ ?_ ?_
 ·refine WP.Fe (T:=97) (gZ (l:=[]) trivial) rfl rfl rfl rfl rfl rfl rfl rfl rfl (by show 3<8;omega) fun q hq=> ?_;refine WP.E4 q rfl (fun h=> ?_) (fun h=> ?_)
  ·refine WP.step (gZ trivial) ⟨[aL 1 e9 x0,U,.aE,U,U,U,U,U],[]⟩ (((x0.n=x0.n∧ ∀i,i<x0.n→e9 (x0.at' i)=e9 (x0.at' i))∧((.aE:AV)= .aE)∧True)∧True∧true=true) (by kernel_rfl) ⟨⟨⟨rfl,fun _ _=>rfl⟩,rfl,trivial⟩,trivial,rfl⟩ ?_;exact WP.qy (True∧(x0.n=0)) (by kernel_rfl) ⟨trivial,hq h⟩
  ·exact WP.I_ (((x0.n=x0.n∧ ∀i,i<x0.n→e9 (x0.at' i)=e9 (x0.at' i))∧((.aE:AV)= .aE)∧True)∧True∧true=true) (by kernel_rfl) ⟨⟨⟨rfl,fun _ _=>rfl⟩,rfl,trivial⟩,trivial,rfl⟩
 ·refine WP.step (gZ trivial) ⟨[aL 1 e9 x0,U,.own 0 x0.n,U,U,U,U,U],[[.ah false 1 x0.n (fun i=>e9 (x0.at' i))]]⟩ (∃h:Nat→List AV,(∀i,i<0→kY (([]:List (List AV)).getD i []) (h i))∧((0:Nat)=0)∧(0+x0.n≤549755813888)∧ ∃h':Nat→List AV,(∀i,i<0+x0.n→ix 0 h (fun i=>e9 (x0.at' i)) i=h' i)∧(((x0.n=x0.n∧ ∀i,i<x0.n→e9 (x0.at' i)=e9 (x0.at' i))∧((.own 0 (0+x0.n):AV)= .own 0 x0.n)∧True)∧(((0+x0.n=x0.n∧ ∀i,i<x0.n→kY (h' i) (e9 (x0.at' i)))∧True)∧True)∧true=true)) (by kernel_rfl)
   ⟨fun _=>[],fun i h=>absurd h (fC i),rfl,by omega,fun i=>e9 (x0.at' i),fun i _=>EI _ _ i,⟨⟨rfl,fun _ _=>rfl⟩,(by rw[aCO]),trivial⟩,⟨⟨⟨aCO _,fun _ _=>Ag _⟩,trivial⟩,trivial⟩,rfl⟩ ?_
  exact WP.qy (True∧((x0.n:Nat)=x0.n∧x0.n=x0.n∧ ∀i,i<x0.n→e9 (x0.at' i)=e9 (x0.at' i))) (by kernel_rfl) ⟨trivial,rfl,rfl,fun _ _=>rfl⟩
theorem azf(x0:Sl bD):fk Tryz.prog 48 [aL 2 fN x0] (.ah false 2 x0.n (fun i=>fN (x0.at' i))):=by
 refine fk.nO fun hf=> ?_;have t_:fJ (aL 2 fN x0):=hf.1;have Ns:x0.n≤549755813888:=t_.len;refine wJ (E:=Ac []) (gZ trivial) Tryz.func48 rfl _ _ ?_;refine WP.step (gZ trivial) ⟨[aL 2 fN x0,U,.aE,U,U,U,U,U],[]⟩ (((x0.n=x0.n∧ ∀i,i<x0.n→fN (x0.at' i)=fN (x0.at' i))∧((.aE:AV)= .aE)∧True)∧True∧true=true) (by kernel_rfl) ⟨⟨⟨rfl,fun _ _=>rfl⟩,rfl,trivial⟩,trivial,rfl⟩ ?_;refine WP.It ⟨[aL 2 fN x0,U,.aE,U,U,U,U,U],[]⟩ ?_ ?_
 ·refine WP.Fe (T:=123) (gZ (l:=[]) trivial) rfl rfl rfl rfl rfl rfl rfl rfl rfl (by show 3<8;omega) fun q hq=> ?_;refine WP.E4 q rfl (fun h=> ?_) (fun h=> ?_)
  ·refine WP.step (gZ trivial) ⟨[aL 2 fN x0,U,.aE,U,U,U,U,U],[]⟩ (((x0.n=x0.n∧ ∀i,i<x0.n→fN (x0.at' i)=fN (x0.at' i))∧((.aE:AV)= .aE)∧True)∧True∧true=true) (by kernel_rfl) ⟨⟨⟨rfl,fun _ _=>rfl⟩,rfl,trivial⟩,trivial,rfl⟩ ?_;exact WP.qy (True∧(x0.n=0)) (by kernel_rfl) ⟨trivial,hq h⟩
  ·exact WP.I_ (((x0.n=x0.n∧ ∀i,i<x0.n→fN (x0.at' i)=fN (x0.at' i))∧((.aE:AV)= .aE)∧True)∧True∧true=true) (by kernel_rfl) ⟨⟨⟨rfl,fun _ _=>rfl⟩,rfl,trivial⟩,trivial,rfl⟩
 ·refine WP.step (gZ trivial) ⟨[aL 2 fN x0,U,.own 0 x0.n,U,U,U,U,U],[[.ah false 2 x0.n (fun i=>fN (x0.at' i))]]⟩ (∃h:Nat→List AV,(∀i,i<0→kY (([]:List (List AV)).getD i []) (h i))∧((0:Nat)=0)∧(0+x0.n≤549755813888)∧ ∃h':Nat→List AV,(∀i,i<0+x0.n→ix 0 h (fun i=>fN (x0.at' i)) i=h' i)∧(((x0.n=x0.n∧ ∀i,i<x0.n→fN (x0.at' i)=fN (x0.at' i))∧((.own 0 (0+x0.n):AV)= .own 0 x0.n)∧True)∧(((0+x0.n=x0.n∧ ∀i,i<x0.n→kY (h' i) (fN (x0.at' i)))∧True)∧True)∧true=true)) (by kernel_rfl)
   ⟨fun _=>[],fun i h=>absurd h (fC i),rfl,by omega,fun i=>fN (x0.at' i),fun i _=>EI _ _ i,⟨⟨rfl,fun _ _=>rfl⟩,(by rw[aCO]),trivial⟩,⟨⟨⟨aCO _,fun _ _=>Ag _⟩,trivial⟩,trivial⟩,rfl⟩ ?_
  exact WP.qy (True∧((x0.n:Nat)=x0.n∧x0.n=x0.n∧ ∀i,i<x0.n→fN (x0.at' i)=fN (x0.at' i))) (by kernel_rfl) ⟨trivial,rfl,rfl,fun _ _=>rfl⟩
def ak1:Fq:=⟨[.v (.sl cZ)],fun x0=>⟨⟨none,(Kd.ah cZ).av x0⟩⟩⟩
theorem Dz:ba 35 ak1:=bf Tryz.func35 fun x0 _ _=>ay_ x0
def alp:Fq:=⟨[.v (.sl E5)],fun x0=>⟨⟨none,(Kd.ah E5).av x0⟩⟩⟩
theorem ahq:ba 127 alp:=bf Tryz.func127 fun x0 _ _=>aza x0
def ama:Fq:=⟨[.v (.sl cN)],fun x0=>⟨⟨none,(Kd.ah cN).av x0⟩⟩⟩
theorem WO:ba 47 ama:=bf Tryz.func47 fun x0 _ _=>azd x0
def amb:Fq:=⟨[.v (.sl E9)],fun x0=>⟨⟨none,(Kd.ah E9).av x0⟩⟩⟩
theorem DC:ba 32 amb:=bf Tryz.func32 fun x0 _ _=>aze x0
def amc:Fq:=⟨[.v (.sl cH)],fun x0=>⟨⟨none,(Kd.ah cH).av x0⟩⟩⟩
theorem WQ:ba 48 amc:=bf Tryz.func48 fun x0 _ _=>azf x0
def BM(x0 x1:ag):Int:=Lib.compareBytes x0.data.toList x1.data.toList
theorem ayq:Extern.findNext Tryz.f211=none:=by kernel_rfl
theorem apo:Extern.find Tryz.f211=some Extern.BytealgCompare.compare:=by kernel_rfl
theorem azb(x0 x1:ag):fk Tryz.prog 200 [.str x0,.str x1] (.int .i64 (BM x0 x1)):=by
 refine wJ (E:=Ac []) (gZ trivial) Tryz.func200 rfl _ _ ?_;refine WP.step (gZ trivial) ⟨[.str x0,.str x1,U,U,U,U,U,U],[]⟩ ((((x0:ag)=x0)∧((x1:ag)=x1)∧True)∧True∧true=true) (by kernel_rfl) ⟨⟨rfl,rfl,trivial⟩,trivial,rfl⟩ ?_;refine WP.ao9 (x:=x0) (y:=x1) (k:= .i64) (r:=BM x0 x1) rfl rfl rfl rfl rfl rfl rfl rfl rfl rfl rfl rfl rfl ⟨by decide,by decide⟩ ⟨by show 5<8;omega,by show 6<8;omega,by show 7<8;omega⟩ (fun ρ w wg h0 h1=> ?_) ?_
 ·have hr:=Lib.run_compareString (P:=Tryz.prog) x0 x1 w;have hf:Tryz.prog.funcs[211]? =some Tryz.f211:=Tryz.func211;have hc:=run_callFunc_extern (P:=Tryz.prog) hf (by kernel_rfl) rfl ayq apo #[.string x0,.string x1] w;rw[hr]at hc;simp [execOp,resolve,Deferred.ofValue,invoke,wg,h0,h1];exact hc
 ·exact WP.qy (True∧((.int .i64 (BM x0 x1):AV)= .int .i64 (BM x0 x1))) (by kernel_rfl) ⟨trivial,rfl⟩
def alW:Fq:=⟨[.v kS,.v kS],fun x0 x1=>⟨⟨none,.int .i64 (BM x0 x1)⟩⟩⟩
theorem ave:ba 200 alW:=bf Tryz.func200 fun x0 _ x1 _=>azb x0 x1
section
structure Nd where
 me:Int
 up:Bool
 ck:Int
 ro:Int
 te:Int
 vo:Int
 lb:Int
 lt:Int
 li:Sl aM
 si:Int
 sg:Int
 sn:Int
 se:Sl ar
 sx:Int
 sc:Sl aG
 mn:Int
 mE:Sl ar
 mx:Int
 mc:Sl aG
 co:Int
 v0:Bool
 v1:Bool
 v2:Bool
 p0:Int
 p1:Int
 p2:Int
 q0:Int
 q1:Int
 q2:Int
 ws:Sl iP
 td:Sl Int
 ts:Int
 ou:Sl aF
instance:Inhabited Nd:=⟨⟨default,default,default,default,default,default,default,default,default,default,default,default,default,default,default,default,default,default,default,default,default,default,default,default,default,default,default,default,default,default,default,default,default⟩⟩
structure lR where
 c0:Int
 c1:Int
 c2:Int
 c3:ag
 c4:ag
 c5:ag
 c6:Int
structure Cr where
 a:Nd
 b:Nd
 c:Nd
 ax:Sl aF
 told:Sl bI
 aY:Sl aS
def Cr.nd(C:Cr)(i:Nat):Nd:=match i with
 |0=>C.a
 |1=>C.b
 |_=>C.c
def Cr.set(C:Cr)(i:Nat)(n:Nd):Cr:=match i with
 |0=>{C with a:=n}
 |1=>{C with b:=n}
 |_=>{C with c:=n}
def Cr.put(C:Cr)(i:Nat)(n:Nd)(ka:Sl aF)(kt:Sl bI)(kl:Sl aS):Cr:=match i with
 |0=>⟨n,C.b,C.c,ka,kt,kl⟩
 |1=>⟨C.a,n,C.c,ka,kt,kl⟩
 |_=>⟨C.a,C.b,n,ka,kt,kl⟩
def Af(o:Nat):List (Key×Kd):=[(.h 0 (o+0),kI),(.h 0 (o+1),kB),(.h 0 (o+2),kI),(.h 0 (o+3),kI),(.h 0 (o+4),kI),(.h 0 (o+5),kI),(.h 0 (o+6),kI),(.h 0 (o+7),kI),(.h 0 (o+8),.sl cZ),(.h 0 (o+9),kI),(.h 0 (o+10),kI),(.h 0 (o+11),kI),(.h 0 (o+12),.sl aZ),(.h 0 (o+13),kI),(.h 0 (o+14),.sl bG),(.h 0 (o+15),kI),(.h 0 (o+16),.sl aZ),(.h 0 (o+17),kI),(.h 0 (o+18),.sl bG),(.h 0 (o+19),kI),(.h 0 (o+20),kB),(.h 0 (o+21),kB),(.h 0 (o+22),kB),(.h 0 (o+23),kI),(.h 0 (o+24),kI),(.h 0 (o+25),kI),(.h 0 (o+26),kI),(.h 0 (o+27),kI),(.h 0 (o+28),kI),(.h 0 (o+30),.sl E5),(.h 0 (o+31),kI)]
def aJ:List Nat:=[1,2,3,4,5,6,7,8,9]
def I0(i:Nat):Nat:=match i with
 |0=>1
 |_=>0
def I1(i:Nat):Nat:=match i with
 |2=>1
 |_=>2
variable(C:Cr)(i:Nat)(ids:List Nat)(n:Nd)
def Am(i:Nat):List (Key×Kd):=[(.h (ids.getD (2*i) 0) 0,.ah cA),(.h (ids.getD (2*i+1) 0) 0,.ah bK)]
def fL:List (Key×Kd):=Af (33*i)++Af (33*I0 i)++Af (33*I1 i)++Am ids i++Am ids (I0 i)++Am ids (I1 i)++[(.h (ids.getD 6 0) 0,.ah bK),(.h (ids.getD 7 0) 0,.ah jf),(.h (ids.getD 8 0) 0,.ah cr)]
def Ae(n:Nd)(w o:Nat):List AV:=[ae n.me,.bool n.up,ae n.ck,ae n.ro,ae n.te,ae n.vo,ae n.lb,ae n.lt,aL 10 dH n.li,ae n.si,ae n.sg,ae n.sn,aL 8 gn n.se,ae n.sx,aL 7 gP n.sc,ae n.mn,aL 8 gn n.mE,ae n.mx,aL 7 gP n.mc,ae n.co,.bool n.v0,.bool n.v1,.bool n.v2,ae n.p0,ae n.p1,ae n.p2,ae n.q0,ae n.q1,ae n.q2,.own w (n.ws).n,aL 1 e5 n.td,ae n.ts,.own o (n.ou).n]
def posOf(b:Nat):List Nat→Nat→Option Nat
 |[],_=>none
 |x::l,k=>match Nat.beq x b with
  |true=>some k
  |false=>posOf b l (k+1)
def bN(ids:List Nat)(m:Nat)(C:Cr):Heap:=Cr.casesOn C fun ca cb cc cw ct cl=>(Ae ca (ids.getD 0 0) (ids.getD 1 0)++Ae cb (ids.getD 2 0) (ids.getD 3 0)++Ae cc (ids.getD 4 0) (ids.getD 5 0)++[.own (ids.getD 6 0) cw.n,.own (ids.getD 7 0) ct.n,.own (ids.getD 8 0) cl.n])::
 (List.range (9+m)).map fun b=>match posOf (b+1) ids 0 with
  |some p=>[([(Kd.ah cA).av ca.ws,(Kd.ah bK).av ca.ou,(Kd.ah cA).av cb.ws,(Kd.ah bK).av cb.ou,(Kd.ah cA).av cc.ws,(Kd.ah bK).av cc.ou,(Kd.ah bK).av cw,(Kd.ah jf).av ct,(Kd.ah cr).av cl]:List AV).getD p .undef]
  |none=>[dh]
def ah0:List (Nat×List AV)→Nat→Option (List AV)
 |[],_=>none
 |x::l,b=>match Nat.beq x.1 b with
  |true=>some x.2
  |false=>ah0 l b
def bS(ids:List Nat)(m:Nat)(C:Cr)(ext:List (Nat×List AV)):Heap:=Cr.casesOn C fun ca cb cc cw ct cl=>(Ae ca (ids.getD 0 0) (ids.getD 1 0)++Ae cb (ids.getD 2 0) (ids.getD 3 0)++Ae cc (ids.getD 4 0) (ids.getD 5 0)++[.own (ids.getD 6 0) cw.n,.own (ids.getD 7 0) ct.n,.own (ids.getD 8 0) cl.n])::
 (List.range (9+m)).map fun b=>match posOf (b+1) ids 0 with
  |some p=>[([(Kd.ah cA).av ca.ws,(Kd.ah bK).av ca.ou,(Kd.ah cA).av cb.ws,(Kd.ah bK).av cb.ou,(Kd.ah cA).av cc.ws,(Kd.ah bK).av cc.ou,(Kd.ah bK).av cw,(Kd.ah jf).av ct,(Kd.ah cr).av cl]:List AV).getD p .undef]
  |none=>match ah0 ext (b+1)with
   |some l=>l
   |none=>match Nat.ble b 8 with
    |true=>[dh]
    |false=>[]
abbrev bP:List Kd:=[kI,kB,kI,kI,kI,kI,kI,kI,.sl cZ,kI,kI,kI,.sl aZ,kI,.sl bG,kI,.sl aZ,kI,.sl bG,kI,kB,kB,kB,kI,kI,kI,kI,kI,kI,.sl E5,kI,kI,kB,kI,kI,kI,kI,kI,kI,.sl cZ,kI,kI,kI,.sl aZ,kI,.sl bG,kI,.sl aZ,kI,.sl bG,kI,kB,kB,kB,kI,kI,kI,kI,kI,kI,.sl E5,kI,kI,kB,kI,kI,kI,kI,kI,kI,.sl cZ,kI,kI,kI,.sl aZ,kI,.sl bG,kI,.sl aZ,kI,.sl bG,kI,kB,kB,kB,kI,kI,kI,kI,kI,kI,.sl E5,kI,.ah cA,.ah bK,.ah cA,.ah bK,.ah cA,.ah bK,.ah bK,.ah jf,.ah cr]
def cg{α:Type 1}(G:Cr→α):dM bP α:=fun a0 a1 a2 a3 a4 a5 a6 a7 a8 a9 jy jz j6 j7 j8 Ej Ek Em En Ep a20 Er a22 Es a24 Et Eu Ev Ew Ey Ez EA EB QB QC QD QE QF QG QH a40 QI QJ QK QL QM QN QO QP QQ QR QS QT QU QV QW QX QY QZ Q0 Q1 Q2 Q3 Q4 Q5 Q6 Q7 Q8 Q9 Q_ Ra Rb Rc Rd Re Rf Rg Rh Ri Rj Rk Rl Rm Ro Rp Rq Rr Rs Rt Rv Rw Rx Ry Rz RA RC RD RE RF RG Qy Qz=>G ⟨⟨a0,a1,a2,a3,a4,a5,a6,a7,a8,a9,jy,jz,j6,j7,j8,Ej,Ek,Em,En,Ep,a20,Er,a22,Es,a24,Et,Eu,Ev,Ew,Rz,Ey,Ez,RA⟩,⟨EA,EB,QB,QC,QD,QE,QF,QG,QH,a40,QI,QJ,QK,QL,QM,QN,QO,QP,QQ,QR,QS,QT,QU,QV,QW,QX,QY,QZ,Q0,RC,Q1,Q2,RD⟩,⟨Q3,Q4,Q5,Q6,Q7,Q8,Q9,Q_,Ra,Rb,Rc,Rd,Re,Rf,Rg,Rh,Ri,Rj,Rk,Rl,Rm,Ro,Rp,Rq,Rr,Rs,Rt,Rv,Rw,RE,Rx,Ry,RF⟩,RG,Qy,Qz⟩
def V2:HL bP:=(C.a.me,C.a.up,C.a.ck,C.a.ro,C.a.te,C.a.vo,C.a.lb,C.a.lt,C.a.li,C.a.si,C.a.sg,C.a.sn,C.a.se,C.a.sx,C.a.sc,C.a.mn,C.a.mE,C.a.mx,C.a.mc,C.a.co,C.a.v0,C.a.v1,C.a.v2,C.a.p0,C.a.p1,C.a.p2,C.a.q0,C.a.q1,C.a.q2,C.a.td,C.a.ts,C.b.me,C.b.up,C.b.ck,C.b.ro,C.b.te,C.b.vo,C.b.lb,C.b.lt,C.b.li,C.b.si,C.b.sg,C.b.sn,C.b.se,C.b.sx,C.b.sc,C.b.mn,C.b.mE,C.b.mx,C.b.mc,C.b.co,C.b.v0,C.b.v1,C.b.v2,C.b.p0,C.b.p1,C.b.p2,C.b.q0,C.b.q1,C.b.q2,C.b.td,C.b.ts,C.c.me,C.c.up,C.c.ck,C.c.ro,C.c.te,C.c.vo,C.c.lb,C.c.lt,C.c.li,C.c.si,C.c.sg,C.c.sn,C.c.se,C.c.sx,C.c.sc,C.c.mn,C.c.mE,C.c.mx,C.c.mc,C.c.co,C.c.v0,C.c.v1,C.c.v2,C.c.p0,C.c.p1,C.c.p2,C.c.q0,C.c.q1,C.c.q2,C.c.td,C.c.ts,C.a.ws,C.a.ou,C.b.ws,C.b.ou,C.c.ws,C.c.ou,C.ax,C.told,C.aY,())
def Sg(s:HL bP):Cr:=match s with
 |(a0,a1,a2,a3,a4,a5,a6,a7,a8,a9,jy,jz,j6,j7,j8,Ej,Ek,Em,En,Ep,a20,Er,a22,Es,a24,Et,Eu,Ev,Ew,Ey,Ez,EA,EB,QB,QC,QD,QE,QF,QG,QH,a40,QI,QJ,QK,QL,QM,QN,QO,QP,QQ,QR,QS,QT,QU,QV,QW,QX,QY,QZ,Q0,Q1,Q2,Q3,Q4,Q5,Q6,Q7,Q8,Q9,Q_,Ra,Rb,Rc,Rd,Re,Rf,Rg,Rh,Ri,Rj,Rk,Rl,Rm,Ro,Rp,Rq,Rr,Rs,Rt,Rv,Rw,Rx,Ry,Rz,RA,RC,RD,RE,RF,RG,Qy,Qz,_)=>⟨⟨a0,a1,a2,a3,a4,a5,a6,a7,a8,a9,jy,jz,j6,j7,j8,Ej,Ek,Em,En,Ep,a20,Er,a22,Es,a24,Et,Eu,Ev,Ew,Rz,Ey,Ez,RA⟩,⟨EA,EB,QB,QC,QD,QE,QF,QG,QH,a40,QI,QJ,QK,QL,QM,QN,QO,QP,QQ,QR,QS,QT,QU,QV,QW,QX,QY,QZ,Q0,RC,Q1,Q2,RD⟩,⟨Q3,Q4,Q5,Q6,Q7,Q8,Q9,Q_,Ra,Rb,Rc,Rd,Re,Rf,Rg,Rh,Ri,Rj,Rk,Rl,Rm,Ro,Rp,Rq,Rr,Rs,Rt,Rv,Rw,RE,Rx,Ry,RF⟩,RG,Qy,Qz⟩
def fX:List AV:=HL.cR bP (V2 C)
theorem agK(s:HL bP):V2 (Sg s)=s:=rfl
theorem hlC{α:Type 1}(G:Cr→α)(s:HL bP):dM.hl bP (cg G) s=G (Sg s):=by kernel_rfl
def fq(n:Nd):Prop:=n.li.n≤549755813888∧n.se.n≤549755813888∧n.sc.n≤549755813888∧n.mE.n≤549755813888∧n.mc.n≤549755813888∧n.ws.n≤549755813888∧n.td.n≤549755813888∧n.ou.n≤549755813888
def dA(C:Cr):Prop:=fq C.a∧fq C.b∧fq C.c∧C.ax.n≤549755813888∧C.told.n≤549755813888∧C.aY.n≤549755813888
theorem aot(C:Cr)(h:PD bP (V2 C)):dA C:=by
 have h:True∧True∧True∧True∧True∧True∧True∧True∧C.a.li.n≤549755813888∧True∧True∧True∧C.a.se.n≤549755813888∧True∧C.a.sc.n≤549755813888∧True∧C.a.mE.n≤549755813888∧True∧C.a.mc.n≤549755813888∧True∧True∧True∧True∧True∧True∧True∧True∧True∧True∧C.a.td.n≤549755813888∧True∧True∧True∧True∧True∧True∧True∧True∧True∧C.b.li.n≤549755813888∧True∧True∧True∧C.b.se.n≤549755813888∧True∧C.b.sc.n≤549755813888∧True∧C.b.mE.n≤549755813888∧True∧C.b.mc.n≤549755813888∧True∧True∧True∧True∧True∧True∧True∧True∧True∧True∧C.b.td.n≤549755813888∧True∧True∧True∧True∧True∧True∧True∧True∧True∧C.c.li.n≤549755813888∧True∧True∧True∧C.c.se.n≤549755813888∧True∧C.c.sc.n≤549755813888∧True∧C.c.mE.n≤549755813888∧True∧C.c.mc.n≤549755813888∧True∧True∧True∧True∧True∧True∧True∧True∧True∧True∧C.c.td.n≤549755813888∧True∧C.a.ws.n≤549755813888∧C.a.ou.n≤549755813888∧C.b.ws.n≤549755813888∧C.b.ou.n≤549755813888∧C.c.ws.n≤549755813888∧C.c.ou.n≤549755813888∧C.ax.n≤549755813888∧C.told.n≤549755813888∧C.aY.n≤549755813888∧True:=h;obtain⟨_,_,_,_,_,_,_,_,h8,_,_,_,fw,_,rG,_,v_,_,CT,_,_,_,_,_,_,_,_,_,_,h29,_,_,_,_,_,_,_,_,_,h39,_,_,_,h43,_,h45,_,h47,_,h49,_,_,_,_,_,_,_,_,_,_,h60,_,_,_,_,_,_,_,_,_,h70,_,_,_,h74,_,h76,_,h78,_,h80,_,_,_,_,_,_,_,_,_,_,h91,_,h93,h94,h95,h96,h97,h98,h99,ar9,ar_,_⟩:=h;exact⟨⟨h8,fw,rG,v_,CT,h93,h29,h94⟩,⟨h39,h43,h45,h47,h49,h95,h60,h96⟩,⟨h70,h74,h76,h78,h80,h97,h91,h98⟩,h99,ar9,ar_⟩
theorem fR{C:Cr}(h:dA C): ∀i,i<3→fq (C.nd i):=by
 intro i hi;rcases bJ hi with rfl|rfl|rfl
 ·exact h.1
 ·exact h.2.1
 ·exact h.2.2.1
def I3:AV→Nat
 | .ah _ _ n _=>n
 |_=>0
def XO(l:List AV)(w o:AV)(wi oi:Nat):List AV:=l.take 29++ .own wi (I3 w)::((l.drop 29).take 2++[.own oi (I3 o)])
def xe(ids:List Nat)(m:Nat)(a b c w:List AV):Heap:=
 (XO a (w.getD 0 .undef) (w.getD 1 .undef) (ids.getD 0 0) (ids.getD 1 0)++XO b (w.getD 2 .undef) (w.getD 3 .undef) (ids.getD 2 0) (ids.getD 3 0)++XO c (w.getD 4 .undef) (w.getD 5 .undef) (ids.getD 4 0) (ids.getD 5 0)++[.own (ids.getD 6 0) (I3 (w.getD 6 .undef)),.own (ids.getD 7 0) (I3 (w.getD 7 .undef)),.own (ids.getD 8 0) (I3 (w.getD 8 .undef))])::
 (List.range (9+m)).map fun b=>match posOf (b+1) ids 0 with
  |some p=>[w.getD p .undef]
  |none=>[dh]
def eC(cs:List AV):Heap:=xe aJ 0 (cs.take 31) ((cs.drop 31).take 31) ((cs.drop 62).take 31) (cs.drop 93)
def sk(l:List AV):List AV:=l.take 29++(l.drop 30).take 2
def dS(H:Heap):List AV:=sk (H.getD 0 [])++(sk ((H.getD 0 []).drop 33)++(sk ((H.getD 0 []).drop 66)++[aj H 1 0,aj H 2 0,aj H 3 0,aj H 4 0,aj H 5 0,aj H 6 0,aj H 7 0,aj H 8 0,aj H 9 0]))
theorem VV{H:Heap}{c:AV}(h:c∈H.getD 0 []): ∃b o,c=aj H b o:=by
 obtain⟨o,ho⟩:=aDJ h;exact⟨0,o,by
  unfold aj;rw[show(H.getD 0 []).getD o AV.undef=((H.getD 0 [])[o]?).getD AV.undef from rfl,ho];rfl⟩
theorem YC{l:List AV}{c:AV}(h:c∈sk l):c∈l:=by
 unfold sk at h;rcases aC5.1 h with h|h
 ·exact List.mem_of_mem_take h
 ·exact aEn (List.mem_of_mem_take h)
theorem gu: ∀H,∀c∈dS H,∃b o,c=aj H b o:=by
 intro H c h;unfold dS at h;rcases aC5.1 h with h|h
 ·exact VV (YC h)
 rcases aC5.1 h with h|h
 ·exact VV (aEn (YC h))
 rcases aC5.1 h with h|h
 ·exact VV (aEn (YC h))
 ·simp only[aDa,aEb,or_false]at h;rcases h with h|h|h|h|h|h|h|h|h<;>exact⟨_,_,h⟩
def Pp:List Nat→List AV→List AV
 |[],_=>[]
 |0::r,l=>l.headD .undef::Pp r l.tail
 |(k+1)::r,l=> .agg (l.take (k+1))::Pp r (l.drop (k+1))
def gx(i:Nat)(ids:List Nat)(m:Nat)(YT:List Nat)(nr:Nat)(vs:List AV):St:=
 ⟨Pp YT vs,match vs.drop nr with
  |v=>match i with
   |0=>xe ids m (v.take 31) ((v.drop 31).take 31) ((v.drop 62).take 31) (v.drop 93)
   |1=>xe ids m ((v.drop 31).take 31) (v.take 31) ((v.drop 62).take 31) ((v.drop 95).take 2++((v.drop 93).take 2++v.drop 97))
   |_=>xe ids m ((v.drop 31).take 31) ((v.drop 62).take 31) (v.take 31) ((v.drop 95).take 4++((v.drop 93).take 2++v.drop 99))⟩
def aba:AV→List AV
 | .agg cs=>cs
 |x=>[x]
def gw(i:Nat)(ids:List Nat)(s:St):List AV:=
 s.tm.flatMap aba++(sk ((s.hp.getD 0 []).drop (33*i))++(sk ((s.hp.getD 0 []).drop (33*I0 i))++(sk ((s.hp.getD 0 []).drop (33*I1 i))++
  [aj s.hp (ids.getD (2*i) 0) 0,aj s.hp (ids.getD (2*i+1) 0) 0,aj s.hp (ids.getD (2*I0 i) 0) 0,aj s.hp (ids.getD (2*I0 i+1) 0) 0,aj s.hp (ids.getD (2*I1 i) 0) 0,aj s.hp (ids.getD (2*I1 i+1) 0) 0,aj s.hp (ids.getD 6 0) 0,aj s.hp (ids.getD 7 0) 0,aj s.hp (ids.getD 8 0) 0])))
theorem gv{P:Program}{f:FuncId}{F:Hr}{acc:List AV}{G:Cr→ULift Ha}(h: ∀C,dA C→wx (G C).down.pre (fj P f (F.args (acc++fX C)) (F.hv ((acc++fX C).drop F.na)) (G C).down.rs (G C).down.H)):fb P f F bP [] (cg G) acc:=
 ZV fun s hs=>by
  have h1:=h (Sg s) (aot _ (by rw[agK];exact hs));unfold fX at h1;rw[agK]at h1;rw[hlC];exact h1
def pD:List (Key×Kd):=Af (33*i)++Am ids i++[(.h (ids.getD 6 0) 0,.ah bK),(.h (ids.getD 7 0) 0,.ah jf),(.h (ids.getD 8 0) 0,.ah cr)]
abbrev sI:=Int×Bool×Int×Int×Int×Int×Int×Int×Sl aM×Int×Int×Int×Sl ar×Int×Sl aG×Int×Sl ar×Int×Sl aG×Int×Bool×Bool×Bool×Int×Int×Int×Int×Int×Int×Sl Int×Int×Sl iP×Sl aF×Sl aF×Sl bI×Sl aS
def D9(n:Nd)(ka:Sl aF)(kt:Sl bI)(kl:Sl aS):sI:=(n.me,n.up,n.ck,n.ro,n.te,n.vo,n.lb,n.lt,n.li,n.si,n.sg,n.sn,n.se,n.sx,n.sc,n.mn,n.mE,n.mx,n.mc,n.co,n.v0,n.v1,n.v2,n.p0,n.p1,n.p2,n.q0,n.q1,n.q2,n.td,n.ts,n.ws,n.ou,ka,kt,kl)
def XN(x:sI):Nd:=⟨x.1,x.2.1,x.2.2.1,x.2.2.2.1,x.2.2.2.2.1,x.2.2.2.2.2.1,x.2.2.2.2.2.2.1,x.2.2.2.2.2.2.2.1,x.2.2.2.2.2.2.2.2.1,x.2.2.2.2.2.2.2.2.2.1,x.2.2.2.2.2.2.2.2.2.2.1,x.2.2.2.2.2.2.2.2.2.2.2.1,x.2.2.2.2.2.2.2.2.2.2.2.2.1,x.2.2.2.2.2.2.2.2.2.2.2.2.2.1,x.2.2.2.2.2.2.2.2.2.2.2.2.2.2.1,x.2.2.2.2.2.2.2.2.2.2.2.2.2.2.2.1,x.2.2.2.2.2.2.2.2.2.2.2.2.2.2.2.2.1,x.2.2.2.2.2.2.2.2.2.2.2.2.2.2.2.2.2.1,x.2.2.2.2.2.2.2.2.2.2.2.2.2.2.2.2.2.2.1,x.2.2.2.2.2.2.2.2.2.2.2.2.2.2.2.2.2.2.2.1,x.2.2.2.2.2.2.2.2.2.2.2.2.2.2.2.2.2.2.2.2.1,x.2.2.2.2.2.2.2.2.2.2.2.2.2.2.2.2.2.2.2.2.2.1,x.2.2.2.2.2.2.2.2.2.2.2.2.2.2.2.2.2.2.2.2.2.2.1,x.2.2.2.2.2.2.2.2.2.2.2.2.2.2.2.2.2.2.2.2.2.2.2.1,x.2.2.2.2.2.2.2.2.2.2.2.2.2.2.2.2.2.2.2.2.2.2.2.2.1,x.2.2.2.2.2.2.2.2.2.2.2.2.2.2.2.2.2.2.2.2.2.2.2.2.2.1,x.2.2.2.2.2.2.2.2.2.2.2.2.2.2.2.2.2.2.2.2.2.2.2.2.2.2.1,x.2.2.2.2.2.2.2.2.2.2.2.2.2.2.2.2.2.2.2.2.2.2.2.2.2.2.2.1,x.2.2.2.2.2.2.2.2.2.2.2.2.2.2.2.2.2.2.2.2.2.2.2.2.2.2.2.2.1,x.2.2.2.2.2.2.2.2.2.2.2.2.2.2.2.2.2.2.2.2.2.2.2.2.2.2.2.2.2.2.2.1,x.2.2.2.2.2.2.2.2.2.2.2.2.2.2.2.2.2.2.2.2.2.2.2.2.2.2.2.2.2.1,x.2.2.2.2.2.2.2.2.2.2.2.2.2.2.2.2.2.2.2.2.2.2.2.2.2.2.2.2.2.2.1,x.2.2.2.2.2.2.2.2.2.2.2.2.2.2.2.2.2.2.2.2.2.2.2.2.2.2.2.2.2.2.2.2.1⟩
def kaQ(x:sI):Sl aF:=x.2.2.2.2.2.2.2.2.2.2.2.2.2.2.2.2.2.2.2.2.2.2.2.2.2.2.2.2.2.2.2.2.2.1
def ktQ(x:sI):Sl bI:=x.2.2.2.2.2.2.2.2.2.2.2.2.2.2.2.2.2.2.2.2.2.2.2.2.2.2.2.2.2.2.2.2.2.2.1
def klQ(x:sI):Sl aS:=x.2.2.2.2.2.2.2.2.2.2.2.2.2.2.2.2.2.2.2.2.2.2.2.2.2.2.2.2.2.2.2.2.2.2.2
def qj(i:Nat)(ids:List Nat)(s:St):List AV:=
 s.tm.flatMap aba++(sk ((s.hp.getD 0 []).drop (33*i))++[aj s.hp (ids.getD (2*i) 0) 0,aj s.hp (ids.getD (2*i+1) 0) 0,aj s.hp (ids.getD 6 0) 0,aj s.hp (ids.getD 7 0) 0,aj s.hp (ids.getD 8 0) 0])
def DM:List AV:=sk (Ae n 0 0)
def DL:List AV:=[(Kd.ah cA).av n.ws,(Kd.ah bK).av n.ou]
def qB(i:Nat)(ids:List Nat)(m:Nat)(YT:List Nat)(nr:Nat)(C:Cr)(vs:List AV):St:=
 ⟨Pp YT vs,match vs.drop nr with
  |v=>match i with
   |0=>xe ids m (v.take 31) (DM C.b) (DM C.c) ((v.drop 31).take 2++(DL C.b++(DL C.c++v.drop 33)))
   |1=>xe ids m (DM C.a) (v.take 31) (DM C.c) (DL C.a++((v.drop 31).take 2++(DL C.c++v.drop 33)))
   |_=>xe ids m (DM C.a) (DM C.b) (v.take 31) (DL C.a++(DL C.b++((v.drop 31).take 2++v.drop 33)))⟩
def Nd.bif(b:Bool)(x y:Nd):Nd:=⟨bif b then x.me else y.me,bif b then x.up else y.up,bif b then x.ck else y.ck,bif b then x.ro else y.ro,bif b then x.te else y.te,bif b then x.vo else y.vo,bif b then x.lb else y.lb,bif b then x.lt else y.lt,bif b then x.li else y.li,bif b then x.si else y.si,bif b then x.sg else y.sg,bif b then x.sn else y.sn,bif b then x.se else y.se,bif b then x.sx else y.sx,bif b then x.sc else y.sc,bif b then x.mn else y.mn,bif b then x.mE else y.mE,bif b then x.mx else y.mx,bif b then x.mc else y.mc,bif b then x.co else y.co,bif b then x.v0 else y.v0,bif b then x.v1 else y.v1,bif b then x.v2 else y.v2,bif b then x.p0 else y.p0,bif b then x.p1 else y.p1,bif b then x.p2 else y.p2,bif b then x.q0 else y.q0,bif b then x.q1 else y.q1,bif b then x.q2 else y.q2,bif b then x.ws else y.ws,bif b then x.td else y.td,bif b then x.ts else y.ts,bif b then x.ou else y.ou⟩
def Cr.bif(b:Bool)(x y:Cr):Cr:=⟨Nd.bif b x.a y.a,Nd.bif b x.b y.b,Nd.bif b x.c y.c,bif b then x.ax else y.ax,bif b then x.told else y.told,bif b then x.aY else y.aY⟩
theorem Nd.lX(b:Bool)(x y:Nd):Nd.bif b x y=bif b then x else y:=by cases b<;>rfl
theorem Cr.lX(b:Bool)(x y:Cr):Cr.bif b x y=bif b then x else y:=by cases b<;>rfl
end
section
variable(x0:Int)(x1:Int)(x2:Int)
def FI:Bool:=(bif(decide (x0≥x1))then(decide (x0≤x2))else false)
def kQ:Bool:=(FI x0 x1 x2)
def oP(x0:ag):Bool:=(decide (((x0:ag).size:Int)≤20))
def Kx:Bool:=(kQ x0 (-1099511627776) 1099511627776)
def xB(x0:ag):Bool:=(kQ ((x0:ag).size:Int) 1 12)
def FM(x0:ag):Bool:=(bif(decide (((x0:ag).size:Int)≥1))then(decide (((x0:ag).size:Int)≤12))else false)
def lz(x0:ag):Bool:=(FM x0)
def akP:Fq:=⟨[.v kS],fun x0=>⟨⟨none,.bool (lz x0)⟩⟩⟩
theorem ahi:ba 80 akP:=bf Tryz.func80
 fun x0 _=>bj ⟨.pure,[.tmp 2],[(.t 0,kB)],⟨[U],[]⟩⟩ (.ai (.j ⟨4,[],[(.t 2,kB)],[],.f⟩ .z .z)) True fK Tryz.func80 (trivial)
def jP(x0:ag):Bool:=(decide (((x0:ag).size:Int)≤20))
def akU:Fq:=⟨[.v kS],fun x0=>⟨⟨none,.bool (jP x0)⟩⟩⟩
theorem Iu:ba 81 akU:=bf Tryz.func81
 fun x0 _=>bj ⟨.pure,[.tmp 2],[(.t 0,kB)],⟨[U],[]⟩⟩ (.z) True fK Tryz.func81 (trivial)
def Ky:Bool:=(bif(decide (x0≥(-1099511627776)))then(decide (x0≤1099511627776))else false)
def kR:Bool:=(Ky x0)
def akV:Fq:=⟨[.v kI],fun x0=>⟨⟨none,.bool (kR x0)⟩⟩⟩
theorem N4:ba 82 akV:=bf Tryz.func82
 fun(x0:Int)=>bj ⟨.pure,[.tmp 2],[(.t 0,kB)],⟨[U],[]⟩⟩ (.ai (.j ⟨4,[],[(.t 2,kB)],[],.f⟩ .z .z)) True fK Tryz.func82 (trivial)
def Tv:Bool:=(bif(decide (x0≥1))then(decide (x0≤1048576))else false)
def xC:Bool:=(Tv x0)
def akW:Fq:=⟨[.v kI],fun x0=>⟨⟨none,.bool (xC x0)⟩⟩⟩
theorem auD:ba 50 akW:=bf Tryz.func50
 fun(x0:Int)=>bj ⟨.pure,[.tmp 2],[(.t 0,kB)],⟨[U],[]⟩⟩ (.ai (.j ⟨4,[],[(.t 2,kB)],[],.f⟩ .z .z)) True fK Tryz.func50 (trivial)
def tu:Bool:=(kQ x0 1 1048576)
end
section
variable(x0:Int)(x1:Int)(x2:ag)(x3:ag)(x4:Int)
def afZ:Bool:=(bif(x0==1)then true else(bif(x0==4)then true else(bif(x0==7)then true else(bif(x0==8)then true else(kQ x0 11 16)))))
def Hh:Bool:=(bif(x0==3)then true else(bif(x0==14)then true else(x0==20)))
def af0(x1:ag)(x2:ag)(x3:ag)(x4:Int):Bool:=(bif(!(afZ x0))then(bif(!((x3:ag).toList==(⟨#[]⟩:ag).toList))then true else(bif(!(kQ x0 4 6))then(bif(!((x2:ag).toList==(⟨#[]⟩:ag).toList))then true else(bif(!(Hh x0))then(bif(x4 !=0)then true else(bif(!(x0 !=22))then(!((x1:ag).toList==(⟨#[]⟩:ag).toList))else false))else(bif(!(x0 !=22))then(!((x1:ag).toList==(⟨#[]⟩:ag).toList))else false)))else(bif(!(Hh x0))then(bif(x4 !=0)then true else(bif(!(x0 !=22))then(!((x1:ag).toList==(⟨#[]⟩:ag).toList))else false))else(bif(!(x0 !=22))then(!((x1:ag).toList==(⟨#[]⟩:ag).toList))else false))))else(bif(!(kQ x0 4 6))then(bif(!((x2:ag).toList==(⟨#[]⟩:ag).toList))then true else(bif(!(Hh x0))then(bif(x4 !=0)then true else(bif(!(x0 !=22))then(!((x1:ag).toList==(⟨#[]⟩:ag).toList))else false))else(bif(!(x0 !=22))then(!((x1:ag).toList==(⟨#[]⟩:ag).toList))else false)))else(bif(!(Hh x0))then(bif(x4 !=0)then true else(bif(!(x0 !=22))then(!((x1:ag).toList==(⟨#[]⟩:ag).toList))else false))else(bif(!(x0 !=22))then(!((x1:ag).toList==(⟨#[]⟩:ag).toList))else false))))
def af1(x1:ag)(x2:ag)(x3:ag):Bool:=(bif(x0 !=22)then(bif(!(xB x1))then true else(bif(kQ x0 4 6)then(bif(!(xB x2))then true else(!(oP x3)))else(!(oP x3))))else(bif(kQ x0 4 6)then(bif(!(xB x2))then true else(!(oP x3)))else(!(oP x3))))
def Hg(x1:ag)(x2:ag)(x3:ag)(x4:Int):Int:=(bif(!(kQ x0 1 22))then 3 else(bif(af0 x0 x1 x2 x3 x4)then 8 else(bif(af1 x0 x1 x2 x3)then 1 else(bif(!(Kx x4))then 2 else 0))))
def MA:Bool:=(bif(decide (x0<1))then true else(decide (x0>22)))
def yF:Bool:=(bif(x0==1)then(x0==1)else(bif(x0==7)then(x0==7)else(bif(x0==8)then(x0==8)else(bif(x0==11)then(x0==11)else(bif(x0==12)then(x0==12)else(bif(x0==13)then(x0==13)else(bif(x0==15)then(x0==15)else(x0==16))))))))
def yG:Bool:=(bif(x0==3)then(x0==3)else(x0==20))
def yH:Bool:=(bif(x0==5)then(x0==5)else(x0==6))
def MB(x1:ag):ag:=(bif(yF x0)then x1 else(bif(yG x0)then x1 else(bif(x0==4)then x1 else(bif(yH x0)then x1 else(bif(x0==14)then x1 else(bif(x0==22)then⟨#[]⟩else x1))))))
def Hf:ag:=(bif(yF x0)then⟨#[]⟩else(bif(yG x0)then⟨#[]⟩else(bif(x0==4)then x2 else(bif(yH x0)then x2 else⟨#[]⟩))))
def U9:ag:=(bif(yF x0)then x3 else(bif(yG x0)then⟨#[]⟩else(bif(x0==4)then x3 else(bif(yH x0)then⟨#[]⟩else(bif(x0==14)then x3 else⟨#[]⟩)))))
def U_:Int:=(bif(yF x0)then 0 else(bif(yG x0)then x4 else(bif(x0==4)then 0 else(bif(yH x0)then 0 else(bif(x0==14)then x4 else 0)))))
def tO(x1:ag)(x2:ag)(x3:ag):Bool:=(bif(x0 !=22)then(bif(!(lz x1))then true else(bif(decide (x0≥4))then(bif(decide (x0≤6))then(bif(!(lz x2))then true else(!(jP x3)))else(!(jP x3)))else(!(jP x3))))else(bif(decide (x0≥4))then(bif(decide (x0≤6))then(bif(!(lz x2))then true else(!(jP x3)))else(!(jP x3)))else(!(jP x3))))
def fO(x1:ag)(x2:ag)(x3:ag)(x4:Int):Int:=(bif(MA x0)then 3 else(bif(!((x0==x0)&&(((x1:ag).toList==((MB x0 x1):ag).toList)&&(((x2:ag).toList==((Hf x0 x2):ag).toList)&&(((x3:ag).toList==((U9 x0 x3):ag).toList)&&((x4==(U_ x0 x4))&&true))))))then 8 else(bif(tO x0 x1 x2 x3)then 1 else(bif(!(kR x4))then 2 else 0))))
def F47:Fq:=⟨[.g [kI,kS,kS,kS,kI]],fun x0 x1 x2 x3 x4=>⟨⟨none,ae (fO x0 x1 x2 x3 x4)⟩⟩⟩
theorem WU:ba 51 F47:=bf Tryz.func51
 fun(x0:Int) x1 _ x2 _ x3 _ (x4:Int)=>bj ⟨.pure,[.tmp 2],[(.t 0,kI)],⟨[U],[]⟩⟩ (.ai (.s (.j ⟨2054,[],[(.t 11,kB)],[],.f⟩ .z .z) (.ai (.j ⟨14,[],[(.h 1 1,kS),(.h 1 2,kS),(.h 1 3,kS),(.h 1 4,kI)],[.f,(.b .f (.b .f (.b .f (.b .f .l)))),(.b .f (.b .f (.b .f (.b .f (.b .f .l))))),(.b .f (.b .f (.b .f (.b .f (.b .f .l)))))],.f⟩ (.ai (.j ⟨786446,[],[(.t 19,kB)],[],.f⟩ .z (.ai (.j ⟨2147745806,[],[(.t 31,kB)],[],.f⟩ .z (.ai (.ai (.ai (.j ⟨35184372350990,[],[(.t 45,kB)],[],.f⟩ .z .z)))))))) (.ai (.s (.j ⟨39614081257132168796771975174,[.b 1],[(.t 95,kB)],[],.f⟩ .z .z) .z)))))) True (bU (aH ahi (aH Iu (aH N4 aQ)))) Tryz.func51 (trivial)
def Va:Bool:=(bif(!(xC x0))then true else(!(xC x1)))
def jG(x2:Int)(x3:ag)(x4:ag)(x5:ag)(x6:Int):Int:=(bif(x0==0)then(bif(!((x0==0)&&((x1==0)&&((x2==0)&&(((x3:ag).toList==(⟨#[]⟩:ag).toList)&&(((x4:ag).toList==(⟨#[]⟩:ag).toList)&&(((x5:ag).toList==(⟨#[]⟩:ag).toList)&&((x6==0)&&true))))))))then 8 else 0)else(bif(Va x0 x1)then 2 else(fO x2 x3 x4 x5 x6)))
def F49:Fq:=⟨[.g [kI,kI,kI,kS,kS,kS,kI]],fun x0 x1 x2 x3 x4 x5 x6=>⟨⟨none,ae (jG x0 x1 x2 x3 x4 x5 x6)⟩⟩⟩
theorem WV:ba 38 F49:=bf Tryz.func38
 fun(x0:Int) (x1:Int) (x2:Int) x3 _ x4 _ x5 _ (x6:Int)=>bj ⟨.pure,[.tmp 2],[(.t 0,kI)],⟨[U],[]⟩⟩ (.ai (.ai (.s (.j ⟨262150,[],[(.t 18,kB)],[],.f⟩ .z .z) .z))) True (bU (aH WU (aH auD aQ))) Tryz.func38 (trivial)
def af2(x2:Int)(x3:ag)(x4:ag)(x5:ag)(x6:Int):Bool:=(bif(x1 !=0)then true else(!((x2==0)&&(((x3:ag).toList==(⟨#[]⟩:ag).toList)&&(((x4:ag).toList==(⟨#[]⟩:ag).toList)&&(((x5:ag).toList==(⟨#[]⟩:ag).toList)&&((x6==0)&&true)))))))
def af3:Bool:=(bif(!(tu x0))then true else(!(tu x1)))
def Vb(x2:Int)(x3:ag)(x4:ag)(x5:ag)(x6:Int):Int:=(bif(x0==0)then(bif(af2 x1 x2 x3 x4 x5 x6)then 8 else 0)else(bif(af3 x0 x1)then 2 else(Hg x2 x3 x4 x5 x6)))
def Vd:Bool:=(bif(decide (x0<1))then true else(bif(decide (x0>1048576))then true else(bif(decide (x1<0))then true else(decide (x1>1073741824)))))
def il(x2:Bool)(x3:Int)(x4:Int)(x5:Int)(x6:ag)(x7:ag)(x8:ag)(x9:Int):Int:=(bif(Vd x0 x1)then 2 else(bif x2 then(bif(!((x3==0)&&((x4==0)&&((x5==0)&&(((x6:ag).toList==(⟨#[]⟩:ag).toList)&&(((x7:ag).toList==(⟨#[]⟩:ag).toList)&&(((x8:ag).toList==(⟨#[]⟩:ag).toList)&&((x9==0)&&true))))))))then 8 else 0)else(jG x3 x4 x5 x6 x7 x8 x9)))
def F51:Fq:=⟨[.g [kI,kI,kB,kI,kI,kI,kS,kS,kS,kI]],fun x0 x1 x2 x3 x4 x5 x6 x7 x8 x9=>⟨⟨none,ae (il x0 x1 x2 x3 x4 x5 x6 x7 x8 x9)⟩⟩⟩
theorem N8:ba 25 F51:=bf Tryz.func25
 fun(x0:Int) (x1:Int) x2 (x3:Int) (x4:Int) (x5:Int) x6 _ x7 _ x8 _ (x9:Int)=>bj ⟨.pure,[.tmp 2],[(.t 0,kI)],⟨[U],[]⟩⟩ (.ai (.s (.j ⟨1048582,[],[(.t 20,kB)],[],.f⟩ .z .z) .z)) True (bU (aH WV aQ)) Tryz.func25 (trivial)
def yI:Bool:=(bif(!(tu x0))then true else(!(kQ x1 0 1073741824)))
def tP(x2:Bool)(x3:Int)(x4:Int)(x5:Int)(x6:ag)(x7:ag)(x8:ag)(x9:Int):Int:=(bif(yI x0 x1)then 2 else(bif(!x2)then(Vb x3 x4 x5 x6 x7 x8 x9)else(bif(!((x3==0)&&((x4==0)&&((x5==0)&&(((x6:ag).toList==(⟨#[]⟩:ag).toList)&&(((x7:ag).toList==(⟨#[]⟩:ag).toList)&&(((x8:ag).toList==(⟨#[]⟩:ag).toList)&&((x9==0)&&true))))))))then 8 else 0)))
end
section
def By(x0:ag):Bool:=(decide (((x0:ag).size:Int)>20))
def akN:Fq:=⟨[.v kS],fun x0=>⟨⟨none,.bool (By x0)⟩⟩⟩
theorem auw:ba 161 akN:=bf Tryz.func161
 fun x0 _=>bj ⟨.pure,[.tmp 2],[(.t 0,kB)],⟨[U],[]⟩⟩ (.z) True fK Tryz.func161 (trivial)
def KN(x0:Sl ag):Nat→Int→Bool×Int
 |0,_=>default
 |k+1,af=>(bif(decide (af<(x0.n:Int)))then(bif(By (x0.at' (toNat af)))then(true,af)else(KN x0 k (i64.wrap (af+1))))else(false,default))
variable(x0:Sl ag)(x1:ag)(x2:Int)(x3:Sl ag)
def TV:Bool×Int:=KN x0 ((toNat ((x0.n:Int)-0))+1) 0
def aqr:Bool:=(bif(TV x0).1 then false else true)
def ad7:Int:=(bif(aqr x0)then(-1)else(TV x0).2)
def alN:Fq:=⟨[.v (.sl E9),.fn 161 []],fun x0=>⟨⟨none,ae (ad7 x0)⟩⟩⟩
theorem au6:ba 184 alN:=bf Tryz.func184
 fun x0 n0 _=>bj ⟨.pure,[.tmp 4],[(.t 0,kI)],⟨[U],[]⟩⟩ (.ai (.j ⟨16,[],[],[],.f⟩ (.ai (.lp ⟨403,[],[],[(.t 8,kI)],some 0,true,16,[],[],fun k (s:Int)=>KN x0 k s,.f,fun(s:Int)=>(0≤s∧s≤(x0.n:Int)),fun(s:Int)=>(toNat ((x0.n:Int)-s)),none⟩ .z)) .z)) (((0≤(0:Int)∧(0:Int)≤(x0.n:Int)))∧(∀(af:Int),let z8:=decide (af<(x0.n:Int));let z6:=i64.wrap (af+1);(0≤af∧af≤(x0.n:Int))→((z8=true→((0:Int)≤af∧af<(x0.n:Int)))∧(z8=true→((By (x0.at' (toNat af)))=false→((0≤z6∧z6≤(x0.n:Int))∧(toNat ((x0.n:Int)-z6))<(toNat ((x0.n:Int)-af)))))))) (bU (aH auw aQ)) Tryz.func184 (⟨(by omega),(fun af dX=>⟨(fun h2=>(by have:=ay h2;omega)),(fun h3=>(fun h4=>(by have:=ay h3;have:=aq (af+1);omega)))⟩)⟩)
def Tt:Bool:=(decide ((ad7 x0)≥0))
def akL:Fq:=⟨[.v (.sl E9),.fn 161 []],fun x0=>⟨⟨none,.bool (Tt x0)⟩⟩⟩
theorem auu:ba 160 akL:=bf Tryz.func160
 fun x0 _ _=>bj ⟨.pure,[.tmp 4],[(.t 0,kB)],⟨[U],[]⟩⟩ (.z) True (bU (aH au6 aQ)) Tryz.func160 (trivial)
def afW(x0:Int):Bool:=(bif(decide (x0<0))then true else(decide (x0>13)))
def afX:Bool:=(bif(decide (((x1:ag).size:Int)>20))then true else(decide ((x3.n:Int)>20)))
def afY:Bool:=(bif(decide (x2<(-1099511627776)))then true else(decide (x2>1099511627776)))
def yE(x0:Int)(x1:ag)(x2:Int)(x3:Sl ag):Int:=(bif(afW x0)then 3 else(bif(afX x1 x3)then 1 else(bif(Tt x3)then 1 else(bif(afY x2)then 2 else 0))))
def F42:Fq:=⟨[.g [kI,kS,kI,.sl E9]],fun x0 x1 x2 x3=>⟨⟨none,ae (yE x0 x1 x2 x3)⟩⟩⟩
theorem k42:ba 147 F42:=bf Tryz.func147
 fun(x0:Int) x1 _ (x2:Int) x3 _ _=>bj ⟨.pure,[.tmp 2],[(.t 0,kI)],⟨[U],[]⟩⟩ (.ai (.s (.j ⟨1030,[],[(.t 10,kB)],[],.f⟩ .z .z) (.s (.j ⟨1048582,[],[(.t 20,kB)],[],.f⟩ .z .z) (.ai (.s (.j ⟨2147483652,[.b 0],[(.t 31,kB)],[],.f⟩ .z .z) .z))))) True (bU (aH auu aQ)) Tryz.func147 (trivial)
end
section
def vQ(x0:Int)(x1:Int)(x2:Sl aM):Bool:=(bif(!(kQ x0 0 1048576))then true else(bif(!(kQ x1 0 1048576))then true else(bif(!((x0==0)==(x1==0)))then true else(bif(decide ((x2.n:Int)>200))then true else(decide ((i64.wrap (x0+(x2.n:Int)))>1048576))))))
variable(x0:Sl Int)(x1:Int)(x2:Sl aM)(aW:Int)
def nf:Bool:=(bif((tP (x2.at' (toNat aW)).c0 (x2.at' (toNat aW)).c1 (x2.at' (toNat aW)).c2 (x2.at' (toNat aW)).c3 (x2.at' (toNat aW)).c4 (x2.at' (toNat aW)).c5 (x2.at' (toNat aW)).c6 (x2.at' (toNat aW)).c7 (x2.at' (toNat aW)).c8 (x2.at' (toNat aW)).c9)!=0)then true else(decide ((x2.at' (toNat aW)).c0<x1)))
def oh:Bool:=(bif(decide (aW>0))then(bif(decide ((x2.at' (toNat aW)).c0<(x2.at' (toNat (i64.wrap (aW-1)))).c0))then true else(decide ((x2.at' (toNat aW)).c1<(x2.at' (toNat (i64.wrap (aW-1)))).c1)))else false)
def tR(x1:Int)(x2:Sl aM):Nat→Int→Bool×Int
 |0,_=>default
 |k+1,aW=>(bif(decide (aW<(x2.n:Int)))then(bif(nf x1 x2 aW)then(true,13)else(bif(oh x2 aW)then(true,13)else(tR x1 x2 k (i64.wrap (aW+1)))))else(false,default))
def CJ:Bool×Int:=tR x1 x2 ((toNat ((x2.n:Int)-0))+1) 0
def MC:Bool:=(bif(CJ x1 x2).1 then false else true)
def vP(x0:Int)(x1:Int)(x2:Sl aM):Int:=(bif(vQ x0 x1 x2)then 13 else(bif(MC x1 x2)then 0 else(CJ x1 x2).2))
theorem aod(x0 x1:Int)(x2:Sl aM)(h:vP x0 x1 x2=0):(0≤x0∧x0≤1048576)∧(0≤x1∧x1≤1048576)∧x2.n≤200∧x0+x2.n≤1048576:=by
 unfold vP at h
 cases hm:vQ x0 x1 x2 with
 |true=>rw[hm]at h;simp at h
 |false=>
  simp [vQ,kQ,FI]at hm;have:=aq (x0+(x2.n:Int));omega
def Bv(x0:Sl Int):Nat→Int→Sl Int→Sl Int
 |0,_,_=>default
 |k+1,af,ak=>(bif(decide (af<(x0.n:Int)))then(Bv x0 k (i64.wrap (af+1)) (Sl.app ak (Sl.lit ([(x0.at' (toNat af))]:List Int))))else ak)
def FF:Sl Int:=Bv x0 ((toNat ((x0.n:Int)-0))+1) 0 (al:Sl Int)
def Bw(x1:Sl Int):Nat→Int→Sl Int→Sl Int
 |0,_,_=>default
 |k+1,aW,dQ=>(bif(decide (aW<(x1.n:Int)))then(Bw x1 k (i64.wrap (aW+1)) (Sl.app dQ (Sl.lit ([(x1.at' (toNat aW))]:List Int))))else dQ)
def FH(x1:Sl Int):Sl Int:=Bw x1 ((toNat ((x1.n:Int)-0))+1) 0 (FF x0)
def Tn(x1:Sl Int):Sl Int:=(FH x0 x1)
theorem ahV(x0:Sl Int)(hn:x0.n≤549755813888): ∀(m:Nat) (v:Int) (s:Sl Int),0≤v→v≤x0.n→m=toNat ((x0.n:Int)-v)→((Bv x0 (m+1) v s).n:Int)=s.n+((x0.n:Int)-v)
 |0,v,s,h0,h1,hm=>by
  have: ¬v<(x0.n:Int):=by omega
  simp only[Bv,this,aDU,aCI];omega
 |m+1,v,s,h0,h1,hm=>by
  have hv:v<(x0.n:Int):=by omega
  have hw:=aq (v+1);rw[Bv];simp only[hv,aDO,aCJ];rw[hw,ahV x0 hn m (v+1) _ (by omega) (by omega) (by omega)];simp only[Sl.pz,Sl.nA,aC7,aDf];omega
theorem ahW(x0:Sl Int)(hn:x0.n≤549755813888): ∀(m:Nat) (v:Int) (s:Sl Int),0≤v→v≤x0.n→m=toNat ((x0.n:Int)-v)→((Bw x0 (m+1) v s).n:Int)=s.n+((x0.n:Int)-v)
 |0,v,s,h0,h1,hm=>by
  have: ¬v<(x0.n:Int):=by omega
  simp only[Bw,this,aDU,aCI];omega
 |m+1,v,s,h0,h1,hm=>by
  have hv:v<(x0.n:Int):=by omega
  have hw:=aq (v+1);rw[Bw];simp only[hv,aDO,aCJ];rw[hw,ahW x0 hn m (v+1) _ (by omega) (by omega) (by omega)];simp only[Sl.pz,Sl.nA,aC7,aDf];omega
theorem aw8(x0 x1:Sl Int):x0.n+x1.n≤549755813888→(Tn x0 x1).n=x0.n+x1.n:=fun h=>by
 have h1:((FF x0).n:Int)=0+((x0.n:Int)-0):=ahV x0 (by omega) _ 0 al (by omega) (by omega) rfl;have h2:((FH x0 x1).n:Int)=(FF x0).n+((x1.n:Int)-0):=ahW x1 (by omega) _ 0 _ (by omega) (by omega) rfl;show(FH x0 x1).n=_;omega
end
end Go.Proofs.YtfmgjpcmcjjoiaaGreatDoor
