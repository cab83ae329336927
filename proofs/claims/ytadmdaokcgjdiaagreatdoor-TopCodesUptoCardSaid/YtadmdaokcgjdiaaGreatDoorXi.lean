import Derived.Test.YtadmdaokcgjdiaaGreatDoorXh
open Go.IntKind (i64 u64 u8)
open Int (toNat)
set_option maxRecDepth 100000
set_option maxHeartbeats 4000000
set_option linter.all false
noncomputable section
namespace Go.af
open Go Go.RowKit
inductive dF where
 |v (k:aH)
 |g (bE:List aH)
 |r (bE:List aH)
 |fn (f:FuncId) (jx:List (List aH))
 |p (b:Nat)
 |o (b:Nat)
 |jU (f:FuncId) (cA:List Nat)
 |fC (b o:Nat)
def dF.cg:dF->List aH
 | .v k=>[k]
 | .g a=>a
 | .r a=>a
 | .fn _ b=>b.flatten
 | .p _=>[]
 | .o _=>[]
 | .jU _ _=>[]
 | .fC .. =>[]
def Eb:List (List aH)->List J->List J×List J
 |[],l=>([],l)
 |c::r,l=>match Eb r (l.drop c.length)with
  |(a,b)=>(.ref (l.take c.length)::a,b)
def fZ:List dF->List J->List J
 |[],_=>[]
 |s::r,l=>match s with
  | .v _=>l.headD .undef::fZ r l.tail
  | .g c=> .agg (l.take c.length)::fZ r (l.drop c.length)
  | .r c=> .ref (l.take c.length)::fZ r (l.drop c.length)
  | .fn f e=>match Eb e l with
    |(a,b)=> .fn f a::fZ r b
  | .p b=> .ptr b 0::fZ r l
  | .o b=> .own b 0::fZ r l
  | .jU f d=> .fn f (d.map λb=> .ptr b 0)::fZ r l
  | .fC b o=> .ptr b o::fZ r l
def Rm:J->List J
 | .agg cs=>cs
 | .ref cs=>cs
 | .ptr .. =>[]
 | .own .. =>[]
 | .fn _ a=>a.flatMap λc=>match c with
   | .ref cs=>cs
   | .ptr .. =>[]
   |x=>[x]
 |x=>[x]
@[reducible] def eh:List aH->Type 1->Type 1
  |[],α=>α
  |k::a,α=>k.ty->eh a α
def eh.ap{α:Type 1} :(a:List aH)->eh a α->List J->Option α
 |[],f,[]=>some f
 |k::a,f,x::b=>match k.rd x with
  |some v=>eh.ap a (f v) b
  |none=>none
 |_,_,_=>none
structure I0 where
 pre:Option Prop
 res:J
structure bq where
 et:List dF
 f:eh (et.flatMap dF.cg) (ULift I0)
def dF.cA:dF->List Bool
 | .v _=>[true]
 | .g a=>List.replicate a.length true
 | .r a=>List.replicate a.length false
 | .fn _ b=>List.replicate b.flatten.length false
 | .p _=>[]
 | .o _=>[]
 | .jU _ _=>[]
 | .fC .. =>[]
def Zk(b:Bool):(k:aH)->k.ty->Prop->Prop
 | .int _,_,p=>p
 | .bool,_,p=>p
 | .str,s,p=>match b with
   |true=>s.size<=549755813888->p
   |false=>p
 | .ab E,s,p=>match b with
   |true=>s.n<=549755813888->gk (aP E.V E.e s)->p
   |false=>p
 | .ad _,_,p=>p
def wk(a:Option Prop)(p:Prop):Prop:=
 match a with
 |none=>p
 |some q=>q->p
def I1(P:Program)(f:FuncId)(c:List dF):(a:List aH)->List Bool->eh a (ULift I0)->List J->Prop
 |[],_,F,acc=>wk F.down.pre (fo P f (fZ c acc) F.down.res)
 |k::a,b,F,acc=> ∀x:k.ty,Zk (b.headD false) k x (I1 P f c a b.tail (F x) (acc++[k.av x]))
def C1(p:Option Prop):aW:=
 match p with
 |none=> .di
 |some q=> .p q
def zN:List dF->List J->Bool
 |[],_=>true
 |s::r,l=>match s with
  | .fn f _=>match l with
    |x::a=>match x with
     | .fn g _=>match Nat.beq f g with
       |true=>zN r a
       |false=>false
     |_=>false
    |[]=>false
  | .jU f _=>match l with
    |x::a=>match x with
     | .fn g _=>match Nat.beq f g with
       |true=>zN r a
       |false=>false
     |_=>false
    |[]=>false
  | .fC _ o=>match l with
    |x::a=>match x with
     | .ptr _ b=>match Nat.beq o b with
       |true=>zN r a
       |false=>false
     |_=>false
    |[]=>false
  |_=>zN r l.tail
def bq.hd(F:bq)(aa:List J):Option (aW×J):=
 dg (zN F.et aa) (match dZ (F.et.flatMap dF.cg) (aa.flatMap Rm)with
 |some cs=>match eh.ap _ F.f cs with
  |some a=>some (.and (.e (zC aa (fZ F.et cs)) (fZ F.et cs)) (C1 a.down.pre),a.down.res)
  |none=>none
 |none=>none)
structure DR (P:Program) (f:FuncId) (s:List J->Option (aW×J)):Prop where
 xa:l1 P f
 pure: ∀args o r,s args=some (o,r)->o.holds->fo P f args r
def sW:List Bool->List J->Prop
 |b::a,c::cs=>(b=true->gk c)/\sW a cs
 |_,_=>True
def Et: ∀{cA:List Bool} {cs:List J} {d:List Bool} {e:List J},cA.length=cs.length->sW cA cs->sW d e->sW (cA++d) (cs++e)
 |[],[],_,_,_,_,h=>h
 |b::cA,c::cs,_,_,a,h,f=>⟨h.1,Et (by simpa using a) h.2 f⟩
 |[],_::_,_,_,a,_,_=>by simp at a
 |_::_,[],_,_,a,_,_=>by simp at a
def abY: ∀{cs:List J},JS cs->sW (List.replicate cs.length true) cs
 |[],_=>trivial
 |_::_,h=>⟨λ_=>h.1,abY h.2⟩
def R2: ∀(n:Nat) (cs:List J),sW (List.replicate n false) cs
 |0,_=>trivial
 |_+1,[]=>trivial
 |n+1,_::cs=>⟨λh=>(by cases h),R2 n cs⟩
def Rl: ∀(a:List (List aH)) (l:List J),(Eb a l).2=l.drop a.flatten.length
 |[],l=>by simp [Eb]
 |b::r,l=>by
  simp only[Eb,Rl r,zX,dq,wZ]
def CR: ∀{b:List aH} {c a:List J},dZ b c=some a->dZ b a=some a
 |[],[],a,h=>by cases h;rfl
 |[],_::_,_,h=>by cases h
 |_::_,[],_,h=>by cases h
 |k::b,x::c,a,h=>by
  simp only[dZ]at h
  split at h<;>try (cases h;done)
  rename_i y e
  split at h<;>try (cases h;done)
  rename_i i d
  cases h
  obtain⟨v,f,g⟩:=aH.HM e;subst f;simp only[dZ,aH.nrm,g,CR d]
def HK: ∀{a b:List aH} {l:List J},dZ (a++b) l=some l->dZ a (l.take a.length)=some (l.take a.length)/\dZ b (l.drop a.length)=some (l.drop a.length)
 |[],b,l,h=>⟨rfl,h⟩
 |k::a,b,[],h=>by cases h
 |k::a,b,x::g,h=>by
  simp only[w1,dZ]at h
  split at h<;>try (cases h;done)
  rename_i y e
  split at h<;>try (cases h;done)
  rename_i i c;simp only[g9,nn]at h;obtain⟨rfl,rfl⟩:=h;obtain⟨d,f⟩:=HK c;exact⟨by simp only[dy,List.take_succ_cons,dZ,e,d],f⟩
def ux: ∀(q:List dF) (l:List J),dZ (q.flatMap dF.cg) l=some l->JR (fZ q l)->sW (q.flatMap dF.cA) l
 |[],l,_,_=>trivial
 |s::r,l,n,h=>by
  simp only[g0]at n |-;obtain⟨i,a⟩:=HK n;have c:=wF i
  cases s with
  |v k=>
   cases l with
   |nil=>cases n
   |cons x w=>
    simp only[fZ,List.headD_cons,List.tail_cons]at h;refine Et (cA:=[true]) (cs:=[x]) rfl ⟨λ_=> ?_,trivial⟩ (ux r w a h.2);have j:=h.1;simp only[dF.cg,dy,fs,db,List.take_succ_cons,List.take_zero,dZ]at i
    split at i<;>try (cases i;done)
    rename_i y e;simp only[g9,nn,and_true]at i;subst i;obtain⟨v,u,_⟩:=aH.HM e;subst u
    cases k<;>exact j
  |g d=>
   simp only[fZ]at h;simp only[dF.cg]at c a;have j:=abY h.1;rw[c]at j;have:=Et (cA:=List.replicate d.length true) (by simp [c]) j (ux r (l.drop d.length) a h.2);rwa [qL]at this
  |r d=>
   simp only[fZ]at h;simp only[dF.cg]at c a;have:=Et (cA:=List.replicate d.length false) (cs:=l.take d.length) (by simp [c]) (R2 _ _) (ux r (l.drop d.length) a h.2);rwa [qL]at this
  |fn f m=>
   simp only[fZ]at h;simp only[dF.cg]at c a;have t:=h.2;rw[Rl]at t;have:=Et (cA:=List.replicate m.flatten.length false) (cs:=l.take m.flatten.length) (by rw[List.length_replicate,c]) (R2 _ _) (ux r (l.drop m.flatten.length) a t);rwa [qL]at this
  |p b=>exact ux r l a h.2
  |o b=>exact ux r l a h.2
  |jU f z=>exact ux r l a h.2
  |fC b o=>exact ux r l a h.2
def eh.aam{P:Program}{f:FuncId}{m:List dF} : ∀{bE:List aH} {cA:List Bool} {F:eh bE (ULift I0)} {acc cs:List J} {a:ULift I0},eh.ap bE F cs=some a->dZ bE cs=some cs->sW cA cs->I1 P f m bE cA F acc->wk a.down.pre (fo P f (fZ m (acc++cs)) a.down.res)
 |[],cA,F,acc,[],a,h,_,_,j=>by
  cases h
  rw[im];exact j
 |[],_,_,_,_::_,_,h,_,_,_=>by cases h
 |_::_,_,_,_,[],_,h,_,_,_=>by cases h
 |k::bE,cA,F,acc,x::t,a,h,d,l,j=>by
  simp only[eh.ap]at h
  split at h<;>try (cases h;done)
  rename_i v e;simp only[dZ]at d
  split at d<;>try (cases d;done)
  rename_i y g
  split at d<;>try (cases d;done)
  rename_i s n;simp only[g9,nn]at d;obtain⟨rfl,rfl⟩:=d;have r:y=k.av v:=by
   unfold aH.nrm at g;rw[e]at g
   cases g;rfl
  subst r;have o: ∀p,Zk (cA.headD false) k v p->p:=λp c=>by
   cases cA with
   |nil=>cases k<;>exact c
   |cons b cA=>
    cases b with
    |false=>cases k<;>exact c
    |true=>
     have i:=l.1 rfl
     cases k with
     |int _=>exact c
     |bool=>exact c
     |str=>exact c i.size
     |ab E=>exact c (gk.len i) i
     |ad _=>exact c
  have q:sW cA.tail s:=by
   cases cA with
   |nil=>trivial
   |cons b cA=>exact l.2
  have:=eh.aam (bE:=bE) (cA:=cA.tail) (acc:=acc++[k.av v]) h n q (o _ (j v));rwa [fk,Dz]at this
def bq.ok{P:Program}{f:FuncId}{F:bq}(l:l1 P f)(h:I1 P f F.et _ (F.et.flatMap dF.cA) F.f []):DR P f F.hd:=by
 refine⟨l,λi o r e d=> ?_⟩;unfold bq.hd at e;rw[ds]at e;replace e:=e.2
 split at e<;>try (cases e;done)
 rename_i cs k
 split at e<;>try (cases e;done)
 rename_i a j
 cases e
 have n:a6 kd i (fZ F.et cs):=Yb d.1;refine fo.aj3 ?_ n;refine fo.nD λm=> ?_;have c:=CR k;have:=eh.aam j c (ux F.et cs c m) h;have b:=d.2;unfold C1 at b
 cases g:a.down.pre with
 |none=>rw[g]at this;exact this
 |some q=>rw[g]at this b;exact this b
def JI(X:cj)(R:cT)(a:e_):Option (List J):=
 match a with
 | .nrm s=>match zE X R s with
   |some q=>some q.2
   |none=>none
 | .ret b=>some b
 |_=>none
def abF(X:cj)(R:cT)(a:e_):aW:=
 match a with
 | .nrm s=>match zE X R s with
   |some q=>q.1
   |none=> .p False
 | .ret _=> .di
 | .dead=> .di
 | .ext .. => .p False
def JQ(X:cj)(R:cT)(ms:List js)(r:i_):Option (aW×List J):=
 match r.t.prune (JI X R)with
 |some a=>match Eg R.cg ms a with
  |some q=>some (.and r.o (.and (rQ r.f (r.t.zt (abF X R))) (.es λ_:Unit=>q.1)),q.2)
  |none=>none
 |none=>none
def WP.aAe{E:Env}{c:Code}{Q R:Exit->O->Prop}{st:O}(h:WP E c R st)(l: ∀e s,R e s-> ∃b,cz E.m s b/\Q e b):WP E c Q st:=λS d ι a w m=>qI (h S d ι a w m) λe a w ⟨az,n,f,g⟩=>by
 obtain⟨b,i,j⟩:=l e n g;obtain⟨ev,k⟩:=i S d az a w f;exact⟨ev,b,k,j⟩
def akD(X:cj)(R:cT)(a:List J)(e:Exit)(s:O):Prop:=
 (match e with
  | .normal=>True
  | .ret=>True
  |_=>False)/\sC X R s a
def Er{X:cj}{R:cT}{c:Code}{st:O}{r:i_}{ms:List js}{o:aW}{w:List J}(h:JQ X R ms r=some (o,w))(F:o.holds)(G:r.o.holds->pF X R c st r):WP X.env c (akD X R w) st:=by
 unfold JQ at h
 split at h<;>try (cases h;done)
 rename_i v n
 split at h<;>try (cases h;done)
 rename_i q z
 cases h
 obtain⟨B,C,D⟩:=F;have l:=G B;have a:=T.HR (Mj C l.f);have u:v.bL.length=R.cg.length->dZ R.cg v.bL=some q.2:=λE=>Rv (o:=q.1) (cI:=q.2) z (D ()) E;refine l.wp.aAe λe s b=> ?_
 cases d:r.t.bL with
 |nrm m=>
  rw[d]at b a
  cases e<;>simp only[jT]at b<;>try exact b.elim
  simp only[abF]at a
  cases k:zE X R m with
  |none=>rw[k]at a;exact a.elim
  |some p=>
   rw[k]at a;obtain⟨A,I,j⟩:=Ym (o:=p.1) (cI:=p.2) k a;obtain⟨t',g,i⟩:=T.nf (f:=JI X R) (t:=r.t) (x:=p.2) (by rw[d];simp only[JI,k]);rw[n]at g;cases g;have:=u (by rw[i];exact wF j);rw[i,CR j]at this;have H:p.2=q.2:=jM this;exact⟨m,b,trivial,H▸A⟩
 |ret y=>
  rw[d]at b
  cases e<;>simp only[jT]at b<;>try exact b.elim
  obtain⟨I,j⟩:=l.ret y d;obtain⟨t',g,i⟩:=T.nf (f:=JI X R) (t:=r.t) (x:=y) (by rw[d];rfl);rw[n]at g;cases g;have:=u (by rw[i];exact wF j);rw[i,CR j]at this
  cases this
  exact⟨s,cz.refl _,trivial,b⟩
 |ext id m=>rw[d]at a;exact a.elim
 |dead=>exact absurd d l.live
def Xj:List J->Bool
 |[]=>false
 |[x]=>match x with
  | .dp _=>false
  | .ad .. =>false
  |_=>true
 |_=>true
noncomputable def sb(X:cj)(R:cT)(c:Code)(h:cw R.cg)(ms:List js)(st:O):aW×J:=
 match JQ X R ms (exec X R c h st)with
 |some q=>match R.md with
  | .pure=>match Xj (R.st q.2).D with
    |true=>(q.1,pr (R.st q.2).D)
    |false=>(.p False,.undef)
  | .own _=>(q.1,q.2.headD .undef)
  |_=>(.p False,.undef)
 |none=>(.p False,.undef)
def aD2: ∀{d a:List J},a6 kd d a->Xj a=true->wM (pr d) (pr a)
 |[],[],_,h=>by cases h
 |[x],[y],h,c=>by
  have b:=h.1;simp only[pr];simp only[Xj]at c
  cases x<;>cases y<;>first|exact b|(cases c;done)|(simp [kd,hg]at b;done)
 |_::_::_,_::_::_,h,_=>h
 |[],_::_,h,_=>h.elim
 |_::_,[],h,_=>h.elim
 |[_],_::_::_,h,_=>h.2.elim
 |_::_::_,[_],h,_=>h.2.elim
def aCr{X:cj}{R:cT}{f:FuncId}{b:Func}{c:Code}{h:cw R.cg}{ms:List js}{aa:List J}{r:J}{p:Prop}(t:X.env.dE)(G:X.P.funcs[f]? =some b)(F:b.body=some c)(E:R.rs=b.results.toList)
  (e:((sb X R c h ms ⟨aa++List.replicate (b.ntmps-aa.length) .undef,[]⟩).1.prop,(sb X R c h ms ⟨aa++List.replicate (b.ntmps-aa.length) .undef,[]⟩).1.hs,(sb X R c h ms ⟨aa++List.replicate (b.ntmps-aa.length) .undef,[]⟩).2)=(p,(sb X R c h ms ⟨aa++List.replicate (b.ntmps-aa.length) .undef,[]⟩).1.ia,r)) (I:p):fo X.P f aa r:=by
 generalize B:(⟨aa++List.replicate (b.ntmps-aa.length) .undef,[]⟩:O)=st at e;simp only[pz]at e;obtain⟨z,A,bk⟩:=e;have a:(sb X R c h ms st).1.holds:=aW.ok _ A (by rw[z];exact I);clear z A;unfold sb at a bk
 split at a
 .rename_i q u;rw[u]at bk;simp only at bk;obtain⟨o,y⟩:=q;simp only at a bk
  split at a
  .rename_i k;rw[k]at bk;simp only at bk
   split at a
   .rename_i i;rw[i]at bk;simp only at bk;have w:=Er u a λv=>Eo t c h st v;refine wG t G F aa r ?_;rw[B];refine w.mono λe s m=>⟨m.1,?_⟩;have d:=m.2;unfold sC at d;rw[k]at d;simp only at d;subst bk;have D:zD X.env s b.results.toList λL=>wM (pr L) (pr (R.st y).D):=by
     rw[<-E];exact d _ λM K=>aD2 K i
    cases j:pr (R.st y).D<;>rw[j]at D<;>first|exact D|skip
    revert i j;generalize (R.st y).D=l;intro i j
    match l with
    |[]=>cases i
    |[x]=>simp only[pr]at j;subst j;cases i
    |_::_::_=>cases j
   .exact a.elim
  .rename_i cR k;rw[k]at bk;simp only at bk;have w:=Er u a λv=>Eo t c h st v;refine wG t G F aa r ?_;rw[B];refine w.mono λe s m=>⟨m.1,?_⟩;have d:=m.2;unfold sC at d;rw[k]at d;simp only at d;obtain⟨n,g,H,C⟩:=d;subst H;simp only[List.headD_cons]at bk;subst bk;rw[E]at C;exact C
  .exact a.elim
 .exact a.elim
def abD:List (Nat×cR)->TypeId->Option cR
 |[],_=>none
 |(a,t)::r,T=>match Nat.beq T a with
  |true=>some t
  |false=>abD r T
abbrev ns:=List J->Option (aW×J)
def Dg:List (Nat×ns)->FuncId->List J->Option (aW×J)
 |[],_,_=>none
 |(g,s)::r,f,a=>match Nat.beq f g with
  |true=>match s a with
   |some q=>some q
   |none=>Dg r f a
  |false=>Dg r f a
def q2(P:Program):List (Nat×ns)->Prop
 |[]=>True
 |x::r=>DR P x.1 x.2/\q2 P r
def YJ{P:Program} : ∀{l:List (Nat×ns)},q2 P l-> ∀f a o r,Dg l f a=some (o,r)->l1 P f/\(o.holds->fo P f a r)
 |[],_,_,_,_,_,h=>by cases h
 |(g,s)::l,b,f,a,o,r,h=>by
  simp only[Dg]at h
  split at h
  .rename_i e;have:f=g:=eg e;subst this
   split at h
   .rename_i q c
    cases h
    exact⟨b.1.xa,b.1.pure a _ _ c⟩
   .exact YJ b.2 f a o r h
  .exact YJ b.2 f a o r h
abbrev nt:=List J->Heap->Option (aW×List J×Heap)
def Df:List (Nat×nt)->FuncId->List J->Heap->Option (aW×List J×Heap)
 |[],_,_,_=>none
 |(g,s)::r,f,a,H=>match Nat.beq f g with
  |true=>match s a H with
   |some q=>some q
   |none=>Df r f a H
  |false=>Df r f a H
structure ju (P:Program) (f:FuncId) (s:nt):Prop where
 xa:l1 P f
 call: ∀args H o rs H',s args H=some (o,rs,H')->o.holds->fL P f args H rs H'
def sI(P:Program):List (Nat×nt)->Prop
 |[]=>True
 |x::r=>ju P x.1 x.2/\sI P r
def YH{P:Program} : ∀{l:List (Nat×nt)},sI P l-> ∀f a H o rs H',Df l f a H=some (o,rs,H')->l1 P f/\(o.holds->fL P f a H rs H')
 |[],_,_,_,_,_,_,_,h=>by cases h
 |(g,s)::l,b,f,a,H,o,rs,H',h=>by
  simp only[Df]at h
  split at h
  .rename_i e;have:f=g:=eg e;subst this
   split at h
   .rename_i q c
    cases h
    exact⟨b.1.xa,b.1.call a H _ _ _ c⟩
   .exact YH b.2 f a H o rs H' h
  .exact YH b.2 f a H o rs H' h
def aDG{P:Program}{l:List (Nat×ns)}(h:q2 P l):Spec.dE P (λf i=>match Dg l f i with
  |some q=>some (some q.1.holds,q.2)
  |none=>none):=λf a j r e=>by
 simp only at e
 split at e
 .rename_i q b
  cases e
  obtain⟨c,d⟩:=YJ h f a q.1 q.2 b;exact⟨c,λg=>d g.1⟩
 .cases e
def aDF{P:Program}{l:List (Nat×nt)}(h:sI P l):w3.dE P (λf i H=>match Df l f i H with
  |some q=>some (some q.1.holds,q.2)
  |none=>none):=λf a H j rs H' e=>by
 simp only at e
 split at e
 .rename_i q b;obtain⟨q1,k,m⟩:=q
  cases e
  obtain⟨c,d⟩:=YH h f a H q1 _ _ b;exact⟨c,λg=>d g.1⟩
 .cases e
abbrev a:aH:= .int .i64
abbrev K:aH:= .bool
abbrev al:aH:= .str
noncomputable def G.rep{α:Type}(n:Nat)(x:α):G α:=⟨n,λ_=>x⟩
def G.aiP{α:Type}(n:Nat)(x:α):(G.rep n x).n=n:=rfl
def aK(s:G Int):Prop:= ∀i,0<=s.at' i/\s.at' i<=255
def aDw:J->J->Bool
 | .int k _,.int a _=>decide (k=a)
 | .bool _,.bool _=>true
 | .str _,.str _=>true
 | .arr s _ _,.arr b _ _=>Nat.beq s b
 |_,_=>false
def hs:List J->List J->Bool
 |[],[]=>true
 |x::a,y::b=>match aDw x y with
  |true=>hs a b
  |false=>false
 |_,_=>false
def R0:List (Nat×cR)->Nat->List J->Option cR
 |[],_,_=>none
 |(_,E)::r,a,cs=>match Nat.beq E.V a with
  |true=>match hs (E.e (E.d [])) cs with
   |true=>some E
   |false=>R0 r a cs
  |false=>R0 r a cs
def auS(a:List (Nat×nt))(f:Nat):Bool:=a.any λx=>Nat.beq f x.1
def cj.of(P:Program)(hW:List (Nat×bS))(xr:List (Nat×cR))(l:List (Nat×ns))(m:Nat)(a:List (Nat×nt)):cj:=⟨P,zP hW,abD xr,Dg l,m,Df a,R0 xr,auS a⟩
def cj.ahX{P:Program}{hW:List (Nat×bS)}{xr:List (Nat×cR)}{l:List (Nat×ns)}{m:Nat}{a:List (Nat×nt)}(e:P.follows .mixedOrders=true)(h:(hW.all λx=>Dj P x.1 x.2)=true)(d:(hW.all λx=>Jq P x)=true)(b:q2 P l)(c:sI P a):
  (cj.of P hW xr l m a).env.dE:=abG e h d (aDG b) (aDF c)
def Va{E:Env}(s:E.dE){f:FuncId}{b:Func}{c:Code}(y:E.P.funcs[f]? =some b)(x:b.body=some c)(aa:List J)(H:Heap)(rs:List J)(H':Heap)(B:Nat.ble H.length E.m=true)
  (z:WP E c (λe st=>(match e with
   | .normal=>True
   | .ret=>True
   |_=>False)/\wi E st b.results.toList λj=>j.length=rs.length/\cz E.m ⟨j,st.k⟩ ⟨rs,H'⟩) ⟨aa++List.replicate (b.ntmps-aa.length) .undef,H⟩):fL E.P f aa H rs H':=by
 intro S ι w j u O i;have n:=dP u (g8 B);have K:aY S ι ⟨aa++List.replicate (b.ntmps-aa.length) .undef,H⟩ {tmps:=j.toArray++Array.replicate (b.ntmps-j.toArray.size) undef,defers:=[]} w:=by
  refine⟨i.below,rfl,λt av d=> ?_,i.k,i.inj,i.fresh,i.gT,i.gW⟩;rcases fE t aa.length with h|h
  .rw[uO h]at d;obtain⟨v,k,m⟩:=i.D t av d;refine⟨v,?_,m⟩;rw[qJ (by simp;omega)];exact k
  .rw[zW h]at d;have L:t-aa.length<b.ntmps-aa.length:=by
    rcases fE (t-aa.length) (b.ntmps-aa.length)with l|l
    .exact l
    .rw[eX (by simpa using l)]at d;cases d
   rw[Za,a5 L]at d
   cases d
   exact⟨undef,by rw[Array.getElem?_append_right (by simp;omega),Array.getElem?_replicate,a5 (by simp;omega)],trivial⟩
 refine calls_of_wp y x (qI (z S n _ _ w K) λe a w' ⟨lq,st,g,C⟩=> ?_);obtain⟨o,D⟩:=C;obtain⟨N,us,p,k,m⟩:=afM s g _ _ D;have F:=Yl m;have G:aY S lq ⟨N,st.k⟩ {tmps:=us.toArray,defers:=[]} w':=by
  refine⟨g.below,rfl,λt av d=> ?_,g.k,g.inj,g.fresh,g.gT,g.gW⟩;obtain⟨v,q,r⟩:=k.get t av d;exact⟨v,by simpa using q,r⟩
 have A:us.length=rs.length:=by rw[<-k.length];exact p.1
 obtain⟨ev,I⟩:=p.2 S n lq _ w' G;have M: ∃v,(results b a.tmps).run E.P w'= .ok v w'/\ ∃us az,Ending.returned v= .returned (pack us)/\us.length=rs.length/\aY S az ⟨rs,H'⟩ {tmps:=us.toArray,defers:=[]} w':=
  ⟨_,F,us,ev,rfl,A,I⟩
 cases e<;>simp only at o<;>first|exact⟨g.defers,M⟩|exact o.elim
noncomputable def m5(X:cj)(R:cT)(c:Code)(h:cw R.cg)(ms:List js)(st:O):aW×O:=
 match JQ X R ms (exec X R c h st)with
 |some q=>match R.md with
  | .heap=>(q.1,R.st q.2)
  | .lO .. =>(q.1,R.st q.2)
  | .eR .. =>(q.1,R.st q.2)
  |_=>(.p False,st)
 |none=>(.p False,st)
def afo{X:cj}{R:cT}{f:FuncId}{g:Func}{c:Code}{h:cw R.cg}{ms:List js}{aa:List J}{H:Heap}{rs:List J}{H':Heap}{p:Prop}(j:X.env.dE)(w:X.P.funcs[f]? =some g)(v:g.body=some c)(u:R.rs=g.results.toList)(x:Nat.ble H.length X.m=true)
  (e:((m5 X R c h ms ⟨aa++List.replicate (g.ntmps-aa.length) .undef,H⟩).1.prop,(m5 X R c h ms ⟨aa++List.replicate (g.ntmps-aa.length) .undef,H⟩).1.hs,(m5 X R c h ms ⟨aa++List.replicate (g.ntmps-aa.length) .undef,H⟩).2)=(p,(m5 X R c h ms ⟨aa++List.replicate (g.ntmps-aa.length) .undef,H⟩).1.ia,⟨rs,H'⟩)) (B:p):fL X.P f aa H rs H':=by
 generalize t:(⟨aa++List.replicate (g.ntmps-aa.length) .undef,H⟩:O)=st at e;simp only[pz]at e;obtain⟨y,z,bk⟩:=e;have b:(m5 X R c h ms st).1.holds:=aW.ok _ z (by rw[y];exact B);clear y z;unfold m5 at b bk
 split at b
 .rename_i q r;rw[r]at bk;simp only at bk;obtain⟨o,C⟩:=q;simp only at b bk
  split at b
  .rename_i d;rw[d]at bk;simp only at bk;have n:=Er r b λk=>Eo j c h st k;refine Va j w v aa H rs H' x ?_;rw[t];refine n.mono λe s i=>⟨i.1,?_⟩;have a:=i.2;unfold sC at a;rw[d]at a;simp only at a;rw[bk]at a;rw[<-u];exact a _ λA l m=>⟨l,m⟩
  .rename_i d;rw[d]at bk;simp only at bk;have n:=Er r b λk=>Eo j c h st k;refine Va j w v aa H rs H' x ?_;rw[t];refine n.mono λe s i=>⟨i.1,?_⟩;have a:=i.2;unfold sC at a;rw[d]at a;simp only at a;rw[bk]at a;rw[<-u];exact a _ λA l m=>⟨l,m⟩
  .rename_i d;rw[d]at bk;simp only at bk;have n:=Er r b λk=>Eo j c h st k;refine Va j w v aa H rs H' x ?_;rw[t];refine n.mono λe s i=>⟨i.1,?_⟩;have a:=i.2;unfold sC at a;rw[d]at a;simp only at a;rw[bk]at a;rw[<-u];exact a _ λA l m=>⟨l,m⟩
  .exact b.elim
 .exact b.elim
structure pD where
 pre:Option Prop
 rs:List J
 H:Heap
structure cf where
 et:List dF
 jZ:List (Key×aH)
 jh:Heap
 f:eh (et.flatMap dF.cg++jZ.map (·.2)) (ULift pD)
def cf.heap(F:cf)(cs:List J):Heap:=(zn ⟨[],F.jh⟩ (F.jZ.map (·.1)) cs).k
def cf.dR(F:cf):Nat:=(F.et.flatMap dF.cg).length
def cf.args(F:cf)(cs:List J):List J:=(fZ F.et (cs.take F.dR)).map (C8 (F.heap (cs.drop F.dR)))
def z2(b:Bool):(k:aH)->k.ty->Prop->Prop
 | .int _,_,p=>p
 | .bool,_,p=>p
 | .str,s,p=>match b with
   |true=>s.size<=549755813888->p
   |false=>p
 | .ab _,s,p=>match b with
   |true=>s.n<=549755813888->p
   |false=>p
 | .ad _,s,p=>match b with
   |true=>s.n<=549755813888->p
   |false=>p
def DM(P:Program)(f:FuncId)(F:cf):(a:List aH)->List Bool->eh a (ULift pD)->List J->Prop
 |[],_,A,acc=>wk A.down.pre (fL P f (F.args acc) (F.heap (acc.drop F.dR)) A.down.rs A.down.H)
 |k::a,b,A,acc=> ∀x:k.ty,z2 (b.headD true) k x (DM P f F a b.tail (A x) (acc++[k.av x]))
def cf.hd(F:cf)(aa:List J)(H:Heap):Option (aW×List J×Heap):=
 dg (zN F.et aa) (match dZ (F.et.flatMap dF.cg++F.jZ.map (·.2)) (aa.flatMap Rm++getAll ⟨[],H⟩ (F.jZ.map (·.1)))with
 |some cs=>match eh.ap _ F.f cs with
  |some a=>dg (Nat.beq H.length (F.heap (cs.drop F.dR)).length&&hV H.length ⟨F.args cs,F.heap (cs.drop F.dR)⟩)
    (some (.and (kg ⟨aa,H⟩ ⟨F.args cs,F.heap (cs.drop F.dR)⟩) (.and (.e (getAll ⟨[],F.heap (cs.drop F.dR)⟩ (F.jZ.map (·.1))) (cs.drop F.dR)) (C1 a.down.pre)),a.down.rs,a.down.H))
  |none=>none
 |none=>none)
def oP(x:J):Prop:=
 match x with
 | .str s=>s.size<=dz
 | .arr _ n _=>n<=dz
 | .ad a b n _=>n<=dz\/(a=true/\b=0)
 |_=>True
def zv(x:J):Prop:=
 match x with
 | .agg cs=> ∀c∈cs,oP c
 |x=>oP x
def nE:List Bool->List J->Prop
 |a,c::cs=>(a.headD true=true->oP c)/\nE a.tail cs
 |_,[]=>True
def xx: ∀{cA:List Bool} {cs:List J} {d:List Bool} {e:List J},cA.length=cs.length->nE cA cs->nE d e->nE (cA++d) (cs++e)
 |[],[],_,_,_,_,h=>h
 |b::cA,c::cs,_,_,a,h,f=>⟨h.1,xx (by simpa using a) h.2 f⟩
 |[],_::_,_,_,a,_,_=>by simp at a
 |_::_,[],_,_,a,_,_=>by simp at a
def Es: ∀{n:Nat} {cs:List J},(∀c∈cs,oP c)->nE (List.replicate n true) cs
 |n,[],_=>by cases n<;>trivial
 |0,c::cs,h=>⟨λ_=>h c (by simp),Es (n:=0) λc a=>h c (by simp [a])⟩
 |n+1,c::cs,h=>⟨λ_=>h c (by simp),Es (n:=n) λc a=>h c (by simp [a])⟩
def R1: ∀(n:Nat) (cs:List J),cs.length=n->nE (List.replicate n false) cs
 |_,[],_=>by trivial
 |0,_::_,h=>by simp at h
 |n+1,_::cs,h=>⟨λh=>(by cases h),R1 n cs (by simpa using h)⟩
def sc: ∀(u:List dF) (l:List J),dZ (u.flatMap dF.cg) l=some l->(∀x∈fZ u l,zv x)->nE (u.flatMap dF.cA) l
 |[],l,n,_=>by
  cases l with
  |nil=>trivial
  |cons x w=>cases n
 |s::r,l,n,h=>by
  simp only[g0]at n |-;obtain⟨m,d⟩:=HK n;have i:=wF m
  cases s with
  |v k=>
   cases l with
   |nil=>cases n
   |cons x w=>
    simp only[fZ,List.headD_cons,List.tail_cons]at h;refine xx (cA:=[true]) (cs:=[x]) rfl ⟨λ_=> ?_,trivial⟩ (sc r w d λy a=>h y (by simp [a]));have t:=h x (by simp);simp only[dF.cg,dy,fs,db,List.take_succ_cons,List.take_zero,dZ]at m
    split at m<;>try (cases m;done)
    rename_i y e;simp only[g9,nn,and_true]at m;subst m;obtain⟨v,z,_⟩:=aH.HM e;subst z
    cases k<;>exact t
  |g j=>
   simp only[fZ]at h;simp only[dF.cg]at i d;have t: ∀c∈l.take j.length,oP c:=h (.agg (l.take j.length)) (by simp);have:=xx (cA:=List.replicate j.length true) (by simp [i]) (Es t) (sc r (l.drop j.length) d λy a=>h y (by simp [a]));rwa [qL]at this
  |r j=>
   simp only[fZ]at h;simp only[dF.cg]at i d;have:=xx (cA:=List.replicate j.length false) (cs:=l.take j.length) (by simp [i]) (R1 _ _ i) (sc r (l.drop j.length) d λy a=>h y (by simp [a]));rwa [qL]at this
  |fn f q=>
   simp only[fZ]at h;simp only[dF.cg]at i d;have A: ∀y∈fZ r (l.drop q.flatten.length),zv y:=λy a=>h y (by
    rw[<-Rl]at a;simp [a])
   have:=xx (cA:=List.replicate q.flatten.length false) (cs:=l.take q.flatten.length) (by rw[List.length_replicate,i]) (R1 _ _ i) (sc r (l.drop q.flatten.length) d A);rwa [qL]at this
  |p b=>exact sc r l d λy a=>h y (by simp [fZ,a])
  |o b=>exact sc r l d λy a=>h y (by simp [fZ,a])
  |jU f B=>exact sc r l d λy a=>h y (by simp [fZ,a])
  |fC b o=>exact sc r l d λy a=>h y (by simp [fZ,a])
def eh.aan{P:Program}{f:FuncId}{F:cf} : ∀{bE:List aH} {cA:List Bool} {A:eh bE (ULift pD)} {acc cs:List J} {a:ULift pD},eh.ap bE A cs=some a->dZ bE cs=some cs->nE cA cs->DM P f F bE cA A acc->wk a.down.pre (fL P f (F.args (acc++cs)) (F.heap ((acc++cs).drop F.dR)) a.down.rs a.down.H)
 |[],cA,A,acc,[],a,h,_,_,l=>by
  cases h
  rw[im];exact l
 |[],_,_,_,_::_,_,h,_,_,_=>by cases h
 |_::_,_,_,_,[],_,h,_,_,_=>by cases h
 |k::bE,cA,A,acc,x::r,a,h,c,m,l=>by
  simp only[eh.ap]at h
  split at h<;>try (cases h;done)
  rename_i v e;simp only[dZ]at c
  split at c<;>try (cases c;done)
  rename_i y i
  split at c<;>try (cases c;done)
  rename_i s n;simp only[g9,nn]at c;obtain⟨rfl,rfl⟩:=c;have q:y=k.av v:=by
   unfold aH.nrm at i;rw[e]at i
   cases i;rfl
  subst q;have o: ∀p,z2 (cA.headD true) k v p->p:=λp b=>by
   have d:=m.1
   cases j:cA.headD true with
   |false=>rw[j]at b;cases k<;>exact b
   |true=>
    rw[j]at b;have d:=d j
    cases k with
    |int _=>exact b
    |bool=>exact b
    |str=>exact b d
    |ab E=>exact b d
    |ad _=>exact b (d.resolve_right λg=>by cases g.1)
  have:=eh.aan (bE:=bE) (cA:=cA.tail) (acc:=acc++[k.av v]) h n m.2 (o _ (l v));rwa [fk,Dz]at this
def Eu{S:eb}{ι:Nat->Option Nat}{H:Heap}{w:World}{c:J}{v:Value}(h:eE S ι H w c v):oP c:=by
 cases c<;>try trivial
 .have a:a1 w (aT S ι H w) (.str _) v:=h;exact(a1.nD a).size
 .have a:a1 w (aT S ι H w) (.arr _ _ _) v:=h
  cases a1.nD a;assumption
 all_goals exact h.elim
def ah0{S:eb}{ι:Nat->Option Nat}{H:Heap}{w:World}{x:J}{v:Value}(h:bz S ι H w x v):zv x:=by
 cases x
 case agg cs=>
  obtain⟨j,_,h⟩:=h;intro c d;obtain⟨i,e⟩:=qN d;obtain⟨u,_,b⟩:=h.get i c e;exact Eu b
 case undef=>trivial
 case gone=>trivial
 case dp=>trivial
 case str s=>exact Eu (show eE S ι H w (.str s) v from h)
 case arr a n f=>exact Eu (show eE S ι H w (.arr a n f) v from h)
 case ad g a n f=>exact(show False from h).elim
 all_goals trivial
def ah1{H:Heap}{x:J}(h:zv (C8 H x)):zv x:=by
 have b: ∀c,oP (Oj H c)->oP c:=λc a=>by cases c<;>first|exact a|trivial
 cases x<;>first|exact h|trivial|skip
 intro c a;exact b c (h _ (px.2 ⟨c,a,rfl⟩))
def ab0{S:eb}{ι:Nat->Option Nat}{st:O}{a:Act}{w:World}(h:aY S ι st a w)(b o:Nat):oP (I st.k b o):=by
 have c:=h.k b o
 cases e:I st.k b o<;>rw[e]at c<;>try trivial
 .obtain⟨_,x,v,_,_,_,d⟩:=c;exact Eu (S:=S) d
 .obtain⟨_,x,v,_,_,_,d⟩:=c;exact Eu (S:=S) d
 .exact c.2.elim (λg=> .inr ⟨g.1,g.2.1⟩) λg=> .inl g.1
def cf.ok{P:Program}{f:FuncId}{F:cf}(d:l1 P f)(jZ:(F.jZ.all λk=>match k.1 with
  | .h _ _=>true
  |_=>false)=true) (h:DM P f F _ (F.et.flatMap dF.cA) F.f []):ju P f F.hd:=by
 refine⟨d,λargs H o rs H' e T=> ?_⟩;unfold cf.hd at e;rw[ds]at e;replace e:=e.2
 split at e<;>try (cases e;done)
 rename_i cs D
 split at e<;>try (cases e;done)
 rename_i a C;rw[ds]at e;obtain⟨p,e⟩:=e
 cases e
 simp only[b4]at p;obtain⟨z,N,r⟩:=T;have y:=CR D;have R:=eg p.1;intro S ι w Z v V U;obtain⟨az,t⟩:=oK z p.2 S v ι _ w U;have G:args.length=(F.args cs).length:=AP (CD (Az z)).1;obtain⟨B,NR⟩:=HK y;have I: ∀x∈fZ F.et (cs.take F.dR),zv x:=λx W=>by
  obtain⟨i,Q⟩:=qN W;obtain⟨eI,_,m⟩:=t.D i (C8 (F.heap (cs.drop F.dR)) x) (by simp [cf.args,Q]);exact ah1 (ah0 m)
 have O: ∀c∈cs.drop F.dR,oP c:=by
  have M:getAll ⟨[],F.heap (cs.drop F.dR)⟩ (F.jZ.map (·.1))=cs.drop F.dR:=N;rw[<-M];have Y: ∀(l:List (Key×aH)),(l.all λk=>match k.1 with
    | .h _ _=>true
    |_=>false)=true-> ∀c∈getAll ⟨[],F.heap (cs.drop F.dR)⟩ (l.map (·.1)),oP c:=by
   intro l
   induction l with
   |nil=>intro _ c d;simp [getAll]at d
   |cons k l u=>
    intro j c d;simp only[z1,b4]at j;simp only[IL,getAll,iI]at d;rcases d with rfl|d
    .obtain⟨X,gE⟩:=k
     cases X with
     |h b o=>exact ab0 t b o
     |_=>cases j.1
    .exact u j.2 c d
  exact Y F.jZ jZ
 have L:nE (F.et.flatMap dF.cA) cs:=by
  have E:=sc F.et (cs.take F.dR) B I;have m:nE [] (cs.drop F.dR):=by
   have:=Es (n:=0) O;exact this
  have j:=wF B;have J:(F.et.flatMap dF.cA).length=(cs.take F.dR).length:=by
   have jh: ∀et:List dF,(et.flatMap dF.cA).length=(et.flatMap dF.cg).length:=by
    intro et
    induction et with
    |nil=>rfl
    |cons s cx u=>
     simp only[g0,dq,u]
     congr 1
     cases s<;>simp [dF.cA,dF.cg]
   rw[jh];exact j.symm
  have:=xx J E m;rwa [im,qL]at this
 have g:=eh.aan C y L h;rw[qP]at g;have K:fL P f (F.args cs) (F.heap (cs.drop F.dR)) a.down.rs a.down.H:=by
  unfold C1 at r
  cases A:a.down.pre with
  |none=>rw[A]at g;exact g
  |some q=>rw[A]at g r;exact g r
 exact K S az w Z (by rw[<-R];exact v) (V.trans G) t
@[reducible] def iO:List aH->Type
  |[]=>Unit
  |k::a=>k.ty×iO a
def iO.hf:(a:List aH)->iO a->List J
 |[],_=>[]
 |k::a,s=>k.av s.1::iO.hf a s.2
def eh.pc{α:Type 1} :(b:List aH)->eh b α->iO b->α
 |[],a,_=>a
 |_::b,f,s=>eh.pc b (f s.1) s.2
def IU:(k:aH)->k.ty->Prop
 | .int _,_=>True
 | .bool,_=>True
 | .str,s=>s.size<=549755813888
 | .ab _,s=>s.n<=549755813888
 | .ad _,s=>s.n<=549755813888
def O6:(a:List aH)->iO a->Prop
 |[],_=>True
 |k::a,s=>IU k s.1/\O6 a s.2
def Zm{k:aH}{x:k.ty}{p:Prop}(h:IU k x->p):z2 true k x p:=by
 cases k<;>first|exact h trivial|exact h
def ca{i:Nat}(h:i<3):i=0\/i=1\/i=2:=by omega
structure dr where
 et:List dF
 bE:List aH
 dh:List J->Heap
 gt:Heap->List J
 f:eh (et.flatMap dF.cg++bE) (ULift pD)
def dr.dR(F:dr):Nat:=(F.et.flatMap dF.cg).length
def dr.args(F:dr)(cs:List J):List J:=(fZ F.et (cs.take F.dR)).map (C8 (F.dh (cs.drop F.dR)))
def e8(P:Program)(f:FuncId)(F:dr):(a:List aH)->List Bool->eh a (ULift pD)->List J->Prop
 |[],_,A,acc=>wk A.down.pre (fL P f (F.args acc) (F.dh (acc.drop F.dR)) A.down.rs A.down.H)
 |k::a,b,A,acc=> ∀x:k.ty,z2 (b.headD true) k x (e8 P f F a b.tail (A x) (acc++[k.av x]))
def dr.hd(F:dr)(aa:List J)(H:Heap):Option (aW×List J×Heap):=
 dg (zN F.et aa) (match dZ (F.et.flatMap dF.cg++F.bE) (aa.flatMap Rm++F.gt H)with
 |some cs=>match eh.ap _ F.f cs with
  |some a=>dg (Nat.beq H.length (F.dh (cs.drop F.dR)).length&&hV H.length ⟨F.args cs,F.dh (cs.drop F.dR)⟩)
    (some (.and (kg ⟨aa,H⟩ ⟨F.args cs,F.dh (cs.drop F.dR)⟩) (.and (.e (F.gt (F.dh (cs.drop F.dR))) (cs.drop F.dR)) (C1 a.down.pre)),a.down.rs,a.down.H))
  |none=>none
 |none=>none)
def eh.aaq{P:Program}{f:FuncId}{F:dr} : ∀{bE:List aH} {cA:List Bool} {A:eh bE (ULift pD)} {acc cs:List J} {a:ULift pD},eh.ap bE A cs=some a->dZ bE cs=some cs->nE cA cs->e8 P f F bE cA A acc->wk a.down.pre (fL P f (F.args (acc++cs)) (F.dh ((acc++cs).drop F.dR)) a.down.rs a.down.H)
 |[],cA,A,acc,[],a,h,_,_,l=>by
  cases h
  rw[im];exact l
 |[],_,_,_,_::_,_,h,_,_,_=>by cases h
 |_::_,_,_,_,[],_,h,_,_,_=>by cases h
 |k::bE,cA,A,acc,x::r,a,h,c,m,l=>by
  simp only[eh.ap]at h
  split at h<;>try (cases h;done)
  rename_i v e;simp only[dZ]at c
  split at c<;>try (cases c;done)
  rename_i y i
  split at c<;>try (cases c;done)
  rename_i s n;simp only[g9,nn]at c;obtain⟨rfl,rfl⟩:=c;have q:y=k.av v:=by
   unfold aH.nrm at i;rw[e]at i
   cases i;rfl
  subst q;have o: ∀p,z2 (cA.headD true) k v p->p:=λp b=>by
   have d:=m.1
   cases j:cA.headD true with
   |false=>rw[j]at b;cases k<;>exact b
   |true=>
    rw[j]at b;have d:=d j
    cases k with
    |int _=>exact b
    |bool=>exact b
    |str=>exact b d
    |ab E=>exact b d
    |ad _=>exact b (d.resolve_right λg=>by cases g.1)
  have:=eh.aaq (bE:=bE) (cA:=cA.tail) (acc:=acc++[k.av v]) h n m.2 (o _ (l v));rwa [fk,Dz]at this
def dr.ok{P:Program}{f:FuncId}{F:dr}(G:l1 P f)(Q: ∀H,∀c∈F.gt H,∃b o,c=I H b o)(h:e8 P f F _ (F.et.flatMap dF.cA) F.f []):ju P f F.hd:=by
 refine⟨G,λargs H o rs H' e U=> ?_⟩;unfold dr.hd at e;rw[ds]at e;replace e:=e.2
 split at e<;>try (cases e;done)
 rename_i cs z
 split at e<;>try (cases e;done)
 rename_i a y;rw[ds]at e;obtain⟨j,e⟩:=e
 cases e
 simp only[b4]at j;obtain⟨t,M,k⟩:=U;have r:=CR z;have T:=eg j.1;intro S ι w Z m W V;obtain⟨az,l⟩:=oK t j.2 S m ι _ w V;have B:args.length=(F.args cs).length:=AP (CD (Az t)).1;obtain⟨v,NR⟩:=HK r;have C: ∀x∈fZ F.et (cs.take F.dR),zv x:=λx X=>by
  obtain⟨i,O⟩:=qN X;obtain⟨eI,_,g⟩:=l.D i (C8 (F.dh (cs.drop F.dR)) x) (by simp [dr.args,O]);exact ah1 (ah0 g)
 have N: ∀c∈cs.drop F.dR,oP c:=by
  have L:F.gt (F.dh (cs.drop F.dR))=cs.drop F.dR:=M;intro c p;rw[<-L]at p;obtain⟨b,o,e⟩:=Q _ c p;rw[e];exact ab0 l b o
 have K:nE (F.et.flatMap dF.cA) cs:=by
  have A:=sc F.et (cs.take F.dR) v C;have g:nE [] (cs.drop F.dR):=by
   have:=Es (n:=0) N;exact this
  have R:=wF v;have E:(F.et.flatMap dF.cA).length=(cs.take F.dR).length:=by
   have D: ∀et:List dF,(et.flatMap dF.cA).length=(et.flatMap dF.cg).length:=by
    intro et
    induction et with
    |nil=>rfl
    |cons s cx Y=>
     simp only[g0,dq,Y]
     congr 1
     cases s<;>simp [dF.cA,dF.cg]
   rw[D];exact R.symm
  have:=xx E A g;rwa [im,qL]at this
 have d:=eh.aaq y r K h;rw[qP]at d;have J:fL P f (F.args cs) (F.dh (cs.drop F.dR)) a.down.rs a.down.H:=by
  unfold C1 at k
  cases u:a.down.pre with
  |none=>rw[u]at d;exact d
  |some q=>rw[u]at d k;exact d k
 exact J S az w Z (by rw[<-T];exact m) (W.trans B) l
def Zx{P:Program}{f:FuncId}{F:dr} : ∀{bE:List aH} {A:eh bE (ULift pD)} {acc:List J},
  (∀s:iO bE,O6 bE s->wk (eh.pc bE A s).down.pre (fL P f (F.args (acc++iO.hf bE s)) (F.dh ((acc++iO.hf bE s).drop F.dR)) (eh.pc bE A s).down.rs (eh.pc bE A s).down.H))->e8 P f F bE [] A acc
 |[],A,acc,h=>by
  have:=h () trivial;simp only[iO.hf,im]at this;exact this
 |k::bE,A,acc,h=>λx=>Zm λb=>Zx (bE:=bE) (A:=A x) (acc:=acc++[k.av x]) λs a=>by
  have:=h (x,s) ⟨b,a⟩;simp only[iO.hf,eh.pc]at this;simpa only[fk,Dz]using this
def eh.part{α:Type 1} :(b a:List aH)->eh (b++a) α->iO b->eh a α
 |[],_,f,_=>f
 |_::b,a,f,s=>eh.part b a (f s.1) s.2
def Zl:List Bool->(a:List aH)->iO a->Prop
 |_,[],_=>True
 |b,k::a,s=>(b.headD true=true->IU k s.1)/\Zl b.tail a s.2
def akz{b:Bool}{k:aH}{x:k.ty}{p:Prop}(h:(b=true->IU k x)->p):z2 b k x p:=by
 cases b with
 |true=>exact Zm λq=>h λ_=>q
 |false=>cases k<;>exact h λe=>by cases e
def jR{P:Program}{f:FuncId}{F:dr}{a:List aH} : ∀{bE:List aH} {cA:List Bool} {A:eh (bE++a) (ULift pD)} {acc:List J},
  (∀s:iO bE,Zl cA bE s->e8 P f F a (cA.drop bE.length) (eh.part bE a A s) (acc++iO.hf bE s))->e8 P f F (bE++a) cA A acc
 |[],cA,A,acc,h=>by
  have:=h () trivial;simp only[iO.hf,im,fs,List.drop_zero]at this;exact this
 |k::bE,cA,A,acc,h=>λx=>akz λc=>jR (bE:=bE) (cA:=cA.tail) (A:=A x) (acc:=acc++[k.av x]) λs b=>by
  have:=h (x,s) ⟨c,b⟩;simp only[iO.hf]at this;have e:cA.drop (k::bE).length=cA.tail.drop bE.length:=by simp
  rw[e]at this;rw[fk,Dz];exact this
end Go.af
namespace Go.Proofs.YtadmdaokcgjdiaaGreatDoor
open Go Go.RowKit Go.af
abbrev IG(n:FuncId)(F:bq):Prop:=I1 Tryz.prog n F.et _ (F.et.flatMap dF.cA) F.f []
abbrev akj(n:FuncId)(F:cf):Prop:=DM Tryz.prog n F _ (F.et.flatMap dF.cA) F.f []
abbrev gr(n:FuncId)(F:dr):Prop:=e8 Tryz.prog n F _ (F.et.flatMap dF.cA) F.f []
abbrev bx(n:FuncId)(F:bq):Prop:=DR Tryz.prog n F.hd
abbrev dV(n:FuncId)(F:cf):Prop:=ju Tryz.prog n F.hd
abbrev gu(n:FuncId)(F:dr):Prop:=ju Tryz.prog n F.hd
end Go.Proofs.YtadmdaokcgjdiaaGreatDoor
namespace Go.Proofs.YtadmdaokcgjdiaaGreatDoor
open Go Go.af
noncomputable abbrev Zp:cR:=⟨Int,inferInstance,1,bk,d3,apW⟩
noncomputable abbrev dd:cR:=⟨bt,inferInstance,2,fU,d160,apT⟩
noncomputable abbrev bV:cR:=⟨ByteArray,inferInstance,1,cU,d9,ap7⟩
noncomputable abbrev c3:cR:=⟨bG,inferInstance,2,fV,d164,apU⟩
noncomputable abbrev bp:cR:=⟨N,inferInstance,8,gU,d175,apV⟩
noncomputable abbrev bZ:cR:=⟨ar,inferInstance,7,hi,d137,apS⟩
noncomputable abbrev dk:cR:=⟨R,inferInstance,10,eo,d68,ap5⟩
noncomputable abbrev bo:cR:=⟨Int,inferInstance,1,cZ,d5,ap4⟩
noncomputable abbrev Zq:cR:=⟨(G Int),inferInstance,1,abx,d43,ap3⟩
noncomputable abbrev z6:cR:=⟨bm,inferInstance,20,RK,d122,apR⟩
noncomputable abbrev mE:cR:=⟨a7,inferInstance,10,aby,d75,ap6⟩
noncomputable abbrev O_:cR:=⟨hL,inferInstance,11,JE,abm,apZ⟩
noncomputable abbrev j_:cR:=⟨bF,inferInstance,12,JC,abk,apX⟩
noncomputable abbrev cY:cR:=⟨aU,inferInstance,2,JD,abl,apY⟩
noncomputable abbrev du:cR:=⟨hc,inferInstance,9,abw,abo,ap1⟩
noncomputable abbrev cJ:cR:=⟨aj,inferInstance,15,iQ,abn,ap0⟩
noncomputable abbrev Pd:cR:=⟨hZ,inferInstance,8,AI,nA,ap2⟩
noncomputable def xr:List (Nat×cR):=[(3,Zp),(120,dd),(9,bV),(123,c3),(117,bp),(125,bZ),(97,dk),(5,bo),(76,Zq),(155,z6),(39,mE),(51,O_),(57,j_),(93,cY),(138,du),(107,cJ),(63,Pd)]
noncomputable def aht(l:List (Nat×ns)):cj:=cj.of Tryz.prog hW xr l 0 []
def ct{l:List (Nat×ns)}(h:q2 Tryz.prog l):(aht l).env.dE:=cj.ahX mixed YQ Rt h trivial
noncomputable def ahu(m:Nat)(l:List (Nat×ns))(a:List (Nat×nt)):cj:=cj.of Tryz.prog hW xr l m a
def aAa{m:Nat}{l:List (Nat×ns)}{a:List (Nat×nt)}(h:q2 Tryz.prog l)(b:sI Tryz.prog a):(ahu m l a).env.dE:=cj.ahX mixed YQ Rt h b
noncomputable abbrev anY:cj:=aht []
def fx:anY.env.dE:=ct trivial
end Go.Proofs.YtadmdaokcgjdiaaGreatDoor
namespace Go.af
def cw.ae{R:List aH}(h:cw R):cw R:=.s .z h
def bD{X:cj}{f:FuncId}{b:Func}{c:Code}{a:List J}{r:J}(R:cT)(h:cw R.cg)(p:Prop)(d:X.env.dE)(j:X.P.funcs[f]?=some b)(k:p)(ms:List js:=[])(i:b.body=some c:=by exact rfl)(g:R.rs=b.results.toList:=by exact rfl)(e:((sb X R c h ms ⟨a++List.replicate (b.ntmps-a.length) .undef,[]⟩).1.prop,(sb X R c h ms ⟨a++List.replicate (b.ntmps-a.length) .undef,[]⟩).1.hs,(sb X R c h ms ⟨a++List.replicate (b.ntmps-a.length) .undef,[]⟩).2)=(p,(sb X R c h ms ⟨a++List.replicate (b.ntmps-a.length) .undef,[]⟩).1.ia,r):=by kernel_rfl):fo X.P f a r:=aCr d j i g e k
def dU{X:cj}{f:FuncId}{b:Func}{c:Code}{a:List J}{H:Heap}{rs:List J}{H':Heap}(R:cT)(h:cw R.cg)(p:Prop)(d:X.env.dE)(j:X.P.funcs[f]?=some b)(l:p)(ms:List js:=[])(i:b.body=some c:=by exact rfl)(g:R.rs=b.results.toList:=by exact rfl)(k:Nat.ble H.length X.m=true:=by exact rfl)(e:((m5 X R c h ms ⟨a++List.replicate (b.ntmps-a.length) .undef,H⟩).1.prop,(m5 X R c h ms ⟨a++List.replicate (b.ntmps-a.length) .undef,H⟩).1.hs,(m5 X R c h ms ⟨a++List.replicate (b.ntmps-a.length) .undef,H⟩).2)=(p,(m5 X R c h ms ⟨a++List.replicate (b.ntmps-a.length) .undef,H⟩).1.ia,⟨rs,H'⟩):=by kernel_rfl):fL X.P f a H rs H':=afo d j i g k e l
def eC{X:cj}{f:FuncId}{b:Func}{c:Code}{a:List J}{H:Heap}{rs:List J}{H':Heap}(R:cT)(h:cw R.cg)(p:Prop)(d:X.env.dE)(j:X.P.funcs[f]?=some b)(ms:List js)(k:Nat.ble H.length X.m=true)(e:((m5 X R c h ms ⟨a++List.replicate (b.ntmps-a.length) .undef,H⟩).1.prop,(m5 X R c h ms ⟨a++List.replicate (b.ntmps-a.length) .undef,H⟩).1.hs,(m5 X R c h ms ⟨a++List.replicate (b.ntmps-a.length) .undef,H⟩).2)=(p,(m5 X R c h ms ⟨a++List.replicate (b.ntmps-a.length) .undef,H⟩).1.ia,⟨rs,H'⟩))(l:p)(i:b.body=some c:=by exact rfl)(g:R.rs=b.results.toList:=by exact rfl):fL X.P f a H rs H':=afo d j i g k e l
end Go.af
namespace Go.Proofs.YtadmdaokcgjdiaaGreatDoor
open Go Go.RowKit Go.af
def aJ{n:Nat}{a:ns}{l:List (Nat×ns)}(k:DR Tryz.prog n a)(h:q2 Tryz.prog l):q2 Tryz.prog ((n,a)::l):=⟨k,h⟩
def a2:q2 Tryz.prog []:=trivial
def ay{n:Nat}{a:nt}{l:List (Nat×nt)}(k:ju Tryz.prog n a)(h:sI Tryz.prog l):sI Tryz.prog ((n,a)::l):=⟨k,h⟩
def b0:sI Tryz.prog []:=trivial
def b1(m:Nat){l:List (Nat×ns)}{a:List (Nat×nt)}(h:q2 Tryz.prog l)(b:sI Tryz.prog a):(ahu m l a).env.dE:=aAa h b
def bA{n:FuncId}{F:bq}{a:Func}{c:Code}(h:Tryz.prog.funcs[n]?=some a)(p:IG n F)(b:a.body=some c:=by exact rfl)(d:(a.name== "runtime.NumGoroutine")=false:=by kernel_rfl):bx n F:=bq.ok ⟨a,c,h,b,d⟩ p
def ea{n:FuncId}{F:cf}{a:Func}{c:Code}(h:Tryz.prog.funcs[n]?=some a)(p:akj n F)(b:a.body=some c:=by exact rfl)(e:(a.name== "runtime.NumGoroutine")=false:=by kernel_rfl)(d:(F.jZ.all λk=>match k.1 with|.h _ _=>true|_=>false)=true:=by kernel_rfl):dV n F:=cf.ok ⟨a,c,h,b,e⟩ d p
def gQ{n:FuncId}{F:dr}{a:Func}{c:Code}(e:∀H,∀c∈F.gt H,∃b o,c=I H b o)(h:Tryz.prog.funcs[n]?=some a)(p:gr n F)(d:a.body=some c:=by exact rfl)(f:(a.name== "runtime.NumGoroutine")=false:=by kernel_rfl):gu n F:=dr.ok ⟨a,c,h,d,f⟩ e p
def aBE(A:G R):fo Tryz.prog 22 [aP 10 eo A] (.ad false 10 A.n (λi=>eo (A.at' i))):=by
 refine fo.nD λb=> ?_;have c:gk (aP 10 eo A):=b.1;have e:A.n<=549755813888:=c.len;refine wG (E:=zm []) (ho trivial) Tryz.func22 rfl _ _ ?_;refine WP.step (ho trivial) ⟨[aP 10 eo A,U,.aG,U,U,U,U,U],[]⟩ (((A.n=A.n/\ ∀i,i<A.n->eo (A.at' i)=eo (A.at' i))/\((.aG:J)= .aG)/\True)/\True/\true=true) Ξ ⟨⟨⟨rfl,λ_ _=>rfl⟩,rfl,trivial⟩,trivial,rfl⟩ ?_;refine WP.Hi ⟨[aP 10 eo A,U,.aG,U,U,U,U,U],[]⟩ ?_ ?_
 .refine WP.En (T:=41) (ho (l:=[]) trivial) rfl rfl rfl rfl rfl rfl rfl rfl rfl (by show 3<8;omega) λq d=> ?_;refine WP.Ei q rfl (λh=> ?_) (λh=> ?_)
  .refine WP.step (ho trivial) ⟨[aP 10 eo A,U,.aG,U,U,U,U,U],[]⟩ (((A.n=A.n/\ ∀i,i<A.n->eo (A.at' i)=eo (A.at' i))/\((.aG:J)= .aG)/\True)/\True/\true=true) Ξ ⟨⟨⟨rfl,λ_ _=>rfl⟩,rfl,trivial⟩,trivial,rfl⟩ ?_;exact WP.qC (True/\(A.n=0)) Ξ ⟨trivial,d h⟩
  .exact WP.It (((A.n=A.n/\ ∀i,i<A.n->eo (A.at' i)=eo (A.at' i))/\((.aG:J)= .aG)/\True)/\True/\true=true) Ξ ⟨⟨⟨rfl,λ_ _=>rfl⟩,rfl,trivial⟩,trivial,rfl⟩
 .refine WP.step (ho trivial) ⟨[aP 10 eo A,U,.own 0 A.n,U,U,U,U,U],[[.ad false 10 A.n (λi=>eo (A.at' i))]]⟩ (∃h:Nat->List J,(∀i,i<0->kA (([]:List (List J)).getD i []) (h i))/\((0:Nat)=0)/\(0+A.n<=549755813888)/\ ∃a:Nat->List J,(∀i,i<0+A.n->h2 0 h (λi=>eo (A.at' i)) i=a i)/\(((A.n=A.n/\ ∀i,i<A.n->eo (A.at' i)=eo (A.at' i))/\((.own 0 (0+A.n):J)= .own 0 A.n)/\True)/\(((0+A.n=A.n/\ ∀i,i<A.n->kA (a i) (eo (A.at' i)))/\True)/\True)/\true=true)) Ξ
   ⟨λ_=>[],λi h=>absurd h (eD i),rfl,Ω,λi=>eo (A.at' i),λi _=>D0 _ _ i,⟨⟨rfl,λ_ _=>rfl⟩,(by rw[db]),trivial⟩,⟨⟨⟨db _,λ_ _=>zr _⟩,trivial⟩,trivial⟩,rfl⟩ ?_
  exact WP.qC (True/\((A.n:Nat)=A.n/\A.n=A.n/\ ∀i,i<A.n->eo (A.at' i)=eo (A.at' i))) Ξ ⟨trivial,rfl,rfl,λ_ _=>rfl⟩
def aBF(A:G Int):fo Tryz.prog 115 [aP 1 cZ A] (.ad false 1 A.n (λi=>cZ (A.at' i))):=by
 refine fo.nD λb=> ?_;have c:gk (aP 1 cZ A):=b.1;have e:A.n<=549755813888:=c.len;refine wG (E:=zm []) (ho trivial) Tryz.func115 rfl _ _ ?_;refine WP.step (ho trivial) ⟨[aP 1 cZ A,U,.aG,U,U,U,U,U],[]⟩ (((A.n=A.n/\ ∀i,i<A.n->cZ (A.at' i)=cZ (A.at' i))/\((.aG:J)= .aG)/\True)/\True/\true=true) Ξ ⟨⟨⟨rfl,λ_ _=>rfl⟩,rfl,trivial⟩,trivial,rfl⟩ ?_;refine WP.Hi ⟨[aP 1 cZ A,U,.aG,U,U,U,U,U],[]⟩ ?_ ?_
 .refine WP.En (T:=76) (ho (l:=[]) trivial) rfl rfl rfl rfl rfl rfl rfl rfl rfl (by show 3<8;omega) λq d=> ?_;refine WP.Ei q rfl (λh=> ?_) (λh=> ?_)
  .refine WP.step (ho trivial) ⟨[aP 1 cZ A,U,.aG,U,U,U,U,U],[]⟩ (((A.n=A.n/\ ∀i,i<A.n->cZ (A.at' i)=cZ (A.at' i))/\((.aG:J)= .aG)/\True)/\True/\true=true) Ξ ⟨⟨⟨rfl,λ_ _=>rfl⟩,rfl,trivial⟩,trivial,rfl⟩ ?_;exact WP.qC (True/\(A.n=0)) Ξ ⟨trivial,d h⟩
  .exact WP.It (((A.n=A.n/\ ∀i,i<A.n->cZ (A.at' i)=cZ (A.at' i))/\((.aG:J)= .aG)/\True)/\True/\true=true) Ξ ⟨⟨⟨rfl,λ_ _=>rfl⟩,rfl,trivial⟩,trivial,rfl⟩
 .refine WP.step (ho trivial) ⟨[aP 1 cZ A,U,.own 0 A.n,U,U,U,U,U],[[.ad false 1 A.n (λi=>cZ (A.at' i))]]⟩ (∃h:Nat->List J,(∀i,i<0->kA (([]:List (List J)).getD i []) (h i))/\((0:Nat)=0)/\(0+A.n<=549755813888)/\ ∃a:Nat->List J,(∀i,i<0+A.n->h2 0 h (λi=>cZ (A.at' i)) i=a i)/\(((A.n=A.n/\ ∀i,i<A.n->cZ (A.at' i)=cZ (A.at' i))/\((.own 0 (0+A.n):J)= .own 0 A.n)/\True)/\(((0+A.n=A.n/\ ∀i,i<A.n->kA (a i) (cZ (A.at' i)))/\True)/\True)/\true=true)) Ξ
   ⟨λ_=>[],λi h=>absurd h (eD i),rfl,Ω,λi=>cZ (A.at' i),λi _=>D0 _ _ i,⟨⟨rfl,λ_ _=>rfl⟩,(by rw[db]),trivial⟩,⟨⟨⟨db _,λ_ _=>zr _⟩,trivial⟩,trivial⟩,rfl⟩ ?_
  exact WP.qC (True/\((A.n:Nat)=A.n/\A.n=A.n/\ ∀i,i<A.n->cZ (A.at' i)=cZ (A.at' i))) Ξ ⟨trivial,rfl,rfl,λ_ _=>rfl⟩
def aBI(A:G bt):fo Tryz.prog 34 [aP 2 fU A] (.ad false 2 A.n (λi=>fU (A.at' i))):=by
 refine fo.nD λb=> ?_;have c:gk (aP 2 fU A):=b.1;have e:A.n<=549755813888:=c.len;refine wG (E:=zm []) (ho trivial) Tryz.func34 rfl _ _ ?_;refine WP.step (ho trivial) ⟨[aP 2 fU A,U,.aG,U,U,U,U,U],[]⟩ (((A.n=A.n/\ ∀i,i<A.n->fU (A.at' i)=fU (A.at' i))/\((.aG:J)= .aG)/\True)/\True/\true=true) Ξ ⟨⟨⟨rfl,λ_ _=>rfl⟩,rfl,trivial⟩,trivial,rfl⟩ ?_;refine WP.Hi ⟨[aP 2 fU A,U,.aG,U,U,U,U,U],[]⟩ ?_ ?_
 .refine WP.En (T:=112) (ho (l:=[]) trivial) rfl rfl rfl rfl rfl rfl rfl rfl rfl (by show 3<8;omega) λq d=> ?_;refine WP.Ei q rfl (λh=> ?_) (λh=> ?_)
  .refine WP.step (ho trivial) ⟨[aP 2 fU A,U,.aG,U,U,U,U,U],[]⟩ (((A.n=A.n/\ ∀i,i<A.n->fU (A.at' i)=fU (A.at' i))/\((.aG:J)= .aG)/\True)/\True/\true=true) Ξ ⟨⟨⟨rfl,λ_ _=>rfl⟩,rfl,trivial⟩,trivial,rfl⟩ ?_;exact WP.qC (True/\(A.n=0)) Ξ ⟨trivial,d h⟩
  .exact WP.It (((A.n=A.n/\ ∀i,i<A.n->fU (A.at' i)=fU (A.at' i))/\((.aG:J)= .aG)/\True)/\True/\true=true) Ξ ⟨⟨⟨rfl,λ_ _=>rfl⟩,rfl,trivial⟩,trivial,rfl⟩
 .refine WP.step (ho trivial) ⟨[aP 2 fU A,U,.own 0 A.n,U,U,U,U,U],[[.ad false 2 A.n (λi=>fU (A.at' i))]]⟩ (∃h:Nat->List J,(∀i,i<0->kA (([]:List (List J)).getD i []) (h i))/\((0:Nat)=0)/\(0+A.n<=549755813888)/\ ∃a:Nat->List J,(∀i,i<0+A.n->h2 0 h (λi=>fU (A.at' i)) i=a i)/\(((A.n=A.n/\ ∀i,i<A.n->fU (A.at' i)=fU (A.at' i))/\((.own 0 (0+A.n):J)= .own 0 A.n)/\True)/\(((0+A.n=A.n/\ ∀i,i<A.n->kA (a i) (fU (A.at' i)))/\True)/\True)/\true=true)) Ξ
   ⟨λ_=>[],λi h=>absurd h (eD i),rfl,Ω,λi=>fU (A.at' i),λi _=>D0 _ _ i,⟨⟨rfl,λ_ _=>rfl⟩,(by rw[db]),trivial⟩,⟨⟨⟨db _,λ_ _=>zr _⟩,trivial⟩,trivial⟩,rfl⟩ ?_
  exact WP.qC (True/\((A.n:Nat)=A.n/\A.n=A.n/\ ∀i,i<A.n->fU (A.at' i)=fU (A.at' i))) Ξ ⟨trivial,rfl,rfl,λ_ _=>rfl⟩
def aBJ(A:G u):fo Tryz.prog 19 [aP 1 cU A] (.ad false 1 A.n (λi=>cU (A.at' i))):=by
 refine fo.nD λb=> ?_;have c:gk (aP 1 cU A):=b.1;have e:A.n<=549755813888:=c.len;refine wG (E:=zm []) (ho trivial) Tryz.func19 rfl _ _ ?_;refine WP.step (ho trivial) ⟨[aP 1 cU A,U,.aG,U,U,U,U,U],[]⟩ (((A.n=A.n/\ ∀i,i<A.n->cU (A.at' i)=cU (A.at' i))/\((.aG:J)= .aG)/\True)/\True/\true=true) Ξ ⟨⟨⟨rfl,λ_ _=>rfl⟩,rfl,trivial⟩,trivial,rfl⟩ ?_;refine WP.Hi ⟨[aP 1 cU A,U,.aG,U,U,U,U,U],[]⟩ ?_ ?_
 .refine WP.En (T:=53) (ho (l:=[]) trivial) rfl rfl rfl rfl rfl rfl rfl rfl rfl (by show 3<8;omega) λq d=> ?_;refine WP.Ei q rfl (λh=> ?_) (λh=> ?_)
  .refine WP.step (ho trivial) ⟨[aP 1 cU A,U,.aG,U,U,U,U,U],[]⟩ (((A.n=A.n/\ ∀i,i<A.n->cU (A.at' i)=cU (A.at' i))/\((.aG:J)= .aG)/\True)/\True/\true=true) Ξ ⟨⟨⟨rfl,λ_ _=>rfl⟩,rfl,trivial⟩,trivial,rfl⟩ ?_;exact WP.qC (True/\(A.n=0)) Ξ ⟨trivial,d h⟩
  .exact WP.It (((A.n=A.n/\ ∀i,i<A.n->cU (A.at' i)=cU (A.at' i))/\((.aG:J)= .aG)/\True)/\True/\true=true) Ξ ⟨⟨⟨rfl,λ_ _=>rfl⟩,rfl,trivial⟩,trivial,rfl⟩
 .refine WP.step (ho trivial) ⟨[aP 1 cU A,U,.own 0 A.n,U,U,U,U,U],[[.ad false 1 A.n (λi=>cU (A.at' i))]]⟩ (∃h:Nat->List J,(∀i,i<0->kA (([]:List (List J)).getD i []) (h i))/\((0:Nat)=0)/\(0+A.n<=549755813888)/\ ∃a:Nat->List J,(∀i,i<0+A.n->h2 0 h (λi=>cU (A.at' i)) i=a i)/\(((A.n=A.n/\ ∀i,i<A.n->cU (A.at' i)=cU (A.at' i))/\((.own 0 (0+A.n):J)= .own 0 A.n)/\True)/\(((0+A.n=A.n/\ ∀i,i<A.n->kA (a i) (cU (A.at' i)))/\True)/\True)/\true=true)) Ξ
   ⟨λ_=>[],λi h=>absurd h (eD i),rfl,Ω,λi=>cU (A.at' i),λi _=>D0 _ _ i,⟨⟨rfl,λ_ _=>rfl⟩,(by rw[db]),trivial⟩,⟨⟨⟨db _,λ_ _=>zr _⟩,trivial⟩,trivial⟩,rfl⟩ ?_
  exact WP.qC (True/\((A.n:Nat)=A.n/\A.n=A.n/\ ∀i,i<A.n->cU (A.at' i)=cU (A.at' i))) Ξ ⟨trivial,rfl,rfl,λ_ _=>rfl⟩
def aBK(A:G bG):fo Tryz.prog 35 [aP 2 fV A] (.ad false 2 A.n (λi=>fV (A.at' i))):=by
 refine fo.nD λb=> ?_;have c:gk (aP 2 fV A):=b.1;have e:A.n<=549755813888:=c.len;refine wG (E:=zm []) (ho trivial) Tryz.func35 rfl _ _ ?_;refine WP.step (ho trivial) ⟨[aP 2 fV A,U,.aG,U,U,U,U,U],[]⟩ (((A.n=A.n/\ ∀i,i<A.n->fV (A.at' i)=fV (A.at' i))/\((.aG:J)= .aG)/\True)/\True/\true=true) Ξ ⟨⟨⟨rfl,λ_ _=>rfl⟩,rfl,trivial⟩,trivial,rfl⟩ ?_;refine WP.Hi ⟨[aP 2 fV A,U,.aG,U,U,U,U,U],[]⟩ ?_ ?_
 .refine WP.En (T:=113) (ho (l:=[]) trivial) rfl rfl rfl rfl rfl rfl rfl rfl rfl (by show 3<8;omega) λq d=> ?_;refine WP.Ei q rfl (λh=> ?_) (λh=> ?_)
  .refine WP.step (ho trivial) ⟨[aP 2 fV A,U,.aG,U,U,U,U,U],[]⟩ (((A.n=A.n/\ ∀i,i<A.n->fV (A.at' i)=fV (A.at' i))/\((.aG:J)= .aG)/\True)/\True/\true=true) Ξ ⟨⟨⟨rfl,λ_ _=>rfl⟩,rfl,trivial⟩,trivial,rfl⟩ ?_;exact WP.qC (True/\(A.n=0)) Ξ ⟨trivial,d h⟩
  .exact WP.It (((A.n=A.n/\ ∀i,i<A.n->fV (A.at' i)=fV (A.at' i))/\((.aG:J)= .aG)/\True)/\True/\true=true) Ξ ⟨⟨⟨rfl,λ_ _=>rfl⟩,rfl,trivial⟩,trivial,rfl⟩
 .refine WP.step (ho trivial) ⟨[aP 2 fV A,U,.own 0 A.n,U,U,U,U,U],[[.ad false 2 A.n (λi=>fV (A.at' i))]]⟩ (∃h:Nat->List J,(∀i,i<0->kA (([]:List (List J)).getD i []) (h i))/\((0:Nat)=0)/\(0+A.n<=549755813888)/\ ∃a:Nat->List J,(∀i,i<0+A.n->h2 0 h (λi=>fV (A.at' i)) i=a i)/\(((A.n=A.n/\ ∀i,i<A.n->fV (A.at' i)=fV (A.at' i))/\((.own 0 (0+A.n):J)= .own 0 A.n)/\True)/\(((0+A.n=A.n/\ ∀i,i<A.n->kA (a i) (fV (A.at' i)))/\True)/\True)/\true=true)) Ξ
   ⟨λ_=>[],λi h=>absurd h (eD i),rfl,Ω,λi=>fV (A.at' i),λi _=>D0 _ _ i,⟨⟨rfl,λ_ _=>rfl⟩,(by rw[db]),trivial⟩,⟨⟨⟨db _,λ_ _=>zr _⟩,trivial⟩,trivial⟩,rfl⟩ ?_
  exact WP.qC (True/\((A.n:Nat)=A.n/\A.n=A.n/\ ∀i,i<A.n->fV (A.at' i)=fV (A.at' i))) Ξ ⟨trivial,rfl,rfl,λ_ _=>rfl⟩
def ak_:bq:=⟨[.v (.ab dk)],λA=>⟨⟨none,(aH.ad dk).av A⟩⟩⟩
def Cz:bx 22 ak_:=bA Tryz.func22 λA _ _=>aBE A
def alz:bq:=⟨[.v (.ab bo)],λA=>⟨⟨none,(aH.ad bo).av A⟩⟩⟩
def ago:bx 115 alz:=bA Tryz.func115 λA _ _=>aBF A
def amj:bq:=⟨[.v (.ab dd)],λA=>⟨⟨none,(aH.ad dd).av A⟩⟩⟩
def V2:bx 34 amj:=bA Tryz.func34 λA _ _=>aBI A
def amk:bq:=⟨[.v (.ab bV)],λA=>⟨⟨none,(aH.ad bV).av A⟩⟩⟩
def CC:bx 19 amk:=bA Tryz.func19 λA _ _=>aBJ A
def aml:bq:=⟨[.v (.ab c3)],λA=>⟨⟨none,(aH.ad c3).av A⟩⟩⟩
def V3:bx 35 aml:=bA Tryz.func35 λA _ _=>aBK A
def Bp(A g:u):Int:=Lib.compareBytes A.data.toList g.data.toList
def aAP:Extern.findNext Tryz.f199=none:=by kernel_rfl
def aqA:Extern.find Tryz.f199=some Extern.BytealgCompare.compare:=by kernel_rfl
def aBG(A g:u):fo Tryz.prog 188 [.str A,.str g] (.int .i64 (Bp A g)):=by
 refine wG (E:=zm []) (ho trivial) Tryz.func188 rfl _ _ ?_;refine WP.step (ho trivial) ⟨[.str A,.str g,U,U,U,U,U,U],[]⟩ ((((A:u)=A)/\((g:u)=g)/\True)/\True/\true=true) Ξ ⟨⟨rfl,rfl,trivial⟩,trivial,rfl⟩ ?_;refine WP.aqh (x:=A) (y:=g) (k:= .i64) (r:=Bp A g) rfl rfl rfl rfl rfl rfl rfl rfl rfl rfl rfl rfl rfl ⟨Δ,Δ⟩ ⟨by show 5<8;omega,by show 6<8;omega,by show 7<8;omega⟩ (λρ w e b c=> ?_) ?_
 .have f:=Lib.run_compareString (P:=Tryz.prog) A g w;have d:Tryz.prog.funcs[199]? =some Tryz.f199:=Tryz.func199;have a:=run_callFunc_extern (P:=Tryz.prog) d Ξ rfl aAP aqA #[.string A,.string g] w;rw[f]at a;simp [execOp,resolve,Deferred.ofValue,invoke,e,b,c];exact a
 .exact WP.qC (True/\((.int .i64 (Bp A g):J)= .int .i64 (Bp A g))) Ξ ⟨trivial,rfl⟩
def al5:bq:=⟨[.v al,.v al],λA g=>⟨⟨none,.int .i64 (Bp A g)⟩⟩⟩
def axe:bx 188 al5:=bA Tryz.func188 λA _ g _=>aBG A g
section
structure H where
 bf:Int
 up:Bool
 bs:Int
 ro:Int
 ao:Int
 b3:Int
 j:Int
 lt:Int
 li:G R
 bR:Int
 eU:Int
 fI:Int
 fi:G N
 gK:Int
 fh:G ar
 ep:Int
 dn:G N
 e1:Int
 er:G ar
 co:Int
 v0:Bool
 v1:Bool
 v2:Bool
 dO:Int
 dD:Int
 dG:Int
 hq:Int
 q1:Int
 fQ:Int
 ws:G hc
 a_:G Int
 br:Int
 bd:G aj
instance:Inhabited H:=⟨⟨default,default,default,default,default,default,default,default,default,default,default,default,default,default,default,default,default,default,default,default,default,default,default,default,default,default,default,default,default,default,default,default,default⟩⟩
structure j9 where
 q:Int
 F:Int
 z:Int
 M:u
 w:u
 C:u
 P:Int
structure aA where
 a:H
 b:H
 c:H
 ag:G aj
 told:G bF
 bh:G aU
def aA.d(C:aA)(i:Nat):H:=match i with
 |0=>C.a
 |1=>C.b
 |_=>C.c
def aA.set(C:aA)(i:Nat)(n:H):aA:=match i with
 |0=>{C with a:=n}
 |1=>{C with b:=n}
 |_=>{C with c:=n}
def aA.put(C:aA)(i:Nat)(n:H)(L:G aj)(ah:G bF)(au:G aU):aA:=match i with
 |0=>⟨n,C.b,C.c,L,ah,au⟩
 |1=>⟨C.a,n,C.c,L,ah,au⟩
 |_=>⟨C.a,C.b,n,L,ah,au⟩
def zq(o:Nat):List (Key×aH):=[(.h 0 (o+0),a),(.h 0 (o+1),K),(.h 0 (o+2),a),(.h 0 (o+3),a),(.h 0 (o+4),a),(.h 0 (o+5),a),(.h 0 (o+6),a),(.h 0 (o+7),a),(.h 0 (o+8),.ab dk),(.h 0 (o+9),a),(.h 0 (o+10),a),(.h 0 (o+11),a),(.h 0 (o+12),.ab bp),(.h 0 (o+13),a),(.h 0 (o+14),.ab bZ),(.h 0 (o+15),a),(.h 0 (o+16),.ab bp),(.h 0 (o+17),a),(.h 0 (o+18),.ab bZ),(.h 0 (o+19),a),(.h 0 (o+20),K),(.h 0 (o+21),K),(.h 0 (o+22),K),(.h 0 (o+23),a),(.h 0 (o+24),a),(.h 0 (o+25),a),(.h 0 (o+26),a),(.h 0 (o+27),a),(.h 0 (o+28),a),(.h 0 (o+30),.ab bo),(.h 0 (o+31),a)]
def aO:List Nat:=[1,2,3,4,5,6,7,8,9]
def HY(i:Nat):Nat:=match i with
 |0=>1
 |_=>0
def HZ(i:Nat):Nat:=match i with
 |2=>1
 |_=>2
variable(C:aA)(i:Nat)(ids:List Nat)(n:H)
def zx(i:Nat):List (Key×aH):=[(.h (ids.getD (2*i) 0) 0,.ad du),(.h (ids.getD (2*i+1) 0) 0,.ad cJ)]
def fT:List (Key×aH):=zq (33*i)++zq (33*HY i)++zq (33*HZ i)++zx ids i++zx ids (HY i)++zx ids (HZ i)++[(.h (ids.getD 6 0) 0,.ad cJ),(.h (ids.getD 7 0) 0,.ad j_),(.h (ids.getD 8 0) 0,.ad cY)]
def zp(n:H)(w o:Nat):List J:=[b n.bf,.bool n.up,b n.bs,b n.ro,b n.ao,b n.b3,b n.j,b n.lt,aP 10 eo n.li,b n.bR,b n.eU,b n.fI,aP 8 gU n.fi,b n.gK,aP 7 hi n.fh,b n.ep,aP 8 gU n.dn,b n.e1,aP 7 hi n.er,b n.co,.bool n.v0,.bool n.v1,.bool n.v2,b n.dO,b n.dD,b n.dG,b n.hq,b n.q1,b n.fQ,.own w (n.ws).n,aP 1 cZ n.a_,b n.br,.own o (n.bd).n]
def posOf(b:Nat):List Nat->Nat->Option Nat
 |[],_=>none
 |x::l,k=>match Nat.beq x b with
  |true=>some k
  |false=>posOf b l (k+1)
def cu(ids:List Nat)(m:Nat)(C:aA):Heap:=aA.casesOn C λa c d gl e aQ=>(zp a (ids.getD 0 0) (ids.getD 1 0)++zp c (ids.getD 2 0) (ids.getD 3 0)++zp d (ids.getD 4 0) (ids.getD 5 0)++[.own (ids.getD 6 0) gl.n,.own (ids.getD 7 0) e.n,.own (ids.getD 8 0) aQ.n])::
 (List.range (9+m)).map λb=>match posOf (b+1) ids 0 with
  |some p=>[([(aH.ad du).av a.ws,(aH.ad cJ).av a.bd,(aH.ad du).av c.ws,(aH.ad cJ).av c.bd,(aH.ad du).av d.ws,(aH.ad cJ).av d.bd,(aH.ad cJ).av gl,(aH.ad j_).av e,(aH.ad cY).av aQ]:List J).getD p .undef]
  |none=>[dB]
def ahh:List (Nat×List J)->Nat->Option (List J)
 |[],_=>none
 |x::l,b=>match Nat.beq x.1 b with
  |true=>some x.2
  |false=>ahh l b
def cy(ids:List Nat)(m:Nat)(C:aA)(ext:List (Nat×List J)):Heap:=aA.casesOn C λa c d gl e aQ=>(zp a (ids.getD 0 0) (ids.getD 1 0)++zp c (ids.getD 2 0) (ids.getD 3 0)++zp d (ids.getD 4 0) (ids.getD 5 0)++[.own (ids.getD 6 0) gl.n,.own (ids.getD 7 0) e.n,.own (ids.getD 8 0) aQ.n])::
 (List.range (9+m)).map λb=>match posOf (b+1) ids 0 with
  |some p=>[([(aH.ad du).av a.ws,(aH.ad cJ).av a.bd,(aH.ad du).av c.ws,(aH.ad cJ).av c.bd,(aH.ad du).av d.ws,(aH.ad cJ).av d.bd,(aH.ad cJ).av gl,(aH.ad j_).av e,(aH.ad cY).av aQ]:List J).getD p .undef]
  |none=>match ahh ext (b+1)with
   |some l=>l
   |none=>match Nat.ble b 8 with
    |true=>[dB]
    |false=>[]
abbrev ck:List aH:=[a,K,a,a,a,a,a,a,.ab dk,a,a,a,.ab bp,a,.ab bZ,a,.ab bp,a,.ab bZ,a,K,K,K,a,a,a,a,a,a,.ab bo,a,a,K,a,a,a,a,a,a,.ab dk,a,a,a,.ab bp,a,.ab bZ,a,.ab bp,a,.ab bZ,a,K,K,K,a,a,a,a,a,a,.ab bo,a,a,K,a,a,a,a,a,a,.ab dk,a,a,a,.ab bp,a,.ab bZ,a,.ab bp,a,.ab bZ,a,K,K,K,a,a,a,a,a,a,.ab bo,a,.ad du,.ad cJ,.ad du,.ad cJ,.ad du,.ad cJ,.ad cJ,.ad j_,.ad cY]
def cP{α:Type 1}(G:aA->α):eh ck α:=λa b o z L W h1 kc l4 a9 c f g h i j k l m n p q r s t u v w x y A B C D E F H I J K M N O P Q R S T U V X Y Z Qe Qf Qg Qh Qi Qj Qk Ql Qm Qn Qo Qp Qq Qr Qs Qt Qu Qv Qw Qx Qy Qz QA QB QC QD QE QF QG QH QI QJ QK QL QM QN QO QP QQ QR QS QT QU QV QW QX QY d e=>G ⟨⟨a,b,o,z,L,W,h1,kc,l4,a9,c,f,g,h,i,j,k,l,m,n,p,q,r,s,t,u,v,w,x,QS,y,A,QT⟩,⟨B,C,D,E,F,H,I,J,K,M,N,O,P,Q,R,S,T,U,V,X,Y,Z,Qe,Qf,Qg,Qh,Qi,Qj,Qk,QU,Ql,Qm,QV⟩,⟨Qn,Qo,Qp,Qq,Qr,Qs,Qt,Qu,Qv,Qw,Qx,Qy,Qz,QA,QB,QC,QD,QE,QF,QG,QH,QI,QJ,QK,QL,QM,QN,QO,QP,QW,QQ,QR,QX⟩,QY,d,e⟩
def Vh:iO ck:=(C.a.bf,C.a.up,C.a.bs,C.a.ro,C.a.ao,C.a.b3,C.a.j,C.a.lt,C.a.li,C.a.bR,C.a.eU,C.a.fI,C.a.fi,C.a.gK,C.a.fh,C.a.ep,C.a.dn,C.a.e1,C.a.er,C.a.co,C.a.v0,C.a.v1,C.a.v2,C.a.dO,C.a.dD,C.a.dG,C.a.hq,C.a.q1,C.a.fQ,C.a.a_,C.a.br,C.b.bf,C.b.up,C.b.bs,C.b.ro,C.b.ao,C.b.b3,C.b.j,C.b.lt,C.b.li,C.b.bR,C.b.eU,C.b.fI,C.b.fi,C.b.gK,C.b.fh,C.b.ep,C.b.dn,C.b.e1,C.b.er,C.b.co,C.b.v0,C.b.v1,C.b.v2,C.b.dO,C.b.dD,C.b.dG,C.b.hq,C.b.q1,C.b.fQ,C.b.a_,C.b.br,C.c.bf,C.c.up,C.c.bs,C.c.ro,C.c.ao,C.c.b3,C.c.j,C.c.lt,C.c.li,C.c.bR,C.c.eU,C.c.fI,C.c.fi,C.c.gK,C.c.fh,C.c.ep,C.c.dn,C.c.e1,C.c.er,C.c.co,C.c.v0,C.c.v1,C.c.v2,C.c.dO,C.c.dD,C.c.dG,C.c.hq,C.c.q1,C.c.fQ,C.c.a_,C.c.br,C.a.ws,C.a.bd,C.b.ws,C.b.bd,C.c.ws,C.c.bd,C.ag,C.told,C.bh,())
def RC(s:iO ck):aA:=match s with
 |(a,b,o,A,L,W,h1,kc,l4,a9,c,f,g,h,i,j,k,l,m,n,p,q,r,t,u,v,w,x,y,z,B,C,D,E,F,G,H,I,J,K,M,N,O,P,Q,R,S,T,U,V,X,Y,Z,Qe,Qf,Qg,Qh,Qi,Qj,Qk,Ql,Qm,Qn,Qo,Qp,Qq,Qr,Qs,Qt,Qu,Qv,Qw,Qx,Qy,Qz,QA,QB,QC,QD,QE,QF,QG,QH,QI,QJ,QK,QL,QM,QN,QO,QP,QQ,QR,QS,QT,QU,QV,QW,QX,QY,d,e,_)=>⟨⟨a,b,o,A,L,W,h1,kc,l4,a9,c,f,g,h,i,j,k,l,m,n,p,q,r,t,u,v,w,x,y,QS,z,B,QT⟩,⟨C,D,E,F,G,H,I,J,K,M,N,O,P,Q,R,S,T,U,V,X,Y,Z,Qe,Qf,Qg,Qh,Qi,Qj,Qk,QU,Ql,Qm,QV⟩,⟨Qn,Qo,Qp,Qq,Qr,Qs,Qt,Qu,Qv,Qw,Qx,Qy,Qz,QA,QB,QC,QD,QE,QF,QG,QH,QI,QJ,QK,QL,QM,QN,QO,QP,QW,QQ,QR,QX⟩,QY,d,e⟩
def ix:List J:=iO.hf ck (Vh C)
def afv(s:iO ck):Vh (RC s)=s:=rfl
def auF{α:Type 1}(G:aA->α)(s:iO ck):eh.pc ck (cP G) s=G (RC s):=by kernel_rfl
def fS(n:H):Prop:=n.li.n<=549755813888/\n.fi.n<=549755813888/\n.fh.n<=549755813888/\n.dn.n<=549755813888/\n.er.n<=549755813888/\n.ws.n<=549755813888/\n.a_.n<=549755813888/\n.bd.n<=549755813888
def eP(C:aA):Prop:=fS C.a/\fS C.b/\fS C.c/\C.ag.n<=549755813888/\C.told.n<=549755813888/\C.bh.n<=549755813888
def apt(C:aA)(h:O6 ck (Vh C)):eP C:=by
 have h:True/\True/\True/\True/\True/\True/\True/\True/\C.a.li.n<=549755813888/\True/\True/\True/\C.a.fi.n<=549755813888/\True/\C.a.fh.n<=549755813888/\True/\C.a.dn.n<=549755813888/\True/\C.a.er.n<=549755813888/\True/\True/\True/\True/\True/\True/\True/\True/\True/\True/\C.a.a_.n<=549755813888/\True/\True/\True/\True/\True/\True/\True/\True/\True/\C.b.li.n<=549755813888/\True/\True/\True/\C.b.fi.n<=549755813888/\True/\C.b.fh.n<=549755813888/\True/\C.b.dn.n<=549755813888/\True/\C.b.er.n<=549755813888/\True/\True/\True/\True/\True/\True/\True/\True/\True/\True/\C.b.a_.n<=549755813888/\True/\True/\True/\True/\True/\True/\True/\True/\True/\C.c.li.n<=549755813888/\True/\True/\True/\C.c.fi.n<=549755813888/\True/\C.c.fh.n<=549755813888/\True/\C.c.dn.n<=549755813888/\True/\C.c.er.n<=549755813888/\True/\True/\True/\True/\True/\True/\True/\True/\True/\True/\C.c.a_.n<=549755813888/\True/\C.a.ws.n<=549755813888/\C.a.bd.n<=549755813888/\C.b.ws.n<=549755813888/\C.b.bd.n<=549755813888/\C.c.ws.n<=549755813888/\C.c.bd.n<=549755813888/\C.ag.n<=549755813888/\C.told.n<=549755813888/\C.bh.n<=549755813888/\True:=h;obtain⟨_,_,_,_,_,_,_,_,s,_,_,_,c,_,d,_,e,_,f,_,_,_,_,_,_,_,_,_,_,g,_,_,_,_,_,_,_,_,_,i,_,_,_,j,_,k,_,l,_,m,_,_,_,_,_,_,_,_,_,_,n,_,_,_,_,_,_,_,_,_,o,_,_,_,p,_,q,_,r,_,t,_,_,_,_,_,_,_,_,_,_,u,_,v,w,x,y,z,A,B,a,b,_⟩:=h;exact⟨⟨s,c,d,e,f,v,g,w⟩,⟨i,j,k,l,m,x,n,y⟩,⟨o,p,q,r,t,z,u,A⟩,B,a,b⟩
def g4{C:aA}(h:eP C): ∀i,i<3->fS (C.d i):=by
 intro i a;rcases ca a with rfl|rfl|rfl
 .exact h.1
 .exact h.2.1
 .exact h.2.2.1
def H2:J->Nat
 | .ad _ _ n _=>n
 |_=>0
def WL(l:List J)(w o:J)(b a:Nat):List J:=l.take 29++ .own b (H2 w)::((l.drop 29).take 2++[.own a (H2 o)])
def xk(ids:List Nat)(m:Nat)(a b c w:List J):Heap:=
 (WL a (w.getD 0 .undef) (w.getD 1 .undef) (ids.getD 0 0) (ids.getD 1 0)++WL b (w.getD 2 .undef) (w.getD 3 .undef) (ids.getD 2 0) (ids.getD 3 0)++WL c (w.getD 4 .undef) (w.getD 5 .undef) (ids.getD 4 0) (ids.getD 5 0)++[.own (ids.getD 6 0) (H2 (w.getD 6 .undef)),.own (ids.getD 7 0) (H2 (w.getD 7 .undef)),.own (ids.getD 8 0) (H2 (w.getD 8 .undef))])::
 (List.range (9+m)).map λb=>match posOf (b+1) ids 0 with
  |some p=>[w.getD p .undef]
  |none=>[dB]
def e0(cs:List J):Heap:=xk aO 0 (cs.take 31) ((cs.drop 31).take 31) ((cs.drop 62).take 31) (cs.drop 93)
def r_(l:List J):List J:=l.take 29++(l.drop 30).take 2
def eN(H:Heap):List J:=r_ (H.getD 0 [])++(r_ ((H.getD 0 []).drop 33)++(r_ ((H.getD 0 []).drop 66)++[I H 1 0,I H 2 0,I H 3 0,I H 4 0,I H 5 0,I H 6 0,I H 7 0,I H 8 0,I H 9 0]))
def Vd{H:Heap}{c:J}(h:c∈H.getD 0 []): ∃b o,c=I H b o:=by
 obtain⟨o,a⟩:=qN h;exact⟨0,o,by
  unfold I;rw[show(H.getD 0 []).getD o J.undef=((H.getD 0 [])[o]?).getD J.undef from rfl,a];rfl⟩
def XV{l:List J}{c:J}(h:c∈r_ l):c∈l:=by
 unfold r_ at h;rcases gj.1 h with h|h
 .exact List.mem_of_mem_take h
 .exact qS (List.mem_of_mem_take h)
def gB: ∀H,∀c∈eN H,∃b o,c=I H b o:=by
 intro H c h;unfold eN at h;rcases gj.1 h with h|h
 .exact Vd (XV h)
 rcases gj.1 h with h|h
 .exact Vd (qS (XV h))
 rcases gj.1 h with h|h
 .exact Vd (qS (XV h))
 .simp only[iI,zZ,or_false]at h;rcases h with h|h|h|h|h|h|h|h|h<;>exact⟨_,_,h⟩
def OJ:List Nat->List J->List J
 |[],_=>[]
 |0::r,l=>l.headD .undef::OJ r l.tail
 |(k+1)::r,l=> .agg (l.take (k+1))::OJ r (l.drop (k+1))
def gJ(i:Nat)(ids:List Nat)(m:Nat)(c:List Nat)(b:Nat)(a:List J):O:=
 ⟨OJ c a,match a.drop b with
  |v=>match i with
   |0=>xk ids m (v.take 31) ((v.drop 31).take 31) ((v.drop 62).take 31) (v.drop 93)
   |1=>xk ids m ((v.drop 31).take 31) (v.take 31) ((v.drop 62).take 31) ((v.drop 95).take 2++((v.drop 93).take 2++v.drop 97))
   |_=>xk ids m ((v.drop 31).take 31) ((v.drop 62).take 31) (v.take 31) ((v.drop 95).take 4++((v.drop 93).take 2++v.drop 99))⟩
def aaN:J->List J
 | .agg cs=>cs
 |x=>[x]
def gF(i:Nat)(ids:List Nat)(s:O):List J:=
 s.D.flatMap aaN++(r_ ((s.k.getD 0 []).drop (33*i))++(r_ ((s.k.getD 0 []).drop (33*HY i))++(r_ ((s.k.getD 0 []).drop (33*HZ i))++
  [I s.k (ids.getD (2*i) 0) 0,I s.k (ids.getD (2*i+1) 0) 0,I s.k (ids.getD (2*HY i) 0) 0,I s.k (ids.getD (2*HY i+1) 0) 0,I s.k (ids.getD (2*HZ i) 0) 0,I s.k (ids.getD (2*HZ i+1) 0) 0,I s.k (ids.getD 6 0) 0,I s.k (ids.getD 7 0) 0,I s.k (ids.getD 8 0) 0])))
def gC{P:Program}{f:FuncId}{F:dr}{acc:List J}{G:aA->ULift pD}(h: ∀C,eP C->wk (G C).down.pre (fL P f (F.args (acc++ix C)) (F.dh ((acc++ix C).drop F.dR)) (G C).down.rs (G C).down.H)):e8 P f F ck [] (cP G) acc:=
 Zx λs b=>by
  have a:=h (RC s) (apt _ (by rw[afv];exact b));unfold ix at a;rw[afv]at a;rw[auF];exact a
def xj:List (Key×aH):=zq (33*i)++zx ids i++[(.h (ids.getD 6 0) 0,.ad cJ),(.h (ids.getD 7 0) 0,.ad j_),(.h (ids.getD 8 0) 0,.ad cY)]
abbrev sA:=Int×Bool×Int×Int×Int×Int×Int×Int×G R×Int×Int×Int×G N×Int×G ar×Int×G N×Int×G ar×Int×Bool×Bool×Bool×Int×Int×Int×Int×Int×Int×G Int×Int×G hc×G aj×G aj×G bF×G aU
def wO(n:H)(L:G aj)(ah:G bF)(au:G aU):sA:=(n.bf,n.up,n.bs,n.ro,n.ao,n.b3,n.j,n.lt,n.li,n.bR,n.eU,n.fI,n.fi,n.gK,n.fh,n.ep,n.dn,n.e1,n.er,n.co,n.v0,n.v1,n.v2,n.dO,n.dD,n.dG,n.hq,n.q1,n.fQ,n.a_,n.br,n.ws,n.bd,L,ah,au)
def HG(x:sA):H:=⟨x.1,x.2.1,x.2.2.1,x.2.2.2.1,x.2.2.2.2.1,x.2.2.2.2.2.1,x.2.2.2.2.2.2.1,x.2.2.2.2.2.2.2.1,x.2.2.2.2.2.2.2.2.1,x.2.2.2.2.2.2.2.2.2.1,x.2.2.2.2.2.2.2.2.2.2.1,x.2.2.2.2.2.2.2.2.2.2.2.1,x.2.2.2.2.2.2.2.2.2.2.2.2.1,x.2.2.2.2.2.2.2.2.2.2.2.2.2.1,x.2.2.2.2.2.2.2.2.2.2.2.2.2.2.1,x.2.2.2.2.2.2.2.2.2.2.2.2.2.2.2.1,x.2.2.2.2.2.2.2.2.2.2.2.2.2.2.2.2.1,x.2.2.2.2.2.2.2.2.2.2.2.2.2.2.2.2.2.1,x.2.2.2.2.2.2.2.2.2.2.2.2.2.2.2.2.2.2.1,x.2.2.2.2.2.2.2.2.2.2.2.2.2.2.2.2.2.2.2.1,x.2.2.2.2.2.2.2.2.2.2.2.2.2.2.2.2.2.2.2.2.1,x.2.2.2.2.2.2.2.2.2.2.2.2.2.2.2.2.2.2.2.2.2.1,x.2.2.2.2.2.2.2.2.2.2.2.2.2.2.2.2.2.2.2.2.2.2.1,x.2.2.2.2.2.2.2.2.2.2.2.2.2.2.2.2.2.2.2.2.2.2.2.1,x.2.2.2.2.2.2.2.2.2.2.2.2.2.2.2.2.2.2.2.2.2.2.2.2.1,x.2.2.2.2.2.2.2.2.2.2.2.2.2.2.2.2.2.2.2.2.2.2.2.2.2.1,x.2.2.2.2.2.2.2.2.2.2.2.2.2.2.2.2.2.2.2.2.2.2.2.2.2.2.1,x.2.2.2.2.2.2.2.2.2.2.2.2.2.2.2.2.2.2.2.2.2.2.2.2.2.2.2.1,x.2.2.2.2.2.2.2.2.2.2.2.2.2.2.2.2.2.2.2.2.2.2.2.2.2.2.2.2.1,x.2.2.2.2.2.2.2.2.2.2.2.2.2.2.2.2.2.2.2.2.2.2.2.2.2.2.2.2.2.2.2.1,x.2.2.2.2.2.2.2.2.2.2.2.2.2.2.2.2.2.2.2.2.2.2.2.2.2.2.2.2.2.1,x.2.2.2.2.2.2.2.2.2.2.2.2.2.2.2.2.2.2.2.2.2.2.2.2.2.2.2.2.2.2.1,x.2.2.2.2.2.2.2.2.2.2.2.2.2.2.2.2.2.2.2.2.2.2.2.2.2.2.2.2.2.2.2.2.1⟩
def agT(x:sA):G aj:=x.2.2.2.2.2.2.2.2.2.2.2.2.2.2.2.2.2.2.2.2.2.2.2.2.2.2.2.2.2.2.2.2.2.1
def agX(x:sA):G bF:=x.2.2.2.2.2.2.2.2.2.2.2.2.2.2.2.2.2.2.2.2.2.2.2.2.2.2.2.2.2.2.2.2.2.2.1
def agW(x:sA):G aU:=x.2.2.2.2.2.2.2.2.2.2.2.2.2.2.2.2.2.2.2.2.2.2.2.2.2.2.2.2.2.2.2.2.2.2.2
def zd(i:Nat)(ids:List Nat)(s:O):List J:=
 s.D.flatMap aaN++(r_ ((s.k.getD 0 []).drop (33*i))++[I s.k (ids.getD (2*i) 0) 0,I s.k (ids.getD (2*i+1) 0) 0,I s.k (ids.getD 6 0) 0,I s.k (ids.getD 7 0) 0,I s.k (ids.getD 8 0) 0])
def CO:List J:=r_ (zp n 0 0)
def CN:List J:=[(aH.ad du).av n.ws,(aH.ad cJ).av n.bd]
def zM(i:Nat)(ids:List Nat)(m:Nat)(c:List Nat)(b:Nat)(C:aA)(a:List J):O:=
 ⟨OJ c a,match a.drop b with
  |v=>match i with
   |0=>xk ids m (v.take 31) (CO C.b) (CO C.c) ((v.drop 31).take 2++(CN C.b++(CN C.c++v.drop 33)))
   |1=>xk ids m (CO C.a) (v.take 31) (CO C.c) (CN C.a++((v.drop 31).take 2++(CN C.c++v.drop 33)))
   |_=>xk ids m (CO C.a) (CO C.b) (v.take 31) (CN C.a++(CN C.b++((v.drop 31).take 2++v.drop 33)))⟩
def H.bif(b:Bool)(x y:H):H:=⟨bif b then x.bf else y.bf,bif b then x.up else y.up,bif b then x.bs else y.bs,bif b then x.ro else y.ro,bif b then x.ao else y.ao,bif b then x.b3 else y.b3,bif b then x.j else y.j,bif b then x.lt else y.lt,bif b then x.li else y.li,bif b then x.bR else y.bR,bif b then x.eU else y.eU,bif b then x.fI else y.fI,bif b then x.fi else y.fi,bif b then x.gK else y.gK,bif b then x.fh else y.fh,bif b then x.ep else y.ep,bif b then x.dn else y.dn,bif b then x.e1 else y.e1,bif b then x.er else y.er,bif b then x.co else y.co,bif b then x.v0 else y.v0,bif b then x.v1 else y.v1,bif b then x.v2 else y.v2,bif b then x.dO else y.dO,bif b then x.dD else y.dD,bif b then x.dG else y.dG,bif b then x.hq else y.hq,bif b then x.q1 else y.q1,bif b then x.fQ else y.fQ,bif b then x.ws else y.ws,bif b then x.a_ else y.a_,bif b then x.br else y.br,bif b then x.bd else y.bd⟩
def aA.bif(b:Bool)(x y:aA):aA:=⟨H.bif b x.a y.a,H.bif b x.b y.b,H.bif b x.c y.c,bif b then x.ag else y.ag,bif b then x.told else y.told,bif b then x.bh else y.bh⟩
def H.eY(b:Bool)(x y:H):H.bif b x y=bif b then x else y:=by cases b<;>rfl
def aA.eY(b:Bool)(x y:aA):aA.bif b x y=bif b then x else y:=by cases b<;>rfl
end
section
variable(A:Int)(g:Int)(r:Int)
def EP:Bool:=(cond (decide (A>=g)) (decide (A<=r)) false)
def kl:Bool:=(EP A g r)
def oT(A:u):Bool:=(decide (((A:u).size:Int)<=20))
def Kz:Bool:=(kl A (-1099511627776) 1099511627776)
def xJ(A:u):Bool:=(kl ((A:u).size:Int) 1 12)
def EU(A:u):Bool:=(cond (decide (((A:u).size:Int)>=1)) (decide (((A:u).size:Int)<=12)) false)
def kS(A:u):Bool:=(EU A)
def akY:bq:=⟨[.v al],λA=>⟨⟨none,.bool (kS A)⟩⟩⟩
def agf:bx 68 akY:=bA Tryz.func68
 λA _=>bD ⟨.pure,[.tmp 2],[(.t 0,K)],⟨[U],[]⟩⟩ (.ae (.j ⟨4,[],[(.t 2,K)],[],.f⟩ .z .z)) True fx Tryz.func68 (trivial)
def jz(A:u):Bool:=(decide (((A:u).size:Int)<=20))
def ak3:bq:=⟨[.v al],λA=>⟨⟨none,.bool (jz A)⟩⟩⟩
def Hk:bx 69 ak3:=bA Tryz.func69
 λA _=>bD ⟨.pure,[.tmp 2],[(.t 0,K)],⟨[U],[]⟩⟩ (.z) True fx Tryz.func69 (trivial)
def EV:Bool:=(cond (decide (A>=(-1099511627776))) (decide (A<=1099511627776)) false)
def jf:Bool:=(EV A)
def ak4:bq:=⟨[.v a],λA=>⟨⟨none,.bool (jf A)⟩⟩⟩
def M_:bx 70 ak4:=bA Tryz.func70
 λ(A:Int)=>bD ⟨.pure,[.tmp 2],[(.t 0,K)],⟨[U],[]⟩⟩ (.ae (.j ⟨4,[],[(.t 2,K)],[],.f⟩ .z .z)) True fx Tryz.func70 (trivial)
def KA:Bool:=(cond (decide (A>=1)) (decide (A<=1048576)) false)
def pT:Bool:=(KA A)
def ak5:bq:=⟨[.v a],λA=>⟨⟨none,.bool (pT A)⟩⟩⟩
def awD:bx 40 ak5:=bA Tryz.func40
 λ(A:Int)=>bD ⟨.pure,[.tmp 2],[(.t 0,K)],⟨[U],[]⟩⟩ (.ae (.j ⟨4,[],[(.t 2,K)],[],.f⟩ .z .z)) True fx Tryz.func40 (trivial)
def s7:Bool:=(kl A 1 1048576)
end
section
variable(A:Int)(g:Int)(r:u)(h:u)(o:Int)
def aeB:Bool:=(cond (A==1) true (cond (A==4) true (cond (A==7) true (cond (A==8) true (kl A 11 16)))))
def Gx:Bool:=(cond (A==3) true (cond (A==14) true (A==20)))
def aeC(g:u)(r:u)(h:u)(o:Int):Bool:=(cond (!(aeB A)) (cond (!((h:u).toList==(⟨#[]⟩:u).toList)) true (cond (!(kl A 4 6)) (cond (!((r:u).toList==(⟨#[]⟩:u).toList)) true (cond (!(Gx A)) (cond (o !=0) true (cond (!(A !=22)) (!((g:u).toList==(⟨#[]⟩:u).toList)) false)) (cond (!(A !=22)) (!((g:u).toList==(⟨#[]⟩:u).toList)) false))) (cond (!(Gx A)) (cond (o !=0) true (cond (!(A !=22)) (!((g:u).toList==(⟨#[]⟩:u).toList)) false)) (cond (!(A !=22)) (!((g:u).toList==(⟨#[]⟩:u).toList)) false)))) (cond (!(kl A 4 6)) (cond (!((r:u).toList==(⟨#[]⟩:u).toList)) true (cond (!(Gx A)) (cond (o !=0) true (cond (!(A !=22)) (!((g:u).toList==(⟨#[]⟩:u).toList)) false)) (cond (!(A !=22)) (!((g:u).toList==(⟨#[]⟩:u).toList)) false))) (cond (!(Gx A)) (cond (o !=0) true (cond (!(A !=22)) (!((g:u).toList==(⟨#[]⟩:u).toList)) false)) (cond (!(A !=22)) (!((g:u).toList==(⟨#[]⟩:u).toList)) false))))
def aeD(g:u)(r:u)(h:u):Bool:=(cond (A !=22) (cond (!(xJ g)) true (cond (kl A 4 6) (cond (!(xJ r)) true (!(oT h))) (!(oT h)))) (cond (kl A 4 6) (cond (!(xJ r)) true (!(oT h))) (!(oT h))))
def Gw(g:u)(r:u)(h:u)(o:Int):Int:=(cond (!(kl A 1 22)) 3 (cond (aeC A g r h o) 8 (cond (aeD A g r h) 1 (cond (!(Kz o)) 2 0))))
def yB:Bool:=(cond (decide (A<1)) true (decide (A>22)))
def yC:Bool:=(cond (A==1) (A==1) (cond (A==7) (A==7) (cond (A==8) (A==8) (cond (A==11) (A==11) (cond (A==12) (A==12) (cond (A==13) (A==13) (cond (A==15) (A==15) (A==16))))))))
def yD:Bool:=(cond (A==3) (A==3) (A==20))
def yE:Bool:=(cond (A==5) (A==5) (A==6))
def Gv(g:u):u:=(cond (yC A) g (cond (yD A) g (cond (A==4) g (cond (yE A) g (cond (A==14) g (cond (A==22) ⟨#[]⟩ g))))))
def B6:u:=(cond (yC A) ⟨#[]⟩ (cond (yD A) ⟨#[]⟩ (cond (A==4) r (cond (yE A) r ⟨#[]⟩))))
def LW:u:=(cond (yC A) h (cond (yD A) ⟨#[]⟩ (cond (A==4) h (cond (yE A) ⟨#[]⟩ (cond (A==14) h ⟨#[]⟩)))))
def LX:Int:=(cond (yC A) 0 (cond (yD A) o (cond (A==4) 0 (cond (yE A) 0 (cond (A==14) o 0)))))
def rH(g:u)(r:u)(h:u):Bool:=(cond (A !=22) (cond (!(kS g)) true (cond (decide (A>=4)) (cond (decide (A<=6)) (cond (!(kS r)) true (!(jz h))) (!(jz h))) (!(jz h)))) (cond (decide (A>=4)) (cond (decide (A<=6)) (cond (!(kS r)) true (!(jz h))) (!(jz h))) (!(jz h))))
def fw(g:u)(r:u)(h:u)(o:Int):Int:=(cond (yB A) 3 (cond (!((A==A)&&(((g:u).toList==((Gv A g):u).toList)&&(((r:u).toList==((B6 A r):u).toList)&&(((h:u).toList==((LW A h):u).toList)&&((o==(LX A o))&&true)))))) 8 (cond (rH A g r h) 1 (cond (!(jf o)) 2 0))))
def anf:bq:=⟨[.g [a,al,al,al,a]],λA g r h o=>⟨⟨none,b (fw A g r h o)⟩⟩⟩
theorem V7:bx 41 anf:=bA Tryz.func41
 λ(A:Int) g _ r _ h _ (o:Int)=>bD ⟨.pure,[.tmp 2],[(.t 0,a)],⟨[U],[]⟩⟩ (.ae (.s (.j ⟨2054,[],[(.t 11,K)],[],.f⟩ .z .z) (.ae (.j ⟨14,[],[(.h 1 1,al),(.h 1 2,al),(.h 1 3,al),(.h 1 4,a)],[.f,(.b .f (.b .f (.b .f (.b .f .l)))),(.b .f (.b .f (.b .f (.b .f (.b .f .l))))),(.b .f (.b .f (.b .f (.b .f (.b .f .l)))))],.f⟩ (.ae (.j ⟨786446,[],[(.t 19,K)],[],.f⟩ .z (.ae (.j ⟨2147745806,[],[(.t 31,K)],[],.f⟩ .z (.ae (.ae (.ae (.j ⟨35184372350990,[],[(.t 45,K)],[],.f⟩ .z .z)))))))) (.ae (.s (.j ⟨39614081257132168796771975174,[.b 1],[(.t 95,K)],[],.f⟩ .z .z) .z)))))) True (ct (aJ agf (aJ Hk (aJ M_ a2)))) Tryz.func41 (trivial)
def Gy:Bool:=(cond (!(pT A)) true (!(pT g)))
def g3(r:Int)(h:u)(o:u)(c:u)(v:Int):Int:=(cond (A==0) (cond (!((A==0)&&((g==0)&&((r==0)&&(((h:u).toList==(⟨#[]⟩:u).toList)&&(((o:u).toList==(⟨#[]⟩:u).toList)&&(((c:u).toList==(⟨#[]⟩:u).toList)&&((v==0)&&true)))))))) 8 0) (cond (Gy A g) 2 (fw r h o c v)))
def ang:bq:=⟨[.g [a,a,a,al,al,al,a]],λA g r h o c v=>⟨⟨none,b (g3 A g r h o c v)⟩⟩⟩
theorem V8:bx 27 ang:=bA Tryz.func27
 λ(A:Int) (g:Int) (r:Int) h _ o _ c _ (v:Int)=>bD ⟨.pure,[.tmp 2],[(.t 0,a)],⟨[U],[]⟩⟩ (.ae (.ae (.s (.j ⟨262150,[],[(.t 18,K)],[],.f⟩ .z .z) .z))) True (ct (aJ V7 (aJ awD a2))) Tryz.func27 (trivial)
def aeG(r:Int)(h:u)(o:u)(c:u)(v:Int):Bool:=(cond (g !=0) true (!((r==0)&&(((h:u).toList==(⟨#[]⟩:u).toList)&&(((o:u).toList==(⟨#[]⟩:u).toList)&&(((c:u).toList==(⟨#[]⟩:u).toList)&&((v==0)&&true)))))))
def aeH:Bool:=(cond (!(s7 A)) true (!(s7 g)))
def UC(r:Int)(h:u)(o:u)(c:u)(v:Int):Int:=(cond (A==0) (cond (aeG g r h o c v) 8 0) (cond (aeH A g) 2 (Gw r h o c v)))
def yF:Bool:=(cond (decide (A<1)) true (cond (decide (A>1048576)) true (cond (decide (g<0)) true (decide (g>1073741824)))))
def fc(r:Bool)(h:Int)(o:Int)(c:Int)(v:u)(y:u)(p:u)(x:Int):Int:=(cond (yF A g) 2 (cond r (cond (!((h==0)&&((o==0)&&((c==0)&&(((v:u).toList==(⟨#[]⟩:u).toList)&&(((y:u).toList==(⟨#[]⟩:u).toList)&&(((p:u).toList==(⟨#[]⟩:u).toList)&&((x==0)&&true)))))))) 8 0) (g3 h o c v y p x)))
def ani:bq:=⟨[.g [a,a,K,a,a,a,al,al,al,a]],λA g r h o c v y p x=>⟨⟨none,b (fc A g r h o c v y p x)⟩⟩⟩
theorem Nd:bx 103 ani:=bA Tryz.func103
 λ(A:Int) (g:Int) r (h:Int) (o:Int) (c:Int) v _ y _ p _ (x:Int)=>bD ⟨.pure,[.tmp 2],[(.t 0,a)],⟨[U],[]⟩⟩ (.ae (.s (.j ⟨1048582,[],[(.t 20,K)],[],.f⟩ .z .z) .z)) True (ct (aJ V8 a2)) Tryz.func103 (trivial)
def yG:Bool:=(cond (!(s7 A)) true (!(kl g 0 1073741824)))
def tA(r:Bool)(h:Int)(o:Int)(c:Int)(v:u)(y:u)(p:u)(x:Int):Int:=(cond (yG A g) 2 (cond (!r) (UC h o c v y p x) (cond (!((h==0)&&((o==0)&&((c==0)&&(((v:u).toList==(⟨#[]⟩:u).toList)&&(((y:u).toList==(⟨#[]⟩:u).toList)&&(((p:u).toList==(⟨#[]⟩:u).toList)&&((x==0)&&true)))))))) 8 0)))
end
section
def A7(A:u):Bool:=(decide (((A:u).size:Int)>20))
def akW:bq:=⟨[.v al],λA=>⟨⟨none,.bool (A7 A)⟩⟩⟩
def awx:bx 149 akW:=bA Tryz.func149
 λA _=>bD ⟨.pure,[.tmp 2],[(.t 0,K)],⟨[U],[]⟩⟩ (.z) True fx Tryz.func149 (trivial)
def KH(A:G u):Nat->Int->Bool×Int
 |0,_=>default
 |k+1,e=>(cond (decide (e<(A.n:Int))) (cond (A7 (A.at' (toNat e))) (true,e) (KH A k (i64 (e+1)))) (false,default))
variable(A:G u)(g:u)(r:Int)(h:G u)
def Ta:Bool×Int:=KH A ((toNat ((A.n:Int)-0))+1) 0
def arl:Bool:=(cond (Ta A).1 false true)
def ac4:Int:=(cond (arl A) (-1) (Ta A).2)
def alW:bq:=⟨[.v (.ab bV),.fn 149 []],λA=>⟨⟨none,b (ac4 A)⟩⟩⟩
theorem aw6:bx 172 alW:=bA Tryz.func172
 λA i _=>bD ⟨.pure,[.tmp 4],[(.t 0,a)],⟨[U],[]⟩⟩ (.ae (.j ⟨16,[],[],[],.f⟩ (.ae (.cX ⟨403,[],[],[(.t 8,a)],some 0,true,16,[],[],λk (s:Int)=>KH A k s,.f,λ(s:Int)=>(0<=s/\s<=(A.n:Int)),λ(s:Int)=>(toNat ((A.n:Int)-s)),none⟩ .z)) .z)) (((0<=(0:Int)/\(0:Int)<=(A.n:Int)))/\(∀(e:Int),let c:=decide (e<(A.n:Int));let b:=i64 (e+1);(0<=e/\e<=(A.n:Int))->((c=true->((0:Int)<=e/\e<(A.n:Int)))/\(c=true->((A7 (A.at' (toNat e)))=false->((0<=b/\b<=(A.n:Int))/\(toNat ((A.n:Int)-b))<(toNat ((A.n:Int)-e)))))))) (ct (aJ awx a2)) Tryz.func172 (⟨Ω,(λe h=>⟨(λd=>(by have:=an d;omega)),(λf=>(λg=>(by have:=an f;have:=E (e+1);omega)))⟩)⟩)
def EN:Bool:=(decide ((ac4 A)>=0))
def akU:bq:=⟨[.v (.ab bV),.fn 149 []],λA=>⟨⟨none,.bool (EN A)⟩⟩⟩
theorem awv:bx 148 akU:=bA Tryz.func148
 λA _ _=>bD ⟨.pure,[.tmp 4],[(.t 0,K)],⟨[U],[]⟩⟩ (.z) True (ct (aJ aw6 a2)) Tryz.func148 (trivial)
def aey(A:Int):Bool:=(cond (decide (A<0)) true (decide (A>13)))
def UB:Bool:=(cond (decide (((g:u).size:Int)>20)) true (decide ((h.n:Int)>20)))
def aez:Bool:=(cond (decide (r<(-1099511627776))) true (decide (r>1099511627776)))
def rG(A:Int)(g:u)(r:Int)(h:G u):Int:=(cond (aey A) 3 (cond (UB g h) 1 (cond (EN h) 1 (cond (aez r) 2 0))))
def anc:bq:=⟨[.g [a,al,a,.ab bV]],λA g r h=>⟨⟨none,b (rG A g r h)⟩⟩⟩
theorem ayh:bx 135 anc:=bA Tryz.func135
 λ(A:Int) g _ (r:Int) h _ _=>bD ⟨.pure,[.tmp 2],[(.t 0,a)],⟨[U],[]⟩⟩ (.ae (.s (.j ⟨1030,[],[(.t 10,K)],[],.f⟩ .z .z) (.s (.j ⟨1048582,[],[(.t 20,K)],[],.f⟩ .z .z) (.ae (.s (.j ⟨2147483652,[.b 0],[(.t 31,K)],[],.f⟩ .z .z) .z))))) True (ct (aJ awv a2)) Tryz.func135 (trivial)
end
section
def vU(A:Int)(g:Int)(r:G R):Bool:=(cond (!(kl A 0 1048576)) true (cond (!(kl g 0 1048576)) true (cond (!((A==0)==(g==0))) true (cond (decide ((r.n:Int)>200)) true (decide ((i64 (A+(r.n:Int)))>1048576))))))
variable(A:G Int)(g:Int)(r:G R)(bl:Int)
def mZ:Bool:=(cond ((tA (r.at' (toNat bl)).q (r.at' (toNat bl)).F (r.at' (toNat bl)).z (r.at' (toNat bl)).M (r.at' (toNat bl)).w (r.at' (toNat bl)).C (r.at' (toNat bl)).P (r.at' (toNat bl)).aw (r.at' (toNat bl)).f (r.at' (toNat bl)).aD)!=0) true (decide ((r.at' (toNat bl)).q<g)))
def oa:Bool:=(cond (decide (bl>0)) (cond (decide ((r.at' (toNat bl)).q<(r.at' (toNat (i64 (bl-1)))).q)) true (decide ((r.at' (toNat bl)).F<(r.at' (toNat (i64 (bl-1)))).F))) false)
def tB(g:Int)(r:G R):Nat->Int->Bool×Int
 |0,_=>default
 |k+1,bl=>(cond (decide (bl<(r.n:Int))) (cond (mZ g r bl) (true,13) (cond (oa r bl) (true,13) (tB g r k (i64 (bl+1))))) (false,default))
def B8:Bool×Int:=tB g r ((toNat ((r.n:Int)-0))+1) 0
def LZ:Bool:=(cond (B8 g r).1 false true)
def vT(A:Int)(g:Int)(r:G R):Int:=(cond (vU A g r) 13 (cond (LZ g r) 0 (B8 g r).2))
def apa(A g:Int)(r:G R)(h:vT A g r=0):(0<=A/\A<=1048576)/\(0<=g/\g<=1048576)/\r.n<=200/\A+r.n<=1048576:=by
 unfold vT at h
 cases a:vU A g r with
 |true=>rw[a]at h;simp at h
 |false=>
  simp [vU,kl,EP]at a;have:=E (A+(r.n:Int));omega
def A4(A:G Int):Nat->Int->G Int->G Int
 |0,_,_=>default
 |k+1,e,l=>(cond (decide (e<(A.n:Int))) (A4 A k (i64 (e+1)) (G.app l (G.lit ([(A.at' (toNat e))]:List Int)))) l)
def EK:G Int:=A4 A ((toNat ((A.n:Int)-0))+1) 0 (B:G Int)
def A5(g:G Int):Nat->Int->G Int->G Int
 |0,_,_=>default
 |k+1,bl,a=>(cond (decide (bl<(g.n:Int))) (A5 g k (i64 (bl+1)) (G.app a (G.lit ([(g.at' (toNat bl))]:List Int)))) a)
def EL(g:G Int):G Int:=A5 g ((toNat ((g.n:Int)-0))+1) 0 (EK A)
def Sx(g:G Int):G Int:=(EL A g)
def ahb(A:G Int)(d:A.n<=549755813888): ∀(m:Nat) (v:Int) (s:G Int),0<=v->v<=A.n->m=toNat ((A.n:Int)-v)->((A4 A (m+1) v s).n:Int)=s.n+((A.n:Int)-v)
 |0,v,s,a,b,c=>by
  have: ¬v<(A.n:Int):=by omega
  simp only[A4,this,zU,aX];omega
 |m+1,v,s,a,b,c=>by
  have e:v<(A.n:Int):=by omega
  have f:=E (v+1);rw[A4];simp only[e,wU,aR];rw[f,ahb A d m (v+1) _ Ω Ω Ω];simp only[G.pI,G.na,dy,fs];omega
def ahc(A:G Int)(d:A.n<=549755813888): ∀(m:Nat) (v:Int) (s:G Int),0<=v->v<=A.n->m=toNat ((A.n:Int)-v)->((A5 A (m+1) v s).n:Int)=s.n+((A.n:Int)-v)
 |0,v,s,a,b,c=>by
  have: ¬v<(A.n:Int):=by omega
  simp only[A5,this,zU,aX];omega
 |m+1,v,s,a,b,c=>by
  have e:v<(A.n:Int):=by omega
  have f:=E (v+1);rw[A5];simp only[e,wU,aR];rw[f,ahc A d m (v+1) _ Ω Ω Ω];simp only[G.pI,G.na,dy,fs];omega
def azk(A g:G Int):A.n+g.n<=549755813888->(Sx A g).n=A.n+g.n:=λh=>by
 have a:((EK A).n:Int)=0+((A.n:Int)-0):=ahb A Ω _ 0 B Ω Ω rfl;have b:((EL A g).n:Int)=(EK A).n+((g.n:Int)-0):=ahc g Ω _ 0 _ Ω Ω rfl;show(EL A g).n=_;omega
end
end Go.Proofs.YtadmdaokcgjdiaaGreatDoor
