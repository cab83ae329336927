import Derived.Test.YtcpfnfkibnjcfaaGreatDoorXe
open Go.IntKind (i64 u64 u8)
open Int (toNat)
set_option maxRecDepth 100000
set_option maxHeartbeats 4000000
set_option linter.all false
noncomputable section
namespace Go.ag
open Go Go.RowKit
inductive dV where
 |v (k:aG)
 |g (bF:List aG)
 |r (bF:List aG)
 |fn (f:FuncId) (kb:List (List aG))
 |p (b:Nat)
 |o (b:Nat)
 |kB (f:FuncId) (cD:List Nat)
 |fZ (b o:Nat)
def dV.ck:dV->List aG
 | .v k=>[k]
 | .g a=>a
 | .r a=>a
 | .fn _ b=>b.flatten
 | .p _=>[]
 | .o _=>[]
 | .kB _ _=>[]
 | .fZ .. =>[]
def FJ:List (List aG)->List J->List J×List J
 |[],l=>([],l)
 |c::r,l=>match FJ r (l.drop c.length)with
  |(a,b)=>(.ref (l.take c.length)::a,b)
def gH:List dV->List J->List J
 |[],_=>[]
 |s::r,l=>match s with
  | .v _=>l.headD .undef::gH r l.tail
  | .g c=> .agg (l.take c.length)::gH r (l.drop c.length)
  | .r c=> .ref (l.take c.length)::gH r (l.drop c.length)
  | .fn f e=>match FJ e l with
    |(a,b)=> .fn f a::gH r b
  | .p b=> .ptr b 0::gH r l
  | .o b=> .own b 0::gH r l
  | .kB f d=> .fn f (d.map λb=> .ptr b 0)::gH r l
  | .fZ b o=> .ptr b o::gH r l
def Td:J->List J
 | .agg cs=>cs
 | .ref cs=>cs
 | .ptr .. =>[]
 | .own .. =>[]
 | .fn _ a=>a.flatMap λc=>match c with
   | .ref cs=>cs
   | .ptr .. =>[]
   |x=>[x]
 |x=>[x]
@[reducible] def eD:List aG->Type 1->Type 1
  |[],α=>α
  |k::a,α=>k.ty->eD a α
def eD.ap{α:Type 1} :(a:List aG)->eD a α->List J->Option α
 |[],f,[]=>some f
 |k::a,f,x::b=>match k.rd x with
  |some v=>eD.ap a (f v) b
  |none=>none
 |_,_,_=>none
structure Kq where
 pre:Option Prop
 res:J
structure bt where
 eO:List dV
 f:eD (eO.flatMap dV.ck) (ULift Kq)
def dV.cD:dV->List Bool
 | .v _=>[true]
 | .g a=>List.replicate a.length true
 | .r a=>List.replicate a.length false
 | .fn _ b=>List.replicate b.flatten.length false
 | .p _=>[]
 | .o _=>[]
 | .kB _ _=>[]
 | .fZ .. =>[]
def aa6(b:Bool):(k:aG)->k.ty->Prop->Prop
 | .int _,_,p=>p
 | .bool,_,p=>p
 | .str,s,p=>match b with
   |true=>s.size<=549755813888->p
   |false=>p
 | .ab E,s,p=>match b with
   |true=>s.n<=549755813888->gP (aV E.af E.e s)->p
   |false=>p
 | .ad _,_,p=>p
def xU(a:Option Prop)(p:Prop):Prop:=
 match a with
 |none=>p
 |some q=>q->p
def Kr(P:Program)(f:FuncId)(c:List dV):(a:List aG)->List Bool->eD a (ULift Kq)->List J->Prop
 |[],_,F,acc=>xU F.down.pre (fR P f (gH c acc) F.down.res)
 |k::a,b,F,acc=> ∀x:k.ty,aa6 (b.headD false) k x (Kr P f c a b.tail (F x) (acc++[k.av x]))
def Ev(p:Option Prop):aZ:=
 match p with
 |none=> .dr
 |some q=> .p q
def Bf:List dV->List J->Bool
 |[],_=>true
 |s::r,l=>match s with
  | .fn f _=>match l with
    |x::a=>match x with
     | .fn g _=>match Nat.beq f g with
       |true=>Bf r a
       |false=>false
     |_=>false
    |[]=>false
  | .kB f _=>match l with
    |x::a=>match x with
     | .fn g _=>match Nat.beq f g with
       |true=>Bf r a
       |false=>false
     |_=>false
    |[]=>false
  | .fZ _ o=>match l with
    |x::a=>match x with
     | .ptr _ b=>match Nat.beq o b with
       |true=>Bf r a
       |false=>false
     |_=>false
    |[]=>false
  |_=>Bf r l.tail
def bt.hL(F:bt)(aa:List J):Option (aZ×J):=
 dp (Bf F.eO aa) (match et (F.eO.flatMap dV.ck) (aa.flatMap Td)with
 |some cs=>match eD.ap _ F.f cs with
  |some a=>some (.and (.e (A3 aa (gH F.eO cs)) (gH F.eO cs)) (Ev a.down.pre),a.down.res)
  |none=>none
 |none=>none)
structure Fj (P:Program) (f:FuncId) (s:List J->Option (aZ×J)):Prop where
 yE:mN P f
 pure: ∀args o r,s args=some (o,r)->o.holds->fR P f args r
def uv:List Bool->List J->Prop
 |b::a,c::cs=>(b=true->gP c)/\uv a cs
 |_,_=>True
def F1: ∀{cD:List Bool} {cs:List J} {d:List Bool} {e:List J},cD.length=cs.length->uv cD cs->uv d e->uv (cD++d) (cs++e)
 |[],[],_,_,_,_,h=>h
 |b::cD,c::cs,_,_,a,h,f=>⟨h.1,F1 (by simpa using a) h.2 f⟩
 |[],_::_,_,_,a,_,_=>by simp at a
 |_::_,[],_,_,a,_,_=>by simp at a
def aed: ∀{cs:List J},Ly cs->uv (List.replicate cs.length true) cs
 |[],_=>trivial
 |_::_,h=>⟨λ_=>h.1,aed h.2⟩
def T0: ∀(n:Nat) (cs:List J),uv (List.replicate n false) cs
 |0,_=>trivial
 |_+1,[]=>trivial
 |n+1,_::cs=>⟨λh=>(by cases h),T0 n cs⟩
def Tc: ∀(a:List (List aG)) (l:List J),(FJ a l).2=l.drop a.flatten.length
 |[],l=>by simp [FJ]
 |b::r,l=>by
  simp only[FJ,Tc r,Bt,db,ys]
def Em: ∀{b:List aG} {c a:List J},et b c=some a->et b a=some a
 |[],[],a,h=>by cases h;rfl
 |[],_::_,_,h=>by cases h
 |_::_,[],_,h=>by cases h
 |k::b,x::c,a,h=>by
  simp only[et]at h
  split at h<;>try exact Ζ
  rename_i y e
  split at h<;>try exact Ζ
  rename_i i d
  cases h
  have⟨v,f,g⟩:=aG.Jf e;subst f;simp only[et,aG.nrm,g,Em d]
def Jd: ∀{a b:List aG} {l:List J},et (a++b) l=some l->et a (l.take a.length)=some (l.take a.length)/\et b (l.drop a.length)=some (l.drop a.length)
 |[],b,l,h=>⟨rfl,h⟩
 |k::a,b,[],h=>by cases h
 |k::a,b,x::g,h=>by
  simp only[yu,et]at h
  split at h<;>try exact Ζ
  rename_i y e
  split at h<;>try exact Ζ
  rename_i i c;simp only[hI,oa]at h;obtain⟨rfl,rfl⟩:=h;have⟨d,f⟩:=Jd c;exact⟨by simp only[dE,List.take_succ_cons,et,e,d],f⟩
def vN: ∀(q:List dV) (l:List J),et (q.flatMap dV.ck) l=some l->Lx (gH q l)->uv (q.flatMap dV.cD) l
 |[],l,_,_=>trivial
 |s::r,l,n,h=>by
  simp only[gO]at n |-;have⟨i,a⟩:=Jd n;have c:=x_ i
  cases s with
  |v k=>
   cases l with
   |nil=>cases n
   |cons x w=>
    simp only[gH,List.headD_cons,List.tail_cons]at h;refine F1 (cD:=[true]) (cs:=[x]) rfl ⟨λ_=> ?_,trivial⟩ (vN r w a h.2);have j:=h.1;simp only[dV.ck,dE,gx,dj,List.take_succ_cons,List.take_zero,et]at i
    split at i<;>try exact Ζ
    rename_i y e;simp only[hI,oa,and_true]at i;subst i;have⟨v,u,_⟩:=aG.Jf e;subst u
    cases k<;>exact j
  |g d=>
   simp only[gH]at h;simp only[dV.ck]at c a;have j:=aed h.1;rw[c]at j;have:=F1 (cD:=List.replicate d.length true) (by simp [c]) j (vN r (l.drop d.length) a h.2);rwa [qz]at this
  |r d=>
   simp only[gH]at h;simp only[dV.ck]at c a;have:=F1 (cD:=List.replicate d.length false) (cs:=l.take d.length) (by simp [c]) (T0 _ _) (vN r (l.drop d.length) a h.2);rwa [qz]at this
  |fn f m=>
   simp only[gH]at h;simp only[dV.ck]at c a;have t:=h.2;rw[Tc]at t;have:=F1 (cD:=List.replicate m.flatten.length false) (cs:=l.take m.flatten.length) (by rw[List.length_replicate,c]) (T0 _ _) (vN r (l.drop m.flatten.length) a t);rwa [qz]at this
  |p b=>exact vN r l a h.2
  |o b=>exact vN r l a h.2
  |kB f z=>exact vN r l a h.2
  |fZ b o=>exact vN r l a h.2
def eD.ace{P:Program}{f:FuncId}{m:List dV} : ∀{bF:List aG} {cD:List Bool} {F:eD bF (ULift Kq)} {acc cs:List J} {a:ULift Kq},eD.ap bF F cs=some a->et bF cs=some cs->uv cD cs->Kr P f m bF cD F acc->xU a.down.pre (fR P f (gH m (acc++cs)) a.down.res)
 |[],cD,F,acc,[],a,h,_,_,j=>by
  cases h
  rw[iE];exact j
 |[],_,_,_,_::_,_,h,_,_,_=>by cases h
 |_::_,_,_,_,[],_,h,_,_,_=>by cases h
 |k::bF,cD,F,acc,x::t,a,h,d,l,j=>by
  simp only[eD.ap]at h
  split at h<;>try exact Ζ
  rename_i v e;simp only[et]at d
  split at d<;>try exact Ζ
  rename_i y g
  split at d<;>try exact Ζ
  rename_i s n;simp only[hI,oa]at d;obtain⟨rfl,rfl⟩:=d;have r:y=k.av v:=by
   unfold aG.nrm at g;rw[e]at g
   cases g;rfl
  subst r;have o: ∀p,aa6 (cD.headD false) k v p->p:=λp c=>by
   cases cD with
   |nil=>cases k<;>exact c
   |cons b cD=>
    cases b with
    |false=>cases k<;>exact c
    |true=>
     have i:=l.1 rfl
     cases k with
     |int _=>exact c
     |bool=>exact c
     |str=>exact c i.size
     |ab E=>exact c (gP.len i) i
     |ad _=>exact c
  have q:uv cD.tail s:=by
   cases cD with
   |nil=>trivial
   |cons b cD=>exact l.2
  have:=eD.ace (bF:=bF) (cD:=cD.tail) (acc:=acc++[k.av v]) h n q (o _ (j v));rwa [e5,E3]at this
def bt.ok{P:Program}{f:FuncId}{F:bt}(l:mN P f)(h:Kr P f F.eO _ (F.eO.flatMap dV.cD) F.f []):Fj P f F.hL:=by
 refine⟨l,λi o r e d=> ?_⟩;unfold bt.hL at e;rw[dw]at e;replace e:=e.2
 split at e<;>try exact Ζ
 rename_i cs k
 split at e<;>try exact Ζ
 rename_i a j
 cases e
 have n:bb lD i (gH F.eO cs):=ZG d.1;refine fR.ami ?_ n;refine fR.oz λm=> ?_;have c:=Em k;have:=eD.ace j c (vN F.eO cs c m) h;have b:=d.2;unfold Ev at b
 cases g:a.down.pre with
 |none=>rw[g]at this;exact this
 |some q=>rw[g]at this b;exact this b
def Lj(X:cm)(R:c2)(a:fD):Option (List J):=
 match a with
 | .nrm s=>match A5 X R s with
   |some q=>some q.2
   |none=>none
 | .ret b=>some b
 |_=>none
def adO(X:cm)(R:c2)(a:fD):aZ:=
 match a with
 | .nrm s=>match A5 X R s with
   |some q=>q.1
   |none=> .p False
 | .ret _=> .dr
 | .dead=> .dr
 | .ext .. => .p False
def Lv(X:cm)(R:c2)(ms:List j7)(r:jN):Option (aZ×List J):=
 match r.t.prune (Lj X R)with
 |some a=>match FO R.ck ms a with
  |some q=>some (.and r.o (.and (s6 r.f (r.t.AS (adO X R))) (.es λ_:Unit=>q.1)),q.2)
  |none=>none
 |none=>none
def WP.aCl{E:Env}{c:Code}{Q R:Exit->O->Prop}{st:O}(h:WP E c R st)(l: ∀e s,R e s-> ∃b,cB E.m s b/\Q e b):WP E c Q st:=λS d ι a w m=>r1 (h S d ι a w m) λe a w ⟨aC,n,f,g⟩=>by
 have⟨b,i,j⟩:=l e n g;have⟨eQ,k⟩:=i S d aC a w f;exact⟨eQ,b,k,j⟩
def amT(X:cm)(R:c2)(a:List J)(e:Exit)(s:O):Prop:=
 (match e with
  | .normal=>True
  | .ret=>True
  |_=>False)/\tX X R s a
def FZ{X:cm}{R:c2}{c:Code}{st:O}{r:jN}{ms:List j7}{o:aZ}{w:List J}(h:Lv X R ms r=some (o,w))(F:o.holds)(G:r.o.holds->qJ X R c st r):WP X.env c (amT X R w) st:=by
 unfold Lv at h
 split at h<;>try exact Ζ
 rename_i v n
 split at h<;>try exact Ζ
 rename_i q z
 cases h
 obtain⟨B,C,D⟩:=F;have l:=G B;have a:=T.Jj (N1 C l.f);have u:v.bQ.length=R.ck.length->et R.ck v.bQ=some q.2:=λE=>Tj (o:=q.1) (cQ:=q.2) z (D ()) E;refine l.wp.aCl λe s b=> ?_
 cases d:r.t.bQ with
 |nrm m=>
  rw[d]at b a
  cases e<;>simp only[kx]at b<;>try exact b.elim
  simp only[adO]at a
  cases k:A5 X R m with
  |none=>rw[k]at a;exact a.elim
  |some p=>
   rw[k]at a;have⟨A,K,j⟩:=ZR (o:=p.1) (cQ:=p.2) k a;have⟨I,g,i⟩:=T.n5 (f:=Lj X R) (t:=r.t) (x:=p.2) (by rw[d];simp only[Lj,k]);rw[n]at g;cases g;have:=u (by rw[i];exact x_ j);rw[i,Em j]at this;have H:p.2=q.2:=ij this;exact⟨m,b,trivial,H▸A⟩
 |ret y=>
  rw[d]at b
  cases e<;>simp only[kx]at b<;>try exact b.elim
  have⟨K,j⟩:=l.ret y d;have⟨I,g,i⟩:=T.n5 (f:=Lj X R) (t:=r.t) (x:=y) (by rw[d];rfl);rw[n]at g;cases g;have:=u (by rw[i];exact x_ j);rw[i,Em j]at this
  cases this
  exact⟨s,cB.refl _,trivial,b⟩
 |ext id m=>rw[d]at a;exact a.elim
 |dead=>exact absurd d l.live
def YK:List J->Bool
 |[]=>false
 |[x]=>match x with
  | .du _=>false
  | .ad .. =>false
  |_=>true
 |_=>true
noncomputable def tx(X:cm)(R:c2)(c:Code)(h:cz R.ck)(ms:List j7)(st:O):aZ×J:=
 match Lv X R ms (exec X R c h st)with
 |some q=>match R.md with
  | .pure=>match YK (R.st q.2).n with
    |true=>(q.1,qw (R.st q.2).n)
    |false=>(.p False,.undef)
  | .own _=>(q.1,q.2.headD .undef)
  |_=>(.p False,.undef)
 |none=>(.p False,.undef)
def aGn: ∀{d a:List J},bb lD d a->YK a=true->ye (qw d) (qw a)
 |[],[],_,h=>by cases h
 |[x],[y],h,c=>by
  have b:=h.1;simp only[qw];simp only[YK]at c
  cases x<;>cases y<;>first|exact b|(cases c;done)|(simp [lD,hN]at b;done)
 |_::_::_,_::_::_,h,_=>h
 |[],_::_,h,_=>h.elim
 |_::_,[],h,_=>h.elim
 |[_],_::_::_,h,_=>h.2.elim
 |_::_::_,[_],h,_=>h.2.elim
def aEx{X:cm}{R:c2}{f:FuncId}{b:Func}{c:Code}{h:cz R.ck}{ms:List j7}{aa:List J}{r:J}{p:Prop}(m:X.env.dU)(F:X.P.funcs[f]? =some b)(E:b.body=some c)(D:R.rs=b.results.toList)
  (e:((tx X R c h ms ⟨aa++List.replicate (b.ntmps-aa.length) .undef,[]⟩).1.prop,(tx X R c h ms ⟨aa++List.replicate (b.ntmps-aa.length) .undef,[]⟩).1.h0,(tx X R c h ms ⟨aa++List.replicate (b.ntmps-aa.length) .undef,[]⟩).2)=(p,(tx X R c h ms ⟨aa++List.replicate (b.ntmps-aa.length) .undef,[]⟩).1.iR,r)) (H:p):fR X.P f aa r:=by
 generalize A:(⟨aa++List.replicate (b.ntmps-aa.length) .undef,[]⟩:O)=st at e;simp only[od]at e;obtain⟨y,z,bo⟩:=e;have a:(tx X R c h ms st).1.holds:=aZ.ok _ z (by rw[y];exact H);clear y z;unfold tx at a bo
 split at a
 .rename_i q t;rw[t]at bo;simp only at bo;obtain⟨o,w⟩:=q;simp only at a bo
  split at a
  .rename_i em;rw[em]at bo;simp only at bo
   split at a
   .rename_i i;rw[i]at bo;simp only at bo;have v:=FZ t a λu=>FX m c h st u;refine yb m F E aa r ?_;rw[A];refine v.mono λe s k=>⟨k.1,?_⟩;have d:=k.2;unfold tX at d;rw[em]at d;simp only at d;subst bo;have C:A4 X.env s b.results.toList λK=>ye (qw K) (qw (R.st w).n):=by
     rw[<-D];exact d _ λL I=>aGn I i
    cases j:qw (R.st w).n<;>rw[j]at C<;>first|exact C|skip
    revert i j;generalize (R.st w).n=l;intro i j
    match l with
    |[]=>cases i
    |[x]=>simp only[qw]at j;subst j;cases i
    |_::_::_=>cases j
   .exact a.elim
  .rename_i cZ em;rw[em]at bo;simp only at bo;have v:=FZ t a λu=>FX m c h st u;refine yb m F E aa r ?_;rw[A];refine v.mono λe s k=>⟨k.1,?_⟩;have d:=k.2;unfold tX at d;rw[em]at d;simp only at d;obtain⟨n,g,G,B⟩:=d;subst G;simp only[List.headD_cons]at bo;subst bo;rw[D]at B;exact B
  .exact a.elim
 .exact a.elim
def adC:List (Nat×cZ)->TypeId->Option cZ
 |[],_=>none
 |(a,t)::r,T=>match Nat.beq T a with
  |true=>some t
  |false=>adC r T
abbrev oj:=List J->Option (aZ×J)
def EO:List (Nat×oj)->FuncId->List J->Option (aZ×J)
 |[],_,_=>none
 |(g,s)::r,f,a=>match Nat.beq f g with
  |true=>match s a with
   |some q=>some q
   |none=>EO r f a
  |false=>EO r f a
def sl(P:Program):List (Nat×oj)->Prop
 |[]=>True
 |x::r=>Fj P x.1 x.2/\sl P r
def aar{P:Program} : ∀{l:List (Nat×oj)},sl P l-> ∀f a o r,EO l f a=some (o,r)->mN P f/\(o.holds->fR P f a r)
 |[],_,_,_,_,_,h=>by cases h
 |(g,s)::l,b,f,a,o,r,h=>by
  simp only[EO]at h
  split at h
  .rename_i e;have:f=g:=ey e;subst this
   split at h
   .rename_i q c
    cases h
    exact⟨b.1.yE,b.1.pure a _ _ c⟩
   .exact aar b.2 f a o r h
  .exact aar b.2 f a o r h
abbrev om:=List J->Heap->Option (aZ×List J×Heap)
def EN:List (Nat×om)->FuncId->List J->Heap->Option (aZ×List J×Heap)
 |[],_,_,_=>none
 |(g,s)::r,f,a,H=>match Nat.beq f g with
  |true=>match s a H with
   |some q=>some q
   |none=>EN r f a H
  |false=>EN r f a H
structure j9 (P:Program) (f:FuncId) (s:om):Prop where
 yE:mN P f
 call: ∀args H o rs H',s args H=some (o,rs,H')->o.holds->gn P f args H rs H'
def uc(P:Program):List (Nat×om)->Prop
 |[]=>True
 |x::r=>j9 P x.1 x.2/\uc P r
def aap{P:Program} : ∀{l:List (Nat×om)},uc P l-> ∀f a H o rs H',EN l f a H=some (o,rs,H')->mN P f/\(o.holds->gn P f a H rs H')
 |[],_,_,_,_,_,_,_,h=>by cases h
 |(g,s)::l,b,f,a,H,o,rs,H',h=>by
  simp only[EN]at h
  split at h
  .rename_i e;have:f=g:=ey e;subst this
   split at h
   .rename_i q c
    cases h
    exact⟨b.1.yE,b.1.call a H _ _ _ c⟩
   .exact aap b.2 f a H o rs H' h
  .exact aap b.2 f a H o rs H' h
def aFY{P:Program}{l:List (Nat×oj)}(h:sl P l):Spec.dU P (λf i=>match EO l f i with
  |some q=>some (some q.1.holds,q.2)
  |none=>none):=λf a j r e=>by
 simp only at e
 split at e
 .rename_i q b
  cases e
  have⟨c,d⟩:=aar h f a q.1 q.2 b;exact⟨c,λg=>d g.1⟩
 .cases e
def aFX{P:Program}{l:List (Nat×om)}(h:uc P l):yy.dU P (λf i H=>match EN l f i H with
  |some q=>some (some q.1.holds,q.2)
  |none=>none):=λf a H j rs H' e=>by
 simp only at e
 split at e
 .rename_i q b;obtain⟨q1,k,m⟩:=q
  cases e
  have⟨c,d⟩:=aap h f a H q1 _ _ b;exact⟨c,λg=>d g.1⟩
 .cases e
abbrev a:aG:= .int .i64
abbrev l:aG:= .bool
abbrev ar:aG:= .str
noncomputable def I.rep{α:Type}(n:Nat)(x:α):I α:=⟨n,λ_=>x⟩
def I.akQ{α:Type}(n:Nat)(x:α):(I.rep n x).n=n:=rfl
def aN(s:I Int):Prop:= ∀i,0<=s.at' i/\s.at' i<=255
def aFH:J->J->Bool
 | .int k _,.int a _=>decide (k=a)
 | .bool _,.bool _=>true
 | .str _,.str _=>true
 | .arr s _ _,.arr b _ _=>Nat.beq s b
 |_,_=>false
def h0:List J->List J->Bool
 |[],[]=>true
 |x::a,y::b=>match aFH x y with
  |true=>h0 a b
  |false=>false
 |_,_=>false
def TY:List (Nat×cZ)->Nat->List J->Option cZ
 |[],_,_=>none
 |(_,E)::r,a,cs=>match Nat.beq E.af a with
  |true=>match h0 (E.e (E.d [])) cs with
   |true=>some E
   |false=>TY r a cs
  |false=>TY r a cs
def aw5(a:List (Nat×om))(f:Nat):Bool:=a.any λx=>Nat.beq f x.1
def cm.of(P:Program)(iA:List (Nat×bU))(yW:List (Nat×cZ))(l:List (Nat×oj))(m:Nat)(a:List (Nat×om)):cm:=⟨P,Bj iA,adC yW,EO l,m,EN a,TY yW,aw5 a⟩
def cm.aj1{P:Program}{iA:List (Nat×bU)}{yW:List (Nat×cZ)}{l:List (Nat×oj)}{m:Nat}{a:List (Nat×om)}(e:P.follows .mixedOrders=true)(h:(iA.all λx=>ET P x.1 x.2)=true)(d:(iA.all λx=>KT P x)=true)(b:sl P l)(c:uc P a):
  (cm.of P iA yW l m a).env.dU:=adP e h d (aFY b) (aFX c)
def Wu{E:Env}(s:E.dU){f:FuncId}{b:Func}{c:Code}(y:E.P.funcs[f]? =some b)(x:b.body=some c)(aa:List J)(H:Heap)(rs:List J)(H':Heap)(B:Nat.ble H.length E.m=true)
  (z:WP E c (λe st=>(match e with
   | .normal=>True
   | .ret=>True
   |_=>False)/\xS E st b.results.toList λj=>j.length=rs.length/\cB E.m ⟨j,st.k⟩ ⟨rs,H'⟩) ⟨aa++List.replicate (b.ntmps-aa.length) .undef,H⟩):gn E.P f aa H rs H':=by
 intro S ι w j u O i;have n:=ec u (hH B);have K:a2 S ι ⟨aa++List.replicate (b.ntmps-aa.length) .undef,H⟩ {tmps:=j.toArray++Array.replicate (b.ntmps-j.toArray.size) undef,defers:=[]} w:=by
  refine⟨i.below,rfl,λt av d=> ?_,i.k,i.inj,i.fresh,i.hn,i.hs⟩;rcases ga t aa.length with h|h
  .rw[wb h]at d;have⟨v,k,m⟩:=i.n t av d;refine⟨v,?_,m⟩;rw[r2 (by simp;omega)];exact k
  .rw[E2 h]at d;have L:t-aa.length<b.ntmps-aa.length:=by
    rcases ga (t-aa.length) (b.ntmps-aa.length)with l|l
    .exact l
    .rw[fk (by simpa using l)]at d;cases d
   rw[aaU,bg L]at d
   cases d
   exact⟨undef,by rw[Array.getElem?_append_right (by simp;omega),Array.getElem?_replicate,bg (by simp;omega)],trivial⟩
 refine calls_of_wp y x (r1 (z S n _ _ w K) λe a w' ⟨mc,st,g,C⟩=> ?_);obtain⟨o,D⟩:=C;have⟨N,us,p,k,m⟩:=ahE s g _ _ D;have F:=ZQ m;have G:a2 S mc ⟨N,st.k⟩ {tmps:=us.toArray,defers:=[]} w':=by
  refine⟨g.below,rfl,λt av d=> ?_,g.k,g.inj,g.fresh,g.hn,g.hs⟩;have⟨v,q,r⟩:=k.get t av d;exact⟨v,by simpa using q,r⟩
 have A:us.length=rs.length:=by rw[<-k.length];exact p.1
 have⟨eQ,I⟩:=p.2 S n mc _ w' G;have M: ∃v,(results b a.tmps).run E.P w'= .ok v w'/\ ∃us aC,Ending.returned v= .returned (pack us)/\us.length=rs.length/\a2 S aC ⟨rs,H'⟩ {tmps:=us.toArray,defers:=[]} w':=
  ⟨_,F,us,eQ,rfl,A,I⟩
 cases e<;>simp only at o<;>first|exact⟨g.defers,M⟩|exact o.elim
noncomputable def nU(X:cm)(R:c2)(c:Code)(h:cz R.ck)(ms:List j7)(st:O):aZ×O:=
 match Lv X R ms (exec X R c h st)with
 |some q=>match R.md with
  | .heap=>(q.1,R.st q.2)
  | .mF .. =>(q.1,R.st q.2)
  | .ff .. =>(q.1,R.st q.2)
  |_=>(.p False,st)
 |none=>(.p False,st)
def ahh{X:cm}{R:c2}{f:FuncId}{d:Func}{c:Code}{h:cz R.ck}{ms:List j7}{aa:List J}{H:Heap}{rs:List J}{H':Heap}{p:Prop}(i:X.env.dU)(v:X.P.funcs[f]? =some d)(u:d.body=some c)(t:R.rs=d.results.toList)(w:Nat.ble H.length X.m=true)
  (e:((nU X R c h ms ⟨aa++List.replicate (d.ntmps-aa.length) .undef,H⟩).1.prop,(nU X R c h ms ⟨aa++List.replicate (d.ntmps-aa.length) .undef,H⟩).1.h0,(nU X R c h ms ⟨aa++List.replicate (d.ntmps-aa.length) .undef,H⟩).2)=(p,(nU X R c h ms ⟨aa++List.replicate (d.ntmps-aa.length) .undef,H⟩).1.iR,⟨rs,H'⟩)) (A:p):gn X.P f aa H rs H':=by
 generalize r:(⟨aa++List.replicate (d.ntmps-aa.length) .undef,H⟩:O)=st at e;simp only[od]at e;obtain⟨x,y,bo⟩:=e;have b:(nU X R c h ms st).1.holds:=aZ.ok _ y (by rw[x];exact A);clear x y;unfold nU at b bo
 split at b
 .rename_i q n;rw[n]at bo;simp only at bo;obtain⟨o,B⟩:=q;simp only at b bo
  split at b
  .rename_i em;rw[em]at bo;simp only at bo;have m:=FZ n b λj=>FX i c h st j;refine Wu i v u aa H rs H' w ?_;rw[r];refine m.mono λe s g=>⟨g.1,?_⟩;have a:=g.2;unfold tX at a;rw[em]at a;simp only at a;rw[bo]at a;rw[<-t];exact a _ λz k l=>⟨k,l⟩
  .rename_i em;rw[em]at bo;simp only at bo;have m:=FZ n b λj=>FX i c h st j;refine Wu i v u aa H rs H' w ?_;rw[r];refine m.mono λe s g=>⟨g.1,?_⟩;have a:=g.2;unfold tX at a;rw[em]at a;simp only at a;rw[bo]at a;rw[<-t];exact a _ λz k l=>⟨k,l⟩
  .rename_i em;rw[em]at bo;simp only at bo;have m:=FZ n b λj=>FX i c h st j;refine Wu i v u aa H rs H' w ?_;rw[r];refine m.mono λe s g=>⟨g.1,?_⟩;have a:=g.2;unfold tX at a;rw[em]at a;simp only at a;rw[bo]at a;rw[<-t];exact a _ λz k l=>⟨k,l⟩
  .exact b.elim
 .exact b.elim
structure qF where
 pre:Option Prop
 rs:List J
 H:Heap
structure cj where
 eO:List dV
 kL:List (Key×aG)
 jH:Heap
 f:eD (eO.flatMap dV.ck++kL.map (·.2)) (ULift qF)
def cj.heap(F:cj)(cs:List J):Heap:=(AM ⟨[],F.jH⟩ (F.kL.map (·.1)) cs).k
def cj.ej(F:cj):Nat:=(F.eO.flatMap dV.ck).length
def cj.args(F:cj)(cs:List J):List J:=(gH F.eO (cs.take F.ej)).map (EE (F.heap (cs.drop F.ej)))
def Bx(b:Bool):(k:aG)->k.ty->Prop->Prop
 | .int _,_,p=>p
 | .bool,_,p=>p
 | .str,s,p=>match b with
   |true=>s.size<=549755813888->p
   |false=>p
 | .ab _,s,p=>match b with
   |true=>s.n<=549755813888->p
   |false=>p
 | .ad _,s,p=>match b with
   |true=>s.n<=549755813888->p
   |false=>p
def Ff(P:Program)(f:FuncId)(F:cj):(a:List aG)->List Bool->eD a (ULift qF)->List J->Prop
 |[],_,A,acc=>xU A.down.pre (gn P f (F.args acc) (F.heap (acc.drop F.ej)) A.down.rs A.down.H)
 |k::a,b,A,acc=> ∀x:k.ty,Bx (b.headD true) k x (Ff P f F a b.tail (A x) (acc++[k.av x]))
def cj.hL(F:cj)(aa:List J)(H:Heap):Option (aZ×List J×Heap):=
 dp (Bf F.eO aa) (match et (F.eO.flatMap dV.ck++F.kL.map (·.2)) (aa.flatMap Td++getAll ⟨[],H⟩ (F.kL.map (·.1)))with
 |some cs=>match eD.ap _ F.f cs with
  |some a=>dp (Nat.beq H.length (F.heap (cs.drop F.ej)).length&&iy H.length ⟨F.args cs,F.heap (cs.drop F.ej)⟩)
    (some (.and (kZ ⟨aa,H⟩ ⟨F.args cs,F.heap (cs.drop F.ej)⟩) (.and (.e (getAll ⟨[],F.heap (cs.drop F.ej)⟩ (F.kL.map (·.1))) (cs.drop F.ej)) (Ev a.down.pre)),a.down.rs,a.down.H))
  |none=>none
 |none=>none)
def pQ(x:J):Prop:=
 match x with
 | .str s=>s.size<=dL
 | .arr _ n _=>n<=dL
 | .ad a b n _=>n<=dL\/(a=true/\b=0)
 |_=>True
def AV(x:J):Prop:=
 match x with
 | .agg cs=> ∀c∈cs,pQ c
 |x=>pQ x
def oA:List Bool->List J->Prop
 |a,c::cs=>(a.headD true=true->pQ c)/\oA a.tail cs
 |_,[]=>True
def y1: ∀{cD:List Bool} {cs:List J} {d:List Bool} {e:List J},cD.length=cs.length->oA cD cs->oA d e->oA (cD++d) (cs++e)
 |[],[],_,_,_,_,h=>h
 |b::cD,c::cs,_,_,a,h,f=>⟨h.1,y1 (by simpa using a) h.2 f⟩
 |[],_::_,_,_,a,_,_=>by simp at a
 |_::_,[],_,_,a,_,_=>by simp at a
def F0: ∀{n:Nat} {cs:List J},(∀c∈cs,pQ c)->oA (List.replicate n true) cs
 |n,[],_=>by cases n<;>trivial
 |0,c::cs,h=>⟨λ_=>h c Χ,F0 (n:=0) λc a=>h c (by simp [a])⟩
 |n+1,c::cs,h=>⟨λ_=>h c Χ,F0 (n:=n) λc a=>h c (by simp [a])⟩
def TZ: ∀(n:Nat) (cs:List J),cs.length=n->oA (List.replicate n false) cs
 |_,[],_=>by trivial
 |0,_::_,h=>by simp at h
 |n+1,_::cs,h=>⟨λh=>(by cases h),TZ n cs (by simpa using h)⟩
def tz: ∀(u:List dV) (l:List J),et (u.flatMap dV.ck) l=some l->(∀x∈gH u l,AV x)->oA (u.flatMap dV.cD) l
 |[],l,n,_=>by
  cases l with
  |nil=>trivial
  |cons x w=>cases n
 |s::r,l,n,h=>by
  simp only[gO]at n |-;have⟨m,d⟩:=Jd n;have i:=x_ m
  cases s with
  |v k=>
   cases l with
   |nil=>cases n
   |cons x w=>
    simp only[gH,List.headD_cons,List.tail_cons]at h;refine y1 (cD:=[true]) (cs:=[x]) rfl ⟨λ_=> ?_,trivial⟩ (tz r w d λy a=>h y (by simp [a]));have t:=h x Χ;simp only[dV.ck,dE,gx,dj,List.take_succ_cons,List.take_zero,et]at m
    split at m<;>try exact Ζ
    rename_i y e;simp only[hI,oa,and_true]at m;subst m;have⟨v,z,_⟩:=aG.Jf e;subst z
    cases k<;>exact t
  |g j=>
   simp only[gH]at h;simp only[dV.ck]at i d;have t: ∀c∈l.take j.length,pQ c:=h (.agg (l.take j.length)) Χ;have:=y1 (cD:=List.replicate j.length true) (by simp [i]) (F0 t) (tz r (l.drop j.length) d λy a=>h y (by simp [a]));rwa [qz]at this
  |r j=>
   simp only[gH]at h;simp only[dV.ck]at i d;have:=y1 (cD:=List.replicate j.length false) (cs:=l.take j.length) (by simp [i]) (TZ _ _ i) (tz r (l.drop j.length) d λy a=>h y (by simp [a]));rwa [qz]at this
  |fn f q=>
   simp only[gH]at h;simp only[dV.ck]at i d;have A: ∀y∈gH r (l.drop q.flatten.length),AV y:=λy a=>h y (by
    rw[<-Tc]at a;simp [a])
   have:=y1 (cD:=List.replicate q.flatten.length false) (cs:=l.take q.flatten.length) (by rw[List.length_replicate,i]) (TZ _ _ i) (tz r (l.drop q.flatten.length) d A);rwa [qz]at this
  |p b=>exact tz r l d λy a=>h y (by simp [gH,a])
  |o b=>exact tz r l d λy a=>h y (by simp [gH,a])
  |kB f B=>exact tz r l d λy a=>h y (by simp [gH,a])
  |fZ b o=>exact tz r l d λy a=>h y (by simp [gH,a])
def eD.acf{P:Program}{f:FuncId}{F:cj} : ∀{bF:List aG} {cD:List Bool} {A:eD bF (ULift qF)} {acc cs:List J} {a:ULift qF},eD.ap bF A cs=some a->et bF cs=some cs->oA cD cs->Ff P f F bF cD A acc->xU a.down.pre (gn P f (F.args (acc++cs)) (F.heap ((acc++cs).drop F.ej)) a.down.rs a.down.H)
 |[],cD,A,acc,[],a,h,_,_,l=>by
  cases h
  rw[iE];exact l
 |[],_,_,_,_::_,_,h,_,_,_=>by cases h
 |_::_,_,_,_,[],_,h,_,_,_=>by cases h
 |k::bF,cD,A,acc,x::r,a,h,c,m,l=>by
  simp only[eD.ap]at h
  split at h<;>try exact Ζ
  rename_i v e;simp only[et]at c
  split at c<;>try exact Ζ
  rename_i y i
  split at c<;>try exact Ζ
  rename_i s n;simp only[hI,oa]at c;obtain⟨rfl,rfl⟩:=c;have q:y=k.av v:=by
   unfold aG.nrm at i;rw[e]at i
   cases i;rfl
  subst q;have o: ∀p,Bx (cD.headD true) k v p->p:=λp b=>by
   have d:=m.1
   cases j:cD.headD true with
   |false=>rw[j]at b;cases k<;>exact b
   |true=>
    rw[j]at b;have d:=d j
    cases k with
    |int _=>exact b
    |bool=>exact b
    |str=>exact b d
    |ab E=>exact b d
    |ad _=>exact b (d.resolve_right λg=>by cases g.1)
  have:=eD.acf (bF:=bF) (cD:=cD.tail) (acc:=acc++[k.av v]) h n m.2 (o _ (l v));rwa [e5,E3]at this
def F2{S:ez}{ι:Nat->Option Nat}{H:Heap}{w:World}{c:J}{v:Value}(h:eY S ι H w c v):pQ c:=by
 cases c<;>try trivial
 .have a:a6 w (aX S ι H w) (.str _) v:=h;exact(a6.oz a).size
 .have a:a6 w (aX S ι H w) (.arr _ _ _) v:=h
  cases a6.oz a;assumption
 all_goals exact h.elim
def aj3{S:ez}{ι:Nat->Option Nat}{H:Heap}{w:World}{x:J}{v:Value}(h:bA S ι H w x v):AV x:=by
 cases x
 case agg cs=>
  obtain⟨j,_,h⟩:=h;intro c d;have⟨i,e⟩:=l_ d;have⟨u,_,b⟩:=h.get i c e;exact F2 b
 case undef=>trivial
 case gone=>trivial
 case du=>trivial
 case str s=>exact F2 (show eY S ι H w (.str s) v from h)
 case arr a n f=>exact F2 (show eY S ι H w (.arr a n f) v from h)
 case ad g a n f=>exact(show False from h).elim
 all_goals trivial
def aj4{H:Heap}{x:J}(h:AV (EE H x)):AV x:=by
 have b: ∀c,pQ (PT H c)->pQ c:=λc a=>by cases c<;>first|exact a|trivial
 cases x<;>first|exact h|trivial|skip
 intro c a;exact b c (h _ (oc.2 ⟨c,a,rfl⟩))
def aef{S:ez}{ι:Nat->Option Nat}{st:O}{a:Act}{w:World}(h:a2 S ι st a w)(b o:Nat):pQ (M st.k b o):=by
 have c:=h.k b o
 cases e:M st.k b o<;>rw[e]at c<;>try trivial
 .obtain⟨_,x,v,_,_,_,d⟩:=c;exact F2 (S:=S) d
 .obtain⟨_,x,v,_,_,_,d⟩:=c;exact F2 (S:=S) d
 .exact c.2.elim (λg=> .inr ⟨g.1,g.2.1⟩) λg=> .inl g.1
def cj.ok{P:Program}{f:FuncId}{F:cj}(d:mN P f)(kL:(F.kL.all λk=>match k.1 with
  | .h _ _=>true
  |_=>false)=true) (h:Ff P f F _ (F.eO.flatMap dV.cD) F.f []):j9 P f F.hL:=by
 refine⟨d,λargs H o rs H' e T=> ?_⟩;unfold cj.hL at e;rw[dw]at e;replace e:=e.2
 split at e<;>try exact Ζ
 rename_i cs D
 split at e<;>try exact Ζ
 rename_i a C;rw[dw]at e;obtain⟨p,e⟩:=e
 cases e
 simp only[b2]at p;obtain⟨z,N,r⟩:=T;have y:=Em D;have R:=ey p.1;intro S ι w Z v V U;have⟨aC,t⟩:=pI z p.2 S v ι _ w U;have G:args.length=(F.args cs).length:=Cf (D3 (BY z)).1;have⟨B,Yp⟩:=Jd y;have I: ∀x∈gH F.eO (cs.take F.ej),AV x:=λx W=>by
  have⟨i,Q⟩:=l_ W;have⟨aO,_,m⟩:=t.n i (EE (F.heap (cs.drop F.ej)) x) (by simp [cj.args,Q]);exact aj4 (aj3 m)
 have O: ∀c∈cs.drop F.ej,pQ c:=by
  have M:getAll ⟨[],F.heap (cs.drop F.ej)⟩ (F.kL.map (·.1))=cs.drop F.ej:=N;rw[<-M];have Y: ∀(l:List (Key×aG)),(l.all λk=>match k.1 with
    | .h _ _=>true
    |_=>false)=true-> ∀c∈getAll ⟨[],F.heap (cs.drop F.ej)⟩ (l.map (·.1)),pQ c:=by
   intro l
   induction l with
   |nil=>intro _ c d;simp [getAll]at d
   |cons k l u=>
    intro j c d;simp only[Bv,b2]at j;simp only[Br,getAll,ih]at d;rcases d with rfl|d
    .obtain⟨X,gF⟩:=k
     cases X with
     |h b o=>exact aef t b o
     |_=>cases j.1
    .exact u j.2 c d
  exact Y F.kL kL
 have L:oA (F.eO.flatMap dV.cD) cs:=by
  have E:=tz F.eO (cs.take F.ej) B I;have m:oA [] (cs.drop F.ej):=by
   have:=F0 (n:=0) O;exact this
  have j:=x_ B;have J:(F.eO.flatMap dV.cD).length=(cs.take F.ej).length:=by
   have jH: ∀eO:List dV,(eO.flatMap dV.cD).length=(eO.flatMap dV.ck).length:=by
    intro eO
    induction eO with
    |nil=>rfl
    |cons s aL u=>
     simp only[gO,db,u]
     congr 1
     cases s<;>simp [dV.cD,dV.ck]
   rw[jH];exact j.symm
  have:=y1 J E m;rwa [iE,qz]at this
 have g:=eD.acf C y L h;rw[r6]at g;have K:gn P f (F.args cs) (F.heap (cs.drop F.ej)) a.down.rs a.down.H:=by
  unfold Ev at r
  cases A:a.down.pre with
  |none=>rw[A]at g;exact g
  |some q=>rw[A]at g r;exact g r
 exact K S aC w Z (by rw[<-R];exact v) (V.trans G) t
@[reducible] def ju:List aG->Type
  |[]=>Unit
  |k::a=>k.ty×ju a
def ju.hM:(a:List aG)->ju a->List J
 |[],_=>[]
 |k::a,s=>k.av s.1::ju.hM a s.2
def eD.nV{α:Type 1} :(b:List aG)->eD b α->ju b->α
 |[],a,_=>a
 |_::b,f,s=>eD.nV b (f s.1) s.2
def Kd:(k:aG)->k.ty->Prop
 | .int _,_=>True
 | .bool,_=>True
 | .str,s=>s.size<=549755813888
 | .ab _,s=>s.n<=549755813888
 | .ad _,s=>s.n<=549755813888
def QU:(a:List aG)->ju a->Prop
 |[],_=>True
 |k::a,s=>Kd k s.1/\QU a s.2
def aa8{k:aG}{x:k.ty}{p:Prop}(h:Kd k x->p):Bx true k x p:=by
 cases k<;>first|exact h trivial|exact h
def ca{i:Nat}(h:i<3):i=0\/i=1\/i=2:=by omega
theorem Υ{p:Prop}(h:p:=by rcases ca ‹_› with rfl|rfl|rfl<;>kernel_rfl):p:=h
structure dv where
 eO:List dV
 bF:List aG
 dq:List J->Heap
 gt:Heap->List J
 f:eD (eO.flatMap dV.ck++bF) (ULift qF)
def dv.ej(F:dv):Nat:=(F.eO.flatMap dV.ck).length
def dv.args(F:dv)(cs:List J):List J:=(gH F.eO (cs.take F.ej)).map (EE (F.dq (cs.drop F.ej)))
def fB(P:Program)(f:FuncId)(F:dv):(a:List aG)->List Bool->eD a (ULift qF)->List J->Prop
 |[],_,A,acc=>xU A.down.pre (gn P f (F.args acc) (F.dq (acc.drop F.ej)) A.down.rs A.down.H)
 |k::a,b,A,acc=> ∀x:k.ty,Bx (b.headD true) k x (fB P f F a b.tail (A x) (acc++[k.av x]))
def dv.hL(F:dv)(aa:List J)(H:Heap):Option (aZ×List J×Heap):=
 dp (Bf F.eO aa) (match et (F.eO.flatMap dV.ck++F.bF) (aa.flatMap Td++F.gt H)with
 |some cs=>match eD.ap _ F.f cs with
  |some a=>dp (Nat.beq H.length (F.dq (cs.drop F.ej)).length&&iy H.length ⟨F.args cs,F.dq (cs.drop F.ej)⟩)
    (some (.and (kZ ⟨aa,H⟩ ⟨F.args cs,F.dq (cs.drop F.ej)⟩) (.and (.e (F.gt (F.dq (cs.drop F.ej))) (cs.drop F.ej)) (Ev a.down.pre)),a.down.rs,a.down.H))
  |none=>none
 |none=>none)
def eD.acj{P:Program}{f:FuncId}{F:dv} : ∀{bF:List aG} {cD:List Bool} {A:eD bF (ULift qF)} {acc cs:List J} {a:ULift qF},eD.ap bF A cs=some a->et bF cs=some cs->oA cD cs->fB P f F bF cD A acc->xU a.down.pre (gn P f (F.args (acc++cs)) (F.dq ((acc++cs).drop F.ej)) a.down.rs a.down.H)
 |[],cD,A,acc,[],a,h,_,_,l=>by
  cases h
  rw[iE];exact l
 |[],_,_,_,_::_,_,h,_,_,_=>by cases h
 |_::_,_,_,_,[],_,h,_,_,_=>by cases h
 |k::bF,cD,A,acc,x::r,a,h,c,m,l=>by
  simp only[eD.ap]at h
  split at h<;>try exact Ζ
  rename_i v e;simp only[et]at c
  split at c<;>try exact Ζ
  rename_i y i
  split at c<;>try exact Ζ
  rename_i s n;simp only[hI,oa]at c;obtain⟨rfl,rfl⟩:=c;have q:y=k.av v:=by
   unfold aG.nrm at i;rw[e]at i
   cases i;rfl
  subst q;have o: ∀p,Bx (cD.headD true) k v p->p:=λp b=>by
   have d:=m.1
   cases j:cD.headD true with
   |false=>rw[j]at b;cases k<;>exact b
   |true=>
    rw[j]at b;have d:=d j
    cases k with
    |int _=>exact b
    |bool=>exact b
    |str=>exact b d
    |ab E=>exact b d
    |ad _=>exact b (d.resolve_right λg=>by cases g.1)
  have:=eD.acj (bF:=bF) (cD:=cD.tail) (acc:=acc++[k.av v]) h n m.2 (o _ (l v));rwa [e5,E3]at this
def dv.ok{P:Program}{f:FuncId}{F:dv}(G:mN P f)(Q: ∀H,∀c∈F.gt H,∃b o,c=M H b o)(h:fB P f F _ (F.eO.flatMap dV.cD) F.f []):j9 P f F.hL:=by
 refine⟨G,λargs H o rs H' e U=> ?_⟩;unfold dv.hL at e;rw[dw]at e;replace e:=e.2
 split at e<;>try exact Ζ
 rename_i cs z
 split at e<;>try exact Ζ
 rename_i a y;rw[dw]at e;obtain⟨j,e⟩:=e
 cases e
 simp only[b2]at j;obtain⟨t,L,k⟩:=U;have r:=Em z;have T:=ey j.1;intro S ι w Z m W V;have⟨aC,l⟩:=pI t j.2 S m ι _ w V;have B:args.length=(F.args cs).length:=Cf (D3 (BY t)).1;have⟨v,Yp⟩:=Jd r;have C: ∀x∈gH F.eO (cs.take F.ej),AV x:=λx X=>by
  have⟨i,O⟩:=l_ X;have⟨aO,_,g⟩:=l.n i (EE (F.dq (cs.drop F.ej)) x) (by simp [dv.args,O]);exact aj4 (aj3 g)
 have N: ∀c∈cs.drop F.ej,pQ c:=by
  have K:F.gt (F.dq (cs.drop F.ej))=cs.drop F.ej:=L;intro c p;rw[<-K]at p;have⟨b,o,e⟩:=Q _ c p;rw[e];exact aef l b o
 have J:oA (F.eO.flatMap dV.cD) cs:=by
  have A:=tz F.eO (cs.take F.ej) v C;have g:oA [] (cs.drop F.ej):=by
   have:=F0 (n:=0) N;exact this
  have R:=x_ v;have E:(F.eO.flatMap dV.cD).length=(cs.take F.ej).length:=by
   have D: ∀eO:List dV,(eO.flatMap dV.cD).length=(eO.flatMap dV.ck).length:=by
    intro eO
    induction eO with
    |nil=>rfl
    |cons s aL Y=>
     simp only[gO,db,Y]
     congr 1
     cases s<;>simp [dV.cD,dV.ck]
   rw[D];exact R.symm
  have:=y1 E A g;rwa [iE,qz]at this
 have d:=eD.acj y r J h;rw[r6]at d;have I:gn P f (F.args cs) (F.dq (cs.drop F.ej)) a.down.rs a.down.H:=by
  unfold Ev at k
  cases u:a.down.pre with
  |none=>rw[u]at d;exact d
  |some q=>rw[u]at d k;exact d k
 exact I S aC w Z (by rw[<-T];exact m) (W.trans B) l
def abk{P:Program}{f:FuncId}{F:dv} : ∀{bF:List aG} {A:eD bF (ULift qF)} {acc:List J},
  (∀s:ju bF,QU bF s->xU (eD.nV bF A s).down.pre (gn P f (F.args (acc++ju.hM bF s)) (F.dq ((acc++ju.hM bF s).drop F.ej)) (eD.nV bF A s).down.rs (eD.nV bF A s).down.H))->fB P f F bF [] A acc
 |[],A,acc,h=>by
  have:=h () trivial;simp only[ju.hM,iE]at this;exact this
 |k::bF,A,acc,h=>λx=>aa8 λb=>abk (bF:=bF) (A:=A x) (acc:=acc++[k.av x]) λs a=>by
  have:=h (x,s) ⟨b,a⟩;simp only[ju.hM,eD.nV]at this;simpa only[e5,E3]using this
def eD.part{α:Type 1} :(b a:List aG)->eD (b++a) α->ju b->eD a α
 |[],_,f,_=>f
 |_::b,a,f,s=>eD.part b a (f s.1) s.2
def aa7:List Bool->(a:List aG)->ju a->Prop
 |_,[],_=>True
 |b,k::a,s=>(b.headD true=true->Kd k s.1)/\aa7 b.tail a s.2
def amQ{b:Bool}{k:aG}{x:k.ty}{p:Prop}(h:(b=true->Kd k x)->p):Bx b k x p:=by
 cases b with
 |true=>exact aa8 λq=>h λ_=>q
 |false=>cases k<;>exact h λe=>by cases e
def kt{P:Program}{f:FuncId}{F:dv}{a:List aG} : ∀{bF:List aG} {cD:List Bool} {A:eD (bF++a) (ULift qF)} {acc:List J},
  (∀s:ju bF,aa7 cD bF s->fB P f F a (cD.drop bF.length) (eD.part bF a A s) (acc++ju.hM bF s))->fB P f F (bF++a) cD A acc
 |[],cD,A,acc,h=>by
  have:=h () trivial;simp only[ju.hM,iE,gx,List.drop_zero]at this;exact this
 |k::bF,cD,A,acc,h=>λx=>amQ λc=>kt (bF:=bF) (cD:=cD.tail) (A:=A x) (acc:=acc++[k.av x]) λs b=>by
  have:=h (x,s) ⟨c,b⟩;simp only[ju.hM]at this;have e:cD.drop (k::bF).length=cD.tail.drop bF.length:=by simp
  rw[e]at this;rw[e5,E3];exact this
end Go.ag
namespace Go.Proofs.YtcpfnfkibnjcfaaGreatDoor
open Go Go.RowKit Go.ag
abbrev JY(n:FuncId)(F:bt):Prop:=Kr Tryz.prog n F.eO _ (F.eO.flatMap dV.cD) F.f []
abbrev amB(n:FuncId)(F:cj):Prop:=Ff Tryz.prog n F _ (F.eO.flatMap dV.cD) F.f []
abbrev gW(n:FuncId)(F:dv):Prop:=fB Tryz.prog n F _ (F.eO.flatMap dV.cD) F.f []
abbrev bE(n:FuncId)(F:bt):Prop:=Fj Tryz.prog n F.hL
abbrev er(n:FuncId)(F:cj):Prop:=j9 Tryz.prog n F.hL
abbrev gX(n:FuncId)(F:dv):Prop:=j9 Tryz.prog n F.hL
end Go.Proofs.YtcpfnfkibnjcfaaGreatDoor
namespace Go.Proofs.YtcpfnfkibnjcfaaGreatDoor
open Go Go.ag
noncomputable abbrev aba:cZ:=⟨Int,inferInstance,1,bo,d3,asd⟩
noncomputable abbrev ds:cZ:=⟨bD,inferInstance,2,gB,d160,asa⟩
noncomputable abbrev b1:cZ:=⟨ByteArray,inferInstance,1,c5,d9,asp⟩
noncomputable abbrev dc:cZ:=⟨bW,inferInstance,2,gC,d164,asb⟩
noncomputable abbrev bx:cZ:=⟨ah,inferInstance,8,ho,d175,asc⟩
noncomputable abbrev b8:cZ:=⟨ay,inferInstance,7,hP,d137,ar_⟩
noncomputable abbrev dT:cZ:=⟨ax,inferInstance,10,eJ,d68,asn⟩
noncomputable abbrev bs:cZ:=⟨Int,inferInstance,1,cO,d5,asm⟩
noncomputable abbrev abb:cZ:=⟨I Int,inferInstance,1,adp,d43,asl⟩
noncomputable abbrev BA:cZ:=⟨bB,inferInstance,20,Tz,d122,ar9⟩
noncomputable abbrev gY:cZ:=⟨aK,inferInstance,10,adq,d75,aso⟩
noncomputable abbrev QY:cZ:=⟨ky,inferInstance,11,Le,ade,asg⟩
noncomputable abbrev kT:cZ:=⟨bI,inferInstance,12,Lc,ada,ase⟩
noncomputable abbrev c3:cZ:=⟨aw,inferInstance,2,Ld,adb,asf⟩
noncomputable abbrev dF:cZ:=⟨hz,inferInstance,9,ado,adg,asi⟩
noncomputable abbrev cR:cZ:=⟨ai,inferInstance,15,jw,adf,ash⟩
noncomputable abbrev QZ:cZ:=⟨h6,inferInstance,8,B6,ov,asj⟩
noncomputable def yW:List (Nat×cZ):=[(3,aba),(123,ds),(9,b1),(126,dc),(120,bx),(128,b8),(57,dT),(5,bs),(77,abb),(155,BA),(53,gY),(46,QY),(95,kT),(35,c3),(138,dF),(110,cR),(68,QZ)]
noncomputable def ajr(l:List (Nat×oj)):cm:=cm.of Tryz.prog iA yW l 0 []
def cK{l:List (Nat×oj)}(h:sl Tryz.prog l):(ajr l).env.dU:=cm.aj1 mixed aaB Ti h trivial
noncomputable def ajs(m:Nat)(l:List (Nat×oj))(a:List (Nat×om)):cm:=cm.of Tryz.prog iA yW l m a
def aCi{m:Nat}{l:List (Nat×oj)}{a:List (Nat×om)}(h:sl Tryz.prog l)(b:uc Tryz.prog a):(ajs m l a).env.dU:=cm.aj1 mixed aaB Ti h b
noncomputable abbrev ap9:cm:=ajr []
def gb:ap9.env.dU:=cK trivial
end Go.Proofs.YtcpfnfkibnjcfaaGreatDoor
namespace Go.ag
def cz.ae{R:List aG}(h:cz R):cz R:=.s .z h
def bJ{X:cm}{f:FuncId}{b:Func}{c:Code}{a:List J}{r:J}(R:c2)(h:cz R.ck)(p:Prop)(d:X.env.dU)(j:X.P.funcs[f]?=some b)(k:p)(ms:List j7:=[])(i:b.body=some c:=by exact rfl)(g:R.rs=b.results.toList:=by exact rfl)(e:((tx X R c h ms ⟨a++List.replicate (b.ntmps-a.length) .undef,[]⟩).1.prop,(tx X R c h ms ⟨a++List.replicate (b.ntmps-a.length) .undef,[]⟩).1.h0,(tx X R c h ms ⟨a++List.replicate (b.ntmps-a.length) .undef,[]⟩).2)=(p,(tx X R c h ms ⟨a++List.replicate (b.ntmps-a.length) .undef,[]⟩).1.iR,r):=by kernel_rfl):fR X.P f a r:=aEx d j i g e k
def ep{X:cm}{f:FuncId}{b:Func}{c:Code}{a:List J}{H:Heap}{rs:List J}{H':Heap}(R:c2)(h:cz R.ck)(p:Prop)(d:X.env.dU)(j:X.P.funcs[f]?=some b)(l:p)(ms:List j7:=[])(i:b.body=some c:=by exact rfl)(g:R.rs=b.results.toList:=by exact rfl)(k:Nat.ble H.length X.m=true:=by exact rfl)(e:((nU X R c h ms ⟨a++List.replicate (b.ntmps-a.length) .undef,H⟩).1.prop,(nU X R c h ms ⟨a++List.replicate (b.ntmps-a.length) .undef,H⟩).1.h0,(nU X R c h ms ⟨a++List.replicate (b.ntmps-a.length) .undef,H⟩).2)=(p,(nU X R c h ms ⟨a++List.replicate (b.ntmps-a.length) .undef,H⟩).1.iR,⟨rs,H'⟩):=by kernel_rfl):gn X.P f a H rs H':=ahh d j i g k e l
def eX{X:cm}{f:FuncId}{b:Func}{c:Code}{a:List J}{H:Heap}{rs:List J}{H':Heap}(R:c2)(h:cz R.ck)(p:Prop)(d:X.env.dU)(j:X.P.funcs[f]?=some b)(ms:List j7)(k:Nat.ble H.length X.m=true)(e:((nU X R c h ms ⟨a++List.replicate (b.ntmps-a.length) .undef,H⟩).1.prop,(nU X R c h ms ⟨a++List.replicate (b.ntmps-a.length) .undef,H⟩).1.h0,(nU X R c h ms ⟨a++List.replicate (b.ntmps-a.length) .undef,H⟩).2)=(p,(nU X R c h ms ⟨a++List.replicate (b.ntmps-a.length) .undef,H⟩).1.iR,⟨rs,H'⟩))(l:p)(i:b.body=some c:=by exact rfl)(g:R.rs=b.results.toList:=by exact rfl):gn X.P f a H rs H':=ahh d j i g k e l
end Go.ag
namespace Go.Proofs.YtcpfnfkibnjcfaaGreatDoor
open Go Go.RowKit Go.ag
def aR{n:Nat}{a:oj}{l:List (Nat×oj)}(k:Fj Tryz.prog n a)(h:sl Tryz.prog l):sl Tryz.prog ((n,a)::l):=⟨k,h⟩
def ba:sl Tryz.prog []:=trivial
def az{n:Nat}{a:om}{l:List (Nat×om)}(k:j9 Tryz.prog n a)(h:uc Tryz.prog l):uc Tryz.prog ((n,a)::l):=⟨k,h⟩
def bY:uc Tryz.prog []:=trivial
def bZ(m:Nat){l:List (Nat×oj)}{a:List (Nat×om)}(h:sl Tryz.prog l)(b:uc Tryz.prog a):(ajs m l a).env.dU:=aCi h b
def bG{n:FuncId}{F:bt}{a:Func}{c:Code}(h:Tryz.prog.funcs[n]?=some a)(p:JY n F)(b:a.body=some c:=by exact rfl)(d:(a.name== "runtime.NumGoroutine")=false:=by kernel_rfl):bE n F:=bt.ok ⟨a,c,h,b,d⟩ p
def ev{n:FuncId}{F:cj}{a:Func}{c:Code}(h:Tryz.prog.funcs[n]?=some a)(p:amB n F)(b:a.body=some c:=by exact rfl)(e:(a.name== "runtime.NumGoroutine")=false:=by kernel_rfl)(d:(F.kL.all λk=>match k.1 with|.h _ _=>true|_=>false)=true:=by kernel_rfl):er n F:=cj.ok ⟨a,c,h,b,e⟩ d p
def hi{n:FuncId}{F:dv}{a:Func}{c:Code}(e:∀H,∀c∈F.gt H,∃b o,c=M H b o)(h:Tryz.prog.funcs[n]?=some a)(p:gW n F)(d:a.body=some c:=by exact rfl)(f:(a.name== "runtime.NumGoroutine")=false:=by kernel_rfl):gX n F:=dv.ok ⟨a,c,h,d,f⟩ e p
def aDM(A:I ax):fR Tryz.prog 23 [aV 10 eJ A] (.ad false 10 A.n (λi=>eJ (A.at' i))):=by
 refine fR.oz λb=> ?_;have c:gP (aV 10 eJ A):=b.1;have e:A.n<=549755813888:=c.len;refine yb (E:=AL []) (hW trivial) Tryz.func23 rfl _ _ ?_;refine WP.step (hW trivial) ⟨[aV 10 eJ A,U,.aH,U,U,U,U,U],[]⟩ (((A.n=A.n/\ ∀i,i<A.n->eJ (A.at' i)=eJ (A.at' i))/\(.aH:J)= .aH/\True)/\True/\true=true) Ξ ⟨⟨⟨rfl,λ_ _=>rfl⟩,rfl,trivial⟩,trivial,rfl⟩ ?_;refine WP.IM ⟨[aV 10 eJ A,U,.aH,U,U,U,U,U],[]⟩ ?_ ?_
 .refine WP.FW (T:=36) (hW (l:=[]) trivial) rfl rfl rfl rfl rfl rfl rfl rfl rfl (by show 3<8;omega) λq d=> ?_;refine WP.FQ q rfl (λh=> ?_) (λh=> ?_)
  .refine WP.step (hW trivial) ⟨[aV 10 eJ A,U,.aH,U,U,U,U,U],[]⟩ (((A.n=A.n/\ ∀i,i<A.n->eJ (A.at' i)=eJ (A.at' i))/\(.aH:J)= .aH/\True)/\True/\true=true) Ξ ⟨⟨⟨rfl,λ_ _=>rfl⟩,rfl,trivial⟩,trivial,rfl⟩ ?_;exact WP.rW (True/\A.n=0) Ξ ⟨trivial,d h⟩
  .exact WP.JK (((A.n=A.n/\ ∀i,i<A.n->eJ (A.at' i)=eJ (A.at' i))/\(.aH:J)= .aH/\True)/\True/\true=true) Ξ ⟨⟨⟨rfl,λ_ _=>rfl⟩,rfl,trivial⟩,trivial,rfl⟩
 .refine WP.step (hW trivial) ⟨[aV 10 eJ A,U,.own 0 A.n,U,U,U,U,U],[[.ad false 10 A.n (λi=>eJ (A.at' i))]]⟩ (∃h:Nat->List J,(∀i,i<0->ll (([]:List (List J)).getD i []) (h i))/\(0:Nat)=0/\0+A.n<=549755813888/\ ∃a:Nat->List J,(∀i,i<0+A.n->iH 0 h (λi=>eJ (A.at' i)) i=a i)/\((A.n=A.n/\ ∀i,i<A.n->eJ (A.at' i)=eJ (A.at' i))/\(.own 0 (0+A.n):J)= .own 0 A.n/\True)/\(((0+A.n=A.n/\ ∀i,i<A.n->ll (a i) (eJ (A.at' i)))/\True)/\True)/\true=true) Ξ
   ⟨λ_=>[],λi h=>absurd h (dJ i),rfl,Ω,λi=>eJ (A.at' i),λi _=>Fw _ _ i,⟨⟨rfl,λ_ _=>rfl⟩,by rw[dj],trivial⟩,⟨⟨⟨dj _,λ_ _=>AQ _⟩,trivial⟩,trivial⟩,rfl⟩ ?_
  exact WP.rW (True/\((A.n:Nat)=A.n/\A.n=A.n/\ ∀i,i<A.n->eJ (A.at' i)=eJ (A.at' i))) Ξ ⟨trivial,rfl,rfl,λ_ _=>rfl⟩
def aDN(A:I Int):fR Tryz.prog 112 [aV 1 cO A] (.ad false 1 A.n (λi=>cO (A.at' i))):=by
 refine fR.oz λb=> ?_;have c:gP (aV 1 cO A):=b.1;have e:A.n<=549755813888:=c.len;refine yb (E:=AL []) (hW trivial) Tryz.func112 rfl _ _ ?_;refine WP.step (hW trivial) ⟨[aV 1 cO A,U,.aH,U,U,U,U,U],[]⟩ (((A.n=A.n/\ ∀i,i<A.n->cO (A.at' i)=cO (A.at' i))/\(.aH:J)= .aH/\True)/\True/\true=true) Ξ ⟨⟨⟨rfl,λ_ _=>rfl⟩,rfl,trivial⟩,trivial,rfl⟩ ?_;refine WP.IM ⟨[aV 1 cO A,U,.aH,U,U,U,U,U],[]⟩ ?_ ?_
 .refine WP.FW (T:=77) (hW (l:=[]) trivial) rfl rfl rfl rfl rfl rfl rfl rfl rfl (by show 3<8;omega) λq d=> ?_;refine WP.FQ q rfl (λh=> ?_) (λh=> ?_)
  .refine WP.step (hW trivial) ⟨[aV 1 cO A,U,.aH,U,U,U,U,U],[]⟩ (((A.n=A.n/\ ∀i,i<A.n->cO (A.at' i)=cO (A.at' i))/\(.aH:J)= .aH/\True)/\True/\true=true) Ξ ⟨⟨⟨rfl,λ_ _=>rfl⟩,rfl,trivial⟩,trivial,rfl⟩ ?_;exact WP.rW (True/\A.n=0) Ξ ⟨trivial,d h⟩
  .exact WP.JK (((A.n=A.n/\ ∀i,i<A.n->cO (A.at' i)=cO (A.at' i))/\(.aH:J)= .aH/\True)/\True/\true=true) Ξ ⟨⟨⟨rfl,λ_ _=>rfl⟩,rfl,trivial⟩,trivial,rfl⟩
 .refine WP.step (hW trivial) ⟨[aV 1 cO A,U,.own 0 A.n,U,U,U,U,U],[[.ad false 1 A.n (λi=>cO (A.at' i))]]⟩ (∃h:Nat->List J,(∀i,i<0->ll (([]:List (List J)).getD i []) (h i))/\(0:Nat)=0/\0+A.n<=549755813888/\ ∃a:Nat->List J,(∀i,i<0+A.n->iH 0 h (λi=>cO (A.at' i)) i=a i)/\((A.n=A.n/\ ∀i,i<A.n->cO (A.at' i)=cO (A.at' i))/\(.own 0 (0+A.n):J)= .own 0 A.n/\True)/\(((0+A.n=A.n/\ ∀i,i<A.n->ll (a i) (cO (A.at' i)))/\True)/\True)/\true=true) Ξ
   ⟨λ_=>[],λi h=>absurd h (dJ i),rfl,Ω,λi=>cO (A.at' i),λi _=>Fw _ _ i,⟨⟨rfl,λ_ _=>rfl⟩,by rw[dj],trivial⟩,⟨⟨⟨dj _,λ_ _=>AQ _⟩,trivial⟩,trivial⟩,rfl⟩ ?_
  exact WP.rW (True/\((A.n:Nat)=A.n/\A.n=A.n/\ ∀i,i<A.n->cO (A.at' i)=cO (A.at' i))) Ξ ⟨trivial,rfl,rfl,λ_ _=>rfl⟩
def aDQ(A:I bD):fR Tryz.prog 35 [aV 2 gB A] (.ad false 2 A.n (λi=>gB (A.at' i))):=by
 refine fR.oz λb=> ?_;have c:gP (aV 2 gB A):=b.1;have e:A.n<=549755813888:=c.len;refine yb (E:=AL []) (hW trivial) Tryz.func35 rfl _ _ ?_;refine WP.step (hW trivial) ⟨[aV 2 gB A,U,.aH,U,U,U,U,U],[]⟩ (((A.n=A.n/\ ∀i,i<A.n->gB (A.at' i)=gB (A.at' i))/\(.aH:J)= .aH/\True)/\True/\true=true) Ξ ⟨⟨⟨rfl,λ_ _=>rfl⟩,rfl,trivial⟩,trivial,rfl⟩ ?_;refine WP.IM ⟨[aV 2 gB A,U,.aH,U,U,U,U,U],[]⟩ ?_ ?_
 .refine WP.FW (T:=115) (hW (l:=[]) trivial) rfl rfl rfl rfl rfl rfl rfl rfl rfl (by show 3<8;omega) λq d=> ?_;refine WP.FQ q rfl (λh=> ?_) (λh=> ?_)
  .refine WP.step (hW trivial) ⟨[aV 2 gB A,U,.aH,U,U,U,U,U],[]⟩ (((A.n=A.n/\ ∀i,i<A.n->gB (A.at' i)=gB (A.at' i))/\(.aH:J)= .aH/\True)/\True/\true=true) Ξ ⟨⟨⟨rfl,λ_ _=>rfl⟩,rfl,trivial⟩,trivial,rfl⟩ ?_;exact WP.rW (True/\A.n=0) Ξ ⟨trivial,d h⟩
  .exact WP.JK (((A.n=A.n/\ ∀i,i<A.n->gB (A.at' i)=gB (A.at' i))/\(.aH:J)= .aH/\True)/\True/\true=true) Ξ ⟨⟨⟨rfl,λ_ _=>rfl⟩,rfl,trivial⟩,trivial,rfl⟩
 .refine WP.step (hW trivial) ⟨[aV 2 gB A,U,.own 0 A.n,U,U,U,U,U],[[.ad false 2 A.n (λi=>gB (A.at' i))]]⟩ (∃h:Nat->List J,(∀i,i<0->ll (([]:List (List J)).getD i []) (h i))/\(0:Nat)=0/\0+A.n<=549755813888/\ ∃a:Nat->List J,(∀i,i<0+A.n->iH 0 h (λi=>gB (A.at' i)) i=a i)/\((A.n=A.n/\ ∀i,i<A.n->gB (A.at' i)=gB (A.at' i))/\(.own 0 (0+A.n):J)= .own 0 A.n/\True)/\(((0+A.n=A.n/\ ∀i,i<A.n->ll (a i) (gB (A.at' i)))/\True)/\True)/\true=true) Ξ
   ⟨λ_=>[],λi h=>absurd h (dJ i),rfl,Ω,λi=>gB (A.at' i),λi _=>Fw _ _ i,⟨⟨rfl,λ_ _=>rfl⟩,by rw[dj],trivial⟩,⟨⟨⟨dj _,λ_ _=>AQ _⟩,trivial⟩,trivial⟩,rfl⟩ ?_
  exact WP.rW (True/\((A.n:Nat)=A.n/\A.n=A.n/\ ∀i,i<A.n->gB (A.at' i)=gB (A.at' i))) Ξ ⟨trivial,rfl,rfl,λ_ _=>rfl⟩
def aDR(A:I z):fR Tryz.prog 20 [aV 1 c5 A] (.ad false 1 A.n (λi=>c5 (A.at' i))):=by
 refine fR.oz λb=> ?_;have c:gP (aV 1 c5 A):=b.1;have e:A.n<=549755813888:=c.len;refine yb (E:=AL []) (hW trivial) Tryz.func20 rfl _ _ ?_;refine WP.step (hW trivial) ⟨[aV 1 c5 A,U,.aH,U,U,U,U,U],[]⟩ (((A.n=A.n/\ ∀i,i<A.n->c5 (A.at' i)=c5 (A.at' i))/\(.aH:J)= .aH/\True)/\True/\true=true) Ξ ⟨⟨⟨rfl,λ_ _=>rfl⟩,rfl,trivial⟩,trivial,rfl⟩ ?_;refine WP.IM ⟨[aV 1 c5 A,U,.aH,U,U,U,U,U],[]⟩ ?_ ?_
 .refine WP.FW (T:=91) (hW (l:=[]) trivial) rfl rfl rfl rfl rfl rfl rfl rfl rfl (by show 3<8;omega) λq d=> ?_;refine WP.FQ q rfl (λh=> ?_) (λh=> ?_)
  .refine WP.step (hW trivial) ⟨[aV 1 c5 A,U,.aH,U,U,U,U,U],[]⟩ (((A.n=A.n/\ ∀i,i<A.n->c5 (A.at' i)=c5 (A.at' i))/\(.aH:J)= .aH/\True)/\True/\true=true) Ξ ⟨⟨⟨rfl,λ_ _=>rfl⟩,rfl,trivial⟩,trivial,rfl⟩ ?_;exact WP.rW (True/\A.n=0) Ξ ⟨trivial,d h⟩
  .exact WP.JK (((A.n=A.n/\ ∀i,i<A.n->c5 (A.at' i)=c5 (A.at' i))/\(.aH:J)= .aH/\True)/\True/\true=true) Ξ ⟨⟨⟨rfl,λ_ _=>rfl⟩,rfl,trivial⟩,trivial,rfl⟩
 .refine WP.step (hW trivial) ⟨[aV 1 c5 A,U,.own 0 A.n,U,U,U,U,U],[[.ad false 1 A.n (λi=>c5 (A.at' i))]]⟩ (∃h:Nat->List J,(∀i,i<0->ll (([]:List (List J)).getD i []) (h i))/\(0:Nat)=0/\0+A.n<=549755813888/\ ∃a:Nat->List J,(∀i,i<0+A.n->iH 0 h (λi=>c5 (A.at' i)) i=a i)/\((A.n=A.n/\ ∀i,i<A.n->c5 (A.at' i)=c5 (A.at' i))/\(.own 0 (0+A.n):J)= .own 0 A.n/\True)/\(((0+A.n=A.n/\ ∀i,i<A.n->ll (a i) (c5 (A.at' i)))/\True)/\True)/\true=true) Ξ
   ⟨λ_=>[],λi h=>absurd h (dJ i),rfl,Ω,λi=>c5 (A.at' i),λi _=>Fw _ _ i,⟨⟨rfl,λ_ _=>rfl⟩,by rw[dj],trivial⟩,⟨⟨⟨dj _,λ_ _=>AQ _⟩,trivial⟩,trivial⟩,rfl⟩ ?_
  exact WP.rW (True/\((A.n:Nat)=A.n/\A.n=A.n/\ ∀i,i<A.n->c5 (A.at' i)=c5 (A.at' i))) Ξ ⟨trivial,rfl,rfl,λ_ _=>rfl⟩
def aDS(A:I bW):fR Tryz.prog 36 [aV 2 gC A] (.ad false 2 A.n (λi=>gC (A.at' i))):=by
 refine fR.oz λb=> ?_;have c:gP (aV 2 gC A):=b.1;have e:A.n<=549755813888:=c.len;refine yb (E:=AL []) (hW trivial) Tryz.func36 rfl _ _ ?_;refine WP.step (hW trivial) ⟨[aV 2 gC A,U,.aH,U,U,U,U,U],[]⟩ (((A.n=A.n/\ ∀i,i<A.n->gC (A.at' i)=gC (A.at' i))/\(.aH:J)= .aH/\True)/\True/\true=true) Ξ ⟨⟨⟨rfl,λ_ _=>rfl⟩,rfl,trivial⟩,trivial,rfl⟩ ?_;refine WP.IM ⟨[aV 2 gC A,U,.aH,U,U,U,U,U],[]⟩ ?_ ?_
 .refine WP.FW (T:=116) (hW (l:=[]) trivial) rfl rfl rfl rfl rfl rfl rfl rfl rfl (by show 3<8;omega) λq d=> ?_;refine WP.FQ q rfl (λh=> ?_) (λh=> ?_)
  .refine WP.step (hW trivial) ⟨[aV 2 gC A,U,.aH,U,U,U,U,U],[]⟩ (((A.n=A.n/\ ∀i,i<A.n->gC (A.at' i)=gC (A.at' i))/\(.aH:J)= .aH/\True)/\True/\true=true) Ξ ⟨⟨⟨rfl,λ_ _=>rfl⟩,rfl,trivial⟩,trivial,rfl⟩ ?_;exact WP.rW (True/\A.n=0) Ξ ⟨trivial,d h⟩
  .exact WP.JK (((A.n=A.n/\ ∀i,i<A.n->gC (A.at' i)=gC (A.at' i))/\(.aH:J)= .aH/\True)/\True/\true=true) Ξ ⟨⟨⟨rfl,λ_ _=>rfl⟩,rfl,trivial⟩,trivial,rfl⟩
 .refine WP.step (hW trivial) ⟨[aV 2 gC A,U,.own 0 A.n,U,U,U,U,U],[[.ad false 2 A.n (λi=>gC (A.at' i))]]⟩ (∃h:Nat->List J,(∀i,i<0->ll (([]:List (List J)).getD i []) (h i))/\(0:Nat)=0/\0+A.n<=549755813888/\ ∃a:Nat->List J,(∀i,i<0+A.n->iH 0 h (λi=>gC (A.at' i)) i=a i)/\((A.n=A.n/\ ∀i,i<A.n->gC (A.at' i)=gC (A.at' i))/\(.own 0 (0+A.n):J)= .own 0 A.n/\True)/\(((0+A.n=A.n/\ ∀i,i<A.n->ll (a i) (gC (A.at' i)))/\True)/\True)/\true=true) Ξ
   ⟨λ_=>[],λi h=>absurd h (dJ i),rfl,Ω,λi=>gC (A.at' i),λi _=>Fw _ _ i,⟨⟨rfl,λ_ _=>rfl⟩,by rw[dj],trivial⟩,⟨⟨⟨dj _,λ_ _=>AQ _⟩,trivial⟩,trivial⟩,rfl⟩ ?_
  exact WP.rW (True/\((A.n:Nat)=A.n/\A.n=A.n/\ ∀i,i<A.n->gC (A.at' i)=gC (A.at' i))) Ξ ⟨trivial,rfl,rfl,λ_ _=>rfl⟩
def anq:bt:=⟨[.v (.ab dT)],λA=>⟨⟨none,(aG.ad dT).av A⟩⟩⟩
def DZ:bE 23 anq:=bG Tryz.func23 λA _ _=>aDM A
def anP:bt:=⟨[.v (.ab bs)],λA=>⟨⟨none,(aG.ad bs).av A⟩⟩⟩
def aii:bE 112 anP:=bG Tryz.func112 λA _ _=>aDN A
def aoz:bt:=⟨[.v (.ab ds)],λA=>⟨⟨none,(aG.ad ds).av A⟩⟩⟩
def XI:bE 35 aoz:=bG Tryz.func35 λA _ _=>aDQ A
def aoA:bt:=⟨[.v (.ab b1)],λA=>⟨⟨none,(aG.ad b1).av A⟩⟩⟩
def D2:bE 20 aoA:=bG Tryz.func20 λA _ _=>aDR A
def aoB:bt:=⟨[.v (.ab dc)],λA=>⟨⟨none,(aG.ad dc).av A⟩⟩⟩
def XJ:bE 36 aoB:=bG Tryz.func36 λA _ _=>aDS A
def CW(A g:z):Int:=Lib.compareBytes A.data.toList g.data.toList
def aCY:Extern.findNext Tryz.f196=none:=by kernel_rfl
def ate:Extern.find Tryz.f196=some Extern.BytealgCompare.compare:=by kernel_rfl
def aDO(A g:z):fR Tryz.prog 185 [.str A,.str g] (.int .i64 (CW A g)):=by
 refine yb (E:=AL []) (hW trivial) Tryz.func185 rfl _ _ ?_;refine WP.step (hW trivial) ⟨[.str A,.str g,U,U,U,U,U,U],[]⟩ (((A:z)=A/\(g:z)=g/\True)/\True/\true=true) Ξ ⟨⟨rfl,rfl,trivial⟩,trivial,rfl⟩ ?_;refine WP.asV (x:=A) (y:=g) (k:= .i64) (r:=CW A g) rfl rfl rfl rfl rfl rfl rfl rfl rfl rfl rfl rfl rfl ⟨Δ,Δ⟩ ⟨by show 5<8;omega,by show 6<8;omega,by show 7<8;omega⟩ (λρ w e b c=> ?_) ?_
 .have f:=Lib.run_compareString (P:=Tryz.prog) A g w;have d:Tryz.prog.funcs[196]? =some Tryz.f196:=Tryz.func196;have a:=run_callFunc_extern (P:=Tryz.prog) d Ξ rfl aCY ate #[.string A,.string g] w;rw[f]at a;simp [execOp,resolve,Deferred.ofValue,invoke,e,b,c];exact a
 .exact WP.rW (True/\(.int .i64 (CW A g):J)= .int .i64 (CW A g)) Ξ ⟨trivial,rfl⟩
def aok:bt:=⟨[.v ar,.v ar],λA g=>⟨⟨none,.int .i64 (CW A g)⟩⟩⟩
def azo:bE 185 aok:=bG Tryz.func185 λA _ g _=>aDO A g
section
def Ρ(i k:Nat):J:=.ptr 0 (33*i+k)
abbrev A1(a b:Int):bB:=⟨1,a,b,0,0,0,false,0,0,0,ε,ε,ε,0,0,0,0,B,0,B⟩
abbrev PO(v:Int)(x:ax):bB:=⟨2,0,0,v,x.r,x.K,x.G,x.q,x.j,x.m,x.ak,x.aA,x.i,x.aJ,0,0,0,B,0,B⟩
abbrev A2(i t a:Int)(b:I ah)(c:Int)(d:I ay):bB:=⟨3,0,0,0,0,0,false,0,0,0,ε,ε,ε,0,i,t,a,b,c,d⟩
structure N where
 aM:Int
 up:Bool
 b5:Int
 ro:Int
 D:Int
 bl:Int
 e:Int
 lt:Int
 li:I ax
 b9:Int
 g9:Int
 hE:Int
 fU:I ah
 dW:Int
 fT:I ay
 fL:Int
 dx:I ah
 fx:Int
 eN:I ay
 co:Int
 v0:Bool
 v1:Bool
 v2:Bool
 eL:Int
 ef:Int
 ek:Int
 hX:Int
 q1:Int
 gw:Int
 ws:I hz
 a_:I Int
 bp:Int
 a1:I ai
instance:Inhabited N:=⟨⟨default,default,default,default,default,default,default,default,default,default,default,default,default,default,default,default,default,default,default,default,default,default,default,default,default,default,default,default,default,default,default,default,default⟩⟩
structure lx where
 r:Int
 K:Int
 G:Int
 q:z
 j:z
 m:z
 ak:Int
structure aq where
 a:N
 b:N
 c:N
 s:I ai
 told:I bI
 aU:I aw
def aq.h(C:aq)(i:Nat):N:=match i with
 |0=>C.a
 |1=>C.b
 |_=>C.c
def aq.set(C:aq)(i:Nat)(n:N):aq:=match i with
 |0=>{C with a:=n}
 |1=>{C with b:=n}
 |_=>{C with c:=n}
def aq.put(C:aq)(i:Nat)(n:N)(L:I ai)(aj:I bI)(an:I aw):aq:=match i with
 |0=>⟨n,C.b,C.c,L,aj,an⟩
 |1=>⟨C.a,n,C.c,L,aj,an⟩
 |_=>⟨C.a,C.b,n,L,aj,an⟩
def AP(o:Nat):List (Key×aG):=[(.h 0 (o+0),a),(.h 0 (o+1),l),(.h 0 (o+2),a),(.h 0 (o+3),a),(.h 0 (o+4),a),(.h 0 (o+5),a),(.h 0 (o+6),a),(.h 0 (o+7),a),(.h 0 (o+8),.ab dT),(.h 0 (o+9),a),(.h 0 (o+10),a),(.h 0 (o+11),a),(.h 0 (o+12),.ab bx),(.h 0 (o+13),a),(.h 0 (o+14),.ab b8),(.h 0 (o+15),a),(.h 0 (o+16),.ab bx),(.h 0 (o+17),a),(.h 0 (o+18),.ab b8),(.h 0 (o+19),a),(.h 0 (o+20),l),(.h 0 (o+21),l),(.h 0 (o+22),l),(.h 0 (o+23),a),(.h 0 (o+24),a),(.h 0 (o+25),a),(.h 0 (o+26),a),(.h 0 (o+27),a),(.h 0 (o+28),a),(.h 0 (o+30),.ab bs),(.h 0 (o+31),a)]
def aS:List Nat:=[1,2,3,4,5,6,7,8,9]
def Jr(i:Nat):Nat:=match i with
 |0=>1
 |_=>0
def Js(i:Nat):Nat:=match i with
 |2=>1
 |_=>2
variable(C:aq)(i:Nat)(ids:List Nat)(n:N)
def AX(i:Nat):List (Key×aG):=[(.h (ids.getD (2*i) 0) 0,.ad dF),(.h (ids.getD (2*i+1) 0) 0,.ad cR)]
def gA:List (Key×aG):=AP (33*i)++AP (33*Jr i)++AP (33*Js i)++AX ids i++AX ids (Jr i)++AX ids (Js i)++[(.h (ids.getD 6 0) 0,.ad cR),(.h (ids.getD 7 0) 0,.ad kT),(.h (ids.getD 8 0) 0,.ad c3)]
def AO(n:N)(w o:Nat):List J:=[c n.aM,.bool n.up,c n.b5,c n.ro,c n.D,c n.bl,c n.e,c n.lt,aV 10 eJ n.li,c n.b9,c n.g9,c n.hE,aV 8 ho n.fU,c n.dW,aV 7 hP n.fT,c n.fL,aV 8 ho n.dx,c n.fx,aV 7 hP n.eN,c n.co,.bool n.v0,.bool n.v1,.bool n.v2,c n.eL,c n.ef,c n.ek,c n.hX,c n.q1,c n.gw,.own w (n.ws).n,aV 1 cO n.a_,c n.bp,.own o (n.a1).n]
def posOf(b:Nat):List Nat->Nat->Option Nat
 |[],_=>none
 |x::l,k=>match Nat.beq x b with
  |true=>some k
  |false=>posOf b l (k+1)
def cx(ids:List Nat)(m:Nat)(C:aq):Heap:=aq.casesOn C λa c d mW e aT=>(AO a (ids.getD 0 0) (ids.getD 1 0)++AO c (ids.getD 2 0) (ids.getD 3 0)++AO d (ids.getD 4 0) (ids.getD 5 0)++[.own (ids.getD 6 0) mW.n,.own (ids.getD 7 0) e.n,.own (ids.getD 8 0) aT.n])::
 (List.range (9+m)).map λb=>match posOf (b+1) ids 0 with
  |some p=>[([(aG.ad dF).av a.ws,(aG.ad cR).av a.a1,(aG.ad dF).av c.ws,(aG.ad cR).av c.a1,(aG.ad dF).av d.ws,(aG.ad cR).av d.a1,(aG.ad cR).av mW,(aG.ad kT).av e,(aG.ad c3).av aT]:List J).getD p .undef]
  |none=>[dP]
def aje:List (Nat×List J)->Nat->Option (List J)
 |[],_=>none
 |x::l,b=>match Nat.beq x.1 b with
  |true=>some x.2
  |false=>aje l b
def cA(ids:List Nat)(m:Nat)(C:aq)(ext:List (Nat×List J)):Heap:=aq.casesOn C λa c d mW e aT=>(AO a (ids.getD 0 0) (ids.getD 1 0)++AO c (ids.getD 2 0) (ids.getD 3 0)++AO d (ids.getD 4 0) (ids.getD 5 0)++[.own (ids.getD 6 0) mW.n,.own (ids.getD 7 0) e.n,.own (ids.getD 8 0) aT.n])::
 (List.range (9+m)).map λb=>match posOf (b+1) ids 0 with
  |some p=>[([(aG.ad dF).av a.ws,(aG.ad cR).av a.a1,(aG.ad dF).av c.ws,(aG.ad cR).av c.a1,(aG.ad dF).av d.ws,(aG.ad cR).av d.a1,(aG.ad cR).av mW,(aG.ad kT).av e,(aG.ad c3).av aT]:List J).getD p .undef]
  |none=>match aje ext (b+1)with
   |some l=>l
   |none=>match Nat.ble b 8 with
    |true=>[dP]
    |false=>[]
abbrev cn:List aG:=[a,l,a,a,a,a,a,a,.ab dT,a,a,a,.ab bx,a,.ab b8,a,.ab bx,a,.ab b8,a,l,l,l,a,a,a,a,a,a,.ab bs,a,a,l,a,a,a,a,a,a,.ab dT,a,a,a,.ab bx,a,.ab b8,a,.ab bx,a,.ab b8,a,l,l,l,a,a,a,a,a,a,.ab bs,a,a,l,a,a,a,a,a,a,.ab dT,a,a,a,.ab bx,a,.ab b8,a,.ab bx,a,.ab b8,a,l,l,l,a,a,a,a,a,a,.ab bs,a,.ad dF,.ad cR,.ad dF,.ad cR,.ad dF,.ad cR,.ad cR,.ad kT,.ad c3]
def cW{α:Type 1}(G:aq->α):eD cn α:=λa0 aL aO w I T jb mS pE a9 a d e f g h i j k l m n o p q r s t u v x y z A B C D E F H J K L M N O P Q R S U V W X Y Z RW RX RY RZ R0 R1 R2 R3 R4 R5 R6 R7 R8 R9 R_ Se Sf Sg Sh Si Sj Sk Sl Sm Sn Sr St Su Sv Sw Sx Sy Sz SA SB SC SD SE SF SG SH SI SJ SK b c=>G ⟨⟨a0,aL,aO,w,I,T,jb,mS,pE,a9,a,d,e,f,g,h,i,j,k,l,m,n,o,p,q,r,s,t,u,SE,v,x,SF⟩,⟨y,z,A,B,C,D,E,F,H,J,K,L,M,N,O,P,Q,R,S,U,V,W,X,Y,Z,RW,RX,RY,RZ,SG,R0,R1,SH⟩,⟨R2,R3,R4,R5,R6,R7,R8,R9,R_,Se,Sf,Sg,Sh,Si,Sj,Sk,Sl,Sm,Sn,Sr,St,Su,Sv,Sw,Sx,Sy,Sz,SA,SB,SI,SC,SD,SJ⟩,SK,b,c⟩
def WB:ju cn:=(C.a.aM,C.a.up,C.a.b5,C.a.ro,C.a.D,C.a.bl,C.a.e,C.a.lt,C.a.li,C.a.b9,C.a.g9,C.a.hE,C.a.fU,C.a.dW,C.a.fT,C.a.fL,C.a.dx,C.a.fx,C.a.eN,C.a.co,C.a.v0,C.a.v1,C.a.v2,C.a.eL,C.a.ef,C.a.ek,C.a.hX,C.a.q1,C.a.gw,C.a.a_,C.a.bp,C.b.aM,C.b.up,C.b.b5,C.b.ro,C.b.D,C.b.bl,C.b.e,C.b.lt,C.b.li,C.b.b9,C.b.g9,C.b.hE,C.b.fU,C.b.dW,C.b.fT,C.b.fL,C.b.dx,C.b.fx,C.b.eN,C.b.co,C.b.v0,C.b.v1,C.b.v2,C.b.eL,C.b.ef,C.b.ek,C.b.hX,C.b.q1,C.b.gw,C.b.a_,C.b.bp,C.c.aM,C.c.up,C.c.b5,C.c.ro,C.c.D,C.c.bl,C.c.e,C.c.lt,C.c.li,C.c.b9,C.c.g9,C.c.hE,C.c.fU,C.c.dW,C.c.fT,C.c.fL,C.c.dx,C.c.fx,C.c.eN,C.c.co,C.c.v0,C.c.v1,C.c.v2,C.c.eL,C.c.ef,C.c.ek,C.c.hX,C.c.q1,C.c.gw,C.c.a_,C.c.bp,C.a.ws,C.a.a1,C.b.ws,C.b.a1,C.c.ws,C.c.a1,C.s,C.told,C.aU,())
def Ts(s:ju cn):aq:=match s with
 |(a0,aL,aO,x,I,T,jb,mS,pE,a9,a,d,e,f,g,h,i,j,k,l,m,n,o,p,q,r,t,u,v,w,y,z,A,B,C,D,E,F,G,H,J,K,L,M,N,O,P,Q,R,S,U,V,W,X,Y,Z,RW,RX,RY,RZ,R0,R1,R2,R3,R4,R5,R6,R7,R8,R9,R_,Se,Sf,Sg,Sh,Si,Sj,Sk,Sl,Sm,Sn,Sr,St,Su,Sv,Sw,Sx,Sy,Sz,SA,SB,SC,SD,SE,SF,SG,SH,SI,SJ,SK,b,c,_)=>⟨⟨a0,aL,aO,x,I,T,jb,mS,pE,a9,a,d,e,f,g,h,i,j,k,l,m,n,o,p,q,r,t,u,v,SE,w,y,SF⟩,⟨z,A,B,C,D,E,F,G,H,J,K,L,M,N,O,P,Q,R,S,U,V,W,X,Y,Z,RW,RX,RY,RZ,SG,R0,R1,SH⟩,⟨R2,R3,R4,R5,R6,R7,R8,R9,R_,Se,Sf,Sg,Sh,Si,Sj,Sk,Sl,Sm,Sn,Sr,St,Su,Sv,Sw,Sx,Sy,Sz,SA,SB,SI,SC,SD,SJ⟩,SK,b,c⟩
def jd:List J:=ju.hM cn (WB C)
def ahn(s:ju cn):WB (Ts s)=s:=rfl
def awT{α:Type 1}(G:aq->α)(s:ju cn):eD.nV cn (cW G) s=G (Ts s):=by kernel_rfl
def gz(n:N):Prop:=n.li.n<=549755813888/\n.fU.n<=549755813888/\n.fT.n<=549755813888/\n.dx.n<=549755813888/\n.eN.n<=549755813888/\n.ws.n<=549755813888/\n.a_.n<=549755813888/\n.a1.n<=549755813888
def fa(C:aq):Prop:=gz C.a/\gz C.b/\gz C.c/\C.s.n<=549755813888/\C.told.n<=549755813888/\C.aU.n<=549755813888
def arH(C:aq)(h:QU cn (WB C)):fa C:=by
 have h:True/\True/\True/\True/\True/\True/\True/\True/\C.a.li.n<=549755813888/\True/\True/\True/\C.a.fU.n<=549755813888/\True/\C.a.fT.n<=549755813888/\True/\C.a.dx.n<=549755813888/\True/\C.a.eN.n<=549755813888/\True/\True/\True/\True/\True/\True/\True/\True/\True/\True/\C.a.a_.n<=549755813888/\True/\True/\True/\True/\True/\True/\True/\True/\True/\C.b.li.n<=549755813888/\True/\True/\True/\C.b.fU.n<=549755813888/\True/\C.b.fT.n<=549755813888/\True/\C.b.dx.n<=549755813888/\True/\C.b.eN.n<=549755813888/\True/\True/\True/\True/\True/\True/\True/\True/\True/\True/\C.b.a_.n<=549755813888/\True/\True/\True/\True/\True/\True/\True/\True/\True/\C.c.li.n<=549755813888/\True/\True/\True/\C.c.fU.n<=549755813888/\True/\C.c.fT.n<=549755813888/\True/\C.c.dx.n<=549755813888/\True/\C.c.eN.n<=549755813888/\True/\True/\True/\True/\True/\True/\True/\True/\True/\True/\C.c.a_.n<=549755813888/\True/\C.a.ws.n<=549755813888/\C.a.a1.n<=549755813888/\C.b.ws.n<=549755813888/\C.b.a1.n<=549755813888/\C.c.ws.n<=549755813888/\C.c.a1.n<=549755813888/\C.s.n<=549755813888/\C.told.n<=549755813888/\C.aU.n<=549755813888/\True:=h;obtain⟨_,_,_,_,_,_,_,_,s,_,_,_,c,_,d,_,e,_,f,_,_,_,_,_,_,_,_,_,_,g,_,_,_,_,_,_,_,_,_,i,_,_,_,j,_,k,_,l,_,m,_,_,_,_,_,_,_,_,_,_,n,_,_,_,_,_,_,_,_,_,o,_,_,_,p,_,q,_,r,_,t,_,_,_,_,_,_,_,_,_,_,u,_,v,w,x,y,z,A,B,a,b,_⟩:=h;exact⟨⟨s,c,d,e,f,v,g,w⟩,⟨i,j,k,l,m,x,n,y⟩,⟨o,p,q,r,t,z,u,A⟩,B,a,b⟩
def hB{C:aq}(h:fa C): ∀i,i<3->gz (C.h i):=by
 intro i a;rcases ca a with rfl|rfl|rfl
 .exact h.1
 .exact h.2.1
 .exact h.2.2.1
def Ju:J->Nat
 | .ad _ _ n _=>n
 |_=>0
def Yw(l:List J)(w o:J)(b a:Nat):List J:=l.take 29++ .own b (Ju w)::((l.drop 29).take 2++[.own a (Ju o)])
def yP(ids:List Nat)(m:Nat)(a b c w:List J):Heap:=
 (Yw a (w.getD 0 .undef) (w.getD 1 .undef) (ids.getD 0 0) (ids.getD 1 0)++Yw b (w.getD 2 .undef) (w.getD 3 .undef) (ids.getD 2 0) (ids.getD 3 0)++Yw c (w.getD 4 .undef) (w.getD 5 .undef) (ids.getD 4 0) (ids.getD 5 0)++[.own (ids.getD 6 0) (Ju (w.getD 6 .undef)),.own (ids.getD 7 0) (Ju (w.getD 7 .undef)),.own (ids.getD 8 0) (Ju (w.getD 8 .undef))])::
 (List.range (9+m)).map λb=>match posOf (b+1) ids 0 with
  |some p=>[w.getD p .undef]
  |none=>[dP]
def fp(cs:List J):Heap:=yP aS 0 (cs.take 31) ((cs.drop 31).take 31) ((cs.drop 62).take 31) (cs.drop 93)
def tv(l:List J):List J:=l.take 29++(l.drop 30).take 2
def e9(H:Heap):List J:=tv (H.getD 0 [])++(tv ((H.getD 0 []).drop 33)++(tv ((H.getD 0 []).drop 66)++[M H 1 0,M H 2 0,M H 3 0,M H 4 0,M H 5 0,M H 6 0,M H 7 0,M H 8 0,M H 9 0]))
def Wx{H:Heap}{c:J}(h:c∈H.getD 0 []): ∃b o,c=M H b o:=by
 have⟨o,a⟩:=l_ h;exact⟨0,o,by
  unfold M;rw[show(H.getD 0 []).getD o J.undef=((H.getD 0 [])[o]?).getD J.undef from rfl,a];rfl⟩
def Zn{l:List J}{c:J}(h:c∈tv l):c∈l:=by
 unfold tv at h;rcases fj.1 h with h|h
 .exact List.mem_of_mem_take h
 .exact Bu (List.mem_of_mem_take h)
def g4: ∀H,∀c∈e9 H,∃b o,c=M H b o:=by
 intro H c h;unfold e9 at h;rcases fj.1 h with h|h
 .exact Wx (Zn h)
 rcases fj.1 h with h|h
 .exact Wx (Bu (Zn h))
 rcases fj.1 h with h|h
 .exact Wx (Bu (Zn h))
 .simp only[ih,tQ,or_false]at h;rcases h with h|h|h|h|h|h|h|h|h<;>exact⟨_,_,h⟩
def Qw:List Nat->List J->List J
 |[],_=>[]
 |0::r,l=>l.headD .undef::Qw r l.tail
 |(k+1)::r,l=> .agg (l.take (k+1))::Qw r (l.drop (k+1))
def g8(i:Nat)(ids:List Nat)(m:Nat)(c:List Nat)(b:Nat)(a:List J):O:=
 ⟨Qw c a,match a.drop b with
  |v=>match i with
   |0=>yP ids m (v.take 31) ((v.drop 31).take 31) ((v.drop 62).take 31) (v.drop 93)
   |1=>yP ids m ((v.drop 31).take 31) (v.take 31) ((v.drop 62).take 31) ((v.drop 95).take 2++((v.drop 93).take 2++v.drop 97))
   |_=>yP ids m ((v.drop 31).take 31) ((v.drop 62).take 31) (v.take 31) ((v.drop 95).take 4++((v.drop 93).take 2++v.drop 99))⟩
def acJ:J->List J
 | .agg cs=>cs
 |x=>[x]
def g7(i:Nat)(ids:List Nat)(s:O):List J:=
 s.n.flatMap acJ++(tv ((s.k.getD 0 []).drop (33*i))++(tv ((s.k.getD 0 []).drop (33*Jr i))++(tv ((s.k.getD 0 []).drop (33*Js i))++
  [M s.k (ids.getD (2*i) 0) 0,M s.k (ids.getD (2*i+1) 0) 0,M s.k (ids.getD (2*Jr i) 0) 0,M s.k (ids.getD (2*Jr i+1) 0) 0,M s.k (ids.getD (2*Js i) 0) 0,M s.k (ids.getD (2*Js i+1) 0) 0,M s.k (ids.getD 6 0) 0,M s.k (ids.getD 7 0) 0,M s.k (ids.getD 8 0) 0])))
def g6{P:Program}{f:FuncId}{F:dv}{acc:List J}{G:aq->ULift qF}(h: ∀C,fa C->xU (G C).down.pre (gn P f (F.args (acc++jd C)) (F.dq ((acc++jd C).drop F.ej)) (G C).down.rs (G C).down.H)):fB P f F cn [] (cW G) acc:=
 abk λs b=>by
  have a:=h (Ts s) (arH _ (by rw[ahn];exact b));unfold jd at a;rw[ahn]at a;rw[awT];exact a
def yO:List (Key×aG):=AP (33*i)++AX ids i++[(.h (ids.getD 6 0) 0,.ad cR),(.h (ids.getD 7 0) 0,.ad kT),(.h (ids.getD 8 0) 0,.ad c3)]
abbrev tV:=Int×Bool×Int×Int×Int×Int×Int×Int×I ax×Int×Int×Int×I ah×Int×I ay×Int×I ah×Int×I ay×Int×Bool×Bool×Bool×Int×Int×Int×Int×Int×Int×I Int×Int×I hz×I ai×I ai×I bI×I aw
def yg(n:N)(L:I ai)(aj:I bI)(an:I aw):tV:=(n.aM,n.up,n.b5,n.ro,n.D,n.bl,n.e,n.lt,n.li,n.b9,n.g9,n.hE,n.fU,n.dW,n.fT,n.fL,n.dx,n.fx,n.eN,n.co,n.v0,n.v1,n.v2,n.eL,n.ef,n.ek,n.hX,n.q1,n.gw,n.a_,n.bp,n.ws,n.a1,L,aj,an)
def I_(x:tV):N:=⟨x.1,x.2.1,x.2.2.1,x.2.2.2.1,x.2.2.2.2.1,x.2.2.2.2.2.1,x.2.2.2.2.2.2.1,x.2.2.2.2.2.2.2.1,x.2.2.2.2.2.2.2.2.1,x.2.2.2.2.2.2.2.2.2.1,x.2.2.2.2.2.2.2.2.2.2.1,x.2.2.2.2.2.2.2.2.2.2.2.1,x.2.2.2.2.2.2.2.2.2.2.2.2.1,x.2.2.2.2.2.2.2.2.2.2.2.2.2.1,x.2.2.2.2.2.2.2.2.2.2.2.2.2.2.1,x.2.2.2.2.2.2.2.2.2.2.2.2.2.2.2.1,x.2.2.2.2.2.2.2.2.2.2.2.2.2.2.2.2.1,x.2.2.2.2.2.2.2.2.2.2.2.2.2.2.2.2.2.1,x.2.2.2.2.2.2.2.2.2.2.2.2.2.2.2.2.2.2.1,x.2.2.2.2.2.2.2.2.2.2.2.2.2.2.2.2.2.2.2.1,x.2.2.2.2.2.2.2.2.2.2.2.2.2.2.2.2.2.2.2.2.1,x.2.2.2.2.2.2.2.2.2.2.2.2.2.2.2.2.2.2.2.2.2.1,x.2.2.2.2.2.2.2.2.2.2.2.2.2.2.2.2.2.2.2.2.2.2.1,x.2.2.2.2.2.2.2.2.2.2.2.2.2.2.2.2.2.2.2.2.2.2.2.1,x.2.2.2.2.2.2.2.2.2.2.2.2.2.2.2.2.2.2.2.2.2.2.2.2.1,x.2.2.2.2.2.2.2.2.2.2.2.2.2.2.2.2.2.2.2.2.2.2.2.2.2.1,x.2.2.2.2.2.2.2.2.2.2.2.2.2.2.2.2.2.2.2.2.2.2.2.2.2.2.1,x.2.2.2.2.2.2.2.2.2.2.2.2.2.2.2.2.2.2.2.2.2.2.2.2.2.2.2.1,x.2.2.2.2.2.2.2.2.2.2.2.2.2.2.2.2.2.2.2.2.2.2.2.2.2.2.2.2.1,x.2.2.2.2.2.2.2.2.2.2.2.2.2.2.2.2.2.2.2.2.2.2.2.2.2.2.2.2.2.2.2.1,x.2.2.2.2.2.2.2.2.2.2.2.2.2.2.2.2.2.2.2.2.2.2.2.2.2.2.2.2.2.1,x.2.2.2.2.2.2.2.2.2.2.2.2.2.2.2.2.2.2.2.2.2.2.2.2.2.2.2.2.2.2.1,x.2.2.2.2.2.2.2.2.2.2.2.2.2.2.2.2.2.2.2.2.2.2.2.2.2.2.2.2.2.2.2.2.1⟩
def aiN(x:tV):I ai:=x.2.2.2.2.2.2.2.2.2.2.2.2.2.2.2.2.2.2.2.2.2.2.2.2.2.2.2.2.2.2.2.2.2.1
def aiS(x:tV):I bI:=x.2.2.2.2.2.2.2.2.2.2.2.2.2.2.2.2.2.2.2.2.2.2.2.2.2.2.2.2.2.2.2.2.2.2.1
def aiQ(x:tV):I aw:=x.2.2.2.2.2.2.2.2.2.2.2.2.2.2.2.2.2.2.2.2.2.2.2.2.2.2.2.2.2.2.2.2.2.2.2
def AE(i:Nat)(ids:List Nat)(s:O):List J:=
 s.n.flatMap acJ++(tv ((s.k.getD 0 []).drop (33*i))++[M s.k (ids.getD (2*i) 0) 0,M s.k (ids.getD (2*i+1) 0) 0,M s.k (ids.getD 6 0) 0,M s.k (ids.getD 7 0) 0,M s.k (ids.getD 8 0) 0])
def Ej:List J:=tv (AO n 0 0)
def Ei:List J:=[(aG.ad dF).av n.ws,(aG.ad cR).av n.a1]
def Be(i:Nat)(ids:List Nat)(m:Nat)(c:List Nat)(b:Nat)(C:aq)(a:List J):O:=
 ⟨Qw c a,match a.drop b with
  |v=>match i with
   |0=>yP ids m (v.take 31) (Ej C.b) (Ej C.c) ((v.drop 31).take 2++(Ei C.b++(Ei C.c++v.drop 33)))
   |1=>yP ids m (Ej C.a) (v.take 31) (Ej C.c) (Ei C.a++((v.drop 31).take 2++(Ei C.c++v.drop 33)))
   |_=>yP ids m (Ej C.a) (Ej C.b) (v.take 31) (Ei C.a++(Ei C.b++((v.drop 31).take 2++v.drop 33)))⟩
def N.bif(b:Bool)(x y:N):N:=⟨bif b then x.aM else y.aM,bif b then x.up else y.up,bif b then x.b5 else y.b5,bif b then x.ro else y.ro,bif b then x.D else y.D,bif b then x.bl else y.bl,bif b then x.e else y.e,bif b then x.lt else y.lt,bif b then x.li else y.li,bif b then x.b9 else y.b9,bif b then x.g9 else y.g9,bif b then x.hE else y.hE,bif b then x.fU else y.fU,bif b then x.dW else y.dW,bif b then x.fT else y.fT,bif b then x.fL else y.fL,bif b then x.dx else y.dx,bif b then x.fx else y.fx,bif b then x.eN else y.eN,bif b then x.co else y.co,bif b then x.v0 else y.v0,bif b then x.v1 else y.v1,bif b then x.v2 else y.v2,bif b then x.eL else y.eL,bif b then x.ef else y.ef,bif b then x.ek else y.ek,bif b then x.hX else y.hX,bif b then x.q1 else y.q1,bif b then x.gw else y.gw,bif b then x.ws else y.ws,bif b then x.a_ else y.a_,bif b then x.bp else y.bp,bif b then x.a1 else y.a1⟩
def aq.bif(b:Bool)(x y:aq):aq:=⟨N.bif b x.a y.a,N.bif b x.b y.b,N.bif b x.c y.c,bif b then x.s else y.s,bif b then x.told else y.told,bif b then x.aU else y.aU⟩
def N.cT(b:Bool)(x y:N):N.bif b x y=bif b then x else y:=by cases b<;>rfl
def aq.cT(b:Bool)(x y:aq):aq.bif b x y=bif b then x else y:=by cases b<;>rfl
end
section
variable(A g u:Int)
def Gl:Bool:=cond (decide (A>=g)) (decide (A<=u)) false
def k5:Bool:=Gl A g u
def pU(A:z):Bool:=decide (((A:z).size:Int)<=20)
def L9:Bool:=k5 A (-1099511627776) 1099511627776
def zc(A:z):Bool:=k5 ((A:z).size:Int) 1 12
def Gq(A:z):Bool:=cond (decide (((A:z).size:Int)>=1)) (decide (((A:z).size:Int)<=12)) false
def lM(A:z):Bool:=Gq A
def ane:bt:=⟨[.v ar],λA=>⟨⟨none,.bool (lM A)⟩⟩⟩
def ah_:bE 67 ane:=bG Tryz.func67
 λA _=>bJ ⟨.pure,[.tmp 2],[(.t 0,l)],⟨[U],[]⟩⟩ (.ae (.j ⟨4,[],[(.t 2,l)],[],.f⟩ .z .z)) True gb Tryz.func67 trivial
def kf(A:z):Bool:=decide (((A:z).size:Int)<=20)
def anj:bt:=⟨[.v ar],λA=>⟨⟨none,.bool (kf A)⟩⟩⟩
def IP:bE 68 anj:=bG Tryz.func68
 λA _=>bJ ⟨.pure,[.tmp 2],[(.t 0,l)],⟨[U],[]⟩⟩ .z True gb Tryz.func68 trivial
def Gs:Bool:=cond (decide (A>=(-1099511627776))) (decide (A<=1099511627776)) false
def jV:Bool:=Gs A
def ank:bt:=⟨[.v a],λA=>⟨⟨none,.bool (jV A)⟩⟩⟩
def OS:bE 69 ank:=bG Tryz.func69
 λ(A:Int)=>bJ ⟨.pure,[.tmp 2],[(.t 0,l)],⟨[U],[]⟩⟩ (.ae (.j ⟨4,[],[(.t 2,l)],[],.f⟩ .z .z)) True gb Tryz.func69 trivial
def L_:Bool:=cond (decide (A>=1)) (decide (A<=1048576)) false
def q5:Bool:=L_ A
def anl:bt:=⟨[.v a],λA=>⟨⟨none,.bool (q5 A)⟩⟩⟩
def ayN:bE 39 anl:=bG Tryz.func39
 λ(A:Int)=>bJ ⟨.pure,[.tmp 2],[(.t 0,l)],⟨[U],[]⟩⟩ (.ae (.j ⟨4,[],[(.t 2,l)],[],.f⟩ .z .z)) True gb Tryz.func39 trivial
def uE:Bool:=k5 A 1 1048576
end
section
variable(A g:Int)(u o:z)(v:Int)
def agE:Bool:=cond (A==1) true (cond (A==4) true (cond (A==7) true (cond (A==8) true (k5 A 11 16))))
def HX:Bool:=cond (A==3) true (cond (A==14) true (A==20))
def agF(g u o:z)(v:Int):Bool:=cond (!(agE A)) (cond (!((o:z).toList==ε.toList)) true (cond (!(k5 A 4 6)) (cond (!((u:z).toList==ε.toList)) true (cond (!(HX A)) (cond (v !=0) true (cond (!(A !=22)) (!((g:z).toList==ε.toList)) false)) (cond (!(A !=22)) (!((g:z).toList==ε.toList)) false))) (cond (!(HX A)) (cond (v !=0) true (cond (!(A !=22)) (!((g:z).toList==ε.toList)) false)) (cond (!(A !=22)) (!((g:z).toList==ε.toList)) false)))) (cond (!(k5 A 4 6)) (cond (!((u:z).toList==ε.toList)) true (cond (!(HX A)) (cond (v !=0) true (cond (!(A !=22)) (!((g:z).toList==ε.toList)) false)) (cond (!(A !=22)) (!((g:z).toList==ε.toList)) false))) (cond (!(HX A)) (cond (v !=0) true (cond (!(A !=22)) (!((g:z).toList==ε.toList)) false)) (cond (!(A !=22)) (!((g:z).toList==ε.toList)) false)))
def agG(g u o:z):Bool:=cond (A !=22) (cond (!(zc g)) true (cond (k5 A 4 6) (cond (!(zc u)) true (!(pU o))) (!(pU o)))) (cond (k5 A 4 6) (cond (!(zc u)) true (!(pU o))) (!(pU o)))
def HW(g u o:z)(v:Int):Int:=cond (!(k5 A 1 22)) 3 (cond (agF A g u o v) 8 (cond (agG A g u o) 1 (cond (!(L9 v)) 2 0)))
def zV:Bool:=cond (decide (A<1)) true (decide (A>22))
def zW:Bool:=cond (A==1) (A==1) (cond (A==7) (A==7) (cond (A==8) (A==8) (cond (A==11) (A==11) (cond (A==12) (A==12) (cond (A==13) (A==13) (cond (A==15) (A==15) (A==16)))))))
def zX:Bool:=cond (A==3) (A==3) (A==20)
def zY:Bool:=cond (A==5) (A==5) (A==6)
def HV(g:z):z:=cond (zW A) g (cond (zX A) g (cond (A==4) g (cond (zY A) g (cond (A==14) g (cond (A==22) ε g)))))
def DB:z:=cond (zW A) ε (cond (zX A) ε (cond (A==4) u (cond (zY A) u ε)))
def Nn:z:=cond (zW A) o (cond (zX A) ε (cond (A==4) o (cond (zY A) ε (cond (A==14) o ε))))
def Nq:Int:=cond (zW A) 0 (cond (zX A) v (cond (A==4) 0 (cond (zY A) 0 (cond (A==14) v 0))))
def sW(g u o:z):Bool:=cond (A !=22) (cond (!(lM g)) true (cond (decide (A>=4)) (cond (decide (A<=6)) (cond (!(lM u)) true (!(kf o))) (!(kf o))) (!(kf o)))) (cond (decide (A>=4)) (cond (decide (A<=6)) (cond (!(lM u)) true (!(kf o))) (!(kf o))) (!(kf o)))
def fS(g u o:z)(v:Int):Int:=cond (zV A) 3 (cond (!((A==A)&&(((g:z).toList==((HV A g):z).toList)&&(((u:z).toList==((DB A u):z).toList)&&(((o:z).toList==((Nn A o):z).toList)&&((v==Nq A v)&&true)))))) 8 (cond (sW A g u o) 1 (cond (!(jV v)) 2 0)))
def apm:bt:=⟨[.g [a,ar,ar,ar,a]],λA g u o v=>⟨⟨none,c (fS A g u o v)⟩⟩⟩
def XM:bE 40 apm:=bG Tryz.func40
 λ(A:Int) g _ u _ o _ (v:Int)=>bJ ⟨.pure,[.tmp 2],[(.t 0,a)],⟨[U],[]⟩⟩ (.ae (.s (.j ⟨2054,[],[(.t 11,l)],[],.f⟩ .z .z) (.ae (.j ⟨14,[],[(.h 1 1,ar),(.h 1 2,ar),(.h 1 3,ar),(.h 1 4,a)],[.f,.b .f (.b .f (.b .f (.b .f .l))),.b .f (.b .f (.b .f (.b .f (.b .f .l)))),.b .f (.b .f (.b .f (.b .f (.b .f .l))))],.f⟩ (.ae (.j ⟨786446,[],[(.t 19,l)],[],.f⟩ .z (.ae (.j ⟨2147745806,[],[(.t 31,l)],[],.f⟩ .z (.ae (.ae (.ae (.j ⟨35184372350990,[],[(.t 45,l)],[],.f⟩ .z .z)))))))) (.ae (.s (.j ⟨39614081257132168796771975174,[.b 1],[(.t 95,l)],[],.f⟩ .z .z) .z)))))) True (cK (aR ah_ (aR IP (aR OS ba)))) Tryz.func40 trivial
def HY:Bool:=cond (!(q5 A)) true (!(q5 g))
def h_(u:Int)(o v d:z)(y:Int):Int:=cond (A==0) (cond (!((A==0)&&((g==0)&&((u==0)&&(((o:z).toList==ε.toList)&&(((v:z).toList==ε.toList)&&(((d:z).toList==ε.toList)&&((y==0)&&true)))))))) 8 0) (cond (HY A g) 2 (fS u o v d y))
def apn:bt:=⟨[.g [a,a,a,ar,ar,ar,a]],λA g u o v d y=>⟨⟨none,c (h_ A g u o v d y)⟩⟩⟩
def XN:bE 27 apn:=bG Tryz.func27
 λ(A g u:Int) o _ v _ d _ (y:Int)=>bJ ⟨.pure,[.tmp 2],[(.t 0,a)],⟨[U],[]⟩⟩ (.ae (.ae (.s (.j ⟨262150,[],[(.t 18,l)],[],.f⟩ .z .z) .z))) True (cK (aR XM (aR ayN ba))) Tryz.func27 trivial
def agH(u:Int)(o v d:z)(y:Int):Bool:=cond (g !=0) true (!((u==0)&&(((o:z).toList==ε.toList)&&(((v:z).toList==ε.toList)&&(((d:z).toList==ε.toList)&&((y==0)&&true))))))
def agI:Bool:=cond (!(uE A)) true (!(uE g))
def VX(u:Int)(o v d:z)(y:Int):Int:=cond (A==0) (cond (agH g u o v d y) 8 0) (cond (agI A g) 2 (HW u o v d y))
def DC:Bool:=cond (decide (A<1)) true (cond (decide (A>1048576)) true (cond (decide (g<0)) true (decide (g>1073741824))))
def fX(u:Bool)(o v d:Int)(y F p:z)(x:Int):Int:=cond (DC A g) 2 (cond u (cond (!((o==0)&&((v==0)&&((d==0)&&(((y:z).toList==ε.toList)&&(((F:z).toList==ε.toList)&&(((p:z).toList==ε.toList)&&((x==0)&&true)))))))) 8 0) (h_ o v d y F p x))
def apo:bt:=⟨[.g [a,a,l,a,a,a,ar,ar,ar,a]],λA g u o v d y F p x=>⟨⟨none,c (fX A g u o v d y F p x)⟩⟩⟩
def OW:bE 15 apo:=bG Tryz.func15
 λ(A g:Int) u (o v d:Int) y _ F _ p _ (x:Int)=>bJ ⟨.pure,[.tmp 2],[(.t 0,a)],⟨[U],[]⟩⟩ (.ae (.s (.j ⟨1048582,[],[(.t 20,l)],[],.f⟩ .z .z) .z)) True (cK (aR XN ba)) Tryz.func15 trivial
def zZ:Bool:=cond (!(uE A)) true (!(k5 g 0 1073741824))
def u2(u:Bool)(o v d:Int)(y F p:z)(x:Int):Int:=cond (zZ A g) 2 (cond (!u) (VX o v d y F p x) (cond (!((o==0)&&((v==0)&&((d==0)&&(((y:z).toList==ε.toList)&&(((F:z).toList==ε.toList)&&(((p:z).toList==ε.toList)&&((x==0)&&true)))))))) 8 0))
end
section
def CC(A:z):Bool:=decide (((A:z).size:Int)>20)
def anb:bt:=⟨[.v ar],λA=>⟨⟨none,.bool (CC A)⟩⟩⟩
def ayH:bE 146 anb:=bG Tryz.func146
 λA _=>bJ ⟨.pure,[.tmp 2],[(.t 0,l)],⟨[U],[]⟩⟩ .z True gb Tryz.func146 trivial
def Mg(A:I z):Nat->Int->Bool×Int
 |0,_=>default
 |k+1,b=>cond (decide (b<A.n)) (cond (CC (A.at' b.toNat)) (true,b) (Mg A k (i64 (b+1)))) (false,default)
variable(A:I z)(g:z)(u:Int)(o:I z)
def U2:Bool×Int:=Mg A (toNat ((A.n:Int)-0)+1) 0
def atZ:Bool:=cond (U2 A).1 false true
def aff:Int:=cond (atZ A) (-1) (U2 A).2
def aob:bt:=⟨[.v (.ab b1),.fn 146 []],λA=>⟨⟨none,c (aff A)⟩⟩⟩
def azf:bE 169 aob:=bG Tryz.func169
 λA i _=>bJ ⟨.pure,[.tmp 4],[(.t 0,a)],⟨[U],[]⟩⟩ (.ae (.j ⟨16,[],[],[],.f⟩ (.ae (.c6 ⟨403,[],[],[(.t 8,a)],some 0,true,16,[],[],λk (s:Int)=>Mg A k s,.f,λ(s:Int)=>0<=s/\s<=A.n,λ(s:Int)=>toNat ((A.n:Int)-s),none⟩ .z)) .z)) ((0<=(0:Int)/\(0:Int)<=(A.n:Int))/\∀(b:Int),let d:=decide (b<A.n);let c:=i64 (b+1);(0<=b/\b<=A.n)->(d=true->(0:Int)<=b/\b<A.n)/\(d=true->CC (A.at' b.toNat)=false->(0<=c/\c<=A.n)/\toNat ((A.n:Int)-c)<toNat ((A.n:Int)-b))) (cK (aR ayH ba)) Tryz.func169 (⟨Ω,λb h=>⟨λe=>have:=al e;Ω,λf g=>have:=al f;have:=E (b+1);Ω⟩⟩)
def Gj:Bool:=decide (aff A>=0)
def am_:bt:=⟨[.v (.ab b1),.fn 146 []],λA=>⟨⟨none,.bool (Gj A)⟩⟩⟩
def ayF:bE 145 am_:=bG Tryz.func145
 λA _ _=>bJ ⟨.pure,[.tmp 4],[(.t 0,l)],⟨[U],[]⟩⟩ .z True (cK (aR azf ba)) Tryz.func145 trivial
def agB(A:Int):Bool:=cond (decide (A<0)) true (decide (A>13))
def VW:Bool:=cond (decide (((g:z).size:Int)>20)) true (decide ((o.n:Int)>20))
def agC:Bool:=cond (decide (u<(-1099511627776))) true (decide (u>1099511627776))
def sV(A:Int)(g:z)(u:Int)(o:I z):Int:=cond (agB A) 3 (cond (VW g o) 1 (cond (Gj o) 1 (cond (agC u) 2 0)))
def apk:bt:=⟨[.g [a,ar,a,.ab b1]],λA g u o=>⟨⟨none,c (sV A g u o)⟩⟩⟩
def aAl:bE 132 apk:=bG Tryz.func132
 λ(A:Int) g _ (u:Int) o _ _=>bJ ⟨.pure,[.tmp 2],[(.t 0,a)],⟨[U],[]⟩⟩ (.ae (.s (.j ⟨1030,[],[(.t 10,l)],[],.f⟩ .z .z) (.s (.j ⟨1048582,[],[(.t 20,l)],[],.f⟩ .z .z) (.ae (.s (.j ⟨2147483652,[.b 0],[(.t 31,l)],[],.f⟩ .z .z) .z))))) True (cK (aR ayF ba)) Tryz.func132 trivial
end
section
def xy(A g:Int)(u:I ax):Bool:=cond (!(k5 A 0 1048576)) true (cond (!(k5 g 0 1048576)) true (cond (!((A==0)==(g==0))) true (cond (decide ((u.n:Int)>200)) true (decide (i64 (A+(u.n:Int))>1048576)))))
variable(A:I Int)(g:Int)(u:I ax)(bq:Int)
def nQ:Bool:=cond (u2 (u.at' bq.toNat).r (u.at' bq.toNat).K (u.at' bq.toNat).G (u.at' bq.toNat).q (u.at' bq.toNat).j (u.at' bq.toNat).m (u.at' bq.toNat).ak (u.at' bq.toNat).aA (u.at' bq.toNat).i (u.at' bq.toNat).aJ !=0) true (decide ((u.at' bq.toNat).r<g))
def o5:Bool:=cond (decide (bq>0)) (cond (decide ((u.at' bq.toNat).r<(u.at' (toNat (i64 (bq-1)))).r)) true (decide ((u.at' bq.toNat).K<(u.at' (toNat (i64 (bq-1)))).K))) false
def u4(g:Int)(u:I ax):Nat->Int->Bool×Int
 |0,_=>default
 |k+1,bq=>cond (decide (bq<u.n)) (cond (nQ g u bq) (true,13) (cond (o5 u bq) (true,13) (u4 g u k (i64 (bq+1))))) (false,default)
def DE:Bool×Int:=u4 g u (toNat ((u.n:Int)-0)+1) 0
def Nv:Bool:=cond (DE g u).1 false true
def xx(A g:Int)(u:I ax):Int:=cond (xy A g u) 13 (cond (Nv g u) 0 (DE g u).2)
def arq(A g:Int)(u:I ax)(h:xx A g u=0):(0<=A/\A<=1048576)/\(0<=g/\g<=1048576)/\u.n<=200/\A+u.n<=1048576:=by
 unfold xx at h
 cases a:xy A g u with
 |true=>rw[a]at h;simp at h
 |false=>
  simp [xy,k5,Gl]at a;have:=E (A+(u.n:Int));omega
def Cz(A:I Int):Nat->Int->I Int->I Int
 |0,_,_=>default
 |k+1,b,f=>cond (decide (b<A.n)) (Cz A k (i64 (b+1)) (I.app f (I.lit ([A.at' b.toNat]:List Int)))) f
def Gg:I Int:=Cz A (toNat ((A.n:Int)-0)+1) 0 (B:I Int)
def CA(g:I Int):Nat->Int->I Int->I Int
 |0,_,_=>default
 |k+1,bq,a=>cond (decide (bq<g.n)) (CA g k (i64 (bq+1)) (I.app a (I.lit ([g.at' bq.toNat]:List Int)))) a
def Gh(g:I Int):I Int:=CA g (toNat ((g.n:Int)-0)+1) 0 (Gg A)
def Us(g:I Int):I Int:=Gh A g
def ai9(A:I Int)(d:A.n<=549755813888): ∀(m:Nat) (v:Int) (s:I Int),0<=v->v<=A.n->m=toNat ((A.n:Int)-v)->((Cz A (m+1) v s).n:Int)=s.n+((A.n:Int)-v)
 |0,v,s,a,b,c=>by
  have: ¬v<(A.n:Int):=by omega
  simp only[Cz,this,Bp,aB];omega
 |m+1,v,s,a,b,c=>by
  have e:v<(A.n:Int):=by omega
  have f:=E (v+1);rw[Cz];simp only[e,yo,au];rw[f,ai9 A d m (v+1) _ Ω Ω Ω];simp only[I.qN,I.n1,dE,gx];omega
def ai_(A:I Int)(d:A.n<=549755813888): ∀(m:Nat) (v:Int) (s:I Int),0<=v->v<=A.n->m=toNat ((A.n:Int)-v)->((CA A (m+1) v s).n:Int)=s.n+((A.n:Int)-v)
 |0,v,s,a,b,c=>by
  have: ¬v<(A.n:Int):=by omega
  simp only[CA,this,Bp,aB];omega
 |m+1,v,s,a,b,c=>by
  have e:v<(A.n:Int):=by omega
  have f:=E (v+1);rw[CA];simp only[e,yo,au];rw[f,ai_ A d m (v+1) _ Ω Ω Ω];simp only[I.qN,I.n1,dE,gx];omega
def aBu(A g:I Int):A.n+g.n<=549755813888->(Us A g).n=A.n+g.n:=λh=>by
 have a:((Gg A).n:Int)=0+((A.n:Int)-0):=ai9 A Ω _ 0 B Ω Ω rfl;have b:((Gh A g).n:Int)=(Gg A).n+((g.n:Int)-0):=ai_ g Ω _ 0 _ Ω Ω rfl;show(Gh A g).n=_;omega
end
