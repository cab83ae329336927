import Derived.Test.YtfmgjpcmcjjoiaaGreatDoorXh
open Go.IntKind (i64 u64 u8)
open Int (toNat)
set_option maxRecDepth 100000
set_option maxHeartbeats 4000000
set_option linter.all false
noncomputable section
namespace Go.af
open Go Go.RowKit
inductive dn where
 |v (k:aB)
 |g (bm:List aB)
 |r (bm:List aB)
 |fn (f:FuncId) (iU:List (List aB))
 |p (b:Nat)
 |o (b:Nat)
 |ju (f:FuncId) (ch:List Nat)
 |fa (b o:Nat)
def dn.b1:dn→List aB
 | .v k=>[k]
 | .g a=>a
 | .r a=>a
 | .fn _ b=>b.flatten
 | .p _=>[]
 | .o _=>[]
 | .ju _ _=>[]
 | .fa .. =>[]
def CO:List (List aB)→List J→List J×List J
 |[],l=>([],l)
 |c::r,l=>match CO r (l.drop c.length)with
  |(a,b)=>(.ref (l.take c.length)::a,b)
def fD:List dn→List J→List J
 |[],_=>[]
 |s::r,l=>match s with
  | .v _=>l.headD .undef::fD r l.tail
  | .g c=> .agg (l.take c.length)::fD r (l.drop c.length)
  | .r c=> .ref (l.take c.length)::fD r (l.drop c.length)
  | .fn f e=>match CO e l with
    |(a,b)=> .fn f a::fD r b
  | .p b=> .ptr b 0::fD r l
  | .o b=> .own b 0::fD r l
  | .ju f d=> .fn f (d.map fun b=> .ptr b 0)::fD r l
  | .fa b o=> .ptr b o::fD r l
def PT:J→List J
 | .agg cs=>cs
 | .ref cs=>cs
 | .ptr .. =>[]
 | .own .. =>[]
 | .fn _ a=>a.flatMap fun c=>match c with
   | .ref cs=>cs
   | .ptr .. =>[]
   |x=>[x]
 |x=>[x]
@[reducible] def dR:List aB→Type 1→Type 1
  |[],α=>α
  |k::a,α=>k.ty→dR a α
def dR.ap{α:Type 1} :(a:List aB)→dR a α→List J→Option α
 |[],f,[]=>some f
 |k::a,f,x::b=>match k.rd x with
  |some v=>dR.ap a (f v) b
  |none=>none
 |_,_,_=>none
structure Hm where
 pre:Option Prop
 res:J
structure ba where
 d_:List dn
 f:dR (d_.flatMap dn.b1) (ULift Hm)
def dn.ch:dn→List Bool
 | .v _=>[true]
 | .g a=>List.replicate a.length true
 | .r a=>List.replicate a.length false
 | .fn _ b=>List.replicate b.flatten.length false
 | .p _=>[]
 | .o _=>[]
 | .ju _ _=>[]
 | .fa .. =>[]
def Xl(b:Bool):(k:aB)→k.ty→Prop→Prop
 | .int _,_,p=>p
 | .bool,_,p=>p
 | .str,s,p=>match b with
   |true=>s.size≤549755813888→p
   |false=>p
 | .ab E,s,p=>match b with
   |true=>s.n≤549755813888→fI (aI E.M E.e s)→p
   |false=>p
 | .ad _,_,p=>p
def vc(a:Option Prop)(p:Prop):Prop:=
 match a with
 |none=>p
 |some q=>q→p
def Hn(P:Program)(f:FuncId)(c:List dn):(a:List aB)→List Bool→dR a (ULift Hm)→List J→Prop
 |[],_,F,acc=>vc F.down.pre (e1 P f (fD c acc) F.down.res)
 |k::a,b,F,acc=> ∀x:k.ty,Xl (b.headD false) k x (Hn P f c a b.tail (F x) (acc++[k.av x]))
def BI(p:Option Prop):aO:=
 match p with
 |none=> .c4
 |some q=> .p q
def yx:List dn→List J→Bool
 |[],_=>true
 |s::r,l=>match s with
  | .fn f _=>match l with
    |x::a=>match x with
     | .fn g _=>match Nat.beq f g with
       |true=>yx r a
       |false=>false
     |_=>false
    |[]=>false
  | .ju f _=>match l with
    |x::a=>match x with
     | .fn g _=>match Nat.beq f g with
       |true=>yx r a
       |false=>false
     |_=>false
    |[]=>false
  | .fa _ o=>match l with
    |x::a=>match x with
     | .ptr _ b=>match Nat.beq o b with
       |true=>yx r a
       |false=>false
     |_=>false
    |[]=>false
  |_=>yx r l.tail
def ba.gR(F:ba)(aa:List J):Option (aO×J):=
 c2 (yx F.d_ aa) (match dK (F.d_.flatMap dn.b1) (aa.flatMap PT)with
 |some cs=>match dR.ap _ F.f cs with
  |some a=>some (.and (.e (ym aa (fD F.d_ cs)) (fD F.d_ cs)) (BI a.down.pre),a.down.res)
  |none=>none
 |none=>none)
structure Cs (P:Program) (f:FuncId) (s:List J→Option (aO×J)):Prop where
 vR:lg P f
 pure: ∀args o r,s args=some (o,r)→o.holds→e1 P f args r
def rQ:List Bool→List J→Prop
 |b::a,c::cs=>(b=true→fI c)∧rQ a cs
 |_,_=>True
theorem C6: ∀{ch:List Bool} {cs:List J} {d:List Bool} {e:List J},ch.length=cs.length→rQ ch cs→rQ d e→rQ (ch++d) (cs++e)
 |[],[],_,_,_,_,h=>h
 |b::ch,c::cs,_,_,a,h,f=>⟨h.1,C6 (by simpa using a) h.2 f⟩
 |[],_::_,_,_,a,_,_=>by simp at a
 |_::_,[],_,_,a,_,_=>by simp at a
theorem ZV: ∀{cs:List J},Ip cs→rQ (List.replicate cs.length true) cs
 |[],_=>trivial
 |_::_,h=>⟨fun _=>h.1,ZV h.2⟩
theorem Qy: ∀(n:Nat) (cs:List J),rQ (List.replicate n false) cs
 |0,_=>trivial
 |_+1,[]=>trivial
 |n+1,_::cs=>⟨fun h=>(by cases h),Qy n cs⟩
theorem PS: ∀(a:List (List aB)) (l:List J),(CO a l).2=l.drop a.flatten.length
 |[],l=>by simp [CO]
 |b::r,l=>by
  simp only[CO,PS r,yI,dC,vD]
theorem Bx: ∀{b:List aB} {c a:List J},dK b c=some a→dK b a=some a
 |[],[],a,h=>by cases h;rfl
 |[],_::_,_,h=>by cases h
 |_::_,[],_,h=>by cases h
 |k::b,x::c,a,h=>by
  simp only[dK]at h
  split at h<;>try (cases h;done)
  rename_i y e
  split at h<;>try (cases h;done)
  rename_i i d
  cases h
  obtain⟨v,f,g⟩:=aB.Ga e;subst f;simp only[dK,aB.nrm,g,Bx d]
theorem F9: ∀{a b:List aB} {l:List J},dK (a++b) l=some l→dK a (l.take a.length)=some (l.take a.length)∧dK b (l.drop a.length)=some (l.drop a.length)
 |[],b,l,h=>⟨rfl,h⟩
 |k::a,b,[],h=>by cases h
 |k::a,b,x::g,h=>by
  simp only[vF,dK]at h
  split at h<;>try (cases h;done)
  rename_i y e
  split at h<;>try (cases h;done)
  rename_i i c;simp only[gM,mw]at h;obtain⟨rfl,rfl⟩:=h;obtain⟨d,f⟩:=F9 c;exact⟨by simp only[dr,List.take_succ_cons,dK,e,d],f⟩
theorem td: ∀(q:List dn) (l:List J),dK (q.flatMap dn.b1) l=some l→Im (fD q l)→rQ (q.flatMap dn.ch) l
 |[],l,_,_=>trivial
 |s::r,l,n,h=>by
  simp only[gO]at n ⊢;obtain⟨i,a⟩:=F9 n;have c:=vo i
  cases s with
  |v k=>
   cases l with
   |nil=>cases n
   |cons x w=>
    simp only[fD,List.headD_cons,List.tail_cons]at h;refine C6 (ch:=[true]) (cs:=[x]) rfl ⟨fun _=> ?_,trivial⟩ (td r w a h.2);have j:=h.1;simp only[dn.b1,dr,fH,c1,List.take_succ_cons,List.take_zero,dK]at i
    split at i<;>try (cases i;done)
    rename_i y e;simp only[gM,mw,and_true]at i;subst i;obtain⟨v,u,_⟩:=aB.Ga e;subst u
    cases k<;>exact j
  |g d=>
   simp only[fD]at h;simp only[dn.b1]at c a;have j:=ZV h.1;rw[c]at j;have:=C6 (ch:=List.replicate d.length true) (by simp [c]) j (td r (l.drop d.length) a h.2);rwa [ri]at this
  |r d=>
   simp only[fD]at h;simp only[dn.b1]at c a;have:=C6 (ch:=List.replicate d.length false) (cs:=l.take d.length) (by simp [c]) (Qy _ _) (td r (l.drop d.length) a h.2);rwa [ri]at this
  |fn f m=>
   simp only[fD]at h;simp only[dn.b1]at c a;have t:=h.2;rw[PS]at t;have:=C6 (ch:=List.replicate m.flatten.length false) (cs:=l.take m.flatten.length) (by rw[List.length_replicate,c]) (Qy _ _) (td r (l.drop m.flatten.length) a t);rwa [ri]at this
  |p b=>exact td r l a h.2
  |o b=>exact td r l a h.2
  |ju f z=>exact td r l a h.2
  |fa b o=>exact td r l a h.2
theorem dR.Yj{P:Program}{f:FuncId}{m:List dn} : ∀{bm:List aB} {ch:List Bool} {F:dR bm (ULift Hm)} {acc cs:List J} {a:ULift Hm},dR.ap bm F cs=some a→dK bm cs=some cs→rQ ch cs→Hn P f m bm ch F acc→vc a.down.pre (e1 P f (fD m (acc++cs)) a.down.res)
 |[],ch,F,acc,[],a,h,_,_,j=>by
  cases h
  rw[h_];exact j
 |[],_,_,_,_::_,_,h,_,_,_=>by cases h
 |_::_,_,_,_,[],_,h,_,_,_=>by cases h
 |k::bm,ch,F,acc,x::t,a,h,d,l,j=>by
  simp only[dR.ap]at h
  split at h<;>try (cases h;done)
  rename_i v e;simp only[dK]at d
  split at d<;>try (cases d;done)
  rename_i y g
  split at d<;>try (cases d;done)
  rename_i s n;simp only[gM,mw]at d;obtain⟨rfl,rfl⟩:=d;have r:y=k.av v:=by
   unfold aB.nrm at g;rw[e]at g
   cases g;rfl
  subst r;have o: ∀p,Xl (ch.headD false) k v p→p:=fun p c=>by
   cases ch with
   |nil=>cases k<;>exact c
   |cons b ch=>
    cases b with
    |false=>cases k<;>exact c
    |true=>
     have i:=l.1 rfl
     cases k with
     |int _=>exact c
     |bool=>exact c
     |str=>exact c i.size
     |ab E=>exact c (fI.len i) i
     |ad _=>exact c
  have q:rQ ch.tail s:=by
   cases ch with
   |nil=>trivial
   |cons b ch=>exact l.2
  have:=dR.Yj (bm:=bm) (ch:=ch.tail) (acc:=acc++[k.av v]) h n q (o _ (j v));rwa [eZ,Cb]at this
theorem ba.ok{P:Program}{f:FuncId}{F:ba}(l:lg P f)(h:Hn P f F.d_ _ (F.d_.flatMap dn.ch) F.f []):Cs P f F.gR:=by
 refine⟨l,fun i o r e d=> ?_⟩;unfold ba.gR at e;rw[c9]at e;replace e:=e.2
 split at e<;>try (cases e;done)
 rename_i cs k
 split at e<;>try (cases e;done)
 rename_i a j
 cases e
 have n:aU jN i (fD F.d_ cs):=VZ d.1;refine e1.ah3 ?_ n;refine e1.mH fun m=> ?_;have c:=Bx k;have:=dR.Yj j c (td F.d_ cs c m) h;have b:=d.2;unfold BI at b
 cases g:a.down.pre with
 |none=>rw[g]at this;exact this
 |some q=>rw[g]at this b;exact this b
def H_(X:b3)(R:cG)(a:eR):Option (List J):=
 match a with
 | .nrm s=>match yo X R s with
   |some q=>some q.2
   |none=>none
 | .ret b=>some b
 |_=>none
def ZC(X:b3)(R:cG)(a:eR):aO:=
 match a with
 | .nrm s=>match yo X R s with
   |some q=>q.1
   |none=> .p False
 | .ret _=> .c4
 | .dead=> .c4
 | .ext .. => .p False
def Il(X:b3)(R:cG)(ms:List iP)(r:iu):Option (aO×List J):=
 match r.t.prune (H_ X R)with
 |some a=>match CT R.b1 ms a with
  |some q=>some (.and r.o (.and (qE r.f (r.t.ye (ZC X R))) (.es fun _:Unit=>q.1)),q.2)
  |none=>none
 |none=>none
theorem WP.axA{E:Env}{c:Code}{Q R:Exit→K→Prop}{st:K}(h:WP E c R st)(l: ∀e s,R e s→ ∃b,cg E.m s b∧Q e b):WP E c Q st:=fun S d ι a w m=>pF (h S d ι a w m) fun e a w ⟨an,n,f,g⟩=>by
 obtain⟨b,i,j⟩:=l e n g;obtain⟨eb,k⟩:=i S d an a w f;exact⟨eb,b,k,j⟩
def aiC(X:b3)(R:cG)(a:List J)(e:Exit)(s:K):Prop:=
 (match e with
  | .normal=>True
  | .ret=>True
  |_=>False)∧ry X R s a
theorem C4{X:b3}{R:cG}{c:Code}{st:K}{r:iu}{ms:List iP}{o:aO}{w:List J}(h:Il X R ms r=some (o,w))(F:o.holds)(G:r.o.holds→oD X R c st r):WP X.env c (aiC X R w) st:=by
 unfold Il at h
 split at h<;>try (cases h;done)
 rename_i v n
 split at h<;>try (cases h;done)
 rename_i q z
 cases h
 obtain⟨B,C,D⟩:=F;have l:=G B;have a:=T.Gf (KH C l.f);have u:v.bx.length=R.b1.length→dK R.b1 v.bx=some q.2:=fun E=>PZ (o:=q.1) (cv:=q.2) z (D ()) E;refine l.wp.axA fun e s b=> ?_
 cases d:r.t.bx with
 |nrm m=>
  rw[d]at b a
  cases e<;>simp only[jt]at b<;>try exact b.elim
  simp only[ZC]at a
  cases k:yo X R m with
  |none=>rw[k]at a;exact a.elim
  |some p=>
   rw[k]at a;obtain⟨A,L,j⟩:=V_ (o:=p.1) (cv:=p.2) k a;obtain⟨I,g,i⟩:=T.mn (f:=H_ X R) (t:=r.t) (x:=p.2) (by rw[d];simp only[H_,k]);rw[n]at g;cases g;have:=u (by rw[i];exact vo j);rw[i,Bx j]at this;have H:p.2=q.2:=jk this;exact⟨m,b,trivial,H▸A⟩
 |ret y=>
  rw[d]at b
  cases e<;>simp only[jt]at b<;>try exact b.elim
  obtain⟨L,j⟩:=l.ret y d;obtain⟨I,g,i⟩:=T.mn (f:=H_ X R) (t:=r.t) (x:=y) (by rw[d];rfl);rw[n]at g;cases g;have:=u (by rw[i];exact vo j);rw[i,Bx j]at this
  cases this
  exact⟨s,cg.refl _,trivial,b⟩
 |ext id m=>rw[d]at a;exact a.elim
 |dead=>exact absurd d l.live
def U7:List J→Bool
 |[]=>false
 |[x]=>match x with
  | .c7 _=>false
  | .ad .. =>false
  |_=>true
 |_=>true
noncomputable def q0(X:b3)(R:cG)(c:Code)(h:cb R.b1)(ms:List iP)(st:K):aO×J:=
 match Il X R ms (exec X R c h st)with
 |some q=>match R.md with
  | .pure=>match U7 (R.st q.2).n with
    |true=>(q.1,oo (R.st q.2).n)
    |false=>(.p False,.undef)
  | .own _=>(q.1,q.2.headD .undef)
  |_=>(.p False,.undef)
 |none=>(.p False,.undef)
theorem aBp: ∀{d a:List J},aU jN d a→U7 a=true→vs (oo d) (oo a)
 |[],[],_,h=>by cases h
 |[x],[y],h,c=>by
  have b:=h.1;simp only[oo];simp only[U7]at c
  cases x<;>cases y<;>first|exact b|(cases c;done)|(simp [jN,gT]at b;done)
 |_::_::_,_::_::_,h,_=>h
 |[],_::_,h,_=>h.elim
 |_::_,[],h,_=>h.elim
 |[_],_::_::_,h,_=>h.2.elim
 |_::_::_,[_],h,_=>h.2.elim
theorem azK{X:b3}{R:cG}{f:FuncId}{b:Func}{c:Code}{h:cb R.b1}{ms:List iP}{aa:List J}{r:J}{p:Prop}(t:X.env.dm)(G:X.P.funcs[f]? =some b)(F:b.body=some c)(E:R.rs=b.results.toList)
  (e:((q0 X R c h ms ⟨aa++List.replicate (b.ntmps-aa.length) .undef,[]⟩).1.prop,(q0 X R c h ms ⟨aa++List.replicate (b.ntmps-aa.length) .undef,[]⟩).1.g3,(q0 X R c h ms ⟨aa++List.replicate (b.ntmps-aa.length) .undef,[]⟩).2)=(p,(q0 X R c h ms ⟨aa++List.replicate (b.ntmps-aa.length) .undef,[]⟩).1.hK,r)) (I:p):e1 X.P f aa r:=by
 generalize B:(⟨aa++List.replicate (b.ntmps-aa.length) .undef,[]⟩:K)=st at e;simp only[tz]at e;obtain⟨z,A,aZ⟩:=e;have a:(q0 X R c h ms st).1.holds:=aO.ok _ A (by rw[z];exact I);clear z A;unfold q0 at a aZ
 split at a
 ·rename_i q u;rw[u]at aZ;simp only at aZ;obtain⟨o,y⟩:=q;simp only at a aZ
  split at a
  ·rename_i k;rw[k]at aZ;simp only at aZ
   split at a
   ·rename_i i;rw[i]at aZ;simp only at aZ;have w:=C4 u a fun v=>C1 t c h st v;refine vp t G F aa r ?_;rw[B];refine w.mono fun e s m=>⟨m.1,?_⟩;have d:=m.2;unfold ry at d;rw[k]at d;simp only at d;subst aZ;have D:yn X.env s b.results.toList fun M=>vs (oo M) (oo (R.st y).n):=by
     rw[←E];exact d _ fun N L=>aBp L i
    cases j:oo (R.st y).n<;>rw[j]at D<;>first|exact D|skip
    revert i j;generalize (R.st y).n=l;intro i j
    match l with
    |[]=>cases i
    |[x]=>simp only[oo]at j;subst j;cases i
    |_::_::_=>cases j
   ·exact a.elim
  ·rename_i cD k;rw[k]at aZ;simp only at aZ;have w:=C4 u a fun v=>C1 t c h st v;refine vp t G F aa r ?_;rw[B];refine w.mono fun e s m=>⟨m.1,?_⟩;have d:=m.2;unfold ry at d;rw[k]at d;simp only at d;obtain⟨n,g,H,C⟩:=d;subst H;simp only[List.headD_cons]at aZ;subst aZ;rw[E]at C;exact C
  ·exact a.elim
 ·exact a.elim
def ZA:List (Nat×cD)→TypeId→Option cD
 |[],_=>none
 |(a,t)::r,T=>match Nat.beq T a with
  |true=>some t
  |false=>ZA r T
abbrev mz:=List J→Option (aO×J)
def BY:List (Nat×mz)→FuncId→List J→Option (aO×J)
 |[],_,_=>none
 |(g,s)::r,f,a=>match Nat.beq f g with
  |true=>match s a with
   |some q=>some q
   |none=>BY r f a
  |false=>BY r f a
def pX(P:Program):List (Nat×mz)→Prop
 |[]=>True
 |x::r=>Cs P x.1 x.2∧pX P r
theorem Ww{P:Program} : ∀{l:List (Nat×mz)},pX P l→ ∀f a o r,BY l f a=some (o,r)→lg P f∧(o.holds→e1 P f a r)
 |[],_,_,_,_,_,h=>by cases h
 |(g,s)::l,b,f,a,o,r,h=>by
  simp only[BY]at h
  split at h
  ·rename_i e;have:f=g:=dQ e;subst this
   split at h
   ·rename_i q c
    cases h
    exact⟨b.1.vR,b.1.pure a _ _ c⟩
   ·exact Ww b.2 f a o r h
  ·exact Ww b.2 f a o r h
abbrev mA:=List J→Heap→Option (aO×List J×Heap)
def BX:List (Nat×mA)→FuncId→List J→Heap→Option (aO×List J×Heap)
 |[],_,_,_=>none
 |(g,s)::r,f,a,H=>match Nat.beq f g with
  |true=>match s a H with
   |some q=>some q
   |none=>BX r f a H
  |false=>BX r f a H
structure iR (P:Program) (f:FuncId) (s:mA):Prop where
 vR:lg P f
 call: ∀args H o rs H',s args H=some (o,rs,H')→o.holds→fm P f args H rs H'
def rD(P:Program):List (Nat×mA)→Prop
 |[]=>True
 |x::r=>iR P x.1 x.2∧rD P r
theorem Wu{P:Program} : ∀{l:List (Nat×mA)},rD P l→ ∀f a H o rs H',BX l f a H=some (o,rs,H')→lg P f∧(o.holds→fm P f a H rs H')
 |[],_,_,_,_,_,_,_,h=>by cases h
 |(g,s)::l,b,f,a,H,o,rs,H',h=>by
  simp only[BX]at h
  split at h
  ·rename_i e;have:f=g:=dQ e;subst this
   split at h
   ·rename_i q c
    cases h
    exact⟨b.1.vR,b.1.call a H _ _ _ c⟩
   ·exact Wu b.2 f a H o rs H' h
  ·exact Wu b.2 f a H o rs H' h
theorem aA5{P:Program}{l:List (Nat×mz)}(h:pX P l):Spec.dm P (fun f i=>match BY l f i with
  |some q=>some (some q.1.holds,q.2)
  |none=>none):=fun f a j r e=>by
 simp only at e
 split at e
 ·rename_i q b
  cases e
  obtain⟨c,d⟩:=Ww h f a q.1 q.2 b;exact⟨c,fun g=>d g.1⟩
 ·cases e
theorem aA4{P:Program}{l:List (Nat×mA)}(h:rD P l):vH.dm P (fun f i H=>match BX l f i H with
  |some q=>some (some q.1.holds,q.2)
  |none=>none):=fun f a H j rs H' e=>by
 simp only at e
 split at e
 ·rename_i q b;obtain⟨q1,k,m⟩:=q
  cases e
  obtain⟨c,d⟩:=Wu h f a H q1 _ _ b;exact⟨c,fun g=>d g.1⟩
 ·cases e
abbrev a:aB:= .int .i64
abbrev l:aB:= .bool
abbrev ai:aB:= .str
noncomputable def G.rep{α:Type}(n:Nat)(x:α):G α:=⟨n,fun _=>x⟩
theorem G.agS{α:Type}(n:Nat)(x:α):(G.rep n x).n=n:=rfl
def aD(s:G Int):Prop:= ∀i,0≤s.at' i∧s.at' i≤255
def aAV:J→J→Bool
 | .int k _,.int a _=>decide (k=a)
 | .bool _,.bool _=>true
 | .str _,.str _=>true
 | .arr s _ _,.arr b _ _=>Nat.beq s b
 |_,_=>false
def g3:List J→List J→Bool
 |[],[]=>true
 |x::a,y::b=>match aAV x y with
  |true=>g3 a b
  |false=>false
 |_,_=>false
def Qw:List (Nat×cD)→Nat→List J→Option cD
 |[],_,_=>none
 |(_,E)::r,a,cs=>match Nat.beq E.M a with
  |true=>match g3 (E.e (E.d [])) cs with
   |true=>some E
   |false=>Qw r a cs
  |false=>Qw r a cs
def asj(a:List (Nat×mA))(f:Nat):Bool:=a.any fun x=>Nat.beq f x.1
def b3.of(P:Program)(hr:List (Nat×bD))(wg:List (Nat×cD))(l:List (Nat×mz))(m:Nat)(a:List (Nat×mA)):b3:=⟨P,yB hr,ZA wg,BY l,m,BX a,Qw wg,asj a⟩
theorem b3.afU{P:Program}{hr:List (Nat×bD)}{wg:List (Nat×cD)}{l:List (Nat×mz)}{m:Nat}{a:List (Nat×mA)}(e:P.follows .mixedOrders=true)(h:(hr.all fun x=>B1 P x.1 x.2)=true)(d:(hr.all fun x=>HL P x)=true)(b:pX P l)(c:rD P a):
  (b3.of P hr wg l m a).env.dm:=ZD e h d (aA5 b) (aA4 c)
theorem Tj{E:Env}(s:E.dm){f:FuncId}{b:Func}{c:Code}(y:E.P.funcs[f]? =some b)(x:b.body=some c)(aa:List J)(H:Heap)(rs:List J)(H':Heap)(B:Nat.ble H.length E.m=true)
  (z:WP E c (fun e st=>(match e with
   | .normal=>True
   | .ret=>True
   |_=>False)∧va E st b.results.toList fun j=>j.length=rs.length∧cg E.m ⟨j,st.k⟩ ⟨rs,H'⟩) ⟨aa++List.replicate (b.ntmps-aa.length) .undef,H⟩):fm E.P f aa H rs H':=by
 intro S ι w j u O i;have n:=dB u (gL B);have K:aP S ι ⟨aa++List.replicate (b.ntmps-aa.length) .undef,H⟩ {tmps:=j.toArray++Array.replicate (b.ntmps-j.toArray.size) undef,defers:=[]} w:=by
  refine⟨i.below,rfl,fun t av d=> ?_,i.k,i.inj,i.fresh,i.gn,i.gr⟩;rcases fk t aa.length with h|h
  ·rw[tu h]at d;obtain⟨v,k,m⟩:=i.n t av d;refine⟨v,?_,m⟩;rw[pG (by simp;omega)];exact k
  ·rw[Ca h]at d;have L:t-aa.length<b.ntmps-aa.length:=by
    rcases fk (t-aa.length) (b.ntmps-aa.length)with l|l
    ·exact l
    ·rw[eF (by simpa using l)]at d;cases d
   rw[WW,bf L]at d
   cases d
   exact⟨undef,by rw[Array.getElem?_append_right (by simp;omega),Array.getElem?_replicate,bf (by simp;omega)],trivial⟩
 refine calls_of_wp y x (pF (z S n _ _ w K) fun e a w' ⟨kO,st,g,C⟩=> ?_);obtain⟨o,D⟩:=C;obtain⟨N,us,p,k,m⟩:=adL s g _ _ D;have F:=V9 m;have G:aP S kO ⟨N,st.k⟩ {tmps:=us.toArray,defers:=[]} w':=by
  refine⟨g.below,rfl,fun t av d=> ?_,g.k,g.inj,g.fresh,g.gn,g.gr⟩;obtain⟨v,q,r⟩:=k.get t av d;exact⟨v,by simpa using q,r⟩
 have A:us.length=rs.length:=by rw[←k.length];exact p.1
 obtain⟨eb,I⟩:=p.2 S n kO _ w' G;have M: ∃v,(results b a.tmps).run E.P w'= .ok v w'∧ ∃us an,Ending.returned v= .returned (pack us)∧us.length=rs.length∧aP S an ⟨rs,H'⟩ {tmps:=us.toArray,defers:=[]} w':=
  ⟨_,F,us,eb,rfl,A,I⟩
 cases e<;>simp only at o<;>first|exact⟨g.defers,M⟩|exact o.elim
noncomputable def mc(X:b3)(R:cG)(c:Code)(h:cb R.b1)(ms:List iP)(st:K):aO×K:=
 match Il X R ms (exec X R c h st)with
 |some q=>match R.md with
  | .heap=>(q.1,R.st q.2)
  | .k7 .. =>(q.1,R.st q.2)
  | .eB .. =>(q.1,R.st q.2)
  |_=>(.p False,st)
 |none=>(.p False,st)
theorem ado{X:b3}{R:cG}{f:FuncId}{g:Func}{c:Code}{h:cb R.b1}{ms:List iP}{aa:List J}{H:Heap}{rs:List J}{H':Heap}{p:Prop}(j:X.env.dm)(w:X.P.funcs[f]? =some g)(v:g.body=some c)(u:R.rs=g.results.toList)(x:Nat.ble H.length X.m=true)
  (e:((mc X R c h ms ⟨aa++List.replicate (g.ntmps-aa.length) .undef,H⟩).1.prop,(mc X R c h ms ⟨aa++List.replicate (g.ntmps-aa.length) .undef,H⟩).1.g3,(mc X R c h ms ⟨aa++List.replicate (g.ntmps-aa.length) .undef,H⟩).2)=(p,(mc X R c h ms ⟨aa++List.replicate (g.ntmps-aa.length) .undef,H⟩).1.hK,⟨rs,H'⟩)) (B:p):fm X.P f aa H rs H':=by
 generalize t:(⟨aa++List.replicate (g.ntmps-aa.length) .undef,H⟩:K)=st at e;simp only[tz]at e;obtain⟨y,z,aZ⟩:=e;have b:(mc X R c h ms st).1.holds:=aO.ok _ z (by rw[y];exact B);clear y z;unfold mc at b aZ
 split at b
 ·rename_i q r;rw[r]at aZ;simp only at aZ;obtain⟨o,C⟩:=q;simp only at b aZ
  split at b
  ·rename_i d;rw[d]at aZ;simp only at aZ;have n:=C4 r b fun k=>C1 j c h st k;refine Tj j w v aa H rs H' x ?_;rw[t];refine n.mono fun e s i=>⟨i.1,?_⟩;have a:=i.2;unfold ry at a;rw[d]at a;simp only at a;rw[aZ]at a;rw[←u];exact a _ fun A l m=>⟨l,m⟩
  ·rename_i d;rw[d]at aZ;simp only at aZ;have n:=C4 r b fun k=>C1 j c h st k;refine Tj j w v aa H rs H' x ?_;rw[t];refine n.mono fun e s i=>⟨i.1,?_⟩;have a:=i.2;unfold ry at a;rw[d]at a;simp only at a;rw[aZ]at a;rw[←u];exact a _ fun A l m=>⟨l,m⟩
  ·rename_i d;rw[d]at aZ;simp only at aZ;have n:=C4 r b fun k=>C1 j c h st k;refine Tj j w v aa H rs H' x ?_;rw[t];refine n.mono fun e s i=>⟨i.1,?_⟩;have a:=i.2;unfold ry at a;rw[d]at a;simp only at a;rw[aZ]at a;rw[←u];exact a _ fun A l m=>⟨l,m⟩
  ·exact b.elim
 ·exact b.elim
structure oB where
 pre:Option Prop
 rs:List J
 H:Heap
structure b0 where
 d_:List dn
 jB:List (Key×aB)
 iF:Heap
 f:dR (d_.flatMap dn.b1++jB.map (·.2)) (ULift oB)
def b0.heap(F:b0)(cs:List J):Heap:=(x9 ⟨[],F.iF⟩ (F.jB.map (·.1)) cs).k
def b0.dE(F:b0):Nat:=(F.d_.flatMap dn.b1).length
def b0.args(F:b0)(cs:List J):List J:=(fD F.d_ (cs.take F.dE)).map (BP (F.heap (cs.drop F.dE)))
def yN(b:Bool):(k:aB)→k.ty→Prop→Prop
 | .int _,_,p=>p
 | .bool,_,p=>p
 | .str,s,p=>match b with
   |true=>s.size≤549755813888→p
   |false=>p
 | .ab _,s,p=>match b with
   |true=>s.n≤549755813888→p
   |false=>p
 | .ad _,s,p=>match b with
   |true=>s.n≤549755813888→p
   |false=>p
def Co(P:Program)(f:FuncId)(F:b0):(a:List aB)→List Bool→dR a (ULift oB)→List J→Prop
 |[],_,A,acc=>vc A.down.pre (fm P f (F.args acc) (F.heap (acc.drop F.dE)) A.down.rs A.down.H)
 |k::a,b,A,acc=> ∀x:k.ty,yN (b.headD true) k x (Co P f F a b.tail (A x) (acc++[k.av x]))
def b0.gR(F:b0)(aa:List J)(H:Heap):Option (aO×List J×Heap):=
 c2 (yx F.d_ aa) (match dK (F.d_.flatMap dn.b1++F.jB.map (·.2)) (aa.flatMap PT++getAll ⟨[],H⟩ (F.jB.map (·.1)))with
 |some cs=>match dR.ap _ F.f cs with
  |some a=>c2 (Nat.beq H.length (F.heap (cs.drop F.dE)).length&&hq H.length ⟨F.args cs,F.heap (cs.drop F.dE)⟩)
    (some (.and (jQ ⟨aa,H⟩ ⟨F.args cs,F.heap (cs.drop F.dE)⟩) (.and (.e (getAll ⟨[],F.heap (cs.drop F.dE)⟩ (F.jB.map (·.1))) (cs.drop F.dE)) (BI a.down.pre)),a.down.rs,a.down.H))
  |none=>none
 |none=>none)
def nK(x:J):Prop:=
 match x with
 | .str s=>s.size≤dj
 | .arr _ n _=>n≤dj
 | .ad a b n _=>n≤dj∨(a=true∧b=0)
 |_=>True
def yg(x:J):Prop:=
 match x with
 | .agg cs=> ∀c∈cs,nK c
 |x=>nK x
def mI:List Bool→List J→Prop
 |a,c::cs=>(a.headD true=true→nK c)∧mI a.tail cs
 |_,[]=>True
theorem wm: ∀{ch:List Bool} {cs:List J} {d:List Bool} {e:List J},ch.length=cs.length→mI ch cs→mI d e→mI (ch++d) (cs++e)
 |[],[],_,_,_,_,h=>h
 |b::ch,c::cs,_,_,a,h,f=>⟨h.1,wm (by simpa using a) h.2 f⟩
 |[],_::_,_,_,a,_,_=>by simp at a
 |_::_,[],_,_,a,_,_=>by simp at a
theorem C5: ∀{n:Nat} {cs:List J},(∀c∈cs,nK c)→mI (List.replicate n true) cs
 |n,[],_=>by cases n<;>trivial
 |0,c::cs,h=>⟨fun _=>h c (by simp),C5 (n:=0) fun c a=>h c (by simp [a])⟩
 |n+1,c::cs,h=>⟨fun _=>h c (by simp),C5 (n:=n) fun c a=>h c (by simp [a])⟩
theorem Qx: ∀(n:Nat) (cs:List J),cs.length=n→mI (List.replicate n false) cs
 |_,[],_=>by trivial
 |0,_::_,h=>by simp at h
 |n+1,_::cs,h=>⟨fun h=>(by cases h),Qx n cs (by simpa using h)⟩
theorem q2: ∀(u:List dn) (l:List J),dK (u.flatMap dn.b1) l=some l→(∀x∈fD u l,yg x)→mI (u.flatMap dn.ch) l
 |[],l,n,_=>by
  cases l with
  |nil=>trivial
  |cons x w=>cases n
 |s::r,l,n,h=>by
  simp only[gO]at n ⊢;obtain⟨m,d⟩:=F9 n;have i:=vo m
  cases s with
  |v k=>
   cases l with
   |nil=>cases n
   |cons x w=>
    simp only[fD,List.headD_cons,List.tail_cons]at h;refine wm (ch:=[true]) (cs:=[x]) rfl ⟨fun _=> ?_,trivial⟩ (q2 r w d fun y a=>h y (by simp [a]));have t:=h x (by simp);simp only[dn.b1,dr,fH,c1,List.take_succ_cons,List.take_zero,dK]at m
    split at m<;>try (cases m;done)
    rename_i y e;simp only[gM,mw,and_true]at m;subst m;obtain⟨v,z,_⟩:=aB.Ga e;subst z
    cases k<;>exact t
  |g j=>
   simp only[fD]at h;simp only[dn.b1]at i d;have t: ∀c∈l.take j.length,nK c:=h (.agg (l.take j.length)) (by simp);have:=wm (ch:=List.replicate j.length true) (by simp [i]) (C5 t) (q2 r (l.drop j.length) d fun y a=>h y (by simp [a]));rwa [ri]at this
  |r j=>
   simp only[fD]at h;simp only[dn.b1]at i d;have:=wm (ch:=List.replicate j.length false) (cs:=l.take j.length) (by simp [i]) (Qx _ _ i) (q2 r (l.drop j.length) d fun y a=>h y (by simp [a]));rwa [ri]at this
  |fn f q=>
   simp only[fD]at h;simp only[dn.b1]at i d;have A: ∀y∈fD r (l.drop q.flatten.length),yg y:=fun y a=>h y (by
    rw[←PS]at a;simp [a])
   have:=wm (ch:=List.replicate q.flatten.length false) (cs:=l.take q.flatten.length) (by rw[List.length_replicate,i]) (Qx _ _ i) (q2 r (l.drop q.flatten.length) d A);rwa [ri]at this
  |p b=>exact q2 r l d fun y a=>h y (by simp [fD,a])
  |o b=>exact q2 r l d fun y a=>h y (by simp [fD,a])
  |ju f B=>exact q2 r l d fun y a=>h y (by simp [fD,a])
  |fa b o=>exact q2 r l d fun y a=>h y (by simp [fD,a])
theorem dR.Yk{P:Program}{f:FuncId}{F:b0} : ∀{bm:List aB} {ch:List Bool} {A:dR bm (ULift oB)} {acc cs:List J} {a:ULift oB},dR.ap bm A cs=some a→dK bm cs=some cs→mI ch cs→Co P f F bm ch A acc→vc a.down.pre (fm P f (F.args (acc++cs)) (F.heap ((acc++cs).drop F.dE)) a.down.rs a.down.H)
 |[],ch,A,acc,[],a,h,_,_,l=>by
  cases h
  rw[h_];exact l
 |[],_,_,_,_::_,_,h,_,_,_=>by cases h
 |_::_,_,_,_,[],_,h,_,_,_=>by cases h
 |k::bm,ch,A,acc,x::r,a,h,c,m,l=>by
  simp only[dR.ap]at h
  split at h<;>try (cases h;done)
  rename_i v e;simp only[dK]at c
  split at c<;>try (cases c;done)
  rename_i y i
  split at c<;>try (cases c;done)
  rename_i s n;simp only[gM,mw]at c;obtain⟨rfl,rfl⟩:=c;have q:y=k.av v:=by
   unfold aB.nrm at i;rw[e]at i
   cases i;rfl
  subst q;have o: ∀p,yN (ch.headD true) k v p→p:=fun p b=>by
   have d:=m.1
   cases j:ch.headD true with
   |false=>rw[j]at b;cases k<;>exact b
   |true=>
    rw[j]at b;have d:=d j
    cases k with
    |int _=>exact b
    |bool=>exact b
    |str=>exact b d
    |ab E=>exact b d
    |ad _=>exact b (d.resolve_right fun g=>by cases g.1)
  have:=dR.Yk (bm:=bm) (ch:=ch.tail) (acc:=acc++[k.av v]) h n m.2 (o _ (l v));rwa [eZ,Cb]at this
theorem C7{S:dM}{ι:Nat→Option Nat}{H:Heap}{w:World}{c:J}{v:Value}(h:eg S ι H w c v):nK c:=by
 cases c<;>try trivial
 ·have a:aR w (aK S ι H w) (.str _) v:=h;exact(aR.mH a).size
 ·have a:aR w (aK S ι H w) (.arr _ _ _) v:=h
  cases aR.mH a;assumption
 all_goals exact h.elim
theorem afW{S:dM}{ι:Nat→Option Nat}{H:Heap}{w:World}{x:J}{v:Value}(h:bg S ι H w x v):yg x:=by
 cases x
 case agg cs=>
  obtain⟨j,_,h⟩:=h;intro c d;obtain⟨i,e⟩:=ov d;obtain⟨u,_,b⟩:=h.get i c e;exact C7 b
 case undef=>trivial
 case gone=>trivial
 case c7=>trivial
 case str s=>exact C7 (show eg S ι H w (.str s) v from h)
 case arr a n f=>exact C7 (show eg S ι H w (.arr a n f) v from h)
 case ad g a n f=>exact(show False from h).elim
 all_goals trivial
theorem afX{H:Heap}{x:J}(h:yg (BP H x)):yg x:=by
 have b: ∀c,nK (Mz H c)→nK c:=fun c a=>by cases c<;>first|exact a|trivial
 cases x<;>first|exact h|trivial|skip
 intro c a;exact b c (h _ (ox.2 ⟨c,a,rfl⟩))
theorem ZX{S:dM}{ι:Nat→Option Nat}{st:K}{a:Act}{w:World}(h:aP S ι st a w)(b o:Nat):nK (B st.k b o):=by
 have c:=h.k b o
 cases e:B st.k b o<;>rw[e]at c<;>try trivial
 ·obtain⟨_,x,v,_,_,_,d⟩:=c;exact C7 (S:=S) d
 ·obtain⟨_,x,v,_,_,_,d⟩:=c;exact C7 (S:=S) d
 ·exact c.2.elim (fun g=> .inr ⟨g.1,g.2.1⟩) fun g=> .inl g.1
theorem b0.ok{P:Program}{f:FuncId}{F:b0}(d:lg P f)(jB:(F.jB.all fun k=>match k.1 with
  | .h _ _=>true
  |_=>false)=true) (h:Co P f F _ (F.d_.flatMap dn.ch) F.f []):iR P f F.gR:=by
 refine⟨d,fun args H o rs H' e T=> ?_⟩;unfold b0.gR at e;rw[c9]at e;replace e:=e.2
 split at e<;>try (cases e;done)
 rename_i cs D
 split at e<;>try (cases e;done)
 rename_i a C;rw[c9]at e;obtain⟨p,e⟩:=e
 cases e
 simp only[bL]at p;obtain⟨z,N,r⟩:=T;have y:=Bx D;have R:=dQ p.1;intro S ι w Z v V U;obtain⟨an,t⟩:=nH z p.2 S v ι _ w U;have G:args.length=(F.args cs).length:=zp (Bf (za z)).1;obtain⟨B,UM⟩:=F9 y;have I: ∀x∈fD F.d_ (cs.take F.dE),yg x:=fun x W=>by
  obtain⟨i,Q⟩:=ov W;obtain⟨eo,_,m⟩:=t.n i (BP (F.heap (cs.drop F.dE)) x) (by simp [b0.args,Q]);exact afX (afW m)
 have O: ∀c∈cs.drop F.dE,nK c:=by
  have M:getAll ⟨[],F.heap (cs.drop F.dE)⟩ (F.jB.map (·.1))=cs.drop F.dE:=N;rw[←M];have Y: ∀(l:List (Key×aB)),(l.all fun k=>match k.1 with
    | .h _ _=>true
    |_=>false)=true→ ∀c∈getAll ⟨[],F.heap (cs.drop F.dE)⟩ (l.map (·.1)),nK c:=by
   intro l
   induction l with
   |nil=>intro _ c d;simp [getAll]at d
   |cons k l u=>
    intro j c d;simp only[yM,bL]at j;simp only[G8,getAll,hS]at d;rcases d with rfl|d
    ·obtain⟨X,fX⟩:=k
     cases X with
     |h b o=>exact ZX t b o
     |_=>cases j.1
    ·exact u j.2 c d
  exact Y F.jB jB
 have L:mI (F.d_.flatMap dn.ch) cs:=by
  have E:=q2 F.d_ (cs.take F.dE) B I;have m:mI [] (cs.drop F.dE):=by
   have:=C5 (n:=0) O;exact this
  have j:=vo B;have J:(F.d_.flatMap dn.ch).length=(cs.take F.dE).length:=by
   have iF: ∀d_:List dn,(d_.flatMap dn.ch).length=(d_.flatMap dn.b1).length:=by
    intro d_
    induction d_ with
    |nil=>rfl
    |cons s b6 u=>
     simp only[gO,dC,u]
     congr 1
     cases s<;>simp [dn.ch,dn.b1]
   rw[iF];exact j.symm
  have:=wm J E m;rwa [h_,ri]at this
 have g:=dR.Yk C y L h;rw[pK]at g;have K:fm P f (F.args cs) (F.heap (cs.drop F.dE)) a.down.rs a.down.H:=by
  unfold BI at r
  cases A:a.down.pre with
  |none=>rw[A]at g;exact g
  |some q=>rw[A]at g r;exact g r
 exact K S an w Z (by rw[←R];exact v) (V.trans G) t
@[reducible] def ic:List aB→Type
  |[]=>Unit
  |k::a=>k.ty×ic a
def ic.gS:(a:List aB)→ic a→List J
 |[],_=>[]
 |k::a,s=>k.av s.1::ic.gS a s.2
def dR.n9{α:Type 1} :(b:List aB)→dR b α→ic b→α
 |[],a,_=>a
 |_::b,f,s=>dR.n9 b (f s.1) s.2
def Hg:(k:aB)→k.ty→Prop
 | .int _,_=>True
 | .bool,_=>True
 | .str,s=>s.size≤549755813888
 | .ab _,s=>s.n≤549755813888
 | .ad _,s=>s.n≤549755813888
def Ns:(a:List aB)→ic a→Prop
 |[],_=>True
 |k::a,s=>Hg k s.1∧Ns a s.2
theorem Xn{k:aB}{x:k.ty}{p:Prop}(h:Hg k x→p):yN true k x p:=by
 cases k<;>first|exact h trivial|exact h
theorem bV{i:Nat}(h:i<3):i=0∨i=1∨i=2:=by omega
structure c8 where
 d_:List dn
 bm:List aB
 c3:List J→Heap
 gt:Heap→List J
 f:dR (d_.flatMap dn.b1++bm) (ULift oB)
def c8.dE(F:c8):Nat:=(F.d_.flatMap dn.b1).length
def c8.args(F:c8)(cs:List J):List J:=(fD F.d_ (cs.take F.dE)).map (BP (F.c3 (cs.drop F.dE)))
def eP(P:Program)(f:FuncId)(F:c8):(a:List aB)→List Bool→dR a (ULift oB)→List J→Prop
 |[],_,A,acc=>vc A.down.pre (fm P f (F.args acc) (F.c3 (acc.drop F.dE)) A.down.rs A.down.H)
 |k::a,b,A,acc=> ∀x:k.ty,yN (b.headD true) k x (eP P f F a b.tail (A x) (acc++[k.av x]))
def c8.gR(F:c8)(aa:List J)(H:Heap):Option (aO×List J×Heap):=
 c2 (yx F.d_ aa) (match dK (F.d_.flatMap dn.b1++F.bm) (aa.flatMap PT++F.gt H)with
 |some cs=>match dR.ap _ F.f cs with
  |some a=>c2 (Nat.beq H.length (F.c3 (cs.drop F.dE)).length&&hq H.length ⟨F.args cs,F.c3 (cs.drop F.dE)⟩)
    (some (.and (jQ ⟨aa,H⟩ ⟨F.args cs,F.c3 (cs.drop F.dE)⟩) (.and (.e (F.gt (F.c3 (cs.drop F.dE))) (cs.drop F.dE)) (BI a.down.pre)),a.down.rs,a.down.H))
  |none=>none
 |none=>none)
theorem dR.Yo{P:Program}{f:FuncId}{F:c8} : ∀{bm:List aB} {ch:List Bool} {A:dR bm (ULift oB)} {acc cs:List J} {a:ULift oB},dR.ap bm A cs=some a→dK bm cs=some cs→mI ch cs→eP P f F bm ch A acc→vc a.down.pre (fm P f (F.args (acc++cs)) (F.c3 ((acc++cs).drop F.dE)) a.down.rs a.down.H)
 |[],ch,A,acc,[],a,h,_,_,l=>by
  cases h
  rw[h_];exact l
 |[],_,_,_,_::_,_,h,_,_,_=>by cases h
 |_::_,_,_,_,[],_,h,_,_,_=>by cases h
 |k::bm,ch,A,acc,x::r,a,h,c,m,l=>by
  simp only[dR.ap]at h
  split at h<;>try (cases h;done)
  rename_i v e;simp only[dK]at c
  split at c<;>try (cases c;done)
  rename_i y i
  split at c<;>try (cases c;done)
  rename_i s n;simp only[gM,mw]at c;obtain⟨rfl,rfl⟩:=c;have q:y=k.av v:=by
   unfold aB.nrm at i;rw[e]at i
   cases i;rfl
  subst q;have o: ∀p,yN (ch.headD true) k v p→p:=fun p b=>by
   have d:=m.1
   cases j:ch.headD true with
   |false=>rw[j]at b;cases k<;>exact b
   |true=>
    rw[j]at b;have d:=d j
    cases k with
    |int _=>exact b
    |bool=>exact b
    |str=>exact b d
    |ab E=>exact b d
    |ad _=>exact b (d.resolve_right fun g=>by cases g.1)
  have:=dR.Yo (bm:=bm) (ch:=ch.tail) (acc:=acc++[k.av v]) h n m.2 (o _ (l v));rwa [eZ,Cb]at this
theorem c8.ok{P:Program}{f:FuncId}{F:c8}(I:lg P f)(Q: ∀H,∀c∈F.gt H,∃b o,c=B H b o)(h:eP P f F _ (F.d_.flatMap dn.ch) F.f []):iR P f F.gR:=by
 refine⟨I,fun args H o rs H' e U=> ?_⟩;unfold c8.gR at e;rw[c9]at e;replace e:=e.2
 split at e<;>try (cases e;done)
 rename_i cs z
 split at e<;>try (cases e;done)
 rename_i a y;rw[c9]at e;obtain⟨j,e⟩:=e
 cases e
 simp only[bL]at j;obtain⟨t,M,k⟩:=U;have r:=Bx z;have T:=dQ j.1;intro S ι w Z m W V;obtain⟨an,l⟩:=nH t j.2 S m ι _ w V;have C:args.length=(F.args cs).length:=zp (Bf (za t)).1;obtain⟨v,UM⟩:=F9 r;have D: ∀x∈fD F.d_ (cs.take F.dE),yg x:=fun x X=>by
  obtain⟨i,O⟩:=ov X;obtain⟨eo,_,g⟩:=l.n i (BP (F.c3 (cs.drop F.dE)) x) (by simp [c8.args,O]);exact afX (afW g)
 have N: ∀c∈cs.drop F.dE,nK c:=by
  have L:F.gt (F.c3 (cs.drop F.dE))=cs.drop F.dE:=M;intro c p;rw[←L]at p;obtain⟨b,o,e⟩:=Q _ c p;rw[e];exact ZX l b o
 have K:mI (F.d_.flatMap dn.ch) cs:=by
  have A:=q2 F.d_ (cs.take F.dE) v D;have g:mI [] (cs.drop F.dE):=by
   have:=C5 (n:=0) N;exact this
  have R:=vo v;have G:(F.d_.flatMap dn.ch).length=(cs.take F.dE).length:=by
   have E: ∀d_:List dn,(d_.flatMap dn.ch).length=(d_.flatMap dn.b1).length:=by
    intro d_
    induction d_ with
    |nil=>rfl
    |cons s b6 Y=>
     simp only[gO,dC,Y]
     congr 1
     cases s<;>simp [dn.ch,dn.b1]
   rw[E];exact R.symm
  have:=wm G A g;rwa [h_,ri]at this
 have d:=dR.Yo y r K h;rw[pK]at d;have J:fm P f (F.args cs) (F.c3 (cs.drop F.dE)) a.down.rs a.down.H:=by
  unfold BI at k
  cases u:a.down.pre with
  |none=>rw[u]at d;exact d
  |some q=>rw[u]at d k;exact d k
 exact J S an w Z (by rw[←T];exact m) (W.trans C) l
theorem Xz{P:Program}{f:FuncId}{F:c8} : ∀{bm:List aB} {A:dR bm (ULift oB)} {acc:List J},
  (∀s:ic bm,Ns bm s→vc (dR.n9 bm A s).down.pre (fm P f (F.args (acc++ic.gS bm s)) (F.c3 ((acc++ic.gS bm s).drop F.dE)) (dR.n9 bm A s).down.rs (dR.n9 bm A s).down.H))→eP P f F bm [] A acc
 |[],A,acc,h=>by
  have:=h () trivial;simp only[ic.gS,h_]at this;exact this
 |k::bm,A,acc,h=>fun x=>Xn fun b=>Xz (bm:=bm) (A:=A x) (acc:=acc++[k.av x]) fun s a=>by
  have:=h (x,s) ⟨b,a⟩;simp only[ic.gS,dR.n9]at this;simpa only[eZ,Cb]using this
def dR.part{α:Type 1} :(b a:List aB)→dR (b++a) α→ic b→dR a α
 |[],_,f,_=>f
 |_::b,a,f,s=>dR.part b a (f s.1) s.2
def Xm:List Bool→(a:List aB)→ic a→Prop
 |_,[],_=>True
 |b,k::a,s=>(b.headD true=true→Hg k s.1)∧Xm b.tail a s.2
theorem aiy{b:Bool}{k:aB}{x:k.ty}{p:Prop}(h:(b=true→Hg k x)→p):yN b k x p:=by
 cases b with
 |true=>exact Xn fun q=>h fun _=>q
 |false=>cases k<;>exact h fun e=>by cases e
theorem jq{P:Program}{f:FuncId}{F:c8}{a:List aB} : ∀{bm:List aB} {ch:List Bool} {A:dR (bm++a) (ULift oB)} {acc:List J},
  (∀s:ic bm,Xm ch bm s→eP P f F a (ch.drop bm.length) (dR.part bm a A s) (acc++ic.gS bm s))→eP P f F (bm++a) ch A acc
 |[],ch,A,acc,h=>by
  have:=h () trivial;simp only[ic.gS,h_,fH,List.drop_zero]at this;exact this
 |k::bm,ch,A,acc,h=>fun x=>aiy fun c=>jq (bm:=bm) (ch:=ch.tail) (A:=A x) (acc:=acc++[k.av x]) fun s b=>by
  have:=h (x,s) ⟨c,b⟩;simp only[ic.gS]at this;have e:ch.drop (k::bm).length=ch.tail.drop bm.length:=by simp
  rw[e]at this;rw[eZ,Cb];exact this
end Go.af
namespace Go.Proofs.YtfmgjpcmcjjoiaaGreatDoor
open Go Go.RowKit Go.af
abbrev M8(n:FuncId)(F:ba):Prop:=Hn Tryz.prog n F.d_ _ (F.d_.flatMap dn.ch) F.f []
abbrev aij(n:FuncId)(F:b0):Prop:=Co Tryz.prog n F _ (F.d_.flatMap dn.ch) F.f []
abbrev fO(n:FuncId)(F:c8):Prop:=eP Tryz.prog n F _ (F.d_.flatMap dn.ch) F.f []
abbrev bn(n:FuncId)(F:ba):Prop:=Cs Tryz.prog n F.gR
abbrev dJ(n:FuncId)(F:b0):Prop:=iR Tryz.prog n F.gR
abbrev fP(n:FuncId)(F:c8):Prop:=iR Tryz.prog n F.gR
end Go.Proofs.YtfmgjpcmcjjoiaaGreatDoor
namespace Go.Proofs.YtfmgjpcmcjjoiaaGreatDoor
open Go Go.af
noncomputable abbrev Xq:cD:=⟨Int,inferInstance,1,aZ,d3,anM⟩
noncomputable abbrev c5:cD:=⟨bl,inferInstance,2,fz,d160,anJ⟩
noncomputable abbrev bK:cD:=⟨ByteArray,inferInstance,1,cK,d9,anX⟩
noncomputable abbrev cS:cD:=⟨bH,inferInstance,2,fA,d164,anK⟩
noncomputable abbrev bd:cD:=⟨L,inferInstance,8,gp,d175,anL⟩
noncomputable abbrev bT:cD:=⟨aw,inferInstance,7,gV,d137,anI⟩
noncomputable abbrev dh:cD:=⟨aq,inferInstance,10,dU,d68,anV⟩
noncomputable abbrev a5:cD:=⟨Int,inferInstance,1,cN,d5,anU⟩
noncomputable abbrev Xr:cD:=⟨(G Int),inferInstance,1,Zu,d43,anT⟩
noncomputable abbrev yP:cD:=⟨bo,inferInstance,20,Qf,d122,anH⟩
noncomputable abbrev lO:cD:=⟨aJ,inferInstance,10,Zv,d75,anW⟩
noncomputable abbrev NB:cD:=⟨iQ,inferInstance,11,H0,Zj,anP⟩
noncomputable abbrev jK:cD:=⟨bF,inferInstance,12,HY,Zh,anN⟩
noncomputable abbrev cJ:cD:=⟨aM,inferInstance,2,HZ,Zi,anO⟩
noncomputable abbrev dd:cD:=⟨hz,inferInstance,9,Zt,Zl,anR⟩
noncomputable abbrev cw:cD:=⟨ah,inferInstance,15,ig,Zk,anQ⟩
noncomputable abbrev NC:cD:=⟨iw,inferInstance,8,zi,mF,anS⟩
noncomputable def wg:List (Nat×cD):=[(3,Xq),(130,c5),(9,bK),(133,cS),(127,bd),(135,bT),(53,dh),(5,a5),(83,Xr),(166,yP),(38,lO),(51,NB),(101,jK),(105,cJ),(147,dd),(117,cw),(73,NC)]
noncomputable def afr(l:List (Nat×mz)):b3:=b3.of Tryz.prog hr wg l 0 []
theorem cu{l:List (Nat×mz)}(h:pX Tryz.prog l):(afr l).env.dm:=b3.afU mixed WC PY h trivial
noncomputable def afs(m:Nat)(l:List (Nat×mz))(a:List (Nat×mA)):b3:=b3.of Tryz.prog hr wg l m a
theorem axz{m:Nat}{l:List (Nat×mz)}{a:List (Nat×mA)}(h:pX Tryz.prog l)(b:rD Tryz.prog a):(afs m l a).env.dm:=b3.afU mixed WC PY h b
noncomputable abbrev alN:b3:=afr []
theorem fb:alN.env.dm:=cu trivial
end Go.Proofs.YtfmgjpcmcjjoiaaGreatDoor
namespace Go.af
def cb.ae{R:List aB}(h:cb R):cb R:=.s .z h
theorem bu{X:b3}{f:FuncId}{b:Func}{c:Code}{a:List J}{r:J}(R:cG)(h:cb R.b1)(p:Prop)(d:X.env.dm)(j:X.P.funcs[f]?=some b)(k:p)(ms:List iP:=[])(i:b.body=some c:=by exact rfl)(g:R.rs=b.results.toList:=by exact rfl)(e:((q0 X R c h ms ⟨a++List.replicate (b.ntmps-a.length) .undef,[]⟩).1.prop,(q0 X R c h ms ⟨a++List.replicate (b.ntmps-a.length) .undef,[]⟩).1.g3,(q0 X R c h ms ⟨a++List.replicate (b.ntmps-a.length) .undef,[]⟩).2)=(p,(q0 X R c h ms ⟨a++List.replicate (b.ntmps-a.length) .undef,[]⟩).1.hK,r):=by kernel_rfl):e1 X.P f a r:=azK d j i g e k
theorem dI{X:b3}{f:FuncId}{b:Func}{c:Code}{a:List J}{H:Heap}{rs:List J}{H':Heap}(R:cG)(h:cb R.b1)(p:Prop)(d:X.env.dm)(j:X.P.funcs[f]?=some b)(l:p)(ms:List iP:=[])(i:b.body=some c:=by exact rfl)(g:R.rs=b.results.toList:=by exact rfl)(k:Nat.ble H.length X.m=true:=by exact rfl)(e:((mc X R c h ms ⟨a++List.replicate (b.ntmps-a.length) .undef,H⟩).1.prop,(mc X R c h ms ⟨a++List.replicate (b.ntmps-a.length) .undef,H⟩).1.g3,(mc X R c h ms ⟨a++List.replicate (b.ntmps-a.length) .undef,H⟩).2)=(p,(mc X R c h ms ⟨a++List.replicate (b.ntmps-a.length) .undef,H⟩).1.hK,⟨rs,H'⟩):=by kernel_rfl):fm X.P f a H rs H':=ado d j i g k e l
theorem ef{X:b3}{f:FuncId}{b:Func}{c:Code}{a:List J}{H:Heap}{rs:List J}{H':Heap}(R:cG)(h:cb R.b1)(p:Prop)(d:X.env.dm)(j:X.P.funcs[f]?=some b)(ms:List iP)(k:Nat.ble H.length X.m=true)(e:((mc X R c h ms ⟨a++List.replicate (b.ntmps-a.length) .undef,H⟩).1.prop,(mc X R c h ms ⟨a++List.replicate (b.ntmps-a.length) .undef,H⟩).1.g3,(mc X R c h ms ⟨a++List.replicate (b.ntmps-a.length) .undef,H⟩).2)=(p,(mc X R c h ms ⟨a++List.replicate (b.ntmps-a.length) .undef,H⟩).1.hK,⟨rs,H'⟩))(l:p)(i:b.body=some c:=by exact rfl)(g:R.rs=b.results.toList:=by exact rfl):fm X.P f a H rs H':=ado d j i g k e l
end Go.af
namespace Go.Proofs.YtfmgjpcmcjjoiaaGreatDoor
open Go Go.RowKit Go.af
theorem aG{n:Nat}{a:mz}{l:List (Nat×mz)}(k:Cs Tryz.prog n a)(h:pX Tryz.prog l):pX Tryz.prog ((n,a)::l):=⟨k,h⟩
theorem aT:pX Tryz.prog []:=trivial
theorem aj{n:Nat}{a:mA}{l:List (Nat×mA)}(k:iR Tryz.prog n a)(h:rD Tryz.prog l):rD Tryz.prog ((n,a)::l):=⟨k,h⟩
theorem bI:rD Tryz.prog []:=trivial
theorem bJ(m:Nat){l:List (Nat×mz)}{a:List (Nat×mA)}(h:pX Tryz.prog l)(b:rD Tryz.prog a):(afs m l a).env.dm:=axz h b
theorem bq{n:FuncId}{F:ba}{a:Func}{c:Code}(h:Tryz.prog.funcs[n]?=some a)(p:M8 n F)(b:a.body=some c:=by exact rfl)(d:(a.name== "runtime.NumGoroutine")=false:=by kernel_rfl):bn n F:=ba.ok ⟨a,c,h,b,d⟩ p
theorem dL{n:FuncId}{F:b0}{a:Func}{c:Code}(h:Tryz.prog.funcs[n]?=some a)(p:aij n F)(b:a.body=some c:=by exact rfl)(e:(a.name== "runtime.NumGoroutine")=false:=by kernel_rfl)(d:(F.jB.all fun k=>match k.1 with|.h _ _=>true|_=>false)=true:=by kernel_rfl):dJ n F:=b0.ok ⟨a,c,h,b,e⟩ d p
theorem gj{n:FuncId}{F:c8}{a:Func}{c:Code}(e:∀H,∀c∈F.gt H,∃b o,c=B H b o)(h:Tryz.prog.funcs[n]?=some a)(p:fO n F)(d:a.body=some c:=by exact rfl)(f:(a.name== "runtime.NumGoroutine")=false:=by kernel_rfl):fP n F:=c8.ok ⟨a,c,h,d,f⟩ e p
theorem ayZ(A:G aq):e1 Tryz.prog 35 [aI 10 dU A] (.ad false 10 A.n (fun i=>dU (A.at' i))):=by
 refine e1.mH fun b=> ?_;have c:fI (aI 10 dU A):=b.1;have e:A.n≤549755813888:=c.len;refine vp (E:=x8 []) (gZ trivial) Tryz.func35 rfl _ _ ?_;refine WP.step (gZ trivial) ⟨[aI 10 dU A,U,.aA,U,U,U,U,U],[]⟩ (((A.n=A.n∧ ∀i,i<A.n→dU (A.at' i)=dU (A.at' i))∧((.aA:J)= .aA)∧True)∧True∧true=true) (by kernel_rfl) ⟨⟨⟨rfl,fun _ _=>rfl⟩,rfl,trivial⟩,trivial,rfl⟩ ?_;refine WP.FL ⟨[aI 10 dU A,U,.aA,U,U,U,U,U],[]⟩ ?_ ?_
 ·refine WP.C0 (T:=41) (gZ (l:=[]) trivial) rfl rfl rfl rfl rfl rfl rfl rfl rfl (by show 3<8;omega) fun q d=> ?_;refine WP.CV q rfl (fun h=> ?_) (fun h=> ?_)
  ·refine WP.step (gZ trivial) ⟨[aI 10 dU A,U,.aA,U,U,U,U,U],[]⟩ (((A.n=A.n∧ ∀i,i<A.n→dU (A.at' i)=dU (A.at' i))∧((.aA:J)= .aA)∧True)∧True∧true=true) (by kernel_rfl) ⟨⟨⟨rfl,fun _ _=>rfl⟩,rfl,trivial⟩,trivial,rfl⟩ ?_;exact WP.pA (True∧(A.n=0)) (by kernel_rfl) ⟨trivial,d h⟩
  ·exact WP.GL (((A.n=A.n∧ ∀i,i<A.n→dU (A.at' i)=dU (A.at' i))∧((.aA:J)= .aA)∧True)∧True∧true=true) (by kernel_rfl) ⟨⟨⟨rfl,fun _ _=>rfl⟩,rfl,trivial⟩,trivial,rfl⟩
 ·refine WP.step (gZ trivial) ⟨[aI 10 dU A,U,.own 0 A.n,U,U,U,U,U],[[.ad false 10 A.n (fun i=>dU (A.at' i))]]⟩ (∃h:Nat→List J,(∀i,i<0→j6 (([]:List (List J)).getD i []) (h i))∧((0:Nat)=0)∧(0+A.n≤549755813888)∧ ∃a:Nat→List J,(∀i,i<0+A.n→hB 0 h (fun i=>dU (A.at' i)) i=a i)∧(((A.n=A.n∧ ∀i,i<A.n→dU (A.at' i)=dU (A.at' i))∧((.own 0 (0+A.n):J)= .own 0 A.n)∧True)∧(((0+A.n=A.n∧ ∀i,i<A.n→j6 (a i) (dU (A.at' i)))∧True)∧True)∧true=true)) (by kernel_rfl)
   ⟨fun _=>[],fun i h=>absurd h (en i),rfl,by omega,fun i=>dU (A.at' i),fun i _=>CC _ _ i,⟨⟨rfl,fun _ _=>rfl⟩,(by rw[c1]),trivial⟩,⟨⟨⟨c1 _,fun _ _=>yc _⟩,trivial⟩,trivial⟩,rfl⟩ ?_
  exact WP.pA (True∧((A.n:Nat)=A.n∧A.n=A.n∧ ∀i,i<A.n→dU (A.at' i)=dU (A.at' i))) (by kernel_rfl) ⟨trivial,rfl,rfl,fun _ _=>rfl⟩
theorem ay0(A:G Int):e1 Tryz.prog 127 [aI 1 cN A] (.ad false 1 A.n (fun i=>cN (A.at' i))):=by
 refine e1.mH fun b=> ?_;have c:fI (aI 1 cN A):=b.1;have e:A.n≤549755813888:=c.len;refine vp (E:=x8 []) (gZ trivial) Tryz.func127 rfl _ _ ?_;refine WP.step (gZ trivial) ⟨[aI 1 cN A,U,.aA,U,U,U,U,U],[]⟩ (((A.n=A.n∧ ∀i,i<A.n→cN (A.at' i)=cN (A.at' i))∧((.aA:J)= .aA)∧True)∧True∧true=true) (by kernel_rfl) ⟨⟨⟨rfl,fun _ _=>rfl⟩,rfl,trivial⟩,trivial,rfl⟩ ?_;refine WP.FL ⟨[aI 1 cN A,U,.aA,U,U,U,U,U],[]⟩ ?_ ?_
 ·refine WP.C0 (T:=83) (gZ (l:=[]) trivial) rfl rfl rfl rfl rfl rfl rfl rfl rfl (by show 3<8;omega) fun q d=> ?_;refine WP.CV q rfl (fun h=> ?_) (fun h=> ?_)
  ·refine WP.step (gZ trivial) ⟨[aI 1 cN A,U,.aA,U,U,U,U,U],[]⟩ (((A.n=A.n∧ ∀i,i<A.n→cN (A.at' i)=cN (A.at' i))∧((.aA:J)= .aA)∧True)∧True∧true=true) (by kernel_rfl) ⟨⟨⟨rfl,fun _ _=>rfl⟩,rfl,trivial⟩,trivial,rfl⟩ ?_;exact WP.pA (True∧(A.n=0)) (by kernel_rfl) ⟨trivial,d h⟩
  ·exact WP.GL (((A.n=A.n∧ ∀i,i<A.n→cN (A.at' i)=cN (A.at' i))∧((.aA:J)= .aA)∧True)∧True∧true=true) (by kernel_rfl) ⟨⟨⟨rfl,fun _ _=>rfl⟩,rfl,trivial⟩,trivial,rfl⟩
 ·refine WP.step (gZ trivial) ⟨[aI 1 cN A,U,.own 0 A.n,U,U,U,U,U],[[.ad false 1 A.n (fun i=>cN (A.at' i))]]⟩ (∃h:Nat→List J,(∀i,i<0→j6 (([]:List (List J)).getD i []) (h i))∧((0:Nat)=0)∧(0+A.n≤549755813888)∧ ∃a:Nat→List J,(∀i,i<0+A.n→hB 0 h (fun i=>cN (A.at' i)) i=a i)∧(((A.n=A.n∧ ∀i,i<A.n→cN (A.at' i)=cN (A.at' i))∧((.own 0 (0+A.n):J)= .own 0 A.n)∧True)∧(((0+A.n=A.n∧ ∀i,i<A.n→j6 (a i) (cN (A.at' i)))∧True)∧True)∧true=true)) (by kernel_rfl)
   ⟨fun _=>[],fun i h=>absurd h (en i),rfl,by omega,fun i=>cN (A.at' i),fun i _=>CC _ _ i,⟨⟨rfl,fun _ _=>rfl⟩,(by rw[c1]),trivial⟩,⟨⟨⟨c1 _,fun _ _=>yc _⟩,trivial⟩,trivial⟩,rfl⟩ ?_
  exact WP.pA (True∧((A.n:Nat)=A.n∧A.n=A.n∧ ∀i,i<A.n→cN (A.at' i)=cN (A.at' i))) (by kernel_rfl) ⟨trivial,rfl,rfl,fun _ _=>rfl⟩
theorem ay3(A:G bl):e1 Tryz.prog 47 [aI 2 fz A] (.ad false 2 A.n (fun i=>fz (A.at' i))):=by
 refine e1.mH fun b=> ?_;have c:fI (aI 2 fz A):=b.1;have e:A.n≤549755813888:=c.len;refine vp (E:=x8 []) (gZ trivial) Tryz.func47 rfl _ _ ?_;refine WP.step (gZ trivial) ⟨[aI 2 fz A,U,.aA,U,U,U,U,U],[]⟩ (((A.n=A.n∧ ∀i,i<A.n→fz (A.at' i)=fz (A.at' i))∧((.aA:J)= .aA)∧True)∧True∧true=true) (by kernel_rfl) ⟨⟨⟨rfl,fun _ _=>rfl⟩,rfl,trivial⟩,trivial,rfl⟩ ?_;refine WP.FL ⟨[aI 2 fz A,U,.aA,U,U,U,U,U],[]⟩ ?_ ?_
 ·refine WP.C0 (T:=122) (gZ (l:=[]) trivial) rfl rfl rfl rfl rfl rfl rfl rfl rfl (by show 3<8;omega) fun q d=> ?_;refine WP.CV q rfl (fun h=> ?_) (fun h=> ?_)
  ·refine WP.step (gZ trivial) ⟨[aI 2 fz A,U,.aA,U,U,U,U,U],[]⟩ (((A.n=A.n∧ ∀i,i<A.n→fz (A.at' i)=fz (A.at' i))∧((.aA:J)= .aA)∧True)∧True∧true=true) (by kernel_rfl) ⟨⟨⟨rfl,fun _ _=>rfl⟩,rfl,trivial⟩,trivial,rfl⟩ ?_;exact WP.pA (True∧(A.n=0)) (by kernel_rfl) ⟨trivial,d h⟩
  ·exact WP.GL (((A.n=A.n∧ ∀i,i<A.n→fz (A.at' i)=fz (A.at' i))∧((.aA:J)= .aA)∧True)∧True∧true=true) (by kernel_rfl) ⟨⟨⟨rfl,fun _ _=>rfl⟩,rfl,trivial⟩,trivial,rfl⟩
 ·refine WP.step (gZ trivial) ⟨[aI 2 fz A,U,.own 0 A.n,U,U,U,U,U],[[.ad false 2 A.n (fun i=>fz (A.at' i))]]⟩ (∃h:Nat→List J,(∀i,i<0→j6 (([]:List (List J)).getD i []) (h i))∧((0:Nat)=0)∧(0+A.n≤549755813888)∧ ∃a:Nat→List J,(∀i,i<0+A.n→hB 0 h (fun i=>fz (A.at' i)) i=a i)∧(((A.n=A.n∧ ∀i,i<A.n→fz (A.at' i)=fz (A.at' i))∧((.own 0 (0+A.n):J)= .own 0 A.n)∧True)∧(((0+A.n=A.n∧ ∀i,i<A.n→j6 (a i) (fz (A.at' i)))∧True)∧True)∧true=true)) (by kernel_rfl)
   ⟨fun _=>[],fun i h=>absurd h (en i),rfl,by omega,fun i=>fz (A.at' i),fun i _=>CC _ _ i,⟨⟨rfl,fun _ _=>rfl⟩,(by rw[c1]),trivial⟩,⟨⟨⟨c1 _,fun _ _=>yc _⟩,trivial⟩,trivial⟩,rfl⟩ ?_
  exact WP.pA (True∧((A.n:Nat)=A.n∧A.n=A.n∧ ∀i,i<A.n→fz (A.at' i)=fz (A.at' i))) (by kernel_rfl) ⟨trivial,rfl,rfl,fun _ _=>rfl⟩
theorem ay4(A:G u):e1 Tryz.prog 32 [aI 1 cK A] (.ad false 1 A.n (fun i=>cK (A.at' i))):=by
 refine e1.mH fun b=> ?_;have c:fI (aI 1 cK A):=b.1;have e:A.n≤549755813888:=c.len;refine vp (E:=x8 []) (gZ trivial) Tryz.func32 rfl _ _ ?_;refine WP.step (gZ trivial) ⟨[aI 1 cK A,U,.aA,U,U,U,U,U],[]⟩ (((A.n=A.n∧ ∀i,i<A.n→cK (A.at' i)=cK (A.at' i))∧((.aA:J)= .aA)∧True)∧True∧true=true) (by kernel_rfl) ⟨⟨⟨rfl,fun _ _=>rfl⟩,rfl,trivial⟩,trivial,rfl⟩ ?_;refine WP.FL ⟨[aI 1 cK A,U,.aA,U,U,U,U,U],[]⟩ ?_ ?_
 ·refine WP.C0 (T:=97) (gZ (l:=[]) trivial) rfl rfl rfl rfl rfl rfl rfl rfl rfl (by show 3<8;omega) fun q d=> ?_;refine WP.CV q rfl (fun h=> ?_) (fun h=> ?_)
  ·refine WP.step (gZ trivial) ⟨[aI 1 cK A,U,.aA,U,U,U,U,U],[]⟩ (((A.n=A.n∧ ∀i,i<A.n→cK (A.at' i)=cK (A.at' i))∧((.aA:J)= .aA)∧True)∧True∧true=true) (by kernel_rfl) ⟨⟨⟨rfl,fun _ _=>rfl⟩,rfl,trivial⟩,trivial,rfl⟩ ?_;exact WP.pA (True∧(A.n=0)) (by kernel_rfl) ⟨trivial,d h⟩
  ·exact WP.GL (((A.n=A.n∧ ∀i,i<A.n→cK (A.at' i)=cK (A.at' i))∧((.aA:J)= .aA)∧True)∧True∧true=true) (by kernel_rfl) ⟨⟨⟨rfl,fun _ _=>rfl⟩,rfl,trivial⟩,trivial,rfl⟩
 ·refine WP.step (gZ trivial) ⟨[aI 1 cK A,U,.own 0 A.n,U,U,U,U,U],[[.ad false 1 A.n (fun i=>cK (A.at' i))]]⟩ (∃h:Nat→List J,(∀i,i<0→j6 (([]:List (List J)).getD i []) (h i))∧((0:Nat)=0)∧(0+A.n≤549755813888)∧ ∃a:Nat→List J,(∀i,i<0+A.n→hB 0 h (fun i=>cK (A.at' i)) i=a i)∧(((A.n=A.n∧ ∀i,i<A.n→cK (A.at' i)=cK (A.at' i))∧((.own 0 (0+A.n):J)= .own 0 A.n)∧True)∧(((0+A.n=A.n∧ ∀i,i<A.n→j6 (a i) (cK (A.at' i)))∧True)∧True)∧true=true)) (by kernel_rfl)
   ⟨fun _=>[],fun i h=>absurd h (en i),rfl,by omega,fun i=>cK (A.at' i),fun i _=>CC _ _ i,⟨⟨rfl,fun _ _=>rfl⟩,(by rw[c1]),trivial⟩,⟨⟨⟨c1 _,fun _ _=>yc _⟩,trivial⟩,trivial⟩,rfl⟩ ?_
  exact WP.pA (True∧((A.n:Nat)=A.n∧A.n=A.n∧ ∀i,i<A.n→cK (A.at' i)=cK (A.at' i))) (by kernel_rfl) ⟨trivial,rfl,rfl,fun _ _=>rfl⟩
theorem ay5(A:G bH):e1 Tryz.prog 48 [aI 2 fA A] (.ad false 2 A.n (fun i=>fA (A.at' i))):=by
 refine e1.mH fun b=> ?_;have c:fI (aI 2 fA A):=b.1;have e:A.n≤549755813888:=c.len;refine vp (E:=x8 []) (gZ trivial) Tryz.func48 rfl _ _ ?_;refine WP.step (gZ trivial) ⟨[aI 2 fA A,U,.aA,U,U,U,U,U],[]⟩ (((A.n=A.n∧ ∀i,i<A.n→fA (A.at' i)=fA (A.at' i))∧((.aA:J)= .aA)∧True)∧True∧true=true) (by kernel_rfl) ⟨⟨⟨rfl,fun _ _=>rfl⟩,rfl,trivial⟩,trivial,rfl⟩ ?_;refine WP.FL ⟨[aI 2 fA A,U,.aA,U,U,U,U,U],[]⟩ ?_ ?_
 ·refine WP.C0 (T:=123) (gZ (l:=[]) trivial) rfl rfl rfl rfl rfl rfl rfl rfl rfl (by show 3<8;omega) fun q d=> ?_;refine WP.CV q rfl (fun h=> ?_) (fun h=> ?_)
  ·refine WP.step (gZ trivial) ⟨[aI 2 fA A,U,.aA,U,U,U,U,U],[]⟩ (((A.n=A.n∧ ∀i,i<A.n→fA (A.at' i)=fA (A.at' i))∧((.aA:J)= .aA)∧True)∧True∧true=true) (by kernel_rfl) ⟨⟨⟨rfl,fun _ _=>rfl⟩,rfl,trivial⟩,trivial,rfl⟩ ?_;exact WP.pA (True∧(A.n=0)) (by kernel_rfl) ⟨trivial,d h⟩
  ·exact WP.GL (((A.n=A.n∧ ∀i,i<A.n→fA (A.at' i)=fA (A.at' i))∧((.aA:J)= .aA)∧True)∧True∧true=true) (by kernel_rfl) ⟨⟨⟨rfl,fun _ _=>rfl⟩,rfl,trivial⟩,trivial,rfl⟩
 ·refine WP.step (gZ trivial) ⟨[aI 2 fA A,U,.own 0 A.n,U,U,U,U,U],[[.ad false 2 A.n (fun i=>fA (A.at' i))]]⟩ (∃h:Nat→List J,(∀i,i<0→j6 (([]:List (List J)).getD i []) (h i))∧((0:Nat)=0)∧(0+A.n≤549755813888)∧ ∃a:Nat→List J,(∀i,i<0+A.n→hB 0 h (fun i=>fA (A.at' i)) i=a i)∧(((A.n=A.n∧ ∀i,i<A.n→fA (A.at' i)=fA (A.at' i))∧((.own 0 (0+A.n):J)= .own 0 A.n)∧True)∧(((0+A.n=A.n∧ ∀i,i<A.n→j6 (a i) (fA (A.at' i)))∧True)∧True)∧true=true)) (by kernel_rfl)
   ⟨fun _=>[],fun i h=>absurd h (en i),rfl,by omega,fun i=>fA (A.at' i),fun i _=>CC _ _ i,⟨⟨rfl,fun _ _=>rfl⟩,(by rw[c1]),trivial⟩,⟨⟨⟨c1 _,fun _ _=>yc _⟩,trivial⟩,trivial⟩,rfl⟩ ?_
  exact WP.pA (True∧((A.n:Nat)=A.n∧A.n=A.n∧ ∀i,i<A.n→fA (A.at' i)=fA (A.at' i))) (by kernel_rfl) ⟨trivial,rfl,rfl,fun _ _=>rfl⟩
def ai9:ba:=⟨[.v (.ab dh)],fun A=>⟨⟨none,(aB.ad dh).av A⟩⟩⟩
theorem Bb:bn 35 ai9:=bq Tryz.func35 fun A _ _=>ayZ A
def ajw:ba:=⟨[.v (.ab a5)],fun A=>⟨⟨none,(aB.ad a5).av A⟩⟩⟩
theorem ael:bn 127 ajw:=bq Tryz.func127 fun A _ _=>ay0 A
def akg:ba:=⟨[.v (.ab c5)],fun A=>⟨⟨none,(aB.ad c5).av A⟩⟩⟩
theorem Ue:bn 47 akg:=bq Tryz.func47 fun A _ _=>ay3 A
def akh:ba:=⟨[.v (.ab bK)],fun A=>⟨⟨none,(aB.ad bK).av A⟩⟩⟩
theorem Be:bn 32 akh:=bq Tryz.func32 fun A _ _=>ay4 A
def aki:ba:=⟨[.v (.ab cS)],fun A=>⟨⟨none,(aB.ad cS).av A⟩⟩⟩
theorem Uf:bn 48 aki:=bq Tryz.func48 fun A _ _=>ay5 A
def z1(A g:u):Int:=Lib.compareBytes A.data.toList g.data.toList
theorem ayb:Extern.findNext Tryz.f211=none:=by kernel_rfl
theorem aoq:Extern.find Tryz.f211=some Extern.BytealgCompare.compare:=by kernel_rfl
theorem ay1(A g:u):e1 Tryz.prog 200 [.str A,.str g] (.int .i64 (z1 A g)):=by
 refine vp (E:=x8 []) (gZ trivial) Tryz.func200 rfl _ _ ?_;refine WP.step (gZ trivial) ⟨[.str A,.str g,U,U,U,U,U,U],[]⟩ ((((A:u)=A)∧((g:u)=g)∧True)∧True∧true=true) (by kernel_rfl) ⟨⟨rfl,rfl,trivial⟩,trivial,rfl⟩ ?_;refine WP.an8 (x:=A) (y:=g) (k:= .i64) (r:=z1 A g) rfl rfl rfl rfl rfl rfl rfl rfl rfl rfl rfl rfl rfl ⟨by decide,by decide⟩ ⟨by show 5<8;omega,by show 6<8;omega,by show 7<8;omega⟩ (fun ρ w e b c=> ?_) ?_
 ·have f:=Lib.run_compareString (P:=Tryz.prog) A g w;have d:Tryz.prog.funcs[211]? =some Tryz.f211:=Tryz.func211;have a:=run_callFunc_extern (P:=Tryz.prog) d (by kernel_rfl) rfl ayb aoq #[.string A,.string g] w;rw[f]at a;simp [execOp,resolve,Deferred.ofValue,invoke,e,b,c];exact a
 ·exact WP.pA (True∧((.int .i64 (z1 A g):J)= .int .i64 (z1 A g))) (by kernel_rfl) ⟨trivial,rfl⟩
def aj2:ba:=⟨[.v ai,.v ai],fun A g=>⟨⟨none,.int .i64 (z1 A g)⟩⟩⟩
theorem auM:bn 200 aj2:=bq Tryz.func200 fun A _ g _=>ay1 A g
section
structure H where
 bh:Int
 up:Bool
 bO:Int
 ro:Int
 a6:Int
 cC:Int
 j:Int
 lt:Int
 li:G aq
 bX:Int
 gG:Int
 gH:Int
 eU:G L
 gI:Int
 eT:G aw
 e5:Int
 c6:G L
 eN:Int
 dW:G aw
 co:Int
 v0:Bool
 v1:Bool
 v2:Bool
 dX:Int
 dz:Int
 dF:Int
 g1:Int
 q1:Int
 fh:Int
 ws:G hz
 aX:G Int
 bc:Int
 bw:G ah
instance:Inhabited H:=⟨⟨default,default,default,default,default,default,default,default,default,default,default,default,default,default,default,default,default,default,default,default,default,default,default,default,default,default,default,default,default,default,default,default,default⟩⟩
structure ke where
 q:Int
 C:Int
 z:Int
 I:u
 w:u
 m:u
 N:Int
structure ak where
 a:H
 b:H
 c:H
 ag:G ah
 told:G bF
 a8:G aM
def ak.d(C:ak)(i:Nat):H:=match i with
 |0=>C.a
 |1=>C.b
 |_=>C.c
def ak.set(C:ak)(i:Nat)(n:H):ak:=match i with
 |0=>{C with a:=n}
 |1=>{C with b:=n}
 |_=>{C with c:=n}
def ak.put(C:ak)(i:Nat)(n:H)(F:G ah)(O:G bF)(ar:G aM):ak:=match i with
 |0=>⟨n,C.b,C.c,F,O,ar⟩
 |1=>⟨C.a,n,C.c,F,O,ar⟩
 |_=>⟨C.a,C.b,n,F,O,ar⟩
def yb(o:Nat):List (Key×aB):=[(.h 0 (o+0),a),(.h 0 (o+1),l),(.h 0 (o+2),a),(.h 0 (o+3),a),(.h 0 (o+4),a),(.h 0 (o+5),a),(.h 0 (o+6),a),(.h 0 (o+7),a),(.h 0 (o+8),.ab dh),(.h 0 (o+9),a),(.h 0 (o+10),a),(.h 0 (o+11),a),(.h 0 (o+12),.ab bd),(.h 0 (o+13),a),(.h 0 (o+14),.ab bT),(.h 0 (o+15),a),(.h 0 (o+16),.ab bd),(.h 0 (o+17),a),(.h 0 (o+18),.ab bT),(.h 0 (o+19),a),(.h 0 (o+20),l),(.h 0 (o+21),l),(.h 0 (o+22),l),(.h 0 (o+23),a),(.h 0 (o+24),a),(.h 0 (o+25),a),(.h 0 (o+26),a),(.h 0 (o+27),a),(.h 0 (o+28),a),(.h 0 (o+30),.ab a5),(.h 0 (o+31),a)]
def aH:List Nat:=[1,2,3,4,5,6,7,8,9]
def Gm(i:Nat):Nat:=match i with
 |0=>1
 |_=>0
def Gn(i:Nat):Nat:=match i with
 |2=>1
 |_=>2
variable(C:ak)(i:Nat)(ids:List Nat)(n:H)
def yh(i:Nat):List (Key×aB):=[(.h (ids.getD (2*i) 0) 0,.ad dd),(.h (ids.getD (2*i+1) 0) 0,.ad cw)]
def fy:List (Key×aB):=yb (33*i)++yb (33*Gm i)++yb (33*Gn i)++yh ids i++yh ids (Gm i)++yh ids (Gn i)++[(.h (ids.getD 6 0) 0,.ad cw),(.h (ids.getD 7 0) 0,.ad jK),(.h (ids.getD 8 0) 0,.ad cJ)]
def ya(n:H)(w o:Nat):List J:=[b n.bh,.bool n.up,b n.bO,b n.ro,b n.a6,b n.cC,b n.j,b n.lt,aI 10 dU n.li,b n.bX,b n.gG,b n.gH,aI 8 gp n.eU,b n.gI,aI 7 gV n.eT,b n.e5,aI 8 gp n.c6,b n.eN,aI 7 gV n.dW,b n.co,.bool n.v0,.bool n.v1,.bool n.v2,b n.dX,b n.dz,b n.dF,b n.g1,b n.q1,b n.fh,.own w (n.ws).n,aI 1 cN n.aX,b n.bc,.own o (n.bw).n]
def posOf(b:Nat):List Nat→Nat→Option Nat
 |[],_=>none
 |x::l,k=>match Nat.beq x b with
  |true=>some k
  |false=>posOf b l (k+1)
def ca(ids:List Nat)(m:Nat)(C:ak):Heap:=ak.casesOn C fun a c d f e aL=>(ya a (ids.getD 0 0) (ids.getD 1 0)++ya c (ids.getD 2 0) (ids.getD 3 0)++ya d (ids.getD 4 0) (ids.getD 5 0)++[.own (ids.getD 6 0) f.n,.own (ids.getD 7 0) e.n,.own (ids.getD 8 0) aL.n])::
 (List.range (9+m)).map fun b=>match posOf (b+1) ids 0 with
  |some p=>[([(aB.ad dd).av a.ws,(aB.ad cw).av a.bw,(aB.ad dd).av c.ws,(aB.ad cw).av c.bw,(aB.ad dd).av d.ws,(aB.ad cw).av d.bw,(aB.ad cw).av f,(aB.ad jK).av e,(aB.ad cJ).av aL]:List J).getD p .undef]
  |none=>[dk]
def afe:List (Nat×List J)→Nat→Option (List J)
 |[],_=>none
 |x::l,b=>match Nat.beq x.1 b with
  |true=>some x.2
  |false=>afe l b
def cd(ids:List Nat)(m:Nat)(C:ak)(ext:List (Nat×List J)):Heap:=ak.casesOn C fun a c d f e aL=>(ya a (ids.getD 0 0) (ids.getD 1 0)++ya c (ids.getD 2 0) (ids.getD 3 0)++ya d (ids.getD 4 0) (ids.getD 5 0)++[.own (ids.getD 6 0) f.n,.own (ids.getD 7 0) e.n,.own (ids.getD 8 0) aL.n])::
 (List.range (9+m)).map fun b=>match posOf (b+1) ids 0 with
  |some p=>[([(aB.ad dd).av a.ws,(aB.ad cw).av a.bw,(aB.ad dd).av c.ws,(aB.ad cw).av c.bw,(aB.ad dd).av d.ws,(aB.ad cw).av d.bw,(aB.ad cw).av f,(aB.ad jK).av e,(aB.ad cJ).av aL]:List J).getD p .undef]
  |none=>match afe ext (b+1)with
   |some l=>l
   |none=>match Nat.ble b 8 with
    |true=>[dk]
    |false=>[]
abbrev b4:List aB:=[a,l,a,a,a,a,a,a,.ab dh,a,a,a,.ab bd,a,.ab bT,a,.ab bd,a,.ab bT,a,l,l,l,a,a,a,a,a,a,.ab a5,a,a,l,a,a,a,a,a,a,.ab dh,a,a,a,.ab bd,a,.ab bT,a,.ab bd,a,.ab bT,a,l,l,l,a,a,a,a,a,a,.ab a5,a,a,l,a,a,a,a,a,a,.ab dh,a,a,a,.ab bd,a,.ab bT,a,.ab bd,a,.ab bT,a,l,l,l,a,a,a,a,a,a,.ab a5,a,.ad dd,.ad cw,.ad dd,.ad cw,.ad dd,.ad cw,.ad cw,.ad jK,.ad cJ]
def cA{α:Type 1}(G:ak→α):dR b4 α:=fun a b o z L W hA jM lk a9 c f g h i j k l m n p q r s t u v w x y A B C D E F H I J K M N O P Q R S T U V X Y Z OB OC OD OE OF OG OH OI OJ OK OL OM ON OO OP OQ OR OS OT OU OV OW OX OY OZ O0 O1 O2 O3 O4 O5 O6 O7 O8 O9 O_ Pd Pe Pf Ph Pj Pk Pn Po Pp Pq Ps d e=>G ⟨⟨a,b,o,z,L,W,hA,jM,lk,a9,c,f,g,h,i,j,k,l,m,n,p,q,r,s,t,u,v,w,x,Pj,y,A,Pk⟩,⟨B,C,D,E,F,H,I,J,K,M,N,O,P,Q,R,S,T,U,V,X,Y,Z,OB,OC,OD,OE,OF,OG,OH,Pn,OI,OJ,Po⟩,⟨OK,OL,OM,ON,OO,OP,OQ,OR,OS,OT,OU,OV,OW,OX,OY,OZ,O0,O1,O2,O3,O4,O5,O6,O7,O8,O9,O_,Pd,Pe,Pp,Pf,Ph,Pq⟩,Ps,d,e⟩
def Tr:ic b4:=(C.a.bh,C.a.up,C.a.bO,C.a.ro,C.a.a6,C.a.cC,C.a.j,C.a.lt,C.a.li,C.a.bX,C.a.gG,C.a.gH,C.a.eU,C.a.gI,C.a.eT,C.a.e5,C.a.c6,C.a.eN,C.a.dW,C.a.co,C.a.v0,C.a.v1,C.a.v2,C.a.dX,C.a.dz,C.a.dF,C.a.g1,C.a.q1,C.a.fh,C.a.aX,C.a.bc,C.b.bh,C.b.up,C.b.bO,C.b.ro,C.b.a6,C.b.cC,C.b.j,C.b.lt,C.b.li,C.b.bX,C.b.gG,C.b.gH,C.b.eU,C.b.gI,C.b.eT,C.b.e5,C.b.c6,C.b.eN,C.b.dW,C.b.co,C.b.v0,C.b.v1,C.b.v2,C.b.dX,C.b.dz,C.b.dF,C.b.g1,C.b.q1,C.b.fh,C.b.aX,C.b.bc,C.c.bh,C.c.up,C.c.bO,C.c.ro,C.c.a6,C.c.cC,C.c.j,C.c.lt,C.c.li,C.c.bX,C.c.gG,C.c.gH,C.c.eU,C.c.gI,C.c.eT,C.c.e5,C.c.c6,C.c.eN,C.c.dW,C.c.co,C.c.v0,C.c.v1,C.c.v2,C.c.dX,C.c.dz,C.c.dF,C.c.g1,C.c.q1,C.c.fh,C.c.aX,C.c.bc,C.a.ws,C.a.bw,C.b.ws,C.b.bw,C.c.ws,C.c.bw,C.ag,C.told,C.a8,())
def P7(s:ic b4):ak:=match s with
 |(a,b,o,A,L,W,hA,jM,lk,a9,c,f,g,h,i,j,k,l,m,n,p,q,r,t,u,v,w,x,y,z,B,C,D,E,F,G,H,I,J,K,M,N,O,P,Q,R,S,T,U,V,X,Y,Z,OB,OC,OD,OE,OF,OG,OH,OI,OJ,OK,OL,OM,ON,OO,OP,OQ,OR,OS,OT,OU,OV,OW,OX,OY,OZ,O0,O1,O2,O3,O4,O5,O6,O7,O8,O9,O_,Pd,Pe,Pf,Ph,Pj,Pk,Pn,Po,Pp,Pq,Ps,d,e,_)=>⟨⟨a,b,o,A,L,W,hA,jM,lk,a9,c,f,g,h,i,j,k,l,m,n,p,q,r,t,u,v,w,x,y,Pj,z,B,Pk⟩,⟨C,D,E,F,G,H,I,J,K,M,N,O,P,Q,R,S,T,U,V,X,Y,Z,OB,OC,OD,OE,OF,OG,OH,Pn,OI,OJ,Po⟩,⟨OK,OL,OM,ON,OO,OP,OQ,OR,OS,OT,OU,OV,OW,OX,OY,OZ,O0,O1,O2,O3,O4,O5,O6,O7,O8,O9,O_,Pd,Pe,Pp,Pf,Ph,Pq⟩,Ps,d,e⟩
def hX:List J:=ic.gS b4 (Tr C)
theorem adu(s:ic b4):Tr (P7 s)=s:=rfl
theorem ar7{α:Type 1}(G:ak→α)(s:ic b4):dR.n9 b4 (cA G) s=G (P7 s):=by kernel_rfl
def fw(n:H):Prop:=n.li.n≤549755813888∧n.eU.n≤549755813888∧n.eT.n≤549755813888∧n.c6.n≤549755813888∧n.dW.n≤549755813888∧n.ws.n≤549755813888∧n.aX.n≤549755813888∧n.bw.n≤549755813888
def ez(C:ak):Prop:=fw C.a∧fw C.b∧fw C.c∧C.ag.n≤549755813888∧C.told.n≤549755813888∧C.a8.n≤549755813888
theorem ani(C:ak)(h:Ns b4 (Tr C)):ez C:=by
 have h:True∧True∧True∧True∧True∧True∧True∧True∧C.a.li.n≤549755813888∧True∧True∧True∧C.a.eU.n≤549755813888∧True∧C.a.eT.n≤549755813888∧True∧C.a.c6.n≤549755813888∧True∧C.a.dW.n≤549755813888∧True∧True∧True∧True∧True∧True∧True∧True∧True∧True∧C.a.aX.n≤549755813888∧True∧True∧True∧True∧True∧True∧True∧True∧True∧C.b.li.n≤549755813888∧True∧True∧True∧C.b.eU.n≤549755813888∧True∧C.b.eT.n≤549755813888∧True∧C.b.c6.n≤549755813888∧True∧C.b.dW.n≤549755813888∧True∧True∧True∧True∧True∧True∧True∧True∧True∧True∧C.b.aX.n≤549755813888∧True∧True∧True∧True∧True∧True∧True∧True∧True∧C.c.li.n≤549755813888∧True∧True∧True∧C.c.eU.n≤549755813888∧True∧C.c.eT.n≤549755813888∧True∧C.c.c6.n≤549755813888∧True∧C.c.dW.n≤549755813888∧True∧True∧True∧True∧True∧True∧True∧True∧True∧True∧C.c.aX.n≤549755813888∧True∧C.a.ws.n≤549755813888∧C.a.bw.n≤549755813888∧C.b.ws.n≤549755813888∧C.b.bw.n≤549755813888∧C.c.ws.n≤549755813888∧C.c.bw.n≤549755813888∧C.ag.n≤549755813888∧C.told.n≤549755813888∧C.a8.n≤549755813888∧True:=h;obtain⟨_,_,_,_,_,_,_,_,s,_,_,_,c,_,d,_,e,_,f,_,_,_,_,_,_,_,_,_,_,g,_,_,_,_,_,_,_,_,_,i,_,_,_,j,_,k,_,l,_,m,_,_,_,_,_,_,_,_,_,_,n,_,_,_,_,_,_,_,_,_,o,_,_,_,p,_,q,_,r,_,t,_,_,_,_,_,_,_,_,_,_,u,_,v,w,x,y,z,A,B,a,b,_⟩:=h;exact⟨⟨s,c,d,e,f,v,g,w⟩,⟨i,j,k,l,m,x,n,y⟩,⟨o,p,q,r,t,z,u,A⟩,B,a,b⟩
theorem gE{C:ak}(h:ez C): ∀i,i<3→fw (C.d i):=by
 intro i a;rcases bV a with rfl|rfl|rfl
 ·exact h.1
 ·exact h.2.1
 ·exact h.2.2.1
def Gq:J→Nat
 | .ad _ _ n _=>n
 |_=>0
def UU(l:List J)(w o:J)(b a:Nat):List J:=l.take 29++ .own b (Gq w)::((l.drop 29).take 2++[.own a (Gq o)])
def v7(ids:List Nat)(m:Nat)(a b c w:List J):Heap:=
 (UU a (w.getD 0 .undef) (w.getD 1 .undef) (ids.getD 0 0) (ids.getD 1 0)++UU b (w.getD 2 .undef) (w.getD 3 .undef) (ids.getD 2 0) (ids.getD 3 0)++UU c (w.getD 4 .undef) (w.getD 5 .undef) (ids.getD 4 0) (ids.getD 5 0)++[.own (ids.getD 6 0) (Gq (w.getD 6 .undef)),.own (ids.getD 7 0) (Gq (w.getD 7 .undef)),.own (ids.getD 8 0) (Gq (w.getD 8 .undef))])::
 (List.range (9+m)).map fun b=>match posOf (b+1) ids 0 with
  |some p=>[w.getD p .undef]
  |none=>[dk]
def eH(cs:List J):Heap:=v7 aH 0 (cs.take 31) ((cs.drop 31).take 31) ((cs.drop 62).take 31) (cs.drop 93)
def qY(l:List J):List J:=l.take 29++(l.drop 30).take 2
def eu(H:Heap):List J:=qY (H.getD 0 [])++(qY ((H.getD 0 []).drop 33)++(qY ((H.getD 0 []).drop 66)++[B H 1 0,B H 2 0,B H 3 0,B H 4 0,B H 5 0,B H 6 0,B H 7 0,B H 8 0,B H 9 0]))
theorem Tn{H:Heap}{c:J}(h:c∈H.getD 0 []): ∃b o,c=B H b o:=by
 obtain⟨o,a⟩:=ov h;exact⟨0,o,by
  unfold B;rw[show(H.getD 0 []).getD o J.undef=((H.getD 0 [])[o]?).getD J.undef from rfl,a];rfl⟩
theorem VH{l:List J}{c:J}(h:c∈qY l):c∈l:=by
 unfold qY at h;rcases g8.1 h with h|h
 ·exact List.mem_of_mem_take h
 ·exact Hb (List.mem_of_mem_take h)
theorem fV: ∀H,∀c∈eu H,∃b o,c=B H b o:=by
 intro H c h;unfold eu at h;rcases g8.1 h with h|h
 ·exact Tn (VH h)
 rcases g8.1 h with h|h
 ·exact Tn (Hb (VH h))
 rcases g8.1 h with h|h
 ·exact Tn (Hb (VH h))
 ·simp only[hS,yL,or_false]at h;rcases h with h|h|h|h|h|h|h|h|h<;>exact⟨_,_,h⟩
def MW:List Nat→List J→List J
 |[],_=>[]
 |0::r,l=>l.headD .undef::MW r l.tail
 |(k+1)::r,l=> .agg (l.take (k+1))::MW r (l.drop (k+1))
def ga(i:Nat)(ids:List Nat)(m:Nat)(c:List Nat)(b:Nat)(a:List J):K:=
 ⟨MW c a,match a.drop b with
  |v=>match i with
   |0=>v7 ids m (v.take 31) ((v.drop 31).take 31) ((v.drop 62).take 31) (v.drop 93)
   |1=>v7 ids m ((v.drop 31).take 31) (v.take 31) ((v.drop 62).take 31) ((v.drop 95).take 2++((v.drop 93).take 2++v.drop 97))
   |_=>v7 ids m ((v.drop 31).take 31) ((v.drop 62).take 31) (v.take 31) ((v.drop 95).take 4++((v.drop 93).take 2++v.drop 99))⟩
def YK:J→List J
 | .agg cs=>cs
 |x=>[x]
def fY(i:Nat)(ids:List Nat)(s:K):List J:=
 s.n.flatMap YK++(qY ((s.k.getD 0 []).drop (33*i))++(qY ((s.k.getD 0 []).drop (33*Gm i))++(qY ((s.k.getD 0 []).drop (33*Gn i))++
  [B s.k (ids.getD (2*i) 0) 0,B s.k (ids.getD (2*i+1) 0) 0,B s.k (ids.getD (2*Gm i) 0) 0,B s.k (ids.getD (2*Gm i+1) 0) 0,B s.k (ids.getD (2*Gn i) 0) 0,B s.k (ids.getD (2*Gn i+1) 0) 0,B s.k (ids.getD 6 0) 0,B s.k (ids.getD 7 0) 0,B s.k (ids.getD 8 0) 0])))
theorem fW{P:Program}{f:FuncId}{F:c8}{acc:List J}{G:ak→ULift oB}(h: ∀C,ez C→vc (G C).down.pre (fm P f (F.args (acc++hX C)) (F.c3 ((acc++hX C).drop F.dE)) (G C).down.rs (G C).down.H)):eP P f F b4 [] (cA G) acc:=
 Xz fun s b=>by
  have a:=h (P7 s) (ani _ (by rw[adu];exact b));unfold hX at a;rw[adu]at a;rw[ar7];exact a
def v5:List (Key×aB):=yb (33*i)++yh ids i++[(.h (ids.getD 6 0) 0,.ad cw),(.h (ids.getD 7 0) 0,.ad jK),(.h (ids.getD 8 0) 0,.ad cJ)]
abbrev ru:=Int×Bool×Int×Int×Int×Int×Int×Int×G aq×Int×Int×Int×G L×Int×G aw×Int×G L×Int×G aw×Int×Bool×Bool×Bool×Int×Int×Int×Int×Int×Int×G Int×Int×G hz×G ah×G ah×G bF×G aM
def yA(n:H)(F:G ah)(O:G bF)(ar:G aM):ru:=(n.bh,n.up,n.bO,n.ro,n.a6,n.cC,n.j,n.lt,n.li,n.bX,n.gG,n.gH,n.eU,n.gI,n.eT,n.e5,n.c6,n.eN,n.dW,n.co,n.v0,n.v1,n.v2,n.dX,n.dz,n.dF,n.g1,n.q1,n.fh,n.aX,n.bc,n.ws,n.bw,F,O,ar)
def Bt(x:ru):H:=⟨x.1,x.2.1,x.2.2.1,x.2.2.2.1,x.2.2.2.2.1,x.2.2.2.2.2.1,x.2.2.2.2.2.2.1,x.2.2.2.2.2.2.2.1,x.2.2.2.2.2.2.2.2.1,x.2.2.2.2.2.2.2.2.2.1,x.2.2.2.2.2.2.2.2.2.2.1,x.2.2.2.2.2.2.2.2.2.2.2.1,x.2.2.2.2.2.2.2.2.2.2.2.2.1,x.2.2.2.2.2.2.2.2.2.2.2.2.2.1,x.2.2.2.2.2.2.2.2.2.2.2.2.2.2.1,x.2.2.2.2.2.2.2.2.2.2.2.2.2.2.2.1,x.2.2.2.2.2.2.2.2.2.2.2.2.2.2.2.2.1,x.2.2.2.2.2.2.2.2.2.2.2.2.2.2.2.2.2.1,x.2.2.2.2.2.2.2.2.2.2.2.2.2.2.2.2.2.2.1,x.2.2.2.2.2.2.2.2.2.2.2.2.2.2.2.2.2.2.2.1,x.2.2.2.2.2.2.2.2.2.2.2.2.2.2.2.2.2.2.2.2.1,x.2.2.2.2.2.2.2.2.2.2.2.2.2.2.2.2.2.2.2.2.2.1,x.2.2.2.2.2.2.2.2.2.2.2.2.2.2.2.2.2.2.2.2.2.2.1,x.2.2.2.2.2.2.2.2.2.2.2.2.2.2.2.2.2.2.2.2.2.2.2.1,x.2.2.2.2.2.2.2.2.2.2.2.2.2.2.2.2.2.2.2.2.2.2.2.2.1,x.2.2.2.2.2.2.2.2.2.2.2.2.2.2.2.2.2.2.2.2.2.2.2.2.2.1,x.2.2.2.2.2.2.2.2.2.2.2.2.2.2.2.2.2.2.2.2.2.2.2.2.2.2.1,x.2.2.2.2.2.2.2.2.2.2.2.2.2.2.2.2.2.2.2.2.2.2.2.2.2.2.2.1,x.2.2.2.2.2.2.2.2.2.2.2.2.2.2.2.2.2.2.2.2.2.2.2.2.2.2.2.2.1,x.2.2.2.2.2.2.2.2.2.2.2.2.2.2.2.2.2.2.2.2.2.2.2.2.2.2.2.2.2.2.2.1,x.2.2.2.2.2.2.2.2.2.2.2.2.2.2.2.2.2.2.2.2.2.2.2.2.2.2.2.2.2.1,x.2.2.2.2.2.2.2.2.2.2.2.2.2.2.2.2.2.2.2.2.2.2.2.2.2.2.2.2.2.2.1,x.2.2.2.2.2.2.2.2.2.2.2.2.2.2.2.2.2.2.2.2.2.2.2.2.2.2.2.2.2.2.2.2.1⟩
def aeP(x:ru):G ah:=x.2.2.2.2.2.2.2.2.2.2.2.2.2.2.2.2.2.2.2.2.2.2.2.2.2.2.2.2.2.2.2.2.2.1
def aeT(x:ru):G bF:=x.2.2.2.2.2.2.2.2.2.2.2.2.2.2.2.2.2.2.2.2.2.2.2.2.2.2.2.2.2.2.2.2.2.2.1
def aeS(x:ru):G aM:=x.2.2.2.2.2.2.2.2.2.2.2.2.2.2.2.2.2.2.2.2.2.2.2.2.2.2.2.2.2.2.2.2.2.2.2
def x0(i:Nat)(ids:List Nat)(s:K):List J:=
 s.n.flatMap YK++(qY ((s.k.getD 0 []).drop (33*i))++[B s.k (ids.getD (2*i) 0) 0,B s.k (ids.getD (2*i+1) 0) 0,B s.k (ids.getD 6 0) 0,B s.k (ids.getD 7 0) 0,B s.k (ids.getD 8 0) 0])
def Bs:List J:=qY (ya n 0 0)
def Br:List J:=[(aB.ad dd).av n.ws,(aB.ad cw).av n.bw]
def yw(i:Nat)(ids:List Nat)(m:Nat)(c:List Nat)(b:Nat)(C:ak)(a:List J):K:=
 ⟨MW c a,match a.drop b with
  |v=>match i with
   |0=>v7 ids m (v.take 31) (Bs C.b) (Bs C.c) ((v.drop 31).take 2++(Br C.b++(Br C.c++v.drop 33)))
   |1=>v7 ids m (Bs C.a) (v.take 31) (Bs C.c) (Br C.a++((v.drop 31).take 2++(Br C.c++v.drop 33)))
   |_=>v7 ids m (Bs C.a) (Bs C.b) (v.take 31) (Br C.a++(Br C.b++((v.drop 31).take 2++v.drop 33)))⟩
def H.bif(b:Bool)(x y:H):H:=⟨bif b then x.bh else y.bh,bif b then x.up else y.up,bif b then x.bO else y.bO,bif b then x.ro else y.ro,bif b then x.a6 else y.a6,bif b then x.cC else y.cC,bif b then x.j else y.j,bif b then x.lt else y.lt,bif b then x.li else y.li,bif b then x.bX else y.bX,bif b then x.gG else y.gG,bif b then x.gH else y.gH,bif b then x.eU else y.eU,bif b then x.gI else y.gI,bif b then x.eT else y.eT,bif b then x.e5 else y.e5,bif b then x.c6 else y.c6,bif b then x.eN else y.eN,bif b then x.dW else y.dW,bif b then x.co else y.co,bif b then x.v0 else y.v0,bif b then x.v1 else y.v1,bif b then x.v2 else y.v2,bif b then x.dX else y.dX,bif b then x.dz else y.dz,bif b then x.dF else y.dF,bif b then x.g1 else y.g1,bif b then x.q1 else y.q1,bif b then x.fh else y.fh,bif b then x.ws else y.ws,bif b then x.aX else y.aX,bif b then x.bc else y.bc,bif b then x.bw else y.bw⟩
def ak.bif(b:Bool)(x y:ak):ak:=⟨H.bif b x.a y.a,H.bif b x.b y.b,H.bif b x.c y.c,bif b then x.ag else y.ag,bif b then x.told else y.told,bif b then x.a8 else y.a8⟩
theorem H.fx(b:Bool)(x y:H):H.bif b x y=bif b then x else y:=by cases b<;>rfl
theorem ak.fx(b:Bool)(x y:ak):ak.bif b x y=bif b then x else y:=by cases b<;>rfl
end
section
variable(A:Int)(g:Int)(r:Int)
def Dw:Bool:=(cond (decide (A≥g)) (decide (A≤r)) false)
def jV:Bool:=(Dw A g r)
def nO(A:u):Bool:=(decide (((A:u).size:Int)≤20))
def IY:Bool:=(jV A (-1099511627776) 1099511627776)
def wB(A:u):Bool:=(jV ((A:u).size:Int) 1 12)
def DA(A:u):Bool:=(cond (decide (((A:u).size:Int)≥1)) (decide (((A:u).size:Int)≤12)) false)
def kn(A:u):Bool:=(DA A)
def aiX:ba:=⟨[.v ai],fun A=>⟨⟨none,.bool (kn A)⟩⟩⟩
theorem aed:bn 80 aiX:=bq Tryz.func80
 fun A _=>bu ⟨.pure,[.tmp 2],[(.t 0,l)],⟨[U],[]⟩⟩ (.ae (.j ⟨4,[],[(.t 2,l)],[],.f⟩ .z .z)) True fb Tryz.func80 (trivial)
def iX(A:u):Bool:=(decide (((A:u).size:Int)≤20))
def ai2:ba:=⟨[.v ai],fun A=>⟨⟨none,.bool (iX A)⟩⟩⟩
theorem FN:bn 81 ai2:=bq Tryz.func81
 fun A _=>bu ⟨.pure,[.tmp 2],[(.t 0,l)],⟨[U],[]⟩⟩ (.z) True fb Tryz.func81 (trivial)
def DB:Bool:=(cond (decide (A≥(-1099511627776))) (decide (A≤1099511627776)) false)
def iA:Bool:=(DB A)
def ai3:ba:=⟨[.v a],fun A=>⟨⟨none,.bool (iA A)⟩⟩⟩
theorem LG:bn 82 ai3:=bq Tryz.func82
 fun(A:Int)=>bu ⟨.pure,[.tmp 2],[(.t 0,l)],⟨[U],[]⟩⟩ (.ae (.j ⟨4,[],[(.t 2,l)],[],.f⟩ .z .z)) True fb Tryz.func82 (trivial)
def IZ:Bool:=(cond (decide (A≥1)) (decide (A≤1048576)) false)
def oV:Bool:=(IZ A)
def ai4:ba:=⟨[.v a],fun A=>⟨⟨none,.bool (oV A)⟩⟩⟩
theorem at7:bn 50 ai4:=bq Tryz.func50
 fun(A:Int)=>bu ⟨.pure,[.tmp 2],[(.t 0,l)],⟨[U],[]⟩⟩ (.ae (.j ⟨4,[],[(.t 2,l)],[],.f⟩ .z .z)) True fb Tryz.func50 (trivial)
def rZ:Bool:=(jV A 1 1048576)
end
section
variable(A:Int)(g:Int)(r:u)(h:u)(o:Int)
def acJ:Bool:=(cond (A==1) true (cond (A==4) true (cond (A==7) true (cond (A==8) true (jV A 11 16)))))
def E3:Bool:=(cond (A==3) true (cond (A==14) true (A==20)))
def acK(g:u)(r:u)(h:u)(o:Int):Bool:=(cond (!(acJ A)) (cond (!((h:u).toList==(⟨#[]⟩:u).toList)) true (cond (!(jV A 4 6)) (cond (!((r:u).toList==(⟨#[]⟩:u).toList)) true (cond (!(E3 A)) (cond (o !=0) true (cond (!(A !=22)) (!((g:u).toList==(⟨#[]⟩:u).toList)) false)) (cond (!(A !=22)) (!((g:u).toList==(⟨#[]⟩:u).toList)) false))) (cond (!(E3 A)) (cond (o !=0) true (cond (!(A !=22)) (!((g:u).toList==(⟨#[]⟩:u).toList)) false)) (cond (!(A !=22)) (!((g:u).toList==(⟨#[]⟩:u).toList)) false)))) (cond (!(jV A 4 6)) (cond (!((r:u).toList==(⟨#[]⟩:u).toList)) true (cond (!(E3 A)) (cond (o !=0) true (cond (!(A !=22)) (!((g:u).toList==(⟨#[]⟩:u).toList)) false)) (cond (!(A !=22)) (!((g:u).toList==(⟨#[]⟩:u).toList)) false))) (cond (!(E3 A)) (cond (o !=0) true (cond (!(A !=22)) (!((g:u).toList==(⟨#[]⟩:u).toList)) false)) (cond (!(A !=22)) (!((g:u).toList==(⟨#[]⟩:u).toList)) false))))
def acL(g:u)(r:u)(h:u):Bool:=(cond (A !=22) (cond (!(wB g)) true (cond (jV A 4 6) (cond (!(wB r)) true (!(nO h))) (!(nO h)))) (cond (jV A 4 6) (cond (!(wB r)) true (!(nO h))) (!(nO h))))
def E2(g:u)(r:u)(h:u)(o:Int):Int:=(cond (!(jV A 1 22)) 3 (cond (acK A g r h o) 8 (cond (acL A g r h) 1 (cond (!(IY o)) 2 0))))
def xm:Bool:=(cond (decide (A<1)) true (decide (A>22)))
def xn:Bool:=(cond (A==1) (A==1) (cond (A==7) (A==7) (cond (A==8) (A==8) (cond (A==11) (A==11) (cond (A==12) (A==12) (cond (A==13) (A==13) (cond (A==15) (A==15) (A==16))))))))
def xo:Bool:=(cond (A==3) (A==3) (A==20))
def xp:Bool:=(cond (A==5) (A==5) (A==6))
def E1(g:u):u:=(cond (xn A) g (cond (xo A) g (cond (A==4) g (cond (xp A) g (cond (A==14) g (cond (A==22) ⟨#[]⟩ g))))))
def AM:u:=(cond (xn A) ⟨#[]⟩ (cond (xo A) ⟨#[]⟩ (cond (A==4) r (cond (xp A) r ⟨#[]⟩))))
def J_:u:=(cond (xn A) h (cond (xo A) ⟨#[]⟩ (cond (A==4) h (cond (xp A) ⟨#[]⟩ (cond (A==14) h ⟨#[]⟩)))))
def Kd:Int:=(cond (xn A) 0 (cond (xo A) o (cond (A==4) 0 (cond (xp A) 0 (cond (A==14) o 0)))))
def qu(g:u)(r:u)(h:u):Bool:=(cond (A !=22) (cond (!(kn g)) true (cond (decide (A≥4)) (cond (decide (A≤6)) (cond (!(kn r)) true (!(iX h))) (!(iX h))) (!(iX h)))) (cond (decide (A≥4)) (cond (decide (A≤6)) (cond (!(kn r)) true (!(iX h))) (!(iX h))) (!(iX h))))
def e3(g:u)(r:u)(h:u)(o:Int):Int:=(cond (xm A) 3 (cond (!((A==A)&&(((g:u).toList==((E1 A g):u).toList)&&(((r:u).toList==((AM A r):u).toList)&&(((h:u).toList==((J_ A h):u).toList)&&((o==(Kd A o))&&true)))))) 8 (cond (qu A g r h) 1 (cond (!(iA o)) 2 0))))
def ak5:ba:=⟨[.g [a,ai,ai,ai,a]],fun A g r h o=>⟨⟨none,b (e3 A g r h o)⟩⟩⟩
theorem Uj:bn 51 ak5:=bq Tryz.func51
 fun(A:Int) g _ r _ h _ (o:Int)=>bu ⟨.pure,[.tmp 2],[(.t 0,a)],⟨[U],[]⟩⟩ (.ae (.s (.j ⟨2054,[],[(.t 11,l)],[],.f⟩ .z .z) (.ae (.j ⟨14,[],[(.h 1 1,ai),(.h 1 2,ai),(.h 1 3,ai),(.h 1 4,a)],[.f,(.b .f (.b .f (.b .f (.b .f .l)))),(.b .f (.b .f (.b .f (.b .f (.b .f .l))))),(.b .f (.b .f (.b .f (.b .f (.b .f .l)))))],.f⟩ (.ae (.j ⟨786446,[],[(.t 19,l)],[],.f⟩ .z (.ae (.j ⟨2147745806,[],[(.t 31,l)],[],.f⟩ .z (.ae (.ae (.ae (.j ⟨35184372350990,[],[(.t 45,l)],[],.f⟩ .z .z)))))))) (.ae (.s (.j ⟨39614081257132168796771975174,[.b 1],[(.t 95,l)],[],.f⟩ .z .z) .z)))))) True (cu (aG aed (aG FN (aG LG aT)))) Tryz.func51 (trivial)
def E4:Bool:=(cond (!(oV A)) true (!(oV g)))
def hd(r:Int)(h:u)(o:u)(c:u)(v:Int):Int:=(cond (A==0) (cond (!((A==0)&&((g==0)&&((r==0)&&(((h:u).toList==(⟨#[]⟩:u).toList)&&(((o:u).toList==(⟨#[]⟩:u).toList)&&(((c:u).toList==(⟨#[]⟩:u).toList)&&((v==0)&&true)))))))) 8 0) (cond (E4 A g) 2 (e3 r h o c v)))
def ak6:ba:=⟨[.g [a,a,a,ai,ai,ai,a]],fun A g r h o c v=>⟨⟨none,b (hd A g r h o c v)⟩⟩⟩
theorem Uk:bn 38 ak6:=bq Tryz.func38
 fun(A:Int) (g:Int) (r:Int) h _ o _ c _ (v:Int)=>bu ⟨.pure,[.tmp 2],[(.t 0,a)],⟨[U],[]⟩⟩ (.ae (.ae (.s (.j ⟨262150,[],[(.t 18,l)],[],.f⟩ .z .z) .z))) True (cu (aG Uj (aG at7 aT))) Tryz.func38 (trivial)
def acM(r:Int)(h:u)(o:u)(c:u)(v:Int):Bool:=(cond (g !=0) true (!((r==0)&&(((h:u).toList==(⟨#[]⟩:u).toList)&&(((o:u).toList==(⟨#[]⟩:u).toList)&&(((c:u).toList==(⟨#[]⟩:u).toList)&&((v==0)&&true)))))))
def acN:Bool:=(cond (!(rZ A)) true (!(rZ g)))
def SL(r:Int)(h:u)(o:u)(c:u)(v:Int):Int:=(cond (A==0) (cond (acM g r h o c v) 8 0) (cond (acN A g) 2 (E2 r h o c v)))
def AN:Bool:=(cond (decide (A<1)) true (cond (decide (A>1048576)) true (cond (decide (g<0)) true (decide (g>1073741824)))))
def e_(r:Bool)(h:Int)(o:Int)(c:Int)(v:u)(y:u)(p:u)(x:Int):Int:=(cond (AN A g) 2 (cond r (cond (!((h==0)&&((o==0)&&((c==0)&&(((v:u).toList==(⟨#[]⟩:u).toList)&&(((y:u).toList==(⟨#[]⟩:u).toList)&&(((p:u).toList==(⟨#[]⟩:u).toList)&&((x==0)&&true)))))))) 8 0) (hd h o c v y p x)))
def ak7:ba:=⟨[.g [a,a,l,a,a,a,ai,ai,ai,a]],fun A g r h o c v y p x=>⟨⟨none,b (e_ A g r h o c v y p x)⟩⟩⟩
theorem LK:bn 25 ak7:=bq Tryz.func25
 fun(A:Int) (g:Int) r (h:Int) (o:Int) (c:Int) v _ y _ p _ (x:Int)=>bu ⟨.pure,[.tmp 2],[(.t 0,a)],⟨[U],[]⟩⟩ (.ae (.s (.j ⟨1048582,[],[(.t 20,l)],[],.f⟩ .z .z) .z)) True (cu (aG Uk aT)) Tryz.func25 (trivial)
def xq:Bool:=(cond (!(rZ A)) true (!(jV g 0 1073741824)))
def sr(r:Bool)(h:Int)(o:Int)(c:Int)(v:u)(y:u)(p:u)(x:Int):Int:=(cond (xq A g) 2 (cond (!r) (SL h o c v y p x) (cond (!((h==0)&&((o==0)&&((c==0)&&(((v:u).toList==(⟨#[]⟩:u).toList)&&(((y:u).toList==(⟨#[]⟩:u).toList)&&(((p:u).toList==(⟨#[]⟩:u).toList)&&((x==0)&&true)))))))) 8 0)))
end
section
def zG(A:u):Bool:=(decide (((A:u).size:Int)>20))
def aiV:ba:=⟨[.v ai],fun A=>⟨⟨none,.bool (zG A)⟩⟩⟩
theorem at1:bn 161 aiV:=bq Tryz.func161
 fun A _=>bu ⟨.pure,[.tmp 2],[(.t 0,l)],⟨[U],[]⟩⟩ (.z) True fb Tryz.func161 (trivial)
def I7(A:G u):Nat→Int→Bool×Int
 |0,_=>default
 |k+1,e=>(cond (decide (e<(A.n:Int))) (cond (zG (A.at' (toNat e))) (true,e) (I7 A k (i64.wrap (e+1)))) (false,default))
variable(A:G u)(g:u)(r:Int)(h:G u)
def Ry:Bool×Int:=I7 A ((toNat ((A.n:Int)-0))+1) 0
def apa:Bool:=(cond (Ry A).1 false true)
def aa3:Int:=(cond (apa A) (-1) (Ry A).2)
def ajT:ba:=⟨[.v (.ab bK),.fn 161 []],fun A=>⟨⟨none,b (aa3 A)⟩⟩⟩
theorem auD:bn 184 ajT:=bq Tryz.func184
 fun A i _=>bu ⟨.pure,[.tmp 4],[(.t 0,a)],⟨[U],[]⟩⟩ (.ae (.j ⟨16,[],[],[],.f⟩ (.ae (.cW ⟨403,[],[],[(.t 8,a)],some 0,true,16,[],[],fun k (s:Int)=>I7 A k s,.f,fun(s:Int)=>(0≤s∧s≤(A.n:Int)),fun(s:Int)=>(toNat ((A.n:Int)-s)),none⟩ .z)) .z)) (((0≤(0:Int)∧(0:Int)≤(A.n:Int)))∧(∀(e:Int),let c:=decide (e<(A.n:Int));let b:=i64.wrap (e+1);(0≤e∧e≤(A.n:Int))→((c=true→((0:Int)≤e∧e<(A.n:Int)))∧(c=true→((zG (A.at' (toNat e)))=false→((0≤b∧b≤(A.n:Int))∧(toNat ((A.n:Int)-b))<(toNat ((A.n:Int)-e)))))))) (cu (aG at1 aT)) Tryz.func184 (⟨(by omega),(fun e h=>⟨(fun d=>(by have:=al d;omega)),(fun f=>(fun g=>(by have:=al f;have:=E (e+1);omega)))⟩)⟩)
def Du:Bool:=(decide ((aa3 A)≥0))
def aiT:ba:=⟨[.v (.ab bK),.fn 161 []],fun A=>⟨⟨none,.bool (Du A)⟩⟩⟩
theorem atZ:bn 160 aiT:=bq Tryz.func160
 fun A _ _=>bu ⟨.pure,[.tmp 4],[(.t 0,l)],⟨[U],[]⟩⟩ (.z) True (cu (aG auD aT)) Tryz.func160 (trivial)
def acG(A:Int):Bool:=(cond (decide (A<0)) true (decide (A>13)))
def SK:Bool:=(cond (decide (((g:u).size:Int)>20)) true (decide ((h.n:Int)>20)))
def acH:Bool:=(cond (decide (r<(-1099511627776))) true (decide (r>1099511627776)))
def qt(A:Int)(g:u)(r:Int)(h:G u):Int:=(cond (acG A) 3 (cond (SK g h) 1 (cond (Du h) 1 (cond (acH r) 2 0))))
def ak3:ba:=⟨[.g [a,ai,a,.ab bK]],fun A g r h=>⟨⟨none,b (qt A g r h)⟩⟩⟩
theorem avJ:bn 147 ak3:=bq Tryz.func147
 fun(A:Int) g _ (r:Int) h _ _=>bu ⟨.pure,[.tmp 2],[(.t 0,a)],⟨[U],[]⟩⟩ (.ae (.s (.j ⟨1030,[],[(.t 10,l)],[],.f⟩ .z .z) (.s (.j ⟨1048582,[],[(.t 20,l)],[],.f⟩ .z .z) (.ae (.s (.j ⟨2147483652,[.b 0],[(.t 31,l)],[],.f⟩ .z .z) .z))))) True (cu (aG atZ aT)) Tryz.func147 (trivial)
end
section
def uW(A:Int)(g:Int)(r:G aq):Bool:=(cond (!(jV A 0 1048576)) true (cond (!(jV g 0 1048576)) true (cond (!((A==0)==(g==0))) true (cond (decide ((r.n:Int)>200)) true (decide ((i64.wrap (A+(r.n:Int)))>1048576))))))
variable(A:G Int)(g:Int)(r:G aq)(a1:Int)
def l9:Bool:=(cond ((sr (r.at' (toNat a1)).q (r.at' (toNat a1)).C (r.at' (toNat a1)).z (r.at' (toNat a1)).I (r.at' (toNat a1)).w (r.at' (toNat a1)).m (r.at' (toNat a1)).N (r.at' (toNat a1)).ao (r.at' (toNat a1)).i (r.at' (toNat a1)).aC)!=0) true (decide ((r.at' (toNat a1)).q<g)))
def na:Bool:=(cond (decide (a1>0)) (cond (decide ((r.at' (toNat a1)).q<(r.at' (toNat (i64.wrap (a1-1)))).q)) true (decide ((r.at' (toNat a1)).C<(r.at' (toNat (i64.wrap (a1-1)))).C))) false)
def ss(g:Int)(r:G aq):Nat→Int→Bool×Int
 |0,_=>default
 |k+1,a1=>(cond (decide (a1<(r.n:Int))) (cond (l9 g r a1) (true,13) (cond (na r a1) (true,13) (ss g r k (i64.wrap (a1+1))))) (false,default))
def AP:Bool×Int:=ss g r ((toNat ((r.n:Int)-0))+1) 0
def Km:Bool:=(cond (AP g r).1 false true)
def uV(A:Int)(g:Int)(r:G aq):Int:=(cond (uW A g r) 13 (cond (Km g r) 0 (AP g r).2))
theorem am0(A g:Int)(r:G aq)(h:uV A g r=0):(0≤A∧A≤1048576)∧(0≤g∧g≤1048576)∧r.n≤200∧A+r.n≤1048576:=by
 unfold uV at h
 cases a:uW A g r with
 |true=>rw[a]at h;simp at h
 |false=>
  simp [uW,jV,Dw]at a;have:=E (A+(r.n:Int));omega
def zD(A:G Int):Nat→Int→G Int→G Int
 |0,_,_=>default
 |k+1,e,f=>(cond (decide (e<(A.n:Int))) (zD A k (i64.wrap (e+1)) (G.app f (G.lit ([(A.at' (toNat e))]:List Int)))) f)
def Dr:G Int:=zD A ((toNat ((A.n:Int)-0))+1) 0 (D:G Int)
def zE(g:G Int):Nat→Int→G Int→G Int
 |0,_,_=>default
 |k+1,a1,a=>(cond (decide (a1<(g.n:Int))) (zE g k (i64.wrap (a1+1)) (G.app a (G.lit ([(g.at' (toNat a1))]:List Int)))) a)
def Ds(g:G Int):G Int:=zE g ((toNat ((g.n:Int)-0))+1) 0 (Dr A)
def QZ(g:G Int):G Int:=(Ds A g)
theorem ae9(A:G Int)(d:A.n≤549755813888): ∀(m:Nat) (v:Int) (s:G Int),0≤v→v≤A.n→m=toNat ((A.n:Int)-v)→((zD A (m+1) v s).n:Int)=s.n+((A.n:Int)-v)
 |0,v,s,a,b,c=>by
  have: ¬v<(A.n:Int):=by omega
  simp only[zD,this,yG,aS];omega
 |m+1,v,s,a,b,c=>by
  have e:v<(A.n:Int):=by omega
  have f:=E (v+1);rw[zD];simp only[e,vz,aQ];rw[f,ae9 A d m (v+1) _ (by omega) (by omega) (by omega)];simp only[G.oH,G.mj,dr,fH];omega
theorem ae_(A:G Int)(d:A.n≤549755813888): ∀(m:Nat) (v:Int) (s:G Int),0≤v→v≤A.n→m=toNat ((A.n:Int)-v)→((zE A (m+1) v s).n:Int)=s.n+((A.n:Int)-v)
 |0,v,s,a,b,c=>by
  have: ¬v<(A.n:Int):=by omega
  simp only[zE,this,yG,aS];omega
 |m+1,v,s,a,b,c=>by
  have e:v<(A.n:Int):=by omega
  have f:=E (v+1);rw[zE];simp only[e,vz,aQ];rw[f,ae_ A d m (v+1) _ (by omega) (by omega) (by omega)];simp only[G.oH,G.mj,dr,fH];omega
theorem awL(A g:G Int):A.n+g.n≤549755813888→(QZ A g).n=A.n+g.n:=fun h=>by
 have a:((Dr A).n:Int)=0+((A.n:Int)-0):=ae9 A (by omega) _ 0 D (by omega) (by omega) rfl;have b:((Ds A g).n:Int)=(Dr A).n+((g.n:Int)-0):=ae_ g (by omega) _ 0 _ (by omega) (by omega) rfl;show(Ds A g).n=_;omega
end
end Go.Proofs.YtfmgjpcmcjjoiaaGreatDoor
