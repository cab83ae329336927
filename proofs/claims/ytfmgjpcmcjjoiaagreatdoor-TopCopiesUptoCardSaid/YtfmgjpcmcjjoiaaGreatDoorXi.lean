/- Part of a proof: walks of the program. -/
import Derived.Test.YtfmgjpcmcjjoiaaGreatDoorXh
open Go.IntKind (i64 u64 u8)
open Int (toNat)
set_option maxRecDepth 100000
set_option maxHeartbeats 4000000
set_option linter.all false
noncomputable section
namespace Go.ah
open Go Go.RowKit
inductive dr where
 |v (k:aB)
 |g (bp:List aB)
 |r (bp:List aB)
 |fn (f:FuncId) (jf:List (List aB))
 |p (b:Nat)
 |o (b:Nat)
 |jA (f:FuncId) (cq:List Nat)
 |e9 (b o:Nat)
def dr.b_:dr→List aB
 | .v k=>[k]
 | .g a=>a
 | .r a=>a
 | .fn _ b=>b.flatten
 | .p _=>[]
 | .o _=>[]
 | .jA _ _=>[]
 | .e9 .. =>[]
def Cc:List (List aB)→List J→List J×List J
 |[],l=>([],l)
 |c::r,l=>match Cc r (l.drop c.length)with
  |(a,b)=>(.ref (l.take c.length)::a,b)
def fE:List dr→List J→List J
 |[],_=>[]
 |s::r,l=>match s with
  | .v _=>l.headD .undef::fE r l.tail
  | .g c=> .agg (l.take c.length)::fE r (l.drop c.length)
  | .r c=> .ref (l.take c.length)::fE r (l.drop c.length)
  | .fn f e=>match Cc e l with
    |(a,b)=> .fn f a::fE r b
  | .p b=> .ptr b 0::fE r l
  | .o b=> .own b 0::fE r l
  | .jA f d=> .fn f (d.map fun b=> .ptr b 0)::fE r l
  | .e9 b o=> .ptr b o::fE r l
def OO:J→List J
 | .agg cs=>cs
 | .ref cs=>cs
 | .ptr .. =>[]
 | .own .. =>[]
 | .fn _ a=>a.flatMap fun c=>match c with
   | .ref cs=>cs
   | .ptr .. =>[]
   |x=>[x]
 |x=>[x]
@[reducible] def dY:List aB→Type 1→Type 1
  |[],α=>α
  |k::a,α=>k.ty→dY a α
def dY.ap{α:Type 1} :(a:List aB)→dY a α→List J→Option α
 |[],f,[]=>some f
 |k::a,f,x::b=>match k.rd x with
  |some v=>dY.ap a (f v) b
  |none=>none
 |_,_,_=>none
structure Gw where
 pre:Option Prop
 res:J
structure a6 where
 ee:List dr
 f:dY (ee.flatMap dr.b_) (ULift Gw)
def dr.cq:dr→List Bool
 | .v _=>[true]
 | .g a=>List.replicate a.length true
 | .r a=>List.replicate a.length false
 | .fn _ b=>List.replicate b.flatten.length false
 | .p _=>[]
 | .o _=>[]
 | .jA _ _=>[]
 | .e9 .. =>[]
def VG(b:Bool):(k:aB)→k.ty→Prop→Prop
 | .int _,_,p=>p
 | .bool,_,p=>p
 | .str,s,p=>match b with
   |true=>s.size≤549755813888→p
   |false=>p
 | .af E,s,p=>match b with
   |true=>s.n≤549755813888→ft (aH E.M E.e s)→p
   |false=>p
 | .ae _,_,p=>p
def uH(a:Option Prop)(p:Prop):Prop:=
 match a with
 |none=>p
 |some q=>q→p
def Gx(P:Program)(f:FuncId)(c:List dr):(a:List aB)→List Bool→dY a (ULift Gw)→List J→Prop
 |[],_,F,acc=>uH F.down.pre (cY P f (fE c acc) F.down.res)
 |k::a,b,F,acc=> ∀x:k.ty,VG (b.headD false) k x (Gx P f c a b.tail (F x) (acc++[k.ab x]))
def Bg(p:Option Prop):aS:=
 match p with
 |none=> .c5
 |some q=> .p q
def yt:List dr→List J→Bool
 |[],_=>true
 |s::r,l=>match s with
  | .fn f _=>match l with
    |x::a=>match x with
     | .fn g _=>match Nat.beq f g with
       |true=>yt r a
       |false=>false
     |_=>false
    |[]=>false
  | .jA f _=>match l with
    |x::a=>match x with
     | .fn g _=>match Nat.beq f g with
       |true=>yt r a
       |false=>false
     |_=>false
    |[]=>false
  | .e9 _ o=>match l with
    |x::a=>match x with
     | .ptr _ b=>match Nat.beq o b with
       |true=>yt r a
       |false=>false
     |_=>false
    |[]=>false
  |_=>yt r l.tail
def a6.gY(F:a6)(aa:List J):Option (aS×J):=
 c3 (yt F.ee aa) (match dP (F.ee.flatMap dr.b_) (aa.flatMap OO)with
 |some cs=>match dY.ap _ F.f cs with
  |some a=>some (.and (.e (yj aa (fE F.ee cs)) (fE F.ee cs)) (Bg a.down.pre),a.down.res)
  |none=>none
 |none=>none)
structure BV (P:Program) (f:FuncId) (s:List J→Option (aS×J)):Prop where
 vs:lC P f
 pure: ∀args o r,s args=some (o,r)→o.holds→cY P f args r
def rO:List Bool→List J→Prop
 |b::a,c::cs=>(b=true→ft c)∧rO a cs
 |_,_=>True
theorem CF: ∀{cq:List Bool} {cs:List J} {d:List Bool} {e:List J},cq.length=cs.length→rO cq cs→rO d e→rO (cq++d) (cs++e)
 |[],[],_,_,_,_,h=>h
 |b::cq,c::cs,_,_,a,h,f=>⟨h.1,CF (by simpa using a) h.2 f⟩
 |[],_::_,_,_,a,_,_=>by simp at a
 |_::_,[],_,_,a,_,_=>by simp at a
theorem YF: ∀{cs:List J},Ho cs→rO (List.replicate cs.length true) cs
 |[],_=>trivial
 |_::_,h=>⟨fun _=>h.1,YF h.2⟩
theorem Py: ∀(n:Nat) (cs:List J),rO (List.replicate n false) cs
 |0,_=>trivial
 |_+1,[]=>trivial
 |n+1,_::cs=>⟨fun h=>(by cases h),Py n cs⟩
theorem ON: ∀(a:List (List aB)) (l:List J),(Cc a l).2=l.drop a.flatten.length
 |[],l=>by simp [Cc]
 |b::r,l=>by
  simp only[Cc,ON r,yF,iF,vh]
theorem A7: ∀{b:List aB} {c a:List J},dP b c=some a→dP b a=some a
 |[],[],a,h=>by cases h;rfl
 |[],_::_,_,h=>by cases h
 |_::_,[],_,h=>by cases h
 |k::b,x::c,a,h=>by
  simp only[dP]at h
  split at h<;>try (cases h;done)
  rename_i y e
  split at h<;>try (cases h;done)
  rename_i i d
  cases h
  obtain⟨v,f,g⟩:=aB.FB e;subst f;simp only[dP,aB.nrm,g,A7 d]
theorem Fz: ∀{a b:List aB} {l:List J},dP (a++b) l=some l→dP a (l.take a.length)=some (l.take a.length)∧dP b (l.drop a.length)=some (l.drop a.length)
 |[],b,l,h=>⟨rfl,h⟩
 |k::a,b,[],h=>by cases h
 |k::a,b,x::g,h=>by
  simp only[BN,dP]at h
  split at h<;>try (cases h;done)
  rename_i y e
  split at h<;>try (cases h;done)
  rename_i i c;simp only[hd,mO]at h;obtain⟨rfl,rfl⟩:=h;obtain⟨d,f⟩:=Fz c;exact⟨by simp only[fr,List.take_succ_cons,dP,e,d],f⟩
theorem sS: ∀(q:List dr) (l:List J),dP (q.flatMap dr.b_) l=some l→Hn (fE q l)→rO (q.flatMap dr.cq) l
 |[],l,_,_=>trivial
 |s::r,l,n,h=>by
  simp only[l9]at n ⊢;obtain⟨i,a⟩:=Fz n;have c:=uU i
  cases s with
  |v k=>
   cases l with
   |nil=>cases n
   |cons x w=>
    simp only[fE,List.headD_cons,List.tail_cons]at h;refine CF (cq:=[true]) (cs:=[x]) rfl ⟨fun _=> ?_,trivial⟩ (sS r w a h.2);have j:=h.1;simp only[dr.b_,fr,hs,cN,List.take_succ_cons,List.take_zero,dP]at i
    split at i<;>try (cases i;done)
    rename_i y e;simp only[hd,mO,and_true]at i;subst i;obtain⟨v,u,_⟩:=aB.FB e;subst u
    cases k<;>exact j
  |g d=>
   simp only[fE]at h;simp only[dr.b_]at c a;have j:=YF h.1;rw[c]at j;have:=CF (cq:=List.replicate d.length true) (by simp [c]) j (sS r (l.drop d.length) a h.2);rwa [q_]at this
  |r d=>
   simp only[fE]at h;simp only[dr.b_]at c a;have:=CF (cq:=List.replicate d.length false) (cs:=l.take d.length) (by simp [c]) (Py _ _) (sS r (l.drop d.length) a h.2);rwa [q_]at this
  |fn f m=>
   simp only[fE]at h;simp only[dr.b_]at c a;have t:=h.2;rw[ON]at t;have:=CF (cq:=List.replicate m.flatten.length false) (cs:=l.take m.flatten.length) (by rw[List.length_replicate,c]) (Py _ _) (sS r (l.drop m.flatten.length) a t);rwa [q_]at this
  |p b=>exact sS r l a h.2
  |o b=>exact sS r l a h.2
  |jA f z=>exact sS r l a h.2
  |e9 b o=>exact sS r l a h.2
theorem dY.WJ{P:Program}{f:FuncId}{m:List dr} : ∀{bp:List aB} {cq:List Bool} {F:dY bp (ULift Gw)} {acc cs:List J} {a:ULift Gw},dY.ap bp F cs=some a→dP bp cs=some cs→rO cq cs→Gx P f m bp cq F acc→uH a.down.pre (cY P f (fE m (acc++cs)) a.down.res)
 |[],cq,F,acc,[],a,h,_,_,j=>by
  cases h
  rw[lz];exact j
 |[],_,_,_,_::_,_,h,_,_,_=>by cases h
 |_::_,_,_,_,[],_,h,_,_,_=>by cases h
 |k::bp,cq,F,acc,x::t,a,h,d,l,j=>by
  simp only[dY.ap]at h
  split at h<;>try (cases h;done)
  rename_i v e;simp only[dP]at d
  split at d<;>try (cases d;done)
  rename_i y g
  split at d<;>try (cases d;done)
  rename_i s n;simp only[hd,mO]at d;obtain⟨rfl,rfl⟩:=d;have r:y=k.ab v:=by
   unfold aB.nrm at g;rw[e]at g
   cases g;rfl
  subst r;have o: ∀p,VG (cq.headD false) k v p→p:=fun p c=>by
   cases cq with
   |nil=>cases k<;>exact c
   |cons b cq=>
    cases b with
    |false=>cases k<;>exact c
    |true=>
     have i:=l.1 rfl
     cases k with
     |int _=>exact c
     |bool=>exact c
     |str=>exact c i.size
     |af E=>exact c (ft.len i) i
     |ae _=>exact c
  have q:rO cq.tail s:=by
   cases cq with
   |nil=>trivial
   |cons b cq=>exact l.2
  have:=dY.WJ (bp:=bp) (cq:=cq.tail) (acc:=acc++[k.ab v]) h n q (o _ (j v));rwa [kj,BH]at this
theorem a6.ok{P:Program}{f:FuncId}{F:a6}(l:lC P f)(h:Gx P f F.ee _ (F.ee.flatMap dr.cq) F.f []):BV P f F.gY:=by
 refine⟨l,fun i o r e d=> ?_⟩;unfold a6.gY at e;rw[dd]at e;replace e:=e.2
 split at e<;>try (cases e;done)
 rename_i cs k
 split at e<;>try (cases e;done)
 rename_i a j
 cases e
 have n:aY jT i (fE F.ee cs):=UE d.1;refine cY.u9 ?_ n;refine cY.jz fun m=> ?_;have c:=A7 k;have:=dY.WJ j c (sS F.ee cs c m) h;have b:=d.2;unfold Bg at b
 cases g:a.down.pre with
 |none=>rw[g]at this;exact this
 |some q=>rw[g]at this b;exact this b
def Hc(X:cb)(R:cI)(a:eR):Option (List J):=
 match a with
 | .nrm s=>match yl X R s with
   |some q=>some q.2
   |none=>none
 | .ret b=>some b
 |_=>none
def Yl(X:cb)(R:cI)(a:eR):aS:=
 match a with
 | .nrm s=>match yl X R s with
   |some q=>q.1
   |none=> .p False
 | .ret _=> .c5
 | .dead=> .c5
 | .ext .. => .p False
def Hm(X:cb)(R:cI)(ms:List ja)(r:iG):Option (aS×List J):=
 match r.t.prune (Hc X R)with
 |some a=>match Ch R.b_ ms a with
  |some q=>some (.and r.o (.and (qA r.f (r.t.yb (Yl X R))) (.es fun _:Unit=>q.1)),q.2)
  |none=>none
 |none=>none
theorem WP.ays{E:Env}{c:Code}{Q R:Exit→D→Prop}{st:D}(h:WP E c R st)(l: ∀e s,R e s→ ∃b,cp E.m s b∧Q e b):WP E c Q st:=fun S d ι a w m=>pE (h S d ι a w m) fun e a w ⟨ay,n,f,g⟩=>by
 obtain⟨b,i,j⟩:=l e n g;obtain⟨ef,k⟩:=i S d ay a w f;exact⟨ef,b,k,j⟩
def aiW(X:cb)(R:cI)(a:List J)(e:Exit)(s:D):Prop:=
 (match e with
  | .normal=>True
  | .ret=>True
  |_=>False)∧rr X R s a
theorem CD{X:cb}{R:cI}{c:Code}{st:D}{r:iG}{ms:List ja}{o:aS}{w:List J}(h:Hm X R ms r=some (o,w))(G:o.holds)(H:r.o.holds→oP X R c st r):WP X.env c (aiW X R w) st:=by
 unfold Hm at h
 split at h<;>try (cases h;done)
 rename_i v n
 split at h<;>try (cases h;done)
 rename_i q z
 cases h
 obtain⟨B,C,E⟩:=G;have l:=H B;have a:=T.FG (JU C l.f);have u:v.bw.length=R.b_.length→dP R.b_ v.bw=some q.2:=fun F=>OT (o:=q.1) (cv:=q.2) z (E ()) F;refine l.wp.ays fun e s b=> ?_
 cases d:r.t.bw with
 |nrm m=>
  rw[d]at b a
  cases e<;>simp only[jw]at b<;>try exact b.elim
  simp only[Yl]at a
  cases k:yl X R m with
  |none=>rw[k]at a;exact a.elim
  |some p=>
   rw[k]at a;obtain⟨A,L,j⟩:=UN (o:=p.1) (cv:=p.2) k a;obtain⟨K,g,i⟩:=T.mI (f:=Hc X R) (t:=r.t) (x:=p.2) (by rw[d];simp only[Hc,k]);rw[n]at g;cases g;have:=u (by rw[i];exact uU j);rw[i,A7 j]at this;have I:p.2=q.2:=eG this;exact⟨m,b,trivial,I▸A⟩
 |ret y=>
  rw[d]at b
  cases e<;>simp only[jw]at b<;>try exact b.elim
  obtain⟨L,j⟩:=l.ret y d;obtain⟨K,g,i⟩:=T.mI (f:=Hc X R) (t:=r.t) (x:=y) (by rw[d];rfl);rw[n]at g;cases g;have:=u (by rw[i];exact uU j);rw[i,A7 j]at this
  cases this
  exact⟨s,cp.refl _,trivial,b⟩
 |ext id m=>rw[d]at a;exact a.elim
 |dead=>exact absurd d l.live
def TT:List J→Bool
 |[]=>false
 |[x]=>match x with
  | .c9 _=>false
  | .ae .. =>false
  |_=>true
 |_=>true
noncomputable def qW(X:cb)(R:cI)(c:Code)(h:cm R.b_)(ms:List ja)(st:D):aS×J:=
 match Hm X R ms (exec X R c h st)with
 |some q=>match R.md with
  | .pure=>match TT (R.st q.2).n with
    |true=>(q.1,oC (R.st q.2).n)
    |false=>(.p False,.undef)
  | .own _=>(q.1,q.2.headD .undef)
  |_=>(.p False,.undef)
 |none=>(.p False,.undef)
theorem aCe: ∀{d a:List J},aY jT d a→TT a=true→u1 (oC d) (oC a)
 |[],[],_,h=>by cases h
 |[x],[y],h,c=>by
  have b:=h.1;simp only[oC];simp only[TT]at c
  cases x<;>cases y<;>first|exact b|(cases c;done)|(simp [jT,g0]at b;done)
 |_::_::_,_::_::_,h,_=>h
 |[],_::_,h,_=>h.elim
 |_::_,[],h,_=>h.elim
 |[_],_::_::_,h,_=>h.2.elim
 |_::_::_,[_],h,_=>h.2.elim
theorem aAH{X:cb}{R:cI}{f:FuncId}{b:Func}{c:Code}{h:cm R.b_}{ms:List ja}{aa:List J}{r:J}{p:Prop}(t:X.env.dq)(H:X.P.funcs[f]? =some b)(G:b.body=some c)(F:R.rs=b.results.toList)
  (e:((qW X R c h ms ⟨aa++List.replicate (b.ntmps-aa.length) .undef,[]⟩).1.prop,(qW X R c h ms ⟨aa++List.replicate (b.ntmps-aa.length) .undef,[]⟩).1.g9,(qW X R c h ms ⟨aa++List.replicate (b.ntmps-aa.length) .undef,[]⟩).2)=(p,(qW X R c h ms ⟨aa++List.replicate (b.ntmps-aa.length) .undef,[]⟩).1.hS,r)) (K:p):cY X.P f aa r:=by
 generalize B:(⟨aa++List.replicate (b.ntmps-aa.length) .undef,[]⟩:D)=st at e;simp only[s_]at e;obtain⟨z,A,bl⟩:=e;have a:(qW X R c h ms st).1.holds:=aS.ok _ A (by rw[z];exact K);clear z A;unfold qW at a bl
 split at a
 ·rename_i q u;rw[u]at bl;simp only at bl;obtain⟨o,y⟩:=q;simp only at a bl
  split at a
  ·rename_i k;rw[k]at bl;simp only at bl
   split at a
   ·rename_i i;rw[i]at bl;simp only at bl;have w:=CD u a fun v=>CC t c h st v;refine uV t H G aa r ?_;rw[B];refine w.mono fun e s m=>⟨m.1,?_⟩;have d:=m.2;unfold rr at d;rw[k]at d;simp only at d;subst bl;have E:yk X.env s b.results.toList fun M=>u1 (oC M) (oC (R.st y).n):=by
     rw[←F];exact d _ fun N L=>aCe L i
    cases j:oC (R.st y).n<;>rw[j]at E<;>first|exact E|skip
    revert i j;generalize (R.st y).n=l;intro i j
    match l with
    |[]=>cases i
    |[x]=>simp only[oC]at j;subst j;cases i
    |_::_::_=>cases j
   ·exact a.elim
  ·rename_i cF k;rw[k]at bl;simp only at bl;have w:=CD u a fun v=>CC t c h st v;refine uV t H G aa r ?_;rw[B];refine w.mono fun e s m=>⟨m.1,?_⟩;have d:=m.2;unfold rr at d;rw[k]at d;simp only at d;obtain⟨n,g,I,C⟩:=d;subst I;simp only[List.headD_cons]at bl;subst bl;rw[F]at C;exact C
  ·exact a.elim
 ·exact a.elim
def Yj:List (Nat×cF)→TypeId→Option cF
 |[],_=>none
 |(a,t)::r,T=>match Nat.beq T a with
  |true=>some t
  |false=>Yj r T
abbrev mR:=List J→Option (aS×J)
def Bx:List (Nat×mR)→FuncId→List J→Option (aS×J)
 |[],_,_=>none
 |(g,s)::r,f,a=>match Nat.beq f g with
  |true=>match s a with
   |some q=>some q
   |none=>Bx r f a
  |false=>Bx r f a
def pS(P:Program):List (Nat×mR)→Prop
 |[]=>True
 |x::r=>BV P x.1 x.2∧pS P r
theorem U8{P:Program} : ∀{l:List (Nat×mR)},pS P l→ ∀f a o r,Bx l f a=some (o,r)→lC P f∧(o.holds→cY P f a r)
 |[],_,_,_,_,_,h=>by cases h
 |(g,s)::l,b,f,a,o,r,h=>by
  simp only[Bx]at h
  split at h
  ·rename_i e;have:f=g:=dX e;subst this
   split at h
   ·rename_i q c
    cases h
    exact⟨b.1.vs,b.1.pure a _ _ c⟩
   ·exact U8 b.2 f a o r h
  ·exact U8 b.2 f a o r h
abbrev mS:=List J→Heap→Option (aS×List J×Heap)
def Bw:List (Nat×mS)→FuncId→List J→Heap→Option (aS×List J×Heap)
 |[],_,_,_=>none
 |(g,s)::r,f,a,H=>match Nat.beq f g with
  |true=>match s a H with
   |some q=>some q
   |none=>Bw r f a H
  |false=>Bw r f a H
structure jc (P:Program) (f:FuncId) (s:mS):Prop where
 vs:lC P f
 call: ∀args H o rs al,s args H=some (o,rs,al)→o.holds→fj P f args H rs al
def rA(P:Program):List (Nat×mS)→Prop
 |[]=>True
 |x::r=>jc P x.1 x.2∧rA P r
theorem U6{P:Program} : ∀{l:List (Nat×mS)},rA P l→ ∀f a H o rs al,Bw l f a H=some (o,rs,al)→lC P f∧(o.holds→fj P f a H rs al)
 |[],_,_,_,_,_,_,_,h=>by cases h
 |(g,s)::l,b,f,a,H,o,rs,al,h=>by
  simp only[Bw]at h
  split at h
  ·rename_i e;have:f=g:=dX e;subst this
   split at h
   ·rename_i q c
    cases h
    exact⟨b.1.vs,b.1.call a H _ _ _ c⟩
   ·exact U6 b.2 f a H o rs al h
  ·exact U6 b.2 f a H o rs al h
theorem aBQ{P:Program}{l:List (Nat×mR)}(h:pS P l):Spec.dq P (fun f i=>match Bx l f i with
  |some q=>some (some q.1.holds,q.2)
  |none=>none):=fun f a j r e=>by
 simp only at e
 split at e
 ·rename_i q b
  cases e
  obtain⟨c,d⟩:=U8 h f a q.1 q.2 b;exact⟨c,fun g=>d g.1⟩
 ·cases e
theorem aBP{P:Program}{l:List (Nat×mS)}(h:rA P l):vi.dq P (fun f i H=>match Bw l f i H with
  |some q=>some (some q.1.holds,q.2)
  |none=>none):=fun f a H j rs al e=>by
 simp only at e
 split at e
 ·rename_i q b;obtain⟨q1,k,m⟩:=q
  cases e
  obtain⟨c,d⟩:=U6 h f a H q1 _ _ b;exact⟨c,fun g=>d g.1⟩
 ·cases e
abbrev a:aB:= .int .i64
abbrev y:aB:= .bool
abbrev au:aB:= .str
noncomputable def A.rep{α:Type}(n:Nat)(x:α):A α:=⟨n,fun _=>x⟩
theorem A.pw{α:Type}(n:Nat)(x:α):(A.rep n x).n=n:=rfl
def aO(s:A Int):Prop:= ∀i,0≤s.at' i∧s.at' i≤255
def aBH:J→J→Bool
 | .int k _,.int a _=>decide (k=a)
 | .bool _,.bool _=>true
 | .str _,.str _=>true
 | .arr s _ _,.arr b _ _=>Nat.beq s b
 |_,_=>false
def g9:List J→List J→Bool
 |[],[]=>true
 |x::a,y::b=>match aBH x y with
  |true=>g9 a b
  |false=>false
 |_,_=>false
def Pw:List (Nat×cF)→Nat→List J→Option cF
 |[],_,_=>none
 |(_,E)::r,a,cs=>match Nat.beq E.M a with
  |true=>match g9 (E.e (E.d [])) cs with
   |true=>some E
   |false=>Pw r a cs
  |false=>Pw r a cs
def ate(a:List (Nat×mS))(f:Nat):Bool:=a.any fun x=>Nat.beq f x.1
def cb.of(P:Program)(hG:List (Nat×bB))(vK:List (Nat×cF))(l:List (Nat×mR))(m:Nat)(a:List (Nat×mS)):cb:=⟨P,yx hG,Yj vK,Bx l,m,Bw a,Pw vK,ate a⟩
theorem cb.agn{P:Program}{hG:List (Nat×bB)}{vK:List (Nat×cF)}{l:List (Nat×mR)}{m:Nat}{a:List (Nat×mS)}(e:P.follows .mixedOrders=true)(h:(hG.all fun x=>BA P x.1 x.2)=true)(d:(hG.all fun x=>GY P x)=true)(b:pS P l)(c:rA P a):
  (cb.of P hG vK l m a).env.dq:=Ym e h d (aBQ b) (aBP c)
theorem R1{E:Env}(s:E.dq){f:FuncId}{b:Func}{c:Code}(y:E.P.funcs[f]? =some b)(x:b.body=some c)(aa:List J)(H:Heap)(rs:List J)(al:Heap)(B:Nat.ble H.length E.m=true)
  (z:WP E c (fun e st=>(match e with
   | .normal=>True
   | .ret=>True
   |_=>False)∧uF E st b.results.toList fun j=>j.length=rs.length∧cp E.m ⟨j,st.k⟩ ⟨rs,al⟩) ⟨aa++List.replicate (b.ntmps-aa.length) .undef,H⟩):fj E.P f aa H rs al:=by
 intro S ι w j u O i;have n:=fg u (gW B);have K:aU S ι ⟨aa++List.replicate (b.ntmps-aa.length) .undef,H⟩ {tmps:=j.toArray++Array.replicate (b.ntmps-j.toArray.size) undef,defers:=[]} w:=by
  refine⟨i.below,rfl,fun t ab d=> ?_,i.k,i.inj,i.fresh,i.gw,i.gB⟩;rcases fh t aa.length with h|h
  ·rw[s7 h]at d;obtain⟨v,k,m⟩:=i.n t ab d;refine⟨v,?_,m⟩;rw[pF (by simp;omega)];exact k
  ·rw[BG h]at d;have L:t-aa.length<b.ntmps-aa.length:=by
    rcases fh (t-aa.length) (b.ntmps-aa.length)with l|l
    ·exact l
    ·rw[e0 (by simpa using l)]at d;cases d
   rw[VA,bF L]at d
   cases d
   exact⟨undef,by rw[Array.getElem?_append_right (by simp;omega),Array.getElem?_replicate,bF (by simp;omega)],trivial⟩
 refine calls_of_wp y x (pE (z S n _ _ w K) fun e a ag ⟨kU,st,g,C⟩=> ?_);obtain⟨o,D⟩:=C;obtain⟨N,us,p,k,m⟩:=aed s g _ _ D;have F:=UM m;have G:aU S kU ⟨N,st.k⟩ {tmps:=us.toArray,defers:=[]} ag:=by
  refine⟨g.below,rfl,fun t ab d=> ?_,g.k,g.inj,g.fresh,g.gw,g.gB⟩;obtain⟨v,q,r⟩:=k.get t ab d;exact⟨v,by simpa using q,r⟩
 have A:us.length=rs.length:=by rw[←k.length];exact p.1
 obtain⟨ef,I⟩:=p.2 S n kU _ ag G;have M: ∃v,(results b a.tmps).run E.P ag= .ok v ag∧ ∃us ay,Ending.returned v= .returned (pack us)∧us.length=rs.length∧aU S ay ⟨rs,al⟩ {tmps:=us.toArray,defers:=[]} ag:=
  ⟨_,F,us,ef,rfl,A,I⟩
 cases e<;>simp only at o<;>first|exact⟨g.defers,M⟩|exact o.elim
noncomputable def mC(X:cb)(R:cI)(c:Code)(h:cm R.b_)(ms:List ja)(st:D):aS×D:=
 match Hm X R ms (exec X R c h st)with
 |some q=>match R.md with
  | .heap=>(q.1,R.st q.2)
  | .lh .. =>(q.1,R.st q.2)
  | .eA .. =>(q.1,R.st q.2)
  |_=>(.p False,st)
 |none=>(.p False,st)
theorem adQ{X:cb}{R:cI}{f:FuncId}{g:Func}{c:Code}{h:cm R.b_}{ms:List ja}{aa:List J}{H:Heap}{rs:List J}{al:Heap}{p:Prop}(j:X.env.dq)(w:X.P.funcs[f]? =some g)(v:g.body=some c)(u:R.rs=g.results.toList)(x:Nat.ble H.length X.m=true)
  (e:((mC X R c h ms ⟨aa++List.replicate (g.ntmps-aa.length) .undef,H⟩).1.prop,(mC X R c h ms ⟨aa++List.replicate (g.ntmps-aa.length) .undef,H⟩).1.g9,(mC X R c h ms ⟨aa++List.replicate (g.ntmps-aa.length) .undef,H⟩).2)=(p,(mC X R c h ms ⟨aa++List.replicate (g.ntmps-aa.length) .undef,H⟩).1.hS,⟨rs,al⟩)) (B:p):fj X.P f aa H rs al:=by
 generalize t:(⟨aa++List.replicate (g.ntmps-aa.length) .undef,H⟩:D)=st at e;simp only[s_]at e;obtain⟨y,z,bl⟩:=e;have b:(mC X R c h ms st).1.holds:=aS.ok _ z (by rw[y];exact B);clear y z;unfold mC at b bl
 split at b
 ·rename_i q r;rw[r]at bl;simp only at bl;obtain⟨o,C⟩:=q;simp only at b bl
  split at b
  ·rename_i d;rw[d]at bl;simp only at bl;have n:=CD r b fun k=>CC j c h st k;refine R1 j w v aa H rs al x ?_;rw[t];refine n.mono fun e s i=>⟨i.1,?_⟩;have a:=i.2;unfold rr at a;rw[d]at a;simp only at a;rw[bl]at a;rw[←u];exact a _ fun A l m=>⟨l,m⟩
  ·rename_i d;rw[d]at bl;simp only at bl;have n:=CD r b fun k=>CC j c h st k;refine R1 j w v aa H rs al x ?_;rw[t];refine n.mono fun e s i=>⟨i.1,?_⟩;have a:=i.2;unfold rr at a;rw[d]at a;simp only at a;rw[bl]at a;rw[←u];exact a _ fun A l m=>⟨l,m⟩
  ·rename_i d;rw[d]at bl;simp only at bl;have n:=CD r b fun k=>CC j c h st k;refine R1 j w v aa H rs al x ?_;rw[t];refine n.mono fun e s i=>⟨i.1,?_⟩;have a:=i.2;unfold rr at a;rw[d]at a;simp only at a;rw[bl]at a;rw[←u];exact a _ fun A l m=>⟨l,m⟩
  ·exact b.elim
 ·exact b.elim
structure oM where
 pre:Option Prop
 rs:List J
 H:Heap
structure b5 where
 ee:List dr
 jK:List (Key×aB)
 iP:Heap
 f:dY (ee.flatMap dr.b_++jK.map (·.2)) (ULift oM)
def b5.heap(F:b5)(cs:List J):Heap:=(x6 ⟨[],F.iP⟩ (F.jK.map (·.1)) cs).k
def b5.dL(F:b5):Nat:=(F.ee.flatMap dr.b_).length
def b5.args(F:b5)(cs:List J):List J:=(fE F.ee (cs.take F.dL)).map (Bn (F.heap (cs.drop F.dL)))
def yI(b:Bool):(k:aB)→k.ty→Prop→Prop
 | .int _,_,p=>p
 | .bool,_,p=>p
 | .str,s,p=>match b with
   |true=>s.size≤549755813888→p
   |false=>p
 | .af _,s,p=>match b with
   |true=>s.n≤549755813888→p
   |false=>p
 | .ae _,s,p=>match b with
   |true=>s.n≤549755813888→p
   |false=>p
def BR(P:Program)(f:FuncId)(F:b5):(a:List aB)→List Bool→dY a (ULift oM)→List J→Prop
 |[],_,A,acc=>uH A.down.pre (fj P f (F.args acc) (F.heap (acc.drop F.dL)) A.down.rs A.down.H)
 |k::a,b,A,acc=> ∀x:k.ty,yI (b.headD true) k x (BR P f F a b.tail (A x) (acc++[k.ab x]))
def b5.gY(F:b5)(aa:List J)(H:Heap):Option (aS×List J×Heap):=
 c3 (yt F.ee aa) (match dP (F.ee.flatMap dr.b_++F.jK.map (·.2)) (aa.flatMap OO++getAll ⟨[],H⟩ (F.jK.map (·.1)))with
 |some cs=>match dY.ap _ F.f cs with
  |some a=>c3 (Nat.beq H.length (F.heap (cs.drop F.dL)).length&&hF H.length ⟨F.args cs,F.heap (cs.drop F.dL)⟩)
    (some (.and (jX ⟨aa,H⟩ ⟨F.args cs,F.heap (cs.drop F.dL)⟩) (.and (.e (getAll ⟨[],F.heap (cs.drop F.dL)⟩ (F.jK.map (·.1))) (cs.drop F.dL)) (Bg a.down.pre)),a.down.rs,a.down.H))
  |none=>none
 |none=>none)
def nY(x:J):Prop:=
 match x with
 | .str s=>s.size≤dm
 | .arr _ n _=>n≤dm
 | .ae a b n _=>n≤dm∨(a=true∧b=0)
 |_=>True
def yd(x:J):Prop:=
 match x with
 | .agg cs=> ∀c∈cs,nY c
 |x=>nY x
def m0:List Bool→List J→Prop
 |a,c::cs=>(a.headD true=true→nY c)∧m0 a.tail cs
 |_,[]=>True
theorem vQ: ∀{cq:List Bool} {cs:List J} {d:List Bool} {e:List J},cq.length=cs.length→m0 cq cs→m0 d e→m0 (cq++d) (cs++e)
 |[],[],_,_,_,_,h=>h
 |b::cq,c::cs,_,_,a,h,f=>⟨h.1,vQ (by simpa using a) h.2 f⟩
 |[],_::_,_,_,a,_,_=>by simp at a
 |_::_,[],_,_,a,_,_=>by simp at a
theorem CE: ∀{n:Nat} {cs:List J},(∀c∈cs,nY c)→m0 (List.replicate n true) cs
 |n,[],_=>by cases n<;>trivial
 |0,c::cs,h=>⟨fun _=>h c (by simp),CE (n:=0) fun c a=>h c (by simp [a])⟩
 |n+1,c::cs,h=>⟨fun _=>h c (by simp),CE (n:=n) fun c a=>h c (by simp [a])⟩
theorem Px: ∀(n:Nat) (cs:List J),cs.length=n→m0 (List.replicate n false) cs
 |_,[],_=>by trivial
 |0,_::_,h=>by simp at h
 |n+1,_::cs,h=>⟨fun h=>(by cases h),Px n cs (by simpa using h)⟩
theorem qX: ∀(u:List dr) (l:List J),dP (u.flatMap dr.b_) l=some l→(∀x∈fE u l,yd x)→m0 (u.flatMap dr.cq) l
 |[],l,n,_=>by
  cases l with
  |nil=>trivial
  |cons x w=>cases n
 |s::r,l,n,h=>by
  simp only[l9]at n ⊢;obtain⟨m,d⟩:=Fz n;have i:=uU m
  cases s with
  |v k=>
   cases l with
   |nil=>cases n
   |cons x w=>
    simp only[fE,List.headD_cons,List.tail_cons]at h;refine vQ (cq:=[true]) (cs:=[x]) rfl ⟨fun _=> ?_,trivial⟩ (qX r w d fun y a=>h y (by simp [a]));have t:=h x (by simp);simp only[dr.b_,fr,hs,cN,List.take_succ_cons,List.take_zero,dP]at m
    split at m<;>try (cases m;done)
    rename_i y e;simp only[hd,mO,and_true]at m;subst m;obtain⟨v,z,_⟩:=aB.FB e;subst z
    cases k<;>exact t
  |g j=>
   simp only[fE]at h;simp only[dr.b_]at i d;have t: ∀c∈l.take j.length,nY c:=h (.agg (l.take j.length)) (by simp);have:=vQ (cq:=List.replicate j.length true) (by simp [i]) (CE t) (qX r (l.drop j.length) d fun y a=>h y (by simp [a]));rwa [q_]at this
  |r j=>
   simp only[fE]at h;simp only[dr.b_]at i d;have:=vQ (cq:=List.replicate j.length false) (cs:=l.take j.length) (by simp [i]) (Px _ _ i) (qX r (l.drop j.length) d fun y a=>h y (by simp [a]));rwa [q_]at this
  |fn f q=>
   simp only[fE]at h;simp only[dr.b_]at i d;have A: ∀y∈fE r (l.drop q.flatten.length),yd y:=fun y a=>h y (by
    rw[←ON]at a;simp [a])
   have:=vQ (cq:=List.replicate q.flatten.length false) (cs:=l.take q.flatten.length) (by rw[List.length_replicate,i]) (Px _ _ i) (qX r (l.drop q.flatten.length) d A);rwa [q_]at this
  |p b=>exact qX r l d fun y a=>h y (by simp [fE,a])
  |o b=>exact qX r l d fun y a=>h y (by simp [fE,a])
  |jA f B=>exact qX r l d fun y a=>h y (by simp [fE,a])
  |e9 b o=>exact qX r l d fun y a=>h y (by simp [fE,a])
theorem dY.WK{P:Program}{f:FuncId}{F:b5} : ∀{bp:List aB} {cq:List Bool} {A:dY bp (ULift oM)} {acc cs:List J} {a:ULift oM},dY.ap bp A cs=some a→dP bp cs=some cs→m0 cq cs→BR P f F bp cq A acc→uH a.down.pre (fj P f (F.args (acc++cs)) (F.heap ((acc++cs).drop F.dL)) a.down.rs a.down.H)
 |[],cq,A,acc,[],a,h,_,_,l=>by
  cases h
  rw[lz];exact l
 |[],_,_,_,_::_,_,h,_,_,_=>by cases h
 |_::_,_,_,_,[],_,h,_,_,_=>by cases h
 |k::bp,cq,A,acc,x::r,a,h,c,m,l=>by
  simp only[dY.ap]at h
  split at h<;>try (cases h;done)
  rename_i v e;simp only[dP]at c
  split at c<;>try (cases c;done)
  rename_i y i
  split at c<;>try (cases c;done)
  rename_i s n;simp only[hd,mO]at c;obtain⟨rfl,rfl⟩:=c;have q:y=k.ab v:=by
   unfold aB.nrm at i;rw[e]at i
   cases i;rfl
  subst q;have o: ∀p,yI (cq.headD true) k v p→p:=fun p b=>by
   have d:=m.1
   cases j:cq.headD true with
   |false=>rw[j]at b;cases k<;>exact b
   |true=>
    rw[j]at b;have d:=d j
    cases k with
    |int _=>exact b
    |bool=>exact b
    |str=>exact b d
    |af E=>exact b d
    |ae _=>exact b (d.resolve_right fun g=>by cases g.1)
  have:=dY.WK (bp:=bp) (cq:=cq.tail) (acc:=acc++[k.ab v]) h n m.2 (o _ (l v));rwa [kj,BH]at this
theorem CG{S:dR}{ι:Nat→Option Nat}{H:Heap}{w:World}{c:J}{v:Value}(h:ej S ι H w c v):nY c:=by
 cases c<;>try trivial
 ·have a:aR w (aM S ι H w) (.str _) v:=h;exact(aR.jz a).size
 ·have a:aR w (aM S ι H w) (.arr _ _ _) v:=h
  cases aR.jz a;assumption
 all_goals exact h.elim
theorem agp{S:dR}{ι:Nat→Option Nat}{H:Heap}{w:World}{x:J}{v:Value}(h:bk S ι H w x v):yd x:=by
 cases x
 case agg cs=>
  obtain⟨j,_,h⟩:=h;intro c d;obtain⟨i,e⟩:=pI d;obtain⟨u,_,b⟩:=h.get i c e;exact CG b
 case undef=>trivial
 case gone=>trivial
 case c9=>trivial
 case str s=>exact CG (show ej S ι H w (.str s) v from h)
 case arr a n f=>exact CG (show ej S ι H w (.arr a n f) v from h)
 case ae g a n f=>exact(show False from h).elim
 all_goals trivial
theorem agq{H:Heap}{x:J}(h:yd (Bn H x)):yd x:=by
 have b: ∀c,nY (LU H c)→nY c:=fun c a=>by cases c<;>first|exact a|trivial
 cases x<;>first|exact h|trivial|skip
 intro c a;exact b c (h _ (pJ.2 ⟨c,a,rfl⟩))
theorem YH{S:dR}{ι:Nat→Option Nat}{st:D}{a:Act}{w:World}(h:aU S ι st a w)(b o:Nat):nY (I st.k b o):=by
 have c:=h.k b o
 cases e:I st.k b o<;>rw[e]at c<;>try trivial
 ·obtain⟨_,x,v,_,_,_,d⟩:=c;exact CG (S:=S) d
 ·obtain⟨_,x,v,_,_,_,d⟩:=c;exact CG (S:=S) d
 ·exact c.2.elim (fun g=> .inr ⟨g.1,g.2.1⟩) fun g=> .inl g.1
theorem b5.ok{P:Program}{f:FuncId}{F:b5}(d:lC P f)(jK:(F.jK.all fun k=>match k.1 with
  | .h _ _=>true
  |_=>false)=true) (h:BR P f F _ (F.ee.flatMap dr.cq) F.f []):jc P f F.gY:=by
 refine⟨d,fun args H o rs al e T=> ?_⟩;unfold b5.gY at e;rw[dd]at e;replace e:=e.2
 split at e<;>try (cases e;done)
 rename_i cs D
 split at e<;>try (cases e;done)
 rename_i a C;rw[dd]at e;obtain⟨p,e⟩:=e
 cases e
 simp only[bY]at p;obtain⟨z,N,r⟩:=T;have y:=A7 D;have R:=dX p.1;intro S ι w Z v V U;obtain⟨ay,t⟩:=nU z p.2 S v ι _ w U;have G:args.length=(F.args cs).length:=zn (AU (y8 z)).1;obtain⟨B,TC⟩:=Fz y;have I: ∀x∈fE F.ee (cs.take F.dL),yd x:=fun x W=>by
  obtain⟨i,Q⟩:=pI W;obtain⟨fY,_,m⟩:=t.n i (Bn (F.heap (cs.drop F.dL)) x) (by simp [b5.args,Q]);exact agq (agp m)
 have O: ∀c∈cs.drop F.dL,nY c:=by
  have M:getAll ⟨[],F.heap (cs.drop F.dL)⟩ (F.jK.map (·.1))=cs.drop F.dL:=N;rw[←M];have Y: ∀(l:List (Key×aB)),(l.all fun k=>match k.1 with
    | .h _ _=>true
    |_=>false)=true→ ∀c∈getAll ⟨[],F.heap (cs.drop F.dL)⟩ (l.map (·.1)),nY c:=by
   intro l
   induction l with
   |nil=>intro _ c d;simp [getAll]at d
   |cons k l u=>
    intro j c d;simp only[yH,bY]at j;simp only[Gh,getAll,hf]at d;rcases d with rfl|d
    ·obtain⟨X,gh⟩:=k
     cases X with
     |h b o=>exact YH t b o
     |_=>cases j.1
    ·exact u j.2 c d
  exact Y F.jK jK
 have L:m0 (F.ee.flatMap dr.cq) cs:=by
  have E:=qX F.ee (cs.take F.dL) B I;have m:m0 [] (cs.drop F.dL):=by
   have:=CE (n:=0) O;exact this
  have j:=uU B;have J:(F.ee.flatMap dr.cq).length=(cs.take F.dL).length:=by
   have iP: ∀ee:List dr,(ee.flatMap dr.cq).length=(ee.flatMap dr.b_).length:=by
    intro ee
    induction ee with
    |nil=>rfl
    |cons s cP u=>
     simp only[l9,iF,u]
     congr 1
     cases s<;>simp [dr.cq,dr.b_]
   rw[iP];exact j.symm
  have:=vQ J E m;rwa [lz,q_]at this
 have g:=dY.WK C y L h;rw[re]at g;have K:fj P f (F.args cs) (F.heap (cs.drop F.dL)) a.down.rs a.down.H:=by
  unfold Bg at r
  cases A:a.down.pre with
  |none=>rw[A]at g;exact g
  |some q=>rw[A]at g r;exact g r
 exact K S ay w Z (by rw[←R];exact v) (V.trans G) t
@[reducible] def im:List aB→Type
  |[]=>Unit
  |k::a=>k.ty×im a
def im.gZ:(a:List aB)→im a→List J
 |[],_=>[]
 |k::a,s=>k.ab s.1::im.gZ a s.2
def dY.oj{α:Type 1} :(b:List aB)→dY b α→im b→α
 |[],a,_=>a
 |_::b,f,s=>dY.oj b (f s.1) s.2
def Gu:(k:aB)→k.ty→Prop
 | .int _,_=>True
 | .bool,_=>True
 | .str,s=>s.size≤549755813888
 | .af _,s=>s.n≤549755813888
 | .ae _,s=>s.n≤549755813888
def Mx:(a:List aB)→im a→Prop
 |[],_=>True
 |k::a,s=>Gu k s.1∧Mx a s.2
theorem VI{k:aB}{x:k.ty}{p:Prop}(h:Gu k x→p):yI true k x p:=by
 cases k<;>first|exact h trivial|exact h
theorem b3{i:Nat}(h:i<3):i=0∨i=1∨i=2:=by omega
structure db where
 ee:List dr
 bp:List aB
 c4:List J→Heap
 gt:Heap→List J
 f:dY (ee.flatMap dr.b_++bp) (ULift oM)
def db.dL(F:db):Nat:=(F.ee.flatMap dr.b_).length
def db.args(F:db)(cs:List J):List J:=(fE F.ee (cs.take F.dL)).map (Bn (F.c4 (cs.drop F.dL)))
def eP(P:Program)(f:FuncId)(F:db):(a:List aB)→List Bool→dY a (ULift oM)→List J→Prop
 |[],_,A,acc=>uH A.down.pre (fj P f (F.args acc) (F.c4 (acc.drop F.dL)) A.down.rs A.down.H)
 |k::a,b,A,acc=> ∀x:k.ty,yI (b.headD true) k x (eP P f F a b.tail (A x) (acc++[k.ab x]))
def db.gY(F:db)(aa:List J)(H:Heap):Option (aS×List J×Heap):=
 c3 (yt F.ee aa) (match dP (F.ee.flatMap dr.b_++F.bp) (aa.flatMap OO++F.gt H)with
 |some cs=>match dY.ap _ F.f cs with
  |some a=>c3 (Nat.beq H.length (F.c4 (cs.drop F.dL)).length&&hF H.length ⟨F.args cs,F.c4 (cs.drop F.dL)⟩)
    (some (.and (jX ⟨aa,H⟩ ⟨F.args cs,F.c4 (cs.drop F.dL)⟩) (.and (.e (F.gt (F.c4 (cs.drop F.dL))) (cs.drop F.dL)) (Bg a.down.pre)),a.down.rs,a.down.H))
  |none=>none
 |none=>none)
theorem dY.WN{P:Program}{f:FuncId}{F:db} : ∀{bp:List aB} {cq:List Bool} {A:dY bp (ULift oM)} {acc cs:List J} {a:ULift oM},dY.ap bp A cs=some a→dP bp cs=some cs→m0 cq cs→eP P f F bp cq A acc→uH a.down.pre (fj P f (F.args (acc++cs)) (F.c4 ((acc++cs).drop F.dL)) a.down.rs a.down.H)
 |[],cq,A,acc,[],a,h,_,_,l=>by
  cases h
  rw[lz];exact l
 |[],_,_,_,_::_,_,h,_,_,_=>by cases h
 |_::_,_,_,_,[],_,h,_,_,_=>by cases h
 |k::bp,cq,A,acc,x::r,a,h,c,m,l=>by
  simp only[dY.ap]at h
  split at h<;>try (cases h;done)
  rename_i v e;simp only[dP]at c
  split at c<;>try (cases c;done)
  rename_i y i
  split at c<;>try (cases c;done)
  rename_i s n;simp only[hd,mO]at c;obtain⟨rfl,rfl⟩:=c;have q:y=k.ab v:=by
   unfold aB.nrm at i;rw[e]at i
   cases i;rfl
  subst q;have o: ∀p,yI (cq.headD true) k v p→p:=fun p b=>by
   have d:=m.1
   cases j:cq.headD true with
   |false=>rw[j]at b;cases k<;>exact b
   |true=>
    rw[j]at b;have d:=d j
    cases k with
    |int _=>exact b
    |bool=>exact b
    |str=>exact b d
    |af E=>exact b d
    |ae _=>exact b (d.resolve_right fun g=>by cases g.1)
  have:=dY.WN (bp:=bp) (cq:=cq.tail) (acc:=acc++[k.ab v]) h n m.2 (o _ (l v));rwa [kj,BH]at this
theorem db.ok{P:Program}{f:FuncId}{F:db}(G:lC P f)(Q: ∀H,∀c∈F.gt H,∃b o,c=I H b o)(h:eP P f F _ (F.ee.flatMap dr.cq) F.f []):jc P f F.gY:=by
 refine⟨G,fun args H o rs al e U=> ?_⟩;unfold db.gY at e;rw[dd]at e;replace e:=e.2
 split at e<;>try (cases e;done)
 rename_i cs z
 split at e<;>try (cases e;done)
 rename_i a y;rw[dd]at e;obtain⟨j,e⟩:=e
 cases e
 simp only[bY]at j;obtain⟨t,M,k⟩:=U;have r:=A7 z;have T:=dX j.1;intro S ι w Z m W V;obtain⟨ay,l⟩:=nU t j.2 S m ι _ w V;have B:args.length=(F.args cs).length:=zn (AU (y8 t)).1;obtain⟨v,TC⟩:=Fz r;have C: ∀x∈fE F.ee (cs.take F.dL),yd x:=fun x X=>by
  obtain⟨i,O⟩:=pI X;obtain⟨fY,_,g⟩:=l.n i (Bn (F.c4 (cs.drop F.dL)) x) (by simp [db.args,O]);exact agq (agp g)
 have N: ∀c∈cs.drop F.dL,nY c:=by
  have L:F.gt (F.c4 (cs.drop F.dL))=cs.drop F.dL:=M;intro c p;rw[←L]at p;obtain⟨b,o,e⟩:=Q _ c p;rw[e];exact YH l b o
 have K:m0 (F.ee.flatMap dr.cq) cs:=by
  have A:=qX F.ee (cs.take F.dL) v C;have g:m0 [] (cs.drop F.dL):=by
   have:=CE (n:=0) N;exact this
  have R:=uU v;have E:(F.ee.flatMap dr.cq).length=(cs.take F.dL).length:=by
   have D: ∀ee:List dr,(ee.flatMap dr.cq).length=(ee.flatMap dr.b_).length:=by
    intro ee
    induction ee with
    |nil=>rfl
    |cons s cP Y=>
     simp only[l9,iF,Y]
     congr 1
     cases s<;>simp [dr.cq,dr.b_]
   rw[D];exact R.symm
  have:=vQ E A g;rwa [lz,q_]at this
 have d:=dY.WN y r K h;rw[re]at d;have J:fj P f (F.args cs) (F.c4 (cs.drop F.dL)) a.down.rs a.down.H:=by
  unfold Bg at k
  cases u:a.down.pre with
  |none=>rw[u]at d;exact d
  |some q=>rw[u]at d k;exact d k
 exact J S ay w Z (by rw[←T];exact m) (W.trans B) l
theorem VS{P:Program}{f:FuncId}{F:db} : ∀{bp:List aB} {A:dY bp (ULift oM)} {acc:List J},
  (∀s:im bp,Mx bp s→uH (dY.oj bp A s).down.pre (fj P f (F.args (acc++im.gZ bp s)) (F.c4 ((acc++im.gZ bp s).drop F.dL)) (dY.oj bp A s).down.rs (dY.oj bp A s).down.H))→eP P f F bp [] A acc
 |[],A,acc,h=>by
  have:=h () trivial;simp only[im.gZ,lz]at this;exact this
 |k::bp,A,acc,h=>fun x=>VI fun b=>VS (bp:=bp) (A:=A x) (acc:=acc++[k.ab x]) fun s a=>by
  have:=h (x,s) ⟨b,a⟩;simp only[im.gZ,dY.oj]at this;simpa only[kj,BH]using this
def dY.part{α:Type 1} :(b a:List aB)→dY (b++a) α→im b→dY a α
 |[],_,f,_=>f
 |_::b,a,f,s=>dY.part b a (f s.1) s.2
def VH:List Bool→(a:List aB)→im a→Prop
 |_,[],_=>True
 |b,k::a,s=>(b.headD true=true→Gu k s.1)∧VH b.tail a s.2
theorem aiT{b:Bool}{k:aB}{x:k.ty}{p:Prop}(h:(b=true→Gu k x)→p):yI b k x p:=by
 cases b with
 |true=>exact VI fun q=>h fun _=>q
 |false=>cases k<;>exact h fun e=>by cases e
theorem jv{P:Program}{f:FuncId}{F:db}{a:List aB} : ∀{bp:List aB} {cq:List Bool} {A:dY (bp++a) (ULift oM)} {acc:List J},
  (∀s:im bp,VH cq bp s→eP P f F a (cq.drop bp.length) (dY.part bp a A s) (acc++im.gZ bp s))→eP P f F (bp++a) cq A acc
 |[],cq,A,acc,h=>by
  have:=h () trivial;simp only[im.gZ,lz,hs,List.drop_zero]at this;exact this
 |k::bp,cq,A,acc,h=>fun x=>aiT fun c=>jv (bp:=bp) (cq:=cq.tail) (A:=A x) (acc:=acc++[k.ab x]) fun s b=>by
  have:=h (x,s) ⟨c,b⟩;simp only[im.gZ]at this;have e:cq.drop (k::bp).length=cq.tail.drop bp.length:=by simp
  rw[e]at this;rw[kj,BH];exact this
end Go.ah
namespace Go.Proofs.YtfmgjpcmcjjoiaaGreatDoor
open Go Go.RowKit Go.ah
abbrev oF(n:FuncId)(F:a6):Prop:=Gx Tryz.prog n F.ee _ (F.ee.flatMap dr.cq) F.f []
abbrev aiz(n:FuncId)(F:b5):Prop:=BR Tryz.prog n F _ (F.ee.flatMap dr.cq) F.f []
abbrev fV(n:FuncId)(F:db):Prop:=eP Tryz.prog n F _ (F.ee.flatMap dr.cq) F.f []
abbrev bg(n:FuncId)(F:a6):Prop:=BV Tryz.prog n F.gY
abbrev dB(n:FuncId)(F:b5):Prop:=jc Tryz.prog n F.gY
abbrev fW(n:FuncId)(F:db):Prop:=jc Tryz.prog n F.gY
end Go.Proofs.YtfmgjpcmcjjoiaaGreatDoor
namespace Go.Proofs.YtfmgjpcmcjjoiaaGreatDoor
open Go Go.ah
noncomputable abbrev VK:cF:=⟨Int,inferInstance,1,bl,d3,aon⟩
noncomputable abbrev cX:cF:=⟨br,inferInstance,2,fz,d160,aok⟩
noncomputable abbrev bL:cF:=⟨ByteArray,inferInstance,1,cK,d9,aoy⟩
noncomputable abbrev cO:cF:=⟨bO,inferInstance,2,fA,d164,aol⟩
noncomputable abbrev a_:cF:=⟨aj,inferInstance,8,fZ,d175,aom⟩
noncomputable abbrev bP:cF:=⟨aG,inferInstance,7,gK,d137,aoj⟩
noncomputable abbrev c6:cF:=⟨aI,inferInstance,10,dU,d68,aow⟩
noncomputable abbrev a8:cF:=⟨Int,inferInstance,1,cQ,d5,aov⟩
noncomputable abbrev VL:cF:=⟨(A Int),inferInstance,1,Yd,d43,aou⟩
noncomputable abbrev yL:cF:=⟨b7,inferInstance,20,O8,d122,aoi⟩
noncomputable abbrev gI:cF:=⟨F,inferInstance,10,Ye,d75,aox⟩
noncomputable abbrev rm:cF:=⟨dg,inferInstance,11,tv,XX,aoq⟩
noncomputable abbrev gr:cF:=⟨a7,inferInstance,12,vI,XV,aoo⟩
noncomputable abbrev ct:cF:=⟨aJ,inferInstance,2,vJ,XW,aop⟩
noncomputable abbrev cV:cF:=⟨hI,inferInstance,9,Yc,XZ,aos⟩
noncomputable abbrev ca:cF:=⟨O,inferInstance,15,iu,XY,aor⟩
noncomputable abbrev pK:cF:=⟨dE,inferInstance,8,e_,bZ,aot⟩
noncomputable def vK:List (Nat×cF):=[(3,VK),(130,cX),(9,bL),(133,cO),(127,a_),(135,bP),(53,c6),(5,a8),(83,VL),(166,yL),(38,gI),(51,rm),(101,gr),(105,ct),(147,cV),(117,ca),(73,pK)]
noncomputable def afY(l:List (Nat×mR)):cb:=cb.of Tryz.prog hG vK l 0 []
theorem b4{l:List (Nat×mR)}(h:pS Tryz.prog l):(afY l).env.dq:=cb.agn mixed Vf OS h trivial
noncomputable def afZ(m:Nat)(l:List (Nat×mR))(a:List (Nat×mS)):cb:=cb.of Tryz.prog hG vK l m a
theorem ayr{m:Nat}{l:List (Nat×mR)}{a:List (Nat×mS)}(h:pS Tryz.prog l)(b:rA Tryz.prog a):(afZ m l a).env.dq:=cb.agn mixed Vf OS h b
noncomputable abbrev amp:cb:=afY []
theorem e7:amp.env.dq:=b4 trivial
end Go.Proofs.YtfmgjpcmcjjoiaaGreatDoor
namespace Go.ah
def cm.ad{R:List aB}(h:cm R):cm R:=.s .z h
theorem bf{X:cb}{f:FuncId}{b:Func}{c:Code}{a:List J}{r:J}(R:cI)(h:cm R.b_)(p:Prop)(d:X.env.dq)(j:X.P.funcs[f]?=some b)(k:p)(ms:List ja:=[])(i:b.body=some c:=by exact rfl)(g:R.rs=b.results.toList:=by exact rfl)(e:((qW X R c h ms ⟨a++List.replicate (b.ntmps-a.length) .undef,[]⟩).1.prop,(qW X R c h ms ⟨a++List.replicate (b.ntmps-a.length) .undef,[]⟩).1.g9,(qW X R c h ms ⟨a++List.replicate (b.ntmps-a.length) .undef,[]⟩).2)=(p,(qW X R c h ms ⟨a++List.replicate (b.ntmps-a.length) .undef,[]⟩).1.hS,r):=by kernel_rfl):cY X.P f a r:=aAH d j i g e k
theorem dA{X:cb}{f:FuncId}{b:Func}{c:Code}{a:List J}{H:Heap}{rs:List J}{al:Heap}(R:cI)(h:cm R.b_)(p:Prop)(d:X.env.dq)(j:X.P.funcs[f]?=some b)(l:p)(ms:List ja:=[])(i:b.body=some c:=by exact rfl)(g:R.rs=b.results.toList:=by exact rfl)(k:Nat.ble H.length X.m=true:=by exact rfl)(e:((mC X R c h ms ⟨a++List.replicate (b.ntmps-a.length) .undef,H⟩).1.prop,(mC X R c h ms ⟨a++List.replicate (b.ntmps-a.length) .undef,H⟩).1.g9,(mC X R c h ms ⟨a++List.replicate (b.ntmps-a.length) .undef,H⟩).2)=(p,(mC X R c h ms ⟨a++List.replicate (b.ntmps-a.length) .undef,H⟩).1.hS,⟨rs,al⟩):=by kernel_rfl):fj X.P f a H rs al:=adQ d j i g k e l
theorem ei{X:cb}{f:FuncId}{b:Func}{c:Code}{a:List J}{H:Heap}{rs:List J}{al:Heap}(R:cI)(h:cm R.b_)(p:Prop)(d:X.env.dq)(j:X.P.funcs[f]?=some b)(ms:List ja)(k:Nat.ble H.length X.m=true)(e:((mC X R c h ms ⟨a++List.replicate (b.ntmps-a.length) .undef,H⟩).1.prop,(mC X R c h ms ⟨a++List.replicate (b.ntmps-a.length) .undef,H⟩).1.g9,(mC X R c h ms ⟨a++List.replicate (b.ntmps-a.length) .undef,H⟩).2)=(p,(mC X R c h ms ⟨a++List.replicate (b.ntmps-a.length) .undef,H⟩).1.hS,⟨rs,al⟩))(l:p)(i:b.body=some c:=by exact rfl)(g:R.rs=b.results.toList:=by exact rfl):fj X.P f a H rs al:=adQ d j i g k e l
end Go.ah
namespace Go.Proofs.YtfmgjpcmcjjoiaaGreatDoor
open Go Go.RowKit Go.ah
theorem aw{n:Nat}{a:mR}{l:List (Nat×mR)}(k:BV Tryz.prog n a)(h:pS Tryz.prog l):pS Tryz.prog ((n,a)::l):=⟨k,h⟩
theorem aT:pS Tryz.prog []:=trivial
theorem av{n:Nat}{a:mS}{l:List (Nat×mS)}(k:jc Tryz.prog n a)(h:rA Tryz.prog l):rA Tryz.prog ((n,a)::l):=⟨k,h⟩
theorem bJ:rA Tryz.prog []:=trivial
theorem bK(m:Nat){l:List (Nat×mR)}{a:List (Nat×mS)}(h:pS Tryz.prog l)(b:rA Tryz.prog a):(afZ m l a).env.dq:=ayr h b
theorem bj{n:FuncId}{F:a6}{a:Func}{c:Code}(h:Tryz.prog.funcs[n]?=some a)(p:oF n F)(b:a.body=some c:=by exact rfl)(d:(a.name== "runtime.NumGoroutine")=false:=by kernel_rfl):bg n F:=a6.ok ⟨a,c,h,b,d⟩ p
theorem dI{n:FuncId}{F:b5}{a:Func}{c:Code}(h:Tryz.prog.funcs[n]?=some a)(p:aiz n F)(b:a.body=some c:=by exact rfl)(e:(a.name== "runtime.NumGoroutine")=false:=by kernel_rfl)(d:(F.jK.all fun k=>match k.1 with|.h _ _=>true|_=>false)=true:=by kernel_rfl):dB n F:=b5.ok ⟨a,c,h,b,e⟩ d p
theorem gq{n:FuncId}{F:db}{a:Func}{c:Code}(e:∀H,∀c∈F.gt H,∃b o,c=I H b o)(h:Tryz.prog.funcs[n]?=some a)(p:fV n F)(d:a.body=some c:=by exact rfl)(f:(a.name== "runtime.NumGoroutine")=false:=by kernel_rfl):fW n F:=db.ok ⟨a,c,h,d,f⟩ e p
theorem azF(d:A aI):cY Tryz.prog 35 [aH 10 dU d] (.ae false 10 d.n (fun i=>dU (d.at' i))):=by
 refine cY.jz fun b=> ?_;have c:ft (aH 10 dU d):=b.1;have f:d.n≤549755813888:=c.len;refine uV (E:=x5 []) (g5 trivial) Tryz.func35 rfl _ _ ?_;refine WP.step (g5 trivial) ⟨[aH 10 dU d,U,.aE,U,U,U,U,U],[]⟩ (((d.n=d.n∧ ∀i,i<d.n→dU (d.at' i)=dU (d.at' i))∧((.aE:J)= .aE)∧True)∧True∧true=true) (by kernel_rfl) ⟨⟨⟨rfl,fun _ _=>rfl⟩,rfl,trivial⟩,trivial,rfl⟩ ?_;refine WP.E7 ⟨[aH 10 dU d,U,.aE,U,U,U,U,U],[]⟩ ?_ ?_
 ·refine WP.CA (T:=41) (g5 (l:=[]) trivial) rfl rfl rfl rfl rfl rfl rfl rfl rfl (by show 3<8;omega) fun q e=> ?_;refine WP.Cn q rfl (fun h=> ?_) (fun h=> ?_)
  ·refine WP.step (g5 trivial) ⟨[aH 10 dU d,U,.aE,U,U,U,U,U],[]⟩ (((d.n=d.n∧ ∀i,i<d.n→dU (d.at' i)=dU (d.at' i))∧((.aE:J)= .aE)∧True)∧True∧true=true) (by kernel_rfl) ⟨⟨⟨rfl,fun _ _=>rfl⟩,rfl,trivial⟩,trivial,rfl⟩ ?_;exact WP.py (True∧(d.n=0)) (by kernel_rfl) ⟨trivial,e h⟩
  ·exact WP.F4 (((d.n=d.n∧ ∀i,i<d.n→dU (d.at' i)=dU (d.at' i))∧((.aE:J)= .aE)∧True)∧True∧true=true) (by kernel_rfl) ⟨⟨⟨rfl,fun _ _=>rfl⟩,rfl,trivial⟩,trivial,rfl⟩
 ·refine WP.step (g5 trivial) ⟨[aH 10 dU d,U,.own 0 d.n,U,U,U,U,U],[[.ae false 10 d.n (fun i=>dU (d.at' i))]]⟩ (∃h:Nat→List J,(∀i,i<0→kc (([]:List (List J)).getD i []) (h i))∧((0:Nat)=0)∧(0+d.n≤549755813888)∧ ∃a:Nat→List J,(∀i,i<0+d.n→hJ 0 h (fun i=>dU (d.at' i)) i=a i)∧(((d.n=d.n∧ ∀i,i<d.n→dU (d.at' i)=dU (d.at' i))∧((.own 0 (0+d.n):J)= .own 0 d.n)∧True)∧(((0+d.n=d.n∧ ∀i,i<d.n→kc (a i) (dU (d.at' i)))∧True)∧True)∧true=true)) (by kernel_rfl)
   ⟨fun _=>[],fun i h=>absurd h (eH i),rfl,by omega,fun i=>dU (d.at' i),fun i _=>B1 _ _ i,⟨⟨rfl,fun _ _=>rfl⟩,(by rw[cN]),trivial⟩,⟨⟨⟨cN _,fun _ _=>x_ _⟩,trivial⟩,trivial⟩,rfl⟩ ?_
  exact WP.py (True∧((d.n:Nat)=d.n∧d.n=d.n∧ ∀i,i<d.n→dU (d.at' i)=dU (d.at' i))) (by kernel_rfl) ⟨trivial,rfl,rfl,fun _ _=>rfl⟩
theorem azG(d:A Int):cY Tryz.prog 127 [aH 1 cQ d] (.ae false 1 d.n (fun i=>cQ (d.at' i))):=by
 refine cY.jz fun b=> ?_;have c:ft (aH 1 cQ d):=b.1;have f:d.n≤549755813888:=c.len;refine uV (E:=x5 []) (g5 trivial) Tryz.func127 rfl _ _ ?_;refine WP.step (g5 trivial) ⟨[aH 1 cQ d,U,.aE,U,U,U,U,U],[]⟩ (((d.n=d.n∧ ∀i,i<d.n→cQ (d.at' i)=cQ (d.at' i))∧((.aE:J)= .aE)∧True)∧True∧true=true) (by kernel_rfl) ⟨⟨⟨rfl,fun _ _=>rfl⟩,rfl,trivial⟩,trivial,rfl⟩ ?_;refine WP.E7 ⟨[aH 1 cQ d,U,.aE,U,U,U,U,U],[]⟩ ?_ ?_
 ·refine WP.CA (T:=83) (g5 (l:=[]) trivial) rfl rfl rfl rfl rfl rfl rfl rfl rfl (by show 3<8;omega) fun q e=> ?_;refine WP.Cn q rfl (fun h=> ?_) (fun h=> ?_)
  ·refine WP.step (g5 trivial) ⟨[aH 1 cQ d,U,.aE,U,U,U,U,U],[]⟩ (((d.n=d.n∧ ∀i,i<d.n→cQ (d.at' i)=cQ (d.at' i))∧((.aE:J)= .aE)∧True)∧True∧true=true) (by kernel_rfl) ⟨⟨⟨rfl,fun _ _=>rfl⟩,rfl,trivial⟩,trivial,rfl⟩ ?_;exact WP.py (True∧(d.n=0)) (by kernel_rfl) ⟨trivial,e h⟩
  ·exact WP.F4 (((d.n=d.n∧ ∀i,i<d.n→cQ (d.at' i)=cQ (d.at' i))∧((.aE:J)= .aE)∧True)∧True∧true=true) (by kernel_rfl) ⟨⟨⟨rfl,fun _ _=>rfl⟩,rfl,trivial⟩,trivial,rfl⟩
 ·refine WP.step (g5 trivial) ⟨[aH 1 cQ d,U,.own 0 d.n,U,U,U,U,U],[[.ae false 1 d.n (fun i=>cQ (d.at' i))]]⟩ (∃h:Nat→List J,(∀i,i<0→kc (([]:List (List J)).getD i []) (h i))∧((0:Nat)=0)∧(0+d.n≤549755813888)∧ ∃a:Nat→List J,(∀i,i<0+d.n→hJ 0 h (fun i=>cQ (d.at' i)) i=a i)∧(((d.n=d.n∧ ∀i,i<d.n→cQ (d.at' i)=cQ (d.at' i))∧((.own 0 (0+d.n):J)= .own 0 d.n)∧True)∧(((0+d.n=d.n∧ ∀i,i<d.n→kc (a i) (cQ (d.at' i)))∧True)∧True)∧true=true)) (by kernel_rfl)
   ⟨fun _=>[],fun i h=>absurd h (eH i),rfl,by omega,fun i=>cQ (d.at' i),fun i _=>B1 _ _ i,⟨⟨rfl,fun _ _=>rfl⟩,(by rw[cN]),trivial⟩,⟨⟨⟨cN _,fun _ _=>x_ _⟩,trivial⟩,trivial⟩,rfl⟩ ?_
  exact WP.py (True∧((d.n:Nat)=d.n∧d.n=d.n∧ ∀i,i<d.n→cQ (d.at' i)=cQ (d.at' i))) (by kernel_rfl) ⟨trivial,rfl,rfl,fun _ _=>rfl⟩
theorem azJ(d:A br):cY Tryz.prog 47 [aH 2 fz d] (.ae false 2 d.n (fun i=>fz (d.at' i))):=by
 refine cY.jz fun b=> ?_;have c:ft (aH 2 fz d):=b.1;have f:d.n≤549755813888:=c.len;refine uV (E:=x5 []) (g5 trivial) Tryz.func47 rfl _ _ ?_;refine WP.step (g5 trivial) ⟨[aH 2 fz d,U,.aE,U,U,U,U,U],[]⟩ (((d.n=d.n∧ ∀i,i<d.n→fz (d.at' i)=fz (d.at' i))∧((.aE:J)= .aE)∧True)∧True∧true=true) (by kernel_rfl) ⟨⟨⟨rfl,fun _ _=>rfl⟩,rfl,trivial⟩,trivial,rfl⟩ ?_;refine WP.E7 ⟨[aH 2 fz d,U,.aE,U,U,U,U,U],[]⟩ ?_ ?_
 ·refine WP.CA (T:=122) (g5 (l:=[]) trivial) rfl rfl rfl rfl rfl rfl rfl rfl rfl (by show 3<8;omega) fun q e=> ?_;refine WP.Cn q rfl (fun h=> ?_) (fun h=> ?_)
  ·refine WP.step (g5 trivial) ⟨[aH 2 fz d,U,.aE,U,U,U,U,U],[]⟩ (((d.n=d.n∧ ∀i,i<d.n→fz (d.at' i)=fz (d.at' i))∧((.aE:J)= .aE)∧True)∧True∧true=true) (by kernel_rfl) ⟨⟨⟨rfl,fun _ _=>rfl⟩,rfl,trivial⟩,trivial,rfl⟩ ?_;exact WP.py (True∧(d.n=0)) (by kernel_rfl) ⟨trivial,e h⟩
  ·exact WP.F4 (((d.n=d.n∧ ∀i,i<d.n→fz (d.at' i)=fz (d.at' i))∧((.aE:J)= .aE)∧True)∧True∧true=true) (by kernel_rfl) ⟨⟨⟨rfl,fun _ _=>rfl⟩,rfl,trivial⟩,trivial,rfl⟩
 ·refine WP.step (g5 trivial) ⟨[aH 2 fz d,U,.own 0 d.n,U,U,U,U,U],[[.ae false 2 d.n (fun i=>fz (d.at' i))]]⟩ (∃h:Nat→List J,(∀i,i<0→kc (([]:List (List J)).getD i []) (h i))∧((0:Nat)=0)∧(0+d.n≤549755813888)∧ ∃a:Nat→List J,(∀i,i<0+d.n→hJ 0 h (fun i=>fz (d.at' i)) i=a i)∧(((d.n=d.n∧ ∀i,i<d.n→fz (d.at' i)=fz (d.at' i))∧((.own 0 (0+d.n):J)= .own 0 d.n)∧True)∧(((0+d.n=d.n∧ ∀i,i<d.n→kc (a i) (fz (d.at' i)))∧True)∧True)∧true=true)) (by kernel_rfl)
   ⟨fun _=>[],fun i h=>absurd h (eH i),rfl,by omega,fun i=>fz (d.at' i),fun i _=>B1 _ _ i,⟨⟨rfl,fun _ _=>rfl⟩,(by rw[cN]),trivial⟩,⟨⟨⟨cN _,fun _ _=>x_ _⟩,trivial⟩,trivial⟩,rfl⟩ ?_
  exact WP.py (True∧((d.n:Nat)=d.n∧d.n=d.n∧ ∀i,i<d.n→fz (d.at' i)=fz (d.at' i))) (by kernel_rfl) ⟨trivial,rfl,rfl,fun _ _=>rfl⟩
theorem azK(d:A z):cY Tryz.prog 32 [aH 1 cK d] (.ae false 1 d.n (fun i=>cK (d.at' i))):=by
 refine cY.jz fun b=> ?_;have c:ft (aH 1 cK d):=b.1;have f:d.n≤549755813888:=c.len;refine uV (E:=x5 []) (g5 trivial) Tryz.func32 rfl _ _ ?_;refine WP.step (g5 trivial) ⟨[aH 1 cK d,U,.aE,U,U,U,U,U],[]⟩ (((d.n=d.n∧ ∀i,i<d.n→cK (d.at' i)=cK (d.at' i))∧((.aE:J)= .aE)∧True)∧True∧true=true) (by kernel_rfl) ⟨⟨⟨rfl,fun _ _=>rfl⟩,rfl,trivial⟩,trivial,rfl⟩ ?_;refine WP.E7 ⟨[aH 1 cK d,U,.aE,U,U,U,U,U],[]⟩ ?_ ?_
 ·refine WP.CA (T:=97) (g5 (l:=[]) trivial) rfl rfl rfl rfl rfl rfl rfl rfl rfl (by show 3<8;omega) fun q e=> ?_;refine WP.Cn q rfl (fun h=> ?_) (fun h=> ?_)
  ·refine WP.step (g5 trivial) ⟨[aH 1 cK d,U,.aE,U,U,U,U,U],[]⟩ (((d.n=d.n∧ ∀i,i<d.n→cK (d.at' i)=cK (d.at' i))∧((.aE:J)= .aE)∧True)∧True∧true=true) (by kernel_rfl) ⟨⟨⟨rfl,fun _ _=>rfl⟩,rfl,trivial⟩,trivial,rfl⟩ ?_;exact WP.py (True∧(d.n=0)) (by kernel_rfl) ⟨trivial,e h⟩
  ·exact WP.F4 (((d.n=d.n∧ ∀i,i<d.n→cK (d.at' i)=cK (d.at' i))∧((.aE:J)= .aE)∧True)∧True∧true=true) (by kernel_rfl) ⟨⟨⟨rfl,fun _ _=>rfl⟩,rfl,trivial⟩,trivial,rfl⟩
 ·refine WP.step (g5 trivial) ⟨[aH 1 cK d,U,.own 0 d.n,U,U,U,U,U],[[.ae false 1 d.n (fun i=>cK (d.at' i))]]⟩ (∃h:Nat→List J,(∀i,i<0→kc (([]:List (List J)).getD i []) (h i))∧((0:Nat)=0)∧(0+d.n≤549755813888)∧ ∃a:Nat→List J,(∀i,i<0+d.n→hJ 0 h (fun i=>cK (d.at' i)) i=a i)∧(((d.n=d.n∧ ∀i,i<d.n→cK (d.at' i)=cK (d.at' i))∧((.own 0 (0+d.n):J)= .own 0 d.n)∧True)∧(((0+d.n=d.n∧ ∀i,i<d.n→kc (a i) (cK (d.at' i)))∧True)∧True)∧true=true)) (by kernel_rfl)
   ⟨fun _=>[],fun i h=>absurd h (eH i),rfl,by omega,fun i=>cK (d.at' i),fun i _=>B1 _ _ i,⟨⟨rfl,fun _ _=>rfl⟩,(by rw[cN]),trivial⟩,⟨⟨⟨cN _,fun _ _=>x_ _⟩,trivial⟩,trivial⟩,rfl⟩ ?_
  exact WP.py (True∧((d.n:Nat)=d.n∧d.n=d.n∧ ∀i,i<d.n→cK (d.at' i)=cK (d.at' i))) (by kernel_rfl) ⟨trivial,rfl,rfl,fun _ _=>rfl⟩
theorem azL(d:A bO):cY Tryz.prog 48 [aH 2 fA d] (.ae false 2 d.n (fun i=>fA (d.at' i))):=by
 refine cY.jz fun b=> ?_;have c:ft (aH 2 fA d):=b.1;have f:d.n≤549755813888:=c.len;refine uV (E:=x5 []) (g5 trivial) Tryz.func48 rfl _ _ ?_;refine WP.step (g5 trivial) ⟨[aH 2 fA d,U,.aE,U,U,U,U,U],[]⟩ (((d.n=d.n∧ ∀i,i<d.n→fA (d.at' i)=fA (d.at' i))∧((.aE:J)= .aE)∧True)∧True∧true=true) (by kernel_rfl) ⟨⟨⟨rfl,fun _ _=>rfl⟩,rfl,trivial⟩,trivial,rfl⟩ ?_;refine WP.E7 ⟨[aH 2 fA d,U,.aE,U,U,U,U,U],[]⟩ ?_ ?_
 ·refine WP.CA (T:=123) (g5 (l:=[]) trivial) rfl rfl rfl rfl rfl rfl rfl rfl rfl (by show 3<8;omega) fun q e=> ?_;refine WP.Cn q rfl (fun h=> ?_) (fun h=> ?_)
  ·refine WP.step (g5 trivial) ⟨[aH 2 fA d,U,.aE,U,U,U,U,U],[]⟩ (((d.n=d.n∧ ∀i,i<d.n→fA (d.at' i)=fA (d.at' i))∧((.aE:J)= .aE)∧True)∧True∧true=true) (by kernel_rfl) ⟨⟨⟨rfl,fun _ _=>rfl⟩,rfl,trivial⟩,trivial,rfl⟩ ?_;exact WP.py (True∧(d.n=0)) (by kernel_rfl) ⟨trivial,e h⟩
  ·exact WP.F4 (((d.n=d.n∧ ∀i,i<d.n→fA (d.at' i)=fA (d.at' i))∧((.aE:J)= .aE)∧True)∧True∧true=true) (by kernel_rfl) ⟨⟨⟨rfl,fun _ _=>rfl⟩,rfl,trivial⟩,trivial,rfl⟩
 ·refine WP.step (g5 trivial) ⟨[aH 2 fA d,U,.own 0 d.n,U,U,U,U,U],[[.ae false 2 d.n (fun i=>fA (d.at' i))]]⟩ (∃h:Nat→List J,(∀i,i<0→kc (([]:List (List J)).getD i []) (h i))∧((0:Nat)=0)∧(0+d.n≤549755813888)∧ ∃a:Nat→List J,(∀i,i<0+d.n→hJ 0 h (fun i=>fA (d.at' i)) i=a i)∧(((d.n=d.n∧ ∀i,i<d.n→fA (d.at' i)=fA (d.at' i))∧((.own 0 (0+d.n):J)= .own 0 d.n)∧True)∧(((0+d.n=d.n∧ ∀i,i<d.n→kc (a i) (fA (d.at' i)))∧True)∧True)∧true=true)) (by kernel_rfl)
   ⟨fun _=>[],fun i h=>absurd h (eH i),rfl,by omega,fun i=>fA (d.at' i),fun i _=>B1 _ _ i,⟨⟨rfl,fun _ _=>rfl⟩,(by rw[cN]),trivial⟩,⟨⟨⟨cN _,fun _ _=>x_ _⟩,trivial⟩,trivial⟩,rfl⟩ ?_
  exact WP.py (True∧((d.n:Nat)=d.n∧d.n=d.n∧ ∀i,i<d.n→fA (d.at' i)=fA (d.at' i))) (by kernel_rfl) ⟨trivial,rfl,rfl,fun _ _=>rfl⟩
def ajs:a6:=⟨[.v (.af c6)],fun d=>⟨⟨none,(aB.ae c6).ab d⟩⟩⟩
theorem xN:bg 35 ajs:=bj Tryz.func35 fun d _ _=>azF d
def ajQ:a6:=⟨[.v (.af a8)],fun d=>⟨⟨none,(aB.ae a8).ab d⟩⟩⟩
theorem aeR:bg 127 ajQ:=bj Tryz.func127 fun d _ _=>azG d
def akA:a6:=⟨[.v (.af cX)],fun d=>⟨⟨none,(aB.ae cX).ab d⟩⟩⟩
theorem S4:bg 47 akA:=bj Tryz.func47 fun d _ _=>azJ d
def akB:a6:=⟨[.v (.af bL)],fun d=>⟨⟨none,(aB.ae bL).ab d⟩⟩⟩
theorem xP:bg 32 akB:=bj Tryz.func32 fun d _ _=>azK d
def akC:a6:=⟨[.v (.af cO)],fun d=>⟨⟨none,(aB.ae cO).ab d⟩⟩⟩
theorem S5:bg 48 akC:=bj Tryz.func48 fun d _ _=>azL d
def zQ(d g:z):Int:=Lib.compareBytes d.data.toList g.data.toList
theorem ay0:Extern.findNext Tryz.f211=none:=by kernel_rfl
theorem ao3:Extern.find Tryz.f211=some Extern.BytealgCompare.compare:=by kernel_rfl
theorem azH(d g:z):cY Tryz.prog 200 [.str d,.str g] (.int .i64 (zQ d g)):=by
 refine uV (E:=x5 []) (g5 trivial) Tryz.func200 rfl _ _ ?_;refine WP.step (g5 trivial) ⟨[.str d,.str g,U,U,U,U,U,U],[]⟩ ((((d:z)=d)∧((g:z)=g)∧True)∧True∧true=true) (by kernel_rfl) ⟨⟨rfl,rfl,trivial⟩,trivial,rfl⟩ ?_;refine WP.aoK (x:=d) (y:=g) (k:= .i64) (r:=zQ d g) rfl rfl rfl rfl rfl rfl rfl rfl rfl rfl rfl rfl rfl ⟨by decide,by decide⟩ ⟨by show 5<8;omega,by show 6<8;omega,by show 7<8;omega⟩ (fun ρ w f b c=> ?_) ?_
 ·have h:=Lib.run_compareString (P:=Tryz.prog) d g w;have e:Tryz.prog.funcs[211]? =some Tryz.f211:=Tryz.func211;have a:=run_callFunc_extern (P:=Tryz.prog) e (by kernel_rfl) rfl ay0 ao3 #[.string d,.string g] w;rw[h]at a;simp [execOp,resolve,Deferred.ofValue,invoke,f,b,c];exact a
 ·exact WP.py (True∧((.int .i64 (zQ d g):J)= .int .i64 (zQ d g))) (by kernel_rfl) ⟨trivial,rfl⟩
def akl:a6:=⟨[.v au,.v au],fun d g=>⟨⟨none,.int .i64 (zQ d g)⟩⟩⟩
theorem avD:bg 200 akl:=bj Tryz.func200 fun d _ g _=>azH d g
section
structure H where
 bm:Int
 up:Bool
 bU:Int
 ro:Int
 aX:Int
 dH:Int
 l:Int
 lt:Int
 li:A aI
 c8:Int
 gR:Int
 gS:Int
 fG:A aj
 gT:Int
 fF:A aG
 eO:Int
 eC:A aj
 et:Int
 eD:A aG
 co:Int
 v0:Bool
 v1:Bool
 v2:Bool
 eb:Int
 dF:Int
 dW:Int
 g6:Int
 q1:Int
 fp:Int
 ws:A hI
 bd:A Int
 bh:Int
 bS:A O
instance:Inhabited H:=⟨⟨default,default,default,default,default,default,default,default,default,default,default,default,default,default,default,default,default,default,default,default,default,default,default,default,default,default,default,default,default,default,default,default,default⟩⟩
structure kW where
 j:Int
 ai:Int
 K:Int
 an:z
 p:z
 v:z
 ax:Int
structure ak where
 a:H
 b:H
 c:H
 s:A O
 told:A a7
 a2:A aJ
def ak.Z(C:ak)(i:Nat):H:=match i with
 |0=>C.a
 |1=>C.b
 |_=>C.c
def ak.set(C:ak)(i:Nat)(n:H):ak:=match i with
 |0=>{C with a:=n}
 |1=>{C with b:=n}
 |_=>{C with c:=n}
def ak.put(C:ak)(i:Nat)(n:H)(E:A O)(B:A a7)(G:A aJ):ak:=match i with
 |0=>⟨n,C.b,C.c,E,B,G⟩
 |1=>⟨C.a,n,C.c,E,B,G⟩
 |_=>⟨C.a,C.b,n,E,B,G⟩
def qP(o:Nat):List (Key×aB):=[(.h 0 (o+0),a),(.h 0 (o+1),y),(.h 0 (o+2),a),(.h 0 (o+3),a),(.h 0 (o+4),a),(.h 0 (o+5),a),(.h 0 (o+6),a),(.h 0 (o+7),a),(.h 0 (o+8),.af c6),(.h 0 (o+9),a),(.h 0 (o+10),a),(.h 0 (o+11),a),(.h 0 (o+12),.af a_),(.h 0 (o+13),a),(.h 0 (o+14),.af bP),(.h 0 (o+15),a),(.h 0 (o+16),.af a_),(.h 0 (o+17),a),(.h 0 (o+18),.af bP),(.h 0 (o+19),a),(.h 0 (o+20),y),(.h 0 (o+21),y),(.h 0 (o+22),y),(.h 0 (o+23),a),(.h 0 (o+24),a),(.h 0 (o+25),a),(.h 0 (o+26),a),(.h 0 (o+27),a),(.h 0 (o+28),a),(.h 0 (o+30),.af a8),(.h 0 (o+31),a)]
def aK:List Nat:=[1,2,3,4,5,6,7,8,9]
def FN(i:Nat):Nat:=match i with
 |0=>1
 |_=>0
def FO(i:Nat):Nat:=match i with
 |2=>1
 |_=>2
variable(C:ak)(i:Nat)(ids:List Nat)(n:H)
def qS(i:Nat):List (Key×aB):=[(.h (ids.getD (2*i) 0) 0,.ae cV),(.h (ids.getD (2*i+1) 0) 0,.ae ca)]
def fy:List (Key×aB):=qP (33*i)++qP (33*FN i)++qP (33*FO i)++qS ids i++qS ids (FN i)++qS ids (FO i)++[(.h (ids.getD 6 0) 0,.ae ca),(.h (ids.getD 7 0) 0,.ae gr),(.h (ids.getD 8 0) 0,.ae ct)]
def x9(n:H)(w o:Nat):List J:=[b n.bm,.bool n.up,b n.bU,b n.ro,b n.aX,b n.dH,b n.l,b n.lt,aH 10 dU n.li,b n.c8,b n.gR,b n.gS,aH 8 fZ n.fG,b n.gT,aH 7 gK n.fF,b n.eO,aH 8 fZ n.eC,b n.et,aH 7 gK n.eD,b n.co,.bool n.v0,.bool n.v1,.bool n.v2,b n.eb,b n.dF,b n.dW,b n.g6,b n.q1,b n.fp,.own w (n.ws).n,aH 1 cQ n.bd,b n.bh,.own o (n.bS).n]
def posOf(b:Nat):List Nat→Nat→Option Nat
 |[],_=>none
 |x::l,k=>match Nat.beq x b with
  |true=>some k
  |false=>posOf b l (k+1)
def cj(ids:List Nat)(m:Nat)(C:ak):Heap:=ak.casesOn C fun a c d f e aW=>(x9 a (ids.getD 0 0) (ids.getD 1 0)++x9 c (ids.getD 2 0) (ids.getD 3 0)++x9 d (ids.getD 4 0) (ids.getD 5 0)++[.own (ids.getD 6 0) f.n,.own (ids.getD 7 0) e.n,.own (ids.getD 8 0) aW.n])::
 (List.range (9+m)).map fun b=>match posOf (b+1) ids 0 with
  |some p=>[([(aB.ae cV).ab a.ws,(aB.ae ca).ab a.bS,(aB.ae cV).ab c.ws,(aB.ae ca).ab c.bS,(aB.ae cV).ab d.ws,(aB.ae ca).ab d.bS,(aB.ae ca).ab f,(aB.ae gr).ab e,(aB.ae ct).ab aW]:List J).getD p .undef]
  |none=>[dn]
def afK:List (Nat×List J)→Nat→Option (List J)
 |[],_=>none
 |x::l,b=>match Nat.beq x.1 b with
  |true=>some x.2
  |false=>afK l b
def cn(ids:List Nat)(m:Nat)(C:ak)(ext:List (Nat×List J)):Heap:=ak.casesOn C fun a c d f e aW=>(x9 a (ids.getD 0 0) (ids.getD 1 0)++x9 c (ids.getD 2 0) (ids.getD 3 0)++x9 d (ids.getD 4 0) (ids.getD 5 0)++[.own (ids.getD 6 0) f.n,.own (ids.getD 7 0) e.n,.own (ids.getD 8 0) aW.n])::
 (List.range (9+m)).map fun b=>match posOf (b+1) ids 0 with
  |some p=>[([(aB.ae cV).ab a.ws,(aB.ae ca).ab a.bS,(aB.ae cV).ab c.ws,(aB.ae ca).ab c.bS,(aB.ae cV).ab d.ws,(aB.ae ca).ab d.bS,(aB.ae ca).ab f,(aB.ae gr).ab e,(aB.ae ct).ab aW]:List J).getD p .undef]
  |none=>match afK ext (b+1)with
   |some l=>l
   |none=>match Nat.ble b 8 with
    |true=>[dn]
    |false=>[]
abbrev b8:List aB:=[a,y,a,a,a,a,a,a,.af c6,a,a,a,.af a_,a,.af bP,a,.af a_,a,.af bP,a,y,y,y,a,a,a,a,a,a,.af a8,a,a,y,a,a,a,a,a,a,.af c6,a,a,a,.af a_,a,.af bP,a,.af a_,a,.af bP,a,y,y,y,a,a,a,a,a,a,.af a8,a,a,y,a,a,a,a,a,a,.af c6,a,a,a,.af a_,a,.af bP,a,.af a_,a,.af bP,a,y,y,y,a,a,a,a,a,a,.af a8,a,.ae cV,.ae ca,.ae cV,.ae ca,.ae cV,.ae ca,.ae ca,.ae gr,.ae ct]
def cB{α:Type 1}(G:ak→α):dY b8 α:=fun a b o z L W mT pT pU a9 c f g h i j k l m n p q r s t u v w x y A B C D E F H I J K M N O P Q R S T U V X Y Z NF NG NH NI NJ NK NL NM NN NO NP NQ NR NS NT NU NV NW NY NZ N0 N1 N2 N3 N4 N5 N6 N7 N8 N9 N_ Oa Ob Oc Od Oe Of Og Oh Oi Oj Ok Ol Om On Oo Oq d e=>G ⟨⟨a,b,o,z,L,W,mT,pT,pU,a9,c,f,g,h,i,j,k,l,m,n,p,q,r,s,t,u,v,w,x,Oj,y,A,Ok⟩,⟨B,C,D,E,F,H,I,J,K,M,N,O,P,Q,R,S,T,U,V,X,Y,Z,NF,NG,NH,NI,NJ,NK,NL,Ol,NM,NN,Om⟩,⟨NO,NP,NQ,NR,NS,NT,NU,NV,NW,NY,NZ,N0,N1,N2,N3,N4,N5,N6,N7,N8,N9,N_,Oa,Ob,Oc,Od,Oe,Of,Og,On,Oh,Oi,Oo⟩,Oq,d,e⟩
def R9:im b8:=(C.a.bm,C.a.up,C.a.bU,C.a.ro,C.a.aX,C.a.dH,C.a.l,C.a.lt,C.a.li,C.a.c8,C.a.gR,C.a.gS,C.a.fG,C.a.gT,C.a.fF,C.a.eO,C.a.eC,C.a.et,C.a.eD,C.a.co,C.a.v0,C.a.v1,C.a.v2,C.a.eb,C.a.dF,C.a.dW,C.a.g6,C.a.q1,C.a.fp,C.a.bd,C.a.bh,C.b.bm,C.b.up,C.b.bU,C.b.ro,C.b.aX,C.b.dH,C.b.l,C.b.lt,C.b.li,C.b.c8,C.b.gR,C.b.gS,C.b.fG,C.b.gT,C.b.fF,C.b.eO,C.b.eC,C.b.et,C.b.eD,C.b.co,C.b.v0,C.b.v1,C.b.v2,C.b.eb,C.b.dF,C.b.dW,C.b.g6,C.b.q1,C.b.fp,C.b.bd,C.b.bh,C.c.bm,C.c.up,C.c.bU,C.c.ro,C.c.aX,C.c.dH,C.c.l,C.c.lt,C.c.li,C.c.c8,C.c.gR,C.c.gS,C.c.fG,C.c.gT,C.c.fF,C.c.eO,C.c.eC,C.c.et,C.c.eD,C.c.co,C.c.v0,C.c.v1,C.c.v2,C.c.eb,C.c.dF,C.c.dW,C.c.g6,C.c.q1,C.c.fp,C.c.bd,C.c.bh,C.a.ws,C.a.bS,C.b.ws,C.b.bS,C.c.ws,C.c.bS,C.s,C.told,C.a2,())
def O0(s:im b8):ak:=match s with
 |(a,b,o,A,L,W,mT,pT,pU,a9,c,f,g,h,i,j,k,l,m,n,p,q,r,t,u,v,w,x,y,z,B,C,D,E,F,G,H,I,J,K,M,N,O,P,Q,R,S,T,U,V,X,Y,Z,NF,NG,NH,NI,NJ,NK,NL,NM,NN,NO,NP,NQ,NR,NS,NT,NU,NV,NW,NY,NZ,N0,N1,N2,N3,N4,N5,N6,N7,N8,N9,N_,Oa,Ob,Oc,Od,Oe,Of,Og,Oh,Oi,Oj,Ok,Ol,Om,On,Oo,Oq,d,e,_)=>⟨⟨a,b,o,A,L,W,mT,pT,pU,a9,c,f,g,h,i,j,k,l,m,n,p,q,r,t,u,v,w,x,y,Oj,z,B,Ok⟩,⟨C,D,E,F,G,H,I,J,K,M,N,O,P,Q,R,S,T,U,V,X,Y,Z,NF,NG,NH,NI,NJ,NK,NL,Ol,NM,NN,Om⟩,⟨NO,NP,NQ,NR,NS,NT,NU,NV,NW,NY,NZ,N0,N1,N2,N3,N4,N5,N6,N7,N8,N9,N_,Oa,Ob,Oc,Od,Oe,Of,Og,On,Oh,Oi,Oo⟩,Oq,d,e⟩
def h3:List J:=im.gZ b8 (R9 C)
theorem adX(s:im b8):R9 (O0 s)=s:=rfl
theorem as2{α:Type 1}(G:ak→α)(s:im b8):dY.oj b8 (cB G) s=G (O0 s):=by kernel_rfl
def fv(n:H):Prop:=n.li.n≤549755813888∧n.fG.n≤549755813888∧n.fF.n≤549755813888∧n.eC.n≤549755813888∧n.eD.n≤549755813888∧n.ws.n≤549755813888∧n.bd.n≤549755813888∧n.bS.n≤549755813888
def ey(C:ak):Prop:=fv C.a∧fv C.b∧fv C.c∧C.s.n≤549755813888∧C.told.n≤549755813888∧C.a2.n≤549755813888
theorem anM(C:ak)(h:Mx b8 (R9 C)):ey C:=by
 have h:True∧True∧True∧True∧True∧True∧True∧True∧C.a.li.n≤549755813888∧True∧True∧True∧C.a.fG.n≤549755813888∧True∧C.a.fF.n≤549755813888∧True∧C.a.eC.n≤549755813888∧True∧C.a.eD.n≤549755813888∧True∧True∧True∧True∧True∧True∧True∧True∧True∧True∧C.a.bd.n≤549755813888∧True∧True∧True∧True∧True∧True∧True∧True∧True∧C.b.li.n≤549755813888∧True∧True∧True∧C.b.fG.n≤549755813888∧True∧C.b.fF.n≤549755813888∧True∧C.b.eC.n≤549755813888∧True∧C.b.eD.n≤549755813888∧True∧True∧True∧True∧True∧True∧True∧True∧True∧True∧C.b.bd.n≤549755813888∧True∧True∧True∧True∧True∧True∧True∧True∧True∧C.c.li.n≤549755813888∧True∧True∧True∧C.c.fG.n≤549755813888∧True∧C.c.fF.n≤549755813888∧True∧C.c.eC.n≤549755813888∧True∧C.c.eD.n≤549755813888∧True∧True∧True∧True∧True∧True∧True∧True∧True∧True∧C.c.bd.n≤549755813888∧True∧C.a.ws.n≤549755813888∧C.a.bS.n≤549755813888∧C.b.ws.n≤549755813888∧C.b.bS.n≤549755813888∧C.c.ws.n≤549755813888∧C.c.bS.n≤549755813888∧C.s.n≤549755813888∧C.told.n≤549755813888∧C.a2.n≤549755813888∧True:=h;obtain⟨_,_,_,_,_,_,_,_,s,_,_,_,c,_,d,_,e,_,f,_,_,_,_,_,_,_,_,_,_,g,_,_,_,_,_,_,_,_,_,i,_,_,_,j,_,k,_,l,_,m,_,_,_,_,_,_,_,_,_,_,n,_,_,_,_,_,_,_,_,_,o,_,_,_,p,_,q,_,r,_,t,_,_,_,_,_,_,_,_,_,_,u,_,v,w,x,y,z,A,B,a,b,_⟩:=h;exact⟨⟨s,c,d,e,f,v,g,w⟩,⟨i,j,k,l,m,x,n,y⟩,⟨o,p,q,r,t,z,u,A⟩,B,a,b⟩
theorem gQ{C:ak}(h:ey C): ∀i,i<3→fv (C.Z i):=by
 intro i a;rcases b3 a with rfl|rfl|rfl
 ·exact h.1
 ·exact h.2.1
 ·exact h.2.2.1
def FQ:J→Nat
 | .ae _ _ n _=>n
 |_=>0
def TH(l:List J)(w o:J)(b a:Nat):List J:=l.take 29++ .own b (FQ w)::((l.drop 29).take 2++[.own a (FQ o)])
def vD(ids:List Nat)(m:Nat)(a b c w:List J):Heap:=
 (TH a (w.getD 0 .undef) (w.getD 1 .undef) (ids.getD 0 0) (ids.getD 1 0)++TH b (w.getD 2 .undef) (w.getD 3 .undef) (ids.getD 2 0) (ids.getD 3 0)++TH c (w.getD 4 .undef) (w.getD 5 .undef) (ids.getD 4 0) (ids.getD 5 0)++[.own (ids.getD 6 0) (FQ (w.getD 6 .undef)),.own (ids.getD 7 0) (FQ (w.getD 7 .undef)),.own (ids.getD 8 0) (FQ (w.getD 8 .undef))])::
 (List.range (9+m)).map fun b=>match posOf (b+1) ids 0 with
  |some p=>[w.getD p .undef]
  |none=>[dn]
def eL(cs:List J):Heap:=vD aK 0 (cs.take 31) ((cs.drop 31).take 31) ((cs.drop 62).take 31) (cs.drop 93)
def qU(l:List J):List J:=l.take 29++(l.drop 30).take 2
def er(H:Heap):List J:=qU (H.getD 0 [])++(qU ((H.getD 0 []).drop 33)++(qU ((H.getD 0 []).drop 66)++[I H 1 0,I H 2 0,I H 3 0,I H 4 0,I H 5 0,I H 6 0,I H 7 0,I H 8 0,I H 9 0]))
theorem R5{H:Heap}{c:J}(h:c∈H.getD 0 []): ∃b o,c=I H b o:=by
 obtain⟨o,a⟩:=pI h;exact⟨0,o,by
  unfold I;rw[show(H.getD 0 []).getD o J.undef=((H.getD 0 [])[o]?).getD J.undef from rfl,a];rfl⟩
theorem Ut{l:List J}{c:J}(h:c∈qU l):c∈l:=by
 unfold qU at h;rcases hq.1 h with h|h
 ·exact List.mem_of_mem_take h
 ·exact Gp (List.mem_of_mem_take h)
theorem gf: ∀H,∀c∈er H,∃b o,c=I H b o:=by
 intro H c h;unfold er at h;rcases hq.1 h with h|h
 ·exact R5 (Ut h)
 rcases hq.1 h with h|h
 ·exact R5 (Gp (Ut h))
 rcases hq.1 h with h|h
 ·exact R5 (Gp (Ut h))
 ·simp only[hf,oH,or_false]at h;rcases h with h|h|h|h|h|h|h|h|h<;>exact⟨_,_,h⟩
def Mf:List Nat→List J→List J
 |[],_=>[]
 |0::r,l=>l.headD .undef::Mf r l.tail
 |(k+1)::r,l=> .agg (l.take (k+1))::Mf r (l.drop (k+1))
def gj(i:Nat)(ids:List Nat)(m:Nat)(c:List Nat)(b:Nat)(a:List J):D:=
 ⟨Mf c a,match a.drop b with
  |v=>match i with
   |0=>vD ids m (v.take 31) ((v.drop 31).take 31) ((v.drop 62).take 31) (v.drop 93)
   |1=>vD ids m ((v.drop 31).take 31) (v.take 31) ((v.drop 62).take 31) ((v.drop 95).take 2++((v.drop 93).take 2++v.drop 97))
   |_=>vD ids m ((v.drop 31).take 31) ((v.drop 62).take 31) (v.take 31) ((v.drop 95).take 4++((v.drop 93).take 2++v.drop 99))⟩
def Xq:J→List J
 | .agg cs=>cs
 |x=>[x]
def gi(i:Nat)(ids:List Nat)(s:D):List J:=
 s.n.flatMap Xq++(qU ((s.k.getD 0 []).drop (33*i))++(qU ((s.k.getD 0 []).drop (33*FN i))++(qU ((s.k.getD 0 []).drop (33*FO i))++
  [I s.k (ids.getD (2*i) 0) 0,I s.k (ids.getD (2*i+1) 0) 0,I s.k (ids.getD (2*FN i) 0) 0,I s.k (ids.getD (2*FN i+1) 0) 0,I s.k (ids.getD (2*FO i) 0) 0,I s.k (ids.getD (2*FO i+1) 0) 0,I s.k (ids.getD 6 0) 0,I s.k (ids.getD 7 0) 0,I s.k (ids.getD 8 0) 0])))
theorem gg{P:Program}{f:FuncId}{F:db}{acc:List J}{G:ak→ULift oM}(h: ∀C,ey C→uH (G C).down.pre (fj P f (F.args (acc++h3 C)) (F.c4 ((acc++h3 C).drop F.dL)) (G C).down.rs (G C).down.H)):eP P f F b8 [] (cB G) acc:=
 VS fun s b=>by
  have a:=h (O0 s) (anM _ (by rw[adX];exact b));unfold h3 at a;rw[adX]at a;rw[as2];exact a
def vC:List (Key×aB):=qP (33*i)++qS ids i++[(.h (ids.getD 6 0) 0,.ae ca),(.h (ids.getD 7 0) 0,.ae gr),(.h (ids.getD 8 0) 0,.ae ct)]
abbrev oN:=Int×Bool×Int×Int×Int×Int×Int×Int×A aI×Int×Int×Int×A aj×Int×A aG×Int×A aj×Int×A aG×Int×Bool×Bool×Bool×Int×Int×Int×Int×Int×Int×A Int×Int×A hI×A O×A O×A a7×A aJ
def l6(n:H)(E:A O)(B:A a7)(G:A aJ):oN:=(n.bm,n.up,n.bU,n.ro,n.aX,n.dH,n.l,n.lt,n.li,n.c8,n.gR,n.gS,n.fG,n.gT,n.fF,n.eO,n.eC,n.et,n.eD,n.co,n.v0,n.v1,n.v2,n.eb,n.dF,n.dW,n.g6,n.q1,n.fp,n.bd,n.bh,n.ws,n.bS,E,B,G)
def uT(x:oN):H:=⟨x.1,x.2.1,x.2.2.1,x.2.2.2.1,x.2.2.2.2.1,x.2.2.2.2.2.1,x.2.2.2.2.2.2.1,x.2.2.2.2.2.2.2.1,x.2.2.2.2.2.2.2.2.1,x.2.2.2.2.2.2.2.2.2.1,x.2.2.2.2.2.2.2.2.2.2.1,x.2.2.2.2.2.2.2.2.2.2.2.1,x.2.2.2.2.2.2.2.2.2.2.2.2.1,x.2.2.2.2.2.2.2.2.2.2.2.2.2.1,x.2.2.2.2.2.2.2.2.2.2.2.2.2.2.1,x.2.2.2.2.2.2.2.2.2.2.2.2.2.2.2.1,x.2.2.2.2.2.2.2.2.2.2.2.2.2.2.2.2.1,x.2.2.2.2.2.2.2.2.2.2.2.2.2.2.2.2.2.1,x.2.2.2.2.2.2.2.2.2.2.2.2.2.2.2.2.2.2.1,x.2.2.2.2.2.2.2.2.2.2.2.2.2.2.2.2.2.2.2.1,x.2.2.2.2.2.2.2.2.2.2.2.2.2.2.2.2.2.2.2.2.1,x.2.2.2.2.2.2.2.2.2.2.2.2.2.2.2.2.2.2.2.2.2.1,x.2.2.2.2.2.2.2.2.2.2.2.2.2.2.2.2.2.2.2.2.2.2.1,x.2.2.2.2.2.2.2.2.2.2.2.2.2.2.2.2.2.2.2.2.2.2.2.1,x.2.2.2.2.2.2.2.2.2.2.2.2.2.2.2.2.2.2.2.2.2.2.2.2.1,x.2.2.2.2.2.2.2.2.2.2.2.2.2.2.2.2.2.2.2.2.2.2.2.2.2.1,x.2.2.2.2.2.2.2.2.2.2.2.2.2.2.2.2.2.2.2.2.2.2.2.2.2.2.1,x.2.2.2.2.2.2.2.2.2.2.2.2.2.2.2.2.2.2.2.2.2.2.2.2.2.2.2.1,x.2.2.2.2.2.2.2.2.2.2.2.2.2.2.2.2.2.2.2.2.2.2.2.2.2.2.2.2.1,x.2.2.2.2.2.2.2.2.2.2.2.2.2.2.2.2.2.2.2.2.2.2.2.2.2.2.2.2.2.2.2.1,x.2.2.2.2.2.2.2.2.2.2.2.2.2.2.2.2.2.2.2.2.2.2.2.2.2.2.2.2.2.1,x.2.2.2.2.2.2.2.2.2.2.2.2.2.2.2.2.2.2.2.2.2.2.2.2.2.2.2.2.2.2.1,x.2.2.2.2.2.2.2.2.2.2.2.2.2.2.2.2.2.2.2.2.2.2.2.2.2.2.2.2.2.2.2.2.1⟩
def afn(x:oN):A O:=x.2.2.2.2.2.2.2.2.2.2.2.2.2.2.2.2.2.2.2.2.2.2.2.2.2.2.2.2.2.2.2.2.2.1
def Fj(x:oN):A a7:=x.2.2.2.2.2.2.2.2.2.2.2.2.2.2.2.2.2.2.2.2.2.2.2.2.2.2.2.2.2.2.2.2.2.2.1
def Fi(x:oN):A aJ:=x.2.2.2.2.2.2.2.2.2.2.2.2.2.2.2.2.2.2.2.2.2.2.2.2.2.2.2.2.2.2.2.2.2.2.2
def xY(i:Nat)(ids:List Nat)(s:D):List J:=
 s.n.flatMap Xq++(qU ((s.k.getD 0 []).drop (33*i))++[I s.k (ids.getD (2*i) 0) 0,I s.k (ids.getD (2*i+1) 0) 0,I s.k (ids.getD 6 0) 0,I s.k (ids.getD 7 0) 0,I s.k (ids.getD 8 0) 0])
def A5:List J:=qU (x9 n 0 0)
def A4:List J:=[(aB.ae cV).ab n.ws,(aB.ae ca).ab n.bS]
def ys(i:Nat)(ids:List Nat)(m:Nat)(c:List Nat)(b:Nat)(C:ak)(a:List J):D:=
 ⟨Mf c a,match a.drop b with
  |v=>match i with
   |0=>vD ids m (v.take 31) (A5 C.b) (A5 C.c) ((v.drop 31).take 2++(A4 C.b++(A4 C.c++v.drop 33)))
   |1=>vD ids m (A5 C.a) (v.take 31) (A5 C.c) (A4 C.a++((v.drop 31).take 2++(A4 C.c++v.drop 33)))
   |_=>vD ids m (A5 C.a) (A5 C.b) (v.take 31) (A4 C.a++(A4 C.b++((v.drop 31).take 2++v.drop 33)))⟩
def H.bif(b:Bool)(x y:H):H:=⟨bif b then x.bm else y.bm,bif b then x.up else y.up,bif b then x.bU else y.bU,bif b then x.ro else y.ro,bif b then x.aX else y.aX,bif b then x.dH else y.dH,bif b then x.l else y.l,bif b then x.lt else y.lt,bif b then x.li else y.li,bif b then x.c8 else y.c8,bif b then x.gR else y.gR,bif b then x.gS else y.gS,bif b then x.fG else y.fG,bif b then x.gT else y.gT,bif b then x.fF else y.fF,bif b then x.eO else y.eO,bif b then x.eC else y.eC,bif b then x.et else y.et,bif b then x.eD else y.eD,bif b then x.co else y.co,bif b then x.v0 else y.v0,bif b then x.v1 else y.v1,bif b then x.v2 else y.v2,bif b then x.eb else y.eb,bif b then x.dF else y.dF,bif b then x.dW else y.dW,bif b then x.g6 else y.g6,bif b then x.q1 else y.q1,bif b then x.fp else y.fp,bif b then x.ws else y.ws,bif b then x.bd else y.bd,bif b then x.bh else y.bh,bif b then x.bS else y.bS⟩
def ak.bif(b:Bool)(x y:ak):ak:=⟨H.bif b x.a y.a,H.bif b x.b y.b,H.bif b x.c y.c,bif b then x.s else y.s,bif b then x.told else y.told,bif b then x.a2 else y.a2⟩
theorem H.bV(b:Bool)(x y:H):H.bif b x y=bif b then x else y:=by cases b<;>rfl
theorem ak.bV(b:Bool)(x y:ak):ak.bif b x y=bif b then x else y:=by cases b<;>rfl
end
section
variable(d:Int)(g:Int)(u:Int)
def CW:Bool:=(cond (decide (d≥g)) (decide (d≤u)) false)
def j0:Bool:=(CW d g u)
def n1(d:z):Bool:=(decide (((d:z).size:Int)≤20))
def HG:Bool:=(j0 d (-1099511627776) 1099511627776)
def vY(d:z):Bool:=(j0 ((d:z).size:Int) 1 12)
def C0(d:z):Bool:=(cond (decide (((d:z).size:Int)≥1)) (decide (((d:z).size:Int)≤12)) false)
def kx(d:z):Bool:=(C0 d)
def ajg:a6:=⟨[.v au],fun d=>⟨⟨none,.bool (kx d)⟩⟩⟩
theorem aeJ:bg 80 ajg:=bj Tryz.func80
 fun d _=>bf ⟨.pure,[.tmp 2],[(.t 0,y)],⟨[U],[]⟩⟩ (.ad (.j ⟨4,[],[(.t 2,y)],[],.f⟩ .z .z)) True e7 Tryz.func80 (trivial)
def ji(d:z):Bool:=(decide (((d:z).size:Int)≤20))
def ajl:a6:=⟨[.v au],fun d=>⟨⟨none,.bool (ji d)⟩⟩⟩
theorem E9:bg 81 ajl:=bj Tryz.func81
 fun d _=>bf ⟨.pure,[.tmp 2],[(.t 0,y)],⟨[U],[]⟩⟩ (.z) True e7 Tryz.func81 (trivial)
def HH:Bool:=(cond (decide (d≥(-1099511627776))) (decide (d≤1099511627776)) false)
def j1:Bool:=(HH d)
def ajm:a6:=⟨[.v a],fun d=>⟨⟨none,.bool (j1 d)⟩⟩⟩
theorem KU:bg 82 ajm:=bj Tryz.func82
 fun(d:Int)=>bf ⟨.pure,[.tmp 2],[(.t 0,y)],⟨[U],[]⟩⟩ (.ad (.j ⟨4,[],[(.t 2,y)],[],.f⟩ .z .z)) True e7 Tryz.func82 (trivial)
def P9:Bool:=(cond (decide (d≥1)) (decide (d≤1048576)) false)
def vZ:Bool:=(P9 d)
def ajn:a6:=⟨[.v a],fun d=>⟨⟨none,.bool (vZ d)⟩⟩⟩
theorem au2:bg 50 ajn:=bj Tryz.func50
 fun(d:Int)=>bf ⟨.pure,[.tmp 2],[(.t 0,y)],⟨[U],[]⟩⟩ (.ad (.j ⟨4,[],[(.t 2,y)],[],.f⟩ .z .z)) True e7 Tryz.func50 (trivial)
def rY:Bool:=(j0 d 1 1048576)
end
section
variable(d:Int)(g:Int)(u:z)(h:z)(r:Int)
def acU:Bool:=(cond (d==1) true (cond (d==4) true (cond (d==7) true (cond (d==8) true (j0 d 11 16)))))
def Er:Bool:=(cond (d==3) true (cond (d==14) true (d==20)))
def acV(g:z)(u:z)(h:z)(r:Int):Bool:=(cond (!(acU d)) (cond (!((h:z).toList==(⟨#[]⟩:z).toList)) true (cond (!(j0 d 4 6)) (cond (!((u:z).toList==(⟨#[]⟩:z).toList)) true (cond (!(Er d)) (cond (r !=0) true (cond (!(d !=22)) (!((g:z).toList==(⟨#[]⟩:z).toList)) false)) (cond (!(d !=22)) (!((g:z).toList==(⟨#[]⟩:z).toList)) false))) (cond (!(Er d)) (cond (r !=0) true (cond (!(d !=22)) (!((g:z).toList==(⟨#[]⟩:z).toList)) false)) (cond (!(d !=22)) (!((g:z).toList==(⟨#[]⟩:z).toList)) false)))) (cond (!(j0 d 4 6)) (cond (!((u:z).toList==(⟨#[]⟩:z).toList)) true (cond (!(Er d)) (cond (r !=0) true (cond (!(d !=22)) (!((g:z).toList==(⟨#[]⟩:z).toList)) false)) (cond (!(d !=22)) (!((g:z).toList==(⟨#[]⟩:z).toList)) false))) (cond (!(Er d)) (cond (r !=0) true (cond (!(d !=22)) (!((g:z).toList==(⟨#[]⟩:z).toList)) false)) (cond (!(d !=22)) (!((g:z).toList==(⟨#[]⟩:z).toList)) false))))
def acW(g:z)(u:z)(h:z):Bool:=(cond (d !=22) (cond (!(vY g)) true (cond (j0 d 4 6) (cond (!(vY u)) true (!(n1 h))) (!(n1 h)))) (cond (j0 d 4 6) (cond (!(vY u)) true (!(n1 h))) (!(n1 h))))
def Ep(g:z)(u:z)(h:z)(r:Int):Int:=(cond (!(j0 d 1 22)) 3 (cond (acV d g u h r) 8 (cond (acW d g u h) 1 (cond (!(HG r)) 2 0))))
def JI:Bool:=(cond (decide (d<1)) true (decide (d>22)))
def w6:Bool:=(cond (d==1) (d==1) (cond (d==7) (d==7) (cond (d==8) (d==8) (cond (d==11) (d==11) (cond (d==12) (d==12) (cond (d==13) (d==13) (cond (d==15) (d==15) (d==16))))))))
def w7:Bool:=(cond (d==3) (d==3) (d==20))
def w8:Bool:=(cond (d==5) (d==5) (d==6))
def JJ(g:z):z:=(cond (w6 d) g (cond (w7 d) g (cond (d==4) g (cond (w8 d) g (cond (d==14) g (cond (d==22) ⟨#[]⟩ g))))))
def Eo:z:=(cond (w6 d) ⟨#[]⟩ (cond (w7 d) ⟨#[]⟩ (cond (d==4) u (cond (w8 d) u ⟨#[]⟩))))
def Rp:z:=(cond (w6 d) h (cond (w7 d) ⟨#[]⟩ (cond (d==4) h (cond (w8 d) ⟨#[]⟩ (cond (d==14) h ⟨#[]⟩)))))
def Rq:Int:=(cond (w6 d) 0 (cond (w7 d) r (cond (d==4) 0 (cond (w8 d) 0 (cond (d==14) r 0)))))
def sd(g:z)(u:z)(h:z):Bool:=(cond (d !=22) (cond (!(kx g)) true (cond (decide (d≥4)) (cond (decide (d≤6)) (cond (!(kx u)) true (!(ji h))) (!(ji h))) (!(ji h)))) (cond (decide (d≥4)) (cond (decide (d≤6)) (cond (!(kx u)) true (!(ji h))) (!(ji h))) (!(ji h))))
def fC(g:z)(u:z)(h:z)(r:Int):Int:=(cond (JI d) 3 (cond (!((d==d)&&(((g:z).toList==((JJ d g):z).toList)&&(((u:z).toList==((Eo d u):z).toList)&&(((h:z).toList==((Rp d h):z).toList)&&((r==(Rq d r))&&true)))))) 8 (cond (sd d g u h) 1 (cond (!(j1 r)) 2 0))))
def alH:a6:=⟨[.g [a,au,au,au,a]],fun d g u h r=>⟨⟨none,b (fC d g u h r)⟩⟩⟩
theorem Tb:bg 51 alH:=bj Tryz.func51
 fun(d:Int) g _ u _ h _ (r:Int)=>bf ⟨.pure,[.tmp 2],[(.t 0,a)],⟨[U],[]⟩⟩ (.ad (.s (.j ⟨2054,[],[(.t 11,y)],[],.f⟩ .z .z) (.ad (.j ⟨14,[],[(.h 1 1,au),(.h 1 2,au),(.h 1 3,au),(.h 1 4,a)],[.f,(.b .f (.b .f (.b .f (.b .f .l)))),(.b .f (.b .f (.b .f (.b .f (.b .f .l))))),(.b .f (.b .f (.b .f (.b .f (.b .f .l)))))],.f⟩ (.ad (.j ⟨786446,[],[(.t 19,y)],[],.f⟩ .z (.ad (.j ⟨2147745806,[],[(.t 31,y)],[],.f⟩ .z (.ad (.ad (.ad (.j ⟨35184372350990,[],[(.t 45,y)],[],.f⟩ .z .z)))))))) (.ad (.s (.j ⟨39614081257132168796771975174,[.b 1],[(.t 95,y)],[],.f⟩ .z .z) .z)))))) True (b4 (aw aeJ (aw E9 (aw KU aT)))) Tryz.func51 (trivial)
def Rr:Bool:=(cond (!(vZ d)) true (!(vZ g)))
def iO(u:Int)(h:z)(r:z)(o:z)(q:Int):Int:=(cond (d==0) (cond (!((d==0)&&((g==0)&&((u==0)&&(((h:z).toList==(⟨#[]⟩:z).toList)&&(((r:z).toList==(⟨#[]⟩:z).toList)&&(((o:z).toList==(⟨#[]⟩:z).toList)&&((q==0)&&true)))))))) 8 0) (cond (Rr d g) 2 (fC u h r o q)))
def alI:a6:=⟨[.g [a,a,a,au,au,au,a]],fun d g u h r o q=>⟨⟨none,b (iO d g u h r o q)⟩⟩⟩
theorem Tc:bg 38 alI:=bj Tryz.func38
 fun(d:Int) (g:Int) (u:Int) h _ r _ o _ (q:Int)=>bf ⟨.pure,[.tmp 2],[(.t 0,a)],⟨[U],[]⟩⟩ (.ad (.ad (.s (.j ⟨262150,[],[(.t 18,y)],[],.f⟩ .z .z) .z))) True (b4 (aw Tb (aw au2 aT))) Tryz.func38 (trivial)
def acX(u:Int)(h:z)(r:z)(o:z)(q:Int):Bool:=(cond (g !=0) true (!((u==0)&&(((h:z).toList==(⟨#[]⟩:z).toList)&&(((r:z).toList==(⟨#[]⟩:z).toList)&&(((o:z).toList==(⟨#[]⟩:z).toList)&&((q==0)&&true)))))))
def acY:Bool:=(cond (!(rY d)) true (!(rY g)))
def Rs(u:Int)(h:z)(r:z)(o:z)(q:Int):Int:=(cond (d==0) (cond (acX g u h r o q) 8 0) (cond (acY d g) 2 (Ep u h r o q)))
def Rt:Bool:=(cond (decide (d<1)) true (cond (decide (d>1048576)) true (cond (decide (g<0)) true (decide (g>1073741824)))))
def hC(u:Bool)(h:Int)(r:Int)(o:Int)(q:z)(t:z)(f:z)(w:Int):Int:=(cond (Rt d g) 2 (cond u (cond (!((h==0)&&((r==0)&&((o==0)&&(((q:z).toList==(⟨#[]⟩:z).toList)&&(((t:z).toList==(⟨#[]⟩:z).toList)&&(((f:z).toList==(⟨#[]⟩:z).toList)&&((w==0)&&true)))))))) 8 0) (iO h r o q t f w)))
def alJ:a6:=⟨[.g [a,a,y,a,a,a,au,au,au,a]],fun d g u h r o q t f w=>⟨⟨none,b (hC d g u h r o q t f w)⟩⟩⟩
theorem KY:bg 25 alJ:=bj Tryz.func25
 fun(d:Int) (g:Int) u (h:Int) (r:Int) (o:Int) q _ t _ f _ (w:Int)=>bf ⟨.pure,[.tmp 2],[(.t 0,a)],⟨[U],[]⟩⟩ (.ad (.s (.j ⟨1048582,[],[(.t 20,y)],[],.f⟩ .z .z) .z)) True (b4 (aw Tc aT)) Tryz.func25 (trivial)
def w9:Bool:=(cond (!(rY d)) true (!(j0 g 0 1073741824)))
def se(u:Bool)(h:Int)(r:Int)(o:Int)(q:z)(t:z)(f:z)(w:Int):Int:=(cond (w9 d g) 2 (cond (!u) (Rs h r o q t f w) (cond (!((h==0)&&((r==0)&&((o==0)&&(((q:z).toList==(⟨#[]⟩:z).toList)&&(((t:z).toList==(⟨#[]⟩:z).toList)&&(((f:z).toList==(⟨#[]⟩:z).toList)&&((w==0)&&true)))))))) 8 0)))
end
section
def zC(d:z):Bool:=(decide (((d:z).size:Int)>20))
def aje:a6:=⟨[.v au],fun d=>⟨⟨none,.bool (zC d)⟩⟩⟩
theorem auW:bg 161 aje:=bj Tryz.func161
 fun d _=>bf ⟨.pure,[.tmp 2],[(.t 0,y)],⟨[U],[]⟩⟩ (.z) True e7 Tryz.func161 (trivial)
def HW(d:A z):Nat→Int→Bool×Int
 |0,_=>default
 |k+1,e=>(cond (decide (e<(d.n:Int))) (cond (zC (d.at' (toNat e))) (true,e) (HW d k (i64.wrap (e+1)))) (false,default))
variable(d:A z)(g:z)(u:Int)(h:A z)
def Qw:Bool×Int:=HW d ((toNat ((d.n:Int)-0))+1) 0
def ap8:Bool:=(cond (Qw d).1 false true)
def aaO:Int:=(cond (ap8 d) (-1) (Qw d).2)
def akc:a6:=⟨[.v (.af bL),.fn 161 []],fun d=>⟨⟨none,b (aaO d)⟩⟩⟩
theorem avu:bg 184 akc:=bj Tryz.func184
 fun d j _=>bf ⟨.pure,[.tmp 4],[(.t 0,a)],⟨[U],[]⟩⟩ (.ad (.j ⟨16,[],[],[],.f⟩ (.ad (.cy ⟨403,[],[],[(.t 8,a)],some 0,true,16,[],[],fun k (s:Int)=>HW d k s,.f,fun(s:Int)=>(0≤s∧s≤(d.n:Int)),fun(s:Int)=>(toNat ((d.n:Int)-s)),none⟩ .z)) .z)) (((0≤(0:Int)∧(0:Int)≤(d.n:Int)))∧(∀(e:Int),let c:=decide (e<(d.n:Int));let b:=i64.wrap (e+1);(0≤e∧e≤(d.n:Int))→((c=true→((0:Int)≤e∧e<(d.n:Int)))∧(c=true→((zC (d.at' (toNat e)))=false→((0≤b∧b≤(d.n:Int))∧(toNat ((d.n:Int)-b))<(toNat ((d.n:Int)-e)))))))) (b4 (aw auW aT)) Tryz.func184 (⟨(by omega),(fun e i=>⟨(fun f=>(by have:=aq f;omega)),(fun g=>(fun h=>(by have:=aq g;have:=N (e+1);omega)))⟩)⟩)
def P7:Bool:=(decide ((aaO d)≥0))
def ajc:a6:=⟨[.v (.af bL),.fn 161 []],fun d=>⟨⟨none,.bool (P7 d)⟩⟩⟩
theorem auU:bg 160 ajc:=bj Tryz.func160
 fun d _ _=>bf ⟨.pure,[.tmp 4],[(.t 0,y)],⟨[U],[]⟩⟩ (.z) True (b4 (aw avu aT)) Tryz.func160 (trivial)
def acQ(d:Int):Bool:=(cond (decide (d<0)) true (decide (d>13)))
def acR:Bool:=(cond (decide (((g:z).size:Int)>20)) true (decide ((h.n:Int)>20)))
def acS:Bool:=(cond (decide (u<(-1099511627776))) true (decide (u>1099511627776)))
def w5(d:Int)(g:z)(u:Int)(h:A z):Int:=(cond (acQ d) 3 (cond (acR g h) 1 (cond (P7 h) 1 (cond (acS u) 2 0))))
def alF:a6:=⟨[.g [a,au,a,.af bL]],fun d g u h=>⟨⟨none,b (w5 d g u h)⟩⟩⟩
theorem awD:bg 147 alF:=bj Tryz.func147
 fun(d:Int) g _ (u:Int) h _ _=>bf ⟨.pure,[.tmp 2],[(.t 0,a)],⟨[U],[]⟩⟩ (.ad (.s (.j ⟨1030,[],[(.t 10,y)],[],.f⟩ .z .z) (.s (.j ⟨1048582,[],[(.t 20,y)],[],.f⟩ .z .z) (.ad (.s (.j ⟨2147483652,[.b 0],[(.t 31,y)],[],.f⟩ .z .z) .z))))) True (b4 (aw auU aT)) Tryz.func147 (trivial)
end
section
def um(d:Int)(g:Int)(u:A aI):Bool:=(cond (!(j0 d 0 1048576)) true (cond (!(j0 g 0 1048576)) true (cond (!((d==0)==(g==0))) true (cond (decide ((u.n:Int)>200)) true (decide ((i64.wrap (d+(u.n:Int)))>1048576))))))
variable(d:A Int)(g:Int)(u:A aI)(a5:Int)
def my:Bool:=(cond ((se (u.at' (toNat a5)).j (u.at' (toNat a5)).ai (u.at' (toNat a5)).K (u.at' (toNat a5)).an (u.at' (toNat a5)).p (u.at' (toNat a5)).v (u.at' (toNat a5)).ax (u.at' (toNat a5)).aF (u.at' (toNat a5)).i (u.at' (toNat a5)).aP)!=0) true (decide ((u.at' (toNat a5)).j<g)))
def nh:Bool:=(cond (decide (a5>0)) (cond (decide ((u.at' (toNat a5)).j<(u.at' (toNat (i64.wrap (a5-1)))).j)) true (decide ((u.at' (toNat a5)).ai<(u.at' (toNat (i64.wrap (a5-1)))).ai))) false)
def sg(g:Int)(u:A aI):Nat→Int→Bool×Int
 |0,_=>default
 |k+1,a5=>(cond (decide (a5<(u.n:Int))) (cond (my g u a5) (true,13) (cond (nh u a5) (true,13) (sg g u k (i64.wrap (a5+1))))) (false,default))
def Ar:Bool×Int:=sg g u ((toNat ((u.n:Int)-0))+1) 0
def JK:Bool:=(cond (Ar g u).1 false true)
def uk(d:Int)(g:Int)(u:A aI):Int:=(cond (um d g u) 13 (cond (JK g u) 0 (Ar g u).2))
theorem ant(d g:Int)(u:A aI)(h:uk d g u=0):(0≤d∧d≤1048576)∧(0≤g∧g≤1048576)∧u.n≤200∧d+u.n≤1048576:=by
 unfold uk at h
 cases a:um d g u with
 |true=>rw[a]at h;simp at h
 |false=>
  simp [um,j0,CW]at a;have:=N (d+(u.n:Int));omega
def zz(d:A Int):Nat→Int→A Int→A Int
 |0,_,_=>default
 |k+1,e,m=>(cond (decide (e<(d.n:Int))) (zz d k (i64.wrap (e+1)) (A.app m (A.lit ([(d.at' (toNat e))]:List Int)))) m)
def CU:A Int:=zz d ((toNat ((d.n:Int)-0))+1) 0 (L:A Int)
def zA(g:A Int):Nat→Int→A Int→A Int
 |0,_,_=>default
 |k+1,a5,a=>(cond (decide (a5<(g.n:Int))) (zA g k (i64.wrap (a5+1)) (A.app a (A.lit ([(g.at' (toNat a5))]:List Int)))) a)
def CV(g:A Int):A Int:=zA g ((toNat ((g.n:Int)-0))+1) 0 (CU d)
def P1(g:A Int):A Int:=(CV d g)
theorem afF(d:A Int)(e:d.n≤549755813888): ∀(m:Nat) (v:Int) (s:A Int),0≤v→v≤d.n→m=toNat ((d.n:Int)-v)→((zz d (m+1) v s).n:Int)=s.n+((d.n:Int)-v)
 |0,v,s,a,b,c=>by
  have: ¬v<(d.n:Int):=by omega
  simp only[zz,this,yC,aQ];omega
 |m+1,v,s,a,b,c=>by
  have f:v<(d.n:Int):=by omega
  have g:=N (v+1);rw[zz];simp only[f,vb,aN];rw[g,afF d e m (v+1) _ (by omega) (by omega) (by omega)];simp only[A.jd,A.ic,fr,hs];omega
theorem afG(d:A Int)(e:d.n≤549755813888): ∀(m:Nat) (v:Int) (s:A Int),0≤v→v≤d.n→m=toNat ((d.n:Int)-v)→((zA d (m+1) v s).n:Int)=s.n+((d.n:Int)-v)
 |0,v,s,a,b,c=>by
  have: ¬v<(d.n:Int):=by omega
  simp only[zA,this,yC,aQ];omega
 |m+1,v,s,a,b,c=>by
  have f:v<(d.n:Int):=by omega
  have g:=N (v+1);rw[zA];simp only[f,vb,aN];rw[g,afG d e m (v+1) _ (by omega) (by omega) (by omega)];simp only[A.jd,A.ic,fr,hs];omega
theorem axD(d g:A Int):d.n+g.n≤549755813888→(P1 d g).n=d.n+g.n:=fun h=>by
 have a:((CU d).n:Int)=0+((d.n:Int)-0):=afF d (by omega) _ 0 L (by omega) (by omega) rfl;have b:((CV d g).n:Int)=(CU d).n+((g.n:Int)-0):=afG g (by omega) _ 0 _ (by omega) (by omega) rfl;show(CV d g).n=_;omega
end
end Go.Proofs.YtfmgjpcmcjjoiaaGreatDoor
