/-
  A GENERATOR OF CONDITIONS over the model's code, proved sound once: what it asks of a function's body gives the run of that body. By an AI agent; no person has read it. Part 7: AN EXECUTOR: what an operation and a region come to, reckoned whole.
-/
import Derived.Test.YtfbpilmhnpkfhaaGreatDoorVcE
set_option linter.all false
namespace Go.Vc
open Go Go.RowKit
structure El where
 T:Type
 inh:Inhabited T
 sz:Nat
 e:T→List AV
 d:List AV→T
 ed: ∀x,d (e x)=x
inductive Kd:Type 1 where
 |int (k:IntKind)
 |bool
 |str
 |sl (E:El)
 |blk (E:El)
@[reducible] def Kd.ty:Kd→Type
  | .int _=>Int
  | .bool=>Bool
  | .str=>ByteArray
  | .sl E=>Sl E.T
  | .blk E=>Sl E.T
def Kd.dflt:(k:Kd)→k.ty
 | .int _=>default
 | .bool=>default
 | .str=>default
 | .sl E=>have:=E.inh;default
 | .blk E=>have:=E.inh;default
def Kd.av:(k:Kd)→k.ty→AV
 | .int k,n=> .int k n
 | .bool,b=> .bool b
 | .str,s=> .str s
 | .sl E,s=>ofSl E.sz E.e s
 | .blk E,s=> .blk false E.sz s.n fun i=>E.e (s.at' i)
def rdI(k:IntKind)(x:AV):Option Int:=
 match x with
 | .int k' n=>match decide (k'=k)with
   |true=>some n
   |false=>none
 |_=>none
def rdO(x:AV):Option Bool:=
 match x with
 | .bool b=>some b
 | .lit b=>some b
 |_=>none
def rdS(x:AV):Option ByteArray:=
 match x with
 | .str s=>some s
 |_=>none
def rdL(E:El)(x:AV):Option (Sl E.T):=
 match x with
 | .arr sz n f=>match Nat.beq sz E.sz with
   |true=>some ⟨n,fun i=>E.d (f i)⟩
   |false=>none
 | .nils=>some (@nilSl E.T E.inh)
 |_=>none
def rdK(E:El)(x:AV):Option (Sl E.T):=
 match x with
 | .blk ro sz n f=>match ro with
   |true=>none
   |false=>match Nat.beq sz E.sz with
    |true=>some ⟨n,fun i=>E.d (f i)⟩
    |false=>none
 |_=>none
def Kd.rd:(k:Kd)→AV→Option k.ty
 | .int k,x=>rdI k x
 | .bool,x=>Vc.rdO x
 | .str,x=>rdS x
 | .sl E,x=>rdL E x
 | .blk E,x=>rdK E x
theorem Kd.canon: ∀(k:Kd) (x:k.ty),k.rd (k.av x)=some x
 | .int k,x=>by simp [Kd.rd,Kd.av,rdI]
 | .bool,x=>rfl
 | .str,x=>rfl
 | .sl E,x=>by simp [Kd.rd,Kd.av,rdL,ofSl,E.ed]
 | .blk E,x=>by simp [Kd.rd,Kd.av,rdK,E.ed]
@[reducible] def Tup:List Kd→Type
  |[]=>Unit
  |[k]=>k.ty
  |k::k'::r=>k.ty×Tup (k'::r)
def Tup.cons:{k:Kd} →{ks:List Kd} →k.ty→Tup ks→Tup (k::ks)
 |_,[],x,_=>x
 |_,_::_,x,s=>(x,s)
def Tup.dflt:(ks:List Kd)→Tup ks
 |[]=>()
 |k::ks=>Tup.cons k.dflt (Tup.dflt ks)
def Tup.avs:(ks:List Kd)→Tup ks→List AV
 |[],_=>[]
 |[k],x=>[k.av x]
 |k::k'::r,s=>k.av s.1::Tup.avs (k'::r) s.2
def rdTup:(ks:List Kd)→List AV→Option (Tup ks)
 |[],[]=>some ()
 |[k],[x]=>k.rd x
 |k::k'::r,x::xs=>match k.rd x with
  |some v=>match rdTup (k'::r) xs with
   |some s=>some (v,s)
   |none=>none
  |none=>none
 |_,_=>none
theorem Tup.canon: ∀(ks:List Kd) (s:Tup ks),rdTup ks (Tup.avs ks s)=some s
 |[],_=>rfl
 |[k],x=>Kd.canon k x
 |k::k'::r,s=>by
  simp only[Tup.avs,rdTup,Kd.canon,Tup.canon (k'::r) s.2]
def Kd.nrm(k:Kd)(x:AV):Option AV:=
 match k.rd x with
 |some v=>some (k.av v)
 |none=>none
def nrmL:List Kd→List AV→Option (List AV)
 |[],[]=>some []
 |k::ks,x::xs=>match k.nrm x with
  |some y=>match nrmL ks xs with
   |some ys=>some (y::ys)
   |none=>none
  |none=>none
 |_,_=>none
theorem Kd.nrm_idem{k:Kd}{x y:AV}(h:k.nrm x=some y): ∃v,y=k.av v∧k.rd y=some v:=by
 unfold Kd.nrm at h
 split at h
 ·rename_i v e
  cases h
  exact⟨v,rfl,Kd.canon k v⟩
 ·cases h
theorem nrmL_tup: ∀{ks:List Kd} {xs ys:List AV},nrmL ks xs=some ys→ ∃s,rdTup ks ys=some s∧Tup.avs ks s=ys
 |[],[],ys,h=>by cases h;exact⟨(),rfl,rfl⟩
 |[k],[x],ys,h=>by
  simp only[nrmL]at h
  split at h<;>try (cases h;done)
  rename_i y e
  cases h
  obtain⟨v,h1,h2⟩:=Kd.nrm_idem e
  exact⟨v,h2,by simp only[Tup.avs,h1]⟩
 |k::k'::r,x::xs,ys,h=>by
  simp only[nrmL]at h
  split at h<;>try (cases h;done)
  rename_i y e
  split at h<;>try (cases h;done)
  rename_i zs e2
  cases h
  obtain⟨v,h1,h2⟩:=Kd.nrm_idem e
  obtain⟨s,h3,h4⟩:=nrmL_tup (ks:=k'::r) (xs:=xs) (ys:=zs) (by simpa only[nrmL]using e2)
  exact⟨(v,s),by simp only[rdTup,h2,h3],by simp only[Tup.avs,h1,h4]⟩
 |[],_::_,_,h=>by cases h
 |_::_,[],_,h=>by cases h
 |[k],x::y::r,ys,h=>by
  simp only[nrmL]at h
  split at h<;>cases h
def allTup:(ks:List Kd)→(Tup ks→Prop)→Prop
 |[],p=>p ()
 |[k],p=> ∀x:k.ty,p x
 |k::k'::r,p=> ∀x:k.ty,allTup (k'::r) fun s=>p (x,s)
theorem allTup_iff: ∀(ks:List Kd) (p:Tup ks→Prop),allTup ks p↔ ∀s,p s
 |[],p=>⟨fun h _=>h,fun h=>h ()⟩
 |[k],p=>Iff.rfl
 |k::k'::r,p=>by
  simp only[allTup]
  constructor
  ·intro h s
   exact(allTup_iff (k'::r) _).1 (h s.1) s.2
  ·intro h x
   exact(allTup_iff (k'::r) _).2 fun s=>h (x,s)
inductive Eo:Type 1 where
 |tt
 |e {α:Type} (a b:α)
 |and (l r:Eo)
def Eo.holds:Eo→Prop
 | .tt=>True
 | .e a b=>a=b
 | .and l r=>l.holds∧r.holds
inductive Ob:Type 1 where
 |tt
 |p (q:Prop)
 |e {α:Type} (a b:α)
 |es {σ:Type} (f:σ→Eo)
 |and (l r:Ob)
 |imp (b c:Bool) (r:Ob)
 |giv (q:Prop) (r:Ob)
 |all (ks:List Kd) (I:Tup ks→Prop) (f:Tup ks→Ob)
def Ob.holds:Ob→Prop
 | .tt=>True
 | .p q=>q
 | .e a b=>a=b
 | .es f=> ∀k,(f k).holds
 | .and l r=>l.holds∧r.holds
 | .imp b c r=>b=c→r.holds
 | .giv q r=>q→r.holds
 | .all _ I f=> ∀s,I s→(f s).holds
def Ob.hard:Ob→Bool
 | .p _=>true
 | .and l r=>match l.hard with
   |true=>true
   |false=>r.hard
 | .imp _ _ r=>r.hard
 | .giv _ r=>r.hard
 | .all .. =>true
 |_=>false
def Ob.prop:Ob→Prop
 | .tt=>True
 | .p q=>q
 | .e _ _=>True
 | .es _=>True
 | .and l r=>match l.hard with
   |true=>match r.hard with
    |true=>l.prop∧r.prop
    |false=>l.prop
   |false=>r.prop
 | .imp b c r=>match r.hard with
   |true=>b=c→r.prop
   |false=>True
 | .giv q r=>match r.hard with
   |true=>q→r.prop
   |false=>True
 | .all ks I f=>allTup ks fun s=>I s→(f s).prop
inductive Sk:Type 1 where
 |nil
 |c {α:Type} (a:α)
 |and (l r:Sk)
 |lam {σ:Type} (f:σ→Sk)
def Eo.skL:Eo→Sk
 | .tt=> .nil
 | .e a _=> .c a
 | .and l r=> .and l.skL r.skL
def Eo.skR:Eo→Sk
 | .tt=> .nil
 | .e _ b=> .c b
 | .and l r=> .and l.skR r.skR
theorem Eo.ok: ∀(o:Eo),o.skL=o.skR→o.holds
 | .tt,_=>trivial
 | .e a b,h=>by
   simp only[Eo.skL,Eo.skR,Sk.c.injEq,heq_eq_eq,true_and]at h
   exact h
 | .and l r,h=>by
   simp only[Eo.skL,Eo.skR,Sk.and.injEq]at h
   exact⟨Eo.ok l h.1,Eo.ok r h.2⟩
def Ob.skL:Ob→Sk
 | .e a _=> .c a
 | .es f=> .lam fun k=>(f k).skL
 | .and l r=> .and l.skL r.skL
 | .imp _ _ r=>r.skL
 | .giv _ r=>r.skL
 | .all _ _ f=> .lam fun s=>(f s).skL
 |_=> .nil
def Ob.skR:Ob→Sk
 | .e _ b=> .c b
 | .es f=> .lam fun k=>(f k).skR
 | .and l r=> .and l.skR r.skR
 | .imp _ _ r=>r.skR
 | .giv _ r=>r.skR
 | .all _ _ f=> .lam fun s=>(f s).skR
 |_=> .nil
theorem Ob.soft: ∀(o:Ob),o.hard=false→o.prop
 | .tt,_=>trivial
 | .p _,h=>by cases h
 | .e _ _,_=>trivial
 | .es _,_=>trivial
 | .and l r,h=>by
   simp only[Ob.hard]at h
   cases hl:l.hard with
   |true=>rw[hl]at h;cases h
   |false=>
    rw[hl]at h
    simp only[Ob.prop,hl]
    exact Ob.soft r h
 | .imp b c r,h=>by
   simp only[Ob.hard]at h
   simp only[Ob.prop,h]
 | .giv q r,h=>by
   simp only[Ob.hard]at h
   simp only[Ob.prop,h]
 | .all ..,h=>by cases h
theorem Ob.ok: ∀(o:Ob),o.skL=o.skR→o.prop→o.holds
 | .tt,_,_=>trivial
 | .p _,_,h=>h
 | .e a b,h,_=>by
   simp only[Ob.skL,Ob.skR,Sk.c.injEq,heq_eq_eq,true_and]at h
   exact h
 | .es f,h,_=>by
   simp only[Ob.skL,Ob.skR,Sk.lam.injEq,heq_eq_eq,true_and]at h
   exact fun k=>Eo.ok (f k) (congrFun h k)
 | .and l r,h,hp=>by
   simp only[Ob.skL,Ob.skR,Sk.and.injEq]at h
   simp only[Ob.prop]at hp
   cases hl:l.hard with
   |true=>
    rw[hl]at hp
    cases hr:r.hard with
    |true=>rw[hr]at hp;exact⟨Ob.ok l h.1 hp.1,Ob.ok r h.2 hp.2⟩
    |false=>rw[hr]at hp;exact⟨Ob.ok l h.1 hp,Ob.ok r h.2 (Ob.soft r hr)⟩
   |false=>rw[hl]at hp;exact⟨Ob.ok l h.1 (Ob.soft l hl),Ob.ok r h.2 hp⟩
 | .imp b c r,h,hp=>by
   simp only[Ob.skL,Ob.skR]at h
   simp only[Ob.prop]at hp
   intro hb
   cases hr:r.hard with
   |true=>rw[hr]at hp;exact Ob.ok r h (hp hb)
   |false=>exact Ob.ok r h (Ob.soft r hr)
 | .giv q r,h,hp=>by
   simp only[Ob.skL,Ob.skR]at h
   simp only[Ob.prop]at hp
   intro hb
   cases hr:r.hard with
   |true=>rw[hr]at hp;exact Ob.ok r h (hp hb)
   |false=>exact Ob.ok r h (Ob.soft r hr)
 | .all ks I f,h,hp=>by
   simp only[Ob.skL,Ob.skR,Sk.lam.injEq,heq_eq_eq,true_and]at h
   intro s hs
   exact Ob.ok (f s) (congrFun h s) ((allTup_iff ks _).1 hp s hs)
inductive T (α:Type _) where
 |lf (a:α)
 |br (b:Bool) (l r:T α)
def T.sel{α:Type _} :T α→α
 | .lf a=>a
 | .br b l r=>match b with
   |true=>l.sel
   |false=>r.sel
def T.map{α β:Type _}(f:α→β):T α→T β
 | .lf a=> .lf (f a)
 | .br b l r=> .br b (l.map f) (r.map f)
theorem T.sel_map{α β:Type _}(f:α→β): ∀t:T α,(t.map f).sel=f t.sel
 | .lf _=>rfl
 | .br b l r=>by cases b<;>simp only[T.map,T.sel,T.sel_map f]
def T.prune{α β:Type _}(f:α→Option β):T α→Option (T β)
 | .lf a=>match f a with
   |some b=>some (.lf b)
   |none=>none
 | .br b l r=>match l.prune f with
   |some l'=>match r.prune f with
    |some r'=>some (.br b l' r')
    |none=>some l'
   |none=>r.prune f
theorem T.prune_sel{α β:Type _}{f:α→Option β} : ∀{t:T α} {x:β},f t.sel=some x→ ∃t',t.prune f=some t'∧t'.sel=x
 | .lf a,x,h=>by
   simp only[T.sel]at h
   exact⟨.lf x,by simp only[T.prune,h],rfl⟩
 | .br b l r,x,h=>by
   cases b with
   |true=>
    obtain⟨t',h1,h2⟩:=T.prune_sel (t:=l) (show f l.sel=some x from h)
    simp only[T.prune,h1]
    cases e:r.prune f with
    |none=>exact⟨t',rfl,h2⟩
    |some r'=>exact⟨.br true t' r',rfl,h2⟩
   |false=>
    obtain⟨t',h1,h2⟩:=T.prune_sel (t:=r) (show f r.sel=some x from h)
    simp only[T.prune,h1]
    cases e:l.prune f with
    |none=>exact⟨t',rfl,h2⟩
    |some l'=>exact⟨.br false l' t',rfl,h2⟩
inductive Mk where
 |f
 |l
 |b (x y:Mk)
def T.first{α:Type _} :T α→α
 | .lf a=>a
 | .br _ l _=>l.first
def T.coll{α:Type} :T α→Mk→α
 | .lf a,_=>a
 | .br b l r,m=>match m with
   | .f=>bif b then l.coll .f else r.coll .f
   | .l=>l.first
   | .b x y=>bif b then l.coll x else r.coll y
def T.same{α:Type}(a:α):T α→Eo
 | .lf x=> .e x a
 | .br _ l r=> .and (l.same a) (r.same a)
def T.collO{α:Type} :T α→Mk→Eo
 | .lf _,_=> .tt
 | .br _ l r,m=>match m with
   | .f=> .tt
   | .l=> .and (l.same l.first) (r.same l.first)
   | .b x y=> .and (l.collO x) (r.collO y)
theorem T.same_sel{α:Type}{a:α} : ∀{t:T α},(t.same a).holds→t.sel=a
 | .lf _,h=>h
 | .br b l r,h=>by
   cases b
   ·exact T.same_sel (t:=r) h.2
   ·exact T.same_sel (t:=l) h.1
theorem T.coll_f{α:Type} : ∀(t:T α),t.coll .f=t.sel
 | .lf _=>rfl
 | .br b l r=>by cases b<;>simp only[T.coll,T.sel,cond_true,cond_false,T.coll_f]
theorem T.coll_ok{α:Type} : ∀{t:T α} {m:Mk},(t.collO m).holds→t.coll m=t.sel
 | .lf _,_,_=>rfl
 | .br b l r,.f,_=>T.coll_f _
 | .br b l r,.l,h=>by
   simp only[T.coll]
   exact(T.same_sel (t:= .br b l r) h).symm
 | .br b l r,.b x y,h=>by
   have h1:=T.coll_ok (t:=l) (m:=x) h.1
   have h2:=T.coll_ok (t:=r) (m:=y) h.2
   cases b
   ·simp only[T.coll,cond_false,T.sel,h2]
   ·simp only[T.coll,cond_true,T.sel,h1]
end Go.Vc
namespace Go.Vc
open Go Go.RowKit
structure XE where
 P:Program
 ty:TypeId→Option Ty
 el:TypeId→Option El
 spec:FuncId→List AV→Option (Ob×AV)
 m:Nat:=0
 hspec:FuncId→List AV→Heap→Option (Ob×List AV×Heap):=fun _ _ _=>none
 fel:Nat→List AV→Option El:=fun _ _=>none
 ho:FuncId→Bool:=fun _=>false
def XE.elAt(X:XE)(H:Heap)(x:AV):Option El:=
 match x with
 | .eptr b _ i _=>match hget H b 0 with
   | .blk _ sz _ f=>X.fel sz (f i)
   |_=>none
 |_=>none
def XE.env(X:XE):Env where
 P:=X.P
 ty:=X.ty
 spec:=fun f as=>match X.spec f as with
  |some q=>some (some q.1.holds,q.2)
  |none=>none
 m:=X.m
 hspec:=fun f as H=>match X.hspec f as H with
  |some q=>some (some q.1.holds,q.2)
  |none=>none
 ho:=X.ho
def gd{α:Type _}(b:Bool)(x:Option α):Option α:=
 match b with
 |true=>x
 |false=>none
theorem gd_some{α:Type _}{b:Bool}{x:Option α}{y:α} :gd b x=some y↔b=true∧x=some y:=by
 cases b<;>simp [gd]
abbrev R1:=Ob×AV×Ws
abbrev V1:=Ob×AV
def val(x:Option V1):Option R1:=
 match x with
 |some q=>some (q.1,q.2,[])
 |none=>none
theorem val_some{x:Option V1}{o:Ob}{av:AV}{ws:Ws} :val x=some (o,av,ws)↔x=some (o,av)∧ws=[]:=by
 cases x with
 |none=>simp [val]
 |some q=>
  obtain⟨a,b⟩:=q
  simp only[val,Option.some.injEq,Prod.mk.injEq]
  constructor
  ·rintro⟨rfl,rfl,rfl⟩;exact⟨⟨rfl,rfl⟩,rfl⟩
  ·rintro⟨⟨rfl,rfl⟩,rfl⟩;exact⟨rfl,rfl,rfl⟩
def pure1(av:AV):Option V1:=some (.tt,av)
def loadT(t:Ty)(H:Heap)(x:AV):Option V1:=
 match x with
 | .ptr b o=>gd ((cellsAt H b o t.size).all cellOk) (pure1 (aggA t.d.isAgg (cellsAt H b o t.size)))
 | .ref cs=>gd (decide (t.size≤cs.length)) (pure1 (aggA t.d.isAgg (cs.take t.size)))
 | .eptr b k i o=>match hget H b 0 with
   | .blk _ sz n f=>gd (decide (o+t.size≤sz)) (some (.and (.e k n) (.p (i<n)),aggA t.d.isAgg (((f i).drop o).take t.size)))
   |_=>none
 |_=>none
theorem loadT_ok{t:Ty}{H:Heap}{x:AV}{o:Ob}{av:AV}{K:AV→Prop}(h:loadT t H x=some (o,av))(ho:o.holds)(hK:K av):loadA t H x K:=by
 unfold loadT at h
 unfold loadA
 cases x<;>simp only at h ⊢ <;>try (cases h;done)
 ·rw[gd_some,pure1]at h
  obtain⟨h1,h2⟩:=h
  cases h2
  exact chk_iff.2 ⟨h1,hK⟩
 ·split at h
  ·rename_i e
   rw[gd_some]at h
   obtain⟨h1,h2⟩:=h
   cases h2
   simp only[e]
   exact⟨ho.1,ho.2,chk_iff.2 ⟨h1,hK⟩⟩
  ·cases h
 ·rw[gd_some,pure1]at h
  obtain⟨h1,h2⟩:=h
  cases h2
  exact chk_iff.2 ⟨h1,hK⟩
def El.canon(E:El)(f:Nat→List AV):Ob:= .e f fun i=>E.e (E.d (f i))
noncomputable def Sl.upd{α:Type}(s:Sl α)(i:Nat)(x:α):Sl α:=⟨s.n,fun j=>bif Nat.beq j i then x else s.at' j⟩
theorem Sl.upd_n{α:Type}(s:Sl α)(i:Nat)(x:α):(s.upd i x).n=s.n:=rfl
noncomputable def storeT(E:Option El)(t:Ty)(H:Heap)(x v:AV):Option (Ob×Ws):=
 match x with
 | .ptr b o=>gd (valOk v&&decide ((cellsOf v).length=t.size)&&(cellsAt H b o t.size).all cellOk&& !(isBlk (hget H b 0))) (some (.tt,cellsW b (cellsOf v) o))
 | .eptr b k i o=>match hget H b 0 with
   | .blk ro sz n f=>match E with
     |some E=>gd (!ro&&decide (o+t.size≤sz)&&valOk (normA v)&&decide ((cellsOf (normA v)).length=t.size)&&(cellsOf (normA v)).all frzOk1&& !((cellsOf (normA v)).isEmpty))
       (some (.and (.e k n) (.and (.p (i<n)) (.and (E.canon f) (.e (layA (f i) (cellsOf (normA v)) o) (E.e (E.d (layA (f i) (cellsOf (normA v)) o)))))),[(b,0,.blk false sz n fun j=>E.e ((Sl.upd (⟨n,fun i=>E.d (f i)⟩:Sl E.T) i (E.d (layA (f i) (cellsOf (normA v)) o))).at' j))]))
     |none=>none
   |_=>none
 |_=>none
theorem storeT_ok{E:Option El}{t:Ty}{H:Heap}{x v:AV}{o:Ob}{ws:Ws}{K:Ws→Prop}(h:storeT E t H x v=some (o,ws))(ho:o.holds)(hK:K ws):storeA t H x v K:=by
 unfold storeT at h
 unfold storeA
 cases x<;>simp only at h ⊢ <;>try (cases h;done)
 ·rw[gd_some]at h
  obtain⟨h1,h2⟩:=h
  cases h2
  exact chk_iff.2 ⟨h1,hK⟩
 ·split at h
  ·rename_i e
   split at h<;>try (cases h;done)
   rename_i E
   rw[gd_some]at h
   obtain⟨h1,h2⟩:=h
   cases h2
   simp only[e]
   obtain⟨g1,g2,g3,g4⟩:=ho
   refine chk_iff.2 ⟨h1,g1,g2,_,fun j hj=> ?_,hK⟩
   unfold updF Sl.upd
   simp only
   cases ej:Nat.beq j _ with
   |true=>
    have:=Nat.eq_of_beq_eq_true ej
    subst this
    simp only[cond_true]
    exact g4
   |false=>
    simp only[cond_false]
    exact congrFun g3 j
  ·cases h
def fieldT(t:Ty)(H:Heap)(f:Nat)(x:AV):Option V1:=
 match t.d with
 | .struct offs=>match offs[f]? with
   |some (off,_)=>match x with
    | .ptr b o=>pure1 (.ptr b (o+off))
    | .ref cs=>pure1 (.ref (cs.drop off))
    | .eptr b k i o=>match hget H b 0 with
      | .blk _ _ n _=>some (.e k n,.eptr b k i (o+off))
      |_=>none
    |_=>none
   |none=>none
 |_=>none
theorem fieldT_ok{t:Ty}{H:Heap}{f:Nat}{x:AV}{o:Ob}{av:AV}{K:AV→Prop}(h:fieldT t H f x=some (o,av))(ho:o.holds)(hK:K av):fieldA t H f x K:=by
 unfold fieldT at h
 unfold fieldA
 split at h<;>try (cases h;done)
 rename_i offs e
 simp only[e]
 split at h<;>try (cases h;done)
 rename_i off sz e2
 simp only[e2]
 cases x<;>simp only[pure1]at h ⊢ <;>try (cases h;done)
 ·cases h;exact hK
 ·split at h
  ·rename_i e;cases h;simp only[e];exact⟨ho,hK⟩
  ·cases h
 ·cases h;exact hK
def indexT(t:Ty)(H:Heap)(x i:AV):Option V1:=
 match t.d with
 | .slice _ esz _=>match i with
   | .int _ z=>match x with
     | .arr sz n f=>gd (decide (sz=esz)) (some (.p (0≤z∧z<n),.ref ((f z.toNat).take sz)))
     | .own b k=>match hget H b 0 with
       | .blk _ sz n _=>gd (decide (sz=esz)) (some (.and (.e k n) (.p (0≤z∧z<n)),.eptr b k z.toNat 0))
       |_=>none
     |_=>none
   |_=>none
 | .array n _ esz=>match i with
   | .int _ z=>match x with
     | .ptr b o=>gd (decide (0≤z)&&decide (z<n)) (pure1 (.ptr b (o+z.toNat*esz)))
     | .ref cs=>gd (decide (0≤z)&&decide (z<n)) (pure1 (.ref (cs.drop (z.toNat*esz))))
     |_=>none
   |_=>none
 |_=>none
def idxT(E:TypeId→Option Ty)(t:Ty)(x i:AV):Option V1:=
 match t.d with
 | .array n e esz=>match i with
   | .int _ z=>match x with
     | .agg cs=>match E e with
       |some u=>gd (decide (0≤z)&&decide (z<n)&&decide (u.size=esz)&&decide (z.toNat*esz+esz≤cs.length)) (pure1 (aggA u.d.isAgg ((cs.drop (z.toNat*esz)).take esz)))
       |none=>none
     |_=>none
   |_=>none
 |_=>none
theorem idxT_ok{E:TypeId→Option Ty}{t:Ty}{x i:AV}{o:Ob}{av:AV}{K:AV→Prop}(h:idxT E t x i=some (o,av))(hK:K av):idxA E t x i K:=by
 unfold idxT at h
 unfold idxA
 split at h<;>try (cases h;done)
 rename_i n e esz ed
 simp only[ed]
 cases i<;>simp only at h ⊢ <;>try (cases h;done)
 cases x<;>simp only at h ⊢ <;>try (cases h;done)
 split at h<;>try (cases h;done)
 rename_i u eu
 simp only[eu]
 rw[gd_some,pure1]at h
 obtain⟨h1,h2⟩:=h
 cases h2
 exact chk_iff.2 ⟨h1,hK⟩
theorem indexT_ok{t:Ty}{H:Heap}{x i:AV}{o:Ob}{av:AV}{K:AV→Prop}(h:indexT t H x i=some (o,av))(ho:o.holds)(hK:K av):indexA t H x i K:=by
 unfold indexT at h
 unfold indexA
 split at h<;>try (cases h;done)
 case h_2 n e' esz e=>
  simp only[e]
  cases i<;>simp only at h ⊢ <;>try (cases h;done)
  cases x<;>simp only at h ⊢ <;>try (cases h;done)
  all_goals
   rw[gd_some,pure1]at h
   obtain⟨h1,h2⟩:=h
   cases h2
   exact chk_iff.2 ⟨h1,hK⟩
 rename_i e' esz eb e
 simp only[e]
 cases i<;>simp only at h ⊢ <;>try (cases h;done)
 cases x<;>simp only at h ⊢ <;>try (cases h;done)
 ·rw[gd_some]at h
  obtain⟨h1,h2⟩:=h
  cases h2
  exact chk_iff.2 ⟨h1,ho,hK⟩
 ·split at h
  ·rename_i e
   rw[gd_some]at h
   obtain⟨h1,h2⟩:=h
   cases h2
   simp only[e]
   exact chk_iff.2 ⟨h1,ho.1,ho.2,hK⟩
  ·cases h
def intT(op:BinOp)(k:IntKind)(a b:Int):Option V1:=
 match op with
 | .add=>pure1 (.int k (k.wrap (a+b)))
 | .sub=>pure1 (.int k (k.wrap (a-b)))
 | .mul=>pure1 (.int k (k.wrap (a*b)))
 | .eql=>pure1 (.bool (a==b))
 | .neq=>pure1 (.bool (a !=b))
 | .lss=>pure1 (.bool (decide (a<b)))
 | .leq=>pure1 (.bool (decide (a≤b)))
 | .gtr=>pure1 (.bool (decide (a>b)))
 | .geq=>pure1 (.bool (decide (a≥b)))
 | .quo=>some (.p (b≠0),.int k (k.wrap (a.tdiv b)))
 | .rem=>some (.p (b≠0),.int k (a.tmod b))
 | .and=>pure1 (.int k (bits .and k a b))
 | .or=>pure1 (.int k (bits .or k a b))
 |_=>none
theorem intT_ok{op:BinOp}{k:IntKind}{a b:Int}{o:Ob}{av:AV}{K:AV→Prop}(h:intT op k a b=some (o,av))(ho:o.holds)(hK:K av):intA op k a b K:=by
 unfold intT at h
 unfold intA
 cases op<;>simp only[pure1]at h ⊢ <;>first|(cases h;done)|(cases h;exact hK)|(cases h;exact⟨ho,hK⟩)
def shiftT(op:BinOp)(k:IntKind)(a b:Int):Option V1:=
 match op with
 | .shl=>some (.p (0≤b∧b≤k.bits),.int k (k.wrap (a*2^b.toNat)))
 | .shr=>some (.p (0≤b∧b≤k.bits),.int k (a/2^b.toNat))
 |_=>none
theorem shiftT_ok{op:BinOp}{k:IntKind}{a b:Int}{o:Ob}{av:AV}{K:AV→Prop}(h:shiftT op k a b=some (o,av))(ho:o.holds)(hK:K av):shiftA op k a b K:=by
 unfold shiftT at h
 unfold shiftA
 cases op<;>simp only at h ⊢ <;>first|(cases h;done)|(cases h;exact⟨ho,hK⟩)
def binT(t:Ty)(op:BinOp)(x y:AV):Option V1:=
 match x with
 | .int k a=>match y with
   | .int k' b=>match isShift op with
     |true=>shiftT op k a b
     |false=>gd (decide (k=k')) (intT op k a b)
   |_=>none
 | .bool a=>match y with
   | .bool b=>match t.d with
     | .bool=>match op with
       | .eql=>pure1 (.bool (a==b))
       | .neq=>pure1 (.bool (!(a==b)))
       |_=>none
     |_=>none
   |_=>none
 | .str a=>match y with
   | .str b=>match op with
     | .eql=>pure1 (.bool (a.toList==b.toList))
     | .neq=>pure1 (.bool (!(a.toList==b.toList)))
     | .leq=>pure1 (.bool (Op.bytesLess a.toList b.toList||a.toList==b.toList))
     | .gtr=>pure1 (.bool (!(Op.bytesLess a.toList b.toList||a.toList==b.toList)))
     | .lss=>pure1 (.bool (Op.bytesLess a.toList b.toList))
     | .geq=>pure1 (.bool (!Op.bytesLess a.toList b.toList))
     | .add=>some (.p (a.size+b.size≤BIG),.str (a++b))
     |_=>none
   |_=>none
 | .agg cs=>match y with
   | .agg ds=>gd (t.cmp&&eqKinds t.zero cs&&eqKinds t.zero ds) (match op with
     | .eql=>pure1 (.bool (eqCells cs ds))
     | .neq=>pure1 (.bool (!(eqCells cs ds)))
     |_=>none)
   |_=>none
 |_=>none
theorem binT_ok{t:Ty}{op:BinOp}{x y:AV}{o:Ob}{av:AV}{K:AV→Prop}(h:binT t op x y=some (o,av))(ho:o.holds)(hK:K av):binA t op x y K:=by
 unfold binT at h
 cases x<;>simp only at h<;>try (cases h;done)
 ·cases y<;>simp only at h<;>try (cases h;done)
  simp only[binA]
  split at h
  ·rename_i e;simp only[e];exact shiftT_ok h ho hK
  ·rename_i e;simp only[e]
   rw[gd_some]at h
   exact chk_iff.2 ⟨h.1,intT_ok h.2 ho hK⟩
 ·cases y<;>simp only at h<;>try (cases h;done)
  split at h<;>try (cases h;done)
  rename_i e
  simp only[binA,e]
  cases op<;>simp only[pure1]at h ⊢ <;>first|(cases h;done)|(cases h;exact hK)
 ·cases y<;>simp only at h<;>try (cases h;done)
  simp only[binA]
  cases op<;>simp only[pure1]at h ⊢ <;>first|(cases h;done)|(cases h;exact hK)|(cases h;exact⟨ho,hK⟩)
 ·cases y<;>simp only at h<;>try (cases h;done)
  simp only[binA]
  rw[gd_some]at h
  refine chk_iff.2 ⟨h.1,?_⟩
  have h2:=h.2
  cases op<;>simp only[pure1]at h2 ⊢ <;>first|(cases h2;done)|(cases h2;exact hK)
def unT(op:UnOp)(x:AV):Option V1:=
 match op with
 | .not=>match x with
   | .bool b=>pure1 (.bool (!b))
   | .lit b=>pure1 (.lit (!b))
   |_=>none
 | .neg=>match x with
   | .int k n=>pure1 (.int k (k.wrap (0-n)))
   |_=>none
 |_=>none
theorem unT_ok{op:UnOp}{x:AV}{o:Ob}{av:AV}{K:AV→Prop}(h:unT op x=some (o,av))(hK:K av):unA op x K:=by
 unfold unT at h
 cases op<;>simp only at h<;>try (cases h;done)
 all_goals
  cases x<;>simp only[pure1]at h<;>first|(cases h;done)|(cases h;exact hK)
def buildT(offs:List (Nat×Nat))(tm:List AV):List (Nat×Operand)→List AV→Option (List AV)
 |[],cs=>some cs
 |(i,x)::r,cs=>match offs[i]? with
  |some (off,sz)=>gd (valOk (evalA tm x)&&decide ((cellsOf (evalA tm x)).length=sz)&&decide (off+sz≤cs.length)) (buildT offs tm r (layA cs (cellsOf (evalA tm x)) off))
  |none=>none
theorem buildT_ok{offs:List (Nat×Nat)}{tm:List AV}{K:List AV→Prop} : ∀{ps:List (Nat×Operand)} {cs ds:List AV},buildT offs tm ps cs=some ds→K ds→buildA offs tm ps cs K
 |[],cs,ds,h,hK=>by cases h;exact hK
 |(i,x)::r,cs,ds,h,hK=>by
  simp only[buildT]at h
  simp only[buildA]
  split at h
  ·rename_i off sz e
   rw[gd_some]at h
   simp only[e]
   exact chk_iff.2 ⟨h.1,buildT_ok h.2 hK⟩
  ·cases h
def lenT(H:Heap)(x:AV):Option V1:=
 match x with
 | .arr _ n _=>pure1 (.int .i64 n)
 | .nils=>pure1 (.int .i64 0)
 | .str s=>pure1 (.int .i64 s.size)
 | .own b k=>match hget H b 0 with
   | .blk _ _ n _=>some (.e k n,.int .i64 n)
   |_=>none
 |_=>none
theorem lenT_ok{H:Heap}{x:AV}{o:Ob}{av:AV}{K:AV→Prop}(h:lenT H x=some (o,av))(ho:o.holds)(hK:K av):lenA H x K:=by
 unfold lenT at h
 unfold lenA
 cases x<;>simp only[pure1]at h ⊢ <;>try (cases h;done)
 ·cases h;exact hK
 ·cases h;exact hK
 ·cases h;exact hK
 ·split at h
  ·rename_i e;cases h;simp only[e];exact⟨ho,hK⟩
  ·cases h
def frzT1(H:Heap)(x:AV):Option V1:=
 match x with
 | .own b k=>match hget H b 0 with
   | .blk _ sz n f=>some (.e k n,.arr sz n f)
   |_=>none
 | .lit b=>pure1 (.bool b)
 |av=>gd (frzOk1 av) (pure1 av)
theorem frzT1_ok{H:Heap}{x:AV}{o:Ob}{av:AV}{K:AV→Prop}(h:frzT1 H x=some (o,av))(ho:o.holds)(hK:K av):frz1 H x K:=by
 unfold frzT1 at h
 unfold frz1
 cases x<;>simp only[pure1,gd_some]at h ⊢ <;>first|(obtain⟨h1,h2⟩:=h;cases h2;exact chk_iff.2 ⟨h1,hK⟩)|(cases h;exact hK)|skip
 split at h
 ·rename_i e;cases h;simp only[e];exact⟨ho,hK⟩
 ·cases h
def frzTL(H:Heap):List AV→Option (Ob×List AV)
 |[]=>some (.tt,[])
 |x::r=>match frzT1 H x with
  |some q=>match frzTL H r with
   |some q'=>some (.and q.1 q'.1,q.2::q'.2)
   |none=>none
  |none=>none
theorem frzTL_ok{H:Heap} : ∀{xs:List AV} {o:Ob} {ys:List AV} {K:List AV→Prop},frzTL H xs=some (o,ys)→o.holds→K ys→frzL H xs K
 |[],o,ys,K,h,_,hK=>by cases h;exact hK
 |x::r,o,ys,K,h,ho,hK=>by
  simp only[frzTL]at h
  split at h<;>try (cases h;done)
  rename_i q e
  split at h<;>try (cases h;done)
  rename_i q' e'
  cases h
  exact frzT1_ok (o:=q.1) (av:=q.2) e ho.1 (frzTL_ok (o:=q'.1) (ys:=q'.2) e' ho.2 hK)
def frzT(H:Heap)(x:AV):Option V1:=
 match x with
 | .agg cs=>match frzTL H cs with
   |some q=>some (q.1,.agg q.2)
   |none=>none
 |av=>frzT1 H av
theorem frzT_ok{H:Heap}{x:AV}{o:Ob}{av:AV}{K:AV→Prop}(h:frzT H x=some (o,av))(ho:o.holds)(hK:K av):frzA H x K:=by
 unfold frzT at h
 unfold frzA
 cases x<;>simp only at h ⊢ <;>first|exact frzT1_ok h ho hK|skip
 split at h<;>try (cases h;done)
 rename_i q e
 cases h
 exact frzTL_ok (o:=q.1) (ys:=q.2) e ho hK
def frzTs(H:Heap):List AV→Option (Ob×List AV)
 |[]=>some (.tt,[])
 |x::r=>match frzT H x with
  |some q=>match frzTs H r with
   |some q'=>some (.and q.1 q'.1,q.2::q'.2)
   |none=>none
  |none=>none
theorem frzTs_ok{H:Heap} : ∀{xs:List AV} {o:Ob} {ys:List AV} {K:List AV→Prop},frzTs H xs=some (o,ys)→o.holds→K ys→frzAs H xs K
 |[],o,ys,K,h,_,hK=>by cases h;exact hK
 |x::r,o,ys,K,h,ho,hK=>by
  simp only[frzTs]at h
  split at h<;>try (cases h;done)
  rename_i q e
  split at h<;>try (cases h;done)
  rename_i q' e'
  cases h
  exact frzT_ok (o:=q.1) (av:=q.2) e ho.1 (frzTs_ok (o:=q'.1) (ys:=q'.2) e' ho.2 hK)
def resT(nb:Nat)(o:Ob)(r:AV)(ws:Ws):R1:=
 match r with
 | .blk _ sz n f=>(o,.own nb n,ws++[(nb,0,.blk false sz n f)])
 |r=>(o,r,ws)
def callT(X:XE)(H:Heap)(nb:Nat)(f:FuncId)(args:List AV):Option R1:=
 match frzTs H (args.map normA)with
 |some q=>match X.spec f q.2 with
  |some s=>some (resT nb (.and q.1 s.1) s.2 (roWs H s.2 (args.map normA)))
  |none=>none
 |none=>none
theorem callT_ok{X:XE}{H:Heap}{nb:Nat}{f:FuncId}{args:List AV}{o:Ob}{av:AV}{ws:Ws}{K:AV→Ws→Prop}(h:callT X H nb f args=some (o,av,ws))(ho:o.holds)(hK:K av ws):callA X.env H nb f args K:=by
 unfold callT at h
 split at h<;>try (cases h;done)
 rename_i q e
 split at h<;>try (cases h;done)
 rename_i s e2
 have hoq:q.1.holds∧s.1.holds:=by
  simp only[Option.some.injEq]at h
  unfold resT at h
  split at h<;>(cases h;exact ho)
 refine frzTs_ok (o:=q.1) (ys:=q.2) e hoq.1 ?_
 have e3:X.env.spec f q.2=some (some s.1.holds,s.2):=by simp only[XE.env,e2]
 simp only[e3,preP]
 refine⟨hoq.2,?_⟩
 simp only[Option.some.injEq]at h
 unfold resT at h
 unfold resA
 split at h
 ·rename_i e4
  cases h
  rw[e4]at hK ⊢
  exact hK
 ·rename_i e4
  cases h
  split
  ·rename_i e5;exact absurd e5 (e4 _ _ _ _)
  ·exact hK
def extractT(i:Nat)(x:AV):Option V1:=
 match x with
 | .tup vs=>gd (decide (i<vs.length)) (pure1 (vs.getD i .undef))
 |_=>none
theorem extractT_ok{i:Nat}{x:AV}{o:Ob}{av:AV}{K:AV→Prop}(h:extractT i x=some (o,av))(hK:K av):extractA i x K:=by
 unfold extractT at h
 unfold extractA
 cases x<;>simp only[gd_some,pure1]at h ⊢ <;>try (cases h;done)
 obtain⟨h1,h2⟩:=h
 cases h2
 exact chk_iff.2 ⟨h1,hK⟩
def srcT(E:El)(H:Heap)(str:Bool)(esz:Nat)(y:AV):Option (Ob×Nat×(Nat→List AV)):=
 match y with
 | .nils=>gd (!str) (some (.tt,0,fun _=>E.e (E.d [])))
 | .arr sz n f=>gd (!str&&decide (sz=esz)) (some (.tt,n,f))
 | .str s=>gd (str&&decide (esz=1)) (some (.tt,s.size,bytesF s))
 | .own b k=>match hget H b 0 with
   | .blk _ sz n f=>gd (!str&&decide (sz=esz)) (some (.e k n,n,f))
   |_=>none
 |_=>none
theorem srcT_ok{E:El}{H:Heap}{str:Bool}{esz:Nat}{y:AV}{o:Ob}{n:Nat}{g:Nat→List AV}{K:Nat→(Nat→List AV)→Prop}(h:srcT E H str esz y=some (o,n,g))(ho:o.holds)(hK: ∀g',(∀i,i<n→g' i=g i)→(y= .nils∨g'=g)→K n g'):srcA H str esz y K:=by
 unfold srcT at h
 unfold srcA
 cases y<;>simp only[gd_some]at h ⊢ <;>try (cases h;done)
 ·obtain⟨h1,h2⟩:=h;cases h2;exact chk_iff.2 ⟨h1,hK _ (fun _ _=>rfl) (.inr rfl)⟩
 ·obtain⟨h1,h2⟩:=h;cases h2;exact chk_iff.2 ⟨h1,hK _ (fun i hi=>absurd hi (Nat.not_lt_zero _)) (.inl rfl)⟩
 ·obtain⟨h1,h2⟩:=h;cases h2;exact chk_iff.2 ⟨h1,hK _ (fun _ _=>rfl) (.inr rfl)⟩
 ·split at h
  ·rename_i e;rw[gd_some]at h;obtain⟨h1,h2⟩:=h;cases h2;simp only[e];exact chk_iff.2 ⟨h1,ho,hK _ (fun _ _=>rfl) (.inr rfl)⟩
  ·cases h
def El.sl(E:El)(n:Nat)(f:Nat→List AV):Sl E.T:=⟨n,fun i=>E.d (f i)⟩
def notNil:AV→Bool
 | .nils=>false
 |_=>true
noncomputable def appendT(el:TypeId→Option El)(t:Ty)(str:Bool)(H:Heap)(nb:Nat)(x y:AV):Option R1:=
 match t.d with
 | .slice e esz eb=>match el e with
   |some E=>gd (Nat.ble eb 256&&Nat.blt 0 esz) (match srcT E H str esz y with
    |some (o,m,g)=>match x with
     | .nils=>gd (notNil y) (some (.and o (.and (E.canon g) (.p (m≤BIG))),.own nb m,[(nb,0,.blk false esz m fun i=>E.e ((E.sl m g).at' i))]))
     | .own b k=>match hget H b 0 with
       | .blk ro sz n f=>gd (!ro&&decide (sz=esz)) (some (.and o (.and (.e k n) (.and (E.canon f) (.and (E.canon g) (.p (n+m≤BIG))))),.own b (n+m),[(b,0,.blk false esz (n+m) fun i=>E.e (((E.sl n f).app (E.sl m g)).at' i))]))
       |_=>none
     | .capd sz n f=>gd (decide (sz=esz)) (some (.and o (.and (E.canon f) (.and (E.canon g) (.p (0<m∧n+m≤BIG)))),.own nb (n+m),[(nb,0,.blk false esz (n+m) fun i=>E.e (((E.sl n f).app (E.sl m g)).at' i))]))
     |_=>none
    |none=>none)
   |none=>none
 |_=>none
theorem appendT_ok{el:TypeId→Option El}{t:Ty}{str:Bool}{H:Heap}{nb:Nat}{x y:AV}{o:Ob}{av:AV}{ws:Ws}{K:AV→Ws→Prop}(h:appendT el t str H nb x y=some (o,av,ws))(ho:o.holds)(hK:K av ws):appendA t str H nb x y K:=by
 unfold appendT at h
 split at h<;>try (cases h;done)
 rename_i e esz eb ed
 simp only[appendA,ed]
 split at h<;>try (cases h;done)
 rename_i E eE
 rw[gd_some]at h
 refine chk_iff.2 ⟨h.1,?_⟩
 have h2:=h.2
 clear h
 split at h2<;>try (cases h2;done)
 rename_i o' m g es
 cases x<;>simp only at h2<;>try (cases h2;done)
 ·rw[gd_some]at h2
  obtain⟨hn,h2⟩:=h2
  cases h2
  refine srcT_ok es ho.1 fun g' hg hg2=>⟨ho.2.2,?_⟩
  have e1:g'=g:=hg2.resolve_left fun e=>by rw[e]at hn;cases hn
  have e2:g=fun i=>E.e (E.d (g i)):=ho.2.1
  rw[e1,e2]
  exact hK
 ·split at h2<;>try (cases h2;done)
  rename_i b k ro sz n f eb'
  rw[gd_some]at h2
  obtain⟨h3,h2⟩:=h2
  cases h2
  refine srcT_ok es ho.1 fun g' hg _=> ?_
  simp only[eb']
  refine chk_iff.2 ⟨h3,ho.2.1,ho.2.2.2.2,_,?_,hK⟩
  have e1:f=fun i=>E.e (E.d (f i)):=ho.2.2.1
  have e2:g=fun i=>E.e (E.d (g i)):=ho.2.2.2.1
  exact appOk' (e:=E.e) (s:=E.sl n f) (t:=E.sl m g) rfl rfl (fun i _=>congrFun e1 i) fun i hi=>(hg i hi).trans (congrFun e2 i)
 ·rename_i sz n f
  rw[gd_some]at h2
  obtain⟨h3,h2⟩:=h2
  cases h2
  refine srcT_ok es ho.1 fun g' hg _=> ?_
  refine chk_iff.2 ⟨h3,ho.2.2.2.1,ho.2.2.2.2,_,?_,hK⟩
  have e1:f=fun i=>E.e (E.d (f i)):=ho.2.1
  have e2:g=fun i=>E.e (E.d (g i)):=ho.2.2.1
  exact appOk' (e:=E.e) (s:=E.sl n f) (t:=E.sl m g) rfl rfl (fun i _=>congrFun e1 i) fun i hi=>(hg i hi).trans (congrFun e2 i)
def frzLsT(H:Heap):List (List AV)→Option (Ob×List (List AV))
 |[]=>some (.tt,[])
 |x::r=>match frzTL H x with
  |some q=>match frzLsT H r with
   |some q'=>some (.and q.1 q'.1,q.2::q'.2)
   |none=>none
  |none=>none
theorem frzLsT_ok{H:Heap} : ∀{xs:List (List AV)} {o:Ob} {ys:List (List AV)} {K:List (List AV)→Prop},frzLsT H xs=some (o,ys)→o.holds→K ys→frzLs H xs K
 |[],o,ys,K,h,_,hK=>by cases h;exact hK
 |x::r,o,ys,K,h,ho,hK=>by
  simp only[frzLsT]at h
  split at h<;>try (cases h;done)
  rename_i q e
  split at h<;>try (cases h;done)
  rename_i q' e'
  cases h
  exact frzTL_ok (o:=q.1) (ys:=q.2) e ho.1 (frzLsT_ok (o:=q'.1) (ys:=q'.2) e' ho.2 hK)
theorem frzLsT_len{H:Heap} : ∀{xs:List (List AV)} {o:Ob} {ys:List (List AV)},frzLsT H xs=some (o,ys)→ys.length=xs.length
 |[],o,ys,h=>by cases h;rfl
 |x::r,o,ys,h=>by
  simp only[frzLsT]at h
  split at h<;>try (cases h;done)
  split at h<;>try (cases h;done)
  rename_i q' e'
  cases h
  simp [frzLsT_len e']
noncomputable def buildSliceT(el:TypeId→Option El)(t:Ty)(tm:List AV)(H:Heap)(nb len:Nat)(ps:List (Nat×Operand)):Option R1:=
 match t.d with
 | .slice e esz _=>match el e with
   |some E=>match partsA esz tm ps 0 with
    |some l=>match frzLsT H l with
     |some q=>gd (Nat.beq l.length len&&Nat.ble len 4096&&Nat.ble esz 4096&&Nat.blt 0 esz)
      (some (.and q.1 (.e (q.2.map fun x=>cutN x (E.e (E.d x))) (q.2.map fun x=>E.e (E.d x))),.own nb len,roAs H l.flatten++[(nb,0,.blk false esz len fun i=>E.e ((have:=E.inh;Sl.lit (q.2.map E.d)).at' i))]))
     |none=>none
    |none=>none
   |none=>none
 |_=>none
theorem buildSliceT_ok{el:TypeId→Option El}{t:Ty}{tm:List AV}{H:Heap}{nb len:Nat}{ps:List (Nat×Operand)}{o:Ob}{av:AV}{ws:Ws}{K:AV→Ws→Prop}(h:buildSliceT el t tm H nb len ps=some (o,av,ws))(ho:o.holds)(hK:K av ws):buildSliceA t tm H nb len ps K:=by
 unfold buildSliceT at h
 split at h<;>try (cases h;done)
 rename_i e esz eb ed
 simp only[buildSliceA,ed]
 split at h<;>try (cases h;done)
 rename_i E eE
 split at h<;>try (cases h;done)
 rename_i l el'
 simp only[el']
 split at h<;>try (cases h;done)
 rename_i q eq
 obtain⟨qo,l'⟩:=q
 rw[gd_some]at h
 obtain⟨h1,h⟩:=h
 cases h
 refine chk_iff.2 ⟨h1,frzLsT_ok eq ho.1 ⟨_,?_,hK⟩⟩
 intro i hi
 simp only[Bool.and_eq_true]at h1
 have hl:=Nat.eq_of_beq_eq_true h1.1.1.1
 have hl2:l'.length=l.length:=frzLsT_len eq
 have ho:(l'.map fun x=>cutN x (E.e (E.d x)))=l'.map fun x=>E.e (E.d x):=ho.2
 have hi2:i<(l'.map E.d).length:=by rw[List.length_map];omega
 have:= @litOk E.T E.inh E.e (l'.map E.d) i hi2
 rw[List.map_map]at this
 rw[←this]
 have hi3:i<l'.length:=by omega
 have e2:=congrArg (fun q:List (List AV)=>q.getD i []) ho
 simp only[List.getD,List.getElem?_map,List.getElem?_eq_getElem hi3,Option.map_some,Option.getD_some]at e2
 simp only[List.getD,List.getElem?_map,List.getElem?_eq_getElem hi3,Option.map_some,Option.getD_some,Function.comp]
 exact cutN_nz e2
def makeSliceT(X:XE)(t:Ty)(tm:List AV)(nb:Nat)(l c:Operand):Option R1:=
 match t.d with
 | .slice e esz eb=>match X.ty e with
   |some te=>match evalA tm l with
    | .int _ z=>match evalA tm c with
      | .int _ z'=>gd (te.zero.all plain1&&Nat.beq te.zero.length esz&&Nat.ble esz 4096&&Nat.ble eb 4096&&Nat.blt 0 esz) (some (.and (.e z z') (.p (0≤z∧z≤4096)),.own nb z.toNat,[(nb,0,.blk false esz z.toNat fun _=>te.zero)]))
      |_=>none
    |_=>none
   |none=>none
 |_=>none
theorem makeSliceT_ok{X:XE}{t:Ty}{tm:List AV}{nb:Nat}{l c:Operand}{o:Ob}{av:AV}{ws:Ws}{K:AV→Ws→Prop}(h:makeSliceT X t tm nb l c=some (o,av,ws))(ho:o.holds)(hK:K av ws):makeSliceA X.env t tm nb l c K:=by
 unfold makeSliceT at h
 split at h<;>try (cases h;done)
 rename_i e esz eb ed
 simp only[makeSliceA,ed]
 split at h<;>try (cases h;done)
 rename_i te et
 have et':X.env.ty e=some te:=et
 simp only[et']
 split at h<;>try (cases h;done)
 rename_i k1 z ez
 split at h<;>try (cases h;done)
 rename_i k2 z' ez'
 simp only[ez,ez']
 rw[gd_some]at h
 obtain⟨h1,h⟩:=h
 cases h
 exact chk_iff.2 ⟨h1,⟨ho.1,ho.2⟩,hK⟩
def boundT(tm:List AV)(d:Int)(o:Option Operand):Option Int:=
 match o with
 |none=>some d
 |some x=>match evalA tm x with
  | .int _ z=>some z
  |_=>none
theorem boundT_ok{tm:List AV}{d z:Int}{o:Option Operand}{K:Int→Prop}(h:boundT tm d o=some z)(hK:K z):boundA tm d o K:=by
 unfold boundT at h
 unfold boundA
 split at h
 ·cases h;exact hK
 ·rename_i x
  simp only
  split at h
  ·rename_i e;cases h;simp only[e];exact hK
  ·cases h
def bound3(tm:List AV)(n:Int)(l h m:Option Operand):Option (Int×Int×Int):=
 match boundT tm 0 l with
 |some lo=>match boundT tm n h with
  |some hi=>match boundT tm hi m with
   |some mx=>some (lo,hi,mx)
   |none=>none
  |none=>none
 |none=>none
theorem bound3_ok{tm:List AV}{n lo hi mx:Int}{l h m:Option Operand}{K:Int→Int→Int→Prop}(e:bound3 tm n l h m=some (lo,hi,mx))(hK:K lo hi mx):boundA tm 0 l fun lo=>boundA tm n h fun hi=>boundA tm hi m fun mx=>K lo hi mx:=by
 unfold bound3 at e
 split at e<;>try (cases e;done)
 rename_i lo' e1
 split at e<;>try (cases e;done)
 rename_i hi' e2
 split at e<;>try (cases e;done)
 rename_i mx' e3
 cases e
 exact boundT_ok e1 (boundT_ok e2 (boundT_ok e3 hK))
def capO(c:Bool)(p q:Prop):Ob:=
 match c with
 |true=> .p (p∧q)
 |false=> .p q
theorem capO_ok{c:Bool}{p q:Prop}(h:(capO c p q).holds):q∧(c=true→p):=by
 cases c with
 |true=>exact⟨h.2,fun _=>h.1⟩
 |false=>exact⟨h,fun e=>by cases e⟩
def sliceT(t:Ty)(H:Heap)(tm:List AV)(x:AV)(l h m:Option Operand):Option R1:=
 gd (h.isSome|| !(m.isSome)) (match t.d with
 | .slice _ esz _=>match x with
   | .arr sz n f=>gd (decide (sz=esz)) (match bound3 tm n l h m with
     |some (lo,hi,mx)=>some (capO (capB m sz) (hi=mx) (0≤lo∧lo≤hi∧hi≤mx∧mx≤n),partV (capB m sz) sz (hi-lo).toNat fun i=>f (lo.toNat+i),[])
     |none=>none)
   | .nils=>match bound3 tm 0 l h m with
     |some (lo,hi,mx)=>some (.p (lo=0∧hi=0∧mx=0),.nils,[])
     |none=>none
   | .own b k=>match hget H b 0 with
     | .blk ro sz n f=>gd (decide (sz=esz)) (match bound3 tm n l h m with
       |some (lo,hi,mx)=>some (.and (.e k n) (capO (capB m sz) (hi=mx) (0≤lo∧lo≤hi∧hi≤mx∧mx≤n)),partV (capB m sz) sz (hi-lo).toNat (fun i=>f (lo.toNat+i)),[(b,0,.blk true sz n f)])
       |none=>none)
     |_=>none
   |_=>none
 | .string=>match x with
   | .str s=>match m with
     |none=>match boundT tm 0 l with
      |some lo=>match boundT tm s.size h with
       |some hi=>some (.p (0≤lo∧lo≤hi∧hi≤s.size),.str (s.extract lo.toNat hi.toNat),[])
       |none=>none
      |none=>none
     |some _=>none
   |_=>none
 |_=>none)
theorem sliceT_ok{t:Ty}{H:Heap}{tm:List AV}{x:AV}{l hh m:Option Operand}{o:Ob}{av:AV}{ws:Ws}{K:AV→Ws→Prop}(h:sliceT t H tm x l hh m=some (o,av,ws))(ho:o.holds)(hK:K av ws):sliceA t H tm x l hh m K:=by
 unfold sliceT at h
 rw[gd_some]at h
 refine chk_iff.2 ⟨h.1,?_⟩
 have h2:=h.2
 clear h
 split at h2<;>try (cases h2;done)
 ·rename_i e esz eb ed
  simp only[ed]
  cases x<;>simp only at h2 ⊢ <;>try (cases h2;done)
  ·split at h2<;>try (cases h2;done)
   rename_i lo hi mx e3
   cases h2
   exact bound3_ok e3 ⟨ho,hK⟩
  ·rw[gd_some]at h2
   obtain⟨h1,h2⟩:=h2
   refine chk_iff.2 ⟨h1,?_⟩
   split at h2<;>try (cases h2;done)
   rename_i lo hi mx e3
   cases h2
   exact bound3_ok e3 ⟨capO_ok ho,hK⟩
  ·split at h2<;>try (cases h2;done)
   rename_i ro sz n f eb'
   simp only[eb']
   rw[gd_some]at h2
   obtain⟨h1,h2⟩:=h2
   refine chk_iff.2 ⟨h1,?_⟩
   split at h2<;>try (cases h2;done)
   rename_i lo hi mx e3
   cases h2
   exact⟨ho.1,bound3_ok e3 ⟨capO_ok ho.2,hK⟩⟩
 ·rename_i ed
  simp only[ed]
  cases x<;>simp only at h2 ⊢ <;>try (cases h2;done)
  split at h2<;>try (cases h2;done)
  simp only
  split at h2<;>try (cases h2;done)
  rename_i lo e1
  split at h2<;>try (cases h2;done)
  rename_i hi e2
  cases h2
  exact boundT_ok e1 (boundT_ok e2 ⟨ho,hK⟩)
def allU8(f:Nat→List AV):Ob:= .e (fun i=>isU8 ((f i).getD 0 .undef)) fun _=>true
def convT(t u:Ty)(eu:Option Ty)(H:Heap)(x:AV):Option V1:=
 match x with
 | .int _ z=>match u.d with
   | .int k=>match t.d with
     | .int _=>pure1 (.int k (k.wrap z))
     |_=>none
   |_=>none
 | .str s=>match t.d with
   | .string=>match u.d with
     | .string=>pure1 (.str s)
     | .slice .. =>gd (byteTy u eu) (pure1 (.arr 1 s.size (bytesF s)))
     |_=>none
   |_=>none
 | .arr sz n f=>gd (u.d.isStr&&byteTy t eu&&Nat.beq sz 1) (some (allU8 f,.str (bytesOf n f)))
 | .nils=>gd (u.d.isStr&&byteTy t eu) (pure1 (.str ⟨#[]⟩))
 | .own b k'=>match hget H b 0 with
   | .blk _ sz n f=>gd (u.d.isStr&&byteTy t eu&&Nat.beq sz 1) (some (.and (.e k' n) (allU8 f),.str (bytesOf n f)))
   |_=>none
 |_=>none
theorem convT_ok{t u:Ty}{eu:Option Ty}{H:Heap}{x:AV}{o:Ob}{av:AV}{K:AV→Prop}(h:convT t u eu H x=some (o,av))(ho:o.holds)(hK:K av):convA t u eu H x K:=by
 unfold convT at h
 unfold convA
 cases x<;>simp only[pure1,gd_some]at h ⊢ <;>try (cases h;done)
 ·split at h<;>try (cases h;done)
  rename_i e1
  split at h<;>try (cases h;done)
  rename_i e2
  cases h
  simp only[e1,e2]
  exact hK
 ·split at h<;>try (cases h;done)
  rename_i e1
  split at h<;>try (cases h;done)
  ·rename_i e2
   cases h
   simp only[e1,e2]
   exact hK
  ·rename_i e2
   rw[gd_some]at h
   obtain⟨h1,h⟩:=h
   cases h
   simp only[e1,e2]
   exact chk_iff.2 ⟨h1,hK⟩
 ·obtain⟨h1,h⟩:=h
  cases h
  exact chk_iff.2 ⟨h1,hK⟩
 ·obtain⟨h1,h⟩:=h
  cases h
  exact chk_iff.2 ⟨h1,fun i _=>congrFun ho i,hK⟩
 ·split at h<;>try (cases h;done)
  rename_i e
  rw[gd_some]at h
  obtain⟨h1,h⟩:=h
  cases h
  simp only[e]
  exact chk_iff.2 ⟨h1,ho.1,fun i _=>congrFun ho.2 i,hK⟩
def minT(x y:AV):Option V1:=
 match x with
 | .int k a=>match y with
   | .int k' b=>gd (decide (k=k')) (pure1 (.int k (imin a b)))
   |_=>none
 |_=>none
theorem minT_ok{x y:AV}{o:Ob}{av:AV}{K:AV→Prop}(h:minT x y=some (o,av))(hK:K av):minA x y K:=by
 unfold minT at h
 cases x<;>simp only at h<;>try (cases h;done)
 cases y<;>simp only[gd_some,pure1]at h<;>try (cases h;done)
 obtain⟨h1,h⟩:=h
 cases h
 exact chk_iff.2 ⟨h1,hK⟩
def maxT(x y:AV):Option V1:=
 match x with
 | .int k a=>match y with
   | .int k' b=>gd (decide (k=k')) (pure1 (.int k (imax a b)))
   |_=>none
 |_=>none
theorem maxT_ok{x y:AV}{o:Ob}{av:AV}{K:AV→Prop}(h:maxT x y=some (o,av))(hK:K av):maxA x y K:=by
 unfold maxT at h
 cases x<;>simp only at h<;>try (cases h;done)
 cases y<;>simp only[gd_some,pure1]at h<;>try (cases h;done)
 obtain⟨h1,h⟩:=h
 cases h
 exact chk_iff.2 ⟨h1,hK⟩
def nilCheckT(H:Heap)(x:AV):Option V1:=
 match x with
 | .ptr .. =>pure1 x
 | .ref _=>pure1 x
 | .eptr b k _ _=>match hget H b 0 with
   | .blk _ _ n _=>some (.e k n,x)
   |_=>none
 |_=>none
theorem nilCheckT_ok{H:Heap}{x:AV}{o:Ob}{av:AV}{K:AV→Prop}(h:nilCheckT H x=some (o,av))(ho:o.holds)(hK:K av):nilCheckA H x K:=by
 unfold nilCheckT at h
 unfold nilCheckA
 cases x<;>simp only[pure1]at h ⊢ <;>try (cases h;done)
 ·cases h;exact hK
 ·split at h
  ·rename_i e;cases h;simp only[e];exact⟨ho,hK⟩
  ·cases h
 ·cases h;exact hK
def hcallT(X:XE)(H:Heap)(nb:Nat)(f:FuncId)(as:List AV):Option R1:=
 gd (nodup (blksOf H as)&&(blksOf H as).all (fun b=>liveB (H.getD b [])&&(H.getD b []).all (dom1 (mem (blksOf H as))))&&as.all (domA (mem (blksOf H as))))
  (match X.hspec f (as.map (renA (pos (blksOf H as)))) ((blksOf H as).map fun b=>(H.getD b []).map (ren1 (pos (blksOf H as))))with
  |some q=>gd (!(q.2.2.isEmpty)&&sameLen (blksOf H as) H q.2.2&&q.2.2.all (fun l=>l.all (dom1 (ltB q.2.2.length)))&&q.2.1.all (fun r=>domA (ltB q.2.2.length) r&&valOk r))
    (some (q.1,tupR (q.2.1.map (renA (sgm (blksOf H as) nb))),backWs (sgm (blksOf H as) nb) 0 q.2.2))
  |none=>none)
theorem hcallT_ok{X:XE}{H:Heap}{nb:Nat}{f:FuncId}{as:List AV}{o:Ob}{av:AV}{ws:Ws}{K:AV→Ws→Prop}(h:hcallT X H nb f as=some (o,av,ws))(ho:o.holds)(hK:K av ws):hcallA X.env H nb f as K:=by
 unfold hcallT at h
 rw[gd_some]at h
 refine chk_iff.2 ⟨h.1,?_⟩
 have h2:=h.2
 clear h
 split at h2<;>try (cases h2;done)
 rename_i q e
 have e2:X.env.hspec f (as.map (renA (pos (blksOf H as)))) ((blksOf H as).map fun b=>(H.getD b []).map (ren1 (pos (blksOf H as))))=some (some q.1.holds,q.2):=by simp only[XE.env,e]
 rw[gd_some]at h2
 obtain⟨h3,h2⟩:=h2
 cases h2
 obtain⟨q1,q2,q3⟩:=q
 rw[e2]
 exact⟨ho,chk_iff.2 ⟨h3,hK⟩⟩
def withT{α:Type _}(X:XE)(T:TypeId)(K:Ty→Option α):Option α:=
 match X.ty T with
 |some t=>K t
 |none=>none
theorem withT_some{α:Type _}{X:XE}{T:TypeId}{K:Ty→Option α}{a:α}(h:withT X T K=some a): ∃t,X.env.ty T=some t∧K t=some a:=by
 unfold withT at h
 split at h
 ·rename_i t e;exact⟨t,e,h⟩
 ·cases h
theorem withTy_of{E:Env}{T:TypeId}{t:Ty}{K:Ty→Prop}(h:E.ty T=some t)(hK:K t):withTy E T K:=by
 unfold withTy
 rw[h]
 exact hK
noncomputable def opT(X:XE)(nb:Nat)(tm:List AV)(H:Heap)(op:Op):Option R1:=
 match op with
 | .move x=>some (.tt,evalA tm x,[])
 | .assign x=>some (.tt,evalA tm x,[])
 | .pick c x y=>match evalA tm c with
   | .lit b=>match b with
     |true=>some (.tt,evalA tm x,[])
     |false=>some (.tt,evalA tm y,[])
   |_=>none
 | .alloc T=>withT X T fun t=>gd (!t.zero.isEmpty) (some (.tt,.ptr nb 0,cellsW nb t.zero 0))
 | .box _ x=>gd (valOk (evalA tm x)&& !(cellsOf (evalA tm x)).isEmpty) (some (.tt,.ptr nb 0,cellsW nb (cellsOf (evalA tm x)) 0))
 | .build T ps=>withT X T fun t=>match t.d with
   | .struct offs=>match buildT offs tm ps.toList t.zero with
     |some cs=>some (.tt,.agg cs,[])
     |none=>none
   |_=>none
 | .load T x=>withT X T fun t=>val (loadT t H (evalA tm x))
 | .store T x y=>withT X T fun t=>match storeT (X.elAt H (evalA tm x)) t H (evalA tm x) (evalA tm y)with
   |some q=>some (q.1,.undef,q.2)
   |none=>none
 | .nilCheck x=>val (nilCheckT H (evalA tm x))
 | .binOp op T x y _=>withT X T fun t=>val (binT t op (normA (evalA tm x)) (normA (evalA tm y)))
 | .unOp op _ x=>val (unT op (evalA tm x))
 | .fieldAddr T x f=>withT X T fun t=>val (fieldT t H f (evalA tm x))
 | .indexAddr T x y=>withT X T fun t=>val (indexT t H (evalA tm x) (evalA tm y))
 | .index T x y=>withT X T fun t=>val (idxT X.ty t (evalA tm x) (evalA tm y))
 | .extract x i=>val (extractT i (evalA tm x))
 | .buildSlice T len ps=>withT X T fun t=>buildSliceT X.el t tm H nb len ps.toList
 | .makeSlice T l c=>withT X T fun t=>makeSliceT X t tm nb l c
 | .slice T x l h m=>withT X T fun t=>sliceT t H tm (evalA tm x) l h m
 | .convert Ts Td x=>withT X Ts fun t=>withT X Td fun u=>val (convT t u (elemTy X.env t u) H (evalA tm x))
 | .makeFunc fn first captured=>match fn with
   | .func f=>gd (first.toList.isEmpty&&(captured.toList.map (evalA tm)).all capOk2) (some (.tt,.fn f (captured.toList.map (evalA tm)),[]))
   |_=>none
 | .call c=>match c.callee with
   | .value x=>match evalA tm x with
     | .fn f caps=>match isH X.ho f (c.args.toList.map (evalA tm)++caps)with
       |true=>hcallT X H nb f (c.args.toList.map (evalA tm)++caps)
       |false=>gd (caps.all capOk) (callT X H nb f (c.args.toList.map (evalA tm)++caps))
     |_=>none
   | .builtin b=>match b with
     | .len=>match c.args.toList with
       |[x]=>match c.argTypes.toList with
        |[T]=>withT X T fun t=>gd (lenTyOk t (evalA tm x)) (val (lenT H (evalA tm x)))
        |_=>none
       |_=>none
     | .append=>match c.args.toList with
       |[x,y]=>match c.argTypes.toList with
        |[T,T2]=>withT X T fun t=>withT X T2 fun t2=>gd (t2.d.isStr||t2.d.isSl) (appendT X.el t t2.d.isStr H nb (evalA tm x) (evalA tm y))
        |_=>none
       |_=>none
     | .min=>match c.args.toList with
       |[x,y]=>val (minT (evalA tm x) (evalA tm y))
       |_=>none
     | .max=>match c.args.toList with
       |[x,y]=>val (maxT (evalA tm x) (evalA tm y))
       |_=>none
     |_=>none
   |_=>none
 |_=>none
theorem opT_ok{X:XE}{nb:Nat}{tm:List AV}{H:Heap}{op:Op}{o:Ob}{av:AV}{ws:Ws}{K:AV→Ws→Prop}(h:opT X nb tm H op=some (o,av,ws))(ho:o.holds)(hK:K av ws):aop X.env nb tm H op K:=by
 cases op<;>simp only[opT]at h<;>try (cases h;done)
 case move x=>cases h;exact hK
 case assign x=>cases h;exact hK
 case pick c x y=>
  split at h<;>try (cases h;done)
  rename_i b e
  simp only[aop,e]
  cases b<;>(cases h;exact hK)
 case alloc T=>
  obtain⟨t,h1,h2⟩:=withT_some h
  rw[gd_some]at h2
  obtain⟨h3,h2⟩:=h2
  cases h2
  exact withTy_of h1 (chk_iff.2 ⟨h3,hK⟩)
 case box T x=>
  rw[gd_some]at h
  obtain⟨h3,h2⟩:=h
  cases h2
  exact chk_iff.2 ⟨h3,hK⟩
 case build T ps=>
  obtain⟨t,h1,h2⟩:=withT_some h
  refine withTy_of h1 ?_
  split at h2<;>try (cases h2;done)
  rename_i offs e
  simp only[e]
  split at h2<;>try (cases h2;done)
  rename_i cs e2
  cases h2
  exact buildT_ok e2 hK
 case load T x=>
  obtain⟨t,h1,h2⟩:=withT_some h
  obtain⟨h3,rfl⟩:=val_some.1 h2
  exact withTy_of h1 (loadT_ok (K:=fun av=>K av []) h3 ho hK)
 case store T x y=>
  obtain⟨t,h1,h2⟩:=withT_some h
  split at h2<;>try (cases h2;done)
  rename_i q e
  cases h2
  exact withTy_of h1 (storeT_ok (o:=q.1) (ws:=q.2) e ho hK)
 case nilCheck x=>
  obtain⟨h3,rfl⟩:=val_some.1 h
  exact nilCheckT_ok (K:=fun av=>K av []) h3 ho hK
 case binOp op T x y T'=>
  obtain⟨t,h1,h2⟩:=withT_some h
  obtain⟨h3,rfl⟩:=val_some.1 h2
  exact withTy_of h1 (binT_ok (K:=fun av=>K av []) h3 ho hK)
 case unOp op T x=>
  obtain⟨h3,rfl⟩:=val_some.1 h
  exact unT_ok (K:=fun av=>K av []) h3 hK
 case fieldAddr T x f=>
  obtain⟨t,h1,h2⟩:=withT_some h
  obtain⟨h3,rfl⟩:=val_some.1 h2
  exact withTy_of h1 (fieldT_ok (K:=fun av=>K av []) h3 ho hK)
 case indexAddr T x y=>
  obtain⟨t,h1,h2⟩:=withT_some h
  obtain⟨h3,rfl⟩:=val_some.1 h2
  exact withTy_of h1 (indexT_ok (K:=fun av=>K av []) h3 ho hK)
 case index T x y=>
  obtain⟨t,h1,h2⟩:=withT_some h
  obtain⟨h3,rfl⟩:=val_some.1 h2
  exact withTy_of h1 (idxT_ok (K:=fun av=>K av []) h3 hK)
 case extract x i=>
  obtain⟨h3,rfl⟩:=val_some.1 h
  exact extractT_ok (K:=fun av=>K av []) h3 hK
 case buildSlice T len ps=>
  obtain⟨t,h1,h2⟩:=withT_some h
  exact withTy_of h1 (buildSliceT_ok h2 ho hK)
 case makeSlice T l c=>
  obtain⟨t,h1,h2⟩:=withT_some h
  exact withTy_of h1 (makeSliceT_ok h2 ho hK)
 case slice T x l hh m=>
  obtain⟨t,h1,h2⟩:=withT_some h
  exact withTy_of h1 (sliceT_ok h2 ho hK)
 case convert Ts Td x=>
  obtain⟨t,h1,h2⟩:=withT_some h
  obtain⟨u,h3,h4⟩:=withT_some h2
  obtain⟨h5,rfl⟩:=val_some.1 h4
  exact withTy_of h1 (withTy_of h3 (convT_ok (K:=fun av=>K av []) h5 ho hK))
 case makeFunc fn first captured=>
  cases fn<;>simp only at h<;>try (cases h;done)
  rw[gd_some]at h
  obtain⟨h3,h2⟩:=h
  cases h2
  exact chk_iff.2 ⟨h3,hK⟩
 case call c=>
  simp only[aop]
  cases ec:c.callee with
  |value f=>
   rw[ec]at h
   simp only at h ⊢
   unfold callV
   split at h<;>try (cases h;done)
   rename_i g caps ef
   simp only[ef]
   have eho:X.env.ho=X.ho:=rfl
   rw[eho]
   cases ep:isH X.ho g (c.args.toList.map (evalA tm)++caps)with
   |true=>rw[ep]at h;exact hcallT_ok h ho hK
   |false=>
    rw[ep]at h
    simp only[gd_some]at h
    exact chk_iff.2 ⟨h.1,callT_ok h.2 ho hK⟩
  |invoke r m=>rw[ec]at h;cases h
  |builtin b=>
   rw[ec]at h
   cases b<;>simp only at h ⊢ <;>try (cases h;done)
   case append=>
    split at h<;>try (cases h;done)
    rename_i x y e1
    split at h<;>try (cases h;done)
    rename_i T T2 e2
    obtain⟨t,h1,h2⟩:=withT_some h
    obtain⟨u,h3,h4⟩:=withT_some h2
    rw[gd_some]at h4
    simp only[e1,e2]
    exact withTy_of h1 (withTy_of h3 (chk_iff.2 ⟨h4.1,appendT_ok h4.2 ho hK⟩))
   case min=>
    split at h<;>try (cases h;done)
    rename_i x y e1
    obtain⟨h3,rfl⟩:=val_some.1 h
    simp only[e1]
    exact minT_ok (K:=fun av=>K av []) h3 hK
   case max=>
    split at h<;>try (cases h;done)
    rename_i x y e1
    obtain⟨h3,rfl⟩:=val_some.1 h
    simp only[e1]
    exact maxT_ok (K:=fun av=>K av []) h3 hK
   case len=>
    split at h<;>try (cases h;done)
    rename_i x e1
    split at h<;>try (cases h;done)
    rename_i T e2
    obtain⟨t,h1,h2⟩:=withT_some h
    rw[gd_some]at h2
    obtain⟨h5,rfl⟩:=val_some.1 h2.2
    simp only[e1,e2]
    exact withTy_of h1 (chk_iff.2 ⟨h2.1,lenT_ok h5 ho hK⟩)
end Go.Vc
namespace Go.Vc
open Go Go.RowKit
def guardT(ops:Array Oper)(o:Oper)(tm:List AV):Option Bool:=
 match o.guard with
 |none=>some true
 |some (j,want)=>match(ops[j]?).bind (·.dst)with
  |some d=>match tm.getD d .undef with
   | .lit b=>some (b==want)
   | .gone=>some false
   |_=>none
  |none=>none
def litS(used:Bool)(av:AV):Option Bool:=
 match used with
 |true=>match av with
  | .bool b=>some b
  |_=>none
 |false=>none
def deadOp:Op→Bool
 | .panic .. =>true
 | .makeInterface .. =>true
 |_=>false
abbrev RL:=Option (St×List Rec)
def runW(b:Nat):Nat→Ws→List AV×Ws
 |_,[]=>([],[])
 |o,x::r=>match Nat.beq x.1 b&&Nat.beq x.2.1 o with
  |true=>(x.2.2::(runW b (o+1) r).1,(runW b (o+1) r).2)
  |false=>([],x::r)
def hwrN:Nat→Heap→Ws→Heap
 |0,H,ws=>hwr H ws
 |n+1,H,ws=>match ws with
  |[]=>H
  |x::r=>match x.2.1 with
   |0=>hwrN n (setAt [] H x.1 (x.2.2::(runW x.1 1 r).1++(H.getD x.1 []).drop ((runW x.1 1 r).1.length+1))) (runW x.1 1 r).2
   |o+1=>hwrN n (hset H x.1 (o+1) x.2.2) r
def hwrB(H:Heap)(ws:Ws):Heap:=hwrN ws.length H ws
theorem setAt_mid{α:Type}(d:α)(x:α): ∀(p r:List α),setAt d (p++r) p.length x=p++x::r.drop 1
 |[],[]=>rfl
 |[],_::_=>rfl
 |a::p,r=>by simp only[List.cons_append,List.length_cons,setAt,setAt_mid d x p r]
theorem getD_setAt_self{α:Type}(d x e:α)(l:List α)(i:Nat):(setAt d l i x).getD i e=x:=by
 induction l generalizing i with
 |nil=>
  induction i with
  |zero=>rfl
  |succ i ih=>simpa[setAt]using ih
 |cons a l ih=>
  cases i with
  |zero=>rfl
  |succ i=>simpa[setAt]using ih i
theorem run_eq(b:Nat): ∀(r:Ws) (H:Heap) (p q:List AV),hwr (setAt [] H b (p++q)) r=hwr (setAt [] H b (p++(runW b p.length r).1++q.drop (runW b p.length r).1.length)) (runW b p.length r).2
 |[],H,p,q=>by simp [runW]
 |x::r,H,p,q=>by
  unfold runW
  cases e:(Nat.beq x.1 b&&Nat.beq x.2.1 p.length)with
  |false=>simp
  |true=>
   simp only[Bool.and_eq_true]at e
   have e1:=Nat.eq_of_beq_eq_true e.1
   have e2:=Nat.eq_of_beq_eq_true e.2
   obtain⟨b',o',c⟩:=x
   simp only at e1 e2
   subst e1 e2
   have h:=run_eq b' r H (p++[c]) (q.drop 1)
   have hl:(p++[c]).length=p.length+1:=by simp
   rw[hl]at h
   show hwr (hset (setAt [] H b' (p++q)) b' p.length c) r=_
   unfold hset
   rw[getD_setAt_self,setAt_setAt,setAt_mid]
   simp only[List.append_assoc,List.singleton_append]at h
   rw[h]
   simp only[List.length_cons,List.drop_drop,List.append_assoc,List.cons_append,Nat.add_comm]
theorem hwrN_eq: ∀(n:Nat) (H:Heap) (ws:Ws),hwrN n H ws=hwr H ws
 |0,_,_=>rfl
 |n+1,H,[]=>rfl
 |n+1,H,(b,o,c)::r=>by
  unfold hwrN
  cases o with
  |zero=>
   simp only
   rw[hwrN_eq n]
   show _=hwr (hset H b 0 c) r
   unfold hset
   have h0:setAt .undef (H.getD b []) 0 c=[c]++(H.getD b []).drop 1:=by
    cases H.getD b []<;>rfl
   rw[h0]
   have h:=run_eq b r H [c] ((H.getD b []).drop 1)
   rw[h]
   simp only[List.length_cons,List.length_nil,Nat.zero_add,List.drop_drop,List.cons_append,List.nil_append,Nat.add_comm]
  |succ o=>
   simp only
   rw[hwrN_eq n]
   rfl
theorem hwrB_eq(H:Heap)(ws:Ws):hwrB H ws=hwr H ws:=hwrN_eq _ _ _
noncomputable def opsT(X:XE)(ops:Array Oper):List Oper→Nat→St→List Rec→Option (Ob×T RL)
 |[],_,st,rs=>some (.tt,.lf (some (st,rs)))
 |o::rest,i,st,rs=>match guardT ops o st.tm with
  |none=>none
  |some g=>match g with
   |false=>opsT X ops rest (i+1) ⟨dstA o.dst .gone st.tm,st.hp⟩ (⟨.gone,[],[],[],0,false⟩::rs)
   |true=>match deadOp o.op with
    |true=>some (.p False,.lf none)
    |false=>match opT X (nbOf st.tm st.hp o.op) st.tm st.hp o.op with
     |none=>none
     |some r=>match litS (usedB rest i) r.2.1 with
      |some b=>match opsT X ops rest (i+1) ⟨dstA o.dst (.lit true) st.tm,hwrB st.hp r.2.2⟩ (⟨.lit true,r.2.2,rdA X.env st.tm o.op,rdB st.tm st.hp o.op,nbOf st.tm st.hp o.op,true⟩::rs)with
       |none=>none
       |some q1=>match opsT X ops rest (i+1) ⟨dstA o.dst (.lit false) st.tm,hwrB st.hp r.2.2⟩ (⟨.lit false,r.2.2,rdA X.env st.tm o.op,rdB st.tm st.hp o.op,nbOf st.tm st.hp o.op,true⟩::rs)with
        |none=>none
        |some q2=>some (.and r.1 (.and (.imp b true q1.1) (.imp b false q2.1)),.br b q1.2 q2.2)
      |none=>match opsT X ops rest (i+1) ⟨dstA o.dst r.2.1 st.tm,hwrB st.hp r.2.2⟩ (⟨r.2.1,r.2.2,rdA X.env st.tm o.op,rdB st.tm st.hp o.op,nbOf st.tm st.hp o.op,true⟩::rs)with
       |none=>none
       |some q=>some (.and r.1 q.1,q.2)
theorem guardA_run{ops:Array Oper}{o:Oper}{st:St}{run skip:Prop}(h:guardT ops o st.tm=some true)(k:run):guardA ops o st run skip:=by
 unfold guardT at h
 unfold guardA
 split at h
 ·rename_i e;simp only[e];exact k
 ·rename_i j want e
  simp only[e]
  split at h<;>try (cases h;done)
  rename_i d e2
  simp only[e2]
  split at h<;>try (cases h;done)
  rename_i b e3
  simp only[e3]
  simp only[Option.some.injEq]at h
  simp only[h]
  exact k
theorem guardA_skip{ops:Array Oper}{o:Oper}{st:St}{run skip:Prop}(h:guardT ops o st.tm=some false)(k:skip):guardA ops o st run skip:=by
 unfold guardT at h
 unfold guardA
 split at h
 ·cases h
 ·rename_i j want e
  simp only[e]
  split at h<;>try (cases h;done)
  rename_i d e2
  simp only[e2]
  split at h<;>try (cases h;done)
  ·rename_i b e3
   simp only[e3]
   simp only[Option.some.injEq]at h
   simp only[h]
   exact k
  ·rename_i e3
   simp only[e3]
   exact k
theorem litA_of{used:Bool}{av:AV}{K:AV→Prop}(h:match litS used av with
  |some b=>(b=true→K (.lit true))∧(b=false→K (.lit false))
  |none=>K av):litA used av K:=by
 unfold litS at h
 unfold litA
 cases used
 ·exact h
 ·simp only at h ⊢
  cases av<;>exact h
theorem opsT_draw{X:XE}{ops:Array Oper}{K:List Rec→St→Prop} : ∀(l:List Oper) (i:Nat) (st:St) (rs:List Rec) (o:Ob) (t:T RL),opsT X ops l i st rs=some (o,t)→o.holds→
  (∀s rs',t.sel=some (s,rs')→K rs'.reverse s)→adrawRun X.env ops l i st rs K
 |[],i,st,rs,o,t,h,ho,hK=>by
  cases h
  exact hK st rs rfl
 |p::l,i,st,rs,o,t,h,ho,hK=>by
  simp only[opsT,hwrB_eq]at h
  simp only[adrawRun]
  split at h<;>try (cases h;done)
  rename_i g eg
  split at h
  ·exact guardA_skip eg (opsT_draw l _ _ _ o t h ho hK)
  ·refine guardA_run eg ?_
   split at h
   ·cases h;exact ho.elim
   split at h<;>try (cases h;done)
   rename_i r er
   obtain⟨ro,rav,rws⟩:=r
   split at h
   ·rename_i b eb
    split at h<;>try (cases h;done)
    rename_i q1 e1
    split at h<;>try (cases h;done)
    rename_i q2 e2
    cases h
    refine opT_ok er ho.1 (litA_of ?_)
    simp only at eb
    simp only[eb]
    constructor
    ·intro hb
     subst hb
     exact opsT_draw l _ _ _ q1.1 q1.2 e1 (ho.2.1 rfl) fun s rs' hs=>hK s rs' hs
    ·intro hb
     subst hb
     exact opsT_draw l _ _ _ q2.1 q2.2 e2 (ho.2.2 rfl) fun s rs' hs=>hK s rs' hs
   ·rename_i eb
    split at h<;>try (cases h;done)
    rename_i q e1
    cases h
    refine opT_ok er ho.1 (litA_of ?_)
    simp only at eb
    simp only[eb]
    exact opsT_draw l _ _ _ q.1 q.2 e1 ho.2 hK
theorem opsT_seq{X:XE}{ops:Array Oper}{K:St→Prop} : ∀(l:List Oper) (i:Nat) (st:St) (rs:List Rec) (o:Ob) (t:T RL),opsT X ops l i st rs=some (o,t)→o.holds→
  (∀s rs',t.sel=some (s,rs')→K s)→aops X.env ops l i st K
 |[],i,st,rs,o,t,h,ho,hK=>by
  cases h
  exact hK st rs rfl
 |p::l,i,st,rs,o,t,h,ho,hK=>by
  simp only[opsT,hwrB_eq]at h
  simp only[aops]
  split at h<;>try (cases h;done)
  rename_i g eg
  split at h
  ·exact guardA_skip eg (opsT_seq l _ _ _ o t h ho hK)
  ·refine guardA_run eg ?_
   split at h
   ·cases h;exact ho.elim
   split at h<;>try (cases h;done)
   rename_i r er
   obtain⟨ro,rav,rws⟩:=r
   split at h
   ·rename_i b eb
    split at h<;>try (cases h;done)
    rename_i q1 e1
    split at h<;>try (cases h;done)
    rename_i q2 e2
    cases h
    refine opT_ok er ho.1 (litA_of ?_)
    simp only at eb
    simp only[eb]
    constructor
    ·intro hb
     subst hb
     exact opsT_seq l _ _ _ q1.1 q1.2 e1 (ho.2.1 rfl) fun s rs' hs=>hK s rs' hs
    ·intro hb
     subst hb
     exact opsT_seq l _ _ _ q2.1 q2.2 e2 (ho.2.2 rfl) fun s rs' hs=>hK s rs' hs
   ·rename_i eb
    split at h<;>try (cases h;done)
    rename_i q e1
    cases h
    refine opT_ok er ho.1 (litA_of ?_)
    simp only at eb
    simp only[eb]
    exact opsT_seq l _ _ _ q.1 q.2 e1 ho.2 hK
inductive Lf where
 |nrm (s:St)
 |ext (id:Nat) (s:St)
 |ret (vs:List AV)
 |dead
structure Res where
 o:Ob
 f:Option Prop
 t:T Lf
def Res.bad:Res:=⟨.p False,none,.lf .dead⟩
def T.allB{α:Type _}(f:α→Bool):T α→Bool
 | .lf a=>f a
 | .br _ l r=>match l.allB f with
   |true=>r.allB f
   |false=>false
theorem T.allB_sel{α:Type _}{f:α→Bool} : ∀{t:T α},t.allB f=true→f t.sel=true
 | .lf _,h=>h
 | .br b l r,h=>by
   simp only[T.allB]at h
   split at h
   ·rename_i e
    cases b
    ·exact T.allB_sel (t:=r) h
    ·exact T.allB_sel (t:=l) e
   ·cases h
def lfOf:RL→Lf
 |some q=> .nrm q.1
 |none=> .dead
noncomputable def regionT(X:XE)(ops:Array Oper)(draw:Bool)(st:St):Res:=
 match opsT X ops ops.toList 0 st []with
 |none=> .bad
 |some q=>match draw with
  |false=>⟨q.1,none,q.2.map lfOf⟩
  |true=>match q.2.allB (fun x=>match x with
    |some y=>indep st.hp ops y.2.reverse
    |none=>true)with
   |true=>⟨q.1,none,q.2.map lfOf⟩
   |false=> .bad
theorem regionT_ok{X:XE}(hE:X.env.Ok){id:Nat}{ops:Array Oper}{draw:Bool}{st:St}{Q:Exit→St→Prop}(ho:(regionT X ops draw st).o.holds)(hQ: ∀s,(regionT X ops draw st).t.sel= .nrm s→Q .normal s):WP X.env (.region id ops draw) Q st:=by
 unfold regionT at ho hQ
 refine WP.of_awp hE ?_
 simp only[awp]
 split at ho
 ·exact ho.elim
 ·rename_i q e
  obtain⟨o,t⟩:=q
  simp only[e]at hQ
  cases draw with
  |false=>
   simp only at hQ ho ⊢
   exact opsT_seq _ _ _ _ o t e ho fun s rs' hs=>hQ s (by rw[T.sel_map,hs];rfl)
  |true=>
   simp only at hQ ho ⊢
   split at ho
   ·rename_i eb
    simp only[eb]at hQ
    refine opsT_draw _ _ _ _ o t e ho fun s rs' hs=>⟨?_,hQ s (by rw[T.sel_map,hs];rfl)⟩
    have:=T.allB_sel eb
    rw[hs]at this
    exact this
   ·exact ho.elim
/-! States, cell by cell. -/
inductive Key where
 |t (i:Nat)
 |c (i j:Nat)
 |h (b o:Nat)
 |b (b:Nat)
def getK(s:St)(k:Key):AV:=
 match k with
 | .t i=>s.tm.getD i .undef
 | .c i j=>match s.tm.getD i .undef with
   | .agg cs=>cs.getD j .undef
   |_=> .undef
 | .h b o=>hget s.hp b o
 | .b _=> .undef
def setL(l:List AV)(i:Nat)(v:AV):List AV:=
 match l,i with
 |[],_=>[]
 |_::r,0=>v::r
 |x::r,i+1=>x::setL r i v
def setH(H:Heap)(b:Nat)(f:List AV→List AV):Heap:=
 match H,b with
 |[],_=>[]
 |l::r,0=>f l::r
 |l::r,b+1=>l::setH r b f
def putK(s:St)(k:Key)(v:AV):St:=
 match k with
 | .t i=>⟨setL s.tm i v,s.hp⟩
 | .c i j=>match s.tm.getD i .undef with
   | .agg cs=>⟨setL s.tm i (.agg (setL cs j v)),s.hp⟩
   |_=>s
 | .h b o=>⟨s.tm,setH s.hp b fun l=>setL l o v⟩
 | .b b=>⟨s.tm,setH s.hp b fun _=>[]⟩
def putAll:St→List Key→List AV→St
 |s,k::ks,v::vs=>putAll (putK s k v) ks vs
 |s,_,_=>s
def dropAll:St→List Key→St
 |s,[]=>s
 |s,k::ks=>dropAll (putK s k .undef) ks
def keepL(m:Nat):List AV→List AV
 |[]=>[]
 |x::r=>(match Nat.beq (m%2) 1 with
  |true=>x
  |false=> .undef)::keepL (m/2) r
def ref1(H:Heap)(x:AV):AV:=
 match x with
 | .own b _=>match hget H b 0 with
   | .blk _ _ n _=> .own b n
   |_=> .undef
 | .eptr b _ i o=>match hget H b 0 with
   | .blk _ _ n _=> .eptr b n i o
   |_=> .undef
 |x=>x
def refA(H:Heap)(x:AV):AV:=
 match x with
 | .agg cs=> .agg (cs.map (ref1 H))
 |x=>ref1 H x
def refresh(s:St):St:=⟨s.tm.map (refA s.hp),s.hp.map fun l=>l.map (ref1 s.hp)⟩
def mkS(base:St)(ks:List Key)(vs:List AV):St:=refresh (putAll base ks vs)
def getAll(s:St):List Key→List AV
 |[]=>[]
 |k::ks=>getK s k::getAll s ks
def leafV(ks:List (Key×Kd))(s:St):Option (List AV):=nrmL (ks.map (·.2)) (getAll s (ks.map (·.1)))
def cutO(s m:St):Ob:= .e (cutS s m) (some m)
theorem cutO_le{s m:St}{k:Nat}(h:(cutO s m).holds)(hp:pinOk k m=true):Le k s m:=LeS.le (leE h) hp
def colK(k:Kd)(m:Mk)(t:T AV):Option (Eo×AV):=
 match t.allB (fun x=>(k.rd x).isSome)with
 |true=>some ((t.map fun x=>(k.rd x).getD k.dflt).collO m,k.av ((t.map fun x=>(k.rd x).getD k.dflt).coll m))
 |false=>none
theorem colK_ok{k:Kd}{m:Mk}{t:T AV}{o:Eo}{v:AV}(h:colK k m t=some (o,v))(ho:o.holds):k.nrm t.sel=some v:=by
 unfold colK at h
 split at h
 ·rename_i e
  have h1:=T.allB_sel e
  cases h
  rw[T.coll_ok ho,T.sel_map]
  unfold Kd.nrm
  cases e2:k.rd t.sel with
  |none=>rw[e2]at h1;cases h1
  |some v=>rfl
 ·cases h
def colAll:List Kd→List Mk→T (List AV)→Option (Eo×List AV)
 |[],_,_=>some (.tt,[])
 |k::ks,ms,t=>match colK k (ms.headD .f) (t.map fun l=>l.headD .undef)with
  |some q=>match colAll ks ms.tail (t.map List.tail)with
   |some q'=>some (.and q.1 q'.1,q.2::q'.2)
   |none=>none
  |none=>none
theorem colAll_ok: ∀{ks:List Kd} {ms:List Mk} {t:T (List AV)} {o:Eo} {vs:List AV},colAll ks ms t=some (o,vs)→o.holds→t.sel.length=ks.length→nrmL ks t.sel=some vs
 |[],ms,t,o,vs,h,ho,hl=>by
  cases h
  have:t.sel=[]:=List.eq_nil_of_length_eq_zero (by simpa using hl)
  rw[this];rfl
 |k::ks,ms,t,o,vs,h,ho,hl=>by
  simp only[colAll]at h
  split at h<;>try (cases h;done)
  rename_i q e
  split at h<;>try (cases h;done)
  rename_i q' e'
  cases h
  have h1:=colK_ok (o:=q.1) (v:=q.2) e ho.1
  rw[T.sel_map]at h1
  cases hs:t.sel with
  |nil=>rw[hs]at hl;cases hl
  |cons x xs=>
   have h2:=colAll_ok (ks:=ks) (o:=q'.1) (vs:=q'.2) e' ho.2 (by rw[T.sel_map,hs];simpa[hs]using hl)
   rw[T.sel_map,hs]at h2
   rw[hs]at h1
   simp only[List.headD_cons]at h1
   simp only[List.tail_cons]at h2
   simp only[nrmL,h1,h2]
def T.obs{α:Type _}(f:α→Ob):T α→Ob
 | .lf a=>f a
 | .br b l r=> .and (.imp b true (l.obs f)) (.imp b false (r.obs f))
theorem T.obs_sel{α:Type _}{f:α→Ob} : ∀{t:T α},(t.obs f).holds→(f t.sel).holds
 | .lf _,h=>h
 | .br b l r,h=>by
   cases b
   ·exact T.obs_sel (t:=r) (h.2 rfl)
   ·exact T.obs_sel (t:=l) (h.1 rfl)
def T.obs0{α:Type _}(f:α→Ob):T α→Ob
 | .lf a=>f a
 | .br _ l r=> .and (l.obs0 f) (r.obs0 f)
theorem T.obs0_sel{α:Type _}{f:α→Ob} : ∀{t:T α},(t.obs0 f).holds→(f t.sel).holds
 | .lf _,h=>h
 | .br b l r,h=>by
   cases b
   ·exact T.obs0_sel (t:=r) h.2
   ·exact T.obs0_sel (t:=l) h.1
structure Jn where
 keep:Nat
 drop:List Key
 ks:List (Key×Kd)
 ms:List Mk
 pm:Mk:= .f
def trimH:Heap→Heap
 |[]=>[]
 |l::r=>match trimH r with
  |[]=>match l with
   |[]=>[]
   |x::y=>[x::y]
  |a::b=>l::a::b
def trimS(s:St):St:=⟨s.tm,trimH s.hp⟩
def baseOf(keep:Nat)(drop:List Key)(s:St):St:=trimS (dropAll ⟨keepL keep s.tm,s.hp⟩ drop)
def meet(m:Nat)(J:Jn)(t:T St):Option (Ob×St):=
 match t.allB (fun s=>(leafV J.ks s).isSome)with
 |false=>none
 |true=>match colAll (J.ks.map (·.2)) J.ms (t.map fun s=>getAll s (J.ks.map (·.1)))with
  |none=>none
  |some q=>match pinOk m (mkS (baseOf J.keep J.drop t.first) (J.ks.map (·.1)) q.2)with
   |true=>some (.and (.es fun _:Unit=>q.1) (t.obs0 fun s=>cutO s (mkS (baseOf J.keep J.drop t.first) (J.ks.map (·.1)) ((leafV J.ks s).getD []))),mkS (baseOf J.keep J.drop t.first) (J.ks.map (·.1)) q.2)
   |false=>none
theorem getAll_length(s:St): ∀ks:List Key,(getAll s ks).length=ks.length
 |[]=>rfl
 |_::ks=>by simp [getAll,getAll_length s ks]
theorem meet_ok{m:Nat}{J:Jn}{t:T St}{o:Ob}{mid:St}(h:meet m J t=some (o,mid))(ho:o.holds):Le m t.sel mid:=by
 unfold meet at h
 split at h<;>try (cases h;done)
 rename_i hs
 split at h<;>try (cases h;done)
 rename_i q eq
 split at h<;>try (cases h;done)
 rename_i hp
 cases h
 have h1:=colAll_ok (o:=q.1) (vs:=q.2) eq (ho.1 ()) (by rw[T.sel_map,getAll_length];simp)
 rw[T.sel_map]at h1
 have h2:=T.obs0_sel (t:=t) ho.2
 have h3:leafV J.ks t.sel=some q.2:=h1
 rw[h3]at h2
 exact cutO_le h2 hp
end Go.Vc
namespace Go.Vc
open Go Go.RowKit
section
variable {S:Base} {ι:Nat→Option Nat} {st:St} {a:Act} {w:World}
theorem Le.frz{m:Nat}{ys zs:List AV}{H:Heap}{o:Ob}(h:frzTs H ys=some (o,zs))(ho:o.holds):Le m ⟨ys,H⟩ ⟨zs,hwr H (roAs H ys)⟩:=by
 intro S _ ι a w hs
 obtain⟨h1,hst⟩:=hs.freeze (H':=hwr H (roAs H ys)) (roAs_get ys) (hwr_len _ _)
 have hlen: ∃vs:List Value,All2 (VR S ι (hwr H (roAs H ys)) w) ys vs∧ ∀(t:Nat) v,vs[t]? =some v→a.tmps[t]? =some v:=by
  have key: ∀(l:List AV) (k:Nat),(∀(t:Nat) av,l[t]? =some av→ ∃v,a.tmps[k+t]? =some v∧VR S ι (hwr H (roAs H ys)) w av v)→ ∃vs:List Value,All2 (VR S ι (hwr H (roAs H ys)) w) l vs∧ ∀(t:Nat) v,vs[t]? =some v→a.tmps[k+t]? =some v:=by
   intro l
   induction l with
   |nil=>exact fun k _=>⟨[],trivial,fun t v h=>by simp at h⟩
   |cons x l ih=>
    intro k hk
    obtain⟨v,g1,g2⟩:=hk 0 x rfl
    obtain⟨vs,g3,g4⟩:=ih (k+1) fun t av ht=>by
     obtain⟨v,q1,q2⟩:=hk (t+1) av (by simpa using ht)
     exact⟨v,by rw[show k+1+t=k+(t+1) by omega];exact q1,q2⟩
    refine⟨v::vs,⟨g2,g3⟩,fun t u ht=> ?_⟩
    cases t with
    |zero=>simp at ht;subst ht;exact g1
    |succ t=>rw[show k+(t+1)=k+1+t by omega];exact g4 t u (by simpa using ht)
  obtain⟨vs,g1,g2⟩:=key ys 0 fun t av ht=>by
   obtain⟨v,q1,q2⟩:=hs.tm t av ht
   exact⟨v,by simpa using q1,q2.step hst⟩
  exact⟨vs,g1,fun t v ht=>by simpa using g2 t v ht⟩
 obtain⟨vs,g1,g2⟩:=hlen
 obtain⟨zs',e,g3⟩:=frzAsR (H:=H) h1 ys vs (fun l=>l=zs) (fun b hb ro sz n f he=>roAs_own hb he) g1 (frzTs_ok (K:=fun l=>l=zs) h ho rfl)
 subst e
 refine⟨ι,h1.below,h1.defers,fun t av ht=> ?_,h1.hp,h1.inj,h1.fresh,h1.dom,h1.hist⟩
 obtain⟨v,q1,q2⟩:=g3.get t av ht
 exact⟨v,g2 t v q1,VRel.of_VRel1 (VRel1.of_ARel q2)⟩
end
/-! Cells that are called by other names: a nil slice is the call's own from now on; a slice of the call's own is data. -/
def convK(s:St)(k:Key)(E:El):Option (Ob×St):=
 match getK s k with
 | .nils=>match k with
   | .t i=>some (.tt,⟨s.tm.set i (.own s.hp.length 0),hset s.hp s.hp.length 0 (.blk false E.sz 0 fun i=>E.e ((@nilSl E.T E.inh).at' i))⟩)
   | .h b o=>gd (Nat.blt b s.hp.length) (some (.tt,⟨s.tm,hset (hset s.hp s.hp.length 0 (.blk false E.sz 0 fun i=>E.e ((@nilSl E.T E.inh).at' i))) b o (.own s.hp.length 0)⟩))
   |_=>none
 | .own b' n=>match k with
   | .h b o=>match hget s.hp b' 0 with
     | .blk _ sz n' f=>gd (!(Nat.beq b' b)) (some (.e n n',⟨s.tm,hset (hwr s.hp (roAs s.hp [.own b' n])) b o (.arr sz n' f)⟩))
     |_=>none
   | .t i=>match hget s.hp b' 0 with
     | .blk _ sz n' f=>some (.e n n',⟨s.tm.set i (.arr sz n' f),hwr s.hp (roAs s.hp [.own b' n])⟩)
     |_=>none
   |_=>none
 |_=>none
def convAll:St→List (Key×El)→Option (Ob×St)
 |s,[]=>some (.tt,s)
 |s,q::r=>match convK s q.1 q.2 with
  |some p=>match convAll p.2 r with
   |some p'=>some (.and p.1 p'.1,p'.2)
   |none=>none
  |none=>none
theorem Le.nilT{m:Nat}{st:St}(i sz:Nat)(f:Nat→List AV)(hi:st.tm[i]? =some .nils):Le m st ⟨st.tm.set i (.own st.hp.length 0),hset st.hp st.hp.length 0 (.blk false sz 0 f)⟩:=fun S _ ι a w hs=>by
 obtain⟨h1,h2,h3⟩:=hs.nilOwn (b:=st.hp.length) (fun o=>hget_ge (Nat.le_refl _) o) (hs.none_ge (Nat.le_refl _)) sz f
 refine⟨_,h1.below,h1.defers,fun t av ht=> ?_,h1.hp,h1.inj,h1.fresh,h1.dom,h1.hist⟩
 rw[List.getElem?_set]at ht
 by_cases e:i=t
 ·subst e
  rw[if_pos rfl]at ht
  split at ht
  ·cases ht
   obtain⟨v,g1,g2⟩:=hs.tm i .nils hi
   refine⟨v,g1,?_⟩
   have hv:v= .slice none 0 0:=nils_val (ι:=ι) (H:=st.hp) (F:=FZ S ι st.hp w) (w:=w) g2
   subst hv
   exact h3 (FZ S ι (hset st.hp st.hp.length 0 (.blk false sz 0 f)) w)
  ·cases ht
 ·rw[if_neg e]at ht
  exact h1.tm t av ht
theorem Le.nilH{m:Nat}{st:St}(b o sz:Nat)(f:Nat→List AV)(hi:hget st.hp b o= .nils)(hb:Nat.blt b st.hp.length=true):Le m st ⟨st.tm,hset (hset st.hp st.hp.length 0 (.blk false sz 0 f)) b o (.own st.hp.length 0)⟩:=fun S _ ι a w hs=>by
 obtain⟨h1,h2,h3⟩:=hs.nilOwn (b:=st.hp.length) (fun o=>hget_ge (Nat.le_refl _) o) (hs.none_ge (Nat.le_refl _)) sz f
 have hne:b≠st.hp.length:=by
  have:=Nat.le_of_ble_eq_true hb
  omega
 have hg:hget (hset st.hp st.hp.length 0 (.blk false sz 0 f)) b o= .nils:=by rw[hget_hset,if_neg (fun e=>hne e.1)];exact hi
 refine⟨_,h1.recell (by rw[hg];simp) (by rw[hg];rfl) (by simp) rfl fun v hv=> ?_⟩
 rw[hg]at hv
 rw[nils_val hv]
 exact h3 _
theorem Le.frzH{m:Nat}{st:St}(b o b' n:Nat){ro:Bool}{sz n':Nat}{f:Nat→List AV}(hi:hget st.hp b o= .own b' n)(hb':hget st.hp b' 0= .blk ro sz n' f)(hne:b'≠b)(hn:n=n'):Le m st ⟨st.tm,hset (hwr st.hp (roAs st.hp [.own b' n])) b o (.arr sz n' f)⟩:=fun S _ ι a w hs=>by
 obtain⟨h1,hst⟩:=hs.freeze (H':=hwr st.hp (roAs st.hp [.own b' n])) (roAs_get _) (hwr_len _ _)
 have hg:hget (hwr st.hp (roAs st.hp [.own b' n])) b o= .own b' n:=by
  rcases roAs_get (H:=st.hp) [.own b' n] b o with g|⟨rfl,ro2,sz2,n2,f2,g1,g2⟩
  ·rw[g];exact hi
  ·rw[hi]at g1;cases g1
 have hro:hget (hwr st.hp (roAs st.hp [.own b' n])) b' 0= .blk true sz n' f:=roAs_own (by simp [ownBA,ownB]) hb'
 refine⟨_,h1.recell (by rw[hg];simp) (by rw[hg];rfl) (by simp) rfl fun v hv=> ?_⟩
 rw[hg]at hv
 exact own_frz h1 hro hn hv
theorem Le.frzT{m:Nat}{st:St}(i b' n:Nat){ro:Bool}{sz n':Nat}{f:Nat→List AV}(hi:st.tm[i]? =some (.own b' n))(hb':hget st.hp b' 0= .blk ro sz n' f)(hn:n=n'):Le m st ⟨st.tm.set i (.arr sz n' f),hwr st.hp (roAs st.hp [.own b' n])⟩:=fun S _ ι a w hs=>by
 obtain⟨h1,hst⟩:=hs.freeze (H':=hwr st.hp (roAs st.hp [.own b' n])) (roAs_get _) (hwr_len _ _)
 have hro:hget (hwr st.hp (roAs st.hp [.own b' n])) b' 0= .blk true sz n' f:=roAs_own (by simp [ownBA,ownB]) hb'
 refine⟨ι,h1.below,h1.defers,fun t av ht=> ?_,h1.hp,h1.inj,h1.fresh,h1.dom,h1.hist⟩
 rw[List.getElem?_set]at ht
 by_cases e:i=t
 ·subst e
  rw[if_pos rfl]at ht
  split at ht
  ·cases ht
   obtain⟨v,g1,g2⟩:=h1.tm i (.own b' n) hi
   exact⟨v,g1,own_frz h1 hro hn g2⟩
  ·cases ht
 ·rw[if_neg e]at ht
  exact h1.tm t av ht
theorem convK_le{m:Nat}{st st':St}{k:Key}{El:El}{ob:Ob}(h:convK st k El=some (ob,st'))(ho:ob.holds):Le m st st':=by
 unfold convK at h
 split at h<;>try (cases h;done)
 ·rename_i e
  cases k<;>simp only at h<;>try (cases h;done)
  ·cases h
   rename_i i
   refine Le.nilT i El.sz _ ?_
   simp only[getK,List.getD]at e
   cases e2:st.tm[i]? with
   |none=>rw[e2]at e;cases e
   |some v=>rw[e2]at e;exact congrArg some e
  ·rw[gd_some]at h
   obtain⟨h1,h⟩:=h
   cases h
   exact Le.nilH _ _ El.sz _ e h1
 ·rename_i b' n e
  cases k<;>simp only at h<;>try (cases h;done)
  ·split at h<;>try (cases h;done)
   rename_i i _ ro sz n' f eb
   cases h
   refine Le.frzT _ _ _ ?_ eb ho
   simp only[getK,List.getD]at e
   cases e2:st.tm[i]? with
   |none=>rw[e2]at e;cases e
   |some v=>rw[e2]at e;exact congrArg some e
  split at h<;>try (cases h;done)
  rename_i ro sz n' f eb
  rw[gd_some]at h
  obtain⟨h1,h⟩:=h
  cases h
  refine Le.frzH _ _ _ _ e eb (fun e'=> ?_) ho
  rw[e',Nat.beq_refl]at h1;cases h1
theorem convAll_le{m:Nat} : ∀{ks:List (Key×El)} {st st':St} {ob:Ob},convAll st ks=some (ob,st')→ob.holds→Le m st st'
 |[],st,st',ob,h,_=>by cases h;exact Le.refl _
 |q::r,st,st',ob,h,ho=>by
  simp only[convAll]at h
  split at h<;>try (cases h;done)
  rename_i p e
  split at h<;>try (cases h;done)
  rename_i p' e'
  cases h
  exact(convK_le (ob:=p.1) (st':=p.2) e ho.1).trans (convAll_le (ob:=p'.1) (st':=p'.2) e' ho.2)
end Go.Vc
namespace Go.Vc
open Go Go.RowKit
/-! A slice of the call's own is called by another block's name. -/
def notP(b:Nat):AV→Bool
 | .ptr c _=> !(Nat.beq c b)
 |_=>true
def mv1(b b2:Nat):AV→AV
 | .ptr c o=>match Nat.beq c b2 with
   |true=> .undef
   |false=> .ptr c o
 | .fn f caps=>match caps.all (notP b2)with
   |true=> .fn f caps
   |false=> .undef
 | .own c k=>match Nat.beq c b with
   |true=> .own b2 k
   |false=>match Nat.beq c b2 with
    |true=> .undef
    |false=> .own c k
 | .eptr c k i o=>match Nat.beq c b with
   |true=> .eptr b2 k i o
   |false=>match Nat.beq c b2 with
    |true=> .undef
    |false=> .eptr c k i o
 |x=>x
theorem mv1_gone{b b2:Nat}{c:AV}(h:mv1 b b2 c= .gone):c= .gone:=by
 cases c<;>simp only[mv1]at h<;>first|rfl|(cases h;done)|(split at h<;>first|(cases h;done)|(split at h<;>cases h))
def mvB(b b2:Nat):AV→AV
 | .agg cs=> .agg (cs.map (mv1 b b2))
 |x=>mv1 b b2 x
def mvA(b b2:Nat):AV→AV
 | .tup vs=> .tup (vs.map (mvB b b2))
 |x=>mvB b b2 x
def freeB(H:Heap)(b:Nat):Bool:=
 match H.getD b []with
 |[]=>true
 |x::r=>match x with
  | .blk ro sz _ _=>ro&&(Nat.beq sz 0&&r.isEmpty)
  |_=>false
def deadL(b m:Nat):List AV:=
 match Nat.blt b m with
 |true=>[deadB]
 |false=>[]
def mvH(H:Heap)(m b b2:Nat)(x:AV):Heap:=setAt [] (setAt [] (H.map fun l=>l.map (mv1 b b2)) b (deadL b m)) b2 [x]
def mvS(m:Nat)(s:St)(b b2:Nat):Option St:=
 match s.hp.getD b []with
 |x::r=>match x with
  | .blk ro sz n f=>gd (Nat.ble m b2&&(!(Nat.beq b b2)&&(freeB s.hp b2&&(r.isEmpty&& !(Nat.beq sz 0))))) (some ⟨s.tm.map (mvA b b2),mvH s.hp m b b2 (.blk ro sz n f)⟩)
  |_=>none
 |[]=>none
def mvAll(m:Nat):St→List (Key×Nat)→Option St
 |s,[]=>some s
 |s,q::r=>match getK s q.1 with
  | .own b _=>match Nat.beq b q.2 with
    |true=>mvAll m s r
    |false=>match mvS m s b q.2 with
     |some s'=>mvAll m s' r
     |none=>none
  |_=>none
theorem mv1_blk{b b2:Nat}{c:AV} :isBlk (mv1 b b2 c)=isBlk c:=by
 cases c<;>first|rfl|skip
 all_goals
  simp only[mv1]
  split<;>first|rfl|(split<;>rfl)
theorem hget_map{H:Heap}{g:AV→AV}(hg:g .undef= .undef)(b o:Nat):hget (H.map fun l=>l.map g) b o=g (hget H b o):=by
 unfold hget
 have e:(H.map fun l=>l.map g).getD b []=(H.getD b []).map g:=by
  rw[List.getD,List.getD,List.getElem?_map]
  cases H[b]? <;>rfl
 rw[e]
 generalize H.getD b []=l
 rw[List.getD,List.getD,List.getElem?_map]
 cases l[o]? with
 |none=>exact hg.symm
 |some x=>rfl
theorem Le.mv{m:Nat}{s s':St}{b b2:Nat}(h:mvS m s b b2=some s'):Le m s s':=by
 unfold mvS at h
 split at h<;>try (cases h;done)
 rename_i x r eb
 split at h<;>try (cases h;done)
 rename_i ro sz n f
 rw[gd_some]at h
 obtain⟨hc,h⟩:=h
 cases h
 simp only[Bool.and_eq_true,Bool.not_eq_true']at hc
 obtain⟨hm,hne,hfr,hr,hsz⟩:=hc
 have hm:m≤b2:=Nat.le_of_ble_eq_true hm
 have hne:b≠b2:=fun e=>by rw[e,Nat.beq_refl]at hne;cases hne
 have hr:r=[]:=by cases r with
  |nil=>rfl
  |cons=>cases hr
 subst hr
 intro S hS ι a w hs
 have hbb:hget s.hp b 0= .blk ro sz n f:=by unfold hget;rw[eb];rfl
 have hbo: ∀o,o≠0→hget s.hp b o= .undef:=fun o ho=>by
  unfold hget;rw[eb]
  cases o with
  |zero=>exact absurd rfl ho
  |succ o=>rfl
 have hf2: ∀o,hget s.hp b2 o= .undef∨(o=0∧ ∃n2 f2,hget s.hp b2 0= .blk true 0 n2 f2):=fun o=>by
  unfold freeB at hfr
  unfold hget
  split at hfr
  ·rename_i e;rw[e];exact .inl rfl
  ·rename_i y q e
   split at hfr<;>try (cases hfr;done)
   rename_i ro2 sz2 n2 f2
   simp only[Bool.and_eq_true]at hfr
   obtain⟨g1,g2,g3⟩:=hfr
   have g2:=Nat.eq_of_beq_eq_true g2
   subst g1 g2
   rw[e]
   cases o with
   |zero=>exact .inr ⟨rfl,n2,f2,rfl⟩
   |succ o=>
    cases q with
    |nil=>exact .inl rfl
    |cons=>cases g3
 let ι':Nat→Option Nat:=fun c=>if c=b2 then ι b else if c=b then none else ι c
 have hnB:n≤BIG:=by
  have hl:=hs.hp b 0
  rw[hbb]at hl
  rcases hl.2 with hd|hd
  ·rw[hd.2.1]at hsz;cases hsz
  ·exact hd.1
 let H':Heap:=mvH s.hp m b b2 (.blk ro sz n f)
 have hI2:ι' b2=ι b:=if_pos rfl
 have hIb:ι' b=none:=by simp [ι',hne]
 have hIo: ∀c,c≠b→c≠b2→ι' c=ι c:=fun c h1 h2=>by simp only[ι'];rw[if_neg h2,if_neg h1]
 have hH2: ∀o,hget H' b2 o=if o=0 then .blk ro sz n f else .undef:=fun o=>by
  show hget (setAt [] _ b2 _) b2 o=_
  rw[setAt_get,if_pos rfl]
  cases o<;>rfl
 have hHb: ∀o,hget H' b o=(deadL b m).getD o .undef:=fun o=>by
  show hget (setAt [] _ b2 _) b o=_
  rw[setAt_get,if_neg hne,setAt_get,if_pos rfl]
 have hHo: ∀c o,c≠b→c≠b2→hget H' c o=mv1 b b2 (hget s.hp c o):=fun c o h1 h2=>by
  show hget (setAt [] _ b2 _) c o=_
  rw[setAt_get,if_neg h2,setAt_get,if_neg h1,hget_map rfl]
 have hdead: ∀o,hget H' b o= .undef∨(o=0∧b<m∧hget H' b 0=deadB):=fun o=>by
  have e0:=hHb 0
  have e1:=hHb o
  unfold deadL at e0 e1
  cases hbm:Nat.blt b m with
  |false=>rw[hbm]at e1;rw[e1];exact .inl rfl
  |true=>
   rw[hbm]at e0 e1
   cases o with
   |zero=>exact .inr ⟨rfl,Nat.le_of_ble_eq_true hbm,e0⟩
   |succ o=>rw[e1];exact .inl rfl
 have hnb: ∀c,c≠b→c≠b2→isBlk (hget H' c 0)=isBlk (hget s.hp c 0):=fun c h1 h2=>by rw[hHo c 0 h1 h2,mv1_blk]
 have hwr1: ∀c,writable (mv1 b b2 c)=true→writable c=true:=fun c=>by
  cases c<;>first|exact id|(intro _;rfl)
 have hF: ∀y,FZ S ι s.hp w y→FZ S ι' H' w y:=fun y ⟨h1,h2,h3⟩=>⟨h1,h2,fun c hl hx=>by
  by_cases e2:c=b2
  ·subst e2
   rw[hI2]at hx
   refine h3 b ?_ hx
   have e0:hget H' c 0= .blk ro sz n f:=by rw[hH2];rfl
   rcases hl with⟨_,g⟩|⟨g,_⟩
   ·rw[e0]at g;exact .inl ⟨by rw[hbb];rfl,by rw[hbb];exact g⟩
   ·rw[e0]at g;cases g
  ·by_cases e1:c=b
   ·subst e1;rw[hIb]at hx;cases hx
   ·rw[hIo c e1 e2]at hx
    refine h3 c ?_ hx
    rcases hl with⟨g1,g2⟩|⟨g1,o,g2⟩
    ·rw[hHo c 0 e1 e2]at g1 g2
     rw[mv1_blk]at g1
     exact .inl ⟨g1,hwr1 _ g2⟩
    ·rw[hHo c 0 e1 e2,mv1_blk]at g1
     rw[hHo c o e1 e2]at g2
     exact .inr ⟨g1,o,hwr1 _ g2⟩⟩
 have hFm: ∀{av:AV} {v:Value},FRel w (FZ S ι s.hp w) av v→FRel w (FZ S ι' H' w) av v:=fun h=>h.mono hF fun _ _ _=>rfl
 have hS2: ∀{c:AV} {v:Value},notP b2 c=true→SRel ι s.hp w (FZ S ι s.hp w) c v→SRel ι' H' w (FZ S ι' H' w) c v:=fun {c v} hn h=>by
  cases c<;>simp only[SRel]at h ⊢ <;>first|exact hFm h|skip
  rename_i c o
  obtain⟨h1,x,h2,h3⟩:=h
  have n2:c≠b2:=fun e=>by rw[e]at hn;simp only[notP,Nat.beq_refl]at hn;cases hn
  have n1:c≠b:=fun e=>by rw[e,hbb]at h1;cases h1
  exact⟨by rw[hnb c n1 n2];exact h1,x,by rw[hIo c n1 n2];exact h2,h3⟩
 have hC: ∀{c:AV} {v:Value},CRel ι s.hp w (FZ S ι s.hp w) c v→CRel ι' H' w (FZ S ι' H' w) (mv1 b b2 c) v:=fun {c v} h=>by
  have h1:=h.one
  cases c<;>first|exact hFm h|exact h1|exact h.elim|skip
  ·rename_i c k
   simp only[mv1]
   obtain⟨k0,ro',sz',n',f',k1,k2,k3⟩:=h
   cases e1:Nat.beq c b with
   |true=>
    have e1:=Nat.eq_of_beq_eq_true e1
    subst e1
    rw[hbb]at k1;cases k1
    exact⟨k0,ro,sz,n,f,by rw[hH2];rfl,k2,fun e=>by rw[hI2];exact k3 e⟩
   |false=>
    cases e2:Nat.beq c b2 with
    |true=>exact k0
    |false=>
     have n1:c≠b:=fun e=>by rw[e,Nat.beq_refl]at e1;cases e1
     have n2:c≠b2:=fun e=>by rw[e,Nat.beq_refl]at e2;cases e2
     exact⟨k0,ro',sz',n',f',by rw[hHo c 0 n1 n2,k1];rfl,k2,fun e=>by rw[hIo c n1 n2];exact k3 e⟩
  ·rename_i c o
   simp only[mv1]
   obtain⟨k1,x,k2,k3⟩:=h
   cases e2:Nat.beq c b2 with
   |true=>exact h1
   |false=>
    have n2:c≠b2:=fun e=>by rw[e,Nat.beq_refl]at e2;cases e2
    have n1:c≠b:=fun e=>by rw[e,hbb]at k1;cases k1
    exact⟨by rw[hnb c n1 n2];exact k1,x,by rw[hIo c n1 n2];exact k2,k3⟩
  ·rename_i c k i o
   simp only[mv1]
   obtain⟨k0,ro',sz',n',f',k1,k2,k3⟩:=h
   cases e1:Nat.beq c b with
   |true=>
    have e1:=Nat.eq_of_beq_eq_true e1
    subst e1
    rw[hbb]at k1;cases k1
    exact⟨k0,ro,sz,n,f,by rw[hH2];rfl,k2,fun e=>by rw[hI2];exact k3 e⟩
   |false=>
    cases e2:Nat.beq c b2 with
    |true=>exact k0
    |false=>
     have n1:c≠b:=fun e=>by rw[e,Nat.beq_refl]at e1;cases e1
     have n2:c≠b2:=fun e=>by rw[e,Nat.beq_refl]at e2;cases e2
     exact⟨k0,ro',sz',n',f',by rw[hHo c 0 n1 n2,k1];rfl,k2,fun e=>by rw[hIo c n1 n2];exact k3 e⟩
  ·rename_i g caps
   simp only[mv1]
   cases e2:caps.all (notP b2)with
   |false=>exact h1
   |true=>
    obtain⟨vs,k1,k2⟩:=h
    refine⟨vs,k1,All2.mk k2.length fun i p q hp hq=> ?_⟩
    obtain⟨q',g1,g2⟩:=k2.get i p hp
    rw[hq]at g1;cases g1
    exact hS2 (List.all_eq_true.1 e2 p (List.mem_of_getElem? hp)) g2
 have hCs: ∀{cs:List AV} {vs:List Value},All2 (CRel ι s.hp w (FZ S ι s.hp w)) cs vs→All2 (CRel ι' H' w (FZ S ι' H' w)) (cs.map (mv1 b b2)) vs:=by
  intro cs
  induction cs with
  |nil=>intro vs h;cases vs with
   |nil=>trivial
   |cons=>exact h.elim
  |cons c cs ih=>intro vs h;cases vs with
   |nil=>exact h.elim
   |cons v vs=>exact⟨hC h.1,ih h.2⟩
 have hB: ∀{c:AV} {v:Value},VRel1 ι s.hp w (FZ S ι s.hp w) c v→VRel1 ι' H' w (FZ S ι' H' w) (mvB b b2 c) v:=fun {c v} h=>by
  by_cases hag: ∃cs,c= .agg cs
  ·obtain⟨cs,rfl⟩:=hag
   obtain⟨vs,h1,h2⟩:=h
   exact⟨vs,h1,hCs h2⟩
  ·have e1:mvB b b2 c=mv1 b b2 c:=by cases c<;>first|rfl|exact absurd ⟨_,rfl⟩ hag
   have h1:CRel ι s.hp w (FZ S ι s.hp w) c v:=by cases c<;>first|exact h|exact absurd ⟨_,rfl⟩ hag|exact(show False from h).elim
   rw[e1]
   have h2:=hC h1
   have h0:mv1 b b2 c≠ .gone:=fun e=>by
    rw[mv1_gone e]at h;exact h
   generalize mv1 b b2 c=c' at h2 h0
   cases c'<;>first|exact h2|exact h2.elim|exact absurd rfl h0
 refine⟨ι',hs.below,hs.defers,fun t av ht=> ?_,fun c o=> ?_,fun b1 b3 x h1 h3=> ?_,fun c x hx=> ?_,fun c x hx=> ?_,?_⟩
 ·simp only[List.getElem?_map,Option.map_eq_some_iff]at ht
  obtain⟨av0,g0,rfl⟩:=ht
  obtain⟨v,g1,g2⟩:=hs.tm t av0 g0
  refine⟨v,g1,?_⟩
  by_cases htup: ∃vs,av0= .tup vs
  ·obtain⟨as,rfl⟩:=htup
   obtain⟨vs,k1,k2⟩:=g2
   refine⟨vs,k1,?_⟩
   clear k1 g0
   revert vs
   induction as with
   |nil=>intro vs h;cases vs with
    |nil=>trivial
    |cons=>exact h.elim
   |cons c cs ih=>intro vs h;cases vs with
    |nil=>exact h.elim
    |cons v vs=>exact⟨hB h.1,ih vs h.2⟩
  ·by_cases hu:av0= .undef∨av0= .gone
   ·rcases hu with rfl|rfl
    ·trivial
    ·exact g2
   ·have e1:mvA b b2 av0=mvB b b2 av0:=by cases av0<;>first|rfl|exact absurd ⟨_,rfl⟩ htup
    have h1:VRel1 ι s.hp w (FZ S ι s.hp w) av0 v:=by
     cases av0<;>first|exact g2|exact absurd ⟨_,rfl⟩ htup|exact absurd (.inl rfl) hu|exact absurd (.inr rfl) hu
    rw[e1]
    exact VRel.of_VRel1 (hB h1)
 ·show LRel ι' H' w (FZ S ι' H' w) c o (hget H' c o)
  by_cases e2:c=b2
  ·subst e2
   rw[hH2]
   by_cases eo:o=0
   ·subst eo
    rw[if_pos rfl]
    have hl:=hs.hp b 0
    rw[hbb]at hl
    obtain⟨_,hl⟩:=hl
    refine⟨rfl,hl.imp (fun g=>⟨g.1,g.2.1,by rw[hI2];exact g.2.2⟩) fun g=>⟨g.1,?_⟩⟩
    rw[hI2]
    exact g.2.imp id fun⟨x,C,T,k1,k2,k3⟩=>⟨x,C,T,k1,k2,fun i j hi hj=>by
     obtain⟨av,v,m1,m2,m3⟩:=k3 i j hi hj
     exact⟨av,v,m1,m2,hFm m3⟩⟩
   ·rw[if_neg eo];trivial
  ·by_cases e1:c=b
   ·subst e1
    rcases hdead o with g|⟨rfl,_,g⟩
    ·rw[g];trivial
    ·rw[g];exact⟨rfl,.inl ⟨rfl,rfl,hIb⟩⟩
   ·have hl:=hs.hp c o
    rw[hHo c o e1 e2]
    by_cases hbk:isBlk (hget s.hp c o)=true
    ·cases e:hget s.hp c o<;>rw[e]at hbk hl<;>first|(cases hbk;done)|skip
     simp only[mv1]
     obtain⟨h0,hl⟩:=hl
     refine⟨h0,hl.imp (fun g=>⟨g.1,g.2.1,by rw[hIo c e1 e2];exact g.2.2⟩) fun g=>⟨g.1,?_⟩⟩
     rw[hIo c e1 e2]
     exact g.2.imp id fun⟨x,C,T,k1,k2,k3⟩=>⟨x,C,T,k1,k2,fun i j hi hj=>by
      obtain⟨av,v,m1,m2,m3⟩:=k3 i j hi hj
      exact⟨av,v,m1,m2,hFm m3⟩⟩
    ·by_cases hu:hget s.hp c o= .undef
     ·rw[hu];trivial
     ·have hnbk:isBlk (hget s.hp c o)=false:=by simpa using hbk
      obtain⟨k0,x,v,k1,k2,k3,k4⟩:isBlk (hget s.hp c 0)=false∧ ∃x v,ι c=some x∧w.cell? ⟨x,o,none⟩=some v∧w.frozen? ⟨x,o,none⟩=false∧CRel ι s.hp w (FZ S ι s.hp w) (hget s.hp c o) v:=by
       cases e:hget s.hp c o<;>rw[e]at hl hu hnbk<;>first|exact absurd rfl hu|(cases hnbk;done)|exact hl
      have k5:=hC k4
      have k6:isBlk (hget H' c 0)=false:=by rw[hnb c e1 e2];exact k0
      have k7:ι' c=some x:=by rw[hIo c e1 e2];exact k1
      have k8:isBlk (mv1 b b2 (hget s.hp c o))=false:=by rw[mv1_blk];exact hnbk
      generalize mv1 b b2 (hget s.hp c o)=c' at k5 k8
      cases c'<;>first|trivial|(cases k8;done)|exact⟨k6,x,v,k7,k2,k3,k5⟩
 ·have key: ∀c x,ι' c=some x→ ∃c',ι c'=some x∧((c=b2∧c'=b)∨(c≠b2∧c≠b∧c'=c)):=fun c x hx=>by
   by_cases e2:c=b2
   ·subst e2;rw[hI2]at hx;exact⟨b,hx,.inl ⟨rfl,rfl⟩⟩
   ·by_cases e1:c=b
    ·subst e1;rw[hIb]at hx;cases hx
    ·rw[hIo c e1 e2]at hx;exact⟨c,hx,.inr ⟨e2,e1,rfl⟩⟩
  obtain⟨c1,g1,q1⟩:=key b1 x h1
  obtain⟨c3,g3,q3⟩:=key b3 x h3
  have e:=hs.inj c1 c3 x g1 g3
  rcases q1 with⟨rfl,rfl⟩|⟨a1,a2,rfl⟩<;>rcases q3 with⟨rfl,rfl⟩|⟨a3,a4,rfl⟩
  ·rfl
  ·exact absurd e.symm a4
  ·exact absurd e a2
  ·exact e
 ·by_cases e2:c=b2
  ·subst e2;rw[hI2]at hx;exact hs.fresh b x hx
  ·by_cases e1:c=b
   ·subst e1;rw[hIb]at hx;cases hx
   ·rw[hIo c e1 e2]at hx;exact hs.fresh c x hx
 ·show c<H'.length
  have hlen1:=(length_setAt ([]:List AV) [AV.blk ro sz n f] (setAt [] (s.hp.map fun l=>l.map (mv1 b b2)) b (deadL b m)) b2)
  have hlen2:=(length_setAt ([]:List AV) (deadL b m) (s.hp.map fun l=>l.map (mv1 b b2)) b)
  by_cases e2:c=b2
  ·rw[e2];exact hlen1.2
  ·by_cases e1:c=b
   ·subst e1;rw[hIb]at hx;cases hx
   ·rw[hIo c e1 e2]at hx
    have:=hs.dom c x hx
    refine Nat.lt_of_lt_of_le ?_ (Nat.le_trans hlen2.1 hlen1.1)
    simpa using this
 ·have hh:=hs.hist
  have hlt: ∀c,hget S.H0 c 0≠ .undef→c<m:=fun c hc=>by
   rcases Nat.lt_or_ge c S.H0.length with g|g
   ·omega
   ·exact absurd (hget_ge g 0) hc
  refine⟨fun x hx=>hF x (hh.fz x hx),fun x o hx=>hh.cell x o hx,fun c x hx hk=> ?_,fun c ro0 sz0 n0 f0 hk=> ?_⟩
  ·obtain⟨g1,g2⟩:=hh.box c x hx hk
   have hcm:c<m:=Nat.lt_of_lt_of_le (S.dom0 c x hx) hS
   have n2:c≠b2:=by omega
   have n1:c≠b:=fun e=>by rw[e,hbb]at g2;cases g2
   exact⟨by rw[hIo c n1 n2];exact g1,by rw[hnb c n1 n2];exact g2⟩
  ·obtain⟨ro',sz',n',f',g1,g2,g3⟩:=hh.arr c ro0 sz0 n0 f0 hk
   have hcm:c<m:=hlt c (by rw[hk];simp)
   have n2:c≠b2:=by omega
   by_cases n1:c=b
   ·subst n1
    rw[hbb]at g1;cases g1
    refine⟨true,0,BIG+1,fun _=>[],?_,by omega,fun e=>by omega⟩
    rw[hHb 0]
    unfold deadL
    rw[show Nat.blt c m=true from by simpa[Nat.blt_eq]using hcm]
    rfl
   ·exact⟨ro',sz',n',f',by rw[hHo c 0 n1 n2,g1];rfl,g2,fun e=>by rw[hIo c n1 n2];exact g3 e⟩
theorem mvAll_le{m:Nat} : ∀{l:List (Key×Nat)} {s s':St},mvAll m s l=some s'→Le m s s'
 |[],s,s',h=>by cases h;exact Le.refl _
 |q::r,s,s',h=>by
  simp only[mvAll]at h
  split at h<;>try (cases h;done)
  split at h
  ·exact mvAll_le h
  ·split at h<;>try (cases h;done)
   rename_i s1 e1
   exact(Le.mv e1).trans (mvAll_le h)
def killS(s:St)(b:Nat):Option St:=
 match s.hp.getD b []with
 |x::r=>match x with
  | .blk ro sz n f=>match ro&&Nat.beq sz 0 with
    |true=>some s
    |false=>gd (r.isEmpty&& !(Nat.beq sz 0)) (some ⟨s.tm,hset s.hp b 0 deadB⟩)
  |_=>none
 |[]=>none
theorem Le.kill{m:Nat}{s s':St}{b:Nat}(h:killS s b=some s'):Le m s s':=by
 unfold killS at h
 split at h<;>try (cases h;done)
 rename_i x r eb
 split at h<;>try (cases h;done)
 rename_i ro sz n f
 split at h
 ·cases h;exact Le.refl _
 rw[gd_some]at h
 obtain⟨hc,h⟩:=h
 cases h
 simp only[Bool.and_eq_true,Bool.not_eq_true']at hc
 obtain⟨hr,hsz⟩:=hc
 intro S hS ι a w hs
 have hbb:hget s.hp b 0= .blk ro sz n f:=by unfold hget;rw[eb];rfl
 have hbo: ∀o,o≠0→hget s.hp b o= .undef:=fun o ho=>by
  unfold hget;rw[eb]
  cases o with
  |zero=>exact absurd rfl ho
  |succ o=>
   cases r with
   |nil=>rfl
   |cons=>cases hr
 have hnB:n≤BIG:=by
  have hl:=hs.hp b 0
  rw[hbb]at hl
  rcases hl.2 with hd|hd
  ·rw[hd.2.1]at hsz;cases hsz
  ·exact hd.1
 let ι':Nat→Option Nat:=fun c=>if c=b then none else ι c
 let H':Heap:=hset s.hp b 0 deadB
 have hIb:ι' b=none:=if_pos rfl
 have hIo: ∀c,c≠b→ι' c=ι c:=fun c h=>if_neg h
 have hHb:hget H' b 0=deadB:=by show hget (hset _ _ _ _) b 0=_;rw[hget_hset,if_pos ⟨rfl,rfl⟩]
 have hHo: ∀c o,(c≠b∨o≠0)→hget H' c o=hget s.hp c o:=fun c o h=>by
  show hget (hset _ _ _ _) c o=_
  rw[hget_hset,if_neg (fun e=>h.elim (fun g=>g e.1) fun g=>g e.2)]
 have hF: ∀y,FZ S ι s.hp w y→FZ S ι' H' w y:=fun y ⟨h1,h2,h3⟩=>⟨h1,h2,fun c hl hx=>by
  by_cases e:c=b
  ·subst e;rw[hIb]at hx;cases hx
  ·rw[hIo c e]at hx
   exact h3 c (rwLive_congr (fun o=>hHo c o (.inl e)) hl) hx⟩
 have hst:Stp ι s.hp w (FZ S ι s.hp w) ι' H' w (FZ S ι' H' w):=by
  refine⟨hF,fun _ _ _=>rfl,fun c x hx hk=> ?_,fun c ro0 sz0 n0 f0 hk=> ?_⟩
  ·have e:c≠b:=fun e=>by rw[e,hbb]at hk;cases hk
   exact⟨by rw[hIo c e];exact hx,by rw[hHo c 0 (.inl e)];exact hk⟩
  ·by_cases e:c=b
   ·subst e
    rw[hbb]at hk;cases hk
    exact⟨true,0,BIG+1,fun _=>[],hHb,by omega,fun e=>by omega⟩
   ·exact⟨ro0,sz0,n0,f0,by rw[hHo c 0 (.inl e)];exact hk,Nat.le_refl _,fun _=>⟨rfl,hIo c e,fun x C T _ hC=>⟨C,hC,rfl⟩⟩⟩
 have hsome: ∀c x,ι' c=some x→c≠b∧ι c=some x:=fun c x hx=>by
  by_cases e:c=b
  ·subst e;rw[hIb]at hx;cases hx
  ·exact⟨e,by rw[←hIo c e];exact hx⟩
 refine⟨ι',hs.below,hs.defers,fun t av ht=> ?_,fun c o=> ?_,fun b1 b3 x h1 h3=>hs.inj b1 b3 x (hsome _ _ h1).2 (hsome _ _ h3).2,fun c x hx=>hs.fresh c x (hsome _ _ hx).2,fun c x hx=>Nat.lt_of_lt_of_le (hs.dom c x (hsome _ _ hx).2) (length_hset s.hp b 0 deadB).1,hs.hist.trans hst⟩
 ·obtain⟨v,g1,g2⟩:=hs.tm t av ht
  exact⟨v,g1,g2.step hst⟩
 ·show LRel ι' H' w (FZ S ι' H' w) c o (hget H' c o)
  by_cases e:c=b
  ·subst e
   by_cases eo:o=0
   ·subst eo;rw[hHb];exact⟨rfl,.inl ⟨rfl,rfl,hIb⟩⟩
   ·rw[hHo c o (.inr eo),hbo o eo];trivial
  ·rw[hHo c o (.inl e)]
   exact(hs.hp c o).step hst (fun _=>hIo c e) (fun _ _ _=>⟨rfl,rfl⟩) (fun _=>⟨hIo c e,fun _ _=>rfl⟩)
inductive Cvi where
 |dat (k:Key) (E:El)
 |own (k:Key) (E:El) (b:Nat)
 |kill (b:Nat)
def cvi1(m:Nat)(s:St)(c:Cvi):Option (Ob×St):=
 match c with
 | .dat k E=>match getK s k with
   | .own .. =>convK s k E
   |_=>some (.tt,s)
 | .own k E b=>match getK s k with
   | .nils=>match convK s k E with
     |some p=>match mvAll m p.2 [(k,b)]with
      |some s'=>some (p.1,s')
      |none=>none
     |none=>none
   |_=>match mvAll m s [(k,b)]with
    |some s'=>some (.tt,s')
    |none=>none
 | .kill b=>match killS s b with
   |some s'=>some (.tt,s')
   |none=>none
def cviL(m:Nat):St→List Cvi→Option (Ob×St)
 |s,[]=>some (.tt,s)
 |s,c::r=>match cvi1 m s c with
  |some p=>match cviL m p.2 r with
   |some p'=>some (.and p.1 p'.1,p'.2)
   |none=>none
  |none=>none
theorem cvi1_le{m:Nat}{s s':St}{c:Cvi}{o:Ob}(h:cvi1 m s c=some (o,s'))(ho:o.holds):Le m s s':=by
 unfold cvi1 at h
 split at h
 ·split at h
  ·exact convK_le h ho
  ·cases h;exact Le.refl _
 ·split at h
  ·split at h<;>try (cases h;done)
   rename_i p ep
   split at h<;>try (cases h;done)
   rename_i s1 e1
   cases h
   exact(convK_le (ob:=p.1) (st':=p.2) ep ho).trans (mvAll_le e1)
  ·split at h<;>try (cases h;done)
   rename_i s1 e1
   cases h
   exact mvAll_le e1
 ·split at h<;>try (cases h;done)
  rename_i s1 e1
  cases h
  exact Le.kill e1
theorem killS_len{s s':St}{b:Nat}(h:killS s b=some s'):s'.tm.length=s.tm.length:=by
 unfold killS at h
 split at h<;>try (cases h;done)
 split at h<;>try (cases h;done)
 split at h
 ·cases h;rfl
 ·rw[gd_some]at h
  cases h.2;rfl
theorem cviL_le{m:Nat} : ∀{l:List Cvi} {s s':St} {o:Ob},cviL m s l=some (o,s')→o.holds→Le m s s'
 |[],s,s',o,h,_=>by cases h;exact Le.refl _
 |c::r,s,s',o,h,ho=>by
  simp only[cviL]at h
  split at h<;>try (cases h;done)
  rename_i p e
  split at h<;>try (cases h;done)
  rename_i p' e'
  cases h
  exact(cvi1_le (o:=p.1) (s':=p.2) e ho.1).trans (cviL_le (o:=p'.1) (s':=p'.2) e' ho.2)
def convW(m:Nat)(s:St)(dr:List Key)(l:List Cvi):Option (Ob×St):=
 match dr with
 |[]=>cviL m s l
 |k::r=>match pinOk m (dropAll s (k::r))with
  |true=>match cviL m (dropAll s (k::r)) l with
   |some p=>some (.and (cutO s (dropAll s (k::r))) p.1,p.2)
   |none=>none
  |false=>none
theorem convW_le{m:Nat}{s s':St}{dr:List Key}{l:List Cvi}{o:Ob}(h:convW m s dr l=some (o,s'))(ho:o.holds):Le m s s':=by
 unfold convW at h
 split at h
 ·exact cviL_le h ho
 ·split at h<;>try (cases h;done)
  rename_i ec
  split at h<;>try (cases h;done)
  rename_i p ep
  cases h
  exact(cutO_le ho.1 ec).trans (cviL_le (o:=p.1) (s':=p.2) ep ho.2)
theorem setL_length: ∀{l:List AV} {i:Nat} {v:AV},(setL l i v).length=l.length
 |[],_,_=>rfl
 |_::_,0,_=>rfl
 |_::l,i+1,v=>by simp only[setL,List.length_cons,setL_length]
theorem putK_len{s:St}{k:Key}{v:AV} :(putK s k v).tm.length=s.tm.length:=by
 unfold putK
 split
 ·exact setL_length
 ·split
  ·exact setL_length
  ·rfl
 ·rfl
 ·rfl
theorem dropAll_len: ∀{ks:List Key} {s:St},(dropAll s ks).tm.length=s.tm.length
 |[],_=>rfl
 |k::ks,s=>by simp only[dropAll,dropAll_len,putK_len]
theorem mvS_len{m:Nat}{s s':St}{b b2:Nat}(h:mvS m s b b2=some s'):s'.tm.length=s.tm.length:=by
 unfold mvS at h
 split at h<;>try (cases h;done)
 split at h<;>try (cases h;done)
 rw[gd_some]at h
 cases h.2
 simp
theorem mvAll_len{m:Nat} : ∀{l:List (Key×Nat)} {s s':St},mvAll m s l=some s'→s'.tm.length=s.tm.length
 |[],s,s',h=>by cases h;rfl
 |q::r,s,s',h=>by
  simp only[mvAll]at h
  split at h<;>try (cases h;done)
  split at h
  ·exact mvAll_len h
  ·split at h<;>try (cases h;done)
   rename_i s1 e1
   rw[mvAll_len h,mvS_len e1]
theorem convK_len{s s':St}{k:Key}{E:El}{o:Ob}(h:convK s k E=some (o,s')):s'.tm.length=s.tm.length:=by
 unfold convK at h
 split at h<;>try (cases h;done)
 ·cases k<;>simp only at h<;>try (cases h;done)
  ·cases h;simp
  ·rw[gd_some]at h;cases h.2;rfl
 ·cases k<;>simp only at h<;>try (cases h;done)
  ·split at h<;>try (cases h;done)
   cases h;simp
  ·split at h<;>try (cases h;done)
   rw[gd_some]at h;cases h.2;rfl
theorem cvi1_len{m:Nat}{s s':St}{c:Cvi}{o:Ob}(h:cvi1 m s c=some (o,s')):s'.tm.length=s.tm.length:=by
 unfold cvi1 at h
 split at h
 ·split at h
  ·exact convK_len h
  ·cases h;rfl
 ·split at h
  ·split at h<;>try (cases h;done)
   rename_i p ep
   split at h<;>try (cases h;done)
   rename_i s1 e1
   cases h
   rw[mvAll_len e1,convK_len (o:=p.1) (s':=p.2) ep]
  ·split at h<;>try (cases h;done)
   rename_i s1 e1
   cases h
   exact mvAll_len e1
 ·split at h<;>try (cases h;done)
  rename_i s1 e1
  cases h
  exact killS_len e1
theorem cviL_len{m:Nat} : ∀{l:List Cvi} {s s':St} {o:Ob},cviL m s l=some (o,s')→s'.tm.length=s.tm.length
 |[],s,s',o,h=>by cases h;rfl
 |c::r,s,s',o,h=>by
  simp only[cviL]at h
  split at h<;>try (cases h;done)
  rename_i p e
  split at h<;>try (cases h;done)
  rename_i p' e'
  cases h
  rw[cviL_len (o:=p'.1) (s':=p'.2) e',cvi1_len (o:=p.1) (s':=p.2) e]
theorem convW_len{m:Nat}{s:St}{dr:List Key}{l:List Cvi}{p:Ob×St}(h:convW m s dr l=some p):p.2.tm.length=s.tm.length:=by
 obtain⟨o,s'⟩:=p
 unfold convW at h
 split at h
 ·exact cviL_len h
 ·split at h<;>try (cases h;done)
  split at h<;>try (cases h;done)
  rename_i p ep
  cases h
  rw[cviL_len (o:=p.1) (s':=p.2) ep,dropAll_len]
end Go.Vc
