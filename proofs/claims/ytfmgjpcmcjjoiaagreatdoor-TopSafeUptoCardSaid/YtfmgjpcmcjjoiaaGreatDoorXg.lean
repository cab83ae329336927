import Derived.Test.YtfmgjpcmcjjoiaaGreatDoorXf
import Derived.Laws.Cover3
import Derived.Lib.Bytealg
import Derived.Test.YtfmgjpcmcjjoiaaGreatDoorProg
import Derived.Laws.Externs
open Go.IntKind (i64 u64 u8)
open Int (toNat)
set_option maxRecDepth 100000
set_option maxHeartbeats 4000000
set_option linter.all false
noncomputable section
namespace Go.af
open Go Go.RowKit
theorem aAA{P:Program}{T e:TypeId}(w:World)(b:P.underlying T=some (.slice e))(x y:Operand)(a:Option Addr)(l c:Nat):
  (do eqGuard .eql T x y (.slice a l c) (.slice none 0 0);binOp .eql T (.slice a l c) (.slice none 0 0):Sem Value).run P w= .ok (.bool a.isNone) w:=by
 have h:binOp .eql T (.slice a l c) (.slice none 0 0)=(do pure (.bool (←Op.equal T (.slice a l c) (.slice none 0 0)))):=rfl;rw[h];simp [go_sem,run_equal_slice_nil w T e a l c b]
theorem WP.C0{E:Env}(H:E.dm){z:Code}{Q:Exit→K→Prop}{st:K}{id:Nat}{d j:Oper}{T B:TypeId}{l:bD}{t b m k n:Nat}{f:Nat→List J}
  (I:E.ty T=some l) (u:l.d.sS=true) (D:d.guard=none) (dX:d.op= .move (.tmp t)) (y:d.dst=some b) (F:j.guard=none) (dz:j.op= .binOp .eql T (.tmp b) (.const (.slice none 0 0)) B) (q1:j.dst=some m)
  (V:st.n[t]? =some (.arr k n f)) (N:b<st.n.length) (h: ∀q:Bool,(q=true→n=0)→WP E z Q ⟨(st.n.set b (.arr k n f)).set m (.bool q),st.k⟩):WP E (.seq (.region id #[d,j] false) z) Q st:=by
 refine WP.seq fun S sH ι a w p=>wp_region_list ?_;have X:=H.ty T l I;have s:=X.d;obtain⟨e,M⟩: ∃e,E.P.underlying T=some (.slice e):=by
  cases C:l.d<;>rw[C]at u s<;>first|(cases u;done)|exact⟨_,s.1⟩
 obtain⟨v,Z,i⟩:=p.n t _ V;have i:aR w (aK S ι st.k w) (.arr k n f) v:=i;refine B9 D fun A o=>di (v:=a.eval (.tmp t)) (w':=w) (by simp [execOp,dX]) (o _ _ ?_);have L:a.eval (.tmp t)=v:=by simp [Act.eval,G_,Z]
 rw[L];have G:aP S ι ⟨st.n.set b (.arr k n f),st.k⟩ (a.put d.dst v) w:=by rw[y];exact p.put b i
 have W:(a.put d.dst v).eval (.tmp b)=v:=by
  obtain⟨e2,Y,aD3⟩:=p.n b _ (cI N);have O:b<a.tmps.size:=by
   rcases fk b a.tmps.size with h|h
   ·exact h
   ·simp [Nh h]at Y
  simp [Act.eval,Act.put,y,G_,O]
 obtain⟨g,c,x⟩: ∃g c,v= .slice g n c:=by
  cases i with
  |nil=>exact⟨none,0,rfl⟩
  |mt _ _ g c=>exact⟨_,c,rfl⟩
  |arr _ _ _ b6 eo c=>exact⟨_,c,rfl⟩
 have R:g.isNone=true→n=0:=fun P=>by
  rw[x]at i
  cases i<;>first|rfl|(cases P;done)
 refine B9 F fun A o=>di (v:= .bool g.isNone) (w':=w) ?_ (o _ _ ?_)
 ·have U:(execOp (a.put d.dst v).eval j).run E.P w=((do eqGuard .eql T (.tmp b) (.const (.slice none 0 0)) ((a.put d.dst v).eval (.tmp b)) (.slice none 0 0);binOp .eql T ((a.put d.dst v).eval (.tmp b)) (.slice none 0 0):Sem Value).run E.P w).andThen fun v w=> .ok (.value v) w:=by
   simp only[execOp,dz];rw[Sem.run_bind];rfl
  rw[U,W,x,aAA w M];rfl
 ·have r:=G.put m (av:= .bool g.isNone) (v:= .bool g.isNone) (aR.bool _);rw[←q1]at r;exact⟨ι,_,r,h _ R⟩
def fs(a b:Int):Int:=bif decide (b<a)then b else a
def imax(a b:Int):Int:=bif decide (b>a)then b else a
theorem T4(a b:Int):a≤imax a b∧b≤imax a b∧(imax a b=a∨imax a b=b):=by
 unfold imax
 by_cases h:b>a
 ·simp [h];omega
 ·simp [h];omega
theorem ob(a b:Int):fs a b≤a∧fs a b≤b∧(fs a b=a∨fs a b=b):=by
 unfold fs
 by_cases h:b<a
 ·simp [h];omega
 ·simp [h];omega
theorem yu{H:Heap}{b a o:Nat}(cs:List J):B (setAt [] H b cs) a o=if a=b then cs.getD o .undef else B H a o:=Fj H b cs a o
theorem WP.aoD{E:Env}{x:Code}{Q:Exit→K→Prop}{st:K}(i b:Nat)(cs:List J)(X:st.n[i]? =some (.ptr b 0))(iF:st.k.getD b []=cs)(F:cs.all mD=true)
  (Y:vj ⟨st.n.set i (.ref cs),setAt [] st.k b []⟩=true) (h:WP E x Q ⟨st.n.set i (.ref cs),setAt [] st.k b []⟩) (hm:hq E.m ⟨st.n.set i (.ref cs),setAt [] st.k b []⟩=true:=by rfl):WP E x Q st:=fun S sH ι a w k=>by
 simp only[vj,bL]at Y;let H:Heap:=setAt [] st.k b [];have V: ∀j (g:j<cs.length),mD cs[j]=true:=fun j g=>ds.1 F _ (oz g);have arG: ∀c,mD c=true→c≠ .undef:=by intro c F e;rw[e]at F;cases F
 have arC: ∀c,mD c=true→b_ c=false:=by intro c F;cases c<;>first|rfl|(cases F;done)
 have W: ∀j (g:j<cs.length),B st.k b j=cs[j]:=fun j g=>by unfold B;rw[iF];simp [List.getD,g]
 have KP: ∀o,B H b o= .undef:=fun o=>by rw[yu,bf rfl];simp
 have aq2: ∀d o,d≠b→B H d o=B st.k d o:=fun d o eX=>by rw[yu,a7 eX]
 have ard:alive H b=false:=by
  unfold alive;rw[pb,bf rfl]
 have je: ∀d,alive H d=true→d≠b:=fun d h e=>by rw[e,ard]at h;cases h
 let an:Nat→Option Nat:=fun d=>if alive H d then ι d else none
 have s: ∀d,alive H d=true→an d=ι d:=fun d p=>bf p;have r: ∀d y,an d=some y→alive H d=true∧ι d=some y:=fun d y p=>by
  by_cases h:alive H d=true
  ·exact⟨h,by rw[←s d h];exact p⟩
  ·simp [an,h]at p
 have gu: ∀d,alive H d=true→d<H.length:=fun d p=>by
  rcases fk d H.length with h|h
  ·exact h
  ·simp [alive,List.getD,eF h]at p
 have TQ: ∀d o,alive H d=false→B H d o= .undef:=fun d o h=>by
  unfold alive at h;unfold B
  cases e:H.getD d []with
  |nil=>rfl
  |cons b6 rm=>rw[e]at h;cases h
 have A: ∀d,alive H d=true→ ∀o,B H d o=B st.k d o:=fun d p o=>aq2 d o (je d p);have M: ∀y,aK S ι st.k w y→aK S an H w y:=fun y ⟨L,m,e4⟩=>⟨L,m,fun d p jC=>e4 d (nv (fun o=>A d (r d y jC).1 o) p) (r d y jC).2⟩;refine h S sH an a w ⟨k.below,k.defers,fun t av q=> ?_,fun d o=> ?_,fun gB bG y L m=>k.inj gB bG y (r _ _ L).2 (r _ _ m).2,fun d y h=>k.fresh d y (r _ _ h).2,fun d y h=>gu d (r _ _ h).1,k.gr.cut S.p2 (fun b iF=>ds.1 hm b (tA.2 (by omega))) s A M⟩
 ·have Z:LW H av=true:=ds.1 Y.1 av (e0 q);rw[tw]at q
  by_cases e:i=t
  ·subst e;rw[bf rfl]at q
   split at q
   ·cases q
    obtain⟨v,z,I⟩:=k.n i _ X;obtain⟨_,y,P,c3⟩:=(show eg S ι st.k w (.ptr b 0) v from I);have FR: ∀j (g:j<cs.length),∃u,w.cell? ⟨y,j,none⟩=some u∧aR w (aK S an H w) cs[j] u:=fun j g=>by
     obtain⟨vx,u,G,N,_,O⟩:=(k.k b j).box (by rw[W j g];exact arG _ (V j g)) (by rw[W j g];exact arC _ (V j g));rw[P]at G;cases G;rw[W j g]at O;refine⟨u,N,aR.mono M (fun _ _ _=>rfl) ?_⟩;have adf:=V j g;generalize cs[j]=c at adf O
     cases c<;>first|(cases adf;done)|exact O
    have Fi:=k.fresh b y P;refine⟨v,z,?_⟩;rw[c3];refine(show aR w (aK S an H w) (.ref cs) _ from .ref cs y 0 (fun j=>cs.getD j .undef) (fun j=>(w.cell? ⟨y,0+j,none⟩).getD undef) ⟨k.own P,Fi.2,fun d _ he=> ?_⟩ (fun j g=> ?_) (fun j g=> ?_) fun j g=> ?_)
    ·obtain⟨L,m⟩:=r d y he;exact je d L (k.inj d b y m P)
    ·simp [List.getD,g]
    ·obtain⟨u,FT,_⟩:=FR j g;simp [FT]
    ·obtain⟨u,FT,Um⟩:=FR j g;simpa[List.getD,g,FT]using Um
   ·cases q
  ·rw[a7 e]at q;obtain⟨v,z,I⟩:=k.n t av q;exact⟨v,z,afi s A M Z I⟩
 ·show eQ an H w (aK S an H w) d o (B H d o)
  cases D:alive H d with
  |false=>rw[TQ d o D];trivial
  |true=>
   have m:=k.k d o;have Z: ∀av,B H d o=av→av≠ .undef→Bk H av=true:=fun av e adC=>by
    unfold B at e
    cases R:H[d]? with
    |none=>simp [List.getD,R]at e;exact absurd e.symm adC
    |some l=>
     simp only[List.getD,R,kM]at e
     cases U:l[o]? with
     |none=>rw[U]at e;exact absurd e.symm adC
     |some b6=>
      rw[U]at e;simp only[kM]at e;subst e;exact ds.1 (ds.1 Y.2 l (e0 R)) b6 (e0 U)
   have eW:b_ (B H d 0)=b_ (B st.k d 0):=by rw[A d D 0]
   have m:eQ ι st.k w (aK S ι st.k w) d o (B H d o):=by rw[A d D o];exact m
   cases e:B H d o<;>rw[e]at m
   case undef=>trivial
   case ad ro eo n f=>
    obtain⟨z,b1|⟨I,fe⟩⟩:=m
    ·exact⟨z,.inl ⟨b1.1,b1.2.1,by rw[s d D];exact b1.2.2⟩⟩
    refine⟨z,.inr ⟨I,?_⟩⟩;rw[s d D];exact fe.imp id fun⟨x,C,T,G,N,h3⟩=>⟨x,C,T,G,N,fun i j X g=>by
     obtain⟨av,v,qS,qT,x4⟩:=h3 i j X g;exact⟨av,v,qS,qT,x4.mono M fun _ _ _=>rfl⟩⟩
   all_goals
    obtain⟨FM,x,v,G,N,h3,O⟩:=m;exact⟨by rw[eW];exact FM,x,v,by rw[s d D];exact G,N,h3,LV s A M (Z _ e (by simp)) O⟩
theorem WP.an8{E:Env}{I:Code}{Q:Exit→K→Prop}{st:K}{id:Nat}{n o p g0:Oper}{z j b c e d3:Nat}{x y:u}{k:IntKind}{r:Int}
  (T:n.guard=none) (dX:n.op= .move (.tmp z)) (g1:n.dst=some b) (U:o.guard=none) (dz:o.op= .move (.tmp j)) (q1:o.dst=some c) (V:p.guard=none) (fh:p.dst=some e) (W:g0.guard=none) (Mn:g0.op= .assign (.tmp e)) (yk:g0.dst=some d3)
  (jC:st.n[z]? =some (.str x)) (sO:st.n[j]? =some (.str y)) (F:b≠j∧b≠c) (C:b<st.n.length∧c<st.n.length∧e<st.n.length)
  (dF: ∀(ρ:Operand→Value) (w:World),(∀f,ρ (.func f)= .func (.func f) #[] #[])→ρ (.tmp b)= .string x→ρ (.tmp c)= .string y→(execOp ρ p).run E.P w= .ok (.value (.int k r)) w)
  (h:WP E I Q ⟨(((st.n.set b (.str x)).set c (.str y)).set e (.int k r)).set d3 (.int k r),st.k⟩):WP E (.seq (.region id #[n,o,p,g0] false) I) Q st:=by
 refine WP.seq fun S sH ι a w G=>wp_region_list ?_;have size: ∀{i:List J} {H:Heap} {a:Act} {d:Nat},aP S ι ⟨i,H⟩ a w→d<i.length→d<a.tmps.size:=fun {i H a d} h X=>by
  obtain⟨e2,Z,_⟩:=h.n d _ (cI X);rcases fk d a.tmps.size with h|h
  ·exact h
  ·simp [Nh h]at Z
 have l: ∀{i:List J} {H:Heap} {a:Act} {t:Nat} {av:J},aP S ι ⟨i,H⟩ a w→i[t]? =some av→bg S ι H w av (a.eval (.tmp t)):=fun {i H a t av} h Y=>by
  have:=h.eval (.tmp t);simpa[ax,List.getD,Y]using this
 have N:=l G jC;have q:=G.put b N;rw[←g1]at q;refine B9 T fun A g=>di (v:=a.eval (.tmp z)) (w':=w) (by simp [execOp,dX]) (g _ _ ?_);generalize S5:a.put n.dst (a.eval (.tmp z))=B at q ⊢;have O:=l (t:=j) (av:= .str y) q (by rw[Cc F.1];exact sO);have m:=q.put c O;rw[←q1]at m;refine B9 U fun A g=>di (v:=B.eval (.tmp j)) (w':=w) (by simp [execOp,dz]) (g _ _ ?_);generalize aDy:B.put o.dst (B.eval (.tmp j))=L at m ⊢;have P:=bg.str (l (t:=b) (av:= .str x) m (by rw[Cc (Ne.symm F.2),tw,bf rfl,bf (by simpa using C.1)]));have R:=bg.str (l (t:=c) (av:= .str y) m (by rw[tw,bf rfl,bf (by simpa using C.2.1)]));have s:=m.put e (av:= .int k r) (v:= .int k r) (aR.int k r);rw[←fh]at s;refine B9 V fun A g=>di (v:= .int k r) (w':=w) (dF _ _ (fun _=>rfl) P R) (g _ _ ?_);generalize aDz:L.put p.dst (Value.int k r)=M at s ⊢;have aZ:=l (t:=e) (av:= .int k r) s (by rw[tw,bf rfl,bf (by simpa using C.2.2)]);have D:=s.put d3 aZ;rw[←yk]at D;refine B9 W fun A g=>di (v:=M.eval (.tmp e)) (w':=w) (by simp [execOp,Mn]) (g _ _ ?_);exact⟨ι,_,D,h⟩
theorem WP.FL{E:Env}{x y:Code}{Q:Exit→K→Prop}{st:K}(a:K)(h:WP E x (hN (fun s=>rq s a) Q) st)(k:WP E y Q a)(b:hq E.m a=true:=by rfl):WP E (.seq x y) Q st:=WP.join a h k b
theorem CC(f g:Nat→List J)(i:Nat):hB 0 f g i=g i:=by
 have:Nat.blt i 0=false:=by cases i<;>rfl
 simp only[hB,this,aS,Nat.sub_zero]
def tU(x y:J):J:=
 match y with
 | .undef=> .undef
 | .bool _=>match x with
   | .lit b=> .bool b
   |x=>x
 | .arr a _ g=>match x with
   | .aA=> .arr a 0 g
   |x=>x
 |_=>x
def y_:List J→List J→List J
 |x::a,y::b=>tU x y::y_ a b
 |[],_=>[]
 |x::a,[]=>x::a
def P_(x y:J):J:=
 match y with
 | .agg a=>match x with
   | .agg cs=> .agg (y_ cs a)
   |x=>x
 |y=>tU x y
def iV:List J→List J→List J
 |x::a,y::b=>P_ x y::iV a b
 |[],_=>[]
 |x::a,[]=>x::a
def rK:List J→List J→List J
 |x::a,y::c=>(match y with
  | .arr b _ g=>match x with
    | .aA=> .arr b 0 g
    |x=>x
  |_=>x)::rK a c
 |[],_=>[]
 |x::a,[]=>x::a
theorem HR: ∀{c b:List J},rK c b=b→j6 c b
 |[],[],_=>trivial
 |[],_::_,h=>by simp [rK]at h
 |_::_,[],h=>by simp [rK]at h
 |x::c,y::b,h=>by
  simp only[rK,mw]at h;refine⟨?_,HR h.2⟩;have a:=h.1
  cases y<;>simp only at a<;>first|exact .inl a|skip
  rename_i d n g
  cases x<;>simp only at a<;>first|exact .inl a|skip
  exact .inr ⟨rfl,d,g,a.symm⟩
def CW(x y:J):J:=
 match y with
 | .ad _ _ _ g=>match x with
   | .ad a b n f=> .ad a b n fun i=>rK (f i) (g i)
   |x=>x
 | .undef=>match b_ x with
   |true=>x
   |false=> .undef
 | .gone=>match x with
   | .undef=> .undef
   | .ad a b n f=> .ad a b n f
   |_=> .gone
 |y=>tU x y
def y9:List J→List J→List J
 |x::a,y::b=>CW x y::y9 a b
 |[],_=>[]
 |x::a,[]=>match(x::a).all fun z=> !(b_ z)with
  |true=>[]
  |false=>x::a
def tV:Heap→Heap→Heap
 |[],a=>match a.all fun y=>y.isEmpty with
  |true=>a
  |false=>[]
 |_::_,[]=>[]
 |x::b,y::a=>match y with
  |[]=>[]::tV b a
  |z::c=>y9 x (z::c)::tV b a
def HS(s m:K):Option K:=
 match vj m with
 |true=>some ⟨iV s.n m.n,tV s.k m.k⟩
 |false=>none
theorem HQ{x y:J}(h:tU x y=y):hY x y:=by
 cases y<;>simp only[tU]at h<;>first|trivial|skip
 case bool c=>cases x<;>simp only[J.bool.injEq,reduceCtorEq]at h<;>exact h
 case arr a n g=>cases x<;>simp only[J.arr.injEq,reduceCtorEq]at h<;>first|(obtain⟨_,rfl,_⟩:=h;rfl)|(obtain⟨rfl,rfl,rfl⟩:=h;exact ay.2 ⟨by simp,rfl,fun _ _=>rfl⟩)
 all_goals (subst h;simp [hY,ay])
theorem Zb: ∀{b a:List J},y_ b a=a→Ii b a
 |[],[],_=>trivial
 |[],_::_,h=>by simp [y_]at h
 |_::_,[],h=>by simp [y_]at h
 |x::b,y::a,h=>by
  simp only[y_,mw]at h;exact⟨HQ h.1,Zb h.2⟩
theorem anp{x y:J}(h:P_ x y=y):wk x y:=by
 cases y<;>simp only[P_]at h<;>simp only[wk]<;>first|exact HQ h|skip
 rename_i a
 cases x<;>simp only[J.agg.injEq,reduceCtorEq]at h ⊢ <;>first|exact Zb h|exact h.elim
theorem Zc: ∀{b a:List J},iV b a=a→oO b a
 |[],[],_=>trivial
 |[],_::_,h=>by simp [iV]at h
 |_::_,[],h=>by simp [iV]at h
 |x::b,y::a,h=>by
  simp only[iV,mw]at h;have c:=Zc h.2;have d:=anp h.1
  cases y<;>first|exact c|exact⟨d,c⟩
theorem anq{x y:J}(h:CW x y=y):hD x y:=by
 cases y
 case undef=>
  simp only[CW]at h;simp only[hD]
  cases e:b_ x with
  |false=>rfl
  |true=>rw[e]at h;simp only at h;subst h;cases e
 case ad j g n f=>
  cases x<;>simp only[CW,J.ad.injEq,reduceCtorEq]at h<;>first|exact h.elim|skip
  obtain⟨rfl,rfl,rfl,h⟩:=h;simp only[hD,ay,vz,Bool.and_self,true_and];exact fun i _=>HR (congrFun h i)
 case bool c=>
  have d:tU x (.bool c)= .bool c:=h;have a:=HQ d
  cases x<;>simp only[hY]at a<;>first|exact a.elim|(simp only[hD,hY,b_,ay];exact⟨rfl,a⟩)
 case arr g n f=>
  have d:tU x (.arr g n f)= .arr g n f:=h;have a:=HQ d
  cases x<;>first|exact(show False from a).elim|exact(ay (b:=true)).2 ⟨rfl,a⟩
 case gone=>cases x<;>first|trivial|(cases h;done)
 all_goals
  simp only[CW,tU]at h;subst h;simp [hD,hY,b_,ay]
theorem Za: ∀{a b:List J},y9 a b=b→rN a b
 |[],[],_=>by simp [rN,ay]
 |[],_::_,h=>by simp [y9]at h
 |x::a,[],h=>by
  simp only[y9]at h;simp only[rN,ay,and_true]
  cases e:(x::a).all fun z=> !(b_ z)with
  |true=>rfl
  |false=>rw[e]at h;cases h
 |x::a,y::b,h=>by
  simp only[y9,mw]at h;exact⟨anq h.1,Za h.2⟩
theorem Qa: ∀{xs a:Heap},tV xs a=a→zn xs a
 |[],a,h=>by
  simp only[tV]at h;simp only[zn,ay,and_true]
  cases e:a.all fun y=>y.isEmpty with
  |true=>rfl
  |false=>
   rw[e]at h;simp only at h;subst h;cases e
 |_::_,[],_=>trivial
 |x::xs,[]::a,h=>by
  simp only[tV,mw]at h;exact Qa (xs:=xs) h.2
 |x::xs,(z::b)::a,h=>by
  simp only[tV,mw]at h;exact⟨Za h.1,Qa h.2⟩
theorem Bf{s m:K}(h:HS s m=some m):rq s m:=by
 unfold HS at h
 cases e:vj m with
 |false=>rw[e]at h;cases h
 |true=>
  rw[e]at h;simp only[gM]at h;have a:iV s.n m.n=m.n:=congrArg K.n h;have b:tV s.k m.k=m.k:=congrArg K.k h;exact⟨Zc a,Qa b,e⟩
def us(n:Nat)(l:List J):List J:=Nat.rec (motive:=fun _=>List J) l (fun _ r=> .undef::r) n
def Canon{α:Type}[Inhabited α](s:G α):Prop:= ∀i,s.n≤i→s.at' i=default
section
variable {α β:Type} [Inhabited α] [Inhabited β]
theorem amj{a b:Nat}(h:a<b):Nat.blt a b=true:=by rw[hj];exact h
theorem ami{a b:Nat}(h:b≤a):Nat.blt a b=false:=by
 cases e:Nat.blt a b with
 |false=>rfl
 |true=>exact absurd (gL e) (by omega)
def scan(a:Int→Bool)(c:Int→β):Nat→Int→Bool×β
 |0,_=>(false,default)
 |m+1,i=>bif a i then(true,c i)else scan a c m (i+1)
theorem Wk(F:Nat→Int→Bool×β)(n:Nat)(a:Int→Bool)(c:Int→β)(g:n≤549755813888)(b: ∀k i,F (k+1) i=bif decide (i<(n:Int))then(cond (a i) (true,c i) (F k (i64.wrap (i+1))))else(false,default)):
  ∀(m k:Nat) (i:Int),0≤i→i+(m:Int)=n→m≤k→F (k+1) i=scan a c m i
 |0,k,i,d,e,f=>by
  rw[b,show decide (i<(n:Int))=false by simp;omega];rfl
 |m+1,k,i,d,e,f=>by
  obtain⟨k,rfl⟩: ∃h,k=h+1:=⟨k-1,by omega⟩;rw[b,show decide (i<(n:Int))=true by simp;omega];simp only[aQ];rw[E _,Wk F n a c g b m k (i+1) (by omega) (by omega) (by omega)];rfl
theorem nw(F:Nat→Int→Bool×β)(n:Nat)(a:Int→Bool)(c:Int→β)(d:n≤549755813888)(b: ∀k i,F (k+1) i=bif decide (i<(n:Int))then(cond (a i) (true,c i) (F k (i64.wrap (i+1))))else(false,default)):
  F (toNat ((n:Int)-0)+1) 0=scan a c n 0:=Wk F n a c d b n _ 0 (cR _) (by omega) (by omega)
theorem BW{a b:Int→Bool}{c d:Int→β} : ∀(m:Nat) (i:Int),(∀j,i≤j→j<i+m→a j=b j)→(∀j,i≤j→j<i+m→c j=d j)→scan a c m i=scan b d m i
 |0,_,_,_=>rfl
 |m+1,i,h,e=>by
  simp only[scan];rw[h i (cR _) (by omega),e i (cR _) (by omega),BW m (i+1) (fun j f g=>h j (by omega) (by omega)) (fun j f g=>e j (by omega) (by omega))]
theorem ahn{a:Int→Bool}{c:Int→β} : ∀(m:Nat) (i:Int),(∀j,i≤j→j<i+m→a j=false)→scan a c m i=(false,default)
 |0,_,_=>rfl
 |m+1,i,h=>by
  simp only[scan];rw[h i (cR _) (by omega)];exact ahn m (i+1) fun j b d=>h j (by omega) (by omega)
theorem MO{a:Int→Bool}{c:Int→β} : ∀(m:Nat) (i:Int),(scan a c m i).1=true→ ∃j,i≤j∧j<i+m∧a j=true∧(scan a c m i).2=c j
 |0,_,h=>by cases h
 |m+1,i,h=>by
  simp only[scan]at h ⊢
  cases b:a i with
  |true=>exact⟨i,cR _,by omega,b,rfl⟩
  |false=>
   rw[b]at h;obtain⟨j,f,g,d,e⟩:=MO m (i+1) h;exact⟨j,by omega,by omega,d,e⟩
end
theorem yF{x:Int}(h:(Lit.int .i64 x).wf=true): -9223372036854775808≤x∧x≤9223372036854775807:=by
 simp only[Lit.wf,bL,jJ]at h;exact h
def iH(a:Int→Bool):Nat→Int→Bool
 |0,_=>false
 |m+1,i=>a i||iH a m (i+1)
section
variable {β:Type} [Inhabited β]
theorem GH(a:Int→Bool)(c:Int→β): ∀m i,(scan a c m i).1=iH a m i
 |0,_=>rfl
 |m+1,i=>by
  simp only[scan,iH]
  cases a i
  ·simpa using GH a c m (i+1)
  ·rfl
theorem BV(F:Nat→Int→Bool×β)(n:Nat)(a:Int→Bool)(c:Int→β)(d:n≤549755813888)(b: ∀k i,F (k+1) i=bif decide (i<(n:Int))then(cond (a i) (true,c i) (F k (i64.wrap (i+1))))else(false,default)):
  F (toNat ((n:Int)-1)+1) 1=scan a c (n-1) 1:=by
 rcases vC n with h|h
 ·subst h;rw[b];rfl
 ·exact Wk F n a c d b (n-1) _ 1 (by omega) (by omega) (by omega)
theorem aAP(a:Int→Bool)(c:β)(m:Nat)(i:Int):scan a (fun _=>c) m i=(iH a m i,bif iH a m i then c else default):=by
 have b:=GH a (fun _=>c) m i
 cases h:iH a m i with
 |false=>
  rw[h]at b;have d: ∀m i,iH a m i=false→scan a (fun _=>c) m i=(false,default):=by
   intro m
   induction m with
   |zero=>intro i _;rfl
   |succ m f=>
    intro i hh;simp only[iH,Cd]at hh;simp only[scan,hh.1,aS];exact f (i+1) hh.2
  exact d m i h
 |true=>
  rw[h]at b;obtain⟨j,_,_,_,e⟩:=MO m i b;exact Prod.ext b e
end
theorem FF(a:Int→Bool)(m:Nat)(r:Bool×Int)(h:r=scan a (fun i=>i) m 0):decide ((cond (cond r.1 false true) (-1) r.2)≥0)=iH a m 0:=by
 subst h;have d:=GH a (fun i=>i) m 0;rw[←d];rcases Bool.eq_false_or_eq_true (scan a (fun i=>i) m 0).1 with h|h
 ·obtain⟨j,b,f,_,c⟩:=MO m 0 h;have e:0≤(scan a (fun i=>i) m 0).2:=by rw[c];exact b
  simp [h,e]
 ·simp [h]
end Go.af
namespace Go.Proofs.YtfmgjpcmcjjoiaaGreatDoor
open Go Go.af
def hr:List (Nat×bD):=[
 (3,{size:=1,d:= .int .i64,zero:=[b 0]}),
 (4,{size:=1,d:= .bool,zero:=[.bool false]}),
 (5,{size:=1,d:= .int .u8,zero:=[.int .u8 0]}),
 (9,{size:=1,d:= .string,zero:=[.str ⟨#[]⟩]}),
 (22,{size:=1,d:= .slice 73 8 72,zero:=[.aA]}),
 (23,{size:=1,d:= .slice 51 11 136,zero:=[.aA]}),
 (24,{size:=1,d:= .slice 101 12 144,zero:=[.aA]}),
 (25,{size:=1,d:= .slice 105 2 16,zero:=[.aA]}),
 (27,{size:=4,d:= .struct [(0,1),(1,1),(2,1),(3,1)],zero:=[.aA,.aA,.aA,b 0]}),
 (30,{size:=1,d:= .slice 38 10 104,zero:=[.aA]}),
 (34,{size:=5,d:= .struct [(0,1),(1,1),(2,1),(3,1),(4,1)],zero:=[b 0,.str ⟨#[]⟩,.str ⟨#[]⟩,.str ⟨#[]⟩,b 0],cmp:=true}),
 (36,{size:=7,d:= .struct [(0,1),(1,1),(2,5)],zero:=[b 0,b 0,b 0,.str ⟨#[]⟩,.str ⟨#[]⟩,.str ⟨#[]⟩,b 0],cmp:=true}),
 (38,{size:=10,d:= .struct [(0,1),(1,1),(2,1),(3,7)],zero:=[b 0,b 0,b 0,b 0,b 0,b 0,.str ⟨#[]⟩,.str ⟨#[]⟩,.str ⟨#[]⟩,b 0],cmp:=true}),
 (41,{size:=1,d:= .slice 53 10 104,zero:=[.aA]}),
 (43,{size:=3,d:= .struct [(0,1),(1,1),(2,1)],zero:=[b 0,b 0,.aA]}),
 (44,{size:=1,d:= .slice 127 8 128,zero:=[.aA]}),
 (46,{size:=2,d:= .struct [(0,1),(1,1)],zero:=[b 0,.aA]}),
 (47,{size:=1,d:= .slice 135 7 80,zero:=[.aA]}),
 (49,{size:=4,d:= .struct [(0,2),(2,1),(3,1)],zero:=[b 0,.aA,b 0,.aA]}),
 (51,{size:=11,d:= .struct [(0,1),(1,1),(2,1),(3,1),(4,3),(7,4)],zero:=[.bool false,b 0,.bool false,b 0,b 0,b 0,.aA,b 0,.aA,b 0,.aA]}),
 (53,{size:=10,d:= .struct [(0,1),(1,1),(2,1),(3,7)],zero:=[b 0,b 0,.bool false,b 0,b 0,b 0,.str ⟨#[]⟩,.str ⟨#[]⟩,.str ⟨#[]⟩,b 0],cmp:=true}),
 (56,{size:=1,d:= .int .i64,zero:=[b 0]}),
 (71,{size:=5,d:= .struct [(0,1),(1,1),(2,1),(3,1),(4,1)],zero:=[b 0,b 0,b 0,b 0,.str ⟨#[]⟩]}),
 (73,{size:=8,d:= .struct [(0,1),(1,1),(2,1),(3,5)],zero:=[b 0,b 0,b 0,b 0,b 0,b 0,b 0,.str ⟨#[]⟩]}),
 (77,{size:=1,d:= .pointer 91,zero:=[.jg]}),
 (79,{size:=6,d:= .struct [(0,1),(1,1),(2,4)],zero:=[b 0,b 0,b 0,.aA,b 0,.aA]}),
 (80,{size:=3,d:= .array 3 4 1,zero:=[.bool false,.bool false,.bool false]}),
 (81,{size:=3,d:= .array 3 3 1,zero:=[b 0,b 0,b 0]}),
 (82,{size:=1,d:= .slice 147 9 96,zero:=[.aA]}),
 (83,{size:=1,d:= .slice 5 1 1,zero:=[.aA]}),
 (85,{size:=2,d:= .struct [(0,1),(1,1)],zero:=[.aA,b 0]}),
 (86,{size:=1,d:= .slice 117 15 168,zero:=[.aA]}),
 (88,{size:=33,d:= .struct [(0,1),(1,1),(2,1),(3,1),(4,1),(5,1),(6,3),(9,6),(15,4),(19,1),(20,3),(23,3),(26,3),(29,1),(30,2),(32,1)],zero:=[b 0,.bool false,b 0,b 0,b 0,b 0,b 0,b 0,.aA,b 0,b 0,b 0,.aA,b 0,.aA,b 0,.aA,b 0,.aA,b 0,.bool false,.bool false,.bool false,b 0,b 0,b 0,b 0,b 0,b 0,.aA,.aA,b 0,.aA]}),
 (89,{size:=99,d:= .array 3 88 33,zero:=[b 0,.bool false,b 0,b 0,b 0,b 0,b 0,b 0,.aA,b 0,b 0,b 0,.aA,b 0,.aA,b 0,.aA,b 0,.aA,b 0,.bool false,.bool false,.bool false,b 0,b 0,b 0,b 0,b 0,b 0,.aA,.aA,b 0,.aA,b 0,.bool false,b 0,b 0,b 0,b 0,b 0,b 0,.aA,b 0,b 0,b 0,.aA,b 0,.aA,b 0,.aA,b 0,.aA,b 0,.bool false,.bool false,.bool false,b 0,b 0,b 0,b 0,b 0,b 0,.aA,.aA,b 0,.aA,b 0,.bool false,b 0,b 0,b 0,b 0,b 0,b 0,.aA,b 0,b 0,b 0,.aA,b 0,.aA,b 0,.aA,b 0,.aA,b 0,.bool false,.bool false,.bool false,b 0,b 0,b 0,b 0,b 0,b 0,.aA,.aA,b 0,.aA]}),
 (91,{size:=102,d:= .struct [(0,99),(99,1),(100,1),(101,1)],zero:=[b 0,.bool false,b 0,b 0,b 0,b 0,b 0,b 0,.aA,b 0,b 0,b 0,.aA,b 0,.aA,b 0,.aA,b 0,.aA,b 0,.bool false,.bool false,.bool false,b 0,b 0,b 0,b 0,b 0,b 0,.aA,.aA,b 0,.aA,b 0,.bool false,b 0,b 0,b 0,b 0,b 0,b 0,.aA,b 0,b 0,b 0,.aA,b 0,.aA,b 0,.aA,b 0,.aA,b 0,.bool false,.bool false,.bool false,b 0,b 0,b 0,b 0,b 0,b 0,.aA,.aA,b 0,.aA,b 0,.bool false,b 0,b 0,b 0,b 0,b 0,b 0,.aA,b 0,b 0,b 0,.aA,b 0,.aA,b 0,.aA,b 0,.aA,b 0,.bool false,.bool false,.bool false,b 0,b 0,b 0,b 0,b 0,b 0,.aA,.aA,b 0,.aA,.aA,.aA,.aA]}),
 (94,{size:=11,d:= .struct [(0,1),(1,1),(2,6),(8,3)],zero:=[b 0,b 0,b 0,b 0,b 0,.aA,b 0,.aA,b 0,b 0,.aA]}),
 (97,{size:=1,d:= .slice 9 1 16,zero:=[.aA]}),
 (99,{size:=4,d:= .struct [(0,1),(1,1),(2,1),(3,1)],zero:=[b 0,.str ⟨#[]⟩,b 0,.aA]}),
 (101,{size:=12,d:= .struct [(0,1),(1,7),(8,4)],zero:=[b 0,b 0,b 0,b 0,.str ⟨#[]⟩,.str ⟨#[]⟩,.str ⟨#[]⟩,b 0,b 0,.str ⟨#[]⟩,b 0,.aA]}),
 (105,{size:=2,d:= .struct [(0,1),(1,1)],zero:=[b 0,b 0]}),
 (106,{size:=1,d:= .other,zero:=[.undef]}),
 (114,{size:=1,d:= .pointer 88,zero:=[.jg]}),
 (117,{size:=15,d:= .struct [(0,1),(1,1),(2,1),(3,1),(4,1),(5,1),(6,1),(7,1),(8,1),(9,6)],zero:=[b 0,b 0,b 0,b 0,b 0,b 0,.bool false,b 0,.aA,b 0,b 0,b 0,.aA,b 0,.aA]}),
 (122,{size:=1,d:= .slice 130 2 32,zero:=[.aA]}),
 (123,{size:=1,d:= .slice 133 2 24,zero:=[.aA]}),
 (125,{size:=6,d:= .struct [(0,1),(1,1),(2,1),(3,1),(4,1),(5,1)],zero:=[b 0,.str ⟨#[]⟩,b 0,.aA,.aA,.aA]}),
 (127,{size:=8,d:= .struct [(0,1),(1,6),(7,1)],zero:=[.str ⟨#[]⟩,b 0,.str ⟨#[]⟩,b 0,.aA,.aA,.aA,b 0]}),
 (130,{size:=2,d:= .struct [(0,1),(1,1)],zero:=[.str ⟨#[]⟩,.str ⟨#[]⟩],cmp:=true}),
 (133,{size:=2,d:= .struct [(0,1),(1,1)],zero:=[.str ⟨#[]⟩,b 0],cmp:=true}),
 (135,{size:=7,d:= .struct [(0,1),(1,1),(2,1),(3,4)],zero:=[b 0,b 0,b 0,b 0,.str ⟨#[]⟩,b 0,.aA]}),
 (147,{size:=9,d:= .struct [(0,1),(1,1),(2,7)],zero:=[b 0,b 0,b 0,b 0,b 0,.str ⟨#[]⟩,.str ⟨#[]⟩,.str ⟨#[]⟩,b 0]}),
 (166,{size:=20,d:= .struct [(0,1),(1,1),(2,1),(3,1),(4,10),(14,6)],zero:=[b 0,b 0,b 0,b 0,b 0,b 0,.bool false,b 0,b 0,b 0,.str ⟨#[]⟩,.str ⟨#[]⟩,.str ⟨#[]⟩,b 0,b 0,b 0,b 0,.aA,b 0,.aA]}),
 (181,{size:=1,d:= .slice 166 20 216,zero:=[.aA]}),
 (187,{size:=1,d:= .int .u64,zero:=[.int .u64 0]}),
 (213,{size:=1,d:= .pointer 49,zero:=[.jg]}),
 (224,{size:=1,d:= .struct [(0,1)],zero:=[.aA]}),
 (228,{size:=1,d:= .pointer 230,zero:=[.jg]}),
 (230,{size:=2,d:= .struct [(0,1),(1,1)],zero:=[.aA,.bool false]}),
 (237,{size:=1,d:= .slice 83 1 24,zero:=[.aA]}),
 (241,{size:=1,d:= .pointer 244,zero:=[.jg]}),
 (244,{size:=4,d:= .struct [(0,2),(2,1),(3,1)],zero:=[b 0,.aA,b 0,.bool false]}),
 (250,{size:=1,d:= .int .u64,zero:=[.int .u64 0]}),
 (293,{size:=1,d:= .slice 3 1 8,zero:=[.aA]})
]
theorem WC:(hr.all fun x=>B1 Tryz.prog x.1 x.2)=true:=by kernel_rfl
theorem PY:(hr.all fun x=>HL Tryz.prog x)=true:=by kernel_rfl
theorem mixed:Tryz.prog.follows .mixedOrders=true:=by kernel_rfl
def afq(m:Nat)(l:List (Nat×tD))(a:List (Nat×yS)):Env:=⟨Tryz.prog,yB hr,GM l,m,Fv a,fun _=>false⟩
theorem axy{m:Nat}{l:List (Nat×tD)}{a:List (Nat×yS)}(h:Hs Tryz.prog l)(b:Ol Tryz.prog a):(afq m l a).dm:=ZD mixed WC PY (Wv h) (TK b)
def x8(l:List (Nat×tD)):Env:=afq 0 l []
theorem gZ{l:List (Nat×tD)}(h:Hs Tryz.prog l):(x8 l).dm:=axy h trivial
abbrev U:J:= .undef
section
def cj:J→Int
 | .int _ n=>n
 |_=>0
def GR:J→Bool
 | .bool b=>b
 |_=>false
def hO:J→u
 | .str s=>s
 |_=>⟨#[]⟩
variable(l:List J)(x:Int)
def aZ:List J:=[b x]
def d3:Int:=cj (l.getD 0 .undef)
theorem anM(x:Int):d3 (aZ x)=x:=rfl
structure bl where
 q:u
 C:u
instance:Inhabited bl:=⟨⟨default,default⟩⟩
def fz(x:bl):List J:=[.str x.q,.str x.C]
def d160:bl:=⟨hO (l.getD 0 .undef),hO (l.getD 1 .undef)⟩
theorem anJ(x:bl):d160 (fz x)=x:=rfl
def cK(x:u):List J:=[.str x]
def d9:u:=hO (l.getD 0 .undef)
theorem anX(x:u):d9 (cK x)=x:=rfl
structure bH where
 q:u
 C:Int
instance:Inhabited bH:=⟨⟨default,default⟩⟩
def fA(x:bH):List J:=[.str x.q,b x.C]
def d164:bH:=⟨hO (l.getD 0 .undef),cj (l.getD 1 .undef)⟩
theorem anK(x:bH):d164 (fA x)=x:=rfl
structure L where
 q:u
 C:Int
 z:u
 I:Int
 w:(G bl)
 m:(G u)
 N:(G bH)
 ao:Int
instance:Inhabited L:=⟨⟨default,default,default,default,default,default,default,default⟩⟩
def gp(x:L):List J:=[.str x.q,b x.C,.str x.z,b x.I,aI 2 fz x.w,aI 1 cK x.m,aI 2 fA x.N,b x.ao]
def d175:L:=⟨hO (l.getD 0 .undef),cj (l.getD 1 .undef),hO (l.getD 2 .undef),cj (l.getD 3 .undef),h6 d160 (l.getD 4 .undef),h6 d9 (l.getD 5 .undef),h6 d164 (l.getD 6 .undef),cj (l.getD 7 .undef)⟩
theorem anL(x:L):d175 (gp x)=x:=rfl
structure aw where
 q:Int
 C:Int
 z:Int
 I:Int
 w:u
 m:Int
 N:(G u)
instance:Inhabited aw:=⟨⟨default,default,default,default,default,default,default⟩⟩
def gV(x:aw):List J:=[b x.q,b x.C,b x.z,b x.I,.str x.w,b x.m,aI 1 cK x.N]
def d137:aw:=⟨cj (l.getD 0 .undef),cj (l.getD 1 .undef),cj (l.getD 2 .undef),cj (l.getD 3 .undef),hO (l.getD 4 .undef),cj (l.getD 5 .undef),h6 d9 (l.getD 6 .undef)⟩
theorem anI(x:aw):d137 (gV x)=x:=rfl
structure aq where
 q:Int
 C:Int
 z:Bool
 I:Int
 w:Int
 m:Int
 N:u
 ao:u
 i:u
 aC:Int
instance:Inhabited aq:=⟨⟨default,default,default,default,default,default,default,default,default,default⟩⟩
def dU(x:aq):List J:=[b x.q,b x.C,.bool x.z,b x.I,b x.w,b x.m,.str x.N,.str x.ao,.str x.i,b x.aC]
def d68:aq:=⟨cj (l.getD 0 .undef),cj (l.getD 1 .undef),GR (l.getD 2 .undef),cj (l.getD 3 .undef),cj (l.getD 4 .undef),cj (l.getD 5 .undef),hO (l.getD 6 .undef),hO (l.getD 7 .undef),hO (l.getD 8 .undef),cj (l.getD 9 .undef)⟩
theorem anV(x:aq):d68 (dU x)=x:=rfl
def cN:List J:=[.int .u8 x]
def d5:Int:=cj (l.getD 0 .undef)
theorem anU(x:Int):d5 (cN x)=x:=rfl
def Zu(x:(G Int)):List J:=[aI 1 cN x]
def d43:(G Int):=h6 d5 (l.getD 0 .undef)
theorem anT(x:(G Int)):d43 (Zu x)=x:=rfl
structure bo where
 q:Int
 C:Int
 z:Int
 I:Int
 w:Int
 m:Int
 N:Bool
 ao:Int
 i:Int
 aC:Int
 bU:u
 bY:u
 bN:u
 cc:Int
 aY:Int
 cU:Int
 eI:Int
 ei:(G L)
 eJ:Int
 ej:(G aw)
instance:Inhabited bo:=⟨⟨default,default,default,default,default,default,default,default,default,default,default,default,default,default,default,default,default,default,default,default⟩⟩
def Qf(x:bo):List J:=[b x.q,b x.C,b x.z,b x.I,b x.w,b x.m,.bool x.N,b x.ao,b x.i,b x.aC,.str x.bU,.str x.bY,.str x.bN,b x.cc,b x.aY,b x.cU,b x.eI,aI 8 gp x.ei,b x.eJ,aI 7 gV x.ej]
def d122:bo:=⟨cj (l.getD 0 .undef),cj (l.getD 1 .undef),cj (l.getD 2 .undef),cj (l.getD 3 .undef),cj (l.getD 4 .undef),cj (l.getD 5 .undef),GR (l.getD 6 .undef),cj (l.getD 7 .undef),cj (l.getD 8 .undef),cj (l.getD 9 .undef),hO (l.getD 10 .undef),hO (l.getD 11 .undef),hO (l.getD 12 .undef),cj (l.getD 13 .undef),cj (l.getD 14 .undef),cj (l.getD 15 .undef),cj (l.getD 16 .undef),h6 d175 (l.getD 17 .undef),cj (l.getD 18 .undef),h6 d137 (l.getD 19 .undef)⟩
theorem anH(x:bo):d122 (Qf x)=x:=rfl
structure aJ where
 q:Int
 C:Int
 z:Int
 I:Int
 w:Int
 m:Int
 N:u
 ao:u
 i:u
 aC:Int
instance:Inhabited aJ:=⟨⟨default,default,default,default,default,default,default,default,default,default⟩⟩
def Zv(x:aJ):List J:=[b x.q,b x.C,b x.z,b x.I,b x.w,b x.m,.str x.N,.str x.ao,.str x.i,b x.aC]
def d75:aJ:=⟨cj (l.getD 0 .undef),cj (l.getD 1 .undef),cj (l.getD 2 .undef),cj (l.getD 3 .undef),cj (l.getD 4 .undef),cj (l.getD 5 .undef),hO (l.getD 6 .undef),hO (l.getD 7 .undef),hO (l.getD 8 .undef),cj (l.getD 9 .undef)⟩
theorem anW(x:aJ):d75 (Zv x)=x:=rfl
structure iQ where
 q:Bool
 C:Int
 z:Bool
 I:Int
 w:Int
 m:Int
 N:(G aq)
 ao:Int
 i:(G L)
 aC:Int
 bU:(G aw)
instance:Inhabited iQ:=⟨⟨default,default,default,default,default,default,default,default,default,default,default⟩⟩
def H0(x:iQ):List J:=[.bool x.q,b x.C,.bool x.z,b x.I,b x.w,b x.m,aI 10 dU x.N,b x.ao,aI 8 gp x.i,b x.aC,aI 7 gV x.bU]
def Zj:iQ:=⟨GR (l.getD 0 .undef),cj (l.getD 1 .undef),GR (l.getD 2 .undef),cj (l.getD 3 .undef),cj (l.getD 4 .undef),cj (l.getD 5 .undef),h6 d68 (l.getD 6 .undef),cj (l.getD 7 .undef),h6 d175 (l.getD 8 .undef),cj (l.getD 9 .undef),h6 d137 (l.getD 10 .undef)⟩
theorem anP(x:iQ):Zj (H0 x)=x:=rfl
structure bF where
 q:Int
 C:Int
 z:Int
 I:Int
 w:u
 m:u
 N:u
 ao:Int
 i:Int
 aC:u
 bU:Int
 bY:(G u)
instance:Inhabited bF:=⟨⟨default,default,default,default,default,default,default,default,default,default,default,default⟩⟩
def HY(x:bF):List J:=[b x.q,b x.C,b x.z,b x.I,.str x.w,.str x.m,.str x.N,b x.ao,b x.i,.str x.aC,b x.bU,aI 1 cK x.bY]
def Zh:bF:=⟨cj (l.getD 0 .undef),cj (l.getD 1 .undef),cj (l.getD 2 .undef),cj (l.getD 3 .undef),hO (l.getD 4 .undef),hO (l.getD 5 .undef),hO (l.getD 6 .undef),cj (l.getD 7 .undef),cj (l.getD 8 .undef),hO (l.getD 9 .undef),cj (l.getD 10 .undef),h6 d9 (l.getD 11 .undef)⟩
theorem anN(x:bF):Zh (HY x)=x:=rfl
structure aM where
 q:Int
 C:Int
instance:Inhabited aM:=⟨⟨default,default⟩⟩
def HZ(x:aM):List J:=[b x.q,b x.C]
def Zi:aM:=⟨cj (l.getD 0 .undef),cj (l.getD 1 .undef)⟩
theorem anO(x:aM):Zi (HZ x)=x:=rfl
structure hz where
 q:Int
 C:Int
 z:Int
 I:Int
 w:Int
 m:u
 N:u
 ao:u
 i:Int
instance:Inhabited hz:=⟨⟨default,default,default,default,default,default,default,default,default⟩⟩
def Zt(x:hz):List J:=[b x.q,b x.C,b x.z,b x.I,b x.w,.str x.m,.str x.N,.str x.ao,b x.i]
def Zl:hz:=⟨cj (l.getD 0 .undef),cj (l.getD 1 .undef),cj (l.getD 2 .undef),cj (l.getD 3 .undef),cj (l.getD 4 .undef),hO (l.getD 5 .undef),hO (l.getD 6 .undef),hO (l.getD 7 .undef),cj (l.getD 8 .undef)⟩
theorem anR(x:hz):Zl (Zt x)=x:=rfl
structure ah where
 q:Int
 C:Int
 z:Int
 I:Int
 w:Int
 m:Int
 N:Bool
 ao:Int
 i:(G aq)
 aC:Int
 bU:Int
 bY:Int
 bN:(G L)
 cc:Int
 aY:(G aw)
instance:Inhabited ah:=⟨⟨default,default,default,default,default,default,default,default,default,default,default,default,default,default,default⟩⟩
def ig(x:ah):List J:=[b x.q,b x.C,b x.z,b x.I,b x.w,b x.m,.bool x.N,b x.ao,aI 10 dU x.i,b x.aC,b x.bU,b x.bY,aI 8 gp x.bN,b x.cc,aI 7 gV x.aY]
def _root_.Go.iN(a c:Int)(x:ah):List J:=[b a,b c,b x.z,b x.I,b x.w,b x.m,.bool x.N,b x.ao,aI 10 dU x.i,b x.aC,b x.bU,b x.bY,aI 8 gp x.bN,b x.cc,aI 7 gV x.aY]
def Zk:ah:=⟨cj (l.getD 0 .undef),cj (l.getD 1 .undef),cj (l.getD 2 .undef),cj (l.getD 3 .undef),cj (l.getD 4 .undef),cj (l.getD 5 .undef),GR (l.getD 6 .undef),cj (l.getD 7 .undef),h6 d68 (l.getD 8 .undef),cj (l.getD 9 .undef),cj (l.getD 10 .undef),cj (l.getD 11 .undef),h6 d175 (l.getD 12 .undef),cj (l.getD 13 .undef),h6 d137 (l.getD 14 .undef)⟩
theorem anQ(x:ah):Zk (ig x)=x:=rfl
structure iw where
 q:Int
 C:Int
 z:Int
 I:Int
 w:Int
 m:Int
 N:Int
 ao:u
instance:Inhabited iw:=⟨⟨default,default,default,default,default,default,default,default⟩⟩
def zi(x:iw):List J:=[b x.q,b x.C,b x.z,b x.I,b x.w,b x.m,b x.N,.str x.ao]
def mF:iw:=⟨cj (l.getD 0 .undef),cj (l.getD 1 .undef),cj (l.getD 2 .undef),cj (l.getD 3 .undef),cj (l.getD 4 .undef),cj (l.getD 5 .undef),cj (l.getD 6 .undef),hO (l.getD 7 .undef)⟩
theorem anS(x:iw):mF (zi x)=x:=rfl
end
end Go.Proofs.YtfmgjpcmcjjoiaaGreatDoor
namespace Go.af
open Go Go.RowKit
structure cD where
 T:Type
 vd:Inhabited T
 M:Nat
 e:T→List J
 d:List J→T
 nJ: ∀x,d (e x)=x
inductive aB:Type 1 where
 |int (k:IntKind)
 |bool
 |str
 |ab (E:cD)
 |ad (E:cD)
@[reducible] def aB.ty:aB→Type
  | .int _=>Int
  | .bool=>Bool
  | .str=>ByteArray
  | .ab E=>G E.T
  | .ad E=>G E.T
def aB.ln:(k:aB)→k.ty
 | .int _=>default
 | .bool=>default
 | .str=>default
 | .ab E=>have:=E.vd;default
 | .ad E=>have:=E.vd;default
def aB.av:(k:aB)→k.ty→J
 | .int k,n=> .int k n
 | .bool,b=> .bool b
 | .str,s=> .str s
 | .ab E,s=>aI E.M E.e s
 | .ad E,s=> .ad false E.M s.n fun i=>E.e (s.at' i)
def agK(k:IntKind)(x:J):Option Int:=
 match x with
 | .int a n=>match decide (a=k)with
   |true=>some n
   |false=>none
 |_=>none
def V1(x:J):Option Bool:=
 match x with
 | .bool b=>some b
 | .lit b=>some b
 |_=>none
def az7(x:J):Option ByteArray:=
 match x with
 | .str s=>some s
 |_=>none
def agM(E:cD)(x:J):Option (G E.T):=
 match x with
 | .arr a n f=>match Nat.beq a E.M with
   |true=>some ⟨n,fun i=>E.d (f i)⟩
   |false=>none
 | .aA=>some (@D E.T E.vd)
 |_=>none
def agL(E:cD)(x:J):Option (G E.T):=
 match x with
 | .ad a b n f=>match a with
   |true=>none
   |false=>match Nat.beq b E.M with
    |true=>some ⟨n,fun i=>E.d (f i)⟩
    |false=>none
 |_=>none
def aB.rd:(k:aB)→J→Option k.ty
 | .int k,x=>agK k x
 | .bool,x=>af.V1 x
 | .str,x=>az7 x
 | .ab E,x=>agM E x
 | .ad E,x=>agL E x
theorem aB.canon: ∀(k:aB) (x:k.ty),k.rd (k.av x)=some x
 | .int k,x=>by simp [aB.rd,aB.av,agK]
 | .bool,x=>rfl
 | .str,x=>rfl
 | .ab E,x=>by simp [aB.rd,aB.av,agM,aI,E.nJ]
 | .ad E,x=>by simp [aB.rd,aB.av,agL,E.nJ]
@[reducible] def du:List aB→Type
  |[]=>Unit
  |[k]=>k.ty
  |k::a::r=>k.ty×du (a::r)
def du.cons:{k:aB} →{a:List aB} →k.ty→du a→du (k::a)
 |_,[],x,_=>x
 |_,_::_,x,s=>(x,s)
def du.ln:(a:List aB)→du a
 |[]=>()
 |k::a=>du.cons k.ln (du.ln a)
def du.gS:(b:List aB)→du b→List J
 |[],_=>[]
 |[k],x=>[k.av x]
 |k::a::r,s=>k.av s.1::du.gS (a::r) s.2
def q4:(b:List aB)→List J→Option (du b)
 |[],[]=>some ()
 |[k],[x]=>k.rd x
 |k::a::r,x::c=>match k.rd x with
  |some v=>match q4 (a::r) c with
   |some s=>some (v,s)
   |none=>none
  |none=>none
 |_,_=>none
def aB.nrm(k:aB)(x:J):Option J:=
 match k.rd x with
 |some v=>some (k.av v)
 |none=>none
def dK:List aB→List J→Option (List J)
 |[],[]=>some []
 |k::a,x::b=>match k.nrm x with
  |some y=>match dK a b with
   |some c=>some (y::c)
   |none=>none
  |none=>none
 |_,_=>none
theorem aB.Ga{k:aB}{x y:J}(h:k.nrm x=some y): ∃v,y=k.av v∧k.rd y=some v:=by
 unfold aB.nrm at h
 split at h
 ·rename_i v e
  cases h
  exact⟨v,rfl,aB.canon k v⟩
 ·cases h
theorem By: ∀{bm:List aB} {xs cq:List J},dK bm xs=some cq→ ∃s,q4 bm cq=some s∧du.gS bm s=cq
 |[],[],cq,h=>by cases h;exact⟨(),rfl,rfl⟩
 |[k],[x],cq,h=>by
  simp only[dK]at h
  split at h<;>try (cases h;done)
  rename_i y e
  cases h
  obtain⟨v,a,b⟩:=aB.Ga e;exact⟨v,b,by simp only[du.gS,a]⟩
 |k::g::r,x::xs,cq,h=>by
  simp only[dK]at h
  split at h<;>try (cases h;done)
  rename_i y e
  split at h<;>try (cases h;done)
  rename_i i c
  cases h
  obtain⟨v,a,b⟩:=aB.Ga e;obtain⟨s,d,f⟩:=By (bm:=g::r) (xs:=xs) (cq:=i) (by simpa only[dK]using c);exact⟨(v,s),by simp only[q4,b,d],by simp only[du.gS,a,f]⟩
 |[],_::_,_,h=>by cases h
 |_::_,[],_,h=>by cases h
 |[k],x::y::r,cq,h=>by
  simp only[dK]at h
  split at h<;>cases h
def yY:(b:List aB)→(du b→Prop)→Prop
 |[],p=>p ()
 |[k],p=> ∀x:k.ty,p x
 |k::a::r,p=> ∀x:k.ty,yY (a::r) fun s=>p (x,s)
theorem CB: ∀(b:List aB) (p:du b→Prop),yY b p↔ ∀s,p s
 |[],p=>⟨fun h _=>h,fun h=>h ()⟩
 |[k],p=>Iff.rfl
 |k::a::r,p=>by
  simp only[yY];constructor
  ·intro h s;exact(CB (a::r) _).1 (h s.1) s.2
  ·intro h x;exact(CB (a::r) _).2 fun s=>h (x,s)
inductive gP:Type 1 where
 |c4
 |e {α:Type} (a b:α)
 |and (l r:gP)
def gP.holds:gP→Prop
 | .c4=>True
 | .e a b=>a=b
 | .and l r=>l.holds∧r.holds
inductive aO:Type 1 where
 |c4
 |p (q:Prop)
 |e {α:Type} (a b:α)
 |es {σ:Type} (f:σ→gP)
 |and (l r:aO)
 |imp (b c:Bool) (r:aO)
 |u1 (q:Prop) (r:aO)
 |all (bm:List aB) (I:du bm→Prop) (f:du bm→aO)
def aO.holds:aO→Prop
 | .c4=>True
 | .p q=>q
 | .e a b=>a=b
 | .es f=> ∀k,(f k).holds
 | .and l r=>l.holds∧r.holds
 | .imp b c r=>b=c→r.holds
 | .u1 q r=>q→r.holds
 | .all _ I f=> ∀s,I s→(f s).holds
def aO.kC:aO→Bool
 | .p _=>true
 | .and l r=>match l.kC with
   |true=>true
   |false=>r.kC
 | .imp _ _ r=>r.kC
 | .u1 _ r=>r.kC
 | .all .. =>true
 |_=>false
def aO.prop:aO→Prop
 | .c4=>True
 | .p q=>q
 | .e _ _=>True
 | .es _=>True
 | .and l r=>match l.kC with
   |true=>match r.kC with
    |true=>l.prop∧r.prop
    |false=>l.prop
   |false=>r.prop
 | .imp b c r=>match r.kC with
   |true=>b=c→r.prop
   |false=>True
 | .u1 q r=>match r.kC with
   |true=>q→r.prop
   |false=>True
 | .all a I f=>yY a fun s=>I s→(f s).prop
inductive nD:Type 1 where
 |nil
 |c {α:Type} (a:α)
 |and (l r:nD)
 |lam {σ:Type} (f:σ→nD)
def gP.g3:gP→nD
 | .c4=> .nil
 | .e a _=> .c a
 | .and l r=> .and l.g3 r.g3
def gP.hK:gP→nD
 | .c4=> .nil
 | .e _ b=> .c b
 | .and l r=> .and l.hK r.hK
theorem gP.ok: ∀(o:gP),o.g3=o.hK→o.holds
 | .c4,_=>trivial
 | .e a b,h=>by
   simp only[gP.g3,gP.hK,nD.c.injEq,heq_eq_eq,true_and]at h;exact h
 | .and l r,h=>by
   simp only[gP.g3,gP.hK,nD.and.injEq]at h;exact⟨gP.ok l h.1,gP.ok r h.2⟩
def aO.g3:aO→nD
 | .e a _=> .c a
 | .es f=> .lam fun k=>(f k).g3
 | .and l r=> .and l.g3 r.g3
 | .imp _ _ r=>r.g3
 | .u1 _ r=>r.g3
 | .all _ _ f=> .lam fun s=>(f s).g3
 |_=> .nil
def aO.hK:aO→nD
 | .e _ b=> .c b
 | .es f=> .lam fun k=>(f k).hK
 | .and l r=> .and l.hK r.hK
 | .imp _ _ r=>r.hK
 | .u1 _ r=>r.hK
 | .all _ _ f=> .lam fun s=>(f s).hK
 |_=> .nil
theorem aO.soft: ∀(o:aO),o.kC=false→o.prop
 | .c4,_=>trivial
 | .p _,h=>by cases h
 | .e _ _,_=>trivial
 | .es _,_=>trivial
 | .and l r,h=>by
   simp only[aO.kC]at h
   cases a:l.kC with
   |true=>rw[a]at h;cases h
   |false=>
    rw[a]at h;simp only[aO.prop,a];exact aO.soft r h
 | .imp b c r,h=>by
   simp only[aO.kC]at h;simp only[aO.prop,h]
 | .u1 q r,h=>by
   simp only[aO.kC]at h;simp only[aO.prop,h]
 | .all ..,h=>by cases h
theorem aO.ok: ∀(o:aO),o.g3=o.hK→o.prop→o.holds
 | .c4,_,_=>trivial
 | .p _,_,h=>h
 | .e a b,h,_=>by
   simp only[aO.g3,aO.hK,nD.c.injEq,heq_eq_eq,true_and]at h;exact h
 | .es f,h,_=>by
   simp only[aO.g3,aO.hK,nD.lam.injEq,heq_eq_eq,true_and]at h;exact fun k=>gP.ok (f k) (congrFun h k)
 | .and l r,h,d=>by
   simp only[aO.g3,aO.hK,nD.and.injEq]at h;simp only[aO.prop]at d
   cases i:l.kC with
   |true=>
    rw[i]at d
    cases e:r.kC with
    |true=>rw[e]at d;exact⟨aO.ok l h.1 d.1,aO.ok r h.2 d.2⟩
    |false=>rw[e]at d;exact⟨aO.ok l h.1 d,aO.ok r h.2 (aO.soft r e)⟩
   |false=>rw[i]at d;exact⟨aO.ok l h.1 (aO.soft l i),aO.ok r h.2 d⟩
 | .imp b c r,h,d=>by
   simp only[aO.g3,aO.hK]at h;simp only[aO.prop]at d;intro g
   cases e:r.kC with
   |true=>rw[e]at d;exact aO.ok r h (d g)
   |false=>exact aO.ok r h (aO.soft r e)
 | .u1 q r,h,d=>by
   simp only[aO.g3,aO.hK]at h;simp only[aO.prop]at d;intro g
   cases e:r.kC with
   |true=>rw[e]at d;exact aO.ok r h (d g)
   |false=>exact aO.ok r h (aO.soft r e)
 | .all m I f,h,d=>by
   simp only[aO.g3,aO.hK,nD.lam.injEq,heq_eq_eq,true_and]at h;intro s j;exact aO.ok (f s) (congrFun h s) ((CB m _).1 d s j)
inductive T (α:Type _) where
 |cY (a:α)
 |dT (b:Bool) (l r:T α)
def T.bx{α:Type _} :T α→α
 | .cY a=>a
 | .dT b l r=>match b with
   |true=>l.bx
   |false=>r.bx
def T.map{α β:Type _}(f:α→β):T α→T β
 | .cY a=> .cY (f a)
 | .dT b l r=> .dT b (l.map f) (r.map f)
theorem T.k_{α β:Type _}(f:α→β): ∀t:T α,(t.map f).bx=f t.bx
 | .cY _=>rfl
 | .dT b l r=>by cases b<;>simp only[T.map,T.bx,T.k_ f]
def T.prune{α β:Type _}(f:α→Option β):T α→Option (T β)
 | .cY a=>match f a with
   |some b=>some (.cY b)
   |none=>none
 | .dT b l r=>match l.prune f with
   |some c=>match r.prune f with
    |some d=>some (.dT b c d)
    |none=>some c
   |none=>r.prune f
theorem T.mn{α β:Type _}{f:α→Option β} : ∀{t:T α} {x:β},f t.bx=some x→ ∃c,t.prune f=some c∧c.bx=x
 | .cY a,x,h=>by
   simp only[T.bx]at h;exact⟨.cY x,by simp only[T.prune,h],rfl⟩
 | .dT b l r,x,h=>by
   cases b with
   |true=>
    obtain⟨c,g,d⟩:=T.mn (t:=l) (show f l.bx=some x from h);simp only[T.prune,g]
    cases e:r.prune f with
    |none=>exact⟨c,rfl,d⟩
    |some j=>exact⟨.dT true c j,rfl,d⟩
   |false=>
    obtain⟨c,g,d⟩:=T.mn (t:=r) (show f r.bx=some x from h);simp only[T.prune,g]
    cases e:l.prune f with
    |none=>exact⟨c,rfl,d⟩
    |some i=>exact⟨.dT false i c,rfl,d⟩
inductive iP where
 |f
 |l
 |b (x y:iP)
def T.first{α:Type _} :T α→α
 | .cY a=>a
 | .dT _ l _=>l.first
def T.jP{α:Type} :T α→iP→α
 | .cY a,_=>a
 | .dT b l r,m=>match m with
   | .f=>bif b then l.jP .f else r.jP .f
   | .l=>l.first
   | .b x y=>bif b then l.jP x else r.jP y
def T.same{α:Type}(a:α):T α→gP
 | .cY x=> .e x a
 | .dT _ l r=> .and (l.same a) (r.same a)
def T.y7{α:Type} :T α→iP→gP
 | .cY _,_=> .c4
 | .dT _ l r,m=>match m with
   | .f=> .c4
   | .l=> .and (l.same l.first) (r.same l.first)
   | .b x y=> .and (l.y7 x) (r.y7 y)
theorem T.Wg{α:Type}{a:α} : ∀{t:T α},(t.same a).holds→t.bx=a
 | .cY _,h=>h
 | .dT b l r,h=>by
   cases b
   ·exact T.Wg (t:=r) h.2
   ·exact T.Wg (t:=l) h.1
theorem T.YY{α:Type} : ∀(t:T α),t.jP .f=t.bx
 | .cY _=>rfl
 | .dT b l r=>by cases b<;>simp only[T.jP,T.bx,aQ,aS,T.YY]
theorem T.CU{α:Type} : ∀{t:T α} {m:iP},(t.y7 m).holds→t.jP m=t.bx
 | .cY _,_,_=>rfl
 | .dT b l r,.f,_=>T.YY _
 | .dT b l r,.l,h=>by
   simp only[T.jP];exact(T.Wg (t:= .dT b l r) h).symm
 | .dT b l r,.b x y,h=>by
   have a:=T.CU (t:=l) (m:=x) h.1;have c:=T.CU (t:=r) (m:=y) h.2
   cases b
   ·simp only[T.jP,aS,T.bx,c]
   ·simp only[T.jP,aQ,T.bx,a]
structure b3 where
 P:Program
 ty:TypeId→Option bD
 el:TypeId→Option cD
 spec:FuncId→List J→Option (aO×J)
 m:Nat:=0
 nj:FuncId→List J→Heap→Option (aO×List J×Heap):=fun _ _ _=>none
 aog:Nat→List J→Option cD:=fun _ _=>none
 ed:FuncId→Bool:=fun _=>false
def b3.anZ(X:b3)(H:Heap)(x:J):Option cD:=
 match x with
 | .fp b _ i _=>match B H b 0 with
   | .ad _ a _ f=>X.aog a (f i)
   |_=>none
 |_=>none
def b3.env(X:b3):Env where
 P:=X.P
 ty:=X.ty
 spec:=fun f aa=>match X.spec f aa with
  |some q=>some (some q.1.holds,q.2)
  |none=>none
 m:=X.m
 nj:=fun f aa H=>match X.nj f aa H with
  |some q=>some (some q.1.holds,q.2)
  |none=>none
 ed:=X.ed
def c2{α:Type _}(b:Bool)(x:Option α):Option α:=
 match b with
 |true=>x
 |false=>none
theorem c9{α:Type _}{b:Bool}{x:Option α}{y:α} :c2 b x=some y↔b=true∧x=some y:=by
 cases b<;>simp [c2]
abbrev rv:=aO×J×bM
abbrev hV:=aO×J
def val(x:Option hV):Option rv:=
 match x with
 |some q=>some (q.1,q.2,[])
 |none=>none
theorem oq{x:Option hV}{o:aO}{av:J}{c:bM} :val x=some (o,av,c)↔x=some (o,av)∧c=[]:=by
 cases x with
 |none=>simp [val]
 |some q=>
  obtain⟨a,b⟩:=q;simp only[val,gM,tz];constructor
  ·rintro⟨rfl,rfl,rfl⟩;exact⟨⟨rfl,rfl⟩,rfl⟩
  ·rintro⟨⟨rfl,rfl⟩,rfl⟩;exact⟨rfl,rfl,rfl⟩
def cQ(av:J):Option hV:=some (.c4,av)
def loadT(t:bD)(H:Heap)(x:J):Option hV:=
 match x with
 | .ptr b o=>c2 ((kl H b o t.size).all vU) (cQ (oF t.d.isAgg (kl H b o t.size)))
 | .ref cs=>c2 (decide (t.size≤cs.length)) (cQ (oF t.d.isAgg (cs.take t.size)))
 | .fp b k i o=>match B H b 0 with
   | .ad _ a n f=>c2 (decide (o+t.size≤a)) (some (.and (.e k n) (.p (i<n)),oF t.d.isAgg (((f i).drop o).take t.size)))
   |_=>none
 |_=>none
theorem LR{t:bD}{H:Heap}{x:J}{o:aO}{av:J}{K:J→Prop}(h:loadT t H x=some (o,av))(d:o.holds)(c:K av):np t H x K:=by
 unfold loadT at h;unfold np
 cases x<;>simp only at h ⊢ <;>try (cases h;done)
 ·rw[c9,cQ]at h;obtain⟨a,b⟩:=h
  cases b
  exact ay.2 ⟨a,c⟩
 ·split at h
  ·rename_i e;rw[c9]at h;obtain⟨a,b⟩:=h
   cases b
   simp only[e];exact⟨d.1,d.2,ay.2 ⟨a,c⟩⟩
  ·cases h
 ·rw[c9,cQ]at h;obtain⟨a,b⟩:=h
  cases b
  exact ay.2 ⟨a,c⟩
def cD.canon(E:cD)(f:Nat→List J):aO:= .e f fun i=>E.e (E.d (f i))
noncomputable def G.cp{α:Type}(s:G α)(i:Nat)(x:α):G α:=⟨s.n,fun j=>bif Nat.beq j i then x else s.at' j⟩
theorem G.ahW{α:Type}(s:G α)(i:Nat)(x:α):(s.cp i x).n=s.n:=rfl
noncomputable def storeT(E:Option cD)(t:bD)(H:Heap)(x v:J):Option (aO×bM):=
 match x with
 | .ptr b o=>c2 (nx v&&decide ((cellsOf v).length=t.size)&&(kl H b o t.size).all vU&& !(b_ (B H b 0))) (some (.c4,hC b (cellsOf v) o))
 | .fp b k i o=>match B H b 0 with
   | .ad c a n f=>match E with
     |some E=>c2 (!c&&decide (o+t.size≤a)&&nx (eD v)&&decide ((cellsOf (eD v)).length=t.size)&&(cellsOf (eD v)).all nL&& !((cellsOf (eD v)).isEmpty))
       (some (.and (.e k n) (.and (.p (i<n)) (.and (E.canon f) (.e (qR (f i) (cellsOf (eD v)) o) (E.e (E.d (qR (f i) (cellsOf (eD v)) o)))))),[(b,0,.ad false a n fun j=>E.e ((G.cp (⟨n,fun i=>E.d (f i)⟩:G E.T) i (E.d (qR (f i) (cellsOf (eD v)) o))).at' j))]))
     |none=>none
   |_=>none
 |_=>none
theorem aBd{E:Option cD}{t:bD}{H:Heap}{x v:J}{o:aO}{ws:bM}{K:bM→Prop}(h:storeT E t H x v=some (o,ws))(l:o.holds)(c:K ws):tp t H x v K:=by
 unfold storeT at h;unfold tp
 cases x<;>simp only at h ⊢ <;>try (cases h;done)
 ·rw[c9]at h;obtain⟨a,b⟩:=h
  cases b
  exact ay.2 ⟨a,c⟩
 ·split at h
  ·rename_i e
   split at h<;>try (cases h;done)
   rename_i E;rw[c9]at h;obtain⟨a,b⟩:=h
   cases b
   simp only[e];obtain⟨f,g,i,k⟩:=l;refine ay.2 ⟨a,f,g,_,fun j m=> ?_,c⟩;unfold M3 G.cp;simp only
   cases d:Nat.beq j _ with
   |true=>
    have:=dQ d;subst this;simp only[aQ];exact k
   |false=>
    simp only[aS];exact congrFun i j
  ·cases h
def Qv(t:bD)(H:Heap)(f:Nat)(x:J):Option hV:=
 match t.d with
 | .struct c=>match c[f]? with
   |some (a,_)=>match x with
    | .ptr b o=>cQ (.ptr b (o+a))
    | .ref cs=>cQ (.ref (cs.drop a))
    | .fp b k i o=>match B H b 0 with
      | .ad _ _ n _=>some (.e k n,.fp b k i (o+a))
      |_=>none
    |_=>none
   |none=>none
 |_=>none
theorem aon{t:bD}{H:Heap}{f:Nat}{x:J}{o:aO}{av:J}{K:J→Prop}(h:Qv t H f x=some (o,av))(c:o.holds)(a:K av):rP t H f x K:=by
 unfold Qv at h;unfold rP
 split at h<;>try (cases h;done)
 rename_i g e;simp only[e]
 split at h<;>try (cases h;done)
 rename_i d i b;simp only[b]
 cases x<;>simp only[cQ]at h ⊢ <;>try (cases h;done)
 ·cases h;exact a
 ·split at h
  ·rename_i e;cases h;simp only[e];exact⟨c,a⟩
  ·cases h
 ·cases h;exact a
def T5(t:bD)(H:Heap)(x i:J):Option hV:=
 match t.d with
 | .slice _ a _=>match i with
   | .int _ z=>match x with
     | .arr c n f=>c2 (decide (c=a)) (some (.p (0≤z∧z<n),.ref ((f z.toNat).take c)))
     | .own b k=>match B H b 0 with
       | .ad _ c n _=>c2 (decide (c=a)) (some (.and (.e k n) (.p (0≤z∧z<n)),.fp b k z.toNat 0))
       |_=>none
     |_=>none
   |_=>none
 | .array n _ a=>match i with
   | .int _ z=>match x with
     | .ptr b o=>c2 (decide (0≤z)&&decide (z<n)) (cQ (.ptr b (o+z.toNat*a)))
     | .ref cs=>c2 (decide (0≤z)&&decide (z<n)) (cQ (.ref (cs.drop (z.toNat*a))))
     |_=>none
   |_=>none
 |_=>none
def T3(E:TypeId→Option bD)(t:bD)(x i:J):Option hV:=
 match t.d with
 | .array n e a=>match i with
   | .int _ z=>match x with
     | .agg cs=>match E e with
       |some u=>c2 (decide (0≤z)&&decide (z<n)&&decide (u.size=a)&&decide (z.toNat*a+a≤cs.length)) (cQ (oF u.d.isAgg ((cs.drop (z.toNat*a)).take a)))
       |none=>none
     |_=>none
   |_=>none
 |_=>none
theorem as1{E:TypeId→Option bD}{t:bD}{x i:J}{o:aO}{av:J}{K:J→Prop}(h:T3 E t x i=some (o,av))(f:K av):vb E t x i K:=by
 unfold T3 at h;unfold vb
 split at h<;>try (cases h;done)
 rename_i n e g a;simp only[a]
 cases i<;>simp only at h ⊢ <;>try (cases h;done)
 cases x<;>simp only at h ⊢ <;>try (cases h;done)
 split at h<;>try (cases h;done)
 rename_i u b;simp only[b];rw[c9,cQ]at h;obtain⟨c,d⟩:=h
 cases d
 exact ay.2 ⟨c,f⟩
theorem as9{t:bD}{H:Heap}{x i:J}{o:aO}{av:J}{K:J→Prop}(h:T5 t H x i=some (o,av))(d:o.holds)(c:K av):sQ t H x i K:=by
 unfold T5 at h;unfold sQ
 split at h<;>try (cases h;done)
 case h_2 n f g e=>
  simp only[e]
  cases i<;>simp only at h ⊢ <;>try (cases h;done)
  cases x<;>simp only at h ⊢ <;>try (cases h;done)
  all_goals
   rw[c9,cQ]at h;obtain⟨a,b⟩:=h
   cases b
   exact ay.2 ⟨a,c⟩
 rename_i f g j e;simp only[e]
 cases i<;>simp only at h ⊢ <;>try (cases h;done)
 cases x<;>simp only at h ⊢ <;>try (cases h;done)
 ·rw[c9]at h;obtain⟨a,b⟩:=h
  cases b
  exact ay.2 ⟨a,d,c⟩
 ·split at h
  ·rename_i e;rw[c9]at h;obtain⟨a,b⟩:=h
   cases b
   simp only[e];exact ay.2 ⟨a,d.1,d.2,c⟩
  ·cases h
def T7(c:BinOp)(k:IntKind)(a b:Int):Option hV:=
 match c with
 | .add=>cQ (.int k (k.wrap (a+b)))
 | .sub=>cQ (.int k (k.wrap (a-b)))
 | .mul=>cQ (.int k (k.wrap (a*b)))
 | .eql=>cQ (.bool (a==b))
 | .neq=>cQ (.bool (a !=b))
 | .lss=>cQ (.bool (decide (a<b)))
 | .leq=>cQ (.bool (decide (a≤b)))
 | .gtr=>cQ (.bool (decide (a>b)))
 | .geq=>cQ (.bool (decide (a≥b)))
 | .quo=>some (.p (b≠0),.int k (k.wrap (a.tdiv b)))
 | .rem=>some (.p (b≠0),.int k (a.tmod b))
 | .and=>cQ (.int k (bits .and k a b))
 | .or=>cQ (.int k (bits .or k a b))
 |_=>none
theorem ath{c:BinOp}{k:IntKind}{a b:Int}{o:aO}{av:J}{K:J→Prop}(h:T7 c k a b=some (o,av))(e:o.holds)(d:K av):ve c k a b K:=by
 unfold T7 at h;unfold ve
 cases c<;>simp only[cQ]at h ⊢ <;>first|(cases h;done)|(cases h;exact d)|(cases h;exact⟨e,d⟩)
def Wp(c:BinOp)(k:IntKind)(a b:Int):Option hV:=
 match c with
 | .shl=>some (.p (0≤b∧b≤k.bits),.int k (k.wrap (a*2^b.toNat)))
 | .shr=>some (.p (0≤b∧b≤k.bits),.int k (a/2^b.toNat))
 |_=>none
theorem aAU{c:BinOp}{k:IntKind}{a b:Int}{o:aO}{av:J}{K:J→Prop}(h:Wp c k a b=some (o,av))(e:o.holds)(d:K av):MR c k a b K:=by
 unfold Wp at h;unfold MR
 cases c<;>simp only at h ⊢ <;>first|(cases h;done)|(cases h;exact⟨e,d⟩)
def PI(t:bD)(c:BinOp)(x y:J):Option hV:=
 match x with
 | .int k a=>match y with
   | .int e b=>match LC c with
     |true=>Wp c k a b
     |false=>c2 (decide (k=e)) (T7 c k a b)
   |_=>none
 | .bool a=>match y with
   | .bool b=>match t.d with
     | .bool=>match c with
       | .eql=>cQ (.bool (a==b))
       | .neq=>cQ (.bool (!(a==b)))
       |_=>none
     |_=>none
   |_=>none
 | .str a=>match y with
   | .str b=>match c with
     | .eql=>cQ (.bool (a.toList==b.toList))
     | .neq=>cQ (.bool (!(a.toList==b.toList)))
     | .leq=>cQ (.bool (Op.bytesLess a.toList b.toList||a.toList==b.toList))
     | .gtr=>cQ (.bool (!(Op.bytesLess a.toList b.toList||a.toList==b.toList)))
     | .lss=>cQ (.bool (Op.bytesLess a.toList b.toList))
     | .geq=>cQ (.bool (!Op.bytesLess a.toList b.toList))
     | .add=>some (.p (a.size+b.size≤dj),.str (a++b))
     |_=>none
   |_=>none
 | .agg cs=>match y with
   | .agg d=>c2 (t.cmp&&hn t.zero cs&&hn t.zero d) (match c with
     | .eql=>cQ (.bool (iW cs d))
     | .neq=>cQ (.bool (!(iW cs d)))
     |_=>none)
   |_=>none
 |_=>none
theorem amf{t:bD}{b:BinOp}{x y:J}{o:aO}{av:J}{K:J→Prop}(h:PI t b x y=some (o,av))(d:o.holds)(a:K av):oI t b x y K:=by
 unfold PI at h
 cases x<;>simp only at h<;>try (cases h;done)
 ·cases y<;>simp only at h<;>try (cases h;done)
  simp only[oI]
  split at h
  ·rename_i e;simp only[e];exact aAU h d a
  ·rename_i e;simp only[e];rw[c9]at h;exact ay.2 ⟨h.1,ath h.2 d a⟩
 ·cases y<;>simp only at h<;>try (cases h;done)
  split at h<;>try (cases h;done)
  rename_i e;simp only[oI,e]
  cases b<;>simp only[cQ]at h ⊢ <;>first|(cases h;done)|(cases h;exact a)
 ·cases y<;>simp only at h<;>try (cases h;done)
  simp only[oI]
  cases b<;>simp only[cQ]at h ⊢ <;>first|(cases h;done)|(cases h;exact a)|(cases h;exact⟨d,a⟩)
 ·cases y<;>simp only at h<;>try (cases h;done)
  simp only[oI];rw[c9]at h;refine ay.2 ⟨h.1,?_⟩;have c:=h.2
  cases b<;>simp only[cQ]at c ⊢ <;>first|(cases c;done)|(cases c;exact a)
def WM(a:UnOp)(x:J):Option hV:=
 match a with
 | .not=>match x with
   | .bool b=>cQ (.bool (!b))
   | .lit b=>cQ (.lit (!b))
   |_=>none
 | .neg=>match x with
   | .int k n=>cQ (.int k (k.wrap (0-n)))
   |_=>none
 |_=>none
theorem aBS{a:UnOp}{x:J}{o:aO}{av:J}{K:J→Prop}(h:WM a x=some (o,av))(b:K av):yC a x K:=by
 unfold WM at h
 cases a<;>simp only at h<;>try (cases h;done)
 all_goals
  cases x<;>simp only[cQ]at h<;>first|(cases h;done)|(cases h;exact b)
def HJ(c:List (Nat×Nat))(a:List J):List (Nat×Operand)→List J→Option (List J)
 |[],cs=>some cs
 |(i,x)::r,cs=>match c[i]? with
  |some (b,d)=>c2 (nx (ax a x)&&decide ((cellsOf (ax a x)).length=d)&&decide (b+d≤cs.length)) (HJ c a r (qR cs (cellsOf (ax a x)) b))
  |none=>none
theorem YD{c:List (Nat×Nat)}{f:List J}{K:List J→Prop} : ∀{d:List (Nat×Operand)} {cs a:List J},HJ c f d cs=some a→K a→mC c f d cs K
 |[],cs,a,h,b=>by cases h;exact b
 |(i,x)::r,cs,a,h,b=>by
  simp only[HJ]at h;simp only[mC]
  split at h
  ·rename_i g j e;rw[c9]at h;simp only[e];exact ay.2 ⟨h.1,YD h.2 b⟩
  ·cases h
def Uw(H:Heap)(x:J):Option hV:=
 match x with
 | .arr _ n _=>cQ (.int .i64 n)
 | .aA=>cQ (.int .i64 0)
 | .str s=>cQ (.int .i64 s.size)
 | .own b k=>match B H b 0 with
   | .ad _ _ n _=>some (.e k n,.int .i64 n)
   |_=>none
 |_=>none
theorem awW{H:Heap}{x:J}{o:aO}{av:J}{K:J→Prop}(h:Uw H x=some (o,av))(b:o.holds)(a:K av):po H x K:=by
 unfold Uw at h;unfold po
 cases x<;>simp only[cQ]at h ⊢ <;>try (cases h;done)
 ·cases h;exact a
 ·cases h;exact a
 ·cases h;exact a
 ·split at h
  ·rename_i e;cases h;simp only[e];exact⟨b,a⟩
  ·cases h
def Iv(H:Heap)(x:J):Option hV:=
 match x with
 | .own b k=>match B H b 0 with
   | .ad _ a n f=>some (.e k n,.arr a n f)
   |_=>none
 | .lit b=>cQ (.bool b)
 |av=>c2 (nL av) (cQ av)
theorem aaq{H:Heap}{x:J}{o:aO}{av:J}{K:J→Prop}(h:Iv H x=some (o,av))(d:o.holds)(a:K av):ih H x K:=by
 unfold Iv at h;unfold ih
 cases x<;>simp only[cQ,c9]at h ⊢ <;>first|(obtain⟨b,c⟩:=h;cases c;exact ay.2 ⟨b,a⟩)|(cases h;exact a)|skip
 split at h
 ·rename_i e;cases h;simp only[e];exact⟨d,a⟩
 ·cases h
def Dd(H:Heap):List J→Option (aO×List J)
 |[]=>some (.c4,[])
 |x::r=>match Iv H x with
  |some q=>match Dd H r with
   |some a=>some (.and q.1 a.1,q.2::a.2)
   |none=>none
  |none=>none
theorem QI{H:Heap} : ∀{d:List J} {o:aO} {cq:List J} {K:List J→Prop},Dd H d=some (o,cq)→o.holds→K cq→lq H d K
 |[],o,cq,K,h,_,a=>by cases h;exact a
 |x::r,o,cq,K,h,b,a=>by
  simp only[Dd]at h
  split at h<;>try (cases h;done)
  rename_i q e
  split at h<;>try (cases h;done)
  rename_i c f
  cases h
  exact aaq (o:=q.1) (av:=q.2) e b.1 (QI (o:=c.1) (cq:=c.2) f b.2 a)
def wq(H:Heap)(x:J):Option hV:=
 match x with
 | .agg cs=>match Dd H cs with
   |some q=>some (q.1,.agg q.2)
   |none=>none
 |av=>Iv H av
theorem QJ{H:Heap}{x:J}{o:aO}{av:J}{K:J→Prop}(h:wq H x=some (o,av))(b:o.holds)(a:K av):km H x K:=by
 unfold wq at h;unfold km
 cases x<;>simp only at h ⊢ <;>first|exact aaq h b a|skip
 split at h<;>try (cases h;done)
 rename_i q e
 cases h
 exact QI (o:=q.1) (cq:=q.2) e b a
def rU(H:Heap):List J→Option (aO×List J)
 |[]=>some (.c4,[])
 |x::r=>match wq H x with
  |some q=>match rU H r with
   |some a=>some (.and q.1 a.1,q.2::a.2)
   |none=>none
  |none=>none
theorem QL{H:Heap} : ∀{d:List J} {o:aO} {cq:List J} {K:List J→Prop},rU H d=some (o,cq)→o.holds→K cq→lY H d K
 |[],o,cq,K,h,_,a=>by cases h;exact a
 |x::r,o,cq,K,h,b,a=>by
  simp only[rU]at h
  split at h<;>try (cases h;done)
  rename_i q e
  split at h<;>try (cases h;done)
  rename_i c f
  cases h
  exact QJ (o:=q.1) (av:=q.2) e b.1 (QL (o:=c.1) (cq:=c.2) f b.2 a)
def V6(au:Nat)(o:aO)(r:J)(a:bM):rv:=
 match r with
 | .ad _ b n f=>(o,.own au n,a++[(au,0,.ad false b n f)])
 |r=>(o,r,a)
def PQ(X:b3)(H:Heap)(au:Nat)(f:FuncId)(a:List J):Option rv:=
 match rU H (a.map eD)with
 |some q=>match X.spec f q.2 with
  |some s=>some (V6 au (.and q.1 s.1) s.2 (nu H s.2 (a.map eD)))
  |none=>none
 |none=>none
theorem amM{X:b3}{H:Heap}{au:Nat}{f:FuncId}{c:List J}{o:aO}{av:J}{g:bM}{K:J→bM→Prop}(h:PQ X H au f c=some (o,av,g))(j:o.holds)(b:K av g):tT X.env H au f c K:=by
 unfold PQ at h
 split at h<;>try (cases h;done)
 rename_i q e
 split at h<;>try (cases h;done)
 rename_i s i;have d:q.1.holds∧s.1.holds:=by
  simp only[gM]at h;unfold V6 at h
  split at h<;>(cases h;exact j)
 refine QL (o:=q.1) (cq:=q.2) e d.1 ?_;have aZ:X.env.spec f q.2=some (some s.1.holds,s.2):=by simp only[b3.env,i]
 simp only[aZ,nr];refine⟨d.2,?_⟩;simp only[gM]at h;unfold V6 at h;unfold th
 split at h
 ·rename_i a
  cases h
  rw[a]at b ⊢;exact b
 ·rename_i a
  cases h
  split
  ·rename_i cN;exact absurd cN (a _ _ _ _)
  ·exact b
def Qt(i:Nat)(x:J):Option hV:=
 match x with
 | .c7 a=>c2 (decide (i<a.length)) (cQ (a.getD i .undef))
 |_=>none
theorem an9{i:Nat}{x:J}{o:aO}{av:J}{K:J→Prop}(h:Qt i x=some (o,av))(c:K av):zl i x K:=by
 unfold Qt at h;unfold zl
 cases x<;>simp only[c9,cQ]at h ⊢ <;>try (cases h;done)
 obtain⟨a,b⟩:=h
 cases b
 exact ay.2 ⟨a,c⟩
def Wx(E:cD)(H:Heap)(a:Bool)(c:Nat)(y:J):Option (aO×Nat×(Nat→List J)):=
 match y with
 | .aA=>c2 (!a) (some (.c4,0,fun _=>E.e (E.d [])))
 | .arr d n f=>c2 (!a&&decide (d=c)) (some (.c4,n,f))
 | .str s=>c2 (a&&decide (c=1)) (some (.c4,s.size,vQ s))
 | .own b k=>match B H b 0 with
   | .ad _ d n f=>c2 (!a&&decide (d=c)) (some (.e k n,n,f))
   |_=>none
 |_=>none
theorem Wy{E:cD}{H:Heap}{j:Bool}{f:Nat}{y:J}{o:aO}{n:Nat}{g:Nat→List J}{K:Nat→(Nat→List J)→Prop}(h:Wx E H j f y=some (o,n,g))(l:o.holds)(c: ∀d,(∀i,i<n→d i=g i)→(y= .aA∨d=g)→K n d):mu H j f y K:=by
 unfold Wx at h;unfold mu
 cases y<;>simp only[c9]at h ⊢ <;>try (cases h;done)
 ·obtain⟨a,b⟩:=h;cases b;exact ay.2 ⟨a,c _ (fun _ _=>rfl) (.inr rfl)⟩
 ·obtain⟨a,b⟩:=h;cases b;exact ay.2 ⟨a,c _ (fun i k=>absurd k (en _)) (.inl rfl)⟩
 ·obtain⟨a,b⟩:=h;cases b;exact ay.2 ⟨a,c _ (fun _ _=>rfl) (.inr rfl)⟩
 ·split at h
  ·rename_i e;rw[c9]at h;obtain⟨a,b⟩:=h;cases b;simp only[e];exact ay.2 ⟨a,l,c _ (fun _ _=>rfl) (.inr rfl)⟩
  ·cases h
def cD.ab(E:cD)(n:Nat)(f:Nat→List J):G E.T:=⟨n,fun i=>E.d (f i)⟩
def notNil:J→Bool
 | .aA=>false
 |_=>true
noncomputable def PB(h:TypeId→Option cD)(t:bD)(l:Bool)(H:Heap)(au:Nat)(x y:J):Option rv:=
 match t.d with
 | .slice e a d=>match h e with
   |some E=>c2 (Nat.ble d 256&&Nat.blt 0 a) (match Wx E H l a y with
    |some (o,m,g)=>match x with
     | .aA=>c2 (notNil y) (some (.and o (.and (E.canon g) (.p (m≤dj))),.own au m,[(au,0,.ad false a m fun i=>E.e ((E.ab m g).at' i))]))
     | .own b k=>match B H b 0 with
       | .ad j c n f=>c2 (!j&&decide (c=a)) (some (.and o (.and (.e k n) (.and (E.canon f) (.and (E.canon g) (.p (n+m≤dj))))),.own b (n+m),[(b,0,.ad false a (n+m) fun i=>E.e (((E.ab n f).app (E.ab m g)).at' i))]))
       |_=>none
     | .jO c n f=>c2 (decide (c=a)) (some (.and o (.and (E.canon f) (.and (E.canon g) (.p (0<m∧n+m≤dj)))),.own au (n+m),[(au,0,.ad false a (n+m) fun i=>E.e (((E.ab n f).app (E.ab m g)).at' i))]))
     |_=>none
    |none=>none)
   |none=>none
 |_=>none
theorem al5{D:TypeId→Option cD}{t:bD}{z:Bool}{H:Heap}{au:Nat}{x y:J}{o:aO}{av:J}{A:bM}{K:J→bM→Prop}(h:PB D t z H au x y=some (o,av,A))(c:o.holds)(u:K av A):nF t z H au x y K:=by
 unfold PB at h
 split at h<;>try (cases h;done)
 rename_i e M L C;simp only[nF,C]
 split at h<;>try (cases h;done)
 rename_i E I;rw[c9]at h;refine ay.2 ⟨h.1,?_⟩;have a:=h.2;clear h
 split at a<;>try (cases a;done)
 rename_i N m g p
 cases x<;>simp only at a<;>try (cases a;done)
 ·rw[c9]at a;obtain⟨w,a⟩:=a
  cases a
  refine Wy p c.1 fun q l F=>⟨c.2.2,?_⟩;have d:q=g:=F.resolve_left fun e=>by rw[e]at w;cases w
  have j:g=fun i=>E.e (E.d (g i)):=c.2.1;rw[d,j];exact u
 ·split at a<;>try (cases a;done)
  rename_i b k O G n f B;rw[c9]at a;obtain⟨r,a⟩:=a
  cases a
  refine Wy p c.1 fun q l _=> ?_;simp only[B];refine ay.2 ⟨r,c.2.1,c.2.2.2.2,_,?_,u⟩;have d:f=fun i=>E.e (E.d (f i)):=c.2.2.1;have j:g=fun i=>E.e (E.d (g i)):=c.2.2.2.1;exact Ym (e:=E.e) (s:=E.ab n f) (t:=E.ab m g) rfl rfl (fun i _=>congrFun d i) fun i v=>(l i v).trans (congrFun j i)
 ·rename_i G n f;rw[c9]at a;obtain⟨r,a⟩:=a
  cases a
  refine Wy p c.1 fun q l _=> ?_;refine ay.2 ⟨r,c.2.2.2.1,c.2.2.2.2,_,?_,u⟩;have d:f=fun i=>E.e (E.d (f i)):=c.2.1;have j:g=fun i=>E.e (E.d (g i)):=c.2.2.1;exact Ym (e:=E.e) (s:=E.ab n f) (t:=E.ab m g) rfl rfl (fun i _=>congrFun d i) fun i v=>(l i v).trans (congrFun j i)
def zq(H:Heap):List (List J)→Option (aO×List (List J))
 |[]=>some (.c4,[])
 |x::r=>match Dd H x with
  |some q=>match zq H r with
   |some a=>some (.and q.1 a.1,q.2::a.2)
   |none=>none
  |none=>none
theorem aan{H:Heap} : ∀{d:List (List J)} {o:aO} {cq:List (List J)} {K:List (List J)→Prop},zq H d=some (o,cq)→o.holds→K cq→mJ H d K
 |[],o,cq,K,h,_,a=>by cases h;exact a
 |x::r,o,cq,K,h,b,a=>by
  simp only[zq]at h
  split at h<;>try (cases h;done)
  rename_i q e
  split at h<;>try (cases h;done)
  rename_i c f
  cases h
  exact QI (o:=q.1) (cq:=q.2) e b.1 (aan (o:=c.1) (cq:=c.2) f b.2 a)
theorem aam{H:Heap} : ∀{b:List (List J)} {o:aO} {a:List (List J)},zq H b=some (o,a)→a.length=b.length
 |[],o,a,h=>by cases h;rfl
 |x::r,o,a,h=>by
  simp only[zq]at h
  split at h<;>try (cases h;done)
  split at h<;>try (cases h;done)
  rename_i d c
  cases h
  simp [aam c]
noncomputable def PM(c:TypeId→Option cD)(t:bD)(f:List J)(H:Heap)(au b:Nat)(d:List (Nat×Operand)):Option rv:=
 match t.d with
 | .slice e a _=>match c e with
   |some E=>match kH a f d 0 with
    |some l=>match zq H l with
     |some q=>c2 (Nat.beq l.length b&&Nat.ble b 4096&&Nat.ble a 4096&&Nat.blt 0 a)
      (some (.and q.1 (.e (q.2.map fun x=>rK x (E.e (E.d x))) (q.2.map fun x=>E.e (E.d x))),.own au b,ew H l.flatten++[(au,0,.ad false a b fun i=>E.e ((have:=E.vd;G.lit (q.2.map E.d)).at' i))]))
     |none=>none
    |none=>none
   |none=>none
 |_=>none
theorem amo{r:TypeId→Option cD}{t:bD}{m:List J}{H:Heap}{au j:Nat}{k:List (Nat×Operand)}{o:aO}{av:J}{n:bM}{K:J→bM→Prop}(h:PM r t m H au j k=some (o,av,n))(b:o.holds)(u:K av n):pZ t m H au j k K:=by
 unfold PM at h
 split at h<;>try (cases h;done)
 rename_i e z y p;simp only[pZ,p]
 split at h<;>try (cases h;done)
 rename_i E w
 split at h<;>try (cases h;done)
 rename_i l s;simp only[s]
 split at h<;>try (cases h;done)
 rename_i q f;obtain⟨D,a⟩:=q;rw[c9]at h;obtain⟨c,h⟩:=h
 cases h
 refine ay.2 ⟨c,aan f b.1 ⟨_,?_,u⟩⟩;intro i A;simp only[bL]at c;have B:=dQ c.1.1.1;have C:a.length=l.length:=aam f;have b:(a.map fun x=>rK x (E.e (E.d x)))=a.map fun x=>E.e (E.d x):=b.2;have v:i<(a.map E.d).length:=by rw[List.length_map];omega
 have:= @aw3 E.T E.vd E.e (a.map E.d) i v;rw[List.map_map]at this;rw[←this];have g:i<a.length:=by omega
 have d:=congrArg (fun q:List (List J)=>q.getD i []) b;simp only[List.getD,gN,cI g,rj,kM]at d;simp only[List.getD,gN,cI g,rj,kM,Function.comp];exact HR d
def UF(X:b3)(t:bD)(d:List J)(au:Nat)(l c:Operand):Option rv:=
 match t.d with
 | .slice e a f=>match X.ty e with
   |some b=>match ax d l with
    | .int _ z=>match ax d c with
      | .int _ g=>c2 (b.zero.all Mp&&Nat.beq b.zero.length a&&Nat.ble a 4096&&Nat.ble f 4096&&Nat.blt 0 a) (some (.and (.e z g) (.p (0≤z∧z≤4096)),.own au z.toNat,[(au,0,.ad false a z.toNat fun _=>b.zero)]))
      |_=>none
    |_=>none
   |none=>none
 |_=>none
theorem axl{X:b3}{t:bD}{b:List J}{au:Nat}{l c:Operand}{o:aO}{av:J}{d:bM}{K:J→bM→Prop}(h:UF X t b au l c=some (o,av,d))(a:o.holds)(n:K av d):qV X.env t b au l c K:=by
 unfold UF at h
 split at h<;>try (cases h;done)
 rename_i e q p f;simp only[qV,f]
 split at h<;>try (cases h;done)
 rename_i a6 g;have i:X.env.ty e=some a6:=g;simp only[i]
 split at h<;>try (cases h;done)
 rename_i r z j
 split at h<;>try (cases h;done)
 rename_i s u k;simp only[j,k];rw[c9]at h;obtain⟨m,h⟩:=h
 cases h
 exact ay.2 ⟨m,⟨a.1,a.2⟩,n⟩
def vP(a:List J)(d:Int)(o:Option Operand):Option Int:=
 match o with
 |none=>some d
 |some x=>match ax a x with
  | .int _ z=>some z
  |_=>none
theorem CL{b:List J}{d z:Int}{o:Option Operand}{K:Int→Prop}(h:vP b d o=some z)(a:K z):cH b d o K:=by
 unfold vP at h;unfold cH
 split at h
 ·cases h;exact a
 ·rename_i x;simp only
  split at h
  ·rename_i e;cases h;simp only[e];exact a
  ·cases h
def CI(a:List J)(n:Int)(l h m:Option Operand):Option (Int×Int×Int):=
 match vP a 0 l with
 |some c=>match vP a n h with
  |some b=>match vP a b m with
   |some d=>some (c,b,d)
   |none=>none
  |none=>none
 |none=>none
theorem PJ{c:List J}{n b a eN:Int}{l h m:Option Operand}{K:Int→Int→Int→Prop}(e:CI c n l h m=some (b,a,eN))(g:K b a eN):cH c 0 l fun b=>cH c n h fun a=>cH c a m fun eN=>K b a eN:=by
 unfold CI at e
 split at e<;>try (cases e;done)
 rename_i j d
 split at e<;>try (cases e;done)
 rename_i i f
 split at e<;>try (cases e;done)
 rename_i k aZ
 cases e
 exact CL d (CL f (CL aZ g))
def PR(c:Bool)(p q:Prop):aO:=
 match c with
 |true=> .p (p∧q)
 |false=> .p q
theorem YI{c:Bool}{p q:Prop}(h:(PR c p q).holds):q∧(c=true→p):=by
 cases c with
 |true=>exact⟨h.2,fun _=>h.1⟩
 |false=>exact⟨h,fun e=>by cases e⟩
def Wt(t:bD)(H:Heap)(g:List J)(x:J)(l h m:Option Operand):Option rv:=
 c2 (h.isSome|| !(m.isSome)) (match t.d with
 | .slice _ j _=>match x with
   | .arr d n f=>c2 (decide (d=j)) (match CI g n l h m with
     |some (c,a,e)=>some (PR (kk m d) (a=e) (0≤c∧c≤a∧a≤e∧e≤n),tb (kk m d) d (a-c).toNat fun i=>f (c.toNat+i),[])
     |none=>none)
   | .aA=>match CI g 0 l h m with
     |some (c,a,e)=>some (.p (c=0∧a=0∧e=0),.aA,[])
     |none=>none
   | .own b k=>match B H b 0 with
     | .ad o d n f=>c2 (decide (d=j)) (match CI g n l h m with
       |some (c,a,e)=>some (.and (.e k n) (PR (kk m d) (a=e) (0≤c∧c≤a∧a≤e∧e≤n)),tb (kk m d) d (a-c).toNat (fun i=>f (c.toNat+i)),[(b,0,.ad true d n f)])
       |none=>none)
     |_=>none
   |_=>none
 | .string=>match x with
   | .str s=>match m with
     |none=>match vP g 0 l with
      |some c=>match vP g s.size h with
       |some a=>some (.p (0≤c∧c≤a∧a≤s.size),.str (s.extract c.toNat a.toNat),[])
       |none=>none
      |none=>none
     |some _=>none
   |_=>none
 |_=>none)
theorem aA2{t:bD}{H:Heap}{p:List J}{x:J}{l hh m:Option Operand}{o:aO}{av:J}{q:bM}{K:J→bM→Prop}(h:Wt t H p x l hh m=some (o,av,q))(b:o.holds)(c:K av q):q8 t H p x l hh m K:=by
 unfold Wt at h;rw[c9]at h;refine ay.2 ⟨h.1,?_⟩;have a:=h.2;clear h
 split at a<;>try (cases a;done)
 ·rename_i e w v d;simp only[d]
  cases x<;>simp only at a ⊢ <;>try (cases a;done)
  ·split at a<;>try (cases a;done)
   rename_i j i k aZ
   cases a
   exact PJ aZ ⟨b,c⟩
  ·rw[c9]at a;obtain⟨g,a⟩:=a;refine ay.2 ⟨g,?_⟩
   split at a<;>try (cases a;done)
   rename_i j i k aZ
   cases a
   exact PJ aZ ⟨YI b,c⟩
  ·split at a<;>try (cases a;done)
   rename_i y z n f u;simp only[u];rw[c9]at a;obtain⟨g,a⟩:=a;refine ay.2 ⟨g,?_⟩
   split at a<;>try (cases a;done)
   rename_i j i k aZ
   cases a
   exact⟨b.1,PJ aZ ⟨YI b.2,c⟩⟩
 ·rename_i d;simp only[d]
  cases x<;>simp only at a ⊢ <;>try (cases a;done)
  split at a<;>try (cases a;done)
  simp only
  split at a<;>try (cases a;done)
  rename_i j r
  split at a<;>try (cases a;done)
  rename_i i s
  cases a
  exact CL r (CL s ⟨b,c⟩)
def Yg(f:Nat→List J):aO:= .e (fun i=>FK ((f i).getD 0 .undef)) fun _=>true
def P4(t u:bD)(a:Option bD)(H:Heap)(x:J):Option hV:=
 match x with
 | .int _ z=>match u.d with
   | .int k=>match t.d with
     | .int _=>cQ (.int k (k.wrap z))
     |_=>none
   |_=>none
 | .str s=>match t.d with
   | .string=>match u.d with
     | .string=>cQ (.str s)
     | .slice .. =>c2 (nG u a) (cQ (.arr 1 s.size (vQ s)))
     |_=>none
   |_=>none
 | .arr c n f=>c2 (u.d.isStr&&nG t a&&Nat.beq c 1) (some (Yg f,.str (bytesOf n f)))
 | .aA=>c2 (u.d.isStr&&nG t a) (cQ (.str ⟨#[]⟩))
 | .own b d=>match B H b 0 with
   | .ad _ c n f=>c2 (u.d.isStr&&nG t a&&Nat.beq c 1) (some (.and (.e d n) (Yg f),.str (bytesOf n f)))
   |_=>none
 |_=>none
theorem anf{t u:bD}{g:Option bD}{H:Heap}{x:J}{o:aO}{av:J}{K:J→Prop}(h:P4 t u g H x=some (o,av))(f:o.holds)(b:K av):rJ t u g H x K:=by
 unfold P4 at h;unfold rJ
 cases x<;>simp only[cQ,c9]at h ⊢ <;>try (cases h;done)
 ·split at h<;>try (cases h;done)
  rename_i d
  split at h<;>try (cases h;done)
  rename_i c
  cases h
  simp only[d,c];exact b
 ·split at h<;>try (cases h;done)
  rename_i d
  split at h<;>try (cases h;done)
  ·rename_i c
   cases h
   simp only[d,c];exact b
  ·rename_i c;rw[c9]at h;obtain⟨a,h⟩:=h
   cases h
   simp only[d,c];exact ay.2 ⟨a,b⟩
 ·obtain⟨a,h⟩:=h
  cases h
  exact ay.2 ⟨a,b⟩
 ·obtain⟨a,h⟩:=h
  cases h
  exact ay.2 ⟨a,fun i _=>congrFun f i,b⟩
 ·split at h<;>try (cases h;done)
  rename_i e;rw[c9]at h;obtain⟨a,h⟩:=h
  cases h
  simp only[e];exact ay.2 ⟨a,f.1,fun i _=>congrFun f.2 i,b⟩
def UI(x y:J):Option hV:=
 match x with
 | .int k a=>match y with
   | .int c b=>c2 (decide (k=c)) (cQ (.int k (fs a b)))
   |_=>none
 |_=>none
theorem axw{x y:J}{o:aO}{av:J}{K:J→Prop}(h:UI x y=some (o,av))(b:K av):x6 x y K:=by
 unfold UI at h
 cases x<;>simp only at h<;>try (cases h;done)
 cases y<;>simp only[c9,cQ]at h<;>try (cases h;done)
 obtain⟨a,h⟩:=h
 cases h
 exact ay.2 ⟨a,b⟩
def UG(x y:J):Option hV:=
 match x with
 | .int k a=>match y with
   | .int c b=>c2 (decide (k=c)) (cQ (.int k (imax a b)))
   |_=>none
 |_=>none
theorem axr{x y:J}{o:aO}{av:J}{K:J→Prop}(h:UG x y=some (o,av))(b:K av):x5 x y K:=by
 unfold UG at h
 cases x<;>simp only at h<;>try (cases h;done)
 cases y<;>simp only[c9,cQ]at h<;>try (cases h;done)
 obtain⟨a,h⟩:=h
 cases h
 exact ay.2 ⟨a,b⟩
def UW(H:Heap)(x:J):Option hV:=
 match x with
 | .ptr .. =>cQ x
 | .ref _=>cQ x
 | .fp b k _ _=>match B H b 0 with
   | .ad _ _ n _=>some (.e k n,x)
   |_=>none
 |_=>none
theorem ayd{H:Heap}{x:J}{o:aO}{av:J}{K:J→Prop}(h:UW H x=some (o,av))(b:o.holds)(a:K av):s9 H x K:=by
 unfold UW at h;unfold s9
 cases x<;>simp only[cQ]at h ⊢ <;>try (cases h;done)
 ·cases h;exact a
 ·split at h
  ·rename_i e;cases h;simp only[e];exact⟨b,a⟩
  ·cases h
 ·cases h;exact a
def Td(X:b3)(H:Heap)(au:Nat)(f:FuncId)(aa:List J):Option rv:=
 c2 (nodup (dN H aa)&&(dN H aa).all (fun b=>x2 (H.getD b [])&&(H.getD b []).all (mG (mem (dN H aa))))&&aa.all (wc (mem (dN H aa))))
  (match X.nj f (aa.map (kI (pos (dN H aa)))) ((dN H aa).map fun b=>(H.getD b []).map (fi (pos (dN H aa))))with
  |some q=>c2 (!(q.2.2.isEmpty)&&pB (dN H aa) H q.2.2&&q.2.2.all (fun l=>l.all (mG (pq q.2.2.length)))&&q.2.1.all (fun r=>wc (pq q.2.2.length) r&&nx r))
    (some (q.1,MY (q.2.1.map (kI (tl (dN H aa) au))),rH (tl (dN H aa) au) 0 q.2.2))
  |none=>none)
theorem arA{X:b3}{H:Heap}{au:Nat}{f:FuncId}{aa:List J}{o:aO}{av:J}{c:bM}{K:J→bM→Prop}(h:Td X H au f aa=some (o,av,c))(j:o.holds)(i:K av c):nh X.env H au f aa K:=by
 unfold Td at h;rw[c9]at h;refine ay.2 ⟨h.1,?_⟩;have a:=h.2;clear h
 split at a<;>try (cases a;done)
 rename_i q e;have d:X.env.nj f (aa.map (kI (pos (dN H aa)))) ((dN H aa).map fun b=>(H.getD b []).map (fi (pos (dN H aa))))=some (some q.1.holds,q.2):=by simp only[b3.env,e]
 rw[c9]at a;obtain⟨g,a⟩:=a
 cases a
 obtain⟨q1,k,l⟩:=q;rw[d];exact⟨j,ay.2 ⟨g,i⟩⟩
def iK{α:Type _}(X:b3)(T:TypeId)(K:bD→Option α):Option α:=
 match X.ty T with
 |some t=>K t
 |none=>none
theorem jG{α:Type _}{X:b3}{T:TypeId}{K:bD→Option α}{a:α}(h:iK X T K=some a): ∃t,X.env.ty T=some t∧K t=some a:=by
 unfold iK at h
 split at h
 ·rename_i t e;exact⟨t,e,h⟩
 ·cases h
theorem jH{E:Env}{T:TypeId}{t:bD}{K:bD→Prop}(h:E.ty T=some t)(a:K t):dx E T K:=by
 unfold dx;rw[h];exact a
noncomputable def Mi(X:b3)(au:Nat)(a:List J)(H:Heap)(d:Op):Option rv:=
 match d with
 | .move x=>some (.c4,ax a x,[])
 | .assign x=>some (.c4,ax a x,[])
 | .pick c x y=>match ax a c with
   | .lit b=>match b with
     |true=>some (.c4,ax a x,[])
     |false=>some (.c4,ax a y,[])
   |_=>none
 | .alloc T=>iK X T fun t=>c2 (!t.zero.isEmpty) (some (.c4,.ptr au 0,hC au t.zero 0))
 | .box _ x=>c2 (nx (ax a x)&& !(cellsOf (ax a x)).isEmpty) (some (.c4,.ptr au 0,hC au (cellsOf (ax a x)) 0))
 | .build T g=>iK X T fun t=>match t.d with
   | .struct v=>match HJ v a g.toList t.zero with
     |some cs=>some (.c4,.agg cs,[])
     |none=>none
   |_=>none
 | .load T x=>iK X T fun t=>val (loadT t H (ax a x))
 | .store T x y=>iK X T fun t=>match storeT (X.anZ H (ax a x)) t H (ax a x) (ax a y)with
   |some q=>some (q.1,.undef,q.2)
   |none=>none
 | .nilCheck x=>val (UW H (ax a x))
 | .binOp d T x y _=>iK X T fun t=>val (PI t d (eD (ax a x)) (eD (ax a y)))
 | .unOp d _ x=>val (WM d (ax a x))
 | .fieldAddr T x f=>iK X T fun t=>val (Qv t H f (ax a x))
 | .indexAddr T x y=>iK X T fun t=>val (T5 t H (ax a x) (ax a y))
 | .index T x y=>iK X T fun t=>val (T3 X.ty t (ax a x) (ax a y))
 | .extract x i=>val (Qt i (ax a x))
 | .buildSlice T s g=>iK X T fun t=>PM X.el t a H au s g.toList
 | .makeSlice T l c=>iK X T fun t=>UF X t a au l c
 | .slice T x l h m=>iK X T fun t=>Wt t H a (ax a x) l h m
 | .convert p o x=>iK X p fun t=>iK X o fun u=>val (P4 t u (tW X.env t u) H (ax a x))
 | .makeFunc r first k=>match r with
   | .func f=>c2 (first.toList.isEmpty&&(k.toList.map (ax a)).all YJ) (some (.c4,.fn f (k.toList.map (ax a)),[]))
   |_=>none
 | .call c=>match c.callee with
   | .value x=>match ax a x with
     | .fn f e=>match xS X.ed f (c.args.toList.map (ax a)++e)with
       |true=>Td X H au f (c.args.toList.map (ax a)++e)
       |false=>c2 (e.all mD) (PQ X H au f (c.args.toList.map (ax a)++e))
     |_=>none
   | .builtin b=>match b with
     | .len=>match c.args.toList with
       |[x]=>match c.argTypes.toList with
        |[T]=>iK X T fun t=>c2 (FV t (ax a x)) (val (Uw H (ax a x)))
        |_=>none
       |_=>none
     | .append=>match c.args.toList with
       |[x,y]=>match c.argTypes.toList with
        |[T,n]=>iK X T fun t=>iK X n fun j=>c2 (j.d.isStr||j.d.sS) (PB X.el t j.d.isStr H au (ax a x) (ax a y))
        |_=>none
       |_=>none
     | .min=>match c.args.toList with
       |[x,y]=>val (UI (ax a x) (ax a y))
       |_=>none
     | .max=>match c.args.toList with
       |[x,y]=>val (UG (ax a x) (ax a y))
       |_=>none
     |_=>none
   |_=>none
 |_=>none
theorem BC{X:b3}{au:Nat}{B:List J}{H:Heap}{w:Op}{o:aO}{av:J}{ws:bM}{K:J→bM→Prop}(h:Mi X au B H w=some (o,av,ws))(n:o.holds)(k:K av ws):hW X.env au B H w K:=by
 cases w<;>simp only[Mi]at h<;>try (cases h;done)
 case move x=>cases h;exact k
 case assign x=>cases h;exact k
 case pick c x y=>
  split at h<;>try (cases h;done)
  rename_i b e;simp only[hW,e]
  cases b<;>(cases h;exact k)
 case alloc T=>
  obtain⟨t,j,a⟩:=jG h;rw[c9]at a;obtain⟨d,a⟩:=a
  cases a
  exact jH j (ay.2 ⟨d,k⟩)
 case box T x=>
  rw[c9]at h;obtain⟨d,a⟩:=h
  cases a
  exact ay.2 ⟨d,k⟩
 case build T G=>
  obtain⟨t,j,a⟩:=jG h;refine jH j ?_
  split at a<;>try (cases a;done)
  rename_i P e;simp only[e]
  split at a<;>try (cases a;done)
  rename_i cs s
  cases a
  exact YD s k
 case load T x=>
  obtain⟨t,j,a⟩:=jG h;obtain⟨d,rfl⟩:=oq.1 a;exact jH j (LR (K:=fun av=>K av []) d n k)
 case store T x y=>
  obtain⟨t,j,a⟩:=jG h
  split at a<;>try (cases a;done)
  rename_i q e
  cases a
  exact jH j (aBd (o:=q.1) (ws:=q.2) e n k)
 case nilCheck x=>
  obtain⟨d,rfl⟩:=oq.1 h;exact ayd (K:=fun av=>K av []) d n k
 case binOp w T x y I=>
  obtain⟨t,j,a⟩:=jG h;obtain⟨d,rfl⟩:=oq.1 a;exact jH j (amf (K:=fun av=>K av []) d n k)
 case unOp w T x=>
  obtain⟨d,rfl⟩:=oq.1 h;exact aBS (K:=fun av=>K av []) d k
 case fieldAddr T x f=>
  obtain⟨t,j,a⟩:=jG h;obtain⟨d,rfl⟩:=oq.1 a;exact jH j (aon (K:=fun av=>K av []) d n k)
 case indexAddr T x y=>
  obtain⟨t,j,a⟩:=jG h;obtain⟨d,rfl⟩:=oq.1 a;exact jH j (as9 (K:=fun av=>K av []) d n k)
 case index T x y=>
  obtain⟨t,j,a⟩:=jG h;obtain⟨d,rfl⟩:=oq.1 a;exact jH j (as1 (K:=fun av=>K av []) d k)
 case extract x i=>
  obtain⟨d,rfl⟩:=oq.1 h;exact an9 (K:=fun av=>K av []) d k
 case buildSlice T len G=>
  obtain⟨t,j,a⟩:=jG h;exact jH j (amo a n k)
 case makeSlice T l c=>
  obtain⟨t,j,a⟩:=jG h;exact jH j (axl a n k)
 case slice T x l hh m=>
  obtain⟨t,j,a⟩:=jG h;exact jH j (aA2 a n k)
 case convert N M x=>
  obtain⟨t,j,a⟩:=jG h;obtain⟨u,d,v⟩:=jG a;obtain⟨A,rfl⟩:=oq.1 v;exact jH j (jH d (anf (K:=fun av=>K av []) A n k))
 case makeFunc F first O=>
  cases F<;>simp only at h<;>try (cases h;done)
  rw[c9]at h;obtain⟨d,a⟩:=h
  cases a
  exact ay.2 ⟨d,k⟩
 case call c=>
  simp only[hW]
  cases z:c.callee with
  |value f=>
   rw[z]at h;simp only at h ⊢;unfold y3
   split at h<;>try (cases h;done)
   rename_i g D hb;simp only[hb];have E:X.env.ed=X.ed:=rfl;rw[E]
   cases C:xS X.ed g (c.args.toList.map (ax B)++D)with
   |true=>rw[C]at h;exact arA h n k
   |false=>
    rw[C]at h;simp only[c9]at h;exact ay.2 ⟨h.1,amM h.2 n k⟩
  |invoke r m=>rw[z]at h;cases h
  |builtin b=>
   rw[z]at h
   cases b<;>simp only at h ⊢ <;>try (cases h;done)
   case append=>
    split at h<;>try (cases h;done)
    rename_i x y p
    split at h<;>try (cases h;done)
    rename_i T L s;obtain⟨t,j,a⟩:=jG h;obtain⟨u,d,v⟩:=jG a;rw[c9]at v;simp only[p,s];exact jH j (jH d (ay.2 ⟨v.1,al5 v.2 n k⟩))
   case min=>
    split at h<;>try (cases h;done)
    rename_i x y p;obtain⟨d,rfl⟩:=oq.1 h;simp only[p];exact axw (K:=fun av=>K av []) d k
   case max=>
    split at h<;>try (cases h;done)
    rename_i x y p;obtain⟨d,rfl⟩:=oq.1 h;simp only[p];exact axr (K:=fun av=>K av []) d k
   case len=>
    split at h<;>try (cases h;done)
    rename_i x p
    split at h<;>try (cases h;done)
    rename_i T s;obtain⟨t,j,a⟩:=jG h;rw[c9]at a;obtain⟨A,rfl⟩:=oq.1 a.2;simp only[p,s];exact jH j (ay.2 ⟨a.1,awW A n k⟩)
def AV(ops:Array Oper)(o:Oper)(a:List J):Option Bool:=
 match o.guard with
 |none=>some true
 |some (j,c)=>match(ops[j]?).bind (·.dst)with
  |some d=>match a.getD d .undef with
   | .lit b=>some (b==c)
   | .gone=>some false
   |_=>none
  |none=>none
def LQ(a:Bool)(av:J):Option Bool:=
 match a with
 |true=>match av with
  | .bool b=>some b
  |_=>none
 |false=>none
def Zm:Op→Bool
 | .panic .. =>true
 | .makeInterface .. =>true
 |_=>false
abbrev pV:=Option (K×List Rec)
def q7(b:Nat):Nat→bM→List J×bM
 |_,[]=>([],[])
 |o,x::r=>match Nat.beq x.1 b&&Nat.beq x.2.1 o with
  |true=>(x.2.2::(q7 b (o+1) r).1,(q7 b (o+1) r).2)
  |false=>([],x::r)
def FA:Nat→Heap→bM→Heap
 |0,H,a=>bt H a
 |n+1,H,a=>match a with
  |[]=>H
  |x::r=>match x.2.1 with
   |0=>FA n (setAt [] H x.1 (x.2.2::(q7 x.1 1 r).1++(H.getD x.1 []).drop ((q7 x.1 1 r).1.length+1))) (q7 x.1 1 r).2
   |o+1=>FA n (bs H x.1 (o+1) x.2.2) r
def xL(H:Heap)(a:bM):Heap:=FA a.length H a
theorem ahq{α:Type}(d:α)(x:α): ∀(p r:List α),setAt d (p++r) p.length x=p++x::r.drop 1
 |[],[]=>rfl
 |[],_::_=>rfl
 |a::p,r=>by simp only[vF,dr,setAt,ahq d x p r]
theorem aqm{α:Type}(d x e:α)(l:List α)(i:Nat):(setAt d l i x).getD i e=x:=by
 induction l generalizing i with
 |nil=>
  induction i with
  |zero=>rfl
  |succ i b=>simpa[setAt]using b
 |cons a l b=>
  cases i with
  |zero=>rfl
  |succ i=>simpa[setAt]using b i
theorem run_eq(b:Nat): ∀(r:bM) (H:Heap) (p q:List J),bt (setAt [] H b (p++q)) r=bt (setAt [] H b (p++(q7 b p.length r).1++q.drop (q7 b p.length r).1.length)) (q7 b p.length r).2
 |[],H,p,q=>by simp [q7]
 |x::r,H,p,q=>by
  unfold q7
  cases e:(Nat.beq x.1 b&&Nat.beq x.2.1 p.length)with
  |false=>simp
  |true=>
   simp only[bL]at e;have d:=dQ e.1;have f:=dQ e.2;obtain⟨a,i,c⟩:=x;simp only at d f;subst d f;have h:=run_eq a r H (p++[c]) (q.drop 1);have g:(p++[c]).length=p.length+1:=by simp
   rw[g]at h;show bt (bs (setAt [] H a (p++q)) a p.length c) r=_;unfold bs;rw[aqm,GJ,ahq];simp only[eZ,Cb]at h;rw[h];simp only[dr,vD,eZ,vF,Nat.add_comm]
theorem TT: ∀(n:Nat) (H:Heap) (a:bM),FA n H a=bt H a
 |0,_,_=>rfl
 |n+1,H,[]=>rfl
 |n+1,H,(b,o,c)::r=>by
  unfold FA
  cases o with
  |zero=>
   simp only;rw[TT n];show _=bt (bs H b 0 c) r;unfold bs;have d:setAt .undef (H.getD b []) 0 c=[c]++(H.getD b []).drop 1:=by
    cases H.getD b []<;>rfl
   rw[d];have h:=run_eq b r H [c] ((H.getD b []).drop 1);rw[h];simp only[dr,fH,c1,vD,vF,pK,Nat.add_comm]
  |succ o=>
   simp only;rw[TT n];rfl
theorem Fz(H:Heap)(ws:bM):xL H ws=bt H ws:=TT _ _ _
noncomputable def pt(X:b3)(ops:Array Oper):List Oper→Nat→K→List Rec→Option (aO×T pV)
 |[],_,st,rs=>some (.c4,.cY (some (st,rs)))
 |o::a,i,st,rs=>match AV ops o st.n with
  |none=>none
  |some g=>match g with
   |false=>pt X ops a (i+1) ⟨jR o.dst .gone st.n,st.k⟩ (⟨.gone,[],[],[],0,false⟩::rs)
   |true=>match Zm o.op with
    |true=>some (.p False,.cY none)
    |false=>match Mi X (s7 st.n st.k o.op) st.n st.k o.op with
     |none=>none
     |some r=>match LQ (G1 a i) r.2.1 with
      |some b=>match pt X ops a (i+1) ⟨jR o.dst (.lit true) st.n,xL st.k r.2.2⟩ (⟨.lit true,r.2.2,j8 X.env st.n o.op,px st.n st.k o.op,s7 st.n st.k o.op,true⟩::rs)with
       |none=>none
       |some q1=>match pt X ops a (i+1) ⟨jR o.dst (.lit false) st.n,xL st.k r.2.2⟩ (⟨.lit false,r.2.2,j8 X.env st.n o.op,px st.n st.k o.op,s7 st.n st.k o.op,true⟩::rs)with
        |none=>none
        |some c=>some (.and r.1 (.and (.imp b true q1.1) (.imp b false c.1)),.dT b q1.2 c.2)
      |none=>match pt X ops a (i+1) ⟨jR o.dst r.2.1 st.n,xL st.k r.2.2⟩ (⟨r.2.1,r.2.2,j8 X.env st.n o.op,px st.n st.k o.op,s7 st.n st.k o.op,true⟩::rs)with
       |none=>none
       |some q=>some (.and r.1 q.1,q.2)
theorem SS{ops:Array Oper}{o:Oper}{st:K}{a skip:Prop}(h:AV ops o st.n=some true)(k:a):u4 ops o st a skip:=by
 unfold AV at h;unfold u4
 split at h
 ·rename_i e;simp only[e];exact k
 ·rename_i j f e;simp only[e]
  split at h<;>try (cases h;done)
  rename_i d c;simp only[c]
  split at h<;>try (cases h;done)
  rename_i b aZ;simp only[aZ];simp only[gM]at h;simp only[h];exact k
theorem SU{ops:Array Oper}{o:Oper}{st:K}{c skip:Prop}(h:AV ops o st.n=some false)(k:skip):u4 ops o st c skip:=by
 unfold AV at h;unfold u4
 split at h
 ·cases h
 ·rename_i j f e;simp only[e]
  split at h<;>try (cases h;done)
  rename_i d a;simp only[a]
  split at h<;>try (cases h;done)
  ·rename_i b aZ;simp only[aZ];simp only[gM]at h;simp only[h];exact k
  ·rename_i aZ;simp only[aZ];exact k
theorem Bi{a:Bool}{av:J}{K:J→Prop}(h:match LQ a av with
  |some b=>(b=true→K (.lit true))∧(b=false→K (.lit false))
  |none=>K av):Bh a av K:=by
 unfold LQ at h;unfold Bh
 cases a
 ·exact h
 ·simp only at h ⊢
  cases av<;>exact h
theorem Gj{X:b3}{ops:Array Oper}{m:List Rec→K→Prop} : ∀(l:List Oper) (i:Nat) (st:K) (rs:List Rec) (o:aO) (t:T pV),pt X ops l i st rs=some (o,t)→o.holds→
  (∀s d,t.bx=some (s,d)→m d.reverse s)→rE X.env ops l i st rs m
 |[],i,st,rs,o,t,h,a,c=>by
  cases h
  exact c st rs rfl
 |p::l,i,st,rs,o,t,h,a,c=>by
  simp only[pt,Fz]at h;simp only[rE]
  split at h<;>try (cases h;done)
  rename_i g n
  split at h
  ·exact SU n (Gj l _ _ _ o t h a c)
  ·refine SS n ?_
   split at h
   ·cases h;exact a.elim
   split at h<;>try (cases h;done)
   rename_i r u;obtain⟨y,x,z⟩:=r
   split at h
   ·rename_i b e
    split at h<;>try (cases h;done)
    rename_i q1 f
    split at h<;>try (cases h;done)
    rename_i v w
    cases h
    refine⟨_,F4 st.n st.k p.op,?_⟩;refine BC u a.1 (Bi ?_);simp only at e;simp only[e];constructor
    ·intro j;subst j;exact Gj l _ _ _ q1.1 q1.2 f (a.2.1 rfl) fun s d k=>c s d k
    ·intro j;subst j;exact Gj l _ _ _ v.1 v.2 w (a.2.2 rfl) fun s d k=>c s d k
   ·rename_i e
    split at h<;>try (cases h;done)
    rename_i q f
    cases h
    refine⟨_,F4 st.n st.k p.op,?_⟩;refine BC u a.1 (Bi ?_);simp only at e;simp only[e];exact Gj l _ _ _ q.1 q.2 f a.2 c
theorem Gl{X:b3}{ops:Array Oper}{m:K→Prop} : ∀(l:List Oper) (i:Nat) (st:K) (rs:List Rec) (o:aO) (t:T pV),pt X ops l i st rs=some (o,t)→o.holds→
  (∀s e,t.bx=some (s,e)→m s)→yZ X.env ops l i st m
 |[],i,st,rs,o,t,h,a,c=>by
  cases h
  exact c st rs rfl
 |p::l,i,st,rs,o,t,h,a,c=>by
  simp only[pt,Fz]at h;simp only[yZ]
  split at h<;>try (cases h;done)
  rename_i g n
  split at h
  ·exact SU n (Gl l _ _ _ o t h a c)
  ·refine SS n ?_
   split at h
   ·cases h;exact a.elim
   split at h<;>try (cases h;done)
   rename_i r u;obtain⟨y,x,z⟩:=r
   split at h
   ·rename_i b d
    split at h<;>try (cases h;done)
    rename_i q1 f
    split at h<;>try (cases h;done)
    rename_i v w
    cases h
    refine BC u a.1 (Bi ?_);simp only at d;simp only[d];constructor
    ·intro j;subst j;exact Gl l _ _ _ q1.1 q1.2 f (a.2.1 rfl) fun s e k=>c s e k
    ·intro j;subst j;exact Gl l _ _ _ v.1 v.2 w (a.2.2 rfl) fun s e k=>c s e k
   ·rename_i d
    split at h<;>try (cases h;done)
    rename_i q f
    cases h
    refine BC u a.1 (Bi ?_);simp only at d;simp only[d];exact Gl l _ _ _ q.1 q.2 f a.2 c
inductive eR where
 |nrm (s:K)
 |ext (id:Nat) (s:K)
 |ret (cv:List J)
 |dead
structure iu where
 o:aO
 f:Option Prop
 t:T eR
def iu.bad:iu:=⟨.p False,none,.cY .dead⟩
def T.rG{α:Type _}(f:α→Bool):T α→Bool
 | .cY a=>f a
 | .dT _ l r=>match l.rG f with
   |true=>r.rG f
   |false=>false
theorem T.yX{α:Type _}{f:α→Bool} : ∀{t:T α},t.rG f=true→f t.bx=true
 | .cY _,h=>h
 | .dT b l r,h=>by
   simp only[T.rG]at h
   split at h
   ·rename_i e
    cases b
    ·exact T.yX (t:=r) h
    ·exact T.yX (t:=l) e
   ·cases h
def LP:pV→eR
 |some q=> .nrm q.1
 |none=> .dead
noncomputable def jD(X:b3)(ops:Array Oper)(a:Bool)(st:K):iu:=
 match pt X ops ops.toList 0 st []with
 |none=> .bad
 |some q=>match a with
  |false=>⟨q.1,none,q.2.map LP⟩
  |true=>match q.2.rG (fun x=>match x with
    |some y=>indep st.k ops y.2.reverse
    |none=>true)with
   |true=>⟨q.1,none,q.2.map LP⟩
   |false=> .bad
theorem agQ{X:b3}(g:X.env.dm){id:Nat}{ops:Array Oper}{c:Bool}{st:K}{Q:Exit→K→Prop}(a:(jD X ops c st).o.holds)(b: ∀s,(jD X ops c st).t.bx= .nrm s→Q .normal s):WP X.env (.region id ops c) Q st:=by
 unfold jD at a b;refine WP.U5 g ?_;simp only[lT]
 split at a
 ·exact a.elim
 ·rename_i q e;obtain⟨o,t⟩:=q;simp only[e]at b
  cases c with
  |false=>
   simp only at b a ⊢;exact Gl _ _ _ _ o t e a fun s h d=>b s (by rw[T.k_,d];rfl)
  |true=>
   simp only at b a ⊢
   split at a
   ·rename_i f;simp only[f]at b;refine Gj _ _ _ _ o t e a fun s h d=>⟨?_,b s (by rw[T.k_,d];rfl)⟩;have:=T.yX f;rw[d]at this;exact yT.of this
   ·exact a.elim
def L0(L:List (Nat×Nat))(b p:Nat):Bool:=L.any fun x=>Nat.beq x.1 b&&Nat.beq x.2 p
def Gb(H:Heap)(L:List (Nat×Nat)):bM→gP
 |[]=> .c4
 |x::r=>match L0 L x.1 x.2.1 with
  |true=> .and (.e x.2.2 (B H x.1 x.2.1)) (Gb H L r)
  |false=>Gb H L r
def Ma(H:Heap)(L:List (Nat×Nat)):List Rec→gP
 |[]=> .c4
 |r::rs=> .and (Gb H L r.ws) (Ma H L rs)
theorem U0{H:Heap}{L:List (Nat×Nat)} : ∀{f:bM},(Gb H L f).holds→ ∀b p c,L0 L b p=true→(b,p,c)∈f→c=B H b p
 |[],_,_,_,_,_,h=>by cases h
 |x::r,a,b,p,c,d,h=>by
  unfold Gb at a;rcases hS.1 h with e|e
  ·subst e;rw[d]at a;exact a.1
  ·split at a
   ·exact U0 a.2 b p c d e
   ·exact U0 a b p c d e
theorem afR{H:Heap}{L:List (Nat×Nat)} : ∀{rs:List Rec},(Ma H L rs).holds→ ∀b p,L0 L b p=true→ ∀r∈rs,∀c,(b,p,c)∈r.ws→c=B H b p
 |[],_,_,_,_,_,h,_,_=>by cases h
 |g::rs,f,b,p,d,r,h,c,a=>by
  rcases hS.1 h with e|e
  ·subst e;exact U0 f.1 b p c d a
  ·exact afR f.2 b p d r e c a
def Mc(H:Heap)(L:List (Nat×Nat)):T pV→gP
 | .cY a=>match a with
   |some y=>Ma H L y.2.reverse
   |none=> .c4
 | .dT _ l r=> .and (Mc H L l) (Mc H L r)
theorem U1{H:Heap}{L:List (Nat×Nat)} : ∀{t:T pV} {y:K×List Rec},(Mc H L t).holds→t.bx=some y→(Ma H L y.2.reverse).holds
 | .cY a,y,h,e=>by
   simp only[T.bx]at e;subst e;exact h
 | .dT b l r,y,h,e=>by
   cases b
   ·exact U1 (t:=r) h.2 e
   ·exact U1 (t:=l) h.1 e
def Bq(a:List J)(H:Heap)(op:Op):Nat:=match op with
 | .call _=>H.length+32
 |op=>s7 a H op
theorem afH(a:List J)(H:Heap)(op:Op):H.length≤Bq a H op:=by
 unfold Bq
 split
 ·exact pJ _ _
 ·exact F4 _ _ _
noncomputable def ta(X:b3)(ops:Array Oper):List Oper→Nat→K→List Rec→Option (aO×T pV)
 |[],_,st,rs=>some (.c4,.cY (some (st,rs)))
 |o::a,i,st,rs=>match AV ops o st.n with
  |none=>none
  |some g=>match g with
   |false=>ta X ops a (i+1) ⟨jR o.dst .gone st.n,st.k⟩ (⟨.gone,[],[],[],0,false⟩::rs)
   |true=>match Zm o.op with
    |true=>some (.p False,.cY none)
    |false=>match Mi X (Bq st.n st.k o.op) st.n st.k o.op with
     |none=>none
     |some r=>match LQ (G1 a i) r.2.1 with
      |some b=>match ta X ops a (i+1) ⟨jR o.dst (.lit true) st.n,xL st.k r.2.2⟩ (⟨.lit true,r.2.2,j8 X.env st.n o.op,px st.n st.k o.op,Bq st.n st.k o.op,true⟩::rs)with
       |none=>none
       |some q1=>match ta X ops a (i+1) ⟨jR o.dst (.lit false) st.n,xL st.k r.2.2⟩ (⟨.lit false,r.2.2,j8 X.env st.n o.op,px st.n st.k o.op,Bq st.n st.k o.op,true⟩::rs)with
        |none=>none
        |some c=>some (.and r.1 (.and (.imp b true q1.1) (.imp b false c.1)),.dT b q1.2 c.2)
      |none=>match ta X ops a (i+1) ⟨jR o.dst r.2.1 st.n,xL st.k r.2.2⟩ (⟨r.2.1,r.2.2,j8 X.env st.n o.op,px st.n st.k o.op,Bq st.n st.k o.op,true⟩::rs)with
       |none=>none
       |some q=>some (.and r.1 q.1,q.2)
theorem Gh{X:b3}{ops:Array Oper}{m:List Rec→K→Prop} : ∀(l:List Oper) (i:Nat) (st:K) (rs:List Rec) (o:aO) (t:T pV),ta X ops l i st rs=some (o,t)→o.holds→
  (∀s d,t.bx=some (s,d)→m d.reverse s)→rE X.env ops l i st rs m
 |[],i,st,rs,o,t,h,a,c=>by
  cases h
  exact c st rs rfl
 |p::l,i,st,rs,o,t,h,a,c=>by
  simp only[ta,Fz]at h;simp only[rE]
  split at h<;>try (cases h;done)
  rename_i g n
  split at h
  ·exact SU n (Gh l _ _ _ o t h a c)
  ·refine SS n ?_
   split at h
   ·cases h;exact a.elim
   split at h<;>try (cases h;done)
   rename_i r u;obtain⟨y,x,z⟩:=r
   split at h
   ·rename_i b e
    split at h<;>try (cases h;done)
    rename_i q1 f
    split at h<;>try (cases h;done)
    rename_i v w
    cases h
    refine⟨_,afH st.n st.k p.op,?_⟩;refine BC u a.1 (Bi ?_);simp only at e;simp only[e];constructor
    ·intro j;subst j;exact Gh l _ _ _ q1.1 q1.2 f (a.2.1 rfl) fun s d k=>c s d k
    ·intro j;subst j;exact Gh l _ _ _ v.1 v.2 w (a.2.2 rfl) fun s d k=>c s d k
   ·rename_i e
    split at h<;>try (cases h;done)
    rename_i q f
    cases h
    refine⟨_,afH st.n st.k p.op,?_⟩;refine BC u a.1 (Bi ?_);simp only at e;simp only[e];exact Gh l _ _ _ q.1 q.2 f a.2 c
noncomputable def tg(X:b3)(ops:Array Oper)(L:List (Nat×Nat))(st:K):iu:=
 match ta X ops ops.toList 0 st []with
 |none=> .bad
 |some q=>match q.2.rG (fun x=>match x with
   |some y=>xR (fun b p=>Mb st.k y.2.reverse b p||L0 L b p) ops y.2.reverse
   |none=>true)with
  |true=>⟨.and q.1 (.es fun _:Unit=>Mc st.k L q.2),none,q.2.map LP⟩
  |false=> .bad
theorem aAf{X:b3}(k:X.env.dm){id:Nat}{ops:Array Oper}{L:List (Nat×Nat)}{st:K}{Q:Exit→K→Prop}(a:(tg X ops L st).o.holds)(d: ∀s,(tg X ops L st).t.bx= .nrm s→Q .normal s):WP X.env (.region id ops true) Q st:=by
 unfold tg at a d;refine WP.U5 k ?_;simp only[lT]
 split at a
 ·exact a.elim
 ·rename_i q e;obtain⟨o,t⟩:=q;simp only[e]at d;simp only at d a ⊢
  split at a
  ·rename_i g;simp only[g]at d;refine Gh _ _ _ _ o t e a.1 fun s m f=>⟨?_,d s (by rw[T.k_,f];rfl)⟩;have:=T.yX g;rw[f]at this;refine⟨_,fun b p l r j c i=> ?_,this⟩;rcases Bool.or_eq_true_iff.1 l with h|h
   ·exact afS h j i
   ·exact afR (U1 (a.2 ()) f) b p h r j c i
  ·exact a.elim
inductive Key where
 |t (i:Nat)
 |c (i j:Nat)
 |h (b o:Nat)
 |b (b:Nat)
def xB(s:K)(k:Key):J:=
 match k with
 | .t i=>s.n.getD i .undef
 | .c i j=>match s.n.getD i .undef with
   | .agg cs=>cs.getD j .undef
   |_=> .undef
 | .h b o=>B s.k b o
 | .b _=> .undef
def yv(l:List J)(i:Nat)(v:J):List J:=
 match l,i with
 |[],_=>[]
 |_::r,0=>v::r
 |x::r,i+1=>x::yv r i v
def Wm(H:Heap)(b:Nat)(f:List J→List J):Heap:=
 match H,b with
 |[],_=>[]
 |l::r,0=>f l::r
 |l::r,b+1=>l::Wm r b f
def Mq(s:K)(k:Key)(v:J):K:=
 match k with
 | .t i=>⟨yv s.n i v,s.k⟩
 | .c i j=>match s.n.getD i .undef with
   | .agg cs=>⟨yv s.n i (.agg (yv cs j v)),s.k⟩
   |_=>s
 | .h b o=>⟨s.n,Wm s.k b fun l=>yv l o v⟩
 | .b b=>⟨s.n,Wm s.k b fun _=>[]⟩
def agt:K→List Key→List J→K
 |s,k::a,v::b=>agt (Mq s k v) a b
 |s,_,_=>s
def we:K→List Key→K
 |s,[]=>s
 |s,k::a=>we (Mq s k .undef) a
def aeQ(m:Nat):List J→List J
 |[]=>[]
 |x::r=>(match Nat.beq (m%2) 1 with
  |true=>x
  |false=> .undef)::aeQ (m/2) r
def Mz(H:Heap)(x:J):J:=
 match x with
 | .own b _=>match B H b 0 with
   | .ad _ _ n _=> .own b n
   |_=> .undef
 | .fp b _ i o=>match B H b 0 with
   | .ad _ _ n _=> .fp b n i o
   |_=> .undef
 |x=>x
def BP(H:Heap)(x:J):J:=
 match x with
 | .agg cs=> .agg (cs.map (Mz H))
 |x=>Mz H x
def aAe(s:K):K:=⟨s.n.map (BP s.k),s.k.map fun l=>l.map (Mz s.k)⟩
def x9(base:K)(a:List Key)(b:List J):K:=aAe (agt base a b)
def getAll(s:K):List Key→List J
 |[]=>[]
 |k::a=>xB s k::getAll s a
def pn(a:List (Key×aB))(s:K):Option (List J):=dK (a.map (·.2)) (getAll s (a.map (·.1)))
def Qo(x y:J):aO:=
 match x with
 | .int k a=>match y with
   | .int d b=> .and (.e k d) (.e a b)
   |y=> .e (.int k a) y
 | .bool a=>match y with
   | .bool b=> .e a b
   |y=> .e (.bool a) y
 | .own b n=>match y with
   | .own c e=> .and (.e b c) (.e n e)
   |y=> .e (.own b n) y
 |x=> .e x y
theorem an5{x y:J}(h:(Qo x y).holds):x=y:=by
 unfold Qo at h
 cases x<;>simp only at h<;>first|exact h|skip
 all_goals
  cases y<;>simp only at h<;>first|exact h|skip
 ·have a:=h.1;have b:=h.2;simp only[aO.holds]at a b;rw[a,b]
 ·simp only[aO.holds]at h;rw[h]
 ·have a:=h.1;have b:=h.2;simp only[aO.holds]at a b;rw[a,b]
def Ic:List J→List J→aO
 |[],[]=> .c4
 |x::a,y::b=> .and (Qo x y) (Ic a b)
 |[],_::_=> .p False
 |_::_,[]=> .p False
theorem Qs: ∀{a b:List J},(Ic a b).holds→a=b
 |[],[],_=>rfl
 |x::a,y::b,h=>by
  have c:=an5 h.1;have d:=Qs h.2;rw[c,d]
 |[],_::_,h=>h.elim
 |_::_,[],h=>h.elim
def Qp:Heap→Heap→aO
 |[],[]=> .c4
 |x::a,y::b=> .and (Ic x y) (Qp a b)
 |[],_::_=> .p False
 |_::_,[]=> .p False
theorem ZH: ∀{a b:Heap},(Qp a b).holds→a=b
 |[],[],_=>rfl
 |x::a,y::b,h=>by
  have c:=Qs h.1;have d:=ZH h.2;rw[c,d]
 |[],_::_,h=>h.elim
 |_::_,[],h=>h.elim
def jQ(s m:K):aO:=
 match HS s m with
 |some z=> .and (Ic z.n m.n) (Qp z.k m.k)
 |none=> .p False
theorem za{s m:K}(h:(jQ s m).holds):HS s m=some m:=by
 unfold jQ at h
 split at h
 ·rename_i z e;have a:=Qs h.1;have b:=ZH h.2;rw[e]
  cases z;cases m
  simp only at a b;rw[a,b]
 ·exact h.elim
theorem nH{s m:K}{k:Nat}(h:(jQ s m).holds)(a:hq k m=true):cg k s m:=rq.le (Bf (za h)) a
def P1(k:aB)(m:iP)(t:T J):Option (gP×J):=
 match t.rG (fun x=>(k.rd x).isSome)with
 |true=>some ((t.map fun x=>(k.rd x).getD k.ln).y7 m,k.av ((t.map fun x=>(k.rd x).getD k.ln).jP m))
 |false=>none
theorem ana{k:aB}{m:iP}{t:T J}{o:gP}{v:J}(h:P1 k m t=some (o,v))(c:o.holds):k.nrm t.bx=some v:=by
 unfold P1 at h
 split at h
 ·rename_i e;have a:=T.yX e
  cases h
  rw[T.CU c,T.k_];unfold aB.nrm
  cases b:k.rd t.bx with
  |none=>rw[b]at a;cases a
  |some v=>rfl
 ·cases h
def CT:List aB→List iP→T (List J)→Option (gP×List J)
 |[],_,_=>some (.c4,[])
 |k::b,ms,t=>match P1 k (ms.headD .f) (t.map fun l=>l.headD .undef)with
  |some q=>match CT b ms.tail (t.map List.tail)with
   |some a=>some (.and q.1 a.1,q.2::a.2)
   |none=>none
  |none=>none
theorem PZ: ∀{bm:List aB} {ms:List iP} {t:T (List J)} {o:gP} {cv:List J},CT bm ms t=some (o,cv)→o.holds→t.bx.length=bm.length→dK bm t.bx=some cv
 |[],ms,t,o,cv,h,f,a=>by
  cases h
  have:t.bx=[]:=WU (by simpa using a);rw[this];rfl
 |k::bm,ms,t,o,cv,h,f,a=>by
  simp only[CT]at h
  split at h<;>try (cases h;done)
  rename_i q e
  split at h<;>try (cases h;done)
  rename_i g i
  cases h
  have c:=ana (o:=q.1) (v:=q.2) e f.1;rw[T.k_]at c
  cases b:t.bx with
  |nil=>rw[b]at a;cases a
  |cons x j=>
   have d:=PZ (bm:=bm) (o:=g.1) (cv:=g.2) i f.2 (by rw[T.k_,b];simpa[b]using a);rw[T.k_,b]at d;rw[b]at c;simp only[List.headD_cons]at c;simp only[List.tail_cons]at d;simp only[dK,c,d]
def T.ye{α:Type _}(f:α→aO):T α→aO
 | .cY a=>f a
 | .dT b l r=> .and (.imp b true (l.ye f)) (.imp b false (r.ye f))
theorem T.Gf{α:Type _}{f:α→aO} : ∀{t:T α},(t.ye f).holds→(f t.bx).holds
 | .cY _,h=>h
 | .dT b l r,h=>by
   cases b
   ·exact T.Gf (t:=r) (h.2 rfl)
   ·exact T.Gf (t:=l) (h.1 rfl)
def T.Ge{α:Type _}(f:α→aO):T α→aO
 | .cY a=>f a
 | .dT _ l r=> .and (l.Ge f) (r.Ge f)
theorem T.Mg{α:Type _}{f:α→aO} : ∀{t:T α},(t.Ge f).holds→(f t.bx).holds
 | .cY _,h=>h
 | .dT b l r,h=>by
   cases b
   ·exact T.Mg (t:=r) h.2
   ·exact T.Mg (t:=l) h.1
structure vI where
 keep:Nat
 drop:List Key
 bm:List (Key×aB)
 ms:List iP
 pm:iP:= .f
def ahH:Heap→Heap
 |[]=>[]
 |l::r=>match ahH r with
  |[]=>match l with
   |[]=>[]
   |x::y=>[x::y]
  |a::b=>l::a::b
def aBF(s:K):K:=⟨s.n,ahH s.k⟩
def CF(b:Nat)(a:List Key)(s:K):K:=aBF (we ⟨aeQ b s.n,s.k⟩ a)
def meet(m:Nat)(J:vI)(t:T K):Option (aO×K):=
 match t.rG (fun s=>(pn J.bm s).isSome)with
 |false=>none
 |true=>match CT (J.bm.map (·.2)) J.ms (t.map fun s=>getAll s (J.bm.map (·.1)))with
  |none=>none
  |some q=>match hq m (x9 (CF J.keep J.drop t.first) (J.bm.map (·.1)) q.2)with
   |true=>some (.and (.es fun _:Unit=>q.1) (t.Ge fun s=>jQ s (x9 (CF J.keep J.drop t.first) (J.bm.map (·.1)) ((pn J.bm s).getD []))),x9 (CF J.keep J.drop t.first) (J.bm.map (·.1)) q.2)
   |false=>none
theorem acU(s:K): ∀a:List Key,(getAll s a).length=a.length
 |[]=>rfl
 |_::a=>by simp [getAll,acU s a]
theorem afp{m:Nat}{J:vI}{t:T K}{o:aO}{jf:K}(h:meet m J t=some (o,jf))(c:o.holds):cg m t.bx jf:=by
 unfold meet at h
 split at h<;>try (cases h;done)
 rename_i g
 split at h<;>try (cases h;done)
 rename_i q d
 split at h<;>try (cases h;done)
 rename_i f
 cases h
 have a:=PZ (o:=q.1) (cv:=q.2) d (c.1 ()) (by rw[T.k_,acU];simp);rw[T.k_]at a;have b:=T.Mg (t:=t) c.2;have e:pn J.bm t.bx=some q.2:=a;rw[e]at b;exact nH b f
theorem CG{α:Type}(a b:Bool)(x y:α):(bif a then x else bif b then x else y)=bif(a||b)then x else y:=by cases a<;>rfl
end Go.af
namespace Go.Proofs.YtfmgjpcmcjjoiaaGreatDoor
open Go Go.RowKit Go.af
def Ot(n:Nat)(a:Nat→u):Prop:= ∀i j,i<j→j<n→Op.bytesLess (a i).toList (a j).toList=true
end Go.Proofs.YtfmgjpcmcjjoiaaGreatDoor
