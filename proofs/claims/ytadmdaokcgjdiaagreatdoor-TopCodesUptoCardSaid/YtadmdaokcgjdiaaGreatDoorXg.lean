import Derived.Test.YtadmdaokcgjdiaaGreatDoorXf
import Derived.Laws.Cover3
import Derived.Lib.Bytealg
import Derived.Test.YtadmdaokcgjdiaaGreatDoorProg
import Derived.Laws.Externs
open Go.IntKind (i64 u64 u8)
open Int (toNat)
set_option maxRecDepth 100000
set_option maxHeartbeats 4000000
set_option linter.all false
noncomputable section
namespace Go.af
open Go Go.RowKit
def aDb{P:Program}{T e:TypeId}(w:World)(b:P.underlying T=some (.slice e))(x y:Operand)(a:Option Addr)(l c:Nat):
  (do eqGuard .eql T x y (.slice a l c) (.slice none 0 0);binOp .eql T (.slice a l c) (.slice none 0 0):Sem Value).run P w= .ok (.bool a.isNone) w:=by
 have h:binOp .eql T (.slice a l c) (.slice none 0 0)=(do pure (.bool (<-Op.equal T (.slice a l c) (.slice none 0 0)))):=rfl;rw[h];simp [go_sem,run_equal_slice_nil w T e a l c b]
def WP.En{E:Env}(G:E.dE){z:Code}{Q:Exit->O->Prop}{st:O}{id:Nat}{d j:Oper}{T A:TypeId}{l:bS}{t b m k n:Nat}{f:Nat->List J}
  (H:E.ty T=some l) (u:l.d.tY=true) (C:d.guard=none) (dO:d.op= .move (.tmp t)) (y:d.dst=some b) (D:j.guard=none) (dD:j.op= .binOp .eql T (.tmp b) (.const (.slice none 0 0)) A) (q1:j.dst=some m)
  (V:st.D[t]? =some (.arr k n f)) (M:b<st.D.length) (h: ∀q:Bool,(q=true->n=0)->WP E z Q ⟨(st.D.set b (.arr k n f)).set m (.bool q),st.k⟩):WP E (.seq (.region id #[d,j] false) z) Q st:=by
 refine WP.seq λS tO ι a w p=>wp_region_list ?_;have X:=G.ty T l H;have s:=X.d;obtain⟨e,L⟩: ∃e,E.P.underlying T=some (.slice e):=by
  cases B:l.d<;>rw[B]at u s<;>first|(cases u;done)|exact⟨_,s.1⟩
 obtain⟨v,Z,i⟩:=p.D t _ V;have i:a1 w (aT S ι st.k w) (.arr k n f) v:=i;refine Dx C λK o=>dx (v:=a.eval (.tmp t)) (w':=w) (by simp [execOp,dO]) (o _ _ ?_);have I:a.eval (.tmp t)=v:=by simp [Act.eval,IN,Z]
 rw[I];have F:aY S ι ⟨st.D.set b (.arr k n f),st.k⟩ (a.put d.dst v) w:=by rw[y];exact p.put b i
 have W:(a.put d.dst v).eval (.tmp b)=v:=by
  obtain⟨fu,Y,aGD⟩:=p.D b _ (cM M);have N:b<a.tmps.size:=by
   rcases fE b a.tmps.size with h|h
   .exact h
   .simp [O2 h]at Y
  simp [Act.eval,Act.put,y,IN,N]
 obtain⟨g,c,x⟩: ∃g c,v= .slice g n c:=by
  cases i with
  |nil=>exact⟨none,0,rfl⟩
  |mt _ _ g c=>exact⟨_,c,rfl⟩
  |arr _ _ _ cx eI c=>exact⟨_,c,rfl⟩
 have R:g.isNone=true->n=0:=λP=>by
  rw[x]at i
  cases i<;>first|rfl|(cases P;done)
 refine Dx D λK o=>dx (v:= .bool g.isNone) (w':=w) ?_ (o _ _ ?_)
 .have U:(execOp (a.put d.dst v).eval j).run E.P w=((do eqGuard .eql T (.tmp b) (.const (.slice none 0 0)) ((a.put d.dst v).eval (.tmp b)) (.slice none 0 0);binOp .eql T ((a.put d.dst v).eval (.tmp b)) (.slice none 0 0):Sem Value).run E.P w).andThen λv w=> .ok (.value v) w:=by
   simp only[execOp,dD];rw[Sem.run_bind];rfl
  rw[U,W,x,aDb w L];rfl
 .have r:=F.put m (av:= .bool g.isNone) (v:= .bool g.isNone) (a1.bool _);rw[<-q1]at r;exact⟨ι,_,r,h _ R⟩
def ff(a b:Int):Int:=bif decide (b<a)then b else a
def imax(a b:Int):Int:=bif decide (b>a)then b else a
def y5(a b:Int):a<=imax a b/\b<=imax a b/\(imax a b=a\/imax a b=b):=by
 unfold imax
 by_cases h:b>a
 .simp [h];omega
 .simp [h];omega
def lP(a b:Int):ff a b<=a/\ff a b<=b/\(ff a b=a\/ff a b=b):=by
 unfold ff
 by_cases h:b<a
 .simp [h];omega
 .simp [h];omega
def zK{H:Heap}{b b' o:Nat}(cs:List J):I (setAt [] H b cs) b' o=if b'=b then cs.getD o .undef else I H b' o:=GQ H b cs b' o
def WP.aqO{E:Env}{x:Code}{Q:Exit->O->Prop}{st:O}(i b:Nat)(cs:List J)(W:st.D[i]? =some (.ptr b 0))(jh:st.k.getD b []=cs)(B:cs.all ny=true)
  (X:wy ⟨st.D.set i (.ref cs),setAt [] st.k b []⟩=true) (h:WP E x Q ⟨st.D.set i (.ref cs),setAt [] st.k b []⟩) (hm:hV E.m ⟨st.D.set i (.ref cs),setAt [] st.k b []⟩=true:=by rfl):WP E x Q st:=λS tO ι a w g=>by
 simp only[wy,b4]at X;let H:Heap:=setAt [] st.k b [];have U: ∀j (d:j<cs.length),ny cs[j]=true:=λj d=>dK.1 B _ (j8 d);have aud: ∀c,ny c=true->c≠ .undef:=by intro c B e;rw[e]at B;cases B
 have at6: ∀c,ny c=true->cr c=false:=by intro c B;cases c<;>first|rfl|(cases B;done)
 have V: ∀j (d:j<cs.length),I st.k b j=cs[j]:=λj d=>by unfold I;rw[jh];simp [List.getD,d]
 have Mr: ∀o,I H b o= .undef:=λo=>by rw[zK,a5 rfl];simp
 have atx: ∀b' o,b'≠b->I H b' o=I st.k b' o:=λb' o fP=>by rw[zK,aS fP]
 have atJ:alive H b=false:=by
  unfold alive;rw[qh,a5 rfl]
 have jG: ∀b',alive H b'=true->b'≠b:=λb' h e=>by rw[e,atJ]at h;cases h
 let az:Nat->Option Nat:=λb'=>if alive H b' then ι b' else none
 have r: ∀b',alive H b'=true->az b'=ι b':=λb' m=>a5 m;have q: ∀b' y,az b'=some y->alive H b'=true/\ι b'=some y:=λb' y m=>by
  by_cases h:alive H b'=true
  .exact⟨h,by rw[<-r b' h];exact m⟩
  .simp [az,h]at m
 have gX: ∀b',alive H b'=true->b'<H.length:=λb' m=>by
  rcases fE b' H.length with h|h
  .exact h
  .simp [alive,List.getD,eX h]at m
 have avh: ∀b' o,alive H b'=false->I H b' o= .undef:=λb' o h=>by
  unfold alive at h;unfold I
  cases e:H.getD b' []with
  |nil=>rfl
  |cons cx su=>rw[e]at h;cases h
 have z: ∀b',alive H b'=true-> ∀o,I H b' o=I st.k b' o:=λb' m o=>atx b' o (jG b' m);have K: ∀y,aT S ι st.k w y->aT S az H w y:=λy ⟨G,k,fe⟩=>⟨G,k,λb' m j0=>fe b' (oy (λo=>z b' (q b' y j0).1 o) m) (q b' y j0).2⟩;refine h S tO az a w ⟨g.below,g.defers,λt av p=> ?_,λb' o=> ?_,λg1 bU y G k=>g.inj g1 bU y (q _ _ G).2 (q _ _ k).2,λb' y h=>g.fresh b' y (q _ _ h).2,λb' y h=>gX b' (q _ _ h).1,g.gW.cut S.q8 (λb jh=>dK.1 hm b (uR.2 Ω)) r z K⟩
 .have Y:NF H av=true:=dK.1 X.1 av (ft p);rw[uQ]at p
  by_cases e:i=t
  .subst e;rw[a5 rfl]at p
   split at p
   .cases p
    obtain⟨v,s,F⟩:=g.D i _ W;obtain⟨_,y,N,dh⟩:=(show eE S ι st.k w (.ptr b 0) v from F);have Hp: ∀j (d:j<cs.length),∃u,w.cell? ⟨y,j,none⟩=some u/\a1 w (aT S az H w) cs[j] u:=λj d=>by
     obtain⟨wS,u,D,L,_,M⟩:=(g.k b j).box (by rw[V j d];exact aud _ (U j d)) (by rw[V j d];exact at6 _ (U j d));rw[N]at D;cases D;rw[V j d]at M;refine⟨u,L,a1.mono K (λ_ _ _=>rfl) ?_⟩;have aff:=U j d;generalize cs[j]=c at aff M
     cases c<;>first|(cases aff;done)|exact M
    have GO:=g.fresh b y N;refine⟨v,s,?_⟩;rw[dh];refine(show a1 w (aT S az H w) (.ref cs) _ from .ref cs y 0 (λj=>cs.getD j .undef) (λj=>(w.cell? ⟨y,0+j,none⟩).getD undef) ⟨g.own N,GO.2,λb' _ he=> ?_⟩ (λj d=> ?_) (λj d=> ?_) λj d=> ?_)
    .obtain⟨G,k⟩:=q b' y he;exact jG b' G (g.inj b' b y k N)
    .simp [List.getD,d]
    .obtain⟨u,Hq,_⟩:=Hp j d;simp [Hq]
    .obtain⟨u,Hq,V_⟩:=Hp j d;simpa[List.getD,d,Hq]using V_
   .cases p
  .rw[aS e]at p;obtain⟨v,s,F⟩:=g.D t av p;exact⟨v,s,ahl r z K Y F⟩
 .show e9 az H w (aT S az H w) b' o (I H b' o)
  cases A:alive H b' with
  |false=>rw[avh b' o A];trivial
  |true=>
   have k:=g.k b' o;have Y: ∀av,I H b' o=av->av≠ .undef->CI H av=true:=λav e afD=>by
    unfold I at e
    cases P:H[b']? with
    |none=>simp [List.getD,P]at e;exact absurd e.symm afD
    |some l=>
     simp only[List.getD,P,lY]at e
     cases R:l[o]? with
     |none=>rw[R]at e;exact absurd e.symm afD
     |some cx=>
      rw[R]at e;simp only[lY]at e;subst e;exact dK.1 (dK.1 X.2 l (ft P)) cx (ft R)
   have fq:cr (I H b' 0)=cr (I st.k b' 0):=by rw[z b' A 0]
   have k:e9 ι st.k w (aT S ι st.k w) b' o (I H b' o):=by rw[z b' A o];exact k
   cases e:I H b' o<;>rw[e]at k
   case undef=>trivial
   case ad ro eI n f=>
    obtain⟨s,cg|⟨F,fG⟩⟩:=k
    .exact⟨s,.inl ⟨cg.1,cg.2.1,by rw[r b' A];exact cg.2.2⟩⟩
    refine⟨s,.inr ⟨F,?_⟩⟩;rw[r b' A];exact fG.imp id λ⟨x,C,T,D,L,Z⟩=>⟨x,C,T,D,L,λi j W d=>by
     obtain⟨av,v,r5,r6,zh⟩:=Z i j W d;exact⟨av,v,r5,r6,zh.mono K λ_ _ _=>rfl⟩⟩
   all_goals
    obtain⟨Hj,x,v,D,L,Z,M⟩:=k;exact⟨by rw[fq];exact Hj,x,v,by rw[r b' A];exact D,L,Z,ND r z K (Y _ e (by simp)) M⟩
def WP.aqh{E:Env}{G:Code}{Q:Exit->O->Prop}{st:O}{id:Nat}{n o p hp:Oper}{z j b c e d3:Nat}{x y:u}{k:IntKind}{r:Int}
  (T:n.guard=none) (dO:n.op= .move (.tmp z)) (hq:n.dst=some b) (U:o.guard=none) (dD:o.op= .move (.tmp j)) (q1:o.dst=some c) (V:p.guard=none) (fQ:p.dst=some e) (W:hp.guard=none) (N9:hp.op= .assign (.tmp e)) (zA:hp.dst=some d3)
  (j0:st.D[z]? =some (.str x)) (tU:st.D[j]? =some (.str y)) (D:b≠j/\b≠c) (B:b<st.D.length/\c<st.D.length/\e<st.D.length)
  (dG: ∀(ρ:Operand->Value) (w:World),(∀f,ρ (.func f)= .func (.func f) #[] #[])->ρ (.tmp b)= .string x->ρ (.tmp c)= .string y->(execOp ρ p).run E.P w= .ok (.value (.int k r)) w)
  (h:WP E G Q ⟨(((st.D.set b (.str x)).set c (.str y)).set e (.int k r)).set d3 (.int k r),st.k⟩):WP E (.seq (.region id #[n,o,p,hp] false) G) Q st:=by
 refine WP.seq λS tO ι a w F=>wp_region_list ?_;have size: ∀{i:List J} {H:Heap} {a:Act} {d:Nat},aY S ι ⟨i,H⟩ a w->d<i.length->d<a.tmps.size:=λ{i H a d} h X=>by
  obtain⟨fu,Z,_⟩:=h.D d _ (cM X);rcases fE d a.tmps.size with h|h
  .exact h
  .simp [O2 h]at Z
 have l: ∀{i:List J} {H:Heap} {a:Act} {t:Nat} {av:J},aY S ι ⟨i,H⟩ a w->i[t]? =some av->bz S ι H w av (a.eval (.tmp t)):=λ{i H a t av} h Y=>by
  have:=h.eval (.tmp t);simpa[aE,List.getD,Y]using this
 have M:=l F j0;have q:=F.put b M;rw[<-hq]at q;refine Dx T λK g=>dx (v:=a.eval (.tmp z)) (w':=w) (by simp [execOp,dO]) (g _ _ ?_);generalize UY:a.put n.dst (a.eval (.tmp z))=A at q |-;have N:=l (t:=j) (av:= .str y) q (by rw[DA D.1];exact tU);have m:=q.put c N;rw[<-q1]at m;refine Dx U λK g=>dx (v:=A.eval (.tmp j)) (w':=w) (by simp [execOp,dD]) (g _ _ ?_);generalize aF8:A.put o.dst (A.eval (.tmp j))=I at m |-;have P:=bz.str (l (t:=b) (av:= .str x) m (by rw[DA (Ne.symm D.2),uQ,a5 rfl,a5 (by simpa using B.1)]));have R:=bz.str (l (t:=c) (av:= .str y) m (by rw[uQ,a5 rfl,a5 (by simpa using B.2.1)]));have s:=m.put e (av:= .int k r) (v:= .int k r) (a1.int k r);rw[<-fQ]at s;refine Dx V λK g=>dx (v:= .int k r) (w':=w) (dG _ _ (λ_=>rfl) P R) (g _ _ ?_);generalize aF9:I.put p.dst (Value.int k r)=L at s |-;have bk:=l (t:=e) (av:= .int k r) s (by rw[uQ,a5 rfl,a5 (by simpa using B.2.2)]);have C:=s.put d3 bk;rw[<-zA]at C;refine Dx W λK g=>dx (v:=L.eval (.tmp e)) (w':=w) (by simp [execOp,N9]) (g _ _ ?_);exact⟨ι,_,C,h⟩
def WP.Hi{E:Env}{x y:Code}{Q:Exit->O->Prop}{st:O}(a:O)(h:WP E x (ic (λs=>sx s a) Q) st)(k:WP E y Q a)(b:hV E.m a=true:=by rfl):WP E (.seq x y) Q st:=WP.join a h k b
def D0(f g:Nat->List J)(i:Nat):h2 0 f g i=g i:=by
 have:Nat.blt i 0=false:=by cases i<;>rfl
 simp only[h2,this,aX,Nat.sub_zero]
def vb(x y:J):J:=
 match y with
 | .undef=> .undef
 | .bool _=>match x with
   | .lit b=> .bool b
   |x=>x
 | .arr a _ g=>match x with
   | .aG=> .arr a 0 g
   |x=>x
 |_=>x
def Ay:List J->List J->List J
 |x::a,y::b=>vb x y::Ay a b
 |[],_=>[]
 |x::a,[]=>x::a
def RD(x y:J):J:=
 match y with
 | .agg a=>match x with
   | .agg cs=> .agg (Ay cs a)
   |x=>x
 |y=>vb x y
def iy:List J->List J->List J
 |x::a,y::b=>RD x y::iy a b
 |[],_=>[]
 |x::a,[]=>x::a
def sP:List J->List J->List J
 |x::a,y::c=>(match y with
  | .arr b _ g=>match x with
    | .aG=> .arr b 0 g
    |x=>x
  |_=>x)::sP a c
 |[],_=>[]
 |x::a,[]=>x::a
def Jw: ∀{c b:List J},sP c b=b->kA c b
 |[],[],_=>trivial
 |[],_::_,h=>by simp [sP]at h
 |_::_,[],h=>by simp [sP]at h
 |x::c,y::b,h=>by
  simp only[sP,nn]at h;refine⟨?_,Jw h.2⟩;have a:=h.1
  cases y<;>simp only at a<;>first|exact .inl a|skip
  rename_i d n g
  cases x<;>simp only at a<;>first|exact .inl a|skip
  exact .inr ⟨rfl,d,g,a.symm⟩
def Ek(x y:J):J:=
 match y with
 | .ad _ _ _ g=>match x with
   | .ad a b n f=> .ad a b n λi=>sP (f i) (g i)
   |x=>x
 | .undef=>match cr x with
   |true=>x
   |false=> .undef
 | .gone=>match x with
   | .undef=> .undef
   | .ad a b n f=> .ad a b n f
   |_=> .gone
 |y=>vb x y
def Ax:List J->List J->List J
 |x::a,y::b=>Ek x y::Ax a b
 |[],_=>[]
 |x::a,[]=>match(x::a).all λz=> !(cr z)with
  |true=>[]
  |false=>x::a
def vc:Heap->Heap->Heap
 |[],a=>match a.all λy=>y.isEmpty with
  |true=>a
  |false=>[]
 |_::_,[]=>[]
 |x::b,y::a=>match y with
  |[]=>[]::vc b a
  |z::c=>Ax x (z::c)::vc b a
def Jx(s m:O):Option O:=
 match wy m with
 |true=>some ⟨iy s.D m.D,vc s.k m.k⟩
 |false=>none
def Jv{x y:J}(h:vb x y=y):iz x y:=by
 cases y<;>simp only[vb]at h<;>first|trivial|skip
 case bool c=>cases x<;>simp only[J.bool.injEq,reduceCtorEq]at h<;>exact h
 case arr a n g=>cases x<;>simp only[J.arr.injEq,reduceCtorEq]at h<;>first|(obtain⟨_,rfl,_⟩:=h;rfl)|(obtain⟨rfl,rfl,rfl⟩:=h;exact aF.2 ⟨by simp,rfl,λ_ _=>rfl⟩)
 all_goals (subst h;simp [iz,aF])
def abc: ∀{b a:List J},Ay b a=a->JP b a
 |[],[],_=>trivial
 |[],_::_,h=>by simp [Ay]at h
 |_::_,[],h=>by simp [Ay]at h
 |x::b,y::a,h=>by
  simp only[Ay,nn]at h;exact⟨Jv h.1,abc h.2⟩
def apA{x y:J}(h:RD x y=y):xw x y:=by
 cases y<;>simp only[RD]at h<;>simp only[xw]<;>first|exact Jv h|skip
 rename_i a
 cases x<;>simp only[J.agg.injEq,reduceCtorEq]at h |- <;>first|exact abc h|exact h.elim
def abd: ∀{b a:List J},iy b a=a->pN b a
 |[],[],_=>trivial
 |[],_::_,h=>by simp [iy]at h
 |_::_,[],h=>by simp [iy]at h
 |x::b,y::a,h=>by
  simp only[iy,nn]at h;have c:=abd h.2;have d:=apA h.1
  cases y<;>first|exact c|exact⟨d,c⟩
def apB{x y:J}(h:Ek x y=y):h4 x y:=by
 cases y
 case undef=>
  simp only[Ek]at h;simp only[h4]
  cases e:cr x with
  |false=>rfl
  |true=>rw[e]at h;simp only at h;subst h;cases e
 case ad j g n f=>
  cases x<;>simp only[Ek,J.ad.injEq,reduceCtorEq]at h<;>first|exact h.elim|skip
  obtain⟨rfl,rfl,rfl,h⟩:=h;simp only[h4,aF,wU,Bool.and_self,true_and];exact λi _=>Jw (congrFun h i)
 case bool c=>
  have d:vb x (.bool c)= .bool c:=h;have a:=Jv d
  cases x<;>simp only[iz]at a<;>first|exact a.elim|(simp only[h4,iz,cr,aF];exact⟨rfl,a⟩)
 case arr g n f=>
  have d:vb x (.arr g n f)= .arr g n f:=h;have a:=Jv d
  cases x<;>first|exact(show False from a).elim|exact(aF (b:=true)).2 ⟨rfl,a⟩
 case gone=>cases x<;>first|trivial|(cases h;done)
 all_goals
  simp only[Ek,vb]at h;subst h;simp [h4,iz,cr,aF]
def abb: ∀{a b:List J},Ax a b=b->sT a b
 |[],[],_=>by simp [sT,aF]
 |[],_::_,h=>by simp [Ax]at h
 |x::a,[],h=>by
  simp only[Ax]at h;simp only[sT,aF,and_true]
  cases e:(x::a).all λz=> !(cr z)with
  |true=>rfl
  |false=>rw[e]at h;cases h
 |x::a,y::b,h=>by
  simp only[Ax,nn]at h;exact⟨apB h.1,abb h.2⟩
def RE: ∀{xs a:Heap},vc xs a=a->AN xs a
 |[],a,h=>by
  simp only[vc]at h;simp only[AN,aF,and_true]
  cases e:a.all λy=>y.isEmpty with
  |true=>rfl
  |false=>
   rw[e]at h;simp only at h;subst h;cases e
 |_::_,[],_=>trivial
 |x::xs,[]::a,h=>by
  simp only[vc,nn]at h;exact RE (xs:=xs) h.2
 |x::xs,(z::b)::a,h=>by
  simp only[vc,nn]at h;exact⟨abb h.1,RE h.2⟩
def CD{s m:O}(h:Jx s m=some m):sx s m:=by
 unfold Jx at h
 cases e:wy m with
 |false=>rw[e]at h;cases h
 |true=>
  rw[e]at h;simp only[g9]at h;have a:iy s.D m.D=m.D:=congrArg O.D h;have b:vc s.k m.k=m.k:=congrArg O.k h;exact⟨abd a,RE b,e⟩
def us(n:Nat)(l:List J):List J:=Nat.rec (motive:=λ_=>List J) l (λ_ r=> .undef::r) n
def Canon{α:Type}[Inhabited α](s:G α):Prop:= ∀i,s.n<=i->s.at' i=default
section
variable {α β:Type} [Inhabited α] [Inhabited β]
def aaB{a b:Nat}(h:a<b):Nat.blt a b=true:=by rw[iY];exact h
def aaz{a b:Nat}(h:b<=a):Nat.blt a b=false:=by
 cases e:Nat.blt a b with
 |false=>rfl
 |true=>exact absurd (g8 e) Ω
def scan(a:Int->Bool)(c:Int->β):Nat->Int->Bool×β
 |0,_=>(false,default)
 |m+1,i=>bif a i then(true,c i)else scan a c m (i+1)
def Yx(F:Nat->Int->Bool×β)(n:Nat)(a:Int->Bool)(c:Int->β)(g:n<=549755813888)(b: ∀k i,F (k+1) i=bif decide (i<(n:Int))then(cond (a i) (true,c i) (F k (i64 (i+1))))else(false,default)):
  ∀(m k:Nat) (i:Int),0<=i->i+(m:Int)=n->m<=k->F (k+1) i=scan a c m i
 |0,k,i,d,e,f=>by
  rw[b,show decide (i<(n:Int))=false by simp;omega];rfl
 |m+1,k,i,d,e,f=>by
  obtain⟨k,rfl⟩: ∃h,k=h+1:=⟨k-1,Ω⟩;rw[b,show decide (i<(n:Int))=true by simp;omega];simp only[aR];rw[E _,Yx F n a c g b m k (i+1) Ω Ω Ω];rfl
def oz(F:Nat->Int->Bool×β)(n:Nat)(a:Int->Bool)(c:Int->β)(d:n<=549755813888)(b: ∀k i,F (k+1) i=bif decide (i<(n:Int))then(cond (a i) (true,c i) (F k (i64 (i+1))))else(false,default)):
  F (toNat ((n:Int)-0)+1) 0=scan a c n 0:=Yx F n a c d b n _ 0 (aZ _) Ω Ω
def Dd{a b:Int->Bool}{c d:Int->β} : ∀(m:Nat) (i:Int),(∀j,i<=j->j<i+m->a j=b j)->(∀j,i<=j->j<i+m->c j=d j)->scan a c m i=scan b d m i
 |0,_,_,_=>rfl
 |m+1,i,h,e=>by
  simp only[scan];rw[h i (aZ _) Ω,e i (aZ _) Ω,Dd m (i+1) (λj f g=>h j Ω Ω) (λj f g=>e j Ω Ω)]
def ajk{a:Int->Bool}{c:Int->β} : ∀(m:Nat) (i:Int),(∀j,i<=j->j<i+m->a j=false)->scan a c m i=(false,default)
 |0,_,_=>rfl
 |m+1,i,h=>by
  simp only[scan];rw[h i (aZ _) Ω];exact ajk m (i+1) λj b d=>h j Ω Ω
def OC{a:Int->Bool}{c:Int->β} : ∀(m:Nat) (i:Int),(scan a c m i).1=true-> ∃j,i<=j/\j<i+m/\a j=true/\(scan a c m i).2=c j
 |0,_,h=>by cases h
 |m+1,i,h=>by
  simp only[scan]at h |-
  cases b:a i with
  |true=>exact⟨i,aZ _,Ω,b,rfl⟩
  |false=>
   rw[b]at h;obtain⟨j,f,g,d,e⟩:=OC m (i+1) h;exact⟨j,Ω,Ω,d,e⟩
end
def zT{x:Int}(h:(Lit.int .i64 x).wf=true): -9223372036854775808<=x/\x<=9223372036854775807:=by
 simp only[Lit.wf,b4,j7]at h;exact h
def jj(a:Int->Bool):Nat->Int->Bool
 |0,_=>false
 |m+1,i=>a i||jj a m (i+1)
section
variable {β:Type} [Inhabited β]
def Iq(a:Int->Bool)(c:Int->β): ∀m i,(scan a c m i).1=jj a m i
 |0,_=>rfl
 |m+1,i=>by
  simp only[scan,jj]
  cases a i
  .simpa using Iq a c m (i+1)
  .rfl
def Dc(F:Nat->Int->Bool×β)(n:Nat)(a:Int->Bool)(c:Int->β)(d:n<=549755813888)(b: ∀k i,F (k+1) i=bif decide (i<(n:Int))then(cond (a i) (true,c i) (F k (i64 (i+1))))else(false,default)):
  F (toNat ((n:Int)-1)+1) 1=scan a c (n-1) 1:=by
 rcases wX n with h|h
 .subst h;rw[b];rfl
 .exact Yx F n a c d b (n-1) _ 1 Ω Ω Ω
def aDq(a:Int->Bool)(c:β)(m:Nat)(i:Int):scan a (λ_=>c) m i=(jj a m i,bif jj a m i then c else default):=by
 have b:=Iq a (λ_=>c) m i
 cases h:jj a m i with
 |false=>
  rw[h]at b;have d: ∀m i,jj a m i=false->scan a (λ_=>c) m i=(false,default):=by
   intro m
   induction m with
   |zero=>intro i _;rfl
   |succ m f=>
    intro i hh;simp only[jj,DB]at hh;simp only[scan,hh.1,aX];exact f (i+1) hh.2
  exact d m i h
 |true=>
  rw[h]at b;obtain⟨j,_,_,_,e⟩:=OC m i b;exact Prod.ext b e
end
def Hc(a:Int->Bool)(m:Nat)(r:Bool×Int)(h:r=scan a (λi=>i) m 0):decide ((cond (cond r.1 false true) (-1) r.2)>=0)=jj a m 0:=by
 subst h;have d:=Iq a (λi=>i) m 0;rw[<-d];rcases Bool.eq_false_or_eq_true (scan a (λi=>i) m 0).1 with h|h
 .obtain⟨j,b,f,_,c⟩:=OC m 0 h;have e:0<=(scan a (λi=>i) m 0).2:=by rw[c];exact b
  simp [h,e]
 .simp [h]
end Go.af
namespace Go.Proofs.YtadmdaokcgjdiaaGreatDoor
open Go Go.af
def hW:List (Nat×bS):=[
 (3,{size:=1,d:= .int .i64,zero:=[b 0]}),
 (4,{size:=1,d:= .bool,zero:=[.bool false]}),
 (5,{size:=1,d:= .int .u8,zero:=[.int .u8 0]}),
 (9,{size:=1,d:= .string,zero:=[.str ⟨#[]⟩]}),
 (22,{size:=1,d:= .slice 63 8 72,zero:=[.aG]}),
 (24,{size:=1,d:= .slice 39 10 104,zero:=[.aG]}),
 (26,{size:=1,d:= .slice 51 11 136,zero:=[.aG]}),
 (27,{size:=1,d:= .slice 57 12 144,zero:=[.aG]}),
 (28,{size:=1,d:= .slice 93 2 16,zero:=[.aG]}),
 (30,{size:=4,d:= .struct [(0,1),(1,1),(2,1),(3,1)],zero:=[.aG,.aG,.aG,b 0]}),
 (35,{size:=5,d:= .struct [(0,1),(1,1),(2,1),(3,1),(4,1)],zero:=[b 0,.str ⟨#[]⟩,.str ⟨#[]⟩,.str ⟨#[]⟩,b 0],cmp:=true}),
 (37,{size:=7,d:= .struct [(0,1),(1,1),(2,5)],zero:=[b 0,b 0,b 0,.str ⟨#[]⟩,.str ⟨#[]⟩,.str ⟨#[]⟩,b 0],cmp:=true}),
 (39,{size:=10,d:= .struct [(0,1),(1,1),(2,1),(3,7)],zero:=[b 0,b 0,b 0,b 0,b 0,b 0,.str ⟨#[]⟩,.str ⟨#[]⟩,.str ⟨#[]⟩,b 0],cmp:=true}),
 (41,{size:=1,d:= .slice 97 10 104,zero:=[.aG]}),
 (43,{size:=3,d:= .struct [(0,1),(1,1),(2,1)],zero:=[b 0,b 0,.aG]}),
 (44,{size:=1,d:= .slice 117 8 128,zero:=[.aG]}),
 (46,{size:=2,d:= .struct [(0,1),(1,1)],zero:=[b 0,.aG]}),
 (47,{size:=1,d:= .slice 125 7 80,zero:=[.aG]}),
 (49,{size:=4,d:= .struct [(0,2),(2,1),(3,1)],zero:=[b 0,.aG,b 0,.aG]}),
 (51,{size:=11,d:= .struct [(0,1),(1,1),(2,1),(3,1),(4,3),(7,4)],zero:=[.bool false,b 0,.bool false,b 0,b 0,b 0,.aG,b 0,.aG,b 0,.aG]}),
 (52,{size:=1,d:= .int .i64,zero:=[b 0]}),
 (53,{size:=1,d:= .slice 9 1 16,zero:=[.aG]}),
 (55,{size:=4,d:= .struct [(0,1),(1,1),(2,1),(3,1)],zero:=[b 0,.str ⟨#[]⟩,b 0,.aG]}),
 (57,{size:=12,d:= .struct [(0,1),(1,7),(8,4)],zero:=[b 0,b 0,b 0,b 0,.str ⟨#[]⟩,.str ⟨#[]⟩,.str ⟨#[]⟩,b 0,b 0,.str ⟨#[]⟩,b 0,.aG]}),
 (61,{size:=5,d:= .struct [(0,1),(1,1),(2,1),(3,1),(4,1)],zero:=[b 0,b 0,b 0,b 0,.str ⟨#[]⟩]}),
 (63,{size:=8,d:= .struct [(0,1),(1,1),(2,1),(3,5)],zero:=[b 0,b 0,b 0,b 0,b 0,b 0,b 0,.str ⟨#[]⟩]}),
 (70,{size:=1,d:= .pointer 84,zero:=[.jJ]}),
 (72,{size:=6,d:= .struct [(0,1),(1,1),(2,4)],zero:=[b 0,b 0,b 0,.aG,b 0,.aG]}),
 (73,{size:=3,d:= .array 3 4 1,zero:=[.bool false,.bool false,.bool false]}),
 (74,{size:=3,d:= .array 3 3 1,zero:=[b 0,b 0,b 0]}),
 (75,{size:=1,d:= .slice 138 9 96,zero:=[.aG]}),
 (76,{size:=1,d:= .slice 5 1 1,zero:=[.aG]}),
 (78,{size:=2,d:= .struct [(0,1),(1,1)],zero:=[.aG,b 0]}),
 (79,{size:=1,d:= .slice 107 15 168,zero:=[.aG]}),
 (81,{size:=33,d:= .struct [(0,1),(1,1),(2,1),(3,1),(4,1),(5,1),(6,3),(9,6),(15,4),(19,1),(20,3),(23,3),(26,3),(29,1),(30,2),(32,1)],zero:=[b 0,.bool false,b 0,b 0,b 0,b 0,b 0,b 0,.aG,b 0,b 0,b 0,.aG,b 0,.aG,b 0,.aG,b 0,.aG,b 0,.bool false,.bool false,.bool false,b 0,b 0,b 0,b 0,b 0,b 0,.aG,.aG,b 0,.aG]}),
 (82,{size:=99,d:= .array 3 81 33,zero:=[b 0,.bool false,b 0,b 0,b 0,b 0,b 0,b 0,.aG,b 0,b 0,b 0,.aG,b 0,.aG,b 0,.aG,b 0,.aG,b 0,.bool false,.bool false,.bool false,b 0,b 0,b 0,b 0,b 0,b 0,.aG,.aG,b 0,.aG,b 0,.bool false,b 0,b 0,b 0,b 0,b 0,b 0,.aG,b 0,b 0,b 0,.aG,b 0,.aG,b 0,.aG,b 0,.aG,b 0,.bool false,.bool false,.bool false,b 0,b 0,b 0,b 0,b 0,b 0,.aG,.aG,b 0,.aG,b 0,.bool false,b 0,b 0,b 0,b 0,b 0,b 0,.aG,b 0,b 0,b 0,.aG,b 0,.aG,b 0,.aG,b 0,.aG,b 0,.bool false,.bool false,.bool false,b 0,b 0,b 0,b 0,b 0,b 0,.aG,.aG,b 0,.aG]}),
 (84,{size:=102,d:= .struct [(0,99),(99,1),(100,1),(101,1)],zero:=[b 0,.bool false,b 0,b 0,b 0,b 0,b 0,b 0,.aG,b 0,b 0,b 0,.aG,b 0,.aG,b 0,.aG,b 0,.aG,b 0,.bool false,.bool false,.bool false,b 0,b 0,b 0,b 0,b 0,b 0,.aG,.aG,b 0,.aG,b 0,.bool false,b 0,b 0,b 0,b 0,b 0,b 0,.aG,b 0,b 0,b 0,.aG,b 0,.aG,b 0,.aG,b 0,.aG,b 0,.bool false,.bool false,.bool false,b 0,b 0,b 0,b 0,b 0,b 0,.aG,.aG,b 0,.aG,b 0,.bool false,b 0,b 0,b 0,b 0,b 0,b 0,.aG,b 0,b 0,b 0,.aG,b 0,.aG,b 0,.aG,b 0,.aG,b 0,.bool false,.bool false,.bool false,b 0,b 0,b 0,b 0,b 0,b 0,.aG,.aG,b 0,.aG,.aG,.aG,.aG]}),
 (87,{size:=11,d:= .struct [(0,1),(1,1),(2,6),(8,3)],zero:=[b 0,b 0,b 0,b 0,b 0,.aG,b 0,.aG,b 0,b 0,.aG]}),
 (93,{size:=2,d:= .struct [(0,1),(1,1)],zero:=[b 0,b 0]}),
 (94,{size:=1,d:= .other,zero:=[.undef]}),
 (97,{size:=10,d:= .struct [(0,1),(1,1),(2,1),(3,7)],zero:=[b 0,b 0,.bool false,b 0,b 0,b 0,.str ⟨#[]⟩,.str ⟨#[]⟩,.str ⟨#[]⟩,b 0],cmp:=true}),
 (104,{size:=1,d:= .pointer 81,zero:=[.jJ]}),
 (107,{size:=15,d:= .struct [(0,1),(1,1),(2,1),(3,1),(4,1),(5,1),(6,1),(7,1),(8,1),(9,6)],zero:=[b 0,b 0,b 0,b 0,b 0,b 0,.bool false,b 0,.aG,b 0,b 0,b 0,.aG,b 0,.aG]}),
 (112,{size:=1,d:= .slice 120 2 32,zero:=[.aG]}),
 (113,{size:=1,d:= .slice 123 2 24,zero:=[.aG]}),
 (115,{size:=6,d:= .struct [(0,1),(1,1),(2,1),(3,1),(4,1),(5,1)],zero:=[b 0,.str ⟨#[]⟩,b 0,.aG,.aG,.aG]}),
 (117,{size:=8,d:= .struct [(0,1),(1,6),(7,1)],zero:=[.str ⟨#[]⟩,b 0,.str ⟨#[]⟩,b 0,.aG,.aG,.aG,b 0]}),
 (120,{size:=2,d:= .struct [(0,1),(1,1)],zero:=[.str ⟨#[]⟩,.str ⟨#[]⟩],cmp:=true}),
 (123,{size:=2,d:= .struct [(0,1),(1,1)],zero:=[.str ⟨#[]⟩,b 0],cmp:=true}),
 (125,{size:=7,d:= .struct [(0,1),(1,1),(2,1),(3,4)],zero:=[b 0,b 0,b 0,b 0,.str ⟨#[]⟩,b 0,.aG]}),
 (138,{size:=9,d:= .struct [(0,1),(1,1),(2,7)],zero:=[b 0,b 0,b 0,b 0,b 0,.str ⟨#[]⟩,.str ⟨#[]⟩,.str ⟨#[]⟩,b 0]}),
 (155,{size:=20,d:= .struct [(0,1),(1,1),(2,1),(3,1),(4,10),(14,6)],zero:=[b 0,b 0,b 0,b 0,b 0,b 0,.bool false,b 0,b 0,b 0,.str ⟨#[]⟩,.str ⟨#[]⟩,.str ⟨#[]⟩,b 0,b 0,b 0,b 0,.aG,b 0,.aG]}),
 (170,{size:=1,d:= .slice 155 20 216,zero:=[.aG]}),
 (176,{size:=1,d:= .int .u64,zero:=[.int .u64 0]}),
 (204,{size:=1,d:= .pointer 49,zero:=[.jJ]}),
 (215,{size:=1,d:= .struct [(0,1)],zero:=[.aG]}),
 (219,{size:=1,d:= .pointer 221,zero:=[.jJ]}),
 (221,{size:=2,d:= .struct [(0,1),(1,1)],zero:=[.aG,.bool false]}),
 (228,{size:=1,d:= .slice 76 1 24,zero:=[.aG]}),
 (232,{size:=1,d:= .pointer 235,zero:=[.jJ]}),
 (235,{size:=4,d:= .struct [(0,2),(2,1),(3,1)],zero:=[b 0,.aG,b 0,.bool false]}),
 (242,{size:=1,d:= .int .u64,zero:=[.int .u64 0]}),
 (285,{size:=1,d:= .slice 3 1 8,zero:=[.aG]})
]
def YQ:(hW.all λx=>Dj Tryz.prog x.1 x.2)=true:=by kernel_rfl
def Rt:(hW.all λx=>Jq Tryz.prog x)=true:=by kernel_rfl
def mixed:Tryz.prog.follows .mixedOrders=true:=by kernel_rfl
def ahs(m:Nat)(l:List (Nat×uU))(a:List (Nat×z_)):Env:=⟨Tryz.prog,zP hW,Iu l,m,G3 a,λ_=>false⟩
def az_{m:Nat}{l:List (Nat×uU)}{a:List (Nat×z_)}(h:I7 Tryz.prog l)(b:P2 Tryz.prog a):(ahs m l a).dE:=abG mixed YQ Rt (YI h) (VA b)
def zm(l:List (Nat×uU)):Env:=ahs 0 l []
def ho{l:List (Nat×uU)}(h:I7 Tryz.prog l):(zm l).dE:=az_ h trivial
abbrev U:J:= .undef
section
def cB:J->Int
 | .int _ n=>n
 |_=>0
def Iy:J->Bool
 | .bool b=>b
 |_=>false
def ie:J->u
 | .str s=>s
 |_=>⟨#[]⟩
variable(l:List J)(x:Int)
def bk:List J:=[b x]
def d3:Int:=cB (l.getD 0 .undef)
def apW(x:Int):d3 (bk x)=x:=rfl
structure bt where
 q:u
 F:u
instance:Inhabited bt:=⟨⟨default,default⟩⟩
def fU(x:bt):List J:=[.str x.q,.str x.F]
def d160:bt:=⟨ie (l.getD 0 .undef),ie (l.getD 1 .undef)⟩
def apT(x:bt):d160 (fU x)=x:=rfl
def cU(x:u):List J:=[.str x]
def d9:u:=ie (l.getD 0 .undef)
def ap7(x:u):d9 (cU x)=x:=rfl
structure bG where
 q:u
 F:Int
instance:Inhabited bG:=⟨⟨default,default⟩⟩
def fV(x:bG):List J:=[.str x.q,b x.F]
def d164:bG:=⟨ie (l.getD 0 .undef),cB (l.getD 1 .undef)⟩
def apU(x:bG):d164 (fV x)=x:=rfl
structure N where
 q:u
 F:Int
 z:u
 M:Int
 w:(G bt)
 C:(G u)
 P:(G bG)
 aw:Int
instance:Inhabited N:=⟨⟨default,default,default,default,default,default,default,default⟩⟩
def gU(x:N):List J:=[.str x.q,b x.F,.str x.z,b x.M,aP 2 fU x.w,aP 1 cU x.C,aP 2 fV x.P,b x.aw]
def d175:N:=⟨ie (l.getD 0 .undef),cB (l.getD 1 .undef),ie (l.getD 2 .undef),cB (l.getD 3 .undef),iF d160 (l.getD 4 .undef),iF d9 (l.getD 5 .undef),iF d164 (l.getD 6 .undef),cB (l.getD 7 .undef)⟩
def apV(x:N):d175 (gU x)=x:=rfl
structure ar where
 q:Int
 F:Int
 z:Int
 M:Int
 w:u
 C:Int
 P:(G u)
instance:Inhabited ar:=⟨⟨default,default,default,default,default,default,default⟩⟩
def hi(x:ar):List J:=[b x.q,b x.F,b x.z,b x.M,.str x.w,b x.C,aP 1 cU x.P]
def d137:ar:=⟨cB (l.getD 0 .undef),cB (l.getD 1 .undef),cB (l.getD 2 .undef),cB (l.getD 3 .undef),ie (l.getD 4 .undef),cB (l.getD 5 .undef),iF d9 (l.getD 6 .undef)⟩
def apS(x:ar):d137 (hi x)=x:=rfl
structure R where
 q:Int
 F:Int
 z:Bool
 M:Int
 w:Int
 C:Int
 P:u
 aw:u
 f:u
 aD:Int
instance:Inhabited R:=⟨⟨default,default,default,default,default,default,default,default,default,default⟩⟩
def eo(x:R):List J:=[b x.q,b x.F,.bool x.z,b x.M,b x.w,b x.C,.str x.P,.str x.aw,.str x.f,b x.aD]
def d68:R:=⟨cB (l.getD 0 .undef),cB (l.getD 1 .undef),Iy (l.getD 2 .undef),cB (l.getD 3 .undef),cB (l.getD 4 .undef),cB (l.getD 5 .undef),ie (l.getD 6 .undef),ie (l.getD 7 .undef),ie (l.getD 8 .undef),cB (l.getD 9 .undef)⟩
def ap5(x:R):d68 (eo x)=x:=rfl
def cZ:List J:=[.int .u8 x]
def d5:Int:=cB (l.getD 0 .undef)
def ap4(x:Int):d5 (cZ x)=x:=rfl
def abx(x:(G Int)):List J:=[aP 1 cZ x]
def d43:(G Int):=iF d5 (l.getD 0 .undef)
def ap3(x:(G Int)):d43 (abx x)=x:=rfl
structure bm where
 q:Int
 F:Int
 z:Int
 M:Int
 w:Int
 C:Int
 P:Bool
 aw:Int
 f:Int
 aD:Int
 bX:u
 b_:u
 b2:u
 cm:Int
 bb:Int
 cO:Int
 eK:Int
 ek:(G N)
 eL:Int
 en:(G ar)
instance:Inhabited bm:=⟨⟨default,default,default,default,default,default,default,default,default,default,default,default,default,default,default,default,default,default,default,default⟩⟩
def RK(x:bm):List J:=[b x.q,b x.F,b x.z,b x.M,b x.w,b x.C,.bool x.P,b x.aw,b x.f,b x.aD,.str x.bX,.str x.b_,.str x.b2,b x.cm,b x.bb,b x.cO,b x.eK,aP 8 gU x.ek,b x.eL,aP 7 hi x.en]
def d122:bm:=⟨cB (l.getD 0 .undef),cB (l.getD 1 .undef),cB (l.getD 2 .undef),cB (l.getD 3 .undef),cB (l.getD 4 .undef),cB (l.getD 5 .undef),Iy (l.getD 6 .undef),cB (l.getD 7 .undef),cB (l.getD 8 .undef),cB (l.getD 9 .undef),ie (l.getD 10 .undef),ie (l.getD 11 .undef),ie (l.getD 12 .undef),cB (l.getD 13 .undef),cB (l.getD 14 .undef),cB (l.getD 15 .undef),cB (l.getD 16 .undef),iF d175 (l.getD 17 .undef),cB (l.getD 18 .undef),iF d137 (l.getD 19 .undef)⟩
def apR(x:bm):d122 (RK x)=x:=rfl
structure a7 where
 q:Int
 F:Int
 z:Int
 M:Int
 w:Int
 C:Int
 P:u
 aw:u
 f:u
 aD:Int
instance:Inhabited a7:=⟨⟨default,default,default,default,default,default,default,default,default,default⟩⟩
def aby(x:a7):List J:=[b x.q,b x.F,b x.z,b x.M,b x.w,b x.C,.str x.P,.str x.aw,.str x.f,b x.aD]
def d75:a7:=⟨cB (l.getD 0 .undef),cB (l.getD 1 .undef),cB (l.getD 2 .undef),cB (l.getD 3 .undef),cB (l.getD 4 .undef),cB (l.getD 5 .undef),ie (l.getD 6 .undef),ie (l.getD 7 .undef),ie (l.getD 8 .undef),cB (l.getD 9 .undef)⟩
def ap6(x:a7):d75 (aby x)=x:=rfl
structure hL where
 q:Bool
 F:Int
 z:Bool
 M:Int
 w:Int
 C:Int
 P:(G R)
 aw:Int
 f:(G N)
 aD:Int
 bX:(G ar)
instance:Inhabited hL:=⟨⟨default,default,default,default,default,default,default,default,default,default,default⟩⟩
def JE(x:hL):List J:=[.bool x.q,b x.F,.bool x.z,b x.M,b x.w,b x.C,aP 10 eo x.P,b x.aw,aP 8 gU x.f,b x.aD,aP 7 hi x.bX]
def abm:hL:=⟨Iy (l.getD 0 .undef),cB (l.getD 1 .undef),Iy (l.getD 2 .undef),cB (l.getD 3 .undef),cB (l.getD 4 .undef),cB (l.getD 5 .undef),iF d68 (l.getD 6 .undef),cB (l.getD 7 .undef),iF d175 (l.getD 8 .undef),cB (l.getD 9 .undef),iF d137 (l.getD 10 .undef)⟩
def apZ(x:hL):abm (JE x)=x:=rfl
structure bF where
 q:Int
 F:Int
 z:Int
 M:Int
 w:u
 C:u
 P:u
 aw:Int
 f:Int
 aD:u
 bX:Int
 b_:(G u)
instance:Inhabited bF:=⟨⟨default,default,default,default,default,default,default,default,default,default,default,default⟩⟩
def JC(x:bF):List J:=[b x.q,b x.F,b x.z,b x.M,.str x.w,.str x.C,.str x.P,b x.aw,b x.f,.str x.aD,b x.bX,aP 1 cU x.b_]
def abk:bF:=⟨cB (l.getD 0 .undef),cB (l.getD 1 .undef),cB (l.getD 2 .undef),cB (l.getD 3 .undef),ie (l.getD 4 .undef),ie (l.getD 5 .undef),ie (l.getD 6 .undef),cB (l.getD 7 .undef),cB (l.getD 8 .undef),ie (l.getD 9 .undef),cB (l.getD 10 .undef),iF d9 (l.getD 11 .undef)⟩
def apX(x:bF):abk (JC x)=x:=rfl
structure aU where
 q:Int
 F:Int
instance:Inhabited aU:=⟨⟨default,default⟩⟩
def JD(x:aU):List J:=[b x.q,b x.F]
def abl:aU:=⟨cB (l.getD 0 .undef),cB (l.getD 1 .undef)⟩
def apY(x:aU):abl (JD x)=x:=rfl
structure hc where
 q:Int
 F:Int
 z:Int
 M:Int
 w:Int
 C:u
 P:u
 aw:u
 f:Int
instance:Inhabited hc:=⟨⟨default,default,default,default,default,default,default,default,default⟩⟩
def abw(x:hc):List J:=[b x.q,b x.F,b x.z,b x.M,b x.w,.str x.C,.str x.P,.str x.aw,b x.f]
def abo:hc:=⟨cB (l.getD 0 .undef),cB (l.getD 1 .undef),cB (l.getD 2 .undef),cB (l.getD 3 .undef),cB (l.getD 4 .undef),ie (l.getD 5 .undef),ie (l.getD 6 .undef),ie (l.getD 7 .undef),cB (l.getD 8 .undef)⟩
def ap1(x:hc):abo (abw x)=x:=rfl
structure aj where
 q:Int
 F:Int
 z:Int
 M:Int
 w:Int
 C:Int
 P:Bool
 aw:Int
 f:(G R)
 aD:Int
 bX:Int
 b_:Int
 b2:(G N)
 cm:Int
 bb:(G ar)
instance:Inhabited aj:=⟨⟨default,default,default,default,default,default,default,default,default,default,default,default,default,default,default⟩⟩
def iQ(x:aj):List J:=[b x.q,b x.F,b x.z,b x.M,b x.w,b x.C,.bool x.P,b x.aw,aP 10 eo x.f,b x.aD,b x.bX,b x.b_,aP 8 gU x.b2,b x.cm,aP 7 hi x.bb]
def _root_.Go.jo(a c:Int)(x:aj):List J:=[b a,b c,b x.z,b x.M,b x.w,b x.C,.bool x.P,b x.aw,aP 10 eo x.f,b x.aD,b x.bX,b x.b_,aP 8 gU x.b2,b x.cm,aP 7 hi x.bb]
def abn:aj:=⟨cB (l.getD 0 .undef),cB (l.getD 1 .undef),cB (l.getD 2 .undef),cB (l.getD 3 .undef),cB (l.getD 4 .undef),cB (l.getD 5 .undef),Iy (l.getD 6 .undef),cB (l.getD 7 .undef),iF d68 (l.getD 8 .undef),cB (l.getD 9 .undef),cB (l.getD 10 .undef),cB (l.getD 11 .undef),iF d175 (l.getD 12 .undef),cB (l.getD 13 .undef),iF d137 (l.getD 14 .undef)⟩
def ap0(x:aj):abn (iQ x)=x:=rfl
structure hZ where
 q:Int
 F:Int
 z:Int
 M:Int
 w:Int
 C:Int
 P:Int
 aw:u
instance:Inhabited hZ:=⟨⟨default,default,default,default,default,default,default,default⟩⟩
def AI(x:hZ):List J:=[b x.q,b x.F,b x.z,b x.M,b x.w,b x.C,b x.P,.str x.aw]
def nA:hZ:=⟨cB (l.getD 0 .undef),cB (l.getD 1 .undef),cB (l.getD 2 .undef),cB (l.getD 3 .undef),cB (l.getD 4 .undef),cB (l.getD 5 .undef),cB (l.getD 6 .undef),ie (l.getD 7 .undef)⟩
def ap2(x:hZ):nA (AI x)=x:=rfl
end
end Go.Proofs.YtadmdaokcgjdiaaGreatDoor
namespace Go.af
open Go Go.RowKit
structure cR where
 T:Type
 wm:Inhabited T
 V:Nat
 e:T->List J
 d:List J->T
 oO: ∀x,d (e x)=x
inductive aH:Type 1 where
 |int (k:IntKind)
 |bool
 |str
 |ab (E:cR)
 |ad (E:cR)
@[reducible] def aH.ty:aH->Type
  | .int _=>Int
  | .bool=>Bool
  | .str=>ByteArray
  | .ab E=>G E.T
  | .ad E=>G E.T
def aH.l7:(k:aH)->k.ty
 | .int _=>default
 | .bool=>default
 | .str=>default
 | .ab E=>have:=E.wm;default
 | .ad E=>have:=E.wm;default
def aH.av:(k:aH)->k.ty->J
 | .int k,n=> .int k n
 | .bool,b=> .bool b
 | .str,s=> .str s
 | .ab E,s=>aP E.V E.e s
 | .ad E,s=> .ad false E.V s.n λi=>E.e (s.at' i)
def aiH(k:IntKind)(x:J):Option Int:=
 match x with
 | .int a n=>match decide (a=k)with
   |true=>some n
   |false=>none
 |_=>none
def Yd(x:J):Option Bool:=
 match x with
 | .bool b=>some b
 | .lit b=>some b
 |_=>none
def aCI(x:J):Option ByteArray:=
 match x with
 | .str s=>some s
 |_=>none
def aiJ(E:cR)(x:J):Option (G E.T):=
 match x with
 | .arr a n f=>match Nat.beq a E.V with
   |true=>some ⟨n,λi=>E.d (f i)⟩
   |false=>none
 | .aG=>some (@B E.T E.wm)
 |_=>none
def aiI(E:cR)(x:J):Option (G E.T):=
 match x with
 | .ad a b n f=>match a with
   |true=>none
   |false=>match Nat.beq b E.V with
    |true=>some ⟨n,λi=>E.d (f i)⟩
    |false=>none
 |_=>none
def aH.rd:(k:aH)->J->Option k.ty
 | .int k,x=>aiH k x
 | .bool,x=>af.Yd x
 | .str,x=>aCI x
 | .ab E,x=>aiJ E x
 | .ad E,x=>aiI E x
def aH.canon: ∀(k:aH) (x:k.ty),k.rd (k.av x)=some x
 | .int k,x=>by simp [aH.rd,aH.av,aiH]
 | .bool,x=>rfl
 | .str,x=>rfl
 | .ab E,x=>by simp [aH.rd,aH.av,aiJ,aP,E.oO]
 | .ad E,x=>by simp [aH.rd,aH.av,aiI,E.oO]
@[reducible] def dL:List aH->Type
  |[]=>Unit
  |[k]=>k.ty
  |k::a::r=>k.ty×dL (a::r)
def dL.cons:{k:aH} ->{a:List aH} ->k.ty->dL a->dL (k::a)
 |_,[],x,_=>x
 |_,_::_,x,s=>(x,s)
def dL.l7:(a:List aH)->dL a
 |[]=>()
 |k::a=>dL.cons k.l7 (dL.l7 a)
def dL.hf:(b:List aH)->dL b->List J
 |[],_=>[]
 |[k],x=>[k.av x]
 |k::a::r,s=>k.av s.1::dL.hf (a::r) s.2
def se:(b:List aH)->List J->Option (dL b)
 |[],[]=>some ()
 |[k],[x]=>k.rd x
 |k::a::r,x::c=>match k.rd x with
  |some v=>match se (a::r) c with
   |some s=>some (v,s)
   |none=>none
  |none=>none
 |_,_=>none
def aH.nrm(k:aH)(x:J):Option J:=
 match k.rd x with
 |some v=>some (k.av v)
 |none=>none
def dZ:List aH->List J->Option (List J)
 |[],[]=>some []
 |k::a,x::b=>match k.nrm x with
  |some y=>match dZ a b with
   |some c=>some (y::c)
   |none=>none
  |none=>none
 |_,_=>none
def aH.HM{k:aH}{x y:J}(h:k.nrm x=some y): ∃v,y=k.av v/\k.rd y=some v:=by
 unfold aH.nrm at h
 split at h
 .rename_i v e
  cases h
  exact⟨v,rfl,aH.canon k v⟩
 .cases h
def CS: ∀{bE:List aH} {xs cG:List J},dZ bE xs=some cG-> ∃s,se bE cG=some s/\dL.hf bE s=cG
 |[],[],cG,h=>by cases h;exact⟨(),rfl,rfl⟩
 |[k],[x],cG,h=>by
  simp only[dZ]at h
  split at h<;>try (cases h;done)
  rename_i y e
  cases h
  obtain⟨v,a,b⟩:=aH.HM e;exact⟨v,b,by simp only[dL.hf,a]⟩
 |k::g::r,x::xs,cG,h=>by
  simp only[dZ]at h
  split at h<;>try (cases h;done)
  rename_i y e
  split at h<;>try (cases h;done)
  rename_i i c
  cases h
  obtain⟨v,a,b⟩:=aH.HM e;obtain⟨s,d,f⟩:=CS (bE:=g::r) (xs:=xs) (cG:=i) (by simpa only[dZ]using c);exact⟨(v,s),by simp only[se,b,d],by simp only[dL.hf,a,f]⟩
 |[],_::_,_,h=>by cases h
 |_::_,[],_,h=>by cases h
 |[k],x::y::r,cG,h=>by
  simp only[dZ]at h
  split at h<;>cases h
def Ah:(b:List aH)->(dL b->Prop)->Prop
 |[],p=>p ()
 |[k],p=> ∀x:k.ty,p x
 |k::a::r,p=> ∀x:k.ty,Ah (a::r) λs=>p (x,s)
def DZ: ∀(b:List aH) (p:dL b->Prop),Ah b p↔ ∀s,p s
 |[],p=>⟨λh _=>h,λh=>h ()⟩
 |[k],p=>Iff.rfl
 |k::a::r,p=>by
  simp only[Ah];constructor
  .intro h s;exact(DZ (a::r) _).1 (h s.1) s.2
  .intro h x;exact(DZ (a::r) _).2 λs=>h (x,s)
inductive ha:Type 1 where
 |di
 |e {α:Type} (a b:α)
 |and (l r:ha)
def ha.holds:ha->Prop
 | .di=>True
 | .e a b=>a=b
 | .and l r=>l.holds/\r.holds
inductive aW:Type 1 where
 |di
 |p (q:Prop)
 |e {α:Type} (a b:α)
 |es {σ:Type} (f:σ->ha)
 |and (l r:aW)
 |imp (b c:Bool) (r:aW)
 |v5 (q:Prop) (r:aW)
 |all (bE:List aH) (I:dL bE->Prop) (f:dL bE->aW)
def aW.holds:aW->Prop
 | .di=>True
 | .p q=>q
 | .e a b=>a=b
 | .es f=> ∀k,(f k).holds
 | .and l r=>l.holds/\r.holds
 | .imp b c r=>b=c->r.holds
 | .v5 q r=>q->r.holds
 | .all _ I f=> ∀s,I s->(f s).holds
def aW.lb:aW->Bool
 | .p _=>true
 | .and l r=>match l.lb with
   |true=>true
   |false=>r.lb
 | .imp _ _ r=>r.lb
 | .v5 _ r=>r.lb
 | .all .. =>true
 |_=>false
def aW.prop:aW->Prop
 | .di=>True
 | .p q=>q
 | .e _ _=>True
 | .es _=>True
 | .and l r=>match l.lb with
   |true=>match r.lb with
    |true=>l.prop/\r.prop
    |false=>l.prop
   |false=>r.prop
 | .imp b c r=>match r.lb with
   |true=>b=c->r.prop
   |false=>True
 | .v5 q r=>match r.lb with
   |true=>q->r.prop
   |false=>True
 | .all a I f=>Ah a λs=>I s->(f s).prop
inductive oG:Type 1 where
 |nil
 |c {α:Type} (a:α)
 |and (l r:oG)
 |lam {σ:Type} (f:σ->oG)
def ha.hs:ha->oG
 | .di=> .nil
 | .e a _=> .c a
 | .and l r=> .and l.hs r.hs
def ha.ia:ha->oG
 | .di=> .nil
 | .e _ b=> .c b
 | .and l r=> .and l.ia r.ia
def ha.ok: ∀(o:ha),o.hs=o.ia->o.holds
 | .di,_=>trivial
 | .e a b,h=>by
   simp only[ha.hs,ha.ia,oG.c.injEq,heq_eq_eq,true_and]at h;exact h
 | .and l r,h=>by
   simp only[ha.hs,ha.ia,oG.and.injEq]at h;exact⟨ha.ok l h.1,ha.ok r h.2⟩
def aW.hs:aW->oG
 | .e a _=> .c a
 | .es f=> .lam λk=>(f k).hs
 | .and l r=> .and l.hs r.hs
 | .imp _ _ r=>r.hs
 | .v5 _ r=>r.hs
 | .all _ _ f=> .lam λs=>(f s).hs
 |_=> .nil
def aW.ia:aW->oG
 | .e _ b=> .c b
 | .es f=> .lam λk=>(f k).ia
 | .and l r=> .and l.ia r.ia
 | .imp _ _ r=>r.ia
 | .v5 _ r=>r.ia
 | .all _ _ f=> .lam λs=>(f s).ia
 |_=> .nil
def aW.soft: ∀(o:aW),o.lb=false->o.prop
 | .di,_=>trivial
 | .p _,h=>by cases h
 | .e _ _,_=>trivial
 | .es _,_=>trivial
 | .and l r,h=>by
   simp only[aW.lb]at h
   cases a:l.lb with
   |true=>rw[a]at h;cases h
   |false=>
    rw[a]at h;simp only[aW.prop,a];exact aW.soft r h
 | .imp b c r,h=>by
   simp only[aW.lb]at h;simp only[aW.prop,h]
 | .v5 q r,h=>by
   simp only[aW.lb]at h;simp only[aW.prop,h]
 | .all ..,h=>by cases h
def aW.ok: ∀(o:aW),o.hs=o.ia->o.prop->o.holds
 | .di,_,_=>trivial
 | .p _,_,h=>h
 | .e a b,h,_=>by
   simp only[aW.hs,aW.ia,oG.c.injEq,heq_eq_eq,true_and]at h;exact h
 | .es f,h,_=>by
   simp only[aW.hs,aW.ia,oG.lam.injEq,heq_eq_eq,true_and]at h;exact λk=>ha.ok (f k) (congrFun h k)
 | .and l r,h,d=>by
   simp only[aW.hs,aW.ia,oG.and.injEq]at h;simp only[aW.prop]at d
   cases i:l.lb with
   |true=>
    rw[i]at d
    cases e:r.lb with
    |true=>rw[e]at d;exact⟨aW.ok l h.1 d.1,aW.ok r h.2 d.2⟩
    |false=>rw[e]at d;exact⟨aW.ok l h.1 d,aW.ok r h.2 (aW.soft r e)⟩
   |false=>rw[i]at d;exact⟨aW.ok l h.1 (aW.soft l i),aW.ok r h.2 d⟩
 | .imp b c r,h,d=>by
   simp only[aW.hs,aW.ia]at h;simp only[aW.prop]at d;intro g
   cases e:r.lb with
   |true=>rw[e]at d;exact aW.ok r h (d g)
   |false=>exact aW.ok r h (aW.soft r e)
 | .v5 q r,h,d=>by
   simp only[aW.hs,aW.ia]at h;simp only[aW.prop]at d;intro g
   cases e:r.lb with
   |true=>rw[e]at d;exact aW.ok r h (d g)
   |false=>exact aW.ok r h (aW.soft r e)
 | .all m I f,h,d=>by
   simp only[aW.hs,aW.ia,oG.lam.injEq,heq_eq_eq,true_and]at h;intro s j;exact aW.ok (f s) (congrFun h s) ((DZ m _).1 d s j)
inductive T (α:Type _) where
 |da (a:α)
 |ej (b:Bool) (l r:T α)
def T.bL{α:Type _} :T α->α
 | .da a=>a
 | .ej b l r=>match b with
   |true=>l.bL
   |false=>r.bL
def T.map{α β:Type _}(f:α->β):T α->T β
 | .da a=> .da (f a)
 | .ej b l r=> .ej b (l.map f) (r.map f)
def T.lT{α β:Type _}(f:α->β): ∀t:T α,(t.map f).bL=f t.bL
 | .da _=>rfl
 | .ej b l r=>by cases b<;>simp only[T.map,T.bL,T.lT f]
def T.prune{α β:Type _}(f:α->Option β):T α->Option (T β)
 | .da a=>match f a with
   |some b=>some (.da b)
   |none=>none
 | .ej b l r=>match l.prune f with
   |some c=>match r.prune f with
    |some d=>some (.ej b c d)
    |none=>some c
   |none=>r.prune f
def T.nf{α β:Type _}{f:α->Option β} : ∀{t:T α} {x:β},f t.bL=some x-> ∃t',t.prune f=some t'/\t'.bL=x
 | .da a,x,h=>by
   simp only[T.bL]at h;exact⟨.da x,by simp only[T.prune,h],rfl⟩
 | .ej b l r,x,h=>by
   cases b with
   |true=>
    obtain⟨t',d,c⟩:=T.nf (t:=l) (show f l.bL=some x from h);simp only[T.prune,d]
    cases e:r.prune f with
    |none=>exact⟨t',rfl,c⟩
    |some i=>exact⟨.ej true t' i,rfl,c⟩
   |false=>
    obtain⟨t',d,c⟩:=T.nf (t:=r) (show f r.bL=some x from h);simp only[T.prune,d]
    cases e:l.prune f with
    |none=>exact⟨t',rfl,c⟩
    |some g=>exact⟨.ej false g t',rfl,c⟩
inductive js where
 |f
 |l
 |b (x y:js)
def T.first{α:Type _} :T α->α
 | .da a=>a
 | .ej _ l _=>l.first
def T.kf{α:Type} :T α->js->α
 | .da a,_=>a
 | .ej b l r,m=>match m with
   | .f=>bif b then l.kf .f else r.kf .f
   | .l=>l.first
   | .b x y=>bif b then l.kf x else r.kf y
def T.same{α:Type}(a:α):T α->ha
 | .da x=> .e x a
 | .ej _ l r=> .and (l.same a) (r.same a)
def T.Au{α:Type} :T α->js->ha
 | .da _,_=> .di
 | .ej _ l r,m=>match m with
   | .f=> .di
   | .l=> .and (l.same l.first) (r.same l.first)
   | .b x y=> .and (l.Au x) (r.Au y)
def T.Yt{α:Type}{a:α} : ∀{t:T α},(t.same a).holds->t.bL=a
 | .da _,h=>h
 | .ej b l r,h=>by
   cases b
   .exact T.Yt (t:=r) h.2
   .exact T.Yt (t:=l) h.1
def T.aa3{α:Type} : ∀(t:T α),t.kf .f=t.bL
 | .da _=>rfl
 | .ej b l r=>by cases b<;>simp only[T.kf,T.bL,aR,aX,T.aa3]
def T.Eh{α:Type} : ∀{t:T α} {m:js},(t.Au m).holds->t.kf m=t.bL
 | .da _,_,_=>rfl
 | .ej b l r,.f,_=>T.aa3 _
 | .ej b l r,.l,h=>by
   simp only[T.kf];exact(T.Yt (t:= .ej b l r) h).symm
 | .ej b l r,.b x y,h=>by
   have a:=T.Eh (t:=l) (m:=x) h.1;have c:=T.Eh (t:=r) (m:=y) h.2
   cases b
   .simp only[T.kf,aX,T.bL,c]
   .simp only[T.kf,aR,T.bL,a]
structure cj where
 P:Program
 ty:TypeId->Option bS
 el:TypeId->Option cR
 spec:FuncId->List J->Option (aW×J)
 m:Nat:=0
 oi:FuncId->List J->Heap->Option (aW×List J×Heap):=λ_ _ _=>none
 aqq:Nat->List J->Option cR:=λ_ _=>none
 eA:FuncId->Bool:=λ_=>false
def cj.ap9(X:cj)(H:Heap)(x:J):Option cR:=
 match x with
 | .fN b _ i _=>match I H b 0 with
   | .ad _ a _ f=>X.aqq a (f i)
   |_=>none
 |_=>none
def cj.env(X:cj):Env where
 P:=X.P
 ty:=X.ty
 spec:=λf aa=>match X.spec f aa with
  |some q=>some (some q.1.holds,q.2)
  |none=>none
 m:=X.m
 oi:=λf aa H=>match X.oi f aa H with
  |some q=>some (some q.1.holds,q.2)
  |none=>none
 eA:=X.eA
def dg{α:Type _}(b:Bool)(x:Option α):Option α:=
 match b with
 |true=>x
 |false=>none
def ds{α:Type _}{b:Bool}{x:Option α}{y:α} :dg b x=some y↔b=true/\x=some y:=by
 cases b<;>simp [dg]
abbrev sB:=aW×J×b5
abbrev iv:=aW×J
def val(x:Option iv):Option sB:=
 match x with
 |some q=>some (q.1,q.2,[])
 |none=>none
def ps{x:Option iv}{o:aW}{av:J}{c:b5} :val x=some (o,av,c)↔x=some (o,av)/\c=[]:=by
 cases x with
 |none=>simp [val]
 |some q=>
  obtain⟨a,b⟩:=q;simp only[val,g9,pz];constructor
  .rintro⟨rfl,rfl,rfl⟩;exact⟨⟨rfl,rfl⟩,rfl⟩
  .rintro⟨⟨rfl,rfl⟩,rfl⟩;exact⟨rfl,rfl,rfl⟩
def c6(av:J):Option iv:=some (.di,av)
def loadT(t:bS)(H:Heap)(x:J):Option iv:=
 match x with
 | .ptr b o=>dg ((kP H b o t.size).all xd) (c6 (pH t.d.isAgg (kP H b o t.size)))
 | .ref cs=>dg (decide (t.size<=cs.length)) (c6 (pH t.d.isAgg (cs.take t.size)))
 | .fN b k i o=>match I H b 0 with
   | .ad _ a n f=>dg (decide (o+t.size<=a)) (some (.and (.e k n) (.p (i<n)),pH t.d.isAgg (((f i).drop o).take t.size)))
   |_=>none
 |_=>none
def NA{t:bS}{H:Heap}{x:J}{o:aW}{av:J}{K:J->Prop}(h:loadT t H x=some (o,av))(d:o.holds)(c:K av):oq t H x K:=by
 unfold loadT at h;unfold oq
 cases x<;>simp only at h |- <;>try (cases h;done)
 .rw[ds,c6]at h;obtain⟨a,b⟩:=h
  cases b
  exact aF.2 ⟨a,c⟩
 .split at h
  .rename_i e;rw[ds]at h;obtain⟨a,b⟩:=h
   cases b
   simp only[e];exact⟨d.1,d.2,aF.2 ⟨a,c⟩⟩
  .cases h
 .rw[ds,c6]at h;obtain⟨a,b⟩:=h
  cases b
  exact aF.2 ⟨a,c⟩
def cR.canon(E:cR)(f:Nat->List J):aW:= .e f λi=>E.e (E.d (f i))
noncomputable def G.cF{α:Type}(s:G α)(i:Nat)(x:α):G α:=⟨s.n,λj=>bif Nat.beq j i then x else s.at' j⟩
def G.ajZ{α:Type}(s:G α)(i:Nat)(x:α):(s.cF i x).n=s.n:=rfl
noncomputable def storeT(E:Option cR)(t:bS)(H:Heap)(x v:J):Option (aW×b5):=
 match x with
 | .ptr b o=>dg (oA v&&decide ((cellsOf v).length=t.size)&&(kP H b o t.size).all xd&& !(cr (I H b 0))) (some (.di,h3 b (cellsOf v) o))
 | .fN b k i o=>match I H b 0 with
   | .ad c a n f=>match E with
     |some E=>dg (!c&&decide (o+t.size<=a)&&oA (eT v)&&decide ((cellsOf (eT v)).length=t.size)&&(cellsOf (eT v)).all oQ&& !((cellsOf (eT v)).isEmpty))
       (some (.and (.e k n) (.and (.p (i<n)) (.and (E.canon f) (.e (r4 (f i) (cellsOf (eT v)) o) (E.e (E.d (r4 (f i) (cellsOf (eT v)) o)))))),[(b,0,.ad false a n λj=>E.e ((G.cF (⟨n,λi=>E.d (f i)⟩:G E.T) i (E.d (r4 (f i) (cellsOf (eT v)) o))).at' j))]))
     |none=>none
   |_=>none
 |_=>none
def aDO{E:Option cR}{t:bS}{H:Heap}{x v:J}{o:aW}{ws:b5}{K:b5->Prop}(h:storeT E t H x v=some (o,ws))(l:o.holds)(c:K ws):uJ t H x v K:=by
 unfold storeT at h;unfold uJ
 cases x<;>simp only at h |- <;>try (cases h;done)
 .rw[ds]at h;obtain⟨a,b⟩:=h
  cases b
  exact aF.2 ⟨a,c⟩
 .split at h
  .rename_i e
   split at h<;>try (cases h;done)
   rename_i E;rw[ds]at h;obtain⟨a,b⟩:=h
   cases b
   simp only[e];obtain⟨f,g,i,k⟩:=l;refine aF.2 ⟨a,f,g,_,λj m=> ?_,c⟩;unfold OP G.cF;simp only
   cases d:Nat.beq j _ with
   |true=>
    have:=eg d;subst this;simp only[aR];exact k
   |false=>
    simp only[aX];exact congrFun i j
  .cases h
def RZ(t:bS)(H:Heap)(f:Nat)(x:J):Option iv:=
 match t.d with
 | .struct c=>match c[f]? with
   |some (a,_)=>match x with
    | .ptr b o=>c6 (.ptr b (o+a))
    | .ref cs=>c6 (.ref (cs.drop a))
    | .fN b k i o=>match I H b 0 with
      | .ad _ _ n _=>some (.e k n,.fN b k i (o+a))
      |_=>none
    |_=>none
   |none=>none
 |_=>none
def aqx{t:bS}{H:Heap}{f:Nat}{x:J}{o:aW}{av:J}{K:J->Prop}(h:RZ t H f x=some (o,av))(c:o.holds)(a:K av):sV t H f x K:=by
 unfold RZ at h;unfold sV
 split at h<;>try (cases h;done)
 rename_i g e;simp only[e]
 split at h<;>try (cases h;done)
 rename_i d i b;simp only[b]
 cases x<;>simp only[c6]at h |- <;>try (cases h;done)
 .cases h;exact a
 .split at h
  .rename_i e;cases h;simp only[e];exact⟨c,a⟩
  .cases h
 .cases h;exact a
def VT(t:bS)(H:Heap)(x i:J):Option iv:=
 match t.d with
 | .slice _ a _=>match i with
   | .int _ z=>match x with
     | .arr c n f=>dg (decide (c=a)) (some (.p (0<=z/\z<n),.ref ((f z.toNat).take c)))
     | .own b k=>match I H b 0 with
       | .ad _ c n _=>dg (decide (c=a)) (some (.and (.e k n) (.p (0<=z/\z<n)),.fN b k z.toNat 0))
       |_=>none
     |_=>none
   |_=>none
 | .array n _ a=>match i with
   | .int _ z=>match x with
     | .ptr b o=>dg (decide (0<=z)&&decide (z<n)) (c6 (.ptr b (o+z.toNat*a)))
     | .ref cs=>dg (decide (0<=z)&&decide (z<n)) (c6 (.ref (cs.drop (z.toNat*a))))
     |_=>none
   |_=>none
 |_=>none
def VS(E:TypeId->Option bS)(t:bS)(x i:J):Option iv:=
 match t.d with
 | .array n e a=>match i with
   | .int _ z=>match x with
     | .agg cs=>match E e with
       |some u=>dg (decide (0<=z)&&decide (z<n)&&decide (u.size=a)&&decide (z.toNat*a+a<=cs.length)) (c6 (pH u.d.isAgg ((cs.drop (z.toNat*a)).take a)))
       |none=>none
     |_=>none
   |_=>none
 |_=>none
def avz{E:TypeId->Option bS}{t:bS}{x i:J}{o:aW}{av:J}{K:J->Prop}(h:VS E t x i=some (o,av))(f:K av):wj E t x i K:=by
 unfold VS at h;unfold wj
 split at h<;>try (cases h;done)
 rename_i n e g a;simp only[a]
 cases i<;>simp only at h |- <;>try (cases h;done)
 cases x<;>simp only at h |- <;>try (cases h;done)
 split at h<;>try (cases h;done)
 rename_i u b;simp only[b];rw[ds,c6]at h;obtain⟨c,d⟩:=h
 cases d
 exact aF.2 ⟨c,f⟩
def avH{t:bS}{H:Heap}{x i:J}{o:aW}{av:J}{K:J->Prop}(h:VT t H x i=some (o,av))(d:o.holds)(c:K av):tW t H x i K:=by
 unfold VT at h;unfold tW
 split at h<;>try (cases h;done)
 case h_2 n f g e=>
  simp only[e]
  cases i<;>simp only at h |- <;>try (cases h;done)
  cases x<;>simp only at h |- <;>try (cases h;done)
  all_goals
   rw[ds,c6]at h;obtain⟨a,b⟩:=h
   cases b
   exact aF.2 ⟨a,c⟩
 rename_i f g j e;simp only[e]
 cases i<;>simp only at h |- <;>try (cases h;done)
 cases x<;>simp only at h |- <;>try (cases h;done)
 .rw[ds]at h;obtain⟨a,b⟩:=h
  cases b
  exact aF.2 ⟨a,d,c⟩
 .split at h
  .rename_i e;rw[ds]at h;obtain⟨a,b⟩:=h
   cases b
   simp only[e];exact aF.2 ⟨a,d.1,d.2,c⟩
  .cases h
def VV(c:BinOp)(k:IntKind)(a b:Int):Option iv:=
 match c with
 | .add=>c6 (.int k (k.wrap (a+b)))
 | .sub=>c6 (.int k (k.wrap (a-b)))
 | .mul=>c6 (.int k (k.wrap (a*b)))
 | .eql=>c6 (.bool (a==b))
 | .neq=>c6 (.bool (a !=b))
 | .lss=>c6 (.bool (decide (a<b)))
 | .leq=>c6 (.bool (decide (a<=b)))
 | .gtr=>c6 (.bool (decide (a>b)))
 | .geq=>c6 (.bool (decide (a>=b)))
 | .quo=>some (.p (b≠0),.int k (k.wrap (a.tdiv b)))
 | .rem=>some (.p (b≠0),.int k (a.tmod b))
 | .and=>c6 (.int k (bits .and k a b))
 | .or=>c6 (.int k (bits .or k a b))
 |_=>none
def avQ{c:BinOp}{k:IntKind}{a b:Int}{o:aW}{av:J}{K:J->Prop}(h:VV c k a b=some (o,av))(e:o.holds)(d:K av):wo c k a b K:=by
 unfold VV at h;unfold wo
 cases c<;>simp only[c6]at h |- <;>first|(cases h;done)|(cases h;exact d)|(cases h;exact⟨e,d⟩)
def YC(c:BinOp)(k:IntKind)(a b:Int):Option iv:=
 match c with
 | .shl=>some (.p (0<=b/\b<=k.bits),.int k (k.wrap (a*2^b.toNat)))
 | .shr=>some (.p (0<=b/\b<=k.bits),.int k (a/2^b.toNat))
 |_=>none
def aDv{c:BinOp}{k:IntKind}{a b:Int}{o:aW}{av:J}{K:J->Prop}(h:YC c k a b=some (o,av))(e:o.holds)(d:K av):OG c k a b K:=by
 unfold YC at h;unfold OG
 cases c<;>simp only at h |- <;>first|(cases h;done)|(cases h;exact⟨e,d⟩)
def Rb(t:bS)(c:BinOp)(x y:J):Option iv:=
 match x with
 | .int k a=>match y with
   | .int e b=>match M6 c with
     |true=>YC c k a b
     |false=>dg (decide (k=e)) (VV c k a b)
   |_=>none
 | .bool a=>match y with
   | .bool b=>match t.d with
     | .bool=>match c with
       | .eql=>c6 (.bool (a==b))
       | .neq=>c6 (.bool (!(a==b)))
       |_=>none
     |_=>none
   |_=>none
 | .str a=>match y with
   | .str b=>match c with
     | .eql=>c6 (.bool (a.toList==b.toList))
     | .neq=>c6 (.bool (!(a.toList==b.toList)))
     | .leq=>c6 (.bool (Op.bytesLess a.toList b.toList||a.toList==b.toList))
     | .gtr=>c6 (.bool (!(Op.bytesLess a.toList b.toList||a.toList==b.toList)))
     | .lss=>c6 (.bool (Op.bytesLess a.toList b.toList))
     | .geq=>c6 (.bool (!Op.bytesLess a.toList b.toList))
     | .add=>some (.p (a.size+b.size<=dz),.str (a++b))
     |_=>none
   |_=>none
 | .agg cs=>match y with
   | .agg d=>dg (t.cmp&&hN t.zero cs&&hN t.zero d) (match c with
     | .eql=>c6 (.bool (jy cs d))
     | .neq=>c6 (.bool (!(jy cs d)))
     |_=>none)
   |_=>none
 |_=>none
def aor{t:bS}{b:BinOp}{x y:J}{o:aW}{av:J}{K:J->Prop}(h:Rb t b x y=some (o,av))(d:o.holds)(a:K av):pJ t b x y K:=by
 unfold Rb at h
 cases x<;>simp only at h<;>try (cases h;done)
 .cases y<;>simp only at h<;>try (cases h;done)
  simp only[pJ]
  split at h
  .rename_i e;simp only[e];exact aDv h d a
  .rename_i e;simp only[e];rw[ds]at h;exact aF.2 ⟨h.1,avQ h.2 d a⟩
 .cases y<;>simp only at h<;>try (cases h;done)
  split at h<;>try (cases h;done)
  rename_i e;simp only[pJ,e]
  cases b<;>simp only[c6]at h |- <;>first|(cases h;done)|(cases h;exact a)
 .cases y<;>simp only at h<;>try (cases h;done)
  simp only[pJ]
  cases b<;>simp only[c6]at h |- <;>first|(cases h;done)|(cases h;exact a)|(cases h;exact⟨d,a⟩)
 .cases y<;>simp only at h<;>try (cases h;done)
  simp only[pJ];rw[ds]at h;refine aF.2 ⟨h.1,?_⟩;have c:=h.2
  cases b<;>simp only[c6]at c |- <;>first|(cases c;done)|(cases c;exact a)
def Y3(a:UnOp)(x:J):Option iv:=
 match a with
 | .not=>match x with
   | .bool b=>c6 (.bool (!b))
   | .lit b=>c6 (.lit (!b))
   |_=>none
 | .neg=>match x with
   | .int k n=>c6 (.int k (k.wrap (0-n)))
   |_=>none
 |_=>none
def aEv{a:UnOp}{x:J}{o:aW}{av:J}{K:J->Prop}(h:Y3 a x=some (o,av))(b:K av):zQ a x K:=by
 unfold Y3 at h
 cases a<;>simp only at h<;>try (cases h;done)
 all_goals
  cases x<;>simp only[c6]at h<;>first|(cases h;done)|(cases h;exact b)
def Jo(c:List (Nat×Nat))(a:List J):List (Nat×Operand)->List J->Option (List J)
 |[],cs=>some cs
 |(i,x)::r,cs=>match c[i]? with
  |some (b,d)=>dg (oA (aE a x)&&decide ((cellsOf (aE a x)).length=d)&&decide (b+d<=cs.length)) (Jo c a r (r4 cs (cellsOf (aE a x)) b))
  |none=>none
def aaG{c:List (Nat×Nat)}{f:List J}{K:List J->Prop} : ∀{d:List (Nat×Operand)} {cs a:List J},Jo c f d cs=some a->K a->nw c f d cs K
 |[],cs,a,h,b=>by cases h;exact b
 |(i,x)::r,cs,a,h,b=>by
  simp only[Jo]at h;simp only[nw]
  split at h
  .rename_i g j e;rw[ds]at h;simp only[e];exact aF.2 ⟨h.1,aaG h.2 b⟩
  .cases h
def Wj(H:Heap)(x:J):Option iv:=
 match x with
 | .arr _ n _=>c6 (.int .i64 n)
 | .aG=>c6 (.int .i64 0)
 | .str s=>c6 (.int .i64 s.size)
 | .own b k=>match I H b 0 with
   | .ad _ _ n _=>some (.e k n,.int .i64 n)
   |_=>none
 |_=>none
def azv{H:Heap}{x:J}{o:aW}{av:J}{K:J->Prop}(h:Wj H x=some (o,av))(b:o.holds)(a:K av):qs H x K:=by
 unfold Wj at h;unfold qs
 cases x<;>simp only[c6]at h |- <;>try (cases h;done)
 .cases h;exact a
 .cases h;exact a
 .cases h;exact a
 .split at h
  .rename_i e;cases h;simp only[e];exact⟨b,a⟩
  .cases h
def JX(H:Heap)(x:J):Option iv:=
 match x with
 | .own b k=>match I H b 0 with
   | .ad _ a n f=>some (.e k n,.arr a n f)
   |_=>none
 | .lit b=>c6 (.bool b)
 |av=>dg (oQ av) (c6 av)
def acr{H:Heap}{x:J}{o:aW}{av:J}{K:J->Prop}(h:JX H x=some (o,av))(d:o.holds)(a:K av):iR H x K:=by
 unfold JX at h;unfold iR
 cases x<;>simp only[c6,ds]at h |- <;>first|(obtain⟨b,c⟩:=h;cases c;exact aF.2 ⟨b,a⟩)|(cases h;exact a)|skip
 split at h
 .rename_i e;cases h;simp only[e];exact⟨d,a⟩
 .cases h
def EB(H:Heap):List J->Option (aW×List J)
 |[]=>some (.di,[])
 |x::r=>match JX H x with
  |some q=>match EB H r with
   |some a=>some (.and q.1 a.1,q.2::a.2)
   |none=>none
  |none=>none
def Sf{H:Heap} : ∀{d:List J} {o:aW} {cG:List J} {K:List J->Prop},EB H d=some (o,cG)->o.holds->K cG->l9 H d K
 |[],o,cG,K,h,_,a=>by cases h;exact a
 |x::r,o,cG,K,h,b,a=>by
  simp only[EB]at h
  split at h<;>try (cases h;done)
  rename_i q e
  split at h<;>try (cases h;done)
  rename_i c f
  cases h
  exact acr (o:=q.1) (av:=q.2) e b.1 (Sf (o:=c.1) (cG:=c.2) f b.2 a)
def xA(H:Heap)(x:J):Option iv:=
 match x with
 | .agg cs=>match EB H cs with
   |some q=>some (q.1,.agg q.2)
   |none=>none
 |av=>JX H av
def Sg{H:Heap}{x:J}{o:aW}{av:J}{K:J->Prop}(h:xA H x=some (o,av))(b:o.holds)(a:K av):kR H x K:=by
 unfold xA at h;unfold kR
 cases x<;>simp only at h |- <;>first|exact acr h b a|skip
 split at h<;>try (cases h;done)
 rename_i q e
 cases h
 exact Sf (o:=q.1) (cG:=q.2) e b a
def s0(H:Heap):List J->Option (aW×List J)
 |[]=>some (.di,[])
 |x::r=>match xA H x with
  |some q=>match s0 H r with
   |some a=>some (.and q.1 a.1,q.2::a.2)
   |none=>none
  |none=>none
def Si{H:Heap} : ∀{d:List J} {o:aW} {cG:List J} {K:List J->Prop},s0 H d=some (o,cG)->o.holds->K cG->mQ H d K
 |[],o,cG,K,h,_,a=>by cases h;exact a
 |x::r,o,cG,K,h,b,a=>by
  simp only[s0]at h
  split at h<;>try (cases h;done)
  rename_i q e
  split at h<;>try (cases h;done)
  rename_i c f
  cases h
  exact Sg (o:=q.1) (av:=q.2) e b.1 (Si (o:=c.1) (cG:=c.2) f b.2 a)
def Yi(aC:Nat)(o:aW)(r:J)(a:b5):sB:=
 match r with
 | .ad _ b n f=>(o,.own aC n,a++[(aC,0,.ad false b n f)])
 |r=>(o,r,a)
def Rj(X:cj)(H:Heap)(aC:Nat)(f:FuncId)(a:List J):Option sB:=
 match s0 H (a.map eT)with
 |some q=>match X.spec f q.2 with
  |some s=>some (Yi aC (.and q.1 s.1) s.2 (ox H s.2 (a.map eT)))
  |none=>none
 |none=>none
def aoX{X:cj}{H:Heap}{aC:Nat}{f:FuncId}{c:List J}{o:aW}{av:J}{g:b5}{K:J->b5->Prop}(h:Rj X H aC f c=some (o,av,g))(j:o.holds)(b:K av g):va X.env H aC f c K:=by
 unfold Rj at h
 split at h<;>try (cases h;done)
 rename_i q e
 split at h<;>try (cases h;done)
 rename_i s i;have d:q.1.holds/\s.1.holds:=by
  simp only[g9]at h;unfold Yi at h
  split at h<;>(cases h;exact j)
 refine Si (o:=q.1) (cG:=q.2) e d.1 ?_;have bk:X.env.spec f q.2=some (some s.1.holds,s.2):=by simp only[cj.env,i]
 simp only[bk,ou];refine⟨d.2,?_⟩;simp only[g9]at h;unfold Yi at h;unfold uC
 split at h
 .rename_i a
  cases h
  rw[a]at b |-;exact b
 .rename_i a
  cases h
  split
  .rename_i cZ;exact absurd cZ (a _ _ _ _)
  .exact b
def RX(i:Nat)(x:J):Option iv:=
 match x with
 | .dp a=>dg (decide (i<a.length)) (c6 (a.getD i .undef))
 |_=>none
def aqi{i:Nat}{x:J}{o:aW}{av:J}{K:J->Prop}(h:RX i x=some (o,av))(c:K av):AL i x K:=by
 unfold RX at h;unfold AL
 cases x<;>simp only[ds,c6]at h |- <;>try (cases h;done)
 obtain⟨a,b⟩:=h
 cases b
 exact aF.2 ⟨a,c⟩
def YK(E:cR)(H:Heap)(a:Bool)(c:Nat)(y:J):Option (aW×Nat×(Nat->List J)):=
 match y with
 | .aG=>dg (!a) (some (.di,0,λ_=>E.e (E.d [])))
 | .arr d n f=>dg (!a&&decide (d=c)) (some (.di,n,f))
 | .str s=>dg (a&&decide (c=1)) (some (.di,s.size,w_ s))
 | .own b k=>match I H b 0 with
   | .ad _ d n f=>dg (!a&&decide (d=c)) (some (.e k n,n,f))
   |_=>none
 |_=>none
def YL{E:cR}{H:Heap}{j:Bool}{f:Nat}{y:J}{o:aW}{n:Nat}{g:Nat->List J}{K:Nat->(Nat->List J)->Prop}(h:YK E H j f y=some (o,n,g))(l:o.holds)(c: ∀d,(∀i,i<n->d i=g i)->(y= .aG\/d=g)->K n d):nk H j f y K:=by
 unfold YK at h;unfold nk
 cases y<;>simp only[ds]at h |- <;>try (cases h;done)
 .obtain⟨a,b⟩:=h;cases b;exact aF.2 ⟨a,c _ (λ_ _=>rfl) (.inr rfl)⟩
 .obtain⟨a,b⟩:=h;cases b;exact aF.2 ⟨a,c _ (λi k=>absurd k (eD _)) (.inl rfl)⟩
 .obtain⟨a,b⟩:=h;cases b;exact aF.2 ⟨a,c _ (λ_ _=>rfl) (.inr rfl)⟩
 .split at h
  .rename_i e;rw[ds]at h;obtain⟨a,b⟩:=h;cases b;simp only[e];exact aF.2 ⟨a,l,c _ (λ_ _=>rfl) (.inr rfl)⟩
  .cases h
def cR.ab(E:cR)(n:Nat)(f:Nat->List J):G E.T:=⟨n,λi=>E.d (f i)⟩
def notNil:J->Bool
 | .aG=>false
 |_=>true
noncomputable def Q6(h:TypeId->Option cR)(t:bS)(l:Bool)(H:Heap)(aC:Nat)(x y:J):Option sB:=
 match t.d with
 | .slice e a d=>match h e with
   |some E=>dg (Nat.ble d 256&&Nat.blt 0 a) (match YK E H l a y with
    |some (o,m,g)=>match x with
     | .aG=>dg (notNil y) (some (.and o (.and (E.canon g) (.p (m<=dz))),.own aC m,[(aC,0,.ad false a m λi=>E.e ((E.ab m g).at' i))]))
     | .own b k=>match I H b 0 with
       | .ad j c n f=>dg (!j&&decide (c=a)) (some (.and o (.and (.e k n) (.and (E.canon f) (.and (E.canon g) (.p (n+m<=dz))))),.own b (n+m),[(b,0,.ad false a (n+m) λi=>E.e (((E.ab n f).app (E.ab m g)).at' i))]))
       |_=>none
     | .ke c n f=>dg (decide (c=a)) (some (.and o (.and (E.canon f) (.and (E.canon g) (.p (0<m/\n+m<=dz)))),.own aC (n+m),[(aC,0,.ad false a (n+m) λi=>E.e (((E.ab n f).app (E.ab m g)).at' i))]))
     |_=>none
    |none=>none)
   |none=>none
 |_=>none
def aof{D:TypeId->Option cR}{t:bS}{z:Bool}{H:Heap}{aC:Nat}{x y:J}{o:aW}{av:J}{A:b5}{K:J->b5->Prop}(h:Q6 D t z H aC x y=some (o,av,A))(c:o.holds)(u:K av A):oI t z H aC x y K:=by
 unfold Q6 at h
 split at h<;>try (cases h;done)
 rename_i e M L C;simp only[oI,C]
 split at h<;>try (cases h;done)
 rename_i E I;rw[ds]at h;refine aF.2 ⟨h.1,?_⟩;have a:=h.2;clear h
 split at a<;>try (cases a;done)
 rename_i N m g p
 cases x<;>simp only at a<;>try (cases a;done)
 .rw[ds]at a;obtain⟨w,a⟩:=a
  cases a
  refine YL p c.1 λq l F=>⟨c.2.2,?_⟩;have d:q=g:=F.resolve_left λe=>by rw[e]at w;cases w
  have j:g=λi=>E.e (E.d (g i)):=c.2.1;rw[d,j];exact u
 .split at a<;>try (cases a;done)
  rename_i b k O G n f B;rw[ds]at a;obtain⟨r,a⟩:=a
  cases a
  refine YL p c.1 λq l _=> ?_;simp only[B];refine aF.2 ⟨r,c.2.1,c.2.2.2.2,_,?_,u⟩;have d:f=λi=>E.e (E.d (f i)):=c.2.2.1;have j:g=λi=>E.e (E.d (g i)):=c.2.2.2.1;exact aao (e:=E.e) (s:=E.ab n f) (t:=E.ab m g) rfl rfl (λi _=>congrFun d i) λi v=>(l i v).trans (congrFun j i)
 .rename_i G n f;rw[ds]at a;obtain⟨r,a⟩:=a
  cases a
  refine YL p c.1 λq l _=> ?_;refine aF.2 ⟨r,c.2.2.2.1,c.2.2.2.2,_,?_,u⟩;have d:f=λi=>E.e (E.d (f i)):=c.2.1;have j:g=λi=>E.e (E.d (g i)):=c.2.2.1;exact aao (e:=E.e) (s:=E.ab n f) (t:=E.ab m g) rfl rfl (λi _=>congrFun d i) λi v=>(l i v).trans (congrFun j i)
def AR(H:Heap):List (List J)->Option (aW×List (List J))
 |[]=>some (.di,[])
 |x::r=>match EB H x with
  |some q=>match AR H r with
   |some a=>some (.and q.1 a.1,q.2::a.2)
   |none=>none
  |none=>none
def aco{H:Heap} : ∀{d:List (List J)} {o:aW} {cG:List (List J)} {K:List (List J)->Prop},AR H d=some (o,cG)->o.holds->K cG->nF H d K
 |[],o,cG,K,h,_,a=>by cases h;exact a
 |x::r,o,cG,K,h,b,a=>by
  simp only[AR]at h
  split at h<;>try (cases h;done)
  rename_i q e
  split at h<;>try (cases h;done)
  rename_i c f
  cases h
  exact Sf (o:=q.1) (cG:=q.2) e b.1 (aco (o:=c.1) (cG:=c.2) f b.2 a)
def acn{H:Heap} : ∀{b:List (List J)} {o:aW} {a:List (List J)},AR H b=some (o,a)->a.length=b.length
 |[],o,a,h=>by cases h;rfl
 |x::r,o,a,h=>by
  simp only[AR]at h
  split at h<;>try (cases h;done)
  split at h<;>try (cases h;done)
  rename_i d c
  cases h
  simp [acn c]
noncomputable def Rf(c:TypeId->Option cR)(t:bS)(f:List J)(H:Heap)(aC b:Nat)(d:List (Nat×Operand)):Option sB:=
 match t.d with
 | .slice e a _=>match c e with
   |some E=>match lh a f d 0 with
    |some l=>match AR H l with
     |some q=>dg (Nat.beq l.length b&&Nat.ble b 4096&&Nat.ble a 4096&&Nat.blt 0 a)
      (some (.and q.1 (.e (q.2.map λx=>sP x (E.e (E.d x))) (q.2.map λx=>E.e (E.d x))),.own aC b,eO H l.flatten++[(aC,0,.ad false a b λi=>E.e ((have:=E.wm;G.lit (q.2.map E.d)).at' i))]))
     |none=>none
    |none=>none
   |none=>none
 |_=>none
def aoy{r:TypeId->Option cR}{t:bS}{m:List J}{H:Heap}{aC j:Nat}{k:List (Nat×Operand)}{o:aW}{av:J}{n:b5}{K:J->b5->Prop}(h:Rf r t m H aC j k=some (o,av,n))(b:o.holds)(u:K av n):q5 t m H aC j k K:=by
 unfold Rf at h
 split at h<;>try (cases h;done)
 rename_i e z y p;simp only[q5,p]
 split at h<;>try (cases h;done)
 rename_i E w
 split at h<;>try (cases h;done)
 rename_i l s;simp only[s]
 split at h<;>try (cases h;done)
 rename_i q f;obtain⟨D,a⟩:=q;rw[ds]at h;obtain⟨c,h⟩:=h
 cases h
 refine aF.2 ⟨c,aco f b.1 ⟨_,?_,u⟩⟩;intro i A;simp only[b4]at c;have B:=eg c.1.1.1;have C:a.length=l.length:=acn f;have b:(a.map λx=>sP x (E.e (E.d x)))=a.map λx=>E.e (E.d x):=b.2;have v:i<(a.map E.d).length:=by rw[List.length_map];omega
 have:= @azC E.T E.wm E.e (a.map E.d) i v;rw[List.map_map]at this;rw[<-this];have g:i<a.length:=by omega
 have d:=congrArg (λq:List (List J)=>q.getD i []) b;simp only[List.getD,g_,cM g,sr,lY]at d;simp only[List.getD,g_,cM g,sr,lY,Function.comp];exact Jw d
def Wv(X:cj)(t:bS)(d:List J)(aC:Nat)(l c:Operand):Option sB:=
 match t.d with
 | .slice e a f=>match X.ty e with
   |some b=>match aE d l with
    | .int _ z=>match aE d c with
      | .int _ g=>dg (b.zero.all Oa&&Nat.beq b.zero.length a&&Nat.ble a 4096&&Nat.ble f 4096&&Nat.blt 0 a) (some (.and (.e z g) (.p (0<=z/\z<=4096)),.own aC z.toNat,[(aC,0,.ad false a z.toNat λ_=>b.zero)]))
      |_=>none
    |_=>none
   |none=>none
 |_=>none
def azY{X:cj}{t:bS}{b:List J}{aC:Nat}{l c:Operand}{o:aW}{av:J}{d:b5}{K:J->b5->Prop}(h:Wv X t b aC l c=some (o,av,d))(a:o.holds)(n:K av d):r7 X.env t b aC l c K:=by
 unfold Wv at h
 split at h<;>try (cases h;done)
 rename_i e q p f;simp only[r7,f]
 split at h<;>try (cases h;done)
 rename_i ao g;have i:X.env.ty e=some ao:=g;simp only[i]
 split at h<;>try (cases h;done)
 rename_i r z j
 split at h<;>try (cases h;done)
 rename_i s u k;simp only[j,k];rw[ds]at h;obtain⟨m,h⟩:=h
 cases h
 exact aF.2 ⟨m,⟨a.1,a.2⟩,n⟩
def w9(a:List J)(d:Int)(o:Option Operand):Option Int:=
 match o with
 |none=>some d
 |some x=>match aE a x with
  | .int _ z=>some z
  |_=>none
def D9{b:List J}{d z:Int}{o:Option Operand}{K:Int->Prop}(h:w9 b d o=some z)(a:K z):cV b d o K:=by
 unfold w9 at h;unfold cV
 split at h
 .cases h;exact a
 .rename_i x;simp only
  split at h
  .rename_i e;cases h;simp only[e];exact a
  .cases h
def D6(a:List J)(n:Int)(l h m:Option Operand):Option (Int×Int×Int):=
 match w9 a 0 l with
 |some c=>match w9 a n h with
  |some b=>match w9 a b m with
   |some d=>some (c,b,d)
   |none=>none
  |none=>none
 |none=>none
def Rc{c:List J}{n b a e1:Int}{l h m:Option Operand}{K:Int->Int->Int->Prop}(e:D6 c n l h m=some (b,a,e1))(g:K b a e1):cV c 0 l λb=>cV c n h λa=>cV c a m λe1=>K b a e1:=by
 unfold D6 at e
 split at e<;>try (cases e;done)
 rename_i j d
 split at e<;>try (cases e;done)
 rename_i i f
 split at e<;>try (cases e;done)
 rename_i k bk
 cases e
 exact D9 d (D9 f (D9 bk g))
def Rk(c:Bool)(p q:Prop):aW:=
 match c with
 |true=> .p (p/\q)
 |false=> .p q
def aaL{c:Bool}{p q:Prop}(h:(Rk c p q).holds):q/\(c=true->p):=by
 cases c with
 |true=>exact⟨h.2,λ_=>h.1⟩
 |false=>exact⟨h,λe=>by cases e⟩
def YF(t:bS)(H:Heap)(g:List J)(x:J)(l h m:Option Operand):Option sB:=
 dg (h.isSome|| !(m.isSome)) (match t.d with
 | .slice _ j _=>match x with
   | .arr d n f=>dg (decide (d=j)) (match D6 g n l h m with
     |some (c,a,e)=>some (Rk (kO m d) (a=e) (0<=c/\c<=a/\a<=e/\e<=n),uv (kO m d) d (a-c).toNat λi=>f (c.toNat+i),[])
     |none=>none)
   | .aG=>match D6 g 0 l h m with
     |some (c,a,e)=>some (.p (c=0/\a=0/\e=0),.aG,[])
     |none=>none
   | .own b k=>match I H b 0 with
     | .ad o d n f=>dg (decide (d=j)) (match D6 g n l h m with
       |some (c,a,e)=>some (.and (.e k n) (Rk (kO m d) (a=e) (0<=c/\c<=a/\a<=e/\e<=n)),uv (kO m d) d (a-c).toNat (λi=>f (c.toNat+i)),[(b,0,.ad true d n f)])
       |none=>none)
     |_=>none
   |_=>none
 | .string=>match x with
   | .str s=>match m with
     |none=>match w9 g 0 l with
      |some c=>match w9 g s.size h with
       |some a=>some (.p (0<=c/\c<=a/\a<=s.size),.str (s.extract c.toNat a.toNat),[])
       |none=>none
      |none=>none
     |some _=>none
   |_=>none
 |_=>none)
def aDD{t:bS}{H:Heap}{p:List J}{x:J}{l hh m:Option Operand}{o:aW}{av:J}{q:b5}{K:J->b5->Prop}(h:YF t H p x l hh m=some (o,av,q))(b:o.holds)(c:K av q):si t H p x l hh m K:=by
 unfold YF at h;rw[ds]at h;refine aF.2 ⟨h.1,?_⟩;have a:=h.2;clear h
 split at a<;>try (cases a;done)
 .rename_i e w v d;simp only[d]
  cases x<;>simp only at a |- <;>try (cases a;done)
  .split at a<;>try (cases a;done)
   rename_i j i k bk
   cases a
   exact Rc bk ⟨b,c⟩
  .rw[ds]at a;obtain⟨g,a⟩:=a;refine aF.2 ⟨g,?_⟩
   split at a<;>try (cases a;done)
   rename_i j i k bk
   cases a
   exact Rc bk ⟨aaL b,c⟩
  .split at a<;>try (cases a;done)
   rename_i y z n f u;simp only[u];rw[ds]at a;obtain⟨g,a⟩:=a;refine aF.2 ⟨g,?_⟩
   split at a<;>try (cases a;done)
   rename_i j i k bk
   cases a
   exact⟨b.1,Rc bk ⟨aaL b.2,c⟩⟩
 .rename_i d;simp only[d]
  cases x<;>simp only at a |- <;>try (cases a;done)
  split at a<;>try (cases a;done)
  simp only
  split at a<;>try (cases a;done)
  rename_i j r
  split at a<;>try (cases a;done)
  rename_i i s
  cases a
  exact D9 r (D9 s ⟨b,c⟩)
def aaj(f:Nat->List J):aW:= .e (λi=>Hh ((f i).getD 0 .undef)) λ_=>true
def RA(t u:bS)(a:Option bS)(H:Heap)(x:J):Option iv:=
 match x with
 | .int _ z=>match u.d with
   | .int k=>match t.d with
     | .int _=>c6 (.int k (k.wrap z))
     |_=>none
   |_=>none
 | .str s=>match t.d with
   | .string=>match u.d with
     | .string=>c6 (.str s)
     | .slice .. =>dg (oJ u a) (c6 (.arr 1 s.size (w_ s)))
     |_=>none
   |_=>none
 | .arr c n f=>dg (u.d.isStr&&oJ t a&&Nat.beq c 1) (some (aaj f,.str (bytesOf n f)))
 | .aG=>dg (u.d.isStr&&oJ t a) (c6 (.str ⟨#[]⟩))
 | .own b d=>match I H b 0 with
   | .ad _ c n f=>dg (u.d.isStr&&oJ t a&&Nat.beq c 1) (some (.and (.e d n) (aaj f),.str (bytesOf n f)))
   |_=>none
 |_=>none
def apq{t u:bS}{g:Option bS}{H:Heap}{x:J}{o:aW}{av:J}{K:J->Prop}(h:RA t u g H x=some (o,av))(f:o.holds)(b:K av):sO t u g H x K:=by
 unfold RA at h;unfold sO
 cases x<;>simp only[c6,ds]at h |- <;>try (cases h;done)
 .split at h<;>try (cases h;done)
  rename_i d
  split at h<;>try (cases h;done)
  rename_i c
  cases h
  simp only[d,c];exact b
 .split at h<;>try (cases h;done)
  rename_i d
  split at h<;>try (cases h;done)
  .rename_i c
   cases h
   simp only[d,c];exact b
  .rename_i c;rw[ds]at h;obtain⟨a,h⟩:=h
   cases h
   simp only[d,c];exact aF.2 ⟨a,b⟩
 .obtain⟨a,h⟩:=h
  cases h
  exact aF.2 ⟨a,b⟩
 .obtain⟨a,h⟩:=h
  cases h
  exact aF.2 ⟨a,λi _=>congrFun f i,b⟩
 .split at h<;>try (cases h;done)
  rename_i e;rw[ds]at h;obtain⟨a,h⟩:=h
  cases h
  simp only[e];exact aF.2 ⟨a,f.1,λi _=>congrFun f.2 i,b⟩
def Wz(x y:J):Option iv:=
 match x with
 | .int k a=>match y with
   | .int c b=>dg (decide (k=c)) (c6 (.int k (ff a b)))
   |_=>none
 |_=>none
def az8{x y:J}{o:aW}{av:J}{K:J->Prop}(h:Wz x y=some (o,av))(b:K av):zk x y K:=by
 unfold Wz at h
 cases x<;>simp only at h<;>try (cases h;done)
 cases y<;>simp only[ds,c6]at h<;>try (cases h;done)
 obtain⟨a,h⟩:=h
 cases h
 exact aF.2 ⟨a,b⟩
def Wx(x y:J):Option iv:=
 match x with
 | .int k a=>match y with
   | .int c b=>dg (decide (k=c)) (c6 (.int k (imax a b)))
   |_=>none
 |_=>none
def az3{x y:J}{o:aW}{av:J}{K:J->Prop}(h:Wx x y=some (o,av))(b:K av):zi x y K:=by
 unfold Wx at h
 cases x<;>simp only at h<;>try (cases h;done)
 cases y<;>simp only[ds,c6]at h<;>try (cases h;done)
 obtain⟨a,h⟩:=h
 cases h
 exact aF.2 ⟨a,b⟩
def WN(H:Heap)(x:J):Option iv:=
 match x with
 | .ptr .. =>c6 x
 | .ref _=>c6 x
 | .fN b k _ _=>match I H b 0 with
   | .ad _ _ n _=>some (.e k n,x)
   |_=>none
 |_=>none
def aAR{H:Heap}{x:J}{o:aW}{av:J}{K:J->Prop}(h:WN H x=some (o,av))(b:o.holds)(a:K av):uo H x K:=by
 unfold WN at h;unfold uo
 cases x<;>simp only[c6]at h |- <;>try (cases h;done)
 .cases h;exact a
 .split at h
  .rename_i e;cases h;simp only[e];exact⟨b,a⟩
  .cases h
 .cases h;exact a
def U5(X:cj)(H:Heap)(aC:Nat)(f:FuncId)(aa:List J):Option sB:=
 dg (nodup (ec H aa)&&(ec H aa).all (λb=>zf (H.getD b [])&&(H.getD b []).all (nC (mem (ec H aa))))&&aa.all (xo (mem (ec H aa))))
  (match X.oi f (aa.map (lj (pos (ec H aa)))) ((ec H aa).map λb=>(H.getD b []).map (fH (pos (ec H aa))))with
  |some q=>dg (!(q.2.2.isEmpty)&&qD (ec H aa) H q.2.2&&q.2.2.all (λl=>l.all (nC (qt q.2.2.length)))&&q.2.1.all (λr=>xo (qt q.2.2.length) r&&oA r))
    (some (q.1,OL (q.2.1.map (lj (uG (ec H aa) aC))),sM (uG (ec H aa) aC) 0 q.2.2))
  |none=>none)
def at4{X:cj}{H:Heap}{aC:Nat}{f:FuncId}{aa:List J}{o:aW}{av:J}{c:b5}{K:J->b5->Prop}(h:U5 X H aC f aa=some (o,av,c))(j:o.holds)(i:K av c):og X.env H aC f aa K:=by
 unfold U5 at h;rw[ds]at h;refine aF.2 ⟨h.1,?_⟩;have a:=h.2;clear h
 split at a<;>try (cases a;done)
 rename_i q e;have d:X.env.oi f (aa.map (lj (pos (ec H aa)))) ((ec H aa).map λb=>(H.getD b []).map (fH (pos (ec H aa))))=some (some q.1.holds,q.2):=by simp only[cj.env,e]
 rw[ds]at a;obtain⟨g,a⟩:=a
 cases a
 obtain⟨q1,k,l⟩:=q;rw[d];exact⟨j,aF.2 ⟨g,i⟩⟩
def jm{α:Type _}(X:cj)(T:TypeId)(K:bS->Option α):Option α:=
 match X.ty T with
 |some t=>K t
 |none=>none
def j4{α:Type _}{X:cj}{T:TypeId}{K:bS->Option α}{a:α}(h:jm X T K=some a): ∃t,X.env.ty T=some t/\K t=some a:=by
 unfold jm at h
 split at h
 .rename_i t e;exact⟨t,e,h⟩
 .cases h
def j5{E:Env}{T:TypeId}{t:bS}{K:bS->Prop}(h:E.ty T=some t)(a:K t):dM E T K:=by
 unfold dM;rw[h];exact a
noncomputable def N4(X:cj)(aC:Nat)(a:List J)(H:Heap)(d:Op):Option sB:=
 match d with
 | .move x=>some (.di,aE a x,[])
 | .assign x=>some (.di,aE a x,[])
 | .pick c x y=>match aE a c with
   | .lit b=>match b with
     |true=>some (.di,aE a x,[])
     |false=>some (.di,aE a y,[])
   |_=>none
 | .alloc T=>jm X T λt=>dg (!t.zero.isEmpty) (some (.di,.ptr aC 0,h3 aC t.zero 0))
 | .box _ x=>dg (oA (aE a x)&& !(cellsOf (aE a x)).isEmpty) (some (.di,.ptr aC 0,h3 aC (cellsOf (aE a x)) 0))
 | .build T g=>jm X T λt=>match t.d with
   | .struct v=>match Jo v a g.toList t.zero with
     |some cs=>some (.di,.agg cs,[])
     |none=>none
   |_=>none
 | .load T x=>jm X T λt=>val (loadT t H (aE a x))
 | .store T x y=>jm X T λt=>match storeT (X.ap9 H (aE a x)) t H (aE a x) (aE a y)with
   |some q=>some (q.1,.undef,q.2)
   |none=>none
 | .nilCheck x=>val (WN H (aE a x))
 | .binOp d T x y _=>jm X T λt=>val (Rb t d (eT (aE a x)) (eT (aE a y)))
 | .unOp d _ x=>val (Y3 d (aE a x))
 | .fieldAddr T x f=>jm X T λt=>val (RZ t H f (aE a x))
 | .indexAddr T x y=>jm X T λt=>val (VT t H (aE a x) (aE a y))
 | .index T x y=>jm X T λt=>val (VS X.ty t (aE a x) (aE a y))
 | .extract x i=>val (RX i (aE a x))
 | .buildSlice T s g=>jm X T λt=>Rf X.el t a H aC s g.toList
 | .makeSlice T l c=>jm X T λt=>Wv X t a aC l c
 | .slice T x l h m=>jm X T λt=>YF t H a (aE a x) l h m
 | .convert p o x=>jm X p λt=>jm X o λu=>val (RA t u (vd X.env t u) H (aE a x))
 | .makeFunc r first k=>match r with
   | .func f=>dg (first.toList.isEmpty&&(k.toList.map (aE a)).all aaM) (some (.di,.fn f (k.toList.map (aE a)),[]))
   |_=>none
 | .call c=>match c.callee with
   | .value x=>match aE a x with
     | .fn f e=>match y7 X.eA f (c.args.toList.map (aE a)++e)with
       |true=>U5 X H aC f (c.args.toList.map (aE a)++e)
       |false=>dg (e.all ny) (Rj X H aC f (c.args.toList.map (aE a)++e))
     |_=>none
   | .builtin b=>match b with
     | .len=>match c.args.toList with
       |[x]=>match c.argTypes.toList with
        |[T]=>jm X T λt=>dg (Ht t (aE a x)) (val (Wj H (aE a x)))
        |_=>none
       |_=>none
     | .append=>match c.args.toList with
       |[x,y]=>match c.argTypes.toList with
        |[T,n]=>jm X T λt=>jm X n λj=>dg (j.d.isStr||j.d.tY) (Q6 X.el t j.d.isStr H aC (aE a x) (aE a y))
        |_=>none
       |_=>none
     | .min=>match c.args.toList with
       |[x,y]=>val (Wz (aE a x) (aE a y))
       |_=>none
     | .max=>match c.args.toList with
       |[x,y]=>val (Wx (aE a x) (aE a y))
       |_=>none
     |_=>none
   |_=>none
 |_=>none
def CW{X:cj}{aC:Nat}{B:List J}{H:Heap}{w:Op}{o:aW}{av:J}{ws:b5}{K:J->b5->Prop}(h:N4 X aC B H w=some (o,av,ws))(n:o.holds)(k:K av ws):iw X.env aC B H w K:=by
 cases w<;>simp only[N4]at h<;>try (cases h;done)
 case move x=>cases h;exact k
 case assign x=>cases h;exact k
 case pick c x y=>
  split at h<;>try (cases h;done)
  rename_i b e;simp only[iw,e]
  cases b<;>(cases h;exact k)
 case alloc T=>
  obtain⟨t,j,a⟩:=j4 h;rw[ds]at a;obtain⟨d,a⟩:=a
  cases a
  exact j5 j (aF.2 ⟨d,k⟩)
 case box T x=>
  rw[ds]at h;obtain⟨d,a⟩:=h
  cases a
  exact aF.2 ⟨d,k⟩
 case build T G=>
  obtain⟨t,j,a⟩:=j4 h;refine j5 j ?_
  split at a<;>try (cases a;done)
  rename_i P e;simp only[e]
  split at a<;>try (cases a;done)
  rename_i cs s
  cases a
  exact aaG s k
 case load T x=>
  obtain⟨t,j,a⟩:=j4 h;obtain⟨d,rfl⟩:=ps.1 a;exact j5 j (NA (K:=λav=>K av []) d n k)
 case store T x y=>
  obtain⟨t,j,a⟩:=j4 h
  split at a<;>try (cases a;done)
  rename_i q e
  cases a
  exact j5 j (aDO (o:=q.1) (ws:=q.2) e n k)
 case nilCheck x=>
  obtain⟨d,rfl⟩:=ps.1 h;exact aAR (K:=λav=>K av []) d n k
 case binOp w T x y I=>
  obtain⟨t,j,a⟩:=j4 h;obtain⟨d,rfl⟩:=ps.1 a;exact j5 j (aor (K:=λav=>K av []) d n k)
 case unOp w T x=>
  obtain⟨d,rfl⟩:=ps.1 h;exact aEv (K:=λav=>K av []) d k
 case fieldAddr T x f=>
  obtain⟨t,j,a⟩:=j4 h;obtain⟨d,rfl⟩:=ps.1 a;exact j5 j (aqx (K:=λav=>K av []) d n k)
 case indexAddr T x y=>
  obtain⟨t,j,a⟩:=j4 h;obtain⟨d,rfl⟩:=ps.1 a;exact j5 j (avH (K:=λav=>K av []) d n k)
 case index T x y=>
  obtain⟨t,j,a⟩:=j4 h;obtain⟨d,rfl⟩:=ps.1 a;exact j5 j (avz (K:=λav=>K av []) d k)
 case extract x i=>
  obtain⟨d,rfl⟩:=ps.1 h;exact aqi (K:=λav=>K av []) d k
 case buildSlice T len G=>
  obtain⟨t,j,a⟩:=j4 h;exact j5 j (aoy a n k)
 case makeSlice T l c=>
  obtain⟨t,j,a⟩:=j4 h;exact j5 j (azY a n k)
 case slice T x l hh m=>
  obtain⟨t,j,a⟩:=j4 h;exact j5 j (aDD a n k)
 case convert N M x=>
  obtain⟨t,j,a⟩:=j4 h;obtain⟨u,d,v⟩:=j4 a;obtain⟨A,rfl⟩:=ps.1 v;exact j5 j (j5 d (apq (K:=λav=>K av []) A n k))
 case makeFunc F first O=>
  cases F<;>simp only at h<;>try (cases h;done)
  rw[ds]at h;obtain⟨d,a⟩:=h
  cases a
  exact aF.2 ⟨d,k⟩
 case call c=>
  simp only[iw]
  cases z:c.callee with
  |value f=>
   rw[z]at h;simp only at h |-;unfold Ap
   split at h<;>try (cases h;done)
   rename_i g D hD;simp only[hD];have E:X.env.eA=X.eA:=rfl;rw[E]
   cases C:y7 X.eA g (c.args.toList.map (aE B)++D)with
   |true=>rw[C]at h;exact at4 h n k
   |false=>
    rw[C]at h;simp only[ds]at h;exact aF.2 ⟨h.1,aoX h.2 n k⟩
  |invoke r m=>rw[z]at h;cases h
  |builtin b=>
   rw[z]at h
   cases b<;>simp only at h |- <;>try (cases h;done)
   case append=>
    split at h<;>try (cases h;done)
    rename_i x y p
    split at h<;>try (cases h;done)
    rename_i T L s;obtain⟨t,j,a⟩:=j4 h;obtain⟨u,d,v⟩:=j4 a;rw[ds]at v;simp only[p,s];exact j5 j (j5 d (aF.2 ⟨v.1,aof v.2 n k⟩))
   case min=>
    split at h<;>try (cases h;done)
    rename_i x y p;obtain⟨d,rfl⟩:=ps.1 h;simp only[p];exact az8 (K:=λav=>K av []) d k
   case max=>
    split at h<;>try (cases h;done)
    rename_i x y p;obtain⟨d,rfl⟩:=ps.1 h;simp only[p];exact az3 (K:=λav=>K av []) d k
   case len=>
    split at h<;>try (cases h;done)
    rename_i x p
    split at h<;>try (cases h;done)
    rename_i T s;obtain⟨t,j,a⟩:=j4 h;rw[ds]at a;obtain⟨A,rfl⟩:=ps.1 a.2;simp only[p,s];exact j5 j (aF.2 ⟨a.1,azv A n k⟩)
def Ce(ops:Array Oper)(o:Oper)(a:List J):Option Bool:=
 match o.guard with
 |none=>some true
 |some (j,c)=>match(ops[j]?).bind (·.dst)with
  |some d=>match a.getD d .undef with
   | .lit b=>some (b==c)
   | .gone=>some false
   |_=>none
  |none=>none
def Nw(a:Bool)(av:J):Option Bool:=
 match a with
 |true=>match av with
  | .bool b=>some b
  |_=>none
 |false=>none
def abp:Op->Bool
 | .panic .. =>true
 | .makeInterface .. =>true
 |_=>false
abbrev qZ:=Option (O×List Rec)
def sh(b:Nat):Nat->b5->List J×b5
 |_,[]=>([],[])
 |o,x::r=>match Nat.beq x.1 b&&Nat.beq x.2.1 o with
  |true=>(x.2.2::(sh b (o+1) r).1,(sh b (o+1) r).2)
  |false=>([],x::r)
def G8:Nat->Heap->b5->Heap
 |0,H,a=>bJ H a
 |n+1,H,a=>match a with
  |[]=>H
  |x::r=>match x.2.1 with
   |0=>G8 n (setAt [] H x.1 (x.2.2::(sh x.1 1 r).1++(H.getD x.1 []).drop ((sh x.1 1 r).1.length+1))) (sh x.1 1 r).2
   |o+1=>G8 n (bI H x.1 (o+1) x.2.2) r
def yZ(H:Heap)(a:b5):Heap:=G8 a.length H a
def ajn{α:Type}(d:α)(x:α): ∀(p r:List α),setAt d (p++r) p.length x=p++x::r.drop 1
 |[],[]=>rfl
 |[],_::_=>rfl
 |a::p,r=>by simp only[w1,dy,setAt,ajn d x p r]
def asB{α:Type}(d x e:α)(l:List α)(i:Nat):(setAt d l i x).getD i e=x:=by
 induction l generalizing i with
 |nil=>
  induction i with
  |zero=>rfl
  |succ i b=>simpa[setAt]using b
 |cons a l b=>
  cases i with
  |zero=>rfl
  |succ i=>simpa[setAt]using b i
def run_eq(b:Nat): ∀(r:b5) (H:Heap) (p q:List J),bJ (setAt [] H b (p++q)) r=bJ (setAt [] H b (p++(sh b p.length r).1++q.drop (sh b p.length r).1.length)) (sh b p.length r).2
 |[],H,p,q=>by simp [sh]
 |x::r,H,p,q=>by
  unfold sh
  cases e:(Nat.beq x.1 b&&Nat.beq x.2.1 p.length)with
  |false=>simp
  |true=>
   simp only[b4]at e;have a:=eg e.1;have d:=eg e.2;obtain⟨b',g,c⟩:=x;simp only at a d;subst a d;have h:=run_eq b' r H (p++[c]) (q.drop 1);have f:(p++[c]).length=p.length+1:=by simp
   rw[f]at h;show bJ (bI (setAt [] H b' (p++q)) b' p.length c) r=_;unfold bI;rw[asB,Is,ajn];simp only[fk,Dz]at h;rw[h];simp only[dy,wZ,fk,w1,Nat.add_comm]
def VI: ∀(n:Nat) (H:Heap) (a:b5),G8 n H a=bJ H a
 |0,_,_=>rfl
 |n+1,H,[]=>rfl
 |n+1,H,(b,o,c)::r=>by
  unfold G8
  cases o with
  |zero=>
   simp only;rw[VI n];show _=bJ (bI H b 0 c) r;unfold bI;have d:setAt .undef (H.getD b []) 0 c=[c]++(H.getD b []).drop 1:=by
    cases H.getD b []<;>rfl
   rw[d];have h:=run_eq b r H [c] ((H.getD b []).drop 1);rw[h];simp only[dy,fs,db,wZ,w1,qP,Nat.add_comm]
  |succ o=>
   simp only;rw[VI n];rfl
def G7(H:Heap)(ws:b5):yZ H ws=bJ H ws:=VI _ _ _
noncomputable def qw(X:cj)(ops:Array Oper):List Oper->Nat->O->List Rec->Option (aW×T qZ)
 |[],_,st,rs=>some (.di,.da (some (st,rs)))
 |o::a,i,st,rs=>match Ce ops o st.D with
  |none=>none
  |some g=>match g with
   |false=>qw X ops a (i+1) ⟨kh o.dst .gone st.D,st.k⟩ (⟨.gone,[],[],[],0,false⟩::rs)
   |true=>match abp o.op with
    |true=>some (.p False,.da none)
    |false=>match N4 X (uk st.D st.k o.op) st.D st.k o.op with
     |none=>none
     |some r=>match Nw (IE a i) r.2.1 with
      |some b=>match qw X ops a (i+1) ⟨kh o.dst (.lit true) st.D,yZ st.k r.2.2⟩ (⟨.lit true,r.2.2,kC X.env st.D o.op,qz st.D st.k o.op,uk st.D st.k o.op,true⟩::rs)with
       |none=>none
       |some q1=>match qw X ops a (i+1) ⟨kh o.dst (.lit false) st.D,yZ st.k r.2.2⟩ (⟨.lit false,r.2.2,kC X.env st.D o.op,qz st.D st.k o.op,uk st.D st.k o.op,true⟩::rs)with
        |none=>none
        |some c=>some (.and r.1 (.and (.imp b true q1.1) (.imp b false c.1)),.ej b q1.2 c.2)
      |none=>match qw X ops a (i+1) ⟨kh o.dst r.2.1 st.D,yZ st.k r.2.2⟩ (⟨r.2.1,r.2.2,kC X.env st.D o.op,qz st.D st.k o.op,uk st.D st.k o.op,true⟩::rs)with
       |none=>none
       |some q=>some (.and r.1 q.1,q.2)
def UN{ops:Array Oper}{o:Oper}{st:O}{a skip:Prop}(h:Ce ops o st.D=some true)(k:a):wa ops o st a skip:=by
 unfold Ce at h;unfold wa
 split at h
 .rename_i e;simp only[e];exact k
 .rename_i j f e;simp only[e]
  split at h<;>try (cases h;done)
  rename_i d c;simp only[c]
  split at h<;>try (cases h;done)
  rename_i b bk;simp only[bk];simp only[g9]at h;simp only[h];exact k
def UO{ops:Array Oper}{o:Oper}{st:O}{c skip:Prop}(h:Ce ops o st.D=some false)(k:skip):wa ops o st c skip:=by
 unfold Ce at h;unfold wa
 split at h
 .cases h
 .rename_i j f e;simp only[e]
  split at h<;>try (cases h;done)
  rename_i d a;simp only[a]
  split at h<;>try (cases h;done)
  .rename_i b bk;simp only[bk];simp only[g9]at h;simp only[h];exact k
  .rename_i bk;simp only[bk];exact k
def CG{a:Bool}{av:J}{K:J->Prop}(h:match Nw a av with
  |some b=>(b=true->K (.lit true))/\(b=false->K (.lit false))
  |none=>K av):CF a av K:=by
 unfold Nw at h;unfold CF
 cases a
 .exact h
 .simp only at h |-
  cases av<;>exact h
def HV{X:cj}{ops:Array Oper}{K:List Rec->O->Prop} : ∀(l:List Oper) (i:Nat) (st:O) (rs:List Rec) (o:aW) (t:T qZ),qw X ops l i st rs=some (o,t)->o.holds->
  (∀s d,t.bL=some (s,d)->K d.reverse s)->sJ X.env ops l i st rs K
 |[],i,st,rs,o,t,h,a,c=>by
  cases h
  exact c st rs rfl
 |p::l,i,st,rs,o,t,h,a,c=>by
  simp only[qw,G7]at h;simp only[sJ]
  split at h<;>try (cases h;done)
  rename_i g m
  split at h
  .exact UO m (HV l _ _ _ o t h a c)
  .refine UN m ?_
   split at h
   .cases h;exact a.elim
   split at h<;>try (cases h;done)
   rename_i r n;obtain⟨x,w,y⟩:=r
   split at h
   .rename_i b e
    split at h<;>try (cases h;done)
    rename_i q1 f
    split at h<;>try (cases h;done)
    rename_i u v
    cases h
    refine⟨_,HE st.D st.k p.op,?_⟩;refine CW n a.1 (CG ?_);simp only at e;simp only[e];constructor
    .intro j;subst j;exact HV l _ _ _ q1.1 q1.2 f (a.2.1 rfl) λs d k=>c s d k
    .intro j;subst j;exact HV l _ _ _ u.1 u.2 v (a.2.2 rfl) λs d k=>c s d k
   .rename_i e
    split at h<;>try (cases h;done)
    rename_i q f
    cases h
    refine⟨_,HE st.D st.k p.op,?_⟩;refine CW n a.1 (CG ?_);simp only at e;simp only[e];exact HV l _ _ _ q.1 q.2 f a.2 c
def HX{X:cj}{ops:Array Oper}{K:O->Prop} : ∀(l:List Oper) (i:Nat) (st:O) (rs:List Rec) (o:aW) (t:T qZ),qw X ops l i st rs=some (o,t)->o.holds->
  (∀s e,t.bL=some (s,e)->K s)->Ai X.env ops l i st K
 |[],i,st,rs,o,t,h,a,c=>by
  cases h
  exact c st rs rfl
 |p::l,i,st,rs,o,t,h,a,c=>by
  simp only[qw,G7]at h;simp only[Ai]
  split at h<;>try (cases h;done)
  rename_i g m
  split at h
  .exact UO m (HX l _ _ _ o t h a c)
  .refine UN m ?_
   split at h
   .cases h;exact a.elim
   split at h<;>try (cases h;done)
   rename_i r n;obtain⟨x,w,y⟩:=r
   split at h
   .rename_i b d
    split at h<;>try (cases h;done)
    rename_i q1 f
    split at h<;>try (cases h;done)
    rename_i u v
    cases h
    refine CW n a.1 (CG ?_);simp only at d;simp only[d];constructor
    .intro j;subst j;exact HX l _ _ _ q1.1 q1.2 f (a.2.1 rfl) λs e k=>c s e k
    .intro j;subst j;exact HX l _ _ _ u.1 u.2 v (a.2.2 rfl) λs e k=>c s e k
   .rename_i d
    split at h<;>try (cases h;done)
    rename_i q f
    cases h
    refine CW n a.1 (CG ?_);simp only at d;simp only[d];exact HX l _ _ _ q.1 q.2 f a.2 c
inductive e_ where
 |nrm (s:O)
 |ext (id:Nat) (s:O)
 |ret (cI:List J)
 |dead
structure i_ where
 o:aW
 f:Option Prop
 t:T e_
def i_.bad:i_:=⟨.p False,none,.da .dead⟩
def T.sL{α:Type _}(f:α->Bool):T α->Bool
 | .da a=>f a
 | .ej _ l r=>match l.sL f with
   |true=>r.sL f
   |false=>false
def T.Ag{α:Type _}{f:α->Bool} : ∀{t:T α},t.sL f=true->f t.bL=true
 | .da _,h=>h
 | .ej b l r,h=>by
   simp only[T.sL]at h
   split at h
   .rename_i e
    cases b
    .exact T.Ag (t:=r) h
    .exact T.Ag (t:=l) e
   .cases h
def Nv:qZ->e_
 |some q=> .nrm q.1
 |none=> .dead
noncomputable def j2(X:cj)(ops:Array Oper)(a:Bool)(st:O):i_:=
 match qw X ops ops.toList 0 st []with
 |none=> .bad
 |some q=>match a with
  |false=>⟨q.1,none,q.2.map Nv⟩
  |true=>match q.2.sL (λx=>match x with
    |some y=>indep st.k ops y.2.reverse
    |none=>true)with
   |true=>⟨q.1,none,q.2.map Nv⟩
   |false=> .bad
def aiN{X:cj}(g:X.env.dE){id:Nat}{ops:Array Oper}{c:Bool}{st:O}{Q:Exit->O->Prop}(a:(j2 X ops c st).o.holds)(b: ∀s,(j2 X ops c st).t.bL= .nrm s->Q .normal s):WP X.env (.region id ops c) Q st:=by
 unfold j2 at a b;refine WP.WX g ?_;simp only[mJ]
 split at a
 .exact a.elim
 .rename_i q e;obtain⟨o,t⟩:=q;simp only[e]at b
  cases c with
  |false=>
   simp only at b a |-;exact HX _ _ _ _ o t e a λs h d=>b s (by rw[T.lT,d];rfl)
  |true=>
   simp only at b a |-
   split at a
   .rename_i f;simp only[f]at b;refine HV _ _ _ _ o t e a λs h d=>⟨?_,b s (by rw[T.lT,d];rfl)⟩;have:=T.Ag f;rw[d]at this;exact Aa.of this
   .exact a.elim
def NJ(L:List (Nat×Nat))(b p:Nat):Bool:=L.any λx=>Nat.beq x.1 b&&Nat.beq x.2 p
def HN(H:Heap)(L:List (Nat×Nat)):b5->ha
 |[]=> .di
 |x::r=>match NJ L x.1 x.2.1 with
  |true=> .and (.e x.2.2 (I H x.1 x.2.1)) (HN H L r)
  |false=>HN H L r
def NV(H:Heap)(L:List (Nat×Nat)):List Rec->ha
 |[]=> .di
 |r::rs=> .and (HN H L r.ws) (NV H L rs)
def WS{H:Heap}{L:List (Nat×Nat)} : ∀{f:b5},(HN H L f).holds-> ∀b p c,NJ L b p=true->(b,p,c)∈f->c=I H b p
 |[],_,_,_,_,_,h=>by cases h
 |x::r,a,b,p,c,d,h=>by
  unfold HN at a;rcases iI.1 h with e|e
  .subst e;rw[d]at a;exact a.1
  .split at a
   .exact WS a.2 b p c d e
   .exact WS a b p c d e
def ahV{H:Heap}{L:List (Nat×Nat)} : ∀{rs:List Rec},(NV H L rs).holds-> ∀b p,NJ L b p=true-> ∀r∈rs,∀c,(b,p,c)∈r.ws->c=I H b p
 |[],_,_,_,_,_,h,_,_=>by cases h
 |g::rs,f,b,p,d,r,h,c,a=>by
  rcases iI.1 h with e|e
  .subst e;exact WS f.1 b p c d a
  .exact ahV f.2 b p d r e c a
def NY(H:Heap)(L:List (Nat×Nat)):T qZ->ha
 | .da a=>match a with
   |some y=>NV H L y.2.reverse
   |none=> .di
 | .ej _ l r=> .and (NY H L l) (NY H L r)
def WT{H:Heap}{L:List (Nat×Nat)} : ∀{t:T qZ} {y:O×List Rec},(NY H L t).holds->t.bL=some y->(NV H L y.2.reverse).holds
 | .da a,y,h,e=>by
   simp only[T.bL]at e;subst e;exact h
 | .ej b l r,y,h,e=>by
   cases b
   .exact WT (t:=r) h.2 e
   .exact WT (t:=l) h.1 e
def CM(a:List J)(H:Heap)(op:Op):Nat:=match op with
 | .call _=>H.length+32
 |op=>uk a H op
def ahM(a:List J)(H:Heap)(op:Op):H.length<=CM a H op:=by
 unfold CM
 split
 .exact qO _ _
 .exact HE _ _ _
noncomputable def uu(X:cj)(ops:Array Oper):List Oper->Nat->O->List Rec->Option (aW×T qZ)
 |[],_,st,rs=>some (.di,.da (some (st,rs)))
 |o::a,i,st,rs=>match Ce ops o st.D with
  |none=>none
  |some g=>match g with
   |false=>uu X ops a (i+1) ⟨kh o.dst .gone st.D,st.k⟩ (⟨.gone,[],[],[],0,false⟩::rs)
   |true=>match abp o.op with
    |true=>some (.p False,.da none)
    |false=>match N4 X (CM st.D st.k o.op) st.D st.k o.op with
     |none=>none
     |some r=>match Nw (IE a i) r.2.1 with
      |some b=>match uu X ops a (i+1) ⟨kh o.dst (.lit true) st.D,yZ st.k r.2.2⟩ (⟨.lit true,r.2.2,kC X.env st.D o.op,qz st.D st.k o.op,CM st.D st.k o.op,true⟩::rs)with
       |none=>none
       |some q1=>match uu X ops a (i+1) ⟨kh o.dst (.lit false) st.D,yZ st.k r.2.2⟩ (⟨.lit false,r.2.2,kC X.env st.D o.op,qz st.D st.k o.op,CM st.D st.k o.op,true⟩::rs)with
        |none=>none
        |some c=>some (.and r.1 (.and (.imp b true q1.1) (.imp b false c.1)),.ej b q1.2 c.2)
      |none=>match uu X ops a (i+1) ⟨kh o.dst r.2.1 st.D,yZ st.k r.2.2⟩ (⟨r.2.1,r.2.2,kC X.env st.D o.op,qz st.D st.k o.op,CM st.D st.k o.op,true⟩::rs)with
       |none=>none
       |some q=>some (.and r.1 q.1,q.2)
def HT{X:cj}{ops:Array Oper}{K:List Rec->O->Prop} : ∀(l:List Oper) (i:Nat) (st:O) (rs:List Rec) (o:aW) (t:T qZ),uu X ops l i st rs=some (o,t)->o.holds->
  (∀s d,t.bL=some (s,d)->K d.reverse s)->sJ X.env ops l i st rs K
 |[],i,st,rs,o,t,h,a,c=>by
  cases h
  exact c st rs rfl
 |p::l,i,st,rs,o,t,h,a,c=>by
  simp only[uu,G7]at h;simp only[sJ]
  split at h<;>try (cases h;done)
  rename_i g m
  split at h
  .exact UO m (HT l _ _ _ o t h a c)
  .refine UN m ?_
   split at h
   .cases h;exact a.elim
   split at h<;>try (cases h;done)
   rename_i r n;obtain⟨x,w,y⟩:=r
   split at h
   .rename_i b e
    split at h<;>try (cases h;done)
    rename_i q1 f
    split at h<;>try (cases h;done)
    rename_i u v
    cases h
    refine⟨_,ahM st.D st.k p.op,?_⟩;refine CW n a.1 (CG ?_);simp only at e;simp only[e];constructor
    .intro j;subst j;exact HT l _ _ _ q1.1 q1.2 f (a.2.1 rfl) λs d k=>c s d k
    .intro j;subst j;exact HT l _ _ _ u.1 u.2 v (a.2.2 rfl) λs d k=>c s d k
   .rename_i e
    split at h<;>try (cases h;done)
    rename_i q f
    cases h
    refine⟨_,ahM st.D st.k p.op,?_⟩;refine CW n a.1 (CG ?_);simp only at e;simp only[e];exact HT l _ _ _ q.1 q.2 f a.2 c
noncomputable def uB(X:cj)(ops:Array Oper)(L:List (Nat×Nat))(st:O):i_:=
 match uu X ops ops.toList 0 st []with
 |none=> .bad
 |some q=>match q.2.sL (λx=>match x with
   |some y=>y6 (λb p=>NW st.k y.2.reverse b p||NJ L b p) ops y.2.reverse
   |none=>true)with
  |true=>⟨.and q.1 (.es λ_:Unit=>NY st.k L q.2),none,q.2.map Nv⟩
  |false=> .bad
def aCR{X:cj}(k:X.env.dE){id:Nat}{ops:Array Oper}{L:List (Nat×Nat)}{st:O}{Q:Exit->O->Prop}(a:(uB X ops L st).o.holds)(d: ∀s,(uB X ops L st).t.bL= .nrm s->Q .normal s):WP X.env (.region id ops true) Q st:=by
 unfold uB at a d;refine WP.WX k ?_;simp only[mJ]
 split at a
 .exact a.elim
 .rename_i q e;obtain⟨o,t⟩:=q;simp only[e]at d;simp only at d a |-
  split at a
  .rename_i g;simp only[g]at d;refine HT _ _ _ _ o t e a.1 λs m f=>⟨?_,d s (by rw[T.lT,f];rfl)⟩;have:=T.Ag g;rw[f]at this;refine⟨_,λb p l r j c i=> ?_,this⟩;rcases Bool.or_eq_true_iff.1 l with h|h
   .exact ahW h j i
   .exact ahV (WT (a.2 ()) f) b p h r j c i
  .exact a.elim
inductive Key where
 |t (i:Nat)
 |c (i j:Nat)
 |h (b o:Nat)
 |b (b:Nat)
def yO(s:O)(k:Key):J:=
 match k with
 | .t i=>s.D.getD i .undef
 | .c i j=>match s.D.getD i .undef with
   | .agg cs=>cs.getD j .undef
   |_=> .undef
 | .h b o=>I s.k b o
 | .b _=> .undef
def zL(l:List J)(i:Nat)(v:J):List J:=
 match l,i with
 |[],_=>[]
 |_::r,0=>v::r
 |x::r,i+1=>x::zL r i v
def Yz(H:Heap)(b:Nat)(f:List J->List J):Heap:=
 match H,b with
 |[],_=>[]
 |l::r,0=>f l::r
 |l::r,b+1=>l::Yz r b f
def Ob(s:O)(k:Key)(v:J):O:=
 match k with
 | .t i=>⟨zL s.D i v,s.k⟩
 | .c i j=>match s.D.getD i .undef with
   | .agg cs=>⟨zL s.D i (.agg (zL cs j v)),s.k⟩
   |_=>s
 | .h b o=>⟨s.D,Yz s.k b λl=>zL l o v⟩
 | .b b=>⟨s.D,Yz s.k b λ_=>[]⟩
def aiv:O->List Key->List J->O
 |s,k::a,v::b=>aiv (Ob s k v) a b
 |s,_,_=>s
def xp:O->List Key->O
 |s,[]=>s
 |s,k::a=>xp (Ob s k .undef) a
def agU(m:Nat):List J->List J
 |[]=>[]
 |x::r=>(match Nat.beq (m%2) 1 with
  |true=>x
  |false=> .undef)::agU (m/2) r
def Oj(H:Heap)(x:J):J:=
 match x with
 | .own b _=>match I H b 0 with
   | .ad _ _ n _=> .own b n
   |_=> .undef
 | .fN b _ i o=>match I H b 0 with
   | .ad _ _ n _=> .fN b n i o
   |_=> .undef
 |x=>x
def C8(H:Heap)(x:J):J:=
 match x with
 | .agg cs=> .agg (cs.map (Oj H))
 |x=>Oj H x
def aCQ(s:O):O:=⟨s.D.map (C8 s.k),s.k.map λl=>l.map (Oj s.k)⟩
def zn(base:O)(a:List Key)(b:List J):O:=aCQ (aiv base a b)
def getAll(s:O):List Key->List J
 |[]=>[]
 |k::a=>yO s k::getAll s a
def qq(a:List (Key×aH))(s:O):Option (List J):=dZ (a.map (·.2)) (getAll s (a.map (·.1)))
def RS(x y:J):aW:=
 match x with
 | .int k a=>match y with
   | .int c b=> .and (.e k c) (.e a b)
   |y=> .e (.int k a) y
 | .bool a=>match y with
   | .bool b=> .e a b
   |y=> .e (.bool a) y
 | .own b n=>match y with
   | .own b' d=> .and (.e b b') (.e n d)
   |y=> .e (.own b n) y
 |x=> .e x y
def aqe{x y:J}(h:(RS x y).holds):x=y:=by
 unfold RS at h
 cases x<;>simp only at h<;>first|exact h|skip
 all_goals
  cases y<;>simp only at h<;>first|exact h|skip
 .have a:=h.1;have b:=h.2;simp only[aW.holds]at a b;rw[a,b]
 .simp only[aW.holds]at h;rw[h]
 .have a:=h.1;have b:=h.2;simp only[aW.holds]at a b;rw[a,b]
def JL:List J->List J->aW
 |[],[]=> .di
 |x::a,y::b=> .and (RS x y) (JL a b)
 |[],_::_=> .p False
 |_::_,[]=> .p False
def RW: ∀{a b:List J},(JL a b).holds->a=b
 |[],[],_=>rfl
 |x::a,y::b,h=>by
  have c:=aqe h.1;have d:=RW h.2;rw[c,d]
 |[],_::_,h=>h.elim
 |_::_,[],h=>h.elim
def RT:Heap->Heap->aW
 |[],[]=> .di
 |x::a,y::b=> .and (JL x y) (RT a b)
 |[],_::_=> .p False
 |_::_,[]=> .p False
def abK: ∀{a b:Heap},(RT a b).holds->a=b
 |[],[],_=>rfl
 |x::a,y::b,h=>by
  have c:=RW h.1;have d:=abK h.2;rw[c,d]
 |[],_::_,h=>h.elim
 |_::_,[],h=>h.elim
def kg(s m:O):aW:=
 match Jx s m with
 |some z=> .and (JL z.D m.D) (RT z.k m.k)
 |none=> .p False
def Az{s m:O}(h:(kg s m).holds):Jx s m=some m:=by
 unfold kg at h
 split at h
 .rename_i z e;have a:=RW h.1;have b:=abK h.2;rw[e]
  cases z;cases m
  simp only at a b;rw[a,b]
 .exact h.elim
def oK{s m:O}{k:Nat}(h:(kg s m).holds)(a:hV k m=true):cz k s m:=sx.le (CD (Az h)) a
def Rw(k:aH)(m:js)(t:T J):Option (ha×J):=
 match t.sL (λx=>(k.rd x).isSome)with
 |true=>some ((t.map λx=>(k.rd x).getD k.l7).Au m,k.av ((t.map λx=>(k.rd x).getD k.l7).kf m))
 |false=>none
def apl{k:aH}{m:js}{t:T J}{o:ha}{v:J}(h:Rw k m t=some (o,v))(c:o.holds):k.nrm t.bL=some v:=by
 unfold Rw at h
 split at h
 .rename_i e;have a:=T.Ag e
  cases h
  rw[T.Eh c,T.lT];unfold aH.nrm
  cases b:k.rd t.bL with
  |none=>rw[b]at a;cases a
  |some v=>rfl
 .cases h
def Eg:List aH->List js->T (List J)->Option (ha×List J)
 |[],_,_=>some (.di,[])
 |k::b,ms,t=>match Rw k (ms.headD .f) (t.map λl=>l.headD .undef)with
  |some q=>match Eg b ms.tail (t.map List.tail)with
   |some a=>some (.and q.1 a.1,q.2::a.2)
   |none=>none
  |none=>none
def Rv: ∀{bE:List aH} {ms:List js} {t:T (List J)} {o:ha} {cI:List J},Eg bE ms t=some (o,cI)->o.holds->t.bL.length=bE.length->dZ bE t.bL=some cI
 |[],ms,t,o,cI,h,f,a=>by
  cases h
  have:t.bL=[]:=OW (by simpa using a);rw[this];rfl
 |k::bE,ms,t,o,cI,h,f,a=>by
  simp only[Eg]at h
  split at h<;>try (cases h;done)
  rename_i q e
  split at h<;>try (cases h;done)
  rename_i g i
  cases h
  have c:=apl (o:=q.1) (v:=q.2) e f.1;rw[T.lT]at c
  cases b:t.bL with
  |nil=>rw[b]at a;cases a
  |cons x j=>
   have d:=Rv (bE:=bE) (o:=g.1) (cI:=g.2) i f.2 (by rw[T.lT,b];simpa[b]using a);rw[T.lT,b]at d;rw[b]at c;simp only[List.headD_cons]at c;simp only[List.tail_cons]at d;simp only[dZ,c,d]
def T.zt{α:Type _}(f:α->aW):T α->aW
 | .da a=>f a
 | .ej b l r=> .and (.imp b true (l.zt f)) (.imp b false (r.zt f))
def T.HR{α:Type _}{f:α->aW} : ∀{t:T α},(t.zt f).holds->(f t.bL).holds
 | .da _,h=>h
 | .ej b l r,h=>by
   cases b
   .exact T.HR (t:=r) (h.2 rfl)
   .exact T.HR (t:=l) (h.1 rfl)
def T.HQ{α:Type _}(f:α->aW):T α->aW
 | .da a=>f a
 | .ej _ l r=> .and (l.HQ f) (r.HQ f)
def T.N2{α:Type _}{f:α->aW} : ∀{t:T α},(t.HQ f).holds->(f t.bL).holds
 | .da _,h=>h
 | .ej b l r,h=>by
   cases b
   .exact T.N2 (t:=r) h.2
   .exact T.N2 (t:=l) h.1
structure w4 where
 keep:Nat
 drop:List Key
 bE:List (Key×aH)
 ms:List js
 pm:js:= .f
def ajK:Heap->Heap
 |[]=>[]
 |l::r=>match ajK r with
  |[]=>match l with
   |[]=>[]
   |x::y=>[x::y]
  |a::b=>l::a::b
def aEi(s:O):O:=⟨s.D,ajK s.k⟩
def D3(b:Nat)(a:List Key)(s:O):O:=aEi (xp ⟨agU b s.D,s.k⟩ a)
def meet(m:Nat)(J:w4)(t:T O):Option (aW×O):=
 match t.sL (λs=>(qq J.bE s).isSome)with
 |false=>none
 |true=>match Eg (J.bE.map (·.2)) J.ms (t.map λs=>getAll s (J.bE.map (·.1)))with
  |none=>none
  |some q=>match hV m (zn (D3 J.keep J.drop t.first) (J.bE.map (·.1)) q.2)with
   |true=>some (.and (.es λ_:Unit=>q.1) (t.HQ λs=>kg s (zn (D3 J.keep J.drop t.first) (J.bE.map (·.1)) ((qq J.bE s).getD []))),zn (D3 J.keep J.drop t.first) (J.bE.map (·.1)) q.2)
   |false=>none
def aeO(s:O): ∀a:List Key,(getAll s a).length=a.length
 |[]=>rfl
 |_::a=>by simp [getAll,aeO s a]
def ahr{m:Nat}{J:w4}{t:T O}{o:aW}{jI:O}(h:meet m J t=some (o,jI))(c:o.holds):cz m t.bL jI:=by
 unfold meet at h
 split at h<;>try (cases h;done)
 rename_i g
 split at h<;>try (cases h;done)
 rename_i q d
 split at h<;>try (cases h;done)
 rename_i f
 cases h
 have a:=Rv (o:=q.1) (cI:=q.2) d (c.1 ()) (by rw[T.lT,aeO];simp);rw[T.lT]at a;have b:=T.N2 (t:=t) c.2;have e:qq J.bE t.bL=some q.2:=a;rw[e]at b;exact oK b f
def D4{α:Type}(a b:Bool)(x y:α):(bif a then x else bif b then x else y)=bif(a||b)then x else y:=by cases a<;>rfl
end Go.af
namespace Go.Proofs.YtadmdaokcgjdiaaGreatDoor
open Go Go.RowKit Go.af
def P8(n:Nat)(a:Nat->u):Prop:= ∀i j,i<j->j<n->Op.bytesLess (a i).toList (a j).toList=true
end Go.Proofs.YtadmdaokcgjdiaaGreatDoor
