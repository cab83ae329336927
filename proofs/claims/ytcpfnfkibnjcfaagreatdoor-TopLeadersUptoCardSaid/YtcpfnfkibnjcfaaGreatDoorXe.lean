import Derived.Test.YtcpfnfkibnjcfaaGreatDoorXd
import Derived.Laws.Cover3
import Derived.Lib.Bytealg
import Derived.Test.YtcpfnfkibnjcfaaGreatDoorProg
import Derived.Laws.Externs
open Go.IntKind (i64 u64 u8)
open Int (toNat)
set_option maxRecDepth 100000
set_option maxHeartbeats 4000000
set_option linter.all false
noncomputable section
namespace Go.ag
open Go Go.RowKit
def aFl{P:Program}{T e:TypeId}(w:World)(b:P.underlying T=some (.slice e))(x y:Operand)(a:Option Addr)(l c:Nat):
  (do eqGuard .eql T x y (.slice a l c) (.slice none 0 0);binOp .eql T (.slice a l c) (.slice none 0 0):Sem Value).run P w= .ok (.bool a.isNone) w:=by
 have h:binOp .eql T (.slice a l c) (.slice none 0 0)=(do pure (.bool (<-Op.equal T (.slice a l c) (.slice none 0 0)))):=rfl;rw[h];simp [go_sem,run_equal_slice_nil w T e a l c b]
def WP.FW{E:Env}(H:E.dU){A:Code}{Q:Exit->O->Prop}{st:O}{id:Nat}{g k:Oper}{T B:TypeId}{m:bU}{t d o l n:Nat}{f:Nat->List J}
  (I:E.ty T=some m) (x:m.d.vq=true) (D:g.guard=none) (eL:g.op= .move (.tmp t)) (z:g.dst=some d) (F:k.guard=none) (ef:k.op= .binOp .eql T (.tmp d) (.const (.slice none 0 0)) B) (q1:k.dst=some o)
  (W:st.n[t]? =some (.arr l n f)) (N:d<st.n.length) (h: ∀q:Bool,(q=true->n=0)->WP E A Q ⟨(st.n.set d (.arr l n f)).set o (.bool q),st.k⟩):WP E (.seq (.region id #[g,k] false) A) Q st:=by
 refine WP.seq λS vh ι a w r=>wp_region_list ?_;have Y:=H.ty T m I;have u:=Y.d;obtain⟨e,M⟩: ∃e,E.P.underlying T=some (.slice e):=by
  cases C:m.d<;>rw[C]at x u<;>first|(cases x;done)|exact⟨_,u.1⟩
 have⟨v,Ai,j⟩:=r.n t _ W;have j:a6 w (aX S ι st.k w) (.arr l n f) v:=j;refine E0 D λK p=>dK (v:=a.eval (.tmp t)) (w':=w) (by simp [execOp,eL]) (p _ _ ?_);have L:a.eval (.tmp t)=v:=by simp [Act.eval,J5,Ai]
 rw[L];have G:a2 S ι ⟨st.n.set d (.arr l n f),st.k⟩ (a.put g.dst v) w:=by rw[z];exact r.put d j
 have X:(a.put g.dst v).eval (.tmp d)=v:=by
  have⟨aO,Z,aIY⟩:=r.n d _ (cG N);have P:d<a.tmps.size:=by
   rcases ga d a.tmps.size with h|h
   .exact h
   .simp [QR h]at Z
  simp [Act.eval,Act.put,z,J5,P]
 obtain⟨i,c,y⟩: ∃i c,v= .slice i n c:=by
  cases j with
  |nil=>exact⟨none,0,rfl⟩
  |mt _ _ i c=>exact⟨_,c,rfl⟩
  |arr _ _ _ b aL c=>exact⟨_,c,rfl⟩
 have U:i.isNone=true->n=0:=λR=>by
  rw[y]at j
  cases j<;>first|rfl|(cases R;done)
 refine E0 F λK p=>dK (v:= .bool i.isNone) (w':=w) ?_ (p _ _ ?_)
 .have V:(execOp (a.put g.dst v).eval k).run E.P w=((do eqGuard .eql T (.tmp d) (.const (.slice none 0 0)) ((a.put g.dst v).eval (.tmp d)) (.slice none 0 0);binOp .eql T ((a.put g.dst v).eval (.tmp d)) (.slice none 0 0):Sem Value).run E.P w).andThen λv w=> .ok (.value v) w:=by
   simp only[execOp,ef];rw[Sem.run_bind];rfl
  rw[V,X,y,aFl w M];rfl
 .have s:=G.put o (av:= .bool i.isNone) (v:= .bool i.isNone) (a6.bool _);rw[<-q1]at s;exact⟨ι,_,s,h _ U⟩
def gj(a b:Int):Int:=bif decide (b<a)then b else a
def imax(a b:Int):Int:=bif decide (b>a)then b else a
def Xu(a b:Int):a<=imax a b/\b<=imax a b/\(imax a b=a\/imax a b=b):=by
 unfold imax
 by_cases h:b>a
 .simp [h];omega
 .simp [h];omega
def qm(a b:Int):gj a b<=a/\gj a b<=b/\(gj a b=a\/gj a b=b):=by
 unfold gj
 by_cases h:b<a
 .simp [h];omega
 .simp [h];omega
def Bc{H:Heap}{b b' o:Nat}(cs:List J):M (setAt [] H b cs) b' o=if b'=b then cs.getD o .undef else M H b' o:=Iq H b cs b' o
def WP.atr{E:Env}{x:Code}{Q:Exit->O->Prop}{st:O}(i b:Nat)(cs:List J)(W:st.n[i]? =some (.ptr b 0))(jH:st.k.getD b []=cs)(B:cs.all ot=true)
  (X:x3 ⟨st.n.set i (.ref cs),setAt [] st.k b []⟩=true) (h:WP E x Q ⟨st.n.set i (.ref cs),setAt [] st.k b []⟩) (hm:iy E.m ⟨st.n.set i (.ref cs),setAt [] st.k b []⟩=true:=by rfl):WP E x Q st:=λS vh ι a w g=>by
 simp only[x3,b2]at X;let H:Heap:=setAt [] st.k b [];have U: ∀j (d:j<cs.length),ot cs[j]=true:=λj d=>d_.1 B _ (mb d);have aws: ∀c,ot c=true->c≠ .undef:=by intro c B e;rw[e]at B;cases B
 have awn: ∀c,ot c=true->cv c=false:=by intro c B;cases c<;>first|rfl|(cases B;done)
 have V: ∀j (d:j<cs.length),M st.k b j=cs[j]:=λj d=>by unfold M;rw[jH];simp [List.getD,d]
 have N9: ∀o,M H b o= .undef:=λo=>by rw[Bc,bg rfl];simp
 have avQ: ∀b' o,b'≠b->M H b' o=M st.k b' o:=λb' o gT=>by rw[Bc,aW gT]
 have av2:alive H b=false:=by
  unfold alive;rw[rC,bg rfl]
 have kl: ∀b',alive H b'=true->b'≠b:=λb' h e=>by rw[e,av2]at h;cases h
 let aC:Nat->Option Nat:=λb'=>if alive H b' then ι b' else none
 have r: ∀b',alive H b'=true->aC b'=ι b':=λb' m=>bg m;have q: ∀b' y,aC b'=some y->alive H b'=true/\ι b'=some y:=λb' y m=>by
  by_cases h:alive H b'=true
  .exact⟨h,by rw[<-r b' h];exact m⟩
  .simp [aC,h]at m
 have ht: ∀b',alive H b'=true->b'<H.length:=λb' m=>by
  rcases ga b' H.length with h|h
  .exact h
  .simp [alive,List.getD,fk h]at m
 have axu: ∀b' o,alive H b'=false->M H b' o= .undef:=λb' o h=>by
  unfold alive at h;unfold M
  cases e:H.getD b' []with
  |nil=>rfl
  |cons aL sa=>rw[e]at h;cases h
 have z: ∀b',alive H b'=true-> ∀o,M H b' o=M st.k b' o:=λb' m o=>avQ b' o (kl b' m);have I: ∀y,aX S ι st.k w y->aX S aC H w y:=λy ⟨G,k,fG⟩=>⟨G,k,λb' m l2=>fG b' (pr (λo=>z b' (q b' y l2).1 o) m) (q b' y l2).2⟩;refine h S vh aC a w ⟨g.below,g.defers,λt av p=> ?_,λb' o=> ?_,λcw a5 y G k=>g.inj cw a5 y (q _ _ G).2 (q _ _ k).2,λb' y h=>g.fresh b' y (q _ _ h).2,λb' y h=>ht b' (q _ _ h).1,g.hs.cut S.sq (λb jH=>d_.1 hm b (wg.2 Ω)) r z I⟩
 .have Y:O6 H av=true:=d_.1 X.1 av (fr p);rw[we]at p
  by_cases e:i=t
  .subst e;rw[bg rfl]at p
   split at p
   .cases p
    have⟨v,s,F⟩:=g.n i _ W;have⟨_,y,N,dq⟩:=(show eY S ι st.k w (.ptr b 0) v from F);have Az: ∀j (d:j<cs.length),∃u,w.cell? ⟨y,j,none⟩=some u/\a6 w (aX S aC H w) cs[j] u:=λj d=>by
     have⟨ym,u,D,K,_,L⟩:=(g.k b j).box (by rw[V j d];exact aws _ (U j d)) (by rw[V j d];exact awn _ (U j d));rw[N]at D;cases D;rw[V j d]at L;refine⟨u,K,a6.mono I (λ_ _ _=>rfl) ?_⟩;have ag9:=U j d;generalize cs[j]=c at ag9 L
     cases c<;>first|(cases ag9;done)|exact L
    have xO:=g.fresh b y N;refine⟨v,s,?_⟩;rw[dq];refine(show a6 w (aX S aC H w) (.ref cs) _ from .ref cs y 0 (λj=>cs.getD j .undef) (λj=>(w.cell? ⟨y,0+j,none⟩).getD undef) ⟨g.own N,xO.2,λb' _ he=> ?_⟩ (λj d=> ?_) (λj d=> ?_) λj d=> ?_)
    .obtain⟨G,k⟩:=q b' y he;exact kl b' G (g.inj b' b y k N)
    .simp [List.getD,d]
    .obtain⟨u,IV,_⟩:=Az j d;simp [IV]
    .obtain⟨u,IV,XP⟩:=Az j d;simpa[List.getD,d,IV]using XP
   .cases p
  .rw[aW e]at p;have⟨v,s,F⟩:=g.n t av p;exact⟨v,s,aji r z I Y F⟩
 .show fC aC H w (aX S aC H w) b' o (M H b' o)
  cases A:alive H b' with
  |false=>rw[axu b' o A];trivial
  |true=>
   have k:=g.k b' o;have Y: ∀av,M H b' o=av->av≠ .undef->D8 H av=true:=λav e ahv=>by
    unfold M at e
    cases P:H[b']? with
    |none=>simp [List.getD,P]at e;exact absurd e.symm ahv
    |some l=>
     simp only[List.getD,P,mM]at e
     cases R:l[o]? with
     |none=>rw[R]at e;exact absurd e.symm ahv
     |some aL=>
      rw[R]at e;simp only[mM]at e;subst e;exact d_.1 (d_.1 X.2 l (fr P)) aL (fr R)
   have fv:cv (M H b' 0)=cv (M st.k b' 0):=by rw[z b' A 0]
   have k:fC ι st.k w (aX S ι st.k w) b' o (M H b' o):=by rw[z b' A o];exact k
   cases e:M H b' o<;>rw[e]at k
   case undef=>trivial
   case ad ro af n f=>
    obtain⟨s,ck|⟨F,gh⟩⟩:=k
    .exact⟨s,.inl ⟨ck.1,ck.2.1,by rw[r b' A];exact ck.2.2⟩⟩
    refine⟨s,.inr ⟨F,?_⟩⟩;rw[r b' A];exact gh.imp id λ⟨x,C,T,D,K,Z⟩=>⟨x,C,T,D,K,λi j W d=>by
     have⟨av,v,tl,tm,AH⟩:=Z i j W d;exact⟨av,v,tl,tm,AH.mono I λ_ _ _=>rfl⟩⟩
   all_goals
    obtain⟨IN,x,v,D,K,Z,L⟩:=k;exact⟨by rw[fv];exact IN,x,v,by rw[r b' A];exact D,K,Z,O5 r z I (Y _ e Χ) L⟩
def WP.asV{E:Env}{C:Code}{Q:Exit->O->Prop}{st:O}{id:Nat}{m n o ib:Oper}{t0 t1 b c e d3:Nat}{x y:z}{k:IntKind}{r:Int}
  (M:m.guard=none) (Y:m.op= .move (.tmp t0)) (hX:m.dst=some b) (N:n.guard=none) (Z:n.op= .move (.tmp t1)) (q1:n.dst=some c) (P:o.guard=none) (gw:o.dst=some e) (R:ib.guard=none) (PH:ib.op= .assign (.tmp e)) (A0:ib.dst=some d3)
  (W:st.n[t0]? =some (.str x)) (X:st.n[t1]? =some (.str y)) (A:b≠t1/\b≠c) (s:b<st.n.length/\c<st.n.length/\e<st.n.length)
  (ek: ∀(ρ:Operand->Value) (w:World),(∀f,ρ (.func f)= .func (.func f) #[] #[])->ρ (.tmp b)= .string x->ρ (.tmp c)= .string y->(execOp ρ o).run E.P w= .ok (.value (.int k r)) w)
  (h:WP E C Q ⟨(((st.n.set b (.str x)).set c (.str y)).set e (.int k r)).set d3 (.int k r),st.k⟩):WP E (.seq (.region id #[m,n,o,ib] false) C) Q st:=by
 refine WP.seq λS vh ι a w B=>wp_region_list ?_;have size: ∀{i:List J} {H:Heap} {a:Act} {d:Nat},a2 S ι ⟨i,H⟩ a w->d<i.length->d<a.tmps.size:=λ{i H a d} h T=>by
  have⟨hA,V,_⟩:=h.n d _ (cG T);rcases ga d a.tmps.size with h|h
  .exact h
  .simp [QR h]at V
 have j: ∀{i:List J} {H:Heap} {a:Act} {t:Nat} {av:J},a2 S ι ⟨i,H⟩ a w->i[t]? =some av->bA S ι H w av (a.eval (.tmp t)):=λ{i H a t av} h U=>by
  have:=h.eval (.tmp t);simpa[aE,List.getD,U]using this
 have F:=j B W;have p:=B.put b F;rw[<-hX]at p;refine E0 M λK g=>dK (v:=a.eval (.tmp t0)) (w':=w) (by simp [execOp,Y]) (g _ _ ?_);generalize Wg:a.put m.dst (a.eval (.tmp t0))=aL at p |-;have G:=j (t:=t1) (av:= .str y) p (by rw[E4 A.1];exact X);have l:=p.put c G;rw[<-q1]at l;refine E0 N λK g=>dK (v:=aL.eval (.tmp t1)) (w':=w) (by simp [execOp,Z]) (g _ _ ?_);generalize aIt:aL.put n.dst (aL.eval (.tmp t1))=aO at l |-;have I:=bA.str (j (t:=b) (av:= .str x) l (by rw[E4 (Ne.symm A.2),we,bg rfl,bg (by simpa using s.1)]));have L:=bA.str (j (t:=c) (av:= .str y) l (by rw[we,bg rfl,bg (by simpa using s.2.1)]));have q:=l.put e (av:= .int k r) (v:= .int k r) (a6.int k r);rw[<-gw]at q;refine E0 P λK g=>dK (v:= .int k r) (w':=w) (ek _ _ (λ_=>rfl) I L) (g _ _ ?_);generalize aIu:aO.put o.dst (Value.int k r)=D at q |-;have bo:=j (t:=e) (av:= .int k r) q (by rw[we,bg rfl,bg (by simpa using s.2.2)]);have u:=q.put d3 bo;rw[<-A0]at u;refine E0 R λK g=>dK (v:=D.eval (.tmp e)) (w':=w) (by simp [execOp,PH]) (g _ _ ?_);exact⟨ι,_,u,h⟩
def WP.IM{E:Env}{x y:Code}{Q:Exit->O->Prop}{st:O}(a:O)(h:WP E x (iT (λs=>tT s a) Q) st)(k:WP E y Q a)(b:iy E.m a=true:=by rfl):WP E (.seq x y) Q st:=WP.join a h k b
def Fw(f g:Nat->List J)(i:Nat):iH 0 f g i=g i:=by
 have:Nat.blt i 0=false:=by cases i<;>rfl
 simp only[iH,this,aB,Nat.sub_zero]
def wH(x y:J):J:=
 match y with
 | .undef=> .undef
 | .bool _=>match x with
   | .lit b=> .bool b
   |x=>x
 | .arr a _ g=>match x with
   | .aH=> .arr a 0 g
   |x=>x
 |_=>x
def BX:List J->List J->List J
 |x::a,y::b=>wH x y::BX a b
 |[],_=>[]
 |x::a,[]=>x::a
def Tu(x y:J):J:=
 match y with
 | .agg a=>match x with
   | .agg cs=> .agg (BX cs a)
   |x=>x
 |y=>wH x y
def kc:List J->List J->List J
 |x::a,y::b=>Tu x y::kc a b
 |[],_=>[]
 |x::a,[]=>x::a
def um:List J->List J->List J
 |x::a,y::c=>(match y with
  | .arr b _ g=>match x with
    | .aH=> .arr b 0 g
    |x=>x
  |_=>x)::um a c
 |[],_=>[]
 |x::a,[]=>x::a
def K1: ∀{c b:List J},um c b=b->ll c b
 |[],[],_=>trivial
 |[],_::_,h=>by simp [um]at h
 |_::_,[],h=>by simp [um]at h
 |x::c,y::b,h=>by
  simp only[um,oa]at h;refine⟨?_,K1 h.2⟩;have a:=h.1
  cases y<;>simp only at a<;>first|exact .inl a|skip
  rename_i d n g
  cases x<;>simp only at a<;>first|exact .inl a|skip
  exact .inr ⟨rfl,d,g,a.symm⟩
def FR(x y:J):J:=
 match y with
 | .ad _ _ _ g=>match x with
   | .ad a b n f=> .ad a b n λi=>um (f i) (g i)
   |x=>x
 | .undef=>match cv x with
   |true=>x
   |false=> .undef
 | .gone=>match x with
   | .undef=> .undef
   | .ad a b n f=> .ad a b n f
   |_=> .gone
 |y=>wH x y
def BW:List J->List J->List J
 |x::a,y::b=>FR x y::BW a b
 |[],_=>[]
 |x::a,[]=>match(x::a).all λz=> !(cv z)with
  |true=>[]
  |false=>x::a
def wI:Heap->Heap->Heap
 |[],a=>match a.all λy=>y.isEmpty with
  |true=>a
  |false=>[]
 |_::_,[]=>[]
 |x::b,y::a=>match y with
  |[]=>[]::wI b a
  |z::c=>BW x (z::c)::wI b a
def K6(s m:O):Option O:=
 match x3 m with
 |true=>some ⟨kc s.n m.n,wI s.k m.k⟩
 |false=>none
def K0{x y:J}(h:wH x y=y):jf x y:=by
 cases y<;>simp only[wH]at h<;>first|trivial|skip
 case bool c=>cases x<;>simp only[J.bool.injEq,reduceCtorEq]at h<;>exact h
 case arr a n g=>cases x<;>simp only[J.arr.injEq,reduceCtorEq]at h<;>first|(obtain⟨_,rfl,_⟩:=h;rfl)|(obtain⟨rfl,rfl,rfl⟩:=h;exact aF.2 ⟨by simp,rfl,λ_ _=>rfl⟩)
 all_goals (subst h;simp [jf,aF])
def ac6: ∀{b a:List J},BX b a=a->Lu b a
 |[],[],_=>trivial
 |[],_::_,h=>by simp [BX]at h
 |_::_,[],h=>by simp [BX]at h
 |x::b,y::a,h=>by
  simp only[BX,oa]at h;exact⟨K0 h.1,ac6 h.2⟩
def arM{x y:J}(h:Tu x y=y):y0 x y:=by
 cases y<;>simp only[Tu]at h<;>simp only[y0]<;>first|exact K0 h|skip
 rename_i a
 cases x<;>simp only[J.agg.injEq,reduceCtorEq]at h |- <;>first|exact ac6 h|exact h.elim
def ac7: ∀{b a:List J},kc b a=a->qX b a
 |[],[],_=>trivial
 |[],_::_,h=>by simp [kc]at h
 |_::_,[],h=>by simp [kc]at h
 |x::b,y::a,h=>by
  simp only[kc,oa]at h;have c:=ac7 h.2;have d:=arM h.1
  cases y<;>first|exact c|exact⟨d,c⟩
def arN{x y:J}(h:FR x y=y):iK x y:=by
 cases y
 case undef=>
  simp only[FR]at h;simp only[iK]
  cases e:cv x with
  |false=>rfl
  |true=>rw[e]at h;simp only at h;subst h;cases e
 case ad j g n f=>
  cases x<;>simp only[FR,J.ad.injEq,reduceCtorEq]at h<;>first|exact h.elim|skip
  obtain⟨rfl,rfl,rfl,h⟩:=h;simp only[iK,aF,yo,Bool.and_self,true_and];exact λi _=>K1 (congrFun h i)
 case bool c=>
  have d:wH x (.bool c)= .bool c:=h;have a:=K0 d
  cases x<;>simp only[jf]at a<;>first|exact a.elim|(simp only[iK,jf,cv,aF];exact⟨rfl,a⟩)
 case arr g n f=>
  have d:wH x (.arr g n f)= .arr g n f:=h;have a:=K0 d
  cases x<;>first|exact(show False from a).elim|exact(aF (b:=true)).2 ⟨rfl,a⟩
 case gone=>cases x<;>first|trivial|(cases h;done)
 all_goals
  simp only[FR,wH]at h;subst h;simp [iK,jf,cv,aF]
def ac5: ∀{a b:List J},BW a b=b->uq a b
 |[],[],_=>by simp [uq,aF]
 |[],_::_,h=>by simp [BW]at h
 |x::a,[],h=>by
  simp only[BW]at h;simp only[uq,aF,and_true]
  cases e:(x::a).all λz=> !(cv z)with
  |true=>rfl
  |false=>rw[e]at h;cases h
 |x::a,y::b,h=>by
  simp only[BW,oa]at h;exact⟨arN h.1,ac5 h.2⟩
def Tv: ∀{xs a:Heap},wI xs a=a->Cd xs a
 |[],a,h=>by
  simp only[wI]at h;simp only[Cd,aF,and_true]
  cases e:a.all λy=>y.isEmpty with
  |true=>rfl
  |false=>
   rw[e]at h;simp only at h;subst h;cases e
 |_::_,[],_=>trivial
 |x::xs,[]::a,h=>by
  simp only[wI,oa]at h;exact Tv (xs:=xs) h.2
 |x::xs,(z::b)::a,h=>by
  simp only[wI,oa]at h;exact⟨ac5 h.1,Tv h.2⟩
def D3{s m:O}(h:K6 s m=some m):tT s m:=by
 unfold K6 at h
 cases e:x3 m with
 |false=>rw[e]at h;cases h
 |true=>
  rw[e]at h;simp only[hI]at h;have a:kc s.n m.n=m.n:=congrArg O.n h;have b:wI s.k m.k=m.k:=congrArg O.k h;exact⟨ac7 a,Tv b,e⟩
def us(n:Nat)(l:List J):List J:=Nat.rec (motive:=λ_=>List J) l (λ_ r=> .undef::r) n
def Canon{α:Type}[Inhabited α](s:I α):Prop:= ∀i,s.n<=i->s.at' i=default
section
variable {α β:Type} [Inhabited α] [Inhabited β]
def acx{a b:Nat}(h:a<b):Nat.blt a b=true:=by rw[jL];exact h
def acv{a b:Nat}(h:b<=a):Nat.blt a b=false:=by
 cases e:Nat.blt a b with
 |false=>rfl
 |true=>exact absurd (hH e) Ω
def scan(a:Int->Bool)(c:Int->β):Nat->Int->Bool×β
 |0,_=>(false,default)
 |m+1,i=>bif a i then(true,c i)else scan a c m (i+1)
def aac(F:Nat->Int->Bool×β)(n:Nat)(a:Int->Bool)(c:Int->β)(g:n<=549755813888)(b: ∀k i,F (k+1) i=bif decide (i<(n:Int))then(cond (a i) (true,c i) (F k (i64 (i+1))))else(false,default)):
  ∀(m k:Nat) (i:Int),0<=i->i+(m:Int)=n->m<=k->F (k+1) i=scan a c m i
 |0,k,i,d,e,f=>by
  rw[b,show decide (i<(n:Int))=false by simp;omega];rfl
 |m+1,k,i,d,e,f=>by
  obtain⟨k,rfl⟩: ∃h,k=h+1:=⟨k-1,Ω⟩;rw[b,show decide (i<(n:Int))=true by simp;omega];simp only[au];rw[E _,aac F n a c g b m k (i+1) Ω Ω Ω];rfl
def ps(F:Nat->Int->Bool×β)(n:Nat)(a:Int->Bool)(c:Int->β)(d:n<=549755813888)(b: ∀k i,F (k+1) i=bif decide (i<(n:Int))then(cond (a i) (true,c i) (F k (i64 (i+1))))else(false,default)):
  F (toNat ((n:Int)-0)+1) 0=scan a c n 0:=aac F n a c d b n _ 0 (bz _) Ω Ω
def EL{a b:Int->Bool}{c d:Int->β} : ∀(m:Nat) (i:Int),(∀j,i<=j->j<i+m->a j=b j)->(∀j,i<=j->j<i+m->c j=d j)->scan a c m i=scan b d m i
 |0,_,_,_=>rfl
 |m+1,i,h,e=>by
  simp only[scan];rw[h i (bz _) Ω,e i (bz _) Ω,EL m (i+1) (λj f g=>h j Ω Ω) (λj f g=>e j Ω Ω)]
def alr{a:Int->Bool}{c:Int->β} : ∀(m:Nat) (i:Int),(∀j,i<=j->j<i+m->a j=false)->scan a c m i=(false,default)
 |0,_,_=>rfl
 |m+1,i,h=>by
  simp only[scan];rw[h i (bz _) Ω];exact alr m (i+1) λj b d=>h j Ω Ω
def Qo{a:Int->Bool}{c:Int->β} : ∀(m:Nat) (i:Int),(scan a c m i).1=true-> ∃j,i<=j/\j<i+m/\a j=true/\(scan a c m i).2=c j
 |0,_,h=>by cases h
 |m+1,i,h=>by
  simp only[scan]at h |-
  cases b:a i with
  |true=>exact⟨i,bz _,Ω,b,rfl⟩
  |false=>
   rw[b]at h;have⟨j,f,g,d,e⟩:=Qo m (i+1) h;exact⟨j,Ω,Ω,d,e⟩
end
def JX{x:Int}(h:(Lit.int .i64 x).wf=true): -9223372036854775808<=x/\x<=9223372036854775807:=by
 simp only[Lit.wf,b2,kS]at h;exact h
def jY(a:Int->Bool):Nat->Int->Bool
 |0,_=>false
 |m+1,i=>a i||jY a m (i+1)
section
variable {β:Type} [Inhabited β]
def JH(a:Int->Bool)(c:Int->β): ∀m i,(scan a c m i).1=jY a m i
 |0,_=>rfl
 |m+1,i=>by
  simp only[scan,jY]
  cases a i
  .simpa using JH a c m (i+1)
  .rfl
def EK(F:Nat->Int->Bool×β)(n:Nat)(a:Int->Bool)(c:Int->β)(d:n<=549755813888)(b: ∀k i,F (k+1) i=bif decide (i<(n:Int))then(cond (a i) (true,c i) (F k (i64 (i+1))))else(false,default)):
  F (toNat ((n:Int)-1)+1) 1=scan a c (n-1) 1:=by
 rcases yr n with h|h
 .subst h;rw[b];rfl
 .exact aac F n a c d b (n-1) _ 1 Ω Ω Ω
def aFB(a:Int->Bool)(c:β)(m:Nat)(i:Int):scan a (λ_=>c) m i=(jY a m i,bif jY a m i then c else default):=by
 have b:=JH a (λ_=>c) m i
 cases h:jY a m i with
 |false=>
  rw[h]at b;have d: ∀m i,jY a m i=false->scan a (λ_=>c) m i=(false,default):=by
   intro m
   induction m with
   |zero=>intro i _;rfl
   |succ m f=>
    intro i hh;simp only[jY,E5]at hh;simp only[scan,hh.1,aB];exact f (i+1) hh.2
  exact d m i h
 |true=>
  rw[h]at b;have⟨j,_,_,_,e⟩:=Qo m i b;exact Prod.ext b e
end
def IG(a:Int->Bool)(m:Nat)(r:Bool×Int)(h:r=scan a (λi=>i) m 0):decide (cond (cond r.1 false true) (-1) r.2>=0)=jY a m 0:=by
 subst h;have d:=JH a (λi=>i) m 0;rw[<-d];rcases Bool.eq_false_or_eq_true (scan a (λi=>i) m 0).1 with h|h
 .obtain⟨j,b,f,_,c⟩:=Qo m 0 h;have e:0<=(scan a (λi=>i) m 0).2:=by rw[c];exact b
  simp [h,e]
 .simp [h]
end Go.ag
namespace Go.Proofs.YtcpfnfkibnjcfaaGreatDoor
open Go Go.ag
def iA:List (Nat×bU):=[
 (3,{size:=1,d:= .int .i64,zero:=[c 0]}),
 (4,{size:=1,d:= .bool,zero:=[.bool false]}),
 (5,{size:=1,d:= .int .u8,zero:=[.int .u8 0]}),
 (9,{size:=1,d:= .string,zero:=[.str ε]}),
 (22,{size:=1,d:= .slice 68 8 72,zero:=[.aH]}),
 (23,{size:=1,d:= .slice 46 11 136,zero:=[.aH]}),
 (24,{size:=1,d:= .slice 95 12 144,zero:=[.aH]}),
 (25,{size:=1,d:= .slice 35 2 16,zero:=[.aH]}),
 (27,{size:=4,d:= .struct [(0,1),(1,1),(2,1),(3,1)],zero:=[.aH,.aH,.aH,c 0]}),
 (30,{size:=1,d:= .slice 53 10 104,zero:=[.aH]}),
 (35,{size:=2,d:= .struct [(0,1),(1,1)],zero:=[c 0,c 0],cmp:=true}),
 (36,{size:=1,d:= .slice 57 10 104,zero:=[.aH]}),
 (38,{size:=3,d:= .struct [(0,1),(1,1),(2,1)],zero:=[c 0,c 0,.aH]}),
 (39,{size:=1,d:= .slice 120 8 128,zero:=[.aH]}),
 (41,{size:=2,d:= .struct [(0,1),(1,1)],zero:=[c 0,.aH]}),
 (42,{size:=1,d:= .slice 128 7 80,zero:=[.aH]}),
 (44,{size:=4,d:= .struct [(0,2),(2,1),(3,1)],zero:=[c 0,.aH,c 0,.aH]}),
 (46,{size:=11,d:= .struct [(0,1),(1,1),(2,1),(3,1),(4,3),(7,4)],zero:=[.bool false,c 0,.bool false,c 0,c 0,c 0,.aH,c 0,.aH,c 0,.aH]}),
 (49,{size:=5,d:= .struct [(0,1),(1,1),(2,1),(3,1),(4,1)],zero:=[c 0,.str ε,.str ε,.str ε,c 0],cmp:=true}),
 (51,{size:=7,d:= .struct [(0,1),(1,1),(2,5)],zero:=[c 0,c 0,c 0,.str ε,.str ε,.str ε,c 0],cmp:=true}),
 (53,{size:=10,d:= .struct [(0,1),(1,1),(2,1),(3,7)],zero:=[c 0,c 0,c 0,c 0,c 0,c 0,.str ε,.str ε,.str ε,c 0],cmp:=true}),
 (57,{size:=10,d:= .struct [(0,1),(1,1),(2,1),(3,7)],zero:=[c 0,c 0,.bool false,c 0,c 0,c 0,.str ε,.str ε,.str ε,c 0],cmp:=true}),
 (60,{size:=1,d:= .int .i64,zero:=[c 0]}),
 (66,{size:=5,d:= .struct [(0,1),(1,1),(2,1),(3,1),(4,1)],zero:=[c 0,c 0,c 0,c 0,.str ε]}),
 (68,{size:=8,d:= .struct [(0,1),(1,1),(2,1),(3,5)],zero:=[c 0,c 0,c 0,c 0,c 0,c 0,c 0,.str ε]}),
 (71,{size:=1,d:= .pointer 85,zero:=[.kn]}),
 (73,{size:=6,d:= .struct [(0,1),(1,1),(2,4)],zero:=[c 0,c 0,c 0,.aH,c 0,.aH]}),
 (74,{size:=3,d:= .array 3 4 1,zero:=[.bool false,.bool false,.bool false]}),
 (75,{size:=3,d:= .array 3 3 1,zero:=[c 0,c 0,c 0]}),
 (76,{size:=1,d:= .slice 138 9 96,zero:=[.aH]}),
 (77,{size:=1,d:= .slice 5 1 1,zero:=[.aH]}),
 (79,{size:=2,d:= .struct [(0,1),(1,1)],zero:=[.aH,c 0]}),
 (80,{size:=1,d:= .slice 110 15 168,zero:=[.aH]}),
 (82,{size:=33,d:= .struct [(0,1),(1,1),(2,1),(3,1),(4,1),(5,1),(6,3),(9,6),(15,4),(19,1),(20,3),(23,3),(26,3),(29,1),(30,2),(32,1)],zero:=[c 0,.bool false,c 0,c 0,c 0,c 0,c 0,c 0,.aH,c 0,c 0,c 0,.aH,c 0,.aH,c 0,.aH,c 0,.aH,c 0,.bool false,.bool false,.bool false,c 0,c 0,c 0,c 0,c 0,c 0,.aH,.aH,c 0,.aH]}),
 (83,{size:=99,d:= .array 3 82 33,zero:=[c 0,.bool false,c 0,c 0,c 0,c 0,c 0,c 0,.aH,c 0,c 0,c 0,.aH,c 0,.aH,c 0,.aH,c 0,.aH,c 0,.bool false,.bool false,.bool false,c 0,c 0,c 0,c 0,c 0,c 0,.aH,.aH,c 0,.aH,c 0,.bool false,c 0,c 0,c 0,c 0,c 0,c 0,.aH,c 0,c 0,c 0,.aH,c 0,.aH,c 0,.aH,c 0,.aH,c 0,.bool false,.bool false,.bool false,c 0,c 0,c 0,c 0,c 0,c 0,.aH,.aH,c 0,.aH,c 0,.bool false,c 0,c 0,c 0,c 0,c 0,c 0,.aH,c 0,c 0,c 0,.aH,c 0,.aH,c 0,.aH,c 0,.aH,c 0,.bool false,.bool false,.bool false,c 0,c 0,c 0,c 0,c 0,c 0,.aH,.aH,c 0,.aH]}),
 (85,{size:=102,d:= .struct [(0,99),(99,1),(100,1),(101,1)],zero:=[c 0,.bool false,c 0,c 0,c 0,c 0,c 0,c 0,.aH,c 0,c 0,c 0,.aH,c 0,.aH,c 0,.aH,c 0,.aH,c 0,.bool false,.bool false,.bool false,c 0,c 0,c 0,c 0,c 0,c 0,.aH,.aH,c 0,.aH,c 0,.bool false,c 0,c 0,c 0,c 0,c 0,c 0,.aH,c 0,c 0,c 0,.aH,c 0,.aH,c 0,.aH,c 0,.aH,c 0,.bool false,.bool false,.bool false,c 0,c 0,c 0,c 0,c 0,c 0,.aH,.aH,c 0,.aH,c 0,.bool false,c 0,c 0,c 0,c 0,c 0,c 0,.aH,c 0,c 0,c 0,.aH,c 0,.aH,c 0,.aH,c 0,.aH,c 0,.bool false,.bool false,.bool false,c 0,c 0,c 0,c 0,c 0,c 0,.aH,.aH,c 0,.aH,.aH,.aH,.aH]}),
 (88,{size:=11,d:= .struct [(0,1),(1,1),(2,6),(8,3)],zero:=[c 0,c 0,c 0,c 0,c 0,.aH,c 0,.aH,c 0,c 0,.aH]}),
 (91,{size:=1,d:= .slice 9 1 16,zero:=[.aH]}),
 (93,{size:=4,d:= .struct [(0,1),(1,1),(2,1),(3,1)],zero:=[c 0,.str ε,c 0,.aH]}),
 (95,{size:=12,d:= .struct [(0,1),(1,7),(8,4)],zero:=[c 0,c 0,c 0,c 0,.str ε,.str ε,.str ε,c 0,c 0,.str ε,c 0,.aH]}),
 (98,{size:=1,d:= .other,zero:=[.undef]}),
 (107,{size:=1,d:= .pointer 82,zero:=[.kn]}),
 (110,{size:=15,d:= .struct [(0,1),(1,1),(2,1),(3,1),(4,1),(5,1),(6,1),(7,1),(8,1),(9,6)],zero:=[c 0,c 0,c 0,c 0,c 0,c 0,.bool false,c 0,.aH,c 0,c 0,c 0,.aH,c 0,.aH]}),
 (115,{size:=1,d:= .slice 123 2 32,zero:=[.aH]}),
 (116,{size:=1,d:= .slice 126 2 24,zero:=[.aH]}),
 (118,{size:=6,d:= .struct [(0,1),(1,1),(2,1),(3,1),(4,1),(5,1)],zero:=[c 0,.str ε,c 0,.aH,.aH,.aH]}),
 (120,{size:=8,d:= .struct [(0,1),(1,6),(7,1)],zero:=[.str ε,c 0,.str ε,c 0,.aH,.aH,.aH,c 0]}),
 (123,{size:=2,d:= .struct [(0,1),(1,1)],zero:=[.str ε,.str ε],cmp:=true}),
 (126,{size:=2,d:= .struct [(0,1),(1,1)],zero:=[.str ε,c 0],cmp:=true}),
 (128,{size:=7,d:= .struct [(0,1),(1,1),(2,1),(3,4)],zero:=[c 0,c 0,c 0,c 0,.str ε,c 0,.aH]}),
 (138,{size:=9,d:= .struct [(0,1),(1,1),(2,7)],zero:=[c 0,c 0,c 0,c 0,c 0,.str ε,.str ε,.str ε,c 0]}),
 (155,{size:=20,d:= .struct [(0,1),(1,1),(2,1),(3,1),(4,10),(14,6)],zero:=[c 0,c 0,c 0,c 0,c 0,c 0,.bool false,c 0,c 0,c 0,.str ε,.str ε,.str ε,c 0,c 0,c 0,c 0,.aH,c 0,.aH]}),
 (170,{size:=1,d:= .slice 155 20 216,zero:=[.aH]}),
 (176,{size:=1,d:= .int .u64,zero:=[.int .u64 0]}),
 (202,{size:=1,d:= .pointer 44,zero:=[.kn]}),
 (213,{size:=1,d:= .struct [(0,1)],zero:=[.aH]}),
 (217,{size:=1,d:= .pointer 219,zero:=[.kn]}),
 (219,{size:=2,d:= .struct [(0,1),(1,1)],zero:=[.aH,.bool false]}),
 (226,{size:=1,d:= .slice 77 1 24,zero:=[.aH]}),
 (230,{size:=1,d:= .pointer 233,zero:=[.kn]}),
 (233,{size:=4,d:= .struct [(0,2),(2,1),(3,1)],zero:=[c 0,.aH,c 0,.bool false]}),
 (239,{size:=1,d:= .int .u64,zero:=[.int .u64 0]}),
 (282,{size:=1,d:= .slice 3 1 8,zero:=[.aH]})
]
def aaB:(iA.all λx=>ET Tryz.prog x.1 x.2)=true:=by kernel_rfl
def Ti:(iA.all λx=>KT Tryz.prog x)=true:=by kernel_rfl
def mixed:Tryz.prog.follows .mixedOrders=true:=by kernel_rfl
def ajq(m:Nat)(l:List (Nat×wj))(a:List (Nat×BD)):Env:=⟨Tryz.prog,Bj iA,JM l,m,Iz a,λ_=>false⟩
def aCh{m:Nat}{l:List (Nat×wj)}{a:List (Nat×BD)}(h:Kx Tryz.prog l)(b:RH Tryz.prog a):(ajq m l a).dU:=adP mixed aaB Ti (aaq h) (WV b)
def AL(l:List (Nat×wj)):Env:=ajq 0 l []
def hW{l:List (Nat×wj)}(h:Kx Tryz.prog l):(AL l).dU:=aCh h trivial
abbrev U:J:= .undef
section
def cE:J->Int
 | .int _ n=>n
 |_=>0
def JQ:J->Bool
 | .bool b=>b
 |_=>false
def iU:J->z
 | .str s=>s
 |_=>ε
variable(l:List J)(x:Int)
def bo:List J:=[c x]
def d3:Int:=cE (l.getD 0 .undef)
def asd(x:Int):d3 (bo x)=x:=rfl
structure bD where
 r:z
 K:z
instance:Inhabited bD:=⟨⟨default,default⟩⟩
def gB(x:bD):List J:=[.str x.r,.str x.K]
def d160:bD:=⟨iU (l.getD 0 .undef),iU (l.getD 1 .undef)⟩
def asa(x:bD):d160 (gB x)=x:=rfl
def c5(x:z):List J:=[.str x]
def d9:z:=iU (l.getD 0 .undef)
def asp(x:z):d9 (c5 x)=x:=rfl
structure bW where
 r:z
 K:Int
instance:Inhabited bW:=⟨⟨default,default⟩⟩
def gC(x:bW):List J:=[.str x.r,c x.K]
def d164:bW:=⟨iU (l.getD 0 .undef),cE (l.getD 1 .undef)⟩
def asb(x:bW):d164 (gC x)=x:=rfl
structure ah where
 r:z
 K:Int
 G:z
 q:Int
 j:(I bD)
 m:(I z)
 ak:(I bW)
 aA:Int
instance:Inhabited ah:=⟨⟨default,default,default,default,default,default,default,default⟩⟩
def ho(x:ah):List J:=[.str x.r,c x.K,.str x.G,c x.q,aV 2 gB x.j,aV 1 c5 x.m,aV 2 gC x.ak,c x.aA]
def d175:ah:=⟨iU (l.getD 0 .undef),cE (l.getD 1 .undef),iU (l.getD 2 .undef),cE (l.getD 3 .undef),jl d160 (l.getD 4 .undef),jl d9 (l.getD 5 .undef),jl d164 (l.getD 6 .undef),cE (l.getD 7 .undef)⟩
def asc(x:ah):d175 (ho x)=x:=rfl
structure ay where
 r:Int
 K:Int
 G:Int
 q:Int
 j:z
 m:Int
 ak:(I z)
instance:Inhabited ay:=⟨⟨default,default,default,default,default,default,default⟩⟩
def hP(x:ay):List J:=[c x.r,c x.K,c x.G,c x.q,.str x.j,c x.m,aV 1 c5 x.ak]
def d137:ay:=⟨cE (l.getD 0 .undef),cE (l.getD 1 .undef),cE (l.getD 2 .undef),cE (l.getD 3 .undef),iU (l.getD 4 .undef),cE (l.getD 5 .undef),jl d9 (l.getD 6 .undef)⟩
def ar_(x:ay):d137 (hP x)=x:=rfl
structure ax where
 r:Int
 K:Int
 G:Bool
 q:Int
 j:Int
 m:Int
 ak:z
 aA:z
 i:z
 aJ:Int
instance:Inhabited ax:=⟨⟨default,default,default,default,default,default,default,default,default,default⟩⟩
def eJ(x:ax):List J:=[c x.r,c x.K,.bool x.G,c x.q,c x.j,c x.m,.str x.ak,.str x.aA,.str x.i,c x.aJ]
def d68:ax:=⟨cE (l.getD 0 .undef),cE (l.getD 1 .undef),JQ (l.getD 2 .undef),cE (l.getD 3 .undef),cE (l.getD 4 .undef),cE (l.getD 5 .undef),iU (l.getD 6 .undef),iU (l.getD 7 .undef),iU (l.getD 8 .undef),cE (l.getD 9 .undef)⟩
def asn(x:ax):d68 (eJ x)=x:=rfl
def cO:List J:=[.int .u8 x]
def d5:Int:=cE (l.getD 0 .undef)
def asm(x:Int):d5 (cO x)=x:=rfl
def adp(x:(I Int)):List J:=[aV 1 cO x]
def d43:(I Int):=jl d5 (l.getD 0 .undef)
def asl(x:(I Int)):d43 (adp x)=x:=rfl
structure bB where
 r:Int
 K:Int
 G:Int
 q:Int
 j:Int
 m:Int
 ak:Bool
 aA:Int
 i:Int
 aJ:Int
 b4:z
 cb:z
 b0:z
 cq:Int
 bn:Int
 c9:Int
 fc:Int
 eH:(I ah)
 fe:Int
 eI:(I ay)
instance:Inhabited bB:=⟨⟨default,default,default,default,default,default,default,default,default,default,default,default,default,default,default,default,default,default,default,default⟩⟩
def Tz(x:bB):List J:=[c x.r,c x.K,c x.G,c x.q,c x.j,c x.m,.bool x.ak,c x.aA,c x.i,c x.aJ,.str x.b4,.str x.cb,.str x.b0,c x.cq,c x.bn,c x.c9,c x.fc,aV 8 ho x.eH,c x.fe,aV 7 hP x.eI]
def d122:bB:=⟨cE (l.getD 0 .undef),cE (l.getD 1 .undef),cE (l.getD 2 .undef),cE (l.getD 3 .undef),cE (l.getD 4 .undef),cE (l.getD 5 .undef),JQ (l.getD 6 .undef),cE (l.getD 7 .undef),cE (l.getD 8 .undef),cE (l.getD 9 .undef),iU (l.getD 10 .undef),iU (l.getD 11 .undef),iU (l.getD 12 .undef),cE (l.getD 13 .undef),cE (l.getD 14 .undef),cE (l.getD 15 .undef),cE (l.getD 16 .undef),jl d175 (l.getD 17 .undef),cE (l.getD 18 .undef),jl d137 (l.getD 19 .undef)⟩
def ar9(x:bB):d122 (Tz x)=x:=rfl
structure aK where
 r:Int
 K:Int
 G:Int
 q:Int
 j:Int
 m:Int
 ak:z
 aA:z
 i:z
 aJ:Int
instance:Inhabited aK:=⟨⟨default,default,default,default,default,default,default,default,default,default⟩⟩
def adq(x:aK):List J:=[c x.r,c x.K,c x.G,c x.q,c x.j,c x.m,.str x.ak,.str x.aA,.str x.i,c x.aJ]
def d75:aK:=⟨cE (l.getD 0 .undef),cE (l.getD 1 .undef),cE (l.getD 2 .undef),cE (l.getD 3 .undef),cE (l.getD 4 .undef),cE (l.getD 5 .undef),iU (l.getD 6 .undef),iU (l.getD 7 .undef),iU (l.getD 8 .undef),cE (l.getD 9 .undef)⟩
def aso(x:aK):d75 (adq x)=x:=rfl
structure ky where
 r:Bool
 K:Int
 G:Bool
 q:Int
 j:Int
 m:Int
 ak:(I ax)
 aA:Int
 i:(I ah)
 aJ:Int
 b4:(I ay)
instance:Inhabited ky:=⟨⟨default,default,default,default,default,default,default,default,default,default,default⟩⟩
def Le(x:ky):List J:=[.bool x.r,c x.K,.bool x.G,c x.q,c x.j,c x.m,aV 10 eJ x.ak,c x.aA,aV 8 ho x.i,c x.aJ,aV 7 hP x.b4]
def ade:ky:=⟨JQ (l.getD 0 .undef),cE (l.getD 1 .undef),JQ (l.getD 2 .undef),cE (l.getD 3 .undef),cE (l.getD 4 .undef),cE (l.getD 5 .undef),jl d68 (l.getD 6 .undef),cE (l.getD 7 .undef),jl d175 (l.getD 8 .undef),cE (l.getD 9 .undef),jl d137 (l.getD 10 .undef)⟩
def asg(x:ky):ade (Le x)=x:=rfl
structure bI where
 r:Int
 K:Int
 G:Int
 q:Int
 j:z
 m:z
 ak:z
 aA:Int
 i:Int
 aJ:z
 b4:Int
 cb:(I z)
instance:Inhabited bI:=⟨⟨default,default,default,default,default,default,default,default,default,default,default,default⟩⟩
def Lc(x:bI):List J:=[c x.r,c x.K,c x.G,c x.q,.str x.j,.str x.m,.str x.ak,c x.aA,c x.i,.str x.aJ,c x.b4,aV 1 c5 x.cb]
def ada:bI:=⟨cE (l.getD 0 .undef),cE (l.getD 1 .undef),cE (l.getD 2 .undef),cE (l.getD 3 .undef),iU (l.getD 4 .undef),iU (l.getD 5 .undef),iU (l.getD 6 .undef),cE (l.getD 7 .undef),cE (l.getD 8 .undef),iU (l.getD 9 .undef),cE (l.getD 10 .undef),jl d9 (l.getD 11 .undef)⟩
def ase(x:bI):ada (Lc x)=x:=rfl
structure aw where
 r:Int
 K:Int
instance:Inhabited aw:=⟨⟨default,default⟩⟩
def Ld(x:aw):List J:=[c x.r,c x.K]
def adb:aw:=⟨cE (l.getD 0 .undef),cE (l.getD 1 .undef)⟩
def asf(x:aw):adb (Ld x)=x:=rfl
structure hz where
 r:Int
 K:Int
 G:Int
 q:Int
 j:Int
 m:z
 ak:z
 aA:z
 i:Int
instance:Inhabited hz:=⟨⟨default,default,default,default,default,default,default,default,default⟩⟩
def ado(x:hz):List J:=[c x.r,c x.K,c x.G,c x.q,c x.j,.str x.m,.str x.ak,.str x.aA,c x.i]
def adg:hz:=⟨cE (l.getD 0 .undef),cE (l.getD 1 .undef),cE (l.getD 2 .undef),cE (l.getD 3 .undef),cE (l.getD 4 .undef),iU (l.getD 5 .undef),iU (l.getD 6 .undef),iU (l.getD 7 .undef),cE (l.getD 8 .undef)⟩
def asi(x:hz):adg (ado x)=x:=rfl
structure ai where
 r:Int
 K:Int
 G:Int
 q:Int
 j:Int
 m:Int
 ak:Bool
 aA:Int
 i:(I ax)
 aJ:Int
 b4:Int
 cb:Int
 b0:(I ah)
 cq:Int
 bn:(I ay)
instance:Inhabited ai:=⟨⟨default,default,default,default,default,default,default,default,default,default,default,default,default,default,default⟩⟩
def jw(x:ai):List J:=[c x.r,c x.K,c x.G,c x.q,c x.j,c x.m,.bool x.ak,c x.aA,aV 10 eJ x.i,c x.aJ,c x.b4,c x.cb,aV 8 ho x.b0,c x.cq,aV 7 hP x.bn]
def _root_.Go.j5(a b:Int)(x:ai):List J:=[c a,c b,c x.G,c x.q,c x.j,c x.m,.bool x.ak,c x.aA,aV 10 eJ x.i,c x.aJ,c x.b4,c x.cb,aV 8 ho x.b0,c x.cq,aV 7 hP x.bn]
def adf:ai:=⟨cE (l.getD 0 .undef),cE (l.getD 1 .undef),cE (l.getD 2 .undef),cE (l.getD 3 .undef),cE (l.getD 4 .undef),cE (l.getD 5 .undef),JQ (l.getD 6 .undef),cE (l.getD 7 .undef),jl d68 (l.getD 8 .undef),cE (l.getD 9 .undef),cE (l.getD 10 .undef),cE (l.getD 11 .undef),jl d175 (l.getD 12 .undef),cE (l.getD 13 .undef),jl d137 (l.getD 14 .undef)⟩
def ash(x:ai):adf (jw x)=x:=rfl
structure h6 where
 r:Int
 K:Int
 G:Int
 q:Int
 j:Int
 m:Int
 ak:Int
 aA:z
instance:Inhabited h6:=⟨⟨default,default,default,default,default,default,default,default⟩⟩
def B6(x:h6):List J:=[c x.r,c x.K,c x.G,c x.q,c x.j,c x.m,c x.ak,.str x.aA]
def ov:h6:=⟨cE (l.getD 0 .undef),cE (l.getD 1 .undef),cE (l.getD 2 .undef),cE (l.getD 3 .undef),cE (l.getD 4 .undef),cE (l.getD 5 .undef),cE (l.getD 6 .undef),iU (l.getD 7 .undef)⟩
def asj(x:h6):ov (B6 x)=x:=rfl
end
end Go.Proofs.YtcpfnfkibnjcfaaGreatDoor
namespace Go.ag
open Go Go.RowKit
structure cZ where
 T:Type
 xV:Inhabited T
 af:Nat
 e:T->List J
 d:List J->T
 pP: ∀x,d (e x)=x
inductive aG:Type 1 where
 |int (k:IntKind)
 |bool
 |str
 |ab (E:cZ)
 |ad (E:cZ)
@[reducible] def aG.ty:aG->Type
  | .int _=>Int
  | .bool=>Bool
  | .str=>ByteArray
  | .ab E=>I E.T
  | .ad E=>I E.T
def aG.mX:(k:aG)->k.ty
 | .int _=>default
 | .bool=>default
 | .str=>default
 | .ab E=>have:=E.xV;default
 | .ad E=>have:=E.xV;default
def aG.av:(k:aG)->k.ty->J
 | .int k,n=> .int k n
 | .bool,b=> .bool b
 | .str,s=> .str s
 | .ab E,s=>aV E.af E.e s
 | .ad E,s=> .ad false E.af s.n λi=>E.e (s.at' i)
def akI(k:IntKind)(x:J):Option Int:=
 match x with
 | .int a n=>match decide (a=k)with
   |true=>some n
   |false=>none
 |_=>none
def ZI(x:J):Option Bool:=
 match x with
 | .bool b=>some b
 | .lit b=>some b
 |_=>none
def aEM(x:J):Option ByteArray:=
 match x with
 | .str s=>some s
 |_=>none
def akK(E:cZ)(x:J):Option (I E.T):=
 match x with
 | .arr a n f=>match Nat.beq a E.af with
   |true=>some ⟨n,λi=>E.d (f i)⟩
   |false=>none
 | .aH=>some (@B E.T E.xV)
 |_=>none
def akJ(E:cZ)(x:J):Option (I E.T):=
 match x with
 | .ad a b n f=>match a with
   |true=>none
   |false=>match Nat.beq b E.af with
    |true=>some ⟨n,λi=>E.d (f i)⟩
    |false=>none
 |_=>none
def aG.rd:(k:aG)->J->Option k.ty
 | .int k,x=>akI k x
 | .bool,x=>ag.ZI x
 | .str,x=>aEM x
 | .ab E,x=>akK E x
 | .ad E,x=>akJ E x
def aG.canon: ∀(k:aG) (x:k.ty),k.rd (k.av x)=some x
 | .int k,x=>by simp [aG.rd,aG.av,akI]
 | .bool,x=>rfl
 | .str,x=>rfl
 | .ab E,x=>by simp [aG.rd,aG.av,akK,aV,E.pP]
 | .ad E,x=>by simp [aG.rd,aG.av,akJ,E.pP]
@[reducible] def ea:List aG->Type
  |[]=>Unit
  |[k]=>k.ty
  |k::a::r=>k.ty×ea (a::r)
def ea.cons:{k:aG} ->{a:List aG} ->k.ty->ea a->ea (k::a)
 |_,[],x,_=>x
 |_,_::_,x,s=>(x,s)
def ea.mX:(a:List aG)->ea a
 |[]=>()
 |k::a=>ea.cons k.mX (ea.mX a)
def ea.hM:(b:List aG)->ea b->List J
 |[],_=>[]
 |[k],x=>[k.av x]
 |k::a::r,s=>k.av s.1::ea.hM (a::r) s.2
def tB:(b:List aG)->List J->Option (ea b)
 |[],[]=>some ()
 |[k],[x]=>k.rd x
 |k::a::r,x::c=>match k.rd x with
  |some v=>match tB (a::r) c with
   |some s=>some (v,s)
   |none=>none
  |none=>none
 |_,_=>none
def aG.nrm(k:aG)(x:J):Option J:=
 match k.rd x with
 |some v=>some (k.av v)
 |none=>none
def et:List aG->List J->Option (List J)
 |[],[]=>some []
 |k::a,x::b=>match k.nrm x with
  |some y=>match et a b with
   |some c=>some (y::c)
   |none=>none
  |none=>none
 |_,_=>none
def aG.Jf{k:aG}{x y:J}(h:k.nrm x=some y): ∃v,y=k.av v/\k.rd y=some v:=by
 unfold aG.nrm at h
 split at h
 .rename_i v e
  cases h
  exact⟨v,rfl,aG.canon k v⟩
 .cases h
def En: ∀{bF:List aG} {xs cL:List J},et bF xs=some cL-> ∃s,tB bF cL=some s/\ea.hM bF s=cL
 |[],[],cL,h=>by cases h;exact⟨(),rfl,rfl⟩
 |[k],[x],cL,h=>by
  simp only[et]at h
  split at h<;>try exact Ζ
  rename_i y e
  cases h
  have⟨v,a,b⟩:=aG.Jf e;exact⟨v,b,by simp only[ea.hM,a]⟩
 |k::g::r,x::xs,cL,h=>by
  simp only[et]at h
  split at h<;>try exact Ζ
  rename_i y e
  split at h<;>try exact Ζ
  rename_i i c
  cases h
  have⟨v,a,b⟩:=aG.Jf e;have⟨s,d,f⟩:=En (bF:=g::r) (xs:=xs) (cL:=i) (by simpa only[et]using c);exact⟨(v,s),by simp only[tB,b,d],by simp only[ea.hM,a,f]⟩
 |[],_::_,_,h=>by cases h
 |_::_,[],_,h=>by cases h
 |[k],x::y::r,cL,h=>by
  simp only[et]at h
  split at h<;>cases h
def BK:(b:List aG)->(ea b->Prop)->Prop
 |[],p=>p ()
 |[k],p=> ∀x:k.ty,p x
 |k::a::r,p=> ∀x:k.ty,BK (a::r) λs=>p (x,s)
def Fv: ∀(b:List aG) (p:ea b->Prop),BK b p↔ ∀s,p s
 |[],p=>⟨λh _=>h,λh=>h ()⟩
 |[k],p=>Iff.rfl
 |k::a::r,p=>by
  simp only[BK];constructor
  .intro h s;exact(Fv (a::r) _).1 (h s.1) s.2
  .intro h x;exact(Fv (a::r) _).2 λs=>h (x,s)
inductive cg:Type 1 where
 |dr
 |e {α:Type} (a b:α)
 |and (l r:cg)
def cg.holds:cg->Prop
 | .dr=>True
 | .e a b=>a=b
 | .and l r=>l.holds/\r.holds
inductive aZ:Type 1 where
 |dr
 |p (q:Prop)
 |e {α:Type} (a b:α)
 |es {σ:Type} (f:σ->cg)
 |and (l r:aZ)
 |imp (b c:Bool) (r:aZ)
 |xI (q:Prop) (r:aZ)
 |all (bF:List aG) (I:ea bF->Prop) (f:ea bF->aZ)
def aZ.holds:aZ->Prop
 | .dr=>True
 | .p q=>q
 | .e a b=>a=b
 | .es f=> ∀k,(f k).holds
 | .and l r=>l.holds/\r.holds
 | .imp b c r=>b=c->r.holds
 | .xI q r=>q->r.holds
 | .all _ I f=> ∀s,I s->(f s).holds
def aZ.l1:aZ->Bool
 | .p _=>true
 | .and l r=>match l.l1 with
   |true=>true
   |false=>r.l1
 | .imp _ _ r=>r.l1
 | .xI _ r=>r.l1
 | .all .. =>true
 |_=>false
def aZ.prop:aZ->Prop
 | .dr=>True
 | .p q=>q
 | .e _ _=>True
 | .es _=>True
 | .and l r=>match l.l1 with
   |true=>match r.l1 with
    |true=>l.prop/\r.prop
    |false=>l.prop
   |false=>r.prop
 | .imp b c r=>match r.l1 with
   |true=>b=c->r.prop
   |false=>True
 | .xI q r=>match r.l1 with
   |true=>q->r.prop
   |false=>True
 | .all a I f=>BK a λs=>I s->(f s).prop
inductive pD:Type 1 where
 |nil
 |c {α:Type} (a:α)
 |and (l r:pD)
 |lam {σ:Type} (f:σ->pD)
def cg.h0:cg->pD
 | .dr=> .nil
 | .e a _=> .c a
 | .and l r=> .and l.h0 r.h0
def cg.iR:cg->pD
 | .dr=> .nil
 | .e _ b=> .c b
 | .and l r=> .and l.iR r.iR
def cg.ok: ∀(o:cg),o.h0=o.iR->o.holds
 | .dr,_=>trivial
 | .e a b,h=>by
   simp only[cg.h0,cg.iR,pD.c.injEq,heq_eq_eq,true_and]at h;exact h
 | .and l r,h=>by
   simp only[cg.h0,cg.iR,pD.and.injEq]at h;exact⟨cg.ok l h.1,cg.ok r h.2⟩
def aZ.h0:aZ->pD
 | .e a _=> .c a
 | .es f=> .lam λk=>(f k).h0
 | .and l r=> .and l.h0 r.h0
 | .imp _ _ r=>r.h0
 | .xI _ r=>r.h0
 | .all _ _ f=> .lam λs=>(f s).h0
 |_=> .nil
def aZ.iR:aZ->pD
 | .e _ b=> .c b
 | .es f=> .lam λk=>(f k).iR
 | .and l r=> .and l.iR r.iR
 | .imp _ _ r=>r.iR
 | .xI _ r=>r.iR
 | .all _ _ f=> .lam λs=>(f s).iR
 |_=> .nil
def aZ.soft: ∀(o:aZ),o.l1=false->o.prop
 | .dr,_=>trivial
 | .p _,h=>by cases h
 | .e _ _,_=>trivial
 | .es _,_=>trivial
 | .and l r,h=>by
   simp only[aZ.l1]at h
   cases a:l.l1 with
   |true=>rw[a]at h;cases h
   |false=>
    rw[a]at h;simp only[aZ.prop,a];exact aZ.soft r h
 | .imp b c r,h=>by
   simp only[aZ.l1]at h;simp only[aZ.prop,h]
 | .xI q r,h=>by
   simp only[aZ.l1]at h;simp only[aZ.prop,h]
 | .all ..,h=>by cases h
def aZ.ok: ∀(o:aZ),o.h0=o.iR->o.prop->o.holds
 | .dr,_,_=>trivial
 | .p _,_,h=>h
 | .e a b,h,_=>by
   simp only[aZ.h0,aZ.iR,pD.c.injEq,heq_eq_eq,true_and]at h;exact h
 | .es f,h,_=>by
   simp only[aZ.h0,aZ.iR,pD.lam.injEq,heq_eq_eq,true_and]at h;exact λk=>cg.ok (f k) (congrFun h k)
 | .and l r,h,d=>by
   simp only[aZ.h0,aZ.iR,pD.and.injEq]at h;simp only[aZ.prop]at d
   cases i:l.l1 with
   |true=>
    rw[i]at d
    cases e:r.l1 with
    |true=>rw[e]at d;exact⟨aZ.ok l h.1 d.1,aZ.ok r h.2 d.2⟩
    |false=>rw[e]at d;exact⟨aZ.ok l h.1 d,aZ.ok r h.2 (aZ.soft r e)⟩
   |false=>rw[i]at d;exact⟨aZ.ok l h.1 (aZ.soft l i),aZ.ok r h.2 d⟩
 | .imp b c r,h,d=>by
   simp only[aZ.h0,aZ.iR]at h;simp only[aZ.prop]at d;intro g
   cases e:r.l1 with
   |true=>rw[e]at d;exact aZ.ok r h (d g)
   |false=>exact aZ.ok r h (aZ.soft r e)
 | .xI q r,h,d=>by
   simp only[aZ.h0,aZ.iR]at h;simp only[aZ.prop]at d;intro g
   cases e:r.l1 with
   |true=>rw[e]at d;exact aZ.ok r h (d g)
   |false=>exact aZ.ok r h (aZ.soft r e)
 | .all m I f,h,d=>by
   simp only[aZ.h0,aZ.iR,pD.lam.injEq,heq_eq_eq,true_and]at h;intro s j;exact aZ.ok (f s) (congrFun h s) ((Fv m _).1 d s j)
inductive T (α:Type _) where
 |di (a:α)
 |eG (b:Bool) (l r:T α)
def T.bQ{α:Type _} :T α->α
 | .di a=>a
 | .eG b l r=>match b with
   |true=>l.bQ
   |false=>r.bQ
def T.map{α β:Type _}(f:α->β):T α->T β
 | .di a=> .di (f a)
 | .eG b l r=> .eG b (l.map f) (r.map f)
def T.mH{α β:Type _}(f:α->β): ∀t:T α,(t.map f).bQ=f t.bQ
 | .di _=>rfl
 | .eG b l r=>by cases b<;>simp only[T.map,T.bQ,T.mH f]
def T.prune{α β:Type _}(f:α->Option β):T α->Option (T β)
 | .di a=>match f a with
   |some b=>some (.di b)
   |none=>none
 | .eG b l r=>match l.prune f with
   |some c=>match r.prune f with
    |some d=>some (.eG b c d)
    |none=>some c
   |none=>r.prune f
def T.n5{α β:Type _}{f:α->Option β} : ∀{t:T α} {x:β},f t.bQ=some x-> ∃c,t.prune f=some c/\c.bQ=x
 | .di a,x,h=>by
   simp only[T.bQ]at h;exact⟨.di x,by simp only[T.prune,h],rfl⟩
 | .eG b l r,x,h=>by
   cases b with
   |true=>
    have⟨c,g,d⟩:=T.n5 (t:=l) (show f l.bQ=some x from h);simp only[T.prune,g]
    cases e:r.prune f with
    |none=>exact⟨c,rfl,d⟩
    |some j=>exact⟨.eG true c j,rfl,d⟩
   |false=>
    have⟨c,g,d⟩:=T.n5 (t:=r) (show f r.bQ=some x from h);simp only[T.prune,g]
    cases e:l.prune f with
    |none=>exact⟨c,rfl,d⟩
    |some i=>exact⟨.eG false i c,rfl,d⟩
inductive j7 where
 |f
 |l
 |b (x y:j7)
def T.first{α:Type _} :T α->α
 | .di a=>a
 | .eG _ l _=>l.first
def T.kY{α:Type} :T α->j7->α
 | .di a,_=>a
 | .eG b l r,m=>match m with
   | .f=>bif b then l.kY .f else r.kY .f
   | .l=>l.first
   | .b x y=>bif b then l.kY x else r.kY y
def T.same{α:Type}(a:α):T α->cg
 | .di x=> .e x a
 | .eG _ l r=> .and (l.same a) (r.same a)
def T.BT{α:Type} :T α->j7->cg
 | .di _,_=> .dr
 | .eG _ l r,m=>match m with
   | .f=> .dr
   | .l=> .and (l.same l.first) (r.same l.first)
   | .b x y=> .and (l.BT x) (r.BT y)
def T.Z3{α:Type}{a:α} : ∀{t:T α},(t.same a).holds->t.bQ=a
 | .di _,h=>h
 | .eG b l r,h=>by
   cases b
   .exact T.Z3 (t:=r) h.2
   .exact T.Z3 (t:=l) h.1
def T.acW{α:Type} : ∀(t:T α),t.kY .f=t.bQ
 | .di _=>rfl
 | .eG b l r=>by cases b<;>simp only[T.kY,T.bQ,au,aB,T.acW]
def T.FP{α:Type} : ∀{t:T α} {m:j7},(t.BT m).holds->t.kY m=t.bQ
 | .di _,_,_=>rfl
 | .eG b l r,.f,_=>T.acW _
 | .eG b l r,.l,h=>by
   simp only[T.kY];exact(T.Z3 (t:= .eG b l r) h).symm
 | .eG b l r,.b x y,h=>by
   have a:=T.FP (t:=l) (m:=x) h.1;have c:=T.FP (t:=r) (m:=y) h.2
   cases b
   .simp only[T.kY,aB,T.bQ,c]
   .simp only[T.kY,au,T.bQ,a]
structure cm where
 P:Program
 ty:TypeId->Option bU
 el:TypeId->Option cZ
 spec:FuncId->List J->Option (aZ×J)
 m:Nat:=0
 pc:FuncId->List J->Heap->Option (aZ×List J×Heap):=λ_ _ _=>none
 as5:Nat->List J->Option cZ:=λ_ _=>none
 eV:FuncId->Bool:=λ_=>false
def cm.asr(X:cm)(H:Heap)(x:J):Option cZ:=
 match x with
 | .gr b _ i _=>match M H b 0 with
   | .ad _ a _ f=>X.as5 a (f i)
   |_=>none
 |_=>none
def cm.env(X:cm):Env where
 P:=X.P
 ty:=X.ty
 spec:=λf aa=>match X.spec f aa with
  |some q=>some (some q.1.holds,q.2)
  |none=>none
 m:=X.m
 pc:=λf aa H=>match X.pc f aa H with
  |some q=>some (some q.1.holds,q.2)
  |none=>none
 eV:=X.eV
def dp{α:Type _}(b:Bool)(x:Option α):Option α:=
 match b with
 |true=>x
 |false=>none
def dw{α:Type _}{b:Bool}{x:Option α}{y:α} :dp b x=some y↔b=true/\x=some y:=by
 cases b<;>simp [dp]
abbrev qI:=aZ×J×b3
abbrev i_:=aZ×J
def val(x:Option i_):Option qI:=
 match x with
 |some q=>some (q.1,q.2,[])
 |none=>none
def qx{x:Option i_}{o:aZ}{av:J}{c:b3} :val x=some (o,av,c)↔x=some (o,av)/\c=[]:=by
 cases x with
 |none=>simp [val]
 |some q=>
  obtain⟨a,b⟩:=q;simp only[val,hI,od];constructor
  .rintro⟨rfl,rfl,rfl⟩;exact⟨⟨rfl,rfl⟩,rfl⟩
  .rintro⟨⟨rfl,rfl⟩,rfl⟩;exact⟨rfl,rfl,rfl⟩
def da(av:J):Option i_:=some (.dr,av)
def loadT(t:bU)(H:Heap)(x:J):Option i_:=
 match x with
 | .ptr b o=>dp ((lH H b o t.size).all yH) (da (qM t.d.isAgg (lH H b o t.size)))
 | .ref cs=>dp (decide (t.size<=cs.length)) (da (qM t.d.isAgg (cs.take t.size)))
 | .gr b k i o=>match M H b 0 with
   | .ad _ a n f=>dp (decide (o+t.size<=a)) (some (.and (.e k n) (.p (i<n)),qM t.d.isAgg (((f i).drop o).take t.size)))
   |_=>none
 |_=>none
def O2{t:bU}{H:Heap}{x:J}{o:aZ}{av:J}{K:J->Prop}(h:loadT t H x=some (o,av))(d:o.holds)(c:K av):pg t H x K:=by
 unfold loadT at h;unfold pg
 cases x<;>simp only at h |- <;>try exact Ζ
 .rw[dw,da]at h;obtain⟨a,b⟩:=h
  cases b
  exact aF.2 ⟨a,c⟩
 .split at h
  .rename_i e;rw[dw]at h;obtain⟨a,b⟩:=h
   cases b
   simp only[e];exact⟨d.1,d.2,aF.2 ⟨a,c⟩⟩
  .cases h
 .rw[dw,da]at h;obtain⟨a,b⟩:=h
  cases b
  exact aF.2 ⟨a,c⟩
def cZ.canon(E:cZ)(f:Nat->List J):aZ:= .e f λi=>E.e (E.d (f i))
noncomputable def I.cC{α:Type}(s:I α)(i:Nat)(x:α):I α:=⟨s.n,λj=>bif Nat.beq j i then x else s.at' j⟩
def I.amb{α:Type}(s:I α)(i:Nat)(x:α):(s.cC i x).n=s.n:=rfl
noncomputable def storeT(E:Option cZ)(t:bU)(H:Heap)(x v:J):Option (aZ×b3):=
 match x with
 | .ptr b o=>dp (pv v&&decide ((cellsOf v).length=t.size)&&(lH H b o t.size).all yH&& !(cv (M H b 0))) (some (.dr,iI b (cellsOf v) o))
 | .gr b k i o=>match M H b 0 with
   | .ad c a n f=>match E with
     |some E=>dp (!c&&decide (o+t.size<=a)&&pv (fh v)&&decide ((cellsOf (fh v)).length=t.size)&&(cellsOf (fh v)).all pR&& !((cellsOf (fh v)).isEmpty))
       (some (.and (.e k n) (.and (.p (i<n)) (.and (E.canon f) (.e (tk (f i) (cellsOf (fh v)) o) (E.e (E.d (tk (f i) (cellsOf (fh v)) o)))))),[(b,0,.ad false a n λj=>E.e ((I.cC (⟨n,λi=>E.d (f i)⟩:I E.T) i (E.d (tk (f i) (cellsOf (fh v)) o))).at' j))]))
     |none=>none
   |_=>none
 |_=>none
def aF_{E:Option cZ}{t:bU}{H:Heap}{x v:J}{o:aZ}{ws:b3}{K:b3->Prop}(h:storeT E t H x v=some (o,ws))(l:o.holds)(c:K ws):vZ t H x v K:=by
 unfold storeT at h;unfold vZ
 cases x<;>simp only at h |- <;>try exact Ζ
 .rw[dw]at h;obtain⟨a,b⟩:=h
  cases b
  exact aF.2 ⟨a,c⟩
 .split at h
  .rename_i e
   split at h<;>try exact Ζ
   rename_i E;rw[dw]at h;obtain⟨a,b⟩:=h
   cases b
   simp only[e];obtain⟨f,g,i,k⟩:=l;refine aF.2 ⟨a,f,g,_,λj m=> ?_,c⟩;unfold QD I.cC;simp only
   cases d:Nat.beq j _ with
   |true=>
    have:=ey d;subst this;simp only[au];exact k
   |false=>
    simp only[aB];exact congrFun i j
  .cases h
def TX(t:bU)(H:Heap)(f:Nat)(x:J):Option i_:=
 match t.d with
 | .struct c=>match c[f]? with
   |some (a,_)=>match x with
    | .ptr b o=>da (.ptr b (o+a))
    | .ref cs=>da (.ref (cs.drop a))
    | .gr b k i o=>match M H b 0 with
      | .ad _ _ n _=>some (.e k n,.gr b k i (o+a))
      |_=>none
    |_=>none
   |none=>none
 |_=>none
def atb{t:bU}{H:Heap}{f:Nat}{x:J}{o:aZ}{av:J}{K:J->Prop}(h:TX t H f x=some (o,av))(c:o.holds)(a:K av):uu t H f x K:=by
 unfold TX at h;unfold uu
 split at h<;>try exact Ζ
 rename_i g e;simp only[e]
 split at h<;>try exact Ζ
 rename_i d i b;simp only[b]
 cases x<;>simp only[da]at h |- <;>try exact Ζ
 .cases h;exact a
 .split at h
  .rename_i e;cases h;simp only[e];exact⟨c,a⟩
  .cases h
 .cases h;exact a
def Xv(t:bU)(H:Heap)(x i:J):Option i_:=
 match t.d with
 | .slice _ a _=>match i with
   | .int _ z=>match x with
     | .arr c n f=>dp (decide (c=a)) (some (.p (0<=z/\z<n),.ref ((f z.toNat).take c)))
     | .own b k=>match M H b 0 with
       | .ad _ c n _=>dp (decide (c=a)) (some (.and (.e k n) (.p (0<=z/\z<n)),.gr b k z.toNat 0))
       |_=>none
     |_=>none
   |_=>none
 | .array n _ a=>match i with
   | .int _ z=>match x with
     | .ptr b o=>dp (decide (0<=z)&&decide (z<n)) (da (.ptr b (o+z.toNat*a)))
     | .ref cs=>dp (decide (0<=z)&&decide (z<n)) (da (.ref (cs.drop (z.toNat*a))))
     |_=>none
   |_=>none
 |_=>none
def Xt(E:TypeId->Option bU)(t:bU)(x i:J):Option i_:=
 match t.d with
 | .array n e a=>match i with
   | .int _ z=>match x with
     | .agg cs=>match E e with
       |some u=>dp (decide (0<=z)&&decide (z<n)&&decide (u.size=a)&&decide (z.toNat*a+a<=cs.length)) (da (qM u.d.isAgg ((cs.drop (z.toNat*a)).take a)))
       |none=>none
     |_=>none
   |_=>none
 |_=>none
def axM{E:TypeId->Option bU}{t:bU}{x i:J}{o:aZ}{av:J}{K:J->Prop}(h:Xt E t x i=some (o,av))(f:K av):xT E t x i K:=by
 unfold Xt at h;unfold xT
 split at h<;>try exact Ζ
 rename_i n e g a;simp only[a]
 cases i<;>simp only at h |- <;>try exact Ζ
 cases x<;>simp only at h |- <;>try exact Ζ
 split at h<;>try exact Ζ
 rename_i u b;simp only[b];rw[dw,da]at h;obtain⟨c,d⟩:=h
 cases d
 exact aF.2 ⟨c,f⟩
def axU{t:bU}{H:Heap}{x i:J}{o:aZ}{av:J}{K:J->Prop}(h:Xv t H x i=some (o,av))(d:o.holds)(c:K av):vo t H x i K:=by
 unfold Xv at h;unfold vo
 split at h<;>try exact Ζ
 case h_2 n f g e=>
  simp only[e]
  cases i<;>simp only at h |- <;>try exact Ζ
  cases x<;>simp only at h |- <;>try exact Ζ
  all_goals
   rw[dw,da]at h;obtain⟨a,b⟩:=h
   cases b
   exact aF.2 ⟨a,c⟩
 rename_i f g j e;simp only[e]
 cases i<;>simp only at h |- <;>try exact Ζ
 cases x<;>simp only at h |- <;>try exact Ζ
 .rw[dw]at h;obtain⟨a,b⟩:=h
  cases b
  exact aF.2 ⟨a,d,c⟩
 .split at h
  .rename_i e;rw[dw]at h;obtain⟨a,b⟩:=h
   cases b
   simp only[e];exact aF.2 ⟨a,d.1,d.2,c⟩
  .cases h
def Xy(c:BinOp)(k:IntKind)(a b:Int):Option i_:=
 match c with
 | .add=>da (.int k (k.wrap (a+b)))
 | .sub=>da (.int k (k.wrap (a-b)))
 | .mul=>da (.int k (k.wrap (a*b)))
 | .eql=>da (.bool (a==b))
 | .neq=>da (.bool (a !=b))
 | .lss=>da (.bool (decide (a<b)))
 | .leq=>da (.bool (decide (a<=b)))
 | .gtr=>da (.bool (decide (a>b)))
 | .geq=>da (.bool (decide (a>=b)))
 | .quo=>some (.p (b≠0),.int k (k.wrap (a.tdiv b)))
 | .rem=>some (.p (b≠0),.int k (a.tmod b))
 | .and=>da (.int k (bits .and k a b))
 | .or=>da (.int k (bits .or k a b))
 |_=>none
def ax3{c:BinOp}{k:IntKind}{a b:Int}{o:aZ}{av:J}{K:J->Prop}(h:Xy c k a b=some (o,av))(e:o.holds)(d:K av):xW c k a b K:=by
 unfold Xy at h;unfold xW
 cases c<;>simp only[da]at h |- <;>first|(cases h;done)|(cases h;exact d)|(cases h;exact⟨e,d⟩)
def aah(c:BinOp)(k:IntKind)(a b:Int):Option i_:=
 match c with
 | .shl=>some (.p (0<=b/\b<=k.bits),.int k (k.wrap (a*2^b.toNat)))
 | .shr=>some (.p (0<=b/\b<=k.bits),.int k (a/2^b.toNat))
 |_=>none
def aFG{c:BinOp}{k:IntKind}{a b:Int}{o:aZ}{av:J}{K:J->Prop}(h:aah c k a b=some (o,av))(e:o.holds)(d:K av):Qr c k a b K:=by
 unfold aah at h;unfold Qr
 cases c<;>simp only at h |- <;>first|(cases h;done)|(cases h;exact⟨e,d⟩)
def S2(t:bU)(c:BinOp)(x y:J):Option i_:=
 match x with
 | .int k a=>match y with
   | .int e b=>match OO c with
     |true=>aah c k a b
     |false=>dp (decide (k=e)) (Xy c k a b)
   |_=>none
 | .bool a=>match y with
   | .bool b=>match t.d with
     | .bool=>match c with
       | .eql=>da (.bool (a==b))
       | .neq=>da (.bool (!(a==b)))
       |_=>none
     |_=>none
   |_=>none
 | .str a=>match y with
   | .str b=>match c with
     | .eql=>da (.bool (a.toList==b.toList))
     | .neq=>da (.bool (!(a.toList==b.toList)))
     | .leq=>da (.bool (Op.bytesLess a.toList b.toList||a.toList==b.toList))
     | .gtr=>da (.bool (!(Op.bytesLess a.toList b.toList||a.toList==b.toList)))
     | .lss=>da (.bool (Op.bytesLess a.toList b.toList))
     | .geq=>da (.bool (!Op.bytesLess a.toList b.toList))
     | .add=>some (.p (a.size+b.size<=dL),.str (a++b))
     |_=>none
   |_=>none
 | .agg cs=>match y with
   | .agg d=>dp (t.cmp&&im t.zero cs&&im t.zero d) (match c with
     | .eql=>da (.bool (ke cs d))
     | .neq=>da (.bool (!(ke cs d)))
     |_=>none)
   |_=>none
 |_=>none
def aqC{t:bU}{b:BinOp}{x y:J}{o:aZ}{av:J}{K:J->Prop}(h:S2 t b x y=some (o,av))(d:o.holds)(a:K av):qP t b x y K:=by
 unfold S2 at h
 cases x<;>simp only at h<;>try exact Ζ
 .cases y<;>simp only at h<;>try exact Ζ
  simp only[qP]
  split at h
  .rename_i e;simp only[e];exact aFG h d a
  .rename_i e;simp only[e];rw[dw]at h;exact aF.2 ⟨h.1,ax3 h.2 d a⟩
 .cases y<;>simp only at h<;>try exact Ζ
  split at h<;>try exact Ζ
  rename_i e;simp only[qP,e]
  cases b<;>simp only[da]at h |- <;>first|(cases h;done)|(cases h;exact a)
 .cases y<;>simp only at h<;>try exact Ζ
  simp only[qP]
  cases b<;>simp only[da]at h |- <;>first|(cases h;done)|(cases h;exact a)|(cases h;exact⟨d,a⟩)
 .cases y<;>simp only at h<;>try exact Ζ
  simp only[qP];rw[dw]at h;refine aF.2 ⟨h.1,?_⟩;have c:=h.2
  cases b<;>simp only[da]at c |- <;>first|(cases c;done)|(cases c;exact a)
def aaJ(a:UnOp)(x:J):Option i_:=
 match a with
 | .not=>match x with
   | .bool b=>da (.bool (!b))
   | .lit b=>da (.lit (!b))
   |_=>none
 | .neg=>match x with
   | .int k n=>da (.int k (k.wrap (0-n)))
   |_=>none
 |_=>none
def aGR{a:UnOp}{x:J}{o:aZ}{av:J}{K:J->Prop}(h:aaJ a x=some (o,av))(b:K av):Bk a x K:=by
 unfold aaJ at h
 cases a<;>simp only at h<;>try exact Ζ
 all_goals
  cases x<;>simp only[da]at h<;>first|(cases h;done)|(cases h;exact b)
def KR(c:List (Nat×Nat))(a:List J):List (Nat×Operand)->List J->Option (List J)
 |[],cs=>some cs
 |(i,x)::r,cs=>match c[i]? with
  |some (b,d)=>dp (pv (aE a x)&&decide ((cellsOf (aE a x)).length=d)&&decide (b+d<=cs.length)) (KR c a r (tk cs (cellsOf (aE a x)) b))
  |none=>none
def acC{c:List (Nat×Nat)}{f:List J}{K:List J->Prop} : ∀{d:List (Nat×Operand)} {cs a:List J},KR c f d cs=some a->K a->oq c f d cs K
 |[],cs,a,h,b=>by cases h;exact b
 |(i,x)::r,cs,a,h,b=>by
  simp only[KR]at h;simp only[oq]
  split at h
  .rename_i g j e;rw[dw]at h;simp only[e];exact aF.2 ⟨h.1,acC h.2 b⟩
  .cases h
def X9(H:Heap)(x:J):Option i_:=
 match x with
 | .arr _ n _=>da (.int .i64 n)
 | .aH=>da (.int .i64 0)
 | .str s=>da (.int .i64 s.size)
 | .own b k=>match M H b 0 with
   | .ad _ _ n _=>some (.e k n,.int .i64 n)
   |_=>none
 |_=>none
def aBF{H:Heap}{x:J}{o:aZ}{av:J}{K:J->Prop}(h:X9 H x=some (o,av))(b:o.holds)(a:K av):rM H x K:=by
 unfold X9 at h;unfold rM
 cases x<;>simp only[da]at h |- <;>try exact Ζ
 .cases h;exact a
 .cases h;exact a
 .cases h;exact a
 .split at h
  .rename_i e;cases h;simp only[e];exact⟨b,a⟩
  .cases h
def LH(H:Heap)(x:J):Option i_:=
 match x with
 | .own b k=>match M H b 0 with
   | .ad _ a n f=>some (.e k n,.arr a n f)
   |_=>none
 | .lit b=>da (.bool b)
 |av=>dp (pR av) (da av)
def aeE{H:Heap}{x:J}{o:aZ}{av:J}{K:J->Prop}(h:LH H x=some (o,av))(d:o.holds)(a:K av):jy H x K:=by
 unfold LH at h;unfold jy
 cases x<;>simp only[da,dw]at h |- <;>first|(obtain⟨b,c⟩:=h;cases c;exact aF.2 ⟨b,a⟩)|(cases h;exact a)|skip
 split at h
 .rename_i e;cases h;simp only[e];exact⟨d,a⟩
 .cases h
def F8(H:Heap):List J->Option (aZ×List J)
 |[]=>some (.dr,[])
 |x::r=>match LH H x with
  |some q=>match F8 H r with
   |some a=>some (.and q.1 a.1,q.2::a.2)
   |none=>none
  |none=>none
def T_{H:Heap} : ∀{d:List J} {o:aZ} {cL:List J} {K:List J->Prop},F8 H d=some (o,cL)->o.holds->K cL->m0 H d K
 |[],o,cL,K,h,_,a=>by cases h;exact a
 |x::r,o,cL,K,h,b,a=>by
  simp only[F8]at h
  split at h<;>try exact Ζ
  rename_i q e
  split at h<;>try exact Ζ
  rename_i c f
  cases h
  exact aeE (o:=q.1) (av:=q.2) e b.1 (T_ (o:=c.1) (cL:=c.2) f b.2 a)
def y4(H:Heap)(x:J):Option i_:=
 match x with
 | .agg cs=>match F8 H cs with
   |some q=>some (q.1,.agg q.2)
   |none=>none
 |av=>LH H av
def Ua{H:Heap}{x:J}{o:aZ}{av:J}{K:J->Prop}(h:y4 H x=some (o,av))(b:o.holds)(a:K av):lL H x K:=by
 unfold y4 at h;unfold lL
 cases x<;>simp only at h |- <;>first|exact aeE h b a|skip
 split at h<;>try exact Ζ
 rename_i q e
 cases h
 exact T_ (o:=q.1) (cL:=q.2) e b a
def uz(H:Heap):List J->Option (aZ×List J)
 |[]=>some (.dr,[])
 |x::r=>match y4 H x with
  |some q=>match uz H r with
   |some a=>some (.and q.1 a.1,q.2::a.2)
   |none=>none
  |none=>none
def Uc{H:Heap} : ∀{d:List J} {o:aZ} {cL:List J} {K:List J->Prop},uz H d=some (o,cL)->o.holds->K cL->nF H d K
 |[],o,cL,K,h,_,a=>by cases h;exact a
 |x::r,o,cL,K,h,b,a=>by
  simp only[uz]at h
  split at h<;>try exact Ζ
  rename_i q e
  split at h<;>try exact Ζ
  rename_i c f
  cases h
  exact Ua (o:=q.1) (av:=q.2) e b.1 (Uc (o:=c.1) (cL:=c.2) f b.2 a)
def ZN(aD:Nat)(o:aZ)(r:J)(a:b3):qI:=
 match r with
 | .ad _ b n f=>(o,.own aD n,a++[(aD,0,.ad false b n f)])
 |r=>(o,r,a)
def Ta(X:cm)(H:Heap)(aD:Nat)(f:FuncId)(a:List J):Option qI:=
 match uz H (a.map fh)with
 |some q=>match X.spec f q.2 with
  |some s=>some (ZN aD (.and q.1 s.1) s.2 (pq H s.2 (a.map fh)))
  |none=>none
 |none=>none
def aq9{X:cm}{H:Heap}{aD:Nat}{f:FuncId}{c:List J}{o:aZ}{av:J}{g:b3}{K:J->b3->Prop}(h:Ta X H aD f c=some (o,av,g))(j:o.holds)(b:K av g):wF X.env H aD f c K:=by
 unfold Ta at h
 split at h<;>try exact Ζ
 rename_i q e
 split at h<;>try exact Ζ
 rename_i s i;have d:q.1.holds/\s.1.holds:=by
  simp only[hI]at h;unfold ZN at h
  split at h<;>(cases h;exact j)
 refine Uc (o:=q.1) (cL:=q.2) e d.1 ?_;have bo:X.env.spec f q.2=some (some s.1.holds,s.2):=by simp only[cm.env,i]
 simp only[bo,pj];refine⟨d.2,?_⟩;simp only[hI]at h;unfold ZN at h;unfold vS
 split at h
 .rename_i a
  cases h
  rw[a]at b |-;exact b
 .rename_i a
  cases h
  split
  .rename_i cO;exact absurd cO (a _ _ _ _)
  .exact b
def TS(i:Nat)(x:J):Option i_:=
 match x with
 | .du a=>dp (decide (i<a.length)) (da (a.getD i .undef))
 |_=>none
def asW{i:Nat}{x:J}{o:aZ}{av:J}{K:J->Prop}(h:TS i x=some (o,av))(c:K av):Ca i x K:=by
 unfold TS at h;unfold Ca
 cases x<;>simp only[dw,da]at h |- <;>try exact Ζ
 obtain⟨a,b⟩:=h
 cases b
 exact aF.2 ⟨a,c⟩
def aat(E:cZ)(H:Heap)(a:Bool)(c:Nat)(y:J):Option (aZ×Nat×(Nat->List J)):=
 match y with
 | .aH=>dp (!a) (some (.dr,0,λ_=>E.e (E.d [])))
 | .arr d n f=>dp (!a&&decide (d=c)) (some (.dr,n,f))
 | .str s=>dp (a&&decide (c=1)) (some (.dr,s.size,yD s))
 | .own b k=>match M H b 0 with
   | .ad _ d n f=>dp (!a&&decide (d=c)) (some (.e k n,n,f))
   |_=>none
 |_=>none
def aau{E:cZ}{H:Heap}{j:Bool}{f:Nat}{y:J}{o:aZ}{n:Nat}{g:Nat->List J}{K:Nat->(Nat->List J)->Prop}(h:aat E H j f y=some (o,n,g))(l:o.holds)(c: ∀d,(∀i,i<n->d i=g i)->(y= .aH\/d=g)->K n d):n9 H j f y K:=by
 unfold aat at h;unfold n9
 cases y<;>simp only[dw]at h |- <;>try exact Ζ
 .obtain⟨a,b⟩:=h;cases b;exact aF.2 ⟨a,c _ (λ_ _=>rfl) (.inr rfl)⟩
 .obtain⟨a,b⟩:=h;cases b;exact aF.2 ⟨a,c _ (λi k=>absurd k (dJ _)) (.inl rfl)⟩
 .obtain⟨a,b⟩:=h;cases b;exact aF.2 ⟨a,c _ (λ_ _=>rfl) (.inr rfl)⟩
 .split at h
  .rename_i e;rw[dw]at h;obtain⟨a,b⟩:=h;cases b;simp only[e];exact aF.2 ⟨a,l,c _ (λ_ _=>rfl) (.inr rfl)⟩
  .cases h
def cZ.ab(E:cZ)(n:Nat)(f:Nat->List J):I E.T:=⟨n,λi=>E.d (f i)⟩
def notNil:J->Bool
 | .aH=>false
 |_=>true
noncomputable def SU(h:TypeId->Option cZ)(t:bU)(l:Bool)(H:Heap)(aD:Nat)(x y:J):Option qI:=
 match t.d with
 | .slice e a d=>match h e with
   |some E=>dp (Nat.ble d 256&&Nat.blt 0 a) (match aat E H l a y with
    |some (o,m,g)=>match x with
     | .aH=>dp (notNil y) (some (.and o (.and (E.canon g) (.p (m<=dL))),.own aD m,[(aD,0,.ad false a m λi=>E.e ((E.ab m g).at' i))]))
     | .own b k=>match M H b 0 with
       | .ad j c n f=>dp (!j&&decide (c=a)) (some (.and o (.and (.e k n) (.and (E.canon f) (.and (E.canon g) (.p (n+m<=dL))))),.own b (n+m),[(b,0,.ad false a (n+m) λi=>E.e (((E.ab n f).app (E.ab m g)).at' i))]))
       |_=>none
     | .kX c n f=>dp (decide (c=a)) (some (.and o (.and (E.canon f) (.and (E.canon g) (.p (0<m/\n+m<=dL)))),.own aD (n+m),[(aD,0,.ad false a (n+m) λi=>E.e (((E.ab n f).app (E.ab m g)).at' i))]))
     |_=>none
    |none=>none)
   |none=>none
 |_=>none
def aqq{C:TypeId->Option cZ}{t:bU}{w:Bool}{H:Heap}{aD:Nat}{x y:J}{o:aZ}{av:J}{z:b3}{K:J->b3->Prop}(h:SU C t w H aD x y=some (o,av,z))(c:o.holds)(r:K av z):pG t w H aD x y K:=by
 unfold SU at h
 split at h<;>try exact Ζ
 rename_i e L I B;simp only[pG,B]
 split at h<;>try exact Ζ
 rename_i E G;rw[dw]at h;refine aF.2 ⟨h.1,?_⟩;have a:=h.2;clear h
 split at a<;>try exact Ζ
 rename_i M m g es
 cases x<;>simp only at a<;>try exact Ζ
 .rw[dw]at a;obtain⟨v,a⟩:=a
  cases a
  refine aau es c.1 λp l D=>⟨c.2.2,?_⟩;have d:p=g:=D.resolve_left λe=>by rw[e]at v;cases v
  have j:g=λi=>E.e (E.d (g i)):=c.2.1;rw[d,j];exact r
 .split at a<;>try exact Ζ
  rename_i b k N F n f A;rw[dw]at a;obtain⟨q,a⟩:=a
  cases a
  refine aau es c.1 λp l _=> ?_;simp only[A];refine aF.2 ⟨q,c.2.1,c.2.2.2.2,_,?_,r⟩;have d:f=λi=>E.e (E.d (f i)):=c.2.2.1;have j:g=λi=>E.e (E.d (g i)):=c.2.2.2.1;exact ach (e:=E.e) (s:=E.ab n f) (t:=E.ab m g) rfl rfl (λi _=>congrFun d i) λi u=>(l i u).trans (congrFun j i)
 .rename_i F n f;rw[dw]at a;obtain⟨q,a⟩:=a
  cases a
  refine aau es c.1 λp l _=> ?_;refine aF.2 ⟨q,c.2.2.2.1,c.2.2.2.2,_,?_,r⟩;have d:f=λi=>E.e (E.d (f i)):=c.2.1;have j:g=λi=>E.e (E.d (g i)):=c.2.2.1;exact ach (e:=E.e) (s:=E.ab n f) (t:=E.ab m g) rfl rfl (λi _=>congrFun d i) λi u=>(l i u).trans (congrFun j i)
def Ch(H:Heap):List (List J)->Option (aZ×List (List J))
 |[]=>some (.dr,[])
 |x::r=>match F8 H x with
  |some q=>match Ch H r with
   |some a=>some (.and q.1 a.1,q.2::a.2)
   |none=>none
  |none=>none
def aeB{H:Heap} : ∀{d:List (List J)} {o:aZ} {cL:List (List J)} {K:List (List J)->Prop},Ch H d=some (o,cL)->o.holds->K cL->oB H d K
 |[],o,cL,K,h,_,a=>by cases h;exact a
 |x::r,o,cL,K,h,b,a=>by
  simp only[Ch]at h
  split at h<;>try exact Ζ
  rename_i q e
  split at h<;>try exact Ζ
  rename_i c f
  cases h
  exact T_ (o:=q.1) (cL:=q.2) e b.1 (aeB (o:=c.1) (cL:=c.2) f b.2 a)
def aeA{H:Heap} : ∀{b:List (List J)} {o:aZ} {a:List (List J)},Ch H b=some (o,a)->a.length=b.length
 |[],o,a,h=>by cases h;rfl
 |x::r,o,a,h=>by
  simp only[Ch]at h
  split at h<;>try exact Ζ
  split at h<;>try exact Ζ
  rename_i d c
  cases h
  simp [aeA c]
noncomputable def S6(c:TypeId->Option cZ)(t:bU)(f:List J)(H:Heap)(aD b:Nat)(d:List (Nat×Operand)):Option qI:=
 match t.d with
 | .slice e a _=>match c e with
   |some E=>match l6 a f d 0 with
    |some l=>match Ch H l with
     |some q=>dp (Nat.beq l.length b&&Nat.ble b 4096&&Nat.ble a 4096&&Nat.blt 0 a)
      (some (.and q.1 (.e (q.2.map λx=>um x (E.e (E.d x))) (q.2.map λx=>E.e (E.d x))),.own aD b,e_ H l.flatten++[(aD,0,.ad false a b λi=>E.e ((have:=E.xV;I.lit (q.2.map E.d)).at' i))]))
     |none=>none
    |none=>none
   |none=>none
 |_=>none
def aqJ{r:TypeId->Option cZ}{t:bU}{m:List J}{H:Heap}{aD j:Nat}{k:List (Nat×Operand)}{o:aZ}{av:J}{n:b3}{K:J->b3->Prop}(h:S6 r t m H aD j k=some (o,av,n))(b:o.holds)(u:K av n):sm t m H aD j k K:=by
 unfold S6 at h
 split at h<;>try exact Ζ
 rename_i e z y p;simp only[sm,p]
 split at h<;>try exact Ζ
 rename_i E w
 split at h<;>try exact Ζ
 rename_i l s;simp only[s]
 split at h<;>try exact Ζ
 rename_i q f;obtain⟨D,a⟩:=q;rw[dw]at h;obtain⟨c,h⟩:=h
 cases h
 refine aF.2 ⟨c,aeB f b.1 ⟨_,?_,u⟩⟩;intro i A;simp only[b2]at c;have B:=ey c.1.1.1;have C:a.length=l.length:=aeA f;have b:(a.map λx=>um x (E.e (E.d x)))=a.map λx=>E.e (E.d x):=b.2;have v:i<(a.map E.d).length:=by rw[List.length_map];omega
 have:= @aBM E.T E.xV E.e (a.map E.d) i v;rw[List.map_map]at this;rw[<-this];have g:i<a.length:=by omega
 have d:=congrArg (λq:List (List J)=>q.getD i []) b;simp only[List.getD,hJ,cG g,tM,mM]at d;simp only[List.getD,hJ,cG g,tM,mM,Function.comp];exact K1 d
def Yh(X:cm)(t:bU)(d:List J)(aD:Nat)(l c:Operand):Option qI:=
 match t.d with
 | .slice e a f=>match X.ty e with
   |some b=>match aE d l with
    | .int _ z=>match aE d c with
      | .int _ g=>dp (b.zero.all PJ&&Nat.beq b.zero.length a&&Nat.ble a 4096&&Nat.ble f 4096&&Nat.blt 0 a) (some (.and (.e z g) (.p (0<=z/\z<=4096)),.own aD z.toNat,[(aD,0,.ad false a z.toNat λ_=>b.zero)]))
      |_=>none
    |_=>none
   |none=>none
 |_=>none
def aB5{X:cm}{t:bU}{b:List J}{aD:Nat}{l c:Operand}{o:aZ}{av:J}{d:b3}{K:J->b3->Prop}(h:Yh X t b aD l c=some (o,av,d))(a:o.holds)(n:K av d):tp X.env t b aD l c K:=by
 unfold Yh at h
 split at h<;>try exact Ζ
 rename_i e q p f;simp only[tp,f]
 split at h<;>try exact Ζ
 rename_i D g;have i:X.env.ty e=some D:=g;simp only[i]
 split at h<;>try exact Ζ
 rename_i r z j
 split at h<;>try exact Ζ
 rename_i s u k;simp only[j,k];rw[dw]at h;obtain⟨m,h⟩:=h
 cases h
 exact aF.2 ⟨m,⟨a.1,a.2⟩,n⟩
def yC(a:List J)(d:Int)(o:Option Operand):Option Int:=
 match o with
 |none=>some d
 |some x=>match aE a x with
  | .int _ z=>some z
  |_=>none
def FG{b:List J}{d z:Int}{o:Option Operand}{K:Int->Prop}(h:yC b d o=some z)(a:K z):c4 b d o K:=by
 unfold yC at h;unfold c4
 split at h
 .cases h;exact a
 .rename_i x;simp only
  split at h
  .rename_i e;cases h;simp only[e];exact a
  .cases h
def FD(a:List J)(n:Int)(l h m:Option Operand):Option (Int×Int×Int):=
 match yC a 0 l with
 |some c=>match yC a n h with
  |some b=>match yC a b m with
   |some d=>some (c,b,d)
   |none=>none
  |none=>none
 |none=>none
def S3{c:List J}{n b a fx:Int}{l h m:Option Operand}{K:Int->Int->Int->Prop}(e:FD c n l h m=some (b,a,fx))(g:K b a fx):c4 c 0 l λb=>c4 c n h λa=>c4 c a m λfx=>K b a fx:=by
 unfold FD at e
 split at e<;>try exact Ζ
 rename_i j d
 split at e<;>try exact Ζ
 rename_i i f
 split at e<;>try exact Ζ
 rename_i k bo
 cases e
 exact FG d (FG f (FG bo g))
def Tb(c:Bool)(p q:Prop):aZ:=
 match c with
 |true=> .p (p/\q)
 |false=> .p q
def acH{c:Bool}{p q:Prop}(h:(Tb c p q).holds):q/\(c=true->p):=by
 cases c with
 |true=>exact⟨h.2,λ_=>h.1⟩
 |false=>exact⟨h,λe=>by cases e⟩
def aak(t:bU)(H:Heap)(g:List J)(x:J)(l h m:Option Operand):Option qI:=
 dp (h.isSome|| !(m.isSome)) (match t.d with
 | .slice _ j _=>match x with
   | .arr d n f=>dp (decide (d=j)) (match FD g n l h m with
     |some (c,a,e)=>some (Tb (lG m d) (a=e) (0<=c/\c<=a/\a<=e/\e<=n),vL (lG m d) d (a-c).toNat λi=>f (c.toNat+i),[])
     |none=>none)
   | .aH=>match FD g 0 l h m with
     |some (c,a,e)=>some (.p (c=0/\a=0/\e=0),.aH,[])
     |none=>none
   | .own b k=>match M H b 0 with
     | .ad o d n f=>dp (decide (d=j)) (match FD g n l h m with
       |some (c,a,e)=>some (.and (.e k n) (Tb (lG m d) (a=e) (0<=c/\c<=a/\a<=e/\e<=n)),vL (lG m d) d (a-c).toNat (λi=>f (c.toNat+i)),[(b,0,.ad true d n f)])
       |none=>none)
     |_=>none
   |_=>none
 | .string=>match x with
   | .str s=>match m with
     |none=>match yC g 0 l with
      |some c=>match yC g s.size h with
       |some a=>some (.p (0<=c/\c<=a/\a<=s.size),.str (s.extract c.toNat a.toNat),[])
       |none=>none
      |none=>none
     |some _=>none
   |_=>none
 |_=>none)
def aFO{t:bU}{H:Heap}{p:List J}{x:J}{l hh m:Option Operand}{o:aZ}{av:J}{q:b3}{K:J->b3->Prop}(h:aak t H p x l hh m=some (o,av,q))(b:o.holds)(c:K av q):tF t H p x l hh m K:=by
 unfold aak at h;rw[dw]at h;refine aF.2 ⟨h.1,?_⟩;have a:=h.2;clear h
 split at a<;>try exact Ζ
 .rename_i e w v d;simp only[d]
  cases x<;>simp only at a |- <;>try exact Ζ
  .split at a<;>try exact Ζ
   rename_i j i k bo
   cases a
   exact S3 bo ⟨b,c⟩
  .rw[dw]at a;obtain⟨g,a⟩:=a;refine aF.2 ⟨g,?_⟩
   split at a<;>try exact Ζ
   rename_i j i k bo
   cases a
   exact S3 bo ⟨acH b,c⟩
  .split at a<;>try exact Ζ
   rename_i y z n f u;simp only[u];rw[dw]at a;obtain⟨g,a⟩:=a;refine aF.2 ⟨g,?_⟩
   split at a<;>try exact Ζ
   rename_i j i k bo
   cases a
   exact⟨b.1,S3 bo ⟨acH b.2,c⟩⟩
 .rename_i d;simp only[d]
  cases x<;>simp only at a |- <;>try exact Ζ
  split at a<;>try exact Ζ
  simp only
  split at a<;>try exact Ζ
  rename_i j r
  split at a<;>try exact Ζ
  rename_i i s
  cases a
  exact FG r (FG s ⟨b,c⟩)
def aca(f:Nat->List J):aZ:= .e (λi=>IL ((f i).getD 0 .undef)) λ_=>true
def Tq(t u:bU)(a:Option bU)(H:Heap)(x:J):Option i_:=
 match x with
 | .int _ z=>match u.d with
   | .int k=>match t.d with
     | .int _=>da (.int k (k.wrap z))
     |_=>none
   |_=>none
 | .str s=>match t.d with
   | .string=>match u.d with
     | .string=>da (.str s)
     | .slice .. =>dp (pH u a) (da (.arr 1 s.size (yD s)))
     |_=>none
   |_=>none
 | .arr c n f=>dp (u.d.isStr&&pH t a&&Nat.beq c 1) (some (aca f,.str (bytesOf n f)))
 | .aH=>dp (u.d.isStr&&pH t a) (da (.str ε))
 | .own b d=>match M H b 0 with
   | .ad _ c n f=>dp (u.d.isStr&&pH t a&&Nat.beq c 1) (some (.and (.e d n) (aca f),.str (bytesOf n f)))
   |_=>none
 |_=>none
def arE{t u:bU}{g:Option bU}{H:Heap}{x:J}{o:aZ}{av:J}{K:J->Prop}(h:Tq t u g H x=some (o,av))(f:o.holds)(b:K av):uk t u g H x K:=by
 unfold Tq at h;unfold uk
 cases x<;>simp only[da,dw]at h |- <;>try exact Ζ
 .split at h<;>try exact Ζ
  rename_i d
  split at h<;>try exact Ζ
  rename_i c
  cases h
  simp only[d,c];exact b
 .split at h<;>try exact Ζ
  rename_i d
  split at h<;>try exact Ζ
  .rename_i c
   cases h
   simp only[d,c];exact b
  .rename_i c;rw[dw]at h;obtain⟨a,h⟩:=h
   cases h
   simp only[d,c];exact aF.2 ⟨a,b⟩
 .obtain⟨a,h⟩:=h
  cases h
  exact aF.2 ⟨a,b⟩
 .obtain⟨a,h⟩:=h
  cases h
  exact aF.2 ⟨a,λi _=>congrFun f i,b⟩
 .split at h<;>try exact Ζ
  rename_i e;rw[dw]at h;obtain⟨a,h⟩:=h
  cases h
  simp only[e];exact aF.2 ⟨a,f.1,λi _=>congrFun f.2 i,b⟩
def Yk(x y:J):Option i_:=
 match x with
 | .int k a=>match y with
   | .int c b=>dp (decide (k=c)) (da (.int k (gj a b)))
   |_=>none
 |_=>none
def aCf{x y:J}{o:aZ}{av:J}{K:J->Prop}(h:Yk x y=some (o,av))(b:K av):AJ x y K:=by
 unfold Yk at h
 cases x<;>simp only at h<;>try exact Ζ
 cases y<;>simp only[dw,da]at h<;>try exact Ζ
 obtain⟨a,h⟩:=h
 cases h
 exact aF.2 ⟨a,b⟩
def Yi(x y:J):Option i_:=
 match x with
 | .int k a=>match y with
   | .int c b=>dp (decide (k=c)) (da (.int k (imax a b)))
   |_=>none
 |_=>none
def aCa{x y:J}{o:aZ}{av:J}{K:J->Prop}(h:Yi x y=some (o,av))(b:K av):AI x y K:=by
 unfold Yi at h
 cases x<;>simp only at h<;>try exact Ζ
 cases y<;>simp only[dw,da]at h<;>try exact Ζ
 obtain⟨a,h⟩:=h
 cases h
 exact aF.2 ⟨a,b⟩
def Yx(H:Heap)(x:J):Option i_:=
 match x with
 | .ptr .. =>da x
 | .ref _=>da x
 | .gr b k _ _=>match M H b 0 with
   | .ad _ _ n _=>some (.e k n,x)
   |_=>none
 |_=>none
def aC0{H:Heap}{x:J}{o:aZ}{av:J}{K:J->Prop}(h:Yx H x=some (o,av))(b:o.holds)(a:K av):vI H x K:=by
 unfold Yx at h;unfold vI
 cases x<;>simp only[da]at h |- <;>try exact Ζ
 .cases h;exact a
 .split at h
  .rename_i e;cases h;simp only[e];exact⟨b,a⟩
  .cases h
 .cases h;exact a
def Wn(X:cm)(H:Heap)(aD:Nat)(f:FuncId)(aa:List J):Option qI:=
 dp (nodup (eA H aa)&&(eA H aa).all (λb=>AG (H.getD b [])&&(H.getD b []).all (ow (mem (eA H aa))))&&aa.all (yT (mem (eA H aa))))
  (match X.pc f (aa.map (l7 (pos (eA H aa)))) ((eA H aa).map λb=>(H.getD b []).map (gk (pos (eA H aa))))with
  |some q=>dp (!(q.2.2.isEmpty)&&rX (eA H aa) H q.2.2&&q.2.2.all (λl=>l.all (ow (rN q.2.2.length)))&&q.2.1.all (λr=>yT (rN q.2.2.length) r&&pv r))
    (some (q.1,Qy (q.2.1.map (l7 (vW (eA H aa) aD))),uh (vW (eA H aa) aD) 0 q.2.2))
  |none=>none)
def awl{X:cm}{H:Heap}{aD:Nat}{f:FuncId}{aa:List J}{o:aZ}{av:J}{c:b3}{K:J->b3->Prop}(h:Wn X H aD f aa=some (o,av,c))(j:o.holds)(i:K av c):pa X.env H aD f aa K:=by
 unfold Wn at h;rw[dw]at h;refine aF.2 ⟨h.1,?_⟩;have a:=h.2;clear h
 split at a<;>try exact Ζ
 rename_i q e;have d:X.env.pc f (aa.map (l7 (pos (eA H aa)))) ((eA H aa).map λb=>(H.getD b []).map (gk (pos (eA H aa))))=some (some q.1.holds,q.2):=by simp only[cm.env,e]
 rw[dw]at a;obtain⟨g,a⟩:=a
 cases a
 obtain⟨q1,k,l⟩:=q;rw[d];exact⟨j,aF.2 ⟨g,i⟩⟩
def j3{α:Type _}(X:cm)(T:TypeId)(K:bU->Option α):Option α:=
 match X.ty T with
 |some t=>K t
 |none=>none
def kP{α:Type _}{X:cm}{T:TypeId}{K:bU->Option α}{a:α}(h:j3 X T K=some a): ∃t,X.env.ty T=some t/\K t=some a:=by
 unfold j3 at h
 split at h
 .rename_i t e;exact⟨t,e,h⟩
 .cases h
def kQ{E:Env}{T:TypeId}{t:bU}{K:bU->Prop}(h:E.ty T=some t)(a:K t):eb E T K:=by
 unfold eb;rw[h];exact a
noncomputable def PC(X:cm)(aD:Nat)(a:List J)(H:Heap)(d:Op):Option qI:=
 match d with
 | .move x=>some (.dr,aE a x,[])
 | .assign x=>some (.dr,aE a x,[])
 | .pick c x y=>match aE a c with
   | .lit b=>match b with
     |true=>some (.dr,aE a x,[])
     |false=>some (.dr,aE a y,[])
   |_=>none
 | .alloc T=>j3 X T λt=>dp (!t.zero.isEmpty) (some (.dr,.ptr aD 0,iI aD t.zero 0))
 | .box _ x=>dp (pv (aE a x)&& !(cellsOf (aE a x)).isEmpty) (some (.dr,.ptr aD 0,iI aD (cellsOf (aE a x)) 0))
 | .build T g=>j3 X T λt=>match t.d with
   | .struct s=>match KR s a g.toList t.zero with
     |some cs=>some (.dr,.agg cs,[])
     |none=>none
   |_=>none
 | .load T x=>j3 X T λt=>val (loadT t H (aE a x))
 | .store T x y=>j3 X T λt=>match storeT (X.asr H (aE a x)) t H (aE a x) (aE a y)with
   |some q=>some (q.1,.undef,q.2)
   |none=>none
 | .nilCheck x=>val (Yx H (aE a x))
 | .binOp d T x y _=>j3 X T λt=>val (S2 t d (fh (aE a x)) (fh (aE a y)))
 | .unOp d _ x=>val (aaJ d (aE a x))
 | .fieldAddr T x f=>j3 X T λt=>val (TX t H f (aE a x))
 | .indexAddr T x y=>j3 X T λt=>val (Xv t H (aE a x) (aE a y))
 | .index T x y=>j3 X T λt=>val (Xt X.ty t (aE a x) (aE a y))
 | .extract x i=>val (TS i (aE a x))
 | .buildSlice T r g=>j3 X T λt=>S6 X.el t a H aD r g.toList
 | .makeSlice T l c=>j3 X T λt=>Yh X t a aD l c
 | .slice T x l h m=>j3 X T λt=>aak t H a (aE a x) l h m
 | .convert o n x=>j3 X o λt=>j3 X n λu=>val (Tq t u (wL X.env t u) H (aE a x))
 | .makeFunc p first j=>match p with
   | .func f=>dp (first.toList.isEmpty&&(j.toList.map (aE a)).all acI) (some (.dr,.fn f (j.toList.map (aE a)),[]))
   |_=>none
 | .call c=>match c.callee with
   | .value x=>match aE a x with
     | .fn f e=>match Au X.eV f (c.args.toList.map (aE a)++e)with
       |true=>Wn X H aD f (c.args.toList.map (aE a)++e)
       |false=>dp (e.all ot) (Ta X H aD f (c.args.toList.map (aE a)++e))
     |_=>none
   | .builtin b=>match b with
     | .len=>match c.args.toList with
       |[x]=>match c.argTypes.toList with
        |[T]=>j3 X T λt=>dp (IY t (aE a x)) (val (X9 H (aE a x)))
        |_=>none
       |_=>none
     | .append=>match c.args.toList with
       |[x,y]=>match c.argTypes.toList with
        |[T,k]=>j3 X T λt=>j3 X k λt2=>dp (t2.d.isStr||t2.d.vq) (SU X.el t t2.d.isStr H aD (aE a x) (aE a y))
        |_=>none
       |_=>none
     | .min=>match c.args.toList with
       |[x,y]=>val (Yk (aE a x) (aE a y))
       |_=>none
     | .max=>match c.args.toList with
       |[x,y]=>val (Yi (aE a x) (aE a y))
       |_=>none
     |_=>none
   |_=>none
 |_=>none
def Ep{X:cm}{aD:Nat}{B:List J}{H:Heap}{w:Op}{o:aZ}{av:J}{ws:b3}{K:J->b3->Prop}(h:PC X aD B H w=some (o,av,ws))(n:o.holds)(k:K av ws):jc X.env aD B H w K:=by
 cases w<;>simp only[PC]at h<;>try exact Ζ
 case move x=>cases h;exact k
 case assign x=>cases h;exact k
 case pick c x y=>
  split at h<;>try exact Ζ
  rename_i b e;simp only[jc,e]
  cases b<;>(cases h;exact k)
 case alloc T=>
  have⟨t,j,a⟩:=kP h;rw[dw]at a;obtain⟨d,a⟩:=a
  cases a
  exact kQ j (aF.2 ⟨d,k⟩)
 case box T x=>
  rw[dw]at h;obtain⟨d,a⟩:=h
  cases a
  exact aF.2 ⟨d,k⟩
 case build T G=>
  have⟨t,j,a⟩:=kP h;refine kQ j ?_
  split at a<;>try exact Ζ
  rename_i P e;simp only[e]
  split at a<;>try exact Ζ
  rename_i cs s
  cases a
  exact acC s k
 case load T x=>
  have⟨t,j,a⟩:=kP h;obtain⟨d,rfl⟩:=qx.1 a;exact kQ j (O2 (K:=λav=>K av []) d n k)
 case store T x y=>
  have⟨t,j,a⟩:=kP h
  split at a<;>try exact Ζ
  rename_i q e
  cases a
  exact kQ j (aF_ (o:=q.1) (ws:=q.2) e n k)
 case nilCheck x=>
  obtain⟨d,rfl⟩:=qx.1 h;exact aC0 (K:=λav=>K av []) d n k
 case binOp w T x y I=>
  have⟨t,j,a⟩:=kP h;obtain⟨d,rfl⟩:=qx.1 a;exact kQ j (aqC (K:=λav=>K av []) d n k)
 case unOp w T x=>
  obtain⟨d,rfl⟩:=qx.1 h;exact aGR (K:=λav=>K av []) d k
 case fieldAddr T x f=>
  have⟨t,j,a⟩:=kP h;obtain⟨d,rfl⟩:=qx.1 a;exact kQ j (atb (K:=λav=>K av []) d n k)
 case indexAddr T x y=>
  have⟨t,j,a⟩:=kP h;obtain⟨d,rfl⟩:=qx.1 a;exact kQ j (axU (K:=λav=>K av []) d n k)
 case index T x y=>
  have⟨t,j,a⟩:=kP h;obtain⟨d,rfl⟩:=qx.1 a;exact kQ j (axM (K:=λav=>K av []) d k)
 case extract x i=>
  obtain⟨d,rfl⟩:=qx.1 h;exact asW (K:=λav=>K av []) d k
 case buildSlice T len G=>
  have⟨t,j,a⟩:=kP h;exact kQ j (aqJ a n k)
 case makeSlice T l c=>
  have⟨t,j,a⟩:=kP h;exact kQ j (aB5 a n k)
 case slice T x l hh m=>
  have⟨t,j,a⟩:=kP h;exact kQ j (aFO a n k)
 case convert N M x=>
  have⟨t,j,a⟩:=kP h;have⟨u,d,v⟩:=kP a;obtain⟨A,rfl⟩:=qx.1 v;exact kQ j (kQ d (arE (K:=λav=>K av []) A n k))
 case makeFunc F first O=>
  cases F<;>simp only at h<;>try exact Ζ
  rw[dw]at h;obtain⟨d,a⟩:=h
  cases a
  exact aF.2 ⟨d,k⟩
 case call c=>
  simp only[jc]
  cases z:c.callee with
  |value f=>
   rw[z]at h;simp only at h |-;unfold BP
   split at h<;>try exact Ζ
   rename_i g D h8;simp only[h8];have E:X.env.eV=X.eV:=rfl;rw[E]
   cases C:Au X.eV g (c.args.toList.map (aE B)++D)with
   |true=>rw[C]at h;exact awl h n k
   |false=>
    rw[C]at h;simp only[dw]at h;exact aF.2 ⟨h.1,aq9 h.2 n k⟩
  |invoke r m=>rw[z]at h;cases h
  |builtin b=>
   rw[z]at h
   cases b<;>simp only at h |- <;>try exact Ζ
   case append=>
    split at h<;>try exact Ζ
    rename_i x y p
    split at h<;>try exact Ζ
    rename_i T L s;have⟨t,j,a⟩:=kP h;have⟨u,d,v⟩:=kP a;rw[dw]at v;simp only[p,s];exact kQ j (kQ d (aF.2 ⟨v.1,aqq v.2 n k⟩))
   case min=>
    split at h<;>try exact Ζ
    rename_i x y p;obtain⟨d,rfl⟩:=qx.1 h;simp only[p];exact aCf (K:=λav=>K av []) d k
   case max=>
    split at h<;>try exact Ζ
    rename_i x y p;obtain⟨d,rfl⟩:=qx.1 h;simp only[p];exact aCa (K:=λav=>K av []) d k
   case len=>
    split at h<;>try exact Ζ
    rename_i x p
    split at h<;>try exact Ζ
    rename_i T s;have⟨t,j,a⟩:=kP h;rw[dw]at a;obtain⟨A,rfl⟩:=qx.1 a.2;simp only[p,s];exact kQ j (aF.2 ⟨a.1,aBF A n k⟩)
def DJ(ops:Array Oper)(o:Oper)(a:List J):Option Bool:=
 match o.guard with
 |none=>some true
 |some (j,c)=>match(ops[j]?).bind (·.dst)with
  |some d=>match a.getD d .undef with
   | .lit b=>some (b==c)
   | .gone=>some false
   |_=>none
  |none=>none
def O1(a:Bool)(av:J):Option Bool:=
 match a with
 |true=>match av with
  | .bool b=>some b
  |_=>none
 |false=>none
def adh:Op->Bool
 | .panic .. =>true
 | .makeInterface .. =>true
 |_=>false
abbrev si:=Option (O×List Rec)
def tE(b:Nat):Nat->b3->List J×b3
 |_,[]=>([],[])
 |o,x::r=>match Nat.beq x.1 b&&Nat.beq x.2.1 o with
  |true=>(x.2.2::(tE b (o+1) r).1,(tE b (o+1) r).2)
  |false=>([],x::r)
def IB:Nat->Heap->b3->Heap
 |0,H,a=>bN H a
 |n+1,H,a=>match a with
  |[]=>H
  |x::r=>match x.2.1 with
   |0=>IB n (setAt [] H x.1 (x.2.2::(tE x.1 1 r).1++(H.getD x.1 []).drop ((tE x.1 1 r).1.length+1))) (tE x.1 1 r).2
   |o+1=>IB n (bM H x.1 (o+1) x.2.2) r
def Am(H:Heap)(a:b3):Heap:=IB a.length H a
def alw{α:Type}(d x:α): ∀(p r:List α),setAt d (p++r) p.length x=p++x::r.drop 1
 |[],[]=>rfl
 |[],_::_=>rfl
 |a::p,r=>by simp only[yu,dE,setAt,alw d x p r]
def ava{α:Type}(d x e:α)(l:List α)(i:Nat):(setAt d l i x).getD i e=x:=by
 induction l generalizing i with
 |nil=>
  induction i with
  |zero=>rfl
  |succ i b=>simpa[setAt]using b
 |cons a l b=>
  cases i with
  |zero=>rfl
  |succ i=>simpa[setAt]using b i
def run_eq(b:Nat): ∀(r:b3) (H:Heap) (p q:List J),bN (setAt [] H b (p++q)) r=bN (setAt [] H b (p++(tE b p.length r).1++q.drop (tE b p.length r).1.length)) (tE b p.length r).2
 |[],H,p,q=>by simp [tE]
 |x::r,H,p,q=>by
  unfold tE
  cases e:(Nat.beq x.1 b&&Nat.beq x.2.1 p.length)with
  |false=>simp
  |true=>
   simp only[b2]at e;have a:=ey e.1;have d:=ey e.2;obtain⟨b',g,c⟩:=x;simp only at a d;subst a d;have h:=run_eq b' r H (p++[c]) (q.drop 1);have f:(p++[c]).length=p.length+1:=by simp
   rw[f]at h;show bN (bM (setAt [] H b' (p++q)) b' p.length c) r=_;unfold bM;rw[ava,JJ,alw];simp only[e5,E3]at h;rw[h];simp only[dE,ys,e5,yu,Nat.add_comm]
def Xj: ∀(n:Nat) (H:Heap) (a:b3),IB n H a=bN H a
 |0,_,_=>rfl
 |n+1,H,[]=>rfl
 |n+1,H,(b,o,c)::r=>by
  unfold IB
  cases o with
  |zero=>
   simp only;rw[Xj n];show _=bN (bM H b 0 c) r;unfold bM;have d:setAt .undef (H.getD b []) 0 c=[c]++(H.getD b []).drop 1:=by
    cases H.getD b []<;>rfl
   rw[d];have h:=run_eq b r H [c] ((H.getD b []).drop 1);rw[h];simp only[dE,gx,dj,ys,yu,r6,Nat.add_comm]
  |succ o=>
   simp only;rw[Xj n];rfl
def IA(H:Heap)(ws:b3):Am H ws=bN H ws:=Xj _ _ _
noncomputable def rQ(X:cm)(ops:Array Oper):List Oper->Nat->O->List Rec->Option (aZ×T si)
 |[],_,st,rs=>some (.dr,.di (some (st,rs)))
 |o::a,i,st,rs=>match DJ ops o st.n with
  |none=>none
  |some g=>match g with
   |false=>rQ X ops a (i+1) ⟨k0 o.dst .gone st.n,st.k⟩ (⟨.gone,[],[],[],0,false⟩::rs)
   |true=>match adh o.op with
    |true=>some (.p False,.di none)
    |false=>match PC X (vF st.n st.k o.op) st.n st.k o.op with
     |none=>none
     |some r=>match O1 (JW a i) r.2.1 with
      |some b=>match rQ X ops a (i+1) ⟨k0 o.dst (.lit true) st.n,Am st.k r.2.2⟩ (⟨.lit true,r.2.2,lp X.env st.n o.op,rT st.n st.k o.op,vF st.n st.k o.op,true⟩::rs)with
       |none=>none
       |some q1=>match rQ X ops a (i+1) ⟨k0 o.dst (.lit false) st.n,Am st.k r.2.2⟩ (⟨.lit false,r.2.2,lp X.env st.n o.op,rT st.n st.k o.op,vF st.n st.k o.op,true⟩::rs)with
        |none=>none
        |some c=>some (.and r.1 (.and (.imp b true q1.1) (.imp b false c.1)),.eG b q1.2 c.2)
      |none=>match rQ X ops a (i+1) ⟨k0 o.dst r.2.1 st.n,Am st.k r.2.2⟩ (⟨r.2.1,r.2.2,lp X.env st.n o.op,rT st.n st.k o.op,vF st.n st.k o.op,true⟩::rs)with
       |none=>none
       |some q=>some (.and r.1 q.1,q.2)
def V7{ops:Array Oper}{o:Oper}{st:O}{a skip:Prop}(h:DJ ops o st.n=some true)(k:a):xL ops o st a skip:=by
 unfold DJ at h;unfold xL
 split at h
 .rename_i e;simp only[e];exact k
 .rename_i j f e;simp only[e]
  split at h<;>try exact Ζ
  rename_i d c;simp only[c]
  split at h<;>try exact Ζ
  rename_i b bo;simp only[bo];simp only[hI]at h;simp only[h];exact k
def V8{ops:Array Oper}{o:Oper}{st:O}{c skip:Prop}(h:DJ ops o st.n=some false)(k:skip):xL ops o st c skip:=by
 unfold DJ at h;unfold xL
 split at h
 .cases h
 .rename_i j f e;simp only[e]
  split at h<;>try exact Ζ
  rename_i d a;simp only[a]
  split at h<;>try exact Ζ
  .rename_i b bo;simp only[bo];simp only[hI]at h;simp only[h];exact k
  .rename_i bo;simp only[bo];exact k
def D6{a:Bool}{av:J}{K:J->Prop}(h:match O1 a av with
  |some b=>(b=true->K (.lit true))/\(b=false->K (.lit false))
  |none=>K av):D5 a av K:=by
 unfold O1 at h;unfold D5
 cases a
 .exact h
 .simp only at h |-
  cases av<;>exact h
def Jo{X:cm}{ops:Array Oper}{K:List Rec->O->Prop} : ∀(l:List Oper) (i:Nat) (st:O) (rs:List Rec) (o:aZ) (t:T si),rQ X ops l i st rs=some (o,t)->o.holds->
  (∀s d,t.bQ=some (s,d)->K d.reverse s)->ud X.env ops l i st rs K
 |[],i,st,rs,o,t,h,a,c=>by
  cases h
  exact c st rs rfl
 |p::l,i,st,rs,o,t,h,a,c=>by
  simp only[rQ,IA]at h;simp only[ud]
  split at h<;>try exact Ζ
  rename_i g m
  split at h
  .exact V8 m (Jo l _ _ _ o t h a c)
  .refine V7 m ?_
   split at h
   .cases h;exact a.elim
   split at h<;>try exact Ζ
   rename_i r n;obtain⟨x,w,y⟩:=r
   split at h
   .rename_i b e
    split at h<;>try exact Ζ
    rename_i q1 f
    split at h<;>try exact Ζ
    rename_i u v
    cases h
    refine⟨_,I8 st.n st.k p.op,?_⟩;refine Ep n a.1 (D6 ?_);simp only at e;simp only[e];constructor
    .intro j;subst j;exact Jo l _ _ _ q1.1 q1.2 f (a.2.1 rfl) λs d k=>c s d k
    .intro j;subst j;exact Jo l _ _ _ u.1 u.2 v (a.2.2 rfl) λs d k=>c s d k
   .rename_i e
    split at h<;>try exact Ζ
    rename_i q f
    cases h
    refine⟨_,I8 st.n st.k p.op,?_⟩;refine Ep n a.1 (D6 ?_);simp only at e;simp only[e];exact Jo l _ _ _ q.1 q.2 f a.2 c
def Jq{X:cm}{ops:Array Oper}{K:O->Prop} : ∀(l:List Oper) (i:Nat) (st:O) (rs:List Rec) (o:aZ) (t:T si),rQ X ops l i st rs=some (o,t)->o.holds->
  (∀s e,t.bQ=some (s,e)->K s)->BL X.env ops l i st K
 |[],i,st,rs,o,t,h,a,c=>by
  cases h
  exact c st rs rfl
 |p::l,i,st,rs,o,t,h,a,c=>by
  simp only[rQ,IA]at h;simp only[BL]
  split at h<;>try exact Ζ
  rename_i g m
  split at h
  .exact V8 m (Jq l _ _ _ o t h a c)
  .refine V7 m ?_
   split at h
   .cases h;exact a.elim
   split at h<;>try exact Ζ
   rename_i r n;obtain⟨x,w,y⟩:=r
   split at h
   .rename_i b d
    split at h<;>try exact Ζ
    rename_i q1 f
    split at h<;>try exact Ζ
    rename_i u v
    cases h
    refine Ep n a.1 (D6 ?_);simp only at d;simp only[d];constructor
    .intro j;subst j;exact Jq l _ _ _ q1.1 q1.2 f (a.2.1 rfl) λs e k=>c s e k
    .intro j;subst j;exact Jq l _ _ _ u.1 u.2 v (a.2.2 rfl) λs e k=>c s e k
   .rename_i d
    split at h<;>try exact Ζ
    rename_i q f
    cases h
    refine Ep n a.1 (D6 ?_);simp only at d;simp only[d];exact Jq l _ _ _ q.1 q.2 f a.2 c
inductive fD where
 |nrm (s:O)
 |ext (id:Nat) (s:O)
 |ret (cQ:List J)
 |dead
structure jN where
 o:aZ
 f:Option Prop
 t:T fD
def jN.bad:jN:=⟨.p False,none,.di .dead⟩
def T.uf{α:Type _}(f:α->Bool):T α->Bool
 | .di a=>f a
 | .eG _ l r=>match l.uf f with
   |true=>r.uf f
   |false=>false
def T.BJ{α:Type _}{f:α->Bool} : ∀{t:T α},t.uf f=true->f t.bQ=true
 | .di _,h=>h
 | .eG b l r,h=>by
   simp only[T.uf]at h
   split at h
   .rename_i e
    cases b
    .exact T.BJ (t:=r) h
    .exact T.BJ (t:=l) e
   .cases h
def O0:si->fD
 |some q=> .nrm q.1
 |none=> .dead
noncomputable def kM(X:cm)(ops:Array Oper)(a:Bool)(st:O):jN:=
 match rQ X ops ops.toList 0 st []with
 |none=> .bad
 |some q=>match a with
  |false=>⟨q.1,none,q.2.map O0⟩
  |true=>match q.2.uf (λx=>match x with
    |some y=>indep st.k ops y.2.reverse
    |none=>true)with
   |true=>⟨q.1,none,q.2.map O0⟩
   |false=> .bad
def akO{X:cm}(g:X.env.dU){id:Nat}{ops:Array Oper}{c:Bool}{st:O}{Q:Exit->O->Prop}(a:(kM X ops c st).o.holds)(b: ∀s,(kM X ops c st).t.bQ= .nrm s->Q .normal s):WP X.env (.region id ops c) Q st:=by
 unfold kM at a b;refine WP.YI g ?_;simp only[ny]
 split at a
 .exact a.elim
 .rename_i q e;obtain⟨o,t⟩:=q;simp only[e]at b
  cases c with
  |false=>
   simp only at b a |-;exact Jq _ _ _ _ o t e a λs h d=>b s (by rw[T.mH,d];rfl)
  |true=>
   simp only at b a |-
   split at a
   .rename_i f;simp only[f]at b;refine Jo _ _ _ _ o t e a λs h d=>⟨?_,b s (by rw[T.mH,d];rfl)⟩;have:=T.BJ f;rw[d]at this;exact BE.of this
   .exact a.elim
def Pd(L:List (Nat×Nat))(b p:Nat):Bool:=L.any λx=>Nat.beq x.1 b&&Nat.beq x.2 p
def Jg(H:Heap)(L:List (Nat×Nat)):b3->cg
 |[]=> .dr
 |x::r=>match Pd L x.1 x.2.1 with
  |true=> .and (.e x.2.2 (M H x.1 x.2.1)) (Jg H L r)
  |false=>Jg H L r
def Pt(H:Heap)(L:List (Nat×Nat)):List Rec->cg
 |[]=> .dr
 |r::rs=> .and (Jg H L r.ws) (Pt H L rs)
def YC{H:Heap}{L:List (Nat×Nat)} : ∀{f:b3},(Jg H L f).holds-> ∀b p c,Pd L b p=true->(b,p,c)∈f->c=M H b p
 |[],_,_,_,_,_,h=>by cases h
 |x::r,a,b,p,c,d,h=>by
  unfold Jg at a;rcases ih.1 h with e|e
  .subst e;rw[d]at a;exact a.1
  .split at a
   .exact YC a.2 b p c d e
   .exact YC a b p c d e
def ajY{H:Heap}{L:List (Nat×Nat)} : ∀{rs:List Rec},(Pt H L rs).holds-> ∀b p,Pd L b p=true-> ∀r∈rs,∀c,(b,p,c)∈r.ws->c=M H b p
 |[],_,_,_,_,_,h,_,_=>by cases h
 |hD::rs,f,b,p,d,r,h,c,a=>by
  rcases ih.1 h with e|e
  .subst e;exact YC f.1 b p c d a
  .exact ajY f.2 b p d r e c a
def Pw(H:Heap)(L:List (Nat×Nat)):T si->cg
 | .di a=>match a with
   |some y=>Pt H L y.2.reverse
   |none=> .dr
 | .eG _ l r=> .and (Pw H L l) (Pw H L r)
def YD{H:Heap}{L:List (Nat×Nat)} : ∀{t:T si} {y:O×List Rec},(Pw H L t).holds->t.bQ=some y->(Pt H L y.2.reverse).holds
 | .di a,y,h,e=>by
   simp only[T.bQ]at e;subst e;exact h
 | .eG b l r,y,h,e=>by
   cases b
   .exact YD (t:=r) h.2 e
   .exact YD (t:=l) h.1 e
def Eg(a:List J)(H:Heap)(op:Op):Nat:=match op with
 | .call _=>H.length+32
 |op=>vF a H op
def ajK(a:List J)(H:Heap)(op:Op):H.length<=Eg a H op:=by
 unfold Eg
 split
 .exact r5 _ _
 .exact I8 _ _ _
noncomputable def vK(X:cm)(ops:Array Oper):List Oper->Nat->O->List Rec->Option (aZ×T si)
 |[],_,st,rs=>some (.dr,.di (some (st,rs)))
 |o::a,i,st,rs=>match DJ ops o st.n with
  |none=>none
  |some g=>match g with
   |false=>vK X ops a (i+1) ⟨k0 o.dst .gone st.n,st.k⟩ (⟨.gone,[],[],[],0,false⟩::rs)
   |true=>match adh o.op with
    |true=>some (.p False,.di none)
    |false=>match PC X (Eg st.n st.k o.op) st.n st.k o.op with
     |none=>none
     |some r=>match O1 (JW a i) r.2.1 with
      |some b=>match vK X ops a (i+1) ⟨k0 o.dst (.lit true) st.n,Am st.k r.2.2⟩ (⟨.lit true,r.2.2,lp X.env st.n o.op,rT st.n st.k o.op,Eg st.n st.k o.op,true⟩::rs)with
       |none=>none
       |some q1=>match vK X ops a (i+1) ⟨k0 o.dst (.lit false) st.n,Am st.k r.2.2⟩ (⟨.lit false,r.2.2,lp X.env st.n o.op,rT st.n st.k o.op,Eg st.n st.k o.op,true⟩::rs)with
        |none=>none
        |some c=>some (.and r.1 (.and (.imp b true q1.1) (.imp b false c.1)),.eG b q1.2 c.2)
      |none=>match vK X ops a (i+1) ⟨k0 o.dst r.2.1 st.n,Am st.k r.2.2⟩ (⟨r.2.1,r.2.2,lp X.env st.n o.op,rT st.n st.k o.op,Eg st.n st.k o.op,true⟩::rs)with
       |none=>none
       |some q=>some (.and r.1 q.1,q.2)
def Jm{X:cm}{ops:Array Oper}{K:List Rec->O->Prop} : ∀(l:List Oper) (i:Nat) (st:O) (rs:List Rec) (o:aZ) (t:T si),vK X ops l i st rs=some (o,t)->o.holds->
  (∀s d,t.bQ=some (s,d)->K d.reverse s)->ud X.env ops l i st rs K
 |[],i,st,rs,o,t,h,a,c=>by
  cases h
  exact c st rs rfl
 |p::l,i,st,rs,o,t,h,a,c=>by
  simp only[vK,IA]at h;simp only[ud]
  split at h<;>try exact Ζ
  rename_i g m
  split at h
  .exact V8 m (Jm l _ _ _ o t h a c)
  .refine V7 m ?_
   split at h
   .cases h;exact a.elim
   split at h<;>try exact Ζ
   rename_i r n;obtain⟨x,w,y⟩:=r
   split at h
   .rename_i b e
    split at h<;>try exact Ζ
    rename_i q1 f
    split at h<;>try exact Ζ
    rename_i u v
    cases h
    refine⟨_,ajK st.n st.k p.op,?_⟩;refine Ep n a.1 (D6 ?_);simp only at e;simp only[e];constructor
    .intro j;subst j;exact Jm l _ _ _ q1.1 q1.2 f (a.2.1 rfl) λs d k=>c s d k
    .intro j;subst j;exact Jm l _ _ _ u.1 u.2 v (a.2.2 rfl) λs d k=>c s d k
   .rename_i e
    split at h<;>try exact Ζ
    rename_i q f
    cases h
    refine⟨_,ajK st.n st.k p.op,?_⟩;refine Ep n a.1 (D6 ?_);simp only at e;simp only[e];exact Jm l _ _ _ q.1 q.2 f a.2 c
noncomputable def vR(X:cm)(ops:Array Oper)(L:List (Nat×Nat))(st:O):jN:=
 match vK X ops ops.toList 0 st []with
 |none=> .bad
 |some q=>match q.2.uf (λx=>match x with
   |some y=>At (λb p=>Pv st.k y.2.reverse b p||Pd L b p) ops y.2.reverse
   |none=>true)with
  |true=>⟨.and q.1 (.es λ_:Unit=>Pw st.k L q.2),none,q.2.map O0⟩
  |false=> .bad
def aEV{X:cm}(k:X.env.dU){id:Nat}{ops:Array Oper}{L:List (Nat×Nat)}{st:O}{Q:Exit->O->Prop}(a:(vR X ops L st).o.holds)(d: ∀s,(vR X ops L st).t.bQ= .nrm s->Q .normal s):WP X.env (.region id ops true) Q st:=by
 unfold vR at a d;refine WP.YI k ?_;simp only[ny]
 split at a
 .exact a.elim
 .rename_i q e;obtain⟨o,t⟩:=q;simp only[e]at d;simp only at d a |-
  split at a
  .rename_i g;simp only[g]at d;refine Jm _ _ _ _ o t e a.1 λs m f=>⟨?_,d s (by rw[T.mH,f];rfl)⟩;have:=T.BJ g;rw[f]at this;refine⟨_,λb p l r j c i=> ?_,this⟩;rcases Bool.or_eq_true_iff.1 l with h|h
   .exact ajZ h j i
   .exact ajY (YD (a.2 ()) f) b p h r j c i
  .exact a.elim
inductive Key where
 |t (i:Nat)
 |c (i j:Nat)
 |h (b o:Nat)
 |b (b:Nat)
def Aa(s:O)(k:Key):J:=
 match k with
 | .t i=>s.n.getD i .undef
 | .c i j=>match s.n.getD i .undef with
   | .agg cs=>cs.getD j .undef
   |_=> .undef
 | .h b o=>M s.k b o
 | .b _=> .undef
def Bd(l:List J)(i:Nat)(v:J):List J:=
 match l,i with
 |[],_=>[]
 |_::r,0=>v::r
 |x::r,i+1=>x::Bd r i v
def aae(H:Heap)(b:Nat)(f:List J->List J):Heap:=
 match H,b with
 |[],_=>[]
 |l::r,0=>f l::r
 |l::r,b+1=>l::aae r b f
def PK(s:O)(k:Key)(v:J):O:=
 match k with
 | .t i=>⟨Bd s.n i v,s.k⟩
 | .c i j=>match s.n.getD i .undef with
   | .agg cs=>⟨Bd s.n i (.agg (Bd cs j v)),s.k⟩
   |_=>s
 | .h b o=>⟨s.n,aae s.k b λl=>Bd l o v⟩
 | .b b=>⟨s.n,aae s.k b λ_=>[]⟩
def aky:O->List Key->List J->O
 |s,k::a,v::b=>aky (PK s k v) a b
 |s,_,_=>s
def yU:O->List Key->O
 |s,[]=>s
 |s,k::a=>yU (PK s k .undef) a
def aiO(m:Nat):List J->List J
 |[]=>[]
 |x::r=>(match Nat.beq (m%2) 1 with
  |true=>x
  |false=> .undef)::aiO (m/2) r
def PT(H:Heap)(x:J):J:=
 match x with
 | .own b _=>match M H b 0 with
   | .ad _ _ n _=> .own b n
   |_=> .undef
 | .gr b _ i o=>match M H b 0 with
   | .ad _ _ n _=> .gr b n i o
   |_=> .undef
 |x=>x
def EE(H:Heap)(x:J):J:=
 match x with
 | .agg cs=> .agg (cs.map (PT H))
 |x=>PT H x
def aEU(s:O):O:=⟨s.n.map (EE s.k),s.k.map λl=>l.map (PT s.k)⟩
def AM(base:O)(a:List Key)(b:List J):O:=aEU (aky base a b)
def getAll(s:O):List Key->List J
 |[]=>[]
 |k::a=>Aa s k::getAll s a
def rL(a:List (Key×aG))(s:O):Option (List J):=et (a.map (·.2)) (getAll s (a.map (·.1)))
def TL(x y:J):aZ:=
 match x with
 | .int k a=>match y with
   | .int c b=> .and (.e k c) (.e a b)
   |y=> .e (.int k a) y
 | .bool a=>match y with
   | .bool b=> .e a b
   |y=> .e (.bool a) y
 | .own b n=>match y with
   | .own b' d=> .and (.e b b') (.e n d)
   |y=> .e (.own b n) y
 |x=> .e x y
def asM{x y:J}(h:(TL x y).holds):x=y:=by
 unfold TL at h
 cases x<;>simp only at h<;>first|exact h|skip
 all_goals
  cases y<;>simp only at h<;>first|exact h|skip
 .have a:=h.1;have b:=h.2;simp only[aZ.holds]at a b;rw[a,b]
 .simp only[aZ.holds]at h;rw[h]
 .have a:=h.1;have b:=h.2;simp only[aZ.holds]at a b;rw[a,b]
def Ln:List J->List J->aZ
 |[],[]=> .dr
 |x::a,y::b=> .and (TL x y) (Ln a b)
 |[],_::_=> .p False
 |_::_,[]=> .p False
def TP: ∀{a b:List J},(Ln a b).holds->a=b
 |[],[],_=>rfl
 |x::a,y::b,h=>by
  have c:=asM h.1;have d:=TP h.2;rw[c,d]
 |[],_::_,h=>h.elim
 |_::_,[],h=>h.elim
def TM:Heap->Heap->aZ
 |[],[]=> .dr
 |x::a,y::b=> .and (Ln x y) (TM a b)
 |[],_::_=> .p False
 |_::_,[]=> .p False
def adU: ∀{a b:Heap},(TM a b).holds->a=b
 |[],[],_=>rfl
 |x::a,y::b,h=>by
  have c:=TP h.1;have d:=adU h.2;rw[c,d]
 |[],_::_,h=>h.elim
 |_::_,[],h=>h.elim
def kZ(s m:O):aZ:=
 match K6 s m with
 |some z=> .and (Ln z.n m.n) (TM z.k m.k)
 |none=> .p False
def BY{s m:O}(h:(kZ s m).holds):K6 s m=some m:=by
 unfold kZ at h
 split at h
 .rename_i z e;have a:=TP h.1;have b:=adU h.2;rw[e]
  cases z;cases m
  simp only at a b;rw[a,b]
 .exact h.elim
def pI{s m:O}{k:Nat}(h:(kZ s m).holds)(a:iy k m=true):cB k s m:=tT.le (D3 (BY h)) a
def Tk(k:aG)(m:j7)(t:T J):Option (cg×J):=
 match t.uf (λx=>(k.rd x).isSome)with
 |true=>some ((t.map λx=>(k.rd x).getD k.mX).BT m,k.av ((t.map λx=>(k.rd x).getD k.mX).kY m))
 |false=>none
def arB{k:aG}{m:j7}{t:T J}{o:cg}{v:J}(h:Tk k m t=some (o,v))(c:o.holds):k.nrm t.bQ=some v:=by
 unfold Tk at h
 split at h
 .rename_i e;have a:=T.BJ e
  cases h
  rw[T.FP c,T.mH];unfold aG.nrm
  cases b:k.rd t.bQ with
  |none=>rw[b]at a;cases a
  |some v=>rfl
 .cases h
def FO:List aG->List j7->T (List J)->Option (cg×List J)
 |[],_,_=>some (.dr,[])
 |k::b,ms,t=>match Tk k (ms.headD .f) (t.map λl=>l.headD .undef)with
  |some q=>match FO b ms.tail (t.map List.tail)with
   |some a=>some (.and q.1 a.1,q.2::a.2)
   |none=>none
  |none=>none
def Tj: ∀{bF:List aG} {ms:List j7} {t:T (List J)} {o:cg} {cQ:List J},FO bF ms t=some (o,cQ)->o.holds->t.bQ.length=bF.length->et bF t.bQ=some cQ
 |[],ms,t,o,cQ,h,f,a=>by
  cases h
  have:t.bQ=[]:=aaS (by simpa using a);rw[this];rfl
 |k::bF,ms,t,o,cQ,h,f,a=>by
  simp only[FO]at h
  split at h<;>try exact Ζ
  rename_i q e
  split at h<;>try exact Ζ
  rename_i g i
  cases h
  have c:=arB (o:=q.1) (v:=q.2) e f.1;rw[T.mH]at c
  cases b:t.bQ with
  |nil=>rw[b]at a;cases a
  |cons x j=>
   have d:=Tj (bF:=bF) (o:=g.1) (cQ:=g.2) i f.2 (by rw[T.mH,b];simpa[b]using a);rw[T.mH,b]at d;rw[b]at c;simp only[List.headD_cons]at c;simp only[List.tail_cons]at d;simp only[et,c,d]
def T.AS{α:Type _}(f:α->aZ):T α->aZ
 | .di a=>f a
 | .eG b l r=> .and (.imp b true (l.AS f)) (.imp b false (r.AS f))
def T.Jj{α:Type _}{f:α->aZ} : ∀{t:T α},(t.AS f).holds->(f t.bQ).holds
 | .di _,h=>h
 | .eG b l r,h=>by
   cases b
   .exact T.Jj (t:=r) (h.2 rfl)
   .exact T.Jj (t:=l) (h.1 rfl)
def T.Ji{α:Type _}(f:α->aZ):T α->aZ
 | .di a=>f a
 | .eG _ l r=> .and (l.Ji f) (r.Ji f)
def T.PA{α:Type _}{f:α->aZ} : ∀{t:T α},(t.Ji f).holds->(f t.bQ).holds
 | .di _,h=>h
 | .eG b l r,h=>by
   cases b
   .exact T.PA (t:=r) h.2
   .exact T.PA (t:=l) h.1
structure yz where
 keep:Nat
 drop:List Key
 bF:List (Key×aG)
 ms:List j7
 pm:j7:= .f
def alU:Heap->Heap
 |[]=>[]
 |l::r=>match alU r with
  |[]=>match l with
   |[]=>[]
   |x::y=>[x::y]
  |a::b=>l::a::b
def aGD(s:O):O:=⟨s.n,alU s.k⟩
def Fz(b:Nat)(a:List Key)(s:O):O:=aGD (yU ⟨aiO b s.n,s.k⟩ a)
def meet(m:Nat)(J:yz)(t:T O):Option (aZ×O):=
 match t.uf (λs=>(rL J.bF s).isSome)with
 |false=>none
 |true=>match FO (J.bF.map (·.2)) J.ms (t.map λs=>getAll s (J.bF.map (·.1)))with
  |none=>none
  |some q=>match iy m (AM (Fz J.keep J.drop t.first) (J.bF.map (·.1)) q.2)with
   |true=>some (.and (.es λ_:Unit=>q.1) (t.Ji λs=>kZ s (AM (Fz J.keep J.drop t.first) (J.bF.map (·.1)) ((rL J.bF s).getD []))),AM (Fz J.keep J.drop t.first) (J.bF.map (·.1)) q.2)
   |false=>none
def agP(s:O): ∀a:List Key,(getAll s a).length=a.length
 |[]=>rfl
 |_::a=>by simp [getAll,agP s a]
def ajp{m:Nat}{J:yz}{t:T O}{o:aZ}{km:O}(h:meet m J t=some (o,km))(c:o.holds):cB m t.bQ km:=by
 unfold meet at h
 split at h<;>try exact Ζ
 rename_i g
 split at h<;>try exact Ζ
 rename_i q d
 split at h<;>try exact Ζ
 rename_i f
 cases h
 have a:=Tj (o:=q.1) (cQ:=q.2) d (c.1 ()) (by rw[T.mH,agP];simp);rw[T.mH]at a;have b:=T.PA (t:=t) c.2;have e:rL J.bF t.bQ=some q.2:=a;rw[e]at b;exact pI b f
section
variable {S:ez} {ι:Nat->Option Nat} {st:O} {a:Act} {w:World}
def cB.su{m:Nat}{g sa:List J}{H:Heap}{o:aZ}(h:uz H g=some (o,sa))(D:o.holds):cB m ⟨g,H⟩ ⟨sa,bN H (e_ H g)⟩:=by
 intro S _ ι a w y;have⟨i,E⟩:=y.freeze (H':=bN H (e_ H g)) (yc g) (tf _ _);have C: ∃d:List Value,bb (bA S ι (bN H (e_ H g)) w) g d/\ ∀(t:Nat) v,d[t]? =some v->a.tmps[t]? =some v:=by
  have G: ∀(l:List J) (k:Nat),(∀(t:Nat) av,l[t]? =some av-> ∃v,a.tmps[k+t]? =some v/\bA S ι (bN H (e_ H g)) w av v)-> ∃d:List Value,bb (bA S ι (bN H (e_ H g)) w) l d/\ ∀(t:Nat) v,d[t]? =some v->a.tmps[k+t]? =some v:=by
   intro l
   induction l with
   |nil=>exact λk _=>⟨[],trivial,λt v h=>by simp at h⟩
   |cons x l F=>
    intro k s;have⟨v,j,p⟩:=s 0 x rfl;have⟨d,r,z⟩:=F (k+1) λt av c=>by
     have⟨v,q1,q⟩:=s (t+1) av (by simpa using c);exact⟨v,by rw[show k+1+t=k+(t+1) by omega];exact q1,q⟩
    refine⟨v::d,⟨p,r⟩,λt u c=> ?_⟩
    cases t with
    |zero=>simp at c;subst c;exact j
    |succ t=>rw[show k+(t+1)=k+1+t by omega];exact z t u (by simpa using c)
  have⟨d,j,p⟩:=G g 0 λt av c=>by
   have⟨v,q1,q⟩:=y.n t av c;exact⟨v,by simpa using q1,q.step E⟩
  exact⟨d,j,λt v c=>by simpa using p t v c⟩
 obtain⟨d,j,p⟩:=C;have⟨L,e,r⟩:=T5 (H:=H) i g d (λl=>l=sa) (λb A I K n f B=>JF A B) j (Uc (K:=λl=>l=sa) h D rfl);subst e;refine⟨ι,i.below,i.defers,λt av c=> ?_,i.k,i.inj,i.fresh,i.hn,i.hs⟩;have⟨v,q1,q⟩:=r.get t av c;exact⟨v,p t v q1,eZ.AU (g1.PB q)⟩
end
def yL(s:O)(k:Key)(E:cZ):Option (aZ×O):=
 match Aa s k with
 | .aH=>match k with
   | .t i=>some (.dr,⟨s.n.set i (.own s.k.length 0),bM s.k s.k.length 0 (.ad false E.af 0 λi=>E.e ((@B E.T E.xV).at' i))⟩)
   | .h b o=>dp (Nat.blt b s.k.length) (some (.dr,⟨s.n,bM (bM s.k s.k.length 0 (.ad false E.af 0 λi=>E.e ((@B E.T E.xV).at' i))) b o (.own s.k.length 0)⟩))
   |_=>none
 | .own b' n=>match k with
   | .h b o=>match M s.k b' 0 with
     | .ad _ c a f=>dp (!(Nat.beq b' b)) (some (.e n a,⟨s.n,bM (bN s.k (e_ s.k [.own b' n])) b o (.arr c a f)⟩))
     |_=>none
   | .t i=>match M s.k b' 0 with
     | .ad _ c a f=>some (.e n a,⟨s.n.set i (.arr c a f),bN s.k (e_ s.k [.own b' n])⟩)
     |_=>none
   |_=>none
 |_=>none
def BU:O->List (Key×cZ)->Option (aZ×O)
 |s,[]=>some (.dr,s)
 |s,q::r=>match yL s q.1 q.2 with
  |some p=>match BU p.2 r with
   |some a=>some (.and p.1 a.1,a.2)
   |none=>none
  |none=>none
def cB.aC3{m:Nat}{st:O}(i h:Nat)(f:Nat->List J)(n:st.n[i]? =some .aH):cB m st ⟨st.n.set i (.own st.k.length 0),bM st.k st.k.length 0 (.ad false h 0 f)⟩:=λS _ ι a w g=>by
 have⟨c,q,l⟩:=g.Po (b:=st.k.length) (λo=>vj (bH _) o) (g.Pp (bH _)) h f;refine⟨_,c.below,c.defers,λt av d=> ?_,c.k,c.inj,c.fresh,c.hn,c.hs⟩;rw[we]at d
 by_cases e:i=t
 .subst e;rw[bg rfl]at d
  split at d
  .cases d
   have⟨v,j,k⟩:=g.n i .aH n;refine⟨v,j,?_⟩;have p:v= .slice none 0 0:=ajQ (ι:=ι) (H:=st.k) (F:=aX S ι st.k w) (w:=w) k;subst p;exact l (aX S ι (bM st.k st.k.length 0 (.ad false h 0 f)) w)
  .cases d
 .rw[aW e]at d;exact c.n t av d
def cB.aC2{m:Nat}{st:O}(b o d:Nat)(f:Nat->List J)(l:M st.k b o= .aH)(k:Nat.blt b st.k.length=true):cB m st ⟨st.n,bM (bM st.k st.k.length 0 (.ad false d 0 f)) b o (.own st.k.length 0)⟩:=λS _ ι a w g=>by
 have⟨i,p,j⟩:=g.Po (b:=st.k.length) (λo=>vj (bH _) o) (g.Pp (bH _)) d f;have n:b≠st.k.length:=by
  have:=hH k;omega
 have c:M (bM st.k st.k.length 0 (.ad false d 0 f)) b o= .aH:=by rw[fo,aW (λe=>n e.1)];exact l
 refine⟨_,i.akM (by rw[c];simp) (by rw[c];rfl) Χ rfl λv h=> ?_⟩;rw[c]at h;rw[ajQ h];exact j _
def cB.atw{m:Nat}{st:O}(b o b' n:Nat){s:Bool}{e c:Nat}{f:Nat->List J}(j:M st.k b o= .own b' n)(l:M st.k b' 0= .ad s e c f)(x:b'≠b)(p:n=c):cB m st ⟨st.n,bM (bN st.k (e_ st.k [.own b' n])) b o (.arr e c f)⟩:=λS _ ι a w r=>by
 have⟨i,y⟩:=r.freeze (H':=bN st.k (e_ st.k [.own b' n])) (yc _) (tf _ _);have d:M (bN st.k (e_ st.k [.own b' n])) b o= .own b' n:=by
  rcases yc (H:=st.k) [.own b' n] b o with g|⟨rfl,A,B,z,t,h,u⟩
  .rw[g];exact j
  .rw[j]at h;cases h
 have q:M (bN st.k (e_ st.k [.own b' n])) b' 0= .ad true e c f:=JF (by simp [ts,qs]) l;refine⟨_,i.akM (by rw[d];simp) (by rw[d];rfl) Χ rfl λv k=> ?_⟩;rw[d]at k;exact PF i q p k
def cB.y4{m:Nat}{st:O}(i b' n:Nat){r:Bool}{g d:Nat}{f:Nat->List J}(l:st.n[i]? =some (.own b' n))(k:M st.k b' 0= .ad r g d f)(o:n=d):cB m st ⟨st.n.set i (.arr g d f),bN st.k (e_ st.k [.own b' n])⟩:=λS _ ι a w q=>by
 have⟨b,s⟩:=q.freeze (H':=bN st.k (e_ st.k [.own b' n])) (yc _) (tf _ _);have p:M (bN st.k (e_ st.k [.own b' n])) b' 0= .ad true g d f:=JF (by simp [ts,qs]) k;refine⟨ι,b.below,b.defers,λt av c=> ?_,b.k,b.inj,b.fresh,b.hn,b.hs⟩;rw[we]at c
 by_cases e:i=t
 .subst e;rw[bg rfl]at c
  split at c
  .cases c
   have⟨v,h,j⟩:=b.n i (.own b' n) l;exact⟨v,h,PF b p o j⟩
  .cases c
 .rw[aW e]at c;exact b.n t av c
def Tp{m:Nat}{st lq:O}{k:Key}{cZ:cZ}{nn:aZ}(h:yL st k cZ=some (nn,lq))(d:nn.holds):cB m st lq:=by
 unfold yL at h
 split at h<;>try exact Ζ
 .rename_i e
  cases k<;>simp only at h<;>try exact Ζ
  .cases h
   rename_i i;refine cB.aC3 i cZ.af _ ?_;simp only[Aa,List.getD]at e
   cases a:st.n[i]? with
   |none=>rw[a]at e;cases e
   |some v=>rw[a]at e;exact congrArg some e
  .rw[dw]at h;obtain⟨b,h⟩:=h
   cases h
   exact cB.aC2 _ _ cZ.af _ e b
 .rename_i b' n e
  cases k<;>simp only at h<;>try exact Ζ
  .split at h<;>try exact Ζ
   rename_i i _ l o j f c
   cases h
   refine cB.y4 _ _ _ ?_ c d;simp only[Aa,List.getD]at e
   cases a:st.n[i]? with
   |none=>rw[a]at e;cases e
   |some v=>rw[a]at e;exact congrArg some e
  split at h<;>try exact Ζ
  rename_i l o j f c;rw[dw]at h;obtain⟨b,h⟩:=h
  cases h
  refine cB.atw _ _ _ _ e c (λg=> ?_) d;rw[g,ob]at b;cases b
def KV{m:Nat} : ∀{d:List (Key×cZ)} {st lq:O} {nn:aZ},BU st d=some (nn,lq)->nn.holds->cB m st lq
 |[],st,lq,nn,h,_=>by cases h;exact cB.refl _
 |q::r,st,lq,nn,h,a=>by
  simp only[BU]at h
  split at h<;>try exact Ζ
  rename_i p e
  split at h<;>try exact Ζ
  rename_i b c
  cases h
  exact(Tp (nn:=p.1) (lq:=p.2) e a.1).trans (KV (nn:=b.1) (lq:=b.2) c a.2)
def Pq(b:Nat):J->Bool
 | .ptr c _=> !(Nat.beq c b)
 |_=>true
def jk(b a5:Nat):J->J
 | .ptr c o=>match Nat.beq c a5 with
   |true=> .undef
   |false=> .ptr c o
 | .fn f a=>match a.all (Pq a5)with
   |true=> .fn f a
   |false=> .undef
 | .own c k=>match Nat.beq c b with
   |true=> .own a5 k
   |false=>match Nat.beq c a5 with
    |true=> .undef
    |false=> .own c k
 | .gr c k i o=>match Nat.beq c b with
   |true=> .gr a5 k i o
   |false=>match Nat.beq c a5 with
    |true=> .undef
    |false=> .gr c k i o
 |x=>x
def aCo{b a5:Nat}{c:J}(h:jk b a5 c= .gone):c= .gone:=by
 cases c<;>simp only[jk]at h<;>first|rfl|(cases h;done)|(split at h<;>first|(cases h;done)|(split at h<;>cases h))
def I3(b a5:Nat):J->J
 | .agg cs=> .agg (cs.map (jk b a5))
 |x=>jk b a5 x
def ajA(b a5:Nat):J->J
 | .du a=> .du (a.map (I3 b a5))
 |x=>I3 b a5 x
def aen(H:Heap)(b:Nat):Bool:=
 match H.getD b []with
 |[]=>true
 |x::r=>match x with
  | .ad a c _ _=>a&&(Nat.beq c 0&&r.isEmpty)
  |_=>false
def BZ(b m:Nat):List J:=
 match Nat.blt b m with
 |true=>[dP]
 |false=>[]
def ajB(H:Heap)(m b a5:Nat)(x:J):Heap:=setAt [] (setAt [] (H.map λl=>l.map (jk b a5)) b (BZ b m)) a5 [x]
def I4(m:Nat)(s:O)(b a5:Nat):Option O:=
 match s.k.getD b []with
 |x::r=>match x with
  | .ad c a n f=>dp (Nat.ble m a5&&(!(Nat.beq b a5)&&(aen s.k a5&&(r.isEmpty&& !(Nat.beq a 0))))) (some ⟨s.n.map (ajA b a5),ajB s.k m b a5 (.ad c a n f)⟩)
  |_=>none
 |[]=>none
def x6(m:Nat):O->List (Key×Nat)->Option O
 |s,[]=>some s
 |s,q::r=>match Aa s q.1 with
  | .own b _=>match Nat.beq b q.2 with
    |true=>x6 m s r
    |false=>match I4 m s b q.2 with
     |some a=>x6 m a r
     |none=>none
  |_=>none
def Ph{b a5:Nat}{c:J} :cv (jk b a5 c)=cv c:=by
 cases c<;>first|rfl|skip
 all_goals
  simp only[jk]
  split<;>first|rfl|(split<;>rfl)
def awH{H:Heap}{g:J->J}(a:g .undef= .undef)(b o:Nat):M (H.map λl=>l.map g) b o=g (M H b o):=by
 unfold M;have e:(H.map λl=>l.map g).getD b []=(H.getD b []).map g:=by
  rw[List.getD,List.getD,hJ]
  cases H[b]? <;>rfl
 rw[e];generalize H.getD b []=l;rw[List.getD,List.getD,hJ]
 cases l[o]? with
 |none=>exact a.symm
 |some x=>rfl
def cB.aCn{m:Nat}{s dR:O}{b a5:Nat}(h:I4 m s b a5=some dR):cB m s dR:=by
 unfold I4 at h
 split at h<;>try exact Ζ
 rename_i x jb nD
 split at h<;>try exact Ζ
 rename_i Z af n f;rw[dw]at h;obtain⟨kk,h⟩:=h
 cases h
 simp only[b2,j4]at kk;obtain⟨hm,kl,DQ,hv,pd⟩:=kk;have hm:m<=a5:=hH hm;have kl:b≠a5:=λe=>by rw[e,ob]at kl;cases kl
 have hv:jb=[]:=by cases jb with
  |nil=>rfl
  |cons=>cases hv
 subst hv;intro S vh ι a w P;have Q:M s.k b 0= .ad Z af n f:=by unfold M;rw[nD];rfl
 have aIy: ∀o,o≠0->M s.k b o= .undef:=λo eV=>by
  unfold M;rw[nD]
  cases o with
  |zero=>exact absurd rfl eV
  |succ o=>rfl
 have aIC: ∀o,M s.k a5 o= .undef\/(o=0/\ ∃E f2,M s.k a5 0= .ad true 0 E f2):=λo=>by
  unfold aen at DQ;unfold M
  split at DQ
  .rename_i e;rw[e];exact .inl rfl
  .rename_i y q e
   split at DQ<;>try exact Ζ
   rename_i aFe aGh E f2;simp only[b2]at DQ;obtain⟨B,D,gh⟩:=DQ;have D:=ey D;subst B D;rw[e]
   cases o with
   |zero=>exact .inr ⟨rfl,E,f2,rfl⟩
   |succ o=>
    cases q with
    |nil=>exact .inl rfl
    |cons=>cases gh
 let aC:Nat->Option Nat:=λc=>if c=a5 then ι b else if c=b then none else ι c
 have ahu:n<=dL:=by
  have G:=P.k b 0;rw[Q]at G;rcases G.2 with eh|eh
  .rw[eh.2.1]at pd;cases pd
  .exact eh.1
 let H':Heap:=ajB s.k m b a5 (.ad Z af n f);have X:aC a5=ι b:=bg rfl;have Ic:aC b=none:=by simp [aC,kl]
 have L: ∀c,c≠b->c≠a5->aC c=ι c:=λc u I=>by simp only[aC];rw[aW I,aW u]
 have N8: ∀o,M H' a5 o=if o=0 then .ad Z af n f else .undef:=λo=>by
  show M (setAt [] _ a5 _) a5 o=_;rw[Bc,bg rfl]
  cases o<;>rfl
 have N9: ∀o,M H' b o=(BZ b m).getD o .undef:=λo=>by
  show M (setAt [] _ a5 _) b o=_;rw[Bc,aW kl,Bc,bg rfl]
 have V: ∀c o,c≠b->c≠a5->M H' c o=jk b a5 (M s.k c o):=λc o u I=>by
  show M (setAt [] _ a5 _) c o=_;rw[Bc,aW I,Bc,aW u,awH rfl]
 have awu: ∀o,M H' b o= .undef\/(o=0/\b<m/\M H' b 0=dP):=λo=>by
  have nB:=N9 0;have d:=N9 o;unfold BZ at nB d
  cases Wl:Nat.blt b m with
  |false=>rw[Wl]at d;rw[d];exact .inl rfl
  |true=>
   rw[Wl]at nB d
   cases o with
   |zero=>exact .inr ⟨rfl,hH Wl,nB⟩
   |succ o=>rw[d];exact .inl rfl
 have ng: ∀c,c≠b->c≠a5->cv (M H' c 0)=cv (M s.k c 0):=λc u I=>by rw[V c 0 u I,Ph]
 have ahK: ∀c,qy (jk b a5 c)=true->qy c=true:=λc=>by
  cases c<;>first|exact id|(intro _;rfl)
 have o9: ∀y,aX S ι s.k w y->aX S aC H' w y:=λy ⟨u,I,fG⟩=>⟨u,I,λc G r=>by
  by_cases k:c=a5
  .subst k;rw[X]at r;refine fG b ?_ r;have nB:M H' c 0= .ad Z af n f:=by rw[N8];rfl
   rcases G with⟨_,g⟩|⟨g,_⟩
   .rw[nB]at g;exact .inl ⟨by rw[Q];rfl,by rw[Q];exact g⟩
   .rw[nB]at g;cases g
  .by_cases d:c=b
   .subst d;rw[Ic]at r;cases r
   .rw[L c d k]at r;refine fG c ?_ r;rcases G with⟨B,D⟩|⟨B,o,D⟩
    .rw[V c 0 d k]at B D;rw[Ph]at B;exact .inl ⟨B,ahK _ D⟩
    .rw[V c 0 d k,Ph]at B;rw[V c o d k]at D;exact .inr ⟨B,o,ahK _ D⟩⟩
 have N6: ∀{av:J} {v:Value},a6 w (aX S ι s.k w) av v->a6 w (aX S aC H' w) av v:=λh=>h.mono o9 λ_ _ _=>rfl;have av0: ∀{c:J} {v:Value},Pq a5 c=true->jO ι s.k w (aX S ι s.k w) c v->jO aC H' w (aX S aC H' w) c v:=λ{c v} gT h=>by
  cases c<;>simp only[jO]at h |- <;>first|exact N6 h|skip
  rename_i c o;obtain⟨u,x,I,fG⟩:=h;have E:c≠a5:=λe=>by rw[e]at gT;simp only[Pq,ob]at gT;cases gT
  have F:c≠b:=λe=>by rw[e,Q]at u;cases u
  exact⟨by rw[ng c F E];exact u,x,by rw[L c F E];exact I,fG⟩
 have lg: ∀{c:J} {v:Value},cu ι s.k w (aX S ι s.k w) c v->cu aC H' w (aX S aC H' w) (jk b a5 c) v:=λ{c v} h=>by
  have u:=h.one
  cases c<;>first|exact N6 h|exact u|exact h.elim|skip
  .rename_i c pE;simp only[jk];obtain⟨U,po,lu,n',gD,z,H,N⟩:=h
   cases d:Nat.beq c b with
   |true=>
    have d:=ey d;subst d;rw[Q]at z;cases z;exact⟨U,Z,af,n,f,by rw[N8];rfl,H,λe=>by rw[X];exact N e⟩
   |false=>
    cases k:Nat.beq c a5 with
    |true=>exact U
    |false=>
     have F:c≠b:=λe=>by rw[e,ob]at d;cases d
     have E:c≠a5:=λe=>by rw[e,ob]at k;cases k
     exact⟨U,po,lu,n',gD,by rw[V c 0 F E,z];rfl,H,λe=>by rw[L c F E];exact N e⟩
  .rename_i c o;simp only[jk];obtain⟨z,x,H,N⟩:=h
   cases k:Nat.beq c a5 with
   |true=>exact u
   |false=>
    have E:c≠a5:=λe=>by rw[e,ob]at k;cases k
    have F:c≠b:=λe=>by rw[e,Q]at z;cases z
    exact⟨by rw[ng c F E];exact z,x,by rw[L c F E];exact H,N⟩
  .rename_i c pE i o;simp only[jk];obtain⟨U,po,lu,n',gD,z,H,N⟩:=h
   cases d:Nat.beq c b with
   |true=>
    have d:=ey d;subst d;rw[Q]at z;cases z;exact⟨U,Z,af,n,f,by rw[N8];rfl,H,λe=>by rw[X];exact N e⟩
   |false=>
    cases k:Nat.beq c a5 with
    |true=>exact U
    |false=>
     have F:c≠b:=λe=>by rw[e,ob]at d;cases d
     have E:c≠a5:=λe=>by rw[e,ob]at k;cases k
     exact⟨U,po,lu,n',gD,by rw[V c 0 F E,z];rfl,H,λe=>by rw[L c F E];exact N e⟩
  .rename_i g kb;simp only[jk]
   cases k:kb.all (Pq a5)with
   |false=>exact u
   |true=>
    obtain⟨A,z,H⟩:=h;refine⟨A,z,bb.mk H.length λi p q hA jZ=> ?_⟩;have⟨Jx,B,D⟩:=H.get i p hA;rw[jZ]at B;cases B;exact av0 (d_.1 k p (fr hA)) D
 have l0: ∀{cs:List J} {A:List Value},bb (cu ι s.k w (aX S ι s.k w)) cs A->bb (cu aC H' w (aX S aC H' w)) (cs.map (jk b a5)) A:=by
  intro cs
  induction cs with
  |nil=>intro A h;cases A with
   |nil=>trivial
   |cons=>exact h.elim
  |cons c cs pe=>intro A h;cases A with
   |nil=>exact h.elim
   |cons v A=>exact⟨lg h.1,pe h.2⟩
 have o8: ∀{c:J} {v:Value},g1 ι s.k w (aX S ι s.k w) c v->g1 aC H' w (aX S aC H' w) (I3 b a5 c) v:=λ{c v} h=>by
  by_cases Wh: ∃cs,c= .agg cs
  .obtain⟨cs,rfl⟩:=Wh;obtain⟨A,u,I⟩:=h;exact⟨A,u,l0 I⟩
  .have d:I3 b a5 c=jk b a5 c:=by cases c<;>first|rfl|exact absurd ⟨_,rfl⟩ Wh
   have u:cu ι s.k w (aX S ι s.k w) c v:=by cases c<;>first|exact h|exact absurd ⟨_,rfl⟩ Wh|exact(show False from h).elim
   rw[d];have I:=lg u;have fv:jk b a5 c≠ .gone:=λe=>by
    rw[aCo e]at h;exact h
   generalize jk b a5 c=W at I fv
   cases W<;>first|exact I|exact I.elim|exact absurd rfl fv
 refine⟨aC,P.below,P.defers,λt av jI=> ?_,λc o=> ?_,λcw j_ x u fG=> ?_,λc x r=> ?_,λc x r=> ?_,?_⟩
 .simp only[hJ,nt]at jI;obtain⟨R,aeF,rfl⟩:=jI;have⟨v,B,D⟩:=P.n t R aeF;refine⟨v,B,?_⟩
  by_cases W0: ∃A,R= .du A
  .obtain⟨aa,rfl⟩:=W0;obtain⟨A,z,H⟩:=D;refine⟨A,z,?_⟩;clear z aeF;revert A
   induction aa with
   |nil=>intro A h;cases A with
    |nil=>trivial
    |cons=>exact h.elim
   |cons c cs pe=>intro A h;cases A with
    |nil=>exact h.elim
    |cons v A=>exact⟨o8 h.1,pe A h.2⟩
  .by_cases Y:R= .undef\/R= .gone
   .rcases Y with rfl|rfl
    .trivial
    .exact D
   .have d:ajA b a5 R=I3 b a5 R:=by cases R<;>first|rfl|exact absurd ⟨_,rfl⟩ W0
    have u:g1 ι s.k w (aX S ι s.k w) R v:=by
     cases R<;>first|exact D|exact absurd ⟨_,rfl⟩ W0|exact absurd (.inl rfl) Y|exact absurd (.inr rfl) Y
    rw[d];exact eZ.AU (o8 u)
 .show fC aC H' w (aX S aC H' w) c o (M H' c o)
  by_cases k:c=a5
  .subst k;rw[N8]
   by_cases adQ:o=0
   .subst adQ;rw[bg rfl];have G:=P.k b 0;rw[Q]at G;obtain⟨_,G⟩:=G;refine⟨rfl,G.imp (λg=>⟨g.1,g.2.1,by rw[X];exact g.2.2⟩) λg=>⟨g.1,?_⟩⟩;rw[X];exact g.2.imp id λ⟨x,C,T,z,H,N⟩=>⟨x,C,T,z,H,λi j g5 ia=>by
     have⟨av,v,tl,tm,AH⟩:=N i j g5 ia;exact⟨av,v,tl,tm,N6 AH⟩⟩
   .rw[aW adQ];trivial
  .by_cases d:c=b
   .subst d;rcases awu o with g|⟨rfl,_,g⟩
    .rw[g];trivial
    .rw[g];exact⟨rfl,.inl ⟨rfl,rfl,Ic⟩⟩
   .have G:=P.k c o;rw[V c o d k]
    by_cases Wk:cv (M s.k c o)=true
    .cases e:M s.k c o<;>rw[e]at Wk G<;>first|(cases Wk;done)|skip
     simp only[jk];obtain⟨fv,G⟩:=G;refine⟨fv,G.imp (λg=>⟨g.1,g.2.1,by rw[L c d k];exact g.2.2⟩) λg=>⟨g.1,?_⟩⟩;rw[L c d k];exact g.2.imp id λ⟨x,C,T,z,H,N⟩=>⟨x,C,T,z,H,λi j g5 ia=>by
      have⟨av,v,tl,tm,AH⟩:=N i j g5 ia;exact⟨av,v,tl,tm,N6 AH⟩⟩
    .by_cases Y:M s.k c o= .undef
     .rw[Y];trivial
     .have WE:cv (M s.k c o)=false:=by simpa using Wk
      obtain⟨U,x,v,z,H,N,IU⟩:cv (M s.k c 0)=false/\ ∃x v,ι c=some x/\w.cell? ⟨x,o,none⟩=some v/\w.frozen? ⟨x,o,none⟩=false/\cu ι s.k w (aX S ι s.k w) (M s.k c o) v:=by
       cases e:M s.k c o<;>rw[e]at G Y WE<;>first|exact absurd rfl Y|(cases WE;done)|exact G
      have Az:=lg IU;have IV:cv (M H' c 0)=false:=by rw[ng c d k];exact U
      have XP:aC c=some x:=by rw[L c d k];exact z
      have aiI:cv (jk b a5 (M s.k c o))=false:=by rw[Ph];exact WE
      generalize jk b a5 (M s.k c o)=W at Az aiI
      cases W<;>first|trivial|(cases aiI;done)|exact⟨IV,x,v,XP,H,N,Az⟩
 .have key: ∀c x,aC c=some x-> ∃W,ι W=some x/\((c=a5/\W=b)\/(c≠a5/\c≠b/\W=c)):=λc x r=>by
   by_cases k:c=a5
   .subst k;rw[X]at r;exact⟨b,r,.inl ⟨rfl,rfl⟩⟩
   .by_cases d:c=b
    .subst d;rw[Ic]at r;cases r
    .rw[L c d k]at r;exact⟨c,r,.inr ⟨k,d,rfl⟩⟩
  have⟨K,B,q1⟩:=key cw x u;have⟨mS,gh,A0⟩:=key j_ x fG;have e:=P.inj K mS x B gh;rcases q1 with⟨rfl,rfl⟩|⟨aL,aO,rfl⟩<;>rcases A0 with⟨rfl,rfl⟩|⟨a3,a4,rfl⟩
  .rfl
  .exact absurd e.symm a4
  .exact absurd e aO
  .exact e
 .by_cases k:c=a5
  .subst k;rw[X]at r;exact P.fresh b x r
  .by_cases d:c=b
   .subst d;rw[Ic]at r;cases r
   .rw[L c d k]at r;exact P.fresh c x r
 .show c<H'.length;have aho:=(nj ([]:List J) [J.ad Z af n f] (setAt [] (s.k.map λl=>l.map (jk b a5)) b (BZ b m)) a5);have It:=(nj ([]:List J) (BZ b m) (s.k.map λl=>l.map (jk b a5)) b)
  by_cases k:c=a5
  .rw[k];exact aho.2
  .by_cases d:c=b
   .subst d;rw[Ic]at r;cases r
   .rw[L c d k]at r;have:=P.hn c x r;refine hj ?_ (ec It.1 aho.1);simpa using this
 .have hh:=P.hs;have ht: ∀c,M S.wv c 0≠ .undef->c<m:=λc kk=>by
   rcases ga c S.wv.length with g|g
   .omega
   .exact absurd (vj g 0) kk
  refine⟨λx r=>o9 x (hh.iL x r),λx o r=>hh.cell x o r,λc x r kL=> ?_,λc JE nr AN f0 kL=> ?_⟩
  .obtain⟨B,D⟩:=hh.box c x r kL;have ag_:c<m:=hj (S.sq c x r) vh;have E:c≠a5:=by omega
   have F:c≠b:=λe=>by rw[e,Q]at D;cases D
   exact⟨by rw[L c F E];exact B,by rw[ng c F E];exact D⟩
  .obtain⟨po,lu,n',gD,B,D,gh⟩:=hh.arr c JE nr AN f0 kL;have ag_:c<m:=ht c (by rw[kL];simp);have E:c≠a5:=by omega
   by_cases F:c=b
   .subst F;rw[Q]at B;cases B;refine⟨true,0,dL+1,λ_=>[],?_,Ω,λe=>by omega⟩;rw[N9 0];unfold BZ;rw[show Nat.blt c m=true from by simpa[jL]using ag_];rfl
   .exact⟨po,lu,n',gD,by rw[V c 0 F E,B];rfl,D,λe=>by rw[L c F E];exact gh e⟩
def Pj{m:Nat} : ∀{l:List (Key×Nat)} {s a:O},x6 m s l=some a->cB m s a
 |[],s,a,h=>by cases h;exact cB.refl _
 |q::r,s,a,h=>by
  simp only[x6]at h
  split at h<;>try exact Ζ
  split at h
  .exact Pj h
  .split at h<;>try exact Ζ
   rename_i c b;exact(cB.aCn b).trans (Pj h)
def IW(s:O)(b:Nat):Option O:=
 match s.k.getD b []with
 |x::r=>match x with
  | .ad c a n f=>match c&&Nat.beq a 0 with
    |true=>some s
    |false=>dp (r.isEmpty&& !(Nat.beq a 0)) (some ⟨s.n,bM s.k b 0 dP⟩)
  |_=>none
 |[]=>none
def cB.kill{m:Nat}{s J:O}{b:Nat}(h:IW s b=some J):cB m s J:=by
 unfold IW at h
 split at h<;>try exact Ζ
 rename_i x r F
 split at h<;>try exact Ζ
 rename_i ro af n f
 split at h
 .cases h;exact cB.refl _
 rw[dw]at h;obtain⟨H,h⟩:=h
 cases h
 simp only[b2,j4]at H;obtain⟨X,I⟩:=H;intro S vh ι a w i;have B:M s.k b 0= .ad ro af n f:=by unfold M;rw[F];rfl
 have V: ∀o,o≠0->M s.k b o= .undef:=λo W=>by
  unfold M;rw[F]
  cases o with
  |zero=>exact absurd rfl W
  |succ o=>
   cases r with
   |nil=>rfl
   |cons=>cases X
 have ahu:n<=dL:=by
  have p:=i.k b 0;rw[B]at p;rcases p.2 with D|D
  .rw[D.2.1]at I;cases I
  .exact D.1
 let aC:Nat->Option Nat:=λc=>if c=b then none else ι c
 let H':Heap:=bM s.k b 0 dP;have A:aC b=none:=bg rfl;have k: ∀c,c≠b->aC c=ι c:=λc h=>aW h;have G:M H' b 0=dP:=by show M (bM _ _ _ _) b 0=_;rw[fo,bg ⟨rfl,rfl⟩]
 have l: ∀c o,(c≠b\/o≠0)->M H' c o=M s.k c o:=λc o h=>by
  show M (bM _ _ _ _) c o=_;rw[fo,aW (λe=>h.elim (λg=>g e.1) λg=>g e.2)]
 have U: ∀y,aX S ι s.k w y->aX S aC H' w y:=λy ⟨v,Q,z⟩=>⟨v,Q,λc p d=>by
  by_cases e:c=b
  .subst e;rw[A]at d;cases d
  .rw[k c e]at d;exact z c (pr (λo=>l c o (.inl e)) p) d⟩
 have E:eS ι s.k w (aX S ι s.k w) aC H' w (aX S aC H' w):=by
  refine⟨U,λ_ _ _=>rfl,λc x d j=> ?_,λc JE nr Z L j=> ?_⟩
  .have e:c≠b:=λe=>by rw[e,B]at j;cases j
   exact⟨by rw[k c e];exact d,by rw[l c 0 (.inl e)];exact j⟩
  .by_cases e:c=b
   .subst e;rw[B]at j;cases j;exact⟨true,0,dL+1,λ_=>[],G,Ω,λe=>by omega⟩
   .exact⟨JE,nr,Z,L,by rw[l c 0 (.inl e)];exact j,bH _,λ_=>⟨rfl,k c e,λx C T _ R=>⟨C,R,rfl⟩⟩⟩
 have q: ∀c x,aC c=some x->c≠b/\ι c=some x:=λc x d=>by
  by_cases e:c=b
  .subst e;rw[A]at d;cases d
  .exact⟨e,by rw[<-k c e];exact d⟩
 refine⟨aC,i.below,i.defers,λt av Y=> ?_,λc o=> ?_,λcw K x v z=>i.inj cw K x (q _ _ v).2 (q _ _ z).2,λc x d=>i.fresh c x (q _ _ d).2,λc x d=>hj (i.hn c x (q _ _ d).2) (x1 s.k b 0 dP).1,i.hs.trans E⟩
 .obtain⟨aL,N,P⟩:=i.n t av Y;exact⟨aL,N,P.step E⟩
 .show fC aC H' w (aX S aC H' w) c o (M H' c o)
  by_cases e:c=b
  .subst e
   by_cases u:o=0
   .subst u;rw[G];exact⟨rfl,.inl ⟨rfl,rfl,A⟩⟩
   .rw[l c o (.inr u),V o u];trivial
  .rw[l c o (.inl e)];exact(i.k c o).step E (λ_=>k c e) (λ_ _ _=>⟨rfl,rfl⟩) (λ_=>⟨k c e,λ_ _=>rfl⟩)
inductive me where
 |mj (k:Key) (E:cZ)
 |own (k:Key) (E:cZ) (b:Nat)
 |kill (b:Nat)
def FT(m:Nat)(s:O)(c:me):Option (aZ×O):=
 match c with
 | .mj k E=>match Aa s k with
   | .own .. =>yL s k E
   |_=>some (.dr,s)
 | .own k E b=>match Aa s k with
   | .aH=>match yL s k E with
     |some p=>match x6 m p.2 [(k,b)]with
      |some a=>some (p.1,a)
      |none=>none
     |none=>none
   |_=>match x6 m s [(k,b)]with
    |some a=>some (.dr,a)
    |none=>none
 | .kill b=>match IW s b with
   |some a=>some (.dr,a)
   |none=>none
def qR(m:Nat):O->List me->Option (aZ×O)
 |s,[]=>some (.dr,s)
 |s,c::r=>match FT m s c with
  |some p=>match qR m p.2 r with
   |some a=>some (.and p.1 a.1,a.2)
   |none=>none
  |none=>none
def arP{m:Nat}{s dR:O}{c:me}{o:aZ}(h:FT m s c=some (o,dR))(b:o.holds):cB m s dR:=by
 unfold FT at h
 split at h
 .split at h
  .exact Tp h b
  .cases h;exact cB.refl _
 .split at h
  .split at h<;>try exact Ζ
   rename_i p e
   split at h<;>try exact Ζ
   rename_i d a
   cases h
   exact(Tp (nn:=p.1) (lq:=p.2) e b).trans (Pj a)
  .split at h<;>try exact Ζ
   rename_i d a
   cases h
   exact Pj a
 .split at h<;>try exact Ζ
  rename_i d a
  cases h
  exact cB.kill a
def aAw{s a:O}{b:Nat}(h:IW s b=some a):a.n.length=s.n.length:=by
 unfold IW at h
 split at h<;>try exact Ζ
 split at h<;>try exact Ζ
 split at h
 .cases h;rfl
 .rw[dw]at h
  cases h.2;rfl
def K7{m:Nat} : ∀{l:List me} {s dR:O} {o:aZ},qR m s l=some (o,dR)->o.holds->cB m s dR
 |[],s,dR,o,h,_=>by cases h;exact cB.refl _
 |c::r,s,dR,o,h,a=>by
  simp only[qR]at h
  split at h<;>try exact Ζ
  rename_i p e
  split at h<;>try exact Ζ
  rename_i b d
  cases h
  exact(arP (o:=p.1) (dR:=p.2) e a.1).trans (K7 (o:=b.1) (dR:=b.2) d a.2)
def qQ(m:Nat)(s:O)(a:List Key)(l:List me):Option (aZ×O):=
 match a with
 |[]=>qR m s l
 |k::r=>match iy m (yU s (k::r))with
  |true=>match qR m (yU s (k::r)) l with
   |some p=>some (.and (kZ s (yU s (k::r))) p.1,p.2)
   |none=>none
  |false=>none
def yM{m:Nat}{s dR:O}{b:List Key}{l:List me}{o:aZ}(h:qQ m s b l=some (o,dR))(a:o.holds):cB m s dR:=by
 unfold qQ at h
 split at h
 .exact K7 h a
 .split at h<;>try exact Ζ
  rename_i c
  split at h<;>try exact Ζ
  rename_i p d
  cases h
  exact(pI a.1 c).trans (K7 (o:=p.1) (dR:=p.2) d a.2)
def aaf: ∀{l:List J} {i:Nat} {v:J},(Bd l i v).length=l.length
 |[],_,_=>rfl
 |_::_,0,_=>rfl
 |_::l,i+1,v=>by simp only[Bd,dE,aaf]
def aEy{s:O}{k:Key}{v:J} :(PK s k v).n.length=s.n.length:=by
 unfold PK
 split
 .exact aaf
 .split
  .exact aaf
  .rfl
 .rfl
 .rfl
def adl: ∀{a:List Key} {s:O},(yU s a).n.length=s.n.length
 |[],_=>rfl
 |k::a,s=>by simp only[yU,adl,aEy]
def aCp{m:Nat}{s a:O}{b a5:Nat}(h:I4 m s b a5=some a):a.n.length=s.n.length:=by
 unfold I4 at h
 split at h<;>try exact Ζ
 split at h<;>try exact Ζ
 rw[dw]at h
 cases h.2
 simp
def Pk{m:Nat} : ∀{l:List (Key×Nat)} {s a:O},x6 m s l=some a->a.n.length=s.n.length
 |[],s,a,h=>by cases h;rfl
 |q::r,s,a,h=>by
  simp only[x6]at h
  split at h<;>try exact Ζ
  split at h
  .exact Pk h
  .split at h<;>try exact Ζ
   rename_i c b;rw[Pk h,aCp b]
def acZ{s dR:O}{k:Key}{E:cZ}{o:aZ}(h:yL s k E=some (o,dR)):dR.n.length=s.n.length:=by
 unfold yL at h
 split at h<;>try exact Ζ
 .cases k<;>simp only at h<;>try exact Ζ
  .cases h;simp
  .rw[dw]at h;cases h.2;rfl
 .cases k<;>simp only at h<;>try exact Ζ
  .split at h<;>try exact Ζ
   cases h;simp
  .split at h<;>try exact Ζ
   rw[dw]at h;cases h.2;rfl
def arQ{m:Nat}{s dR:O}{c:me}{o:aZ}(h:FT m s c=some (o,dR)):dR.n.length=s.n.length:=by
 unfold FT at h
 split at h
 .split at h
  .exact acZ h
  .cases h;rfl
 .split at h
  .split at h<;>try exact Ζ
   rename_i p d
   split at h<;>try exact Ζ
   rename_i b a
   cases h
   rw[Pk a,acZ (o:=p.1) (dR:=p.2) d]
  .split at h<;>try exact Ζ
   rename_i b a
   cases h
   exact Pk a
 .split at h<;>try exact Ζ
  rename_i b a
  cases h
  exact aAw a
def Tx{m:Nat} : ∀{l:List me} {s dR:O} {o:aZ},qR m s l=some (o,dR)->dR.n.length=s.n.length
 |[],s,dR,o,h=>by cases h;rfl
 |c::r,s,dR,o,h=>by
  simp only[qR]at h
  split at h<;>try exact Ζ
  rename_i p e
  split at h<;>try exact Ζ
  rename_i a b
  cases h
  rw[Tx (o:=a.1) (dR:=a.2) b,arQ (o:=p.1) (dR:=p.2) e]
def ac0{m:Nat}{s:O}{a:List Key}{l:List me}{p:aZ×O}(h:qQ m s a l=some p):p.2.n.length=s.n.length:=by
 obtain⟨o,c⟩:=p;unfold qQ at h
 split at h
 .exact Tx h
 .split at h<;>try exact Ζ
  split at h<;>try exact Ζ
  rename_i p b
  cases h
  rw[Tx (o:=p.1) (dR:=p.2) b,adl]
noncomputable def I.yJ{α:Type}(s:I α)(i:Nat)(z:α):I α:=⟨s.n,λt=>bif Nat.blt t i then s.at' t else z⟩
def I.cut{α:Type}(s:I α)(i:Nat):I α:=⟨i,s.at'⟩
def I.aHW{α:Type}(s:I α)(i:Nat)(z:α):(s.yJ i z).n=s.n:=rfl
def I.ac_{α:Type}(s:I α)(i:Nat):(s.cut i).n=i:=rfl
def vD(o:Oper):Option (Nat×Nat):=
 match o.guard with
 |none=>match o.dst with
  |some d=>match o.op with
   | .move x=>match x with
     | .tmp s=>some (d,s)
     |_=>none
   |_=>none
  |none=>none
 |some _=>none
def KI(o:Oper):Option (Nat×Nat):=
 match o.guard with
 |none=>match o.dst with
  |some d=>match o.op with
   | .assign x=>match x with
     | .tmp s=>some (d,s)
     |_=>none
   |_=>none
  |none=>none
 |some _=>none
structure Ky where
 d:Nat
 T:TypeId
 x:Nat
 y:Nat
def aaj(o:Oper):Option Ky:=
 match o.guard with
 |none=>match o.dst with
  |some d=>match o.op with
   | .slice T x l h m=>match x,l,h,m with
     | .tmp x,some (.tmp y),none,none=>some ⟨d,T,x,y⟩
     |_,_,_,_=>none
   |_=>none
  |none=>none
 |some _=>none
def aai(o:Oper):Option Ky:=
 match o.guard with
 |none=>match o.dst with
  |some d=>match o.op with
   | .slice T x l h m=>match x,l,h,m with
     | .tmp x,none,some (.tmp y),none=>some ⟨d,T,x,y⟩
     |_,_,_,_=>none
   |_=>none
  |none=>none
 |some _=>none
def Tg(o:Oper):Option (Nat×TypeId):=
 match o.guard with
 |none=>match o.dst with
  |none=>match o.op with
   | .call c=>match c.callee with
     | .builtin b=>match b with
       | .clear=>match c.args.toList,c.argTypes.toList with
         |[.tmp z],[T]=>some (z,T)
         |_,_=>none
       |_=>none
     |_=>none
   |_=>none
  |some _=>none
 |some _=>none
def Ym{o:Oper}{d s:Nat}(h:vD o=some (d,s)):o.guard=none/\o.dst=some d/\o.op= .move (.tmp s):=by
 unfold vD at h
 split at h<;>try exact Ζ
 split at h<;>try exact Ζ
 split at h<;>try exact Ζ
 split at h<;>cases h
 exact⟨Ψ,Ψ,Ψ⟩
def acm{o:Oper}{d s:Nat}(h:KI o=some (d,s)):o.guard=none/\o.dst=some d/\o.op= .assign (.tmp s):=by
 unfold KI at h
 split at h<;>try exact Ζ
 split at h<;>try exact Ζ
 split at h<;>try exact Ζ
 split at h<;>cases h
 exact⟨Ψ,Ψ,Ψ⟩
def aFL{o:Oper}{p:Ky}(h:aaj o=some p):o.guard=none/\o.dst=some p.d/\o.op= .slice p.T (.tmp p.x) (some (.tmp p.y)) none none:=by
 unfold aaj at h
 split at h<;>try exact Ζ
 split at h<;>try exact Ζ
 split at h<;>try exact Ζ
 split at h<;>cases h
 exact⟨Ψ,Ψ,Ψ⟩
def aFI{o:Oper}{p:Ky}(h:aai o=some p):o.guard=none/\o.dst=some p.d/\o.op= .slice p.T (.tmp p.x) none (some (.tmp p.y)) none:=by
 unfold aai at h
 split at h<;>try exact Ζ
 split at h<;>try exact Ζ
 split at h<;>try exact Ζ
 split at h<;>cases h
 exact⟨Ψ,Ψ,Ψ⟩
def aru{o:Oper}{z:Nat}{T:TypeId}(h:Tg o=some (z,T)):o.guard=none/\o.dst=none/\ ∃c,o.op= .call c/\c.callee= .builtin .clear/\c.args= #[.tmp z]/\c.argTypes= #[T]:=by
 unfold Tg at h
 split at h<;>try exact Ζ
 split at h<;>try exact Ζ
 split at h<;>try exact Ζ
 split at h<;>try exact Ζ
 split at h<;>try exact Ζ
 split at h<;>cases h
 rename_i c _ _ _ a _ _ b d;exact⟨Ψ,Ψ,_,Ψ,a,Array.toList_inj.1 b,Array.toList_inj.1 d⟩
def PD(st:O)(E:cZ)(s i:Nat)(K:Nat->Nat->IntKind->Int->Nat->(Nat->List J)->Option (aZ×O)):Option (aZ×O):=
 match st.n.getD s .undef with
 | .own b k=>match st.n.getD i .undef with
   | .int fY z=>match M st.k b 0 with
     | .ad a c n f=>dp (!a&&Nat.beq c E.af) (match K b k fY z n f with
       |some q=>some (.and (.e k n) (.and (.p ((0:Int)<=z/\z<(n:Int))) (.and (E.canon f) q.1)),q.2)
       |none=>none)
     |_=>none
   |_=>none
 |_=>none
def Lh(X:cm)(T:TypeId):Option (bU×cZ):=
 match X.ty T with
 |some t=>match t.d with
  | .slice e b _=>match X.el e with
    |some E=>match X.ty e with
     |some a=>dp (Nat.beq b E.af&&Nat.beq a.zero.length E.af&&Nat.beq a.size E.af) (some (a,E))
     |none=>none
    |none=>none
  |_=>none
 |none=>none
def YL:J->Bool
 | .undef=>false
 |_=>true
noncomputable def Th(X:cm)(ops:List Oper)(st:O):Option (aZ×O):=
 match ops with
 |[g,h,ib,tr]=>match vD g with
  |some c=>match vD h with
   |some d=>match aaj ib with
    |some a=>match Tg tr with
     |some e=>match Lh X a.T with
      |some q=>dp (Nat.beq a.x c.1&&Nat.beq a.y d.1&&Nat.beq e.1 a.d&&Nat.beq e.2 a.T&& !(Nat.beq c.1 d.1)&& !(Nat.beq d.2 c.1)&&Nat.blt c.1 st.n.length&&Nat.blt d.1 st.n.length&&Nat.blt a.d st.n.length&&q.1.zero.all YL)
       (PD st q.2 c.2 d.2 λb _ fY z n f=>some (.e (um q.1.zero (q.2.e (q.2.d q.1.zero))) (q.2.e (q.2.d q.1.zero)),
        ⟨((st.n.set c.1 (.own b n)).set d.1 (.int fY z)).set a.d .undef,rY st.k b b (.ad false q.2.af n λt=>q.2.e ((I.yJ (q.2.ab n f) z.toNat (q.2.d q.1.zero)).at' t))⟩))
      |none=>none
     |none=>none
    |none=>none
   |none=>none
  |none=>none
 |_=>none
noncomputable def Tw(X:cm)(ops:List Oper)(st:O):Option (aZ×O):=
 match ops with
 |[g,h,ib,tr]=>match vD g with
  |some a=>match vD h with
   |some c=>match aai ib with
    |some d=>match KI tr with
     |some e=>match Lh X d.T with
      |some q=>dp (Nat.beq d.x a.1&&Nat.beq d.y c.1&&Nat.beq e.2 d.d&& !(Nat.beq a.1 c.1)&& !(Nat.beq c.2 a.1)&&Nat.blt a.1 st.n.length&&Nat.blt c.1 st.n.length&&Nat.blt d.d st.n.length&&Nat.blt e.1 st.n.length)
       (PD st q.2 a.2 c.2 λb _ fY z n f=>some (.dr,
        ⟨(((st.n.set a.1 .undef).set c.1 (.int fY z)).set d.d (.own st.k.length z.toNat)).set e.1 (.own st.k.length z.toNat),rY st.k b st.k.length (.ad false q.2.af z.toNat λt=>q.2.e ((I.cut (q.2.ab n f) z.toNat).at' t))⟩))
      |none=>none
     |none=>none
    |none=>none
   |none=>none
  |none=>none
 |_=>none
noncomputable def YR(X:cm)(ops:List Oper)(a:Bool)(st:O):Option (aZ×O):=
 match a with
 |true=>none
 |false=>match Th X ops st with
  |some q=>some q
  |none=>Tw X ops st
section
variable {X:cm} {S:ez} {ι:Nat->Option Nat} {st:O} {a:Act} {w:World}
def EX{P:Program}{ops:Array Oper}{Q:Exit->Act->World->Prop}{b:List Oper}{o:Oper}(c:o.guard=none)(h:o.wp P a w (wpList P ops Q b) Q):wpList P ops Q (o::b) a w:=by
 unfold wpList;rw[bg (by simp [Region.wanted,c])];exact .inl h
def ajC{P:Program}{o:Oper}{d s:Nat}{next:Act->World->Prop}{Q:Exit->Act->World->Prop}(h:vD o=some (d,s))(e:next (a.put (some d) (a.eval (.tmp s))) w):o.wp P a w next Q:=by
 have⟨_,b,c⟩:=Ym h;refine dK (v:=a.eval (.tmp s)) (w':=w) ?_ (by rw[b];exact e);simp [execOp,c]
def aqt{P:Program}{o:Oper}{d s:Nat}{next:Act->World->Prop}{Q:Exit->Act->World->Prop}(h:KI o=some (d,s))(e:next (a.put (some d) (a.eval (.tmp s))) w):o.wp P a w next Q:=by
 have⟨_,b,c⟩:=acm h;refine dK (v:=a.eval (.tmp s)) (w':=w) ?_ (by rw[b];exact e);simp [execOp,c]
def Ey(d:Nat)(v:Value)(t:Nat):(a.put (some d) v).eval (.tmp t)=if t=d/\d<a.tmps.size then v else a.eval (.tmp t):=by
 simp only[Act.eval,Act.put]
 by_cases e:t=d
 .subst e
  by_cases h:t<a.tmps.size
  .simp [h]
  .simp [h]
 .simp only[e,false_and,oe];rw[J5,J5,J4 (λh=>e h.symm)]
def ake{E:cZ}{s i:Nat}{K:Nat->Nat->IntKind->Int->Nat->(Nat->List J)->Option (aZ×O)}{o:aZ}{g:O}(h:PD st E s i K=some (o,g))(u:o.holds):
  ∃b k fY z n f e,st.n.getD s .undef= .own b n/\st.n.getD i .undef= .int fY z/\M st.k b 0= .ad false E.af n f/\K b k fY z n f=some (e,g)/\0<=z/\z<(n:Int)/\(∀t,f t=E.e (E.d (f t)))/\e.holds:=by
 unfold PD at h
 split at h<;>try exact Ζ
 rename_i b k j
 split at h<;>try exact Ζ
 rename_i fY z l
 split at h<;>try exact Ζ
 rename_i v w n f bo;rw[dw]at h;obtain⟨d,h⟩:=h
 split at h<;>try exact Ζ
 rename_i q m
 cases h
 obtain⟨a,c,p,r⟩:=u;have a:k=n:=a;subst a;simp only[b2,j4]at d;obtain⟨cX,ct⟩:=d;have ct:=ey ct;subst cX ct;exact⟨b,_,fY,z,_,f,q.1,j,l,bo,m,c.1,c.2,λt=>congrFun p t,r⟩
def adD(j:X.env.dU){T:TypeId}{b:bU}{E:cZ}(h:Lh X T=some (b,E)):b.zero.length=E.af/\ ∃e i z,X.P.underlying T=some (.slice e)/\X.P.info? e=some i/\i.size=E.af/\i.zero=some z/\z.cells.size=E.af/\bb mi b.zero z.cells.toList:=by
 unfold Lh at h
 split at h<;>try exact Ζ
 rename_i t m
 split at h<;>try exact Ζ
 rename_i e A y l
 split at h<;>try exact Ζ
 rename_i w x
 split at h<;>try exact Ζ
 rename_i C n;rw[dw]at h;obtain⟨f,h⟩:=h
 cases h
 simp only[b2]at f;obtain⟨⟨cX,ct⟩,a⟩:=f;have cX:=ey cX;have ct:=ey ct;have a:=ey a;have k:=(j.ty T t m).d;rw[l]at k;obtain⟨v,i,s,B,_⟩:=k;have⟨c,z,d,o,p,q,r⟩:=(j.ty e b n).info;have u:c=i:=by
  have:X.P.info? e=some c:=d;have g:X.P.info? e=some i:=s;rw[this]at g;cases g;rfl
 subst u;exact⟨ct,e,c,z,v,d,by rw[o,a],p,by rw[q,a],r⟩
def adW(h:a2 S ι st a w){t:Nat}{av:J}(e:st.n.getD t .undef=av):bA S ι st.k w av (a.eval (.tmp t)):=by
 have:=h.eval (.tmp t);simp only[aE]at this;rwa [e]at this
def alY(h:a2 S ι st a w){c d s i b n:Nat}{fY:IntKind}{z:Int}{g:J}{ops:Array Oper}{Q:Exit->Act->World->Prop}{m o:Oper}{l:List Oper}
  (f:vD m=some (c,s)) (j:vD o=some (d,i)) (u:c≠d) (x:i≠c) (A:c<st.n.length) (B:d<st.n.length) (p:st.n.getD s .undef= .own b n) (q:st.n.getD i .undef= .int fY z) (E:g= .undef\/g= .own b n)
  (y: ∀a',a2 S ι ⟨(st.n.set c g).set d (.int fY z),st.k⟩ a' w->eY S ι st.k w (.own b n) (a'.eval (.tmp c))->a'.eval (.tmp d)= .int fY z->wpList X.P ops Q l a' w):wpList X.P ops Q (m::o::l) a w:=by
 have cX:=adW h p;have ct:=adW h q;have F:=bA.int ct;refine EX (Ym f).1 (ajC f (EX (Ym j).1 (ajC j ?_)));have k: ∀t,t<st.n.length->t<a.tmps.size:=λt C=>by
  have⟨v,D,_⟩:=h.n t _ (cG C);exact(tL.1 D).1
 have r:(a.put (some c) (a.eval (.tmp s))).eval (.tmp i)= .int fY z:=by
  rw[Ey,aW (λe=>x e.1)];exact F
 have G:a2 S ι ⟨st.n.set c g,st.k⟩ (a.put (some c) (a.eval (.tmp s))) w:=by
  rcases E with rfl|rfl
  .exact a2.dst h (some c) (av:= .undef) trivial
  .exact a2.dst h (some c) cX
 have H:=a2.dst G (some d) (av:= .int fY z) (v:= .int fY z) (bA.mkInt _ _);rw[r];refine y _ H ?_ ?_
 .rw[Ey,aW (λe=>u e.1),Ey,bg ⟨rfl,k _ A⟩];exact cX
 .rw[Ey,bg ⟨rfl,by simp [Act.put];exact k _ B⟩]
def aaQ{E:cZ}{a:bU}{z:Value}(d:bb mi a.zero z.cells.toList)(i:a.zero.all YL=true)(h:ll a.zero (E.e (E.d a.zero)))(m:a.zero.length=E.af){j:Nat}(l:j<E.af)(w:World)(F:Nat->Prop):
  ∃av u,(E.e (E.d a.zero))[j]? =some av/\z.cells[j]? =some u/\a6 w F av u:=by
 obtain⟨x,c⟩: ∃x,a.zero[j]? =some x:=⟨_,cG Ω⟩;have⟨v,e,b⟩:=d.get j x c;have⟨y,f,g⟩:=Py j x h c;have k:YL x=true:=d_.1 i x (fr c);refine⟨y,v,f,by simpa using e,YF g ?_⟩
 cases x<;>simp only[mi]at b<;>first|exact b.elim|(subst b;constructor)|(obtain⟨rfl,d⟩:=b;exact a6.str _ Ω)|(cases k;done)
def aHy{z:Array Value}{m t j:Nat}(c:t<m)(a:j<z.size):(Builtin.zeroCells z m).toList[t*z.size+j]? =z[j]? :=by
 have b:=nY c a;simp only[Builtin.zeroCells,Array.toList_map,hJ,QM];rw[Array.getElem?_range];rw[bg b];simp only[tM];have:(t*z.size+j)%z.size=j:=by rw[Nat.add_comm,Nat.add_mul_mod_self_right,QQ a]
 rw[this,getElem!_pos z j a,r3 a]
def KA(X:cm)(ops:Array Oper)(st b:O):Prop:= ∀(S:ez) (ι:Nat->Option Nat) (a:Act) (w:World) (Q:Exit->Act->World->Prop),a2 S ι st a w->(∀aC a' w',a2 S aC b a' w'->Q .normal a' w')->wpList X.P ops Q ops.toList a w
def KA.wp{ops:Array Oper}{b:O}(h:KA X ops st b)(id:Nat):WP X.env (.region id ops false) (λe s=>e= .normal/\s=b) st:=λS _ ι a w c=>
 wp_region_list (h S ι a w _ c λaC a' w' d=>⟨aC,b,d,rfl,rfl⟩)
def arx(nT:X.env.dU){ops:Array Oper}{aO:aZ}{dR:O}(h:Th X ops.toList st=some (aO,dR))(eV:aO.holds):KA X ops st dR:=by
 intro S ι a w Q ql Wd;unfold Th at h
 split at h<;>try exact Ζ
 rename_i AR Jh ib tr TH
 split at h<;>try exact Ζ
 rename_i ef TI
 split at h<;>try exact Ζ
 rename_i ek TJ
 split at h<;>try exact Ζ
 rename_i PH TK
 split at h<;>try exact Ζ
 rename_i Zm asK
 split at h<;>try exact Ζ
 rename_i q eq;obtain⟨N,E⟩:=q;rw[dw]at h;obtain⟨k,h⟩:=h;simp only[b2,j4]at k;obtain⟨⟨⟨⟨⟨⟨⟨⟨⟨cw,a5⟩,j_⟩,nz⟩,mU⟩,B⟩,D⟩,F⟩,G⟩,A⟩:=k;replace cw:=(ey cw).symm;replace a5:=(ey a5).symm;replace j_:=(ey j_).symm;replace nz:=(ey nz).symm;replace mU:=QL mU;replace B:=QL B;replace D:ef.1<st.n.length:=hH D;replace F:ek.1<st.n.length:=hH F;replace G:PH.d<st.n.length:=hH G;obtain⟨Y,s⟩:=ef;obtain⟨Z,i⟩:=ek;obtain⟨aHB,aHJ⟩:=Zm;obtain⟨d3,T,o,aHq⟩:=PH;simp only at cw a5 j_ nz mU B D F G A h;subst cw a5 j_ nz;have⟨b,hA,fY,z,n,f,Pz,mY,iJ,bo,rE,Ap,axJ,Wo,Ot⟩:=ake h eV;simp only[hI,od]at rE;obtain⟨rfl,rfl⟩:=rE;have U:ll N.zero (E.e (E.d N.zero)):=K1 Ot;have⟨V,e,inf,d,hu,DR,pb,xQ,J,R⟩:=adD nT eq;rw[TH];refine alY (g:= .own b n) ql TI TJ mU B D F mY iJ (.inr rfl) λa' ahH Ai Xi=> ?_;have⟨kK,WI⟩:=ql.Jt bo Ai;rcases WI with⟨x,c,C,mh,l2,m,nW,H,l0,mE⟩|⟨fv,_⟩
 case inr=>omega
 have⟨VK,VR,VS⟩:=aFL TK;have⟨VV,sV,aHU,agD,auT,auU,auW⟩:=aru asK;have Oo:(Instr.sliceBounds true n c (some (.int fY z)) none none).run X.P w= .ok (z.toNat,n,c) w:=by
  simp [Instr.sliceBounds,run_sliceBound w fY z n _ Ap Ω]
 refine EX VK (dK (v:= .slice (some ⟨x,z.toNat*E.af,none⟩) (n-z.toNat) (c-z.toNat)) (w':=w) ?_ ?_)
 .have kl: ¬c=z.toNat:=by omega
  simp [execOp,VS,m,Xi,Instr.sliceAt,fN hu,Instr.slice,Oo,sizeOf,typeInfo,DR,pb,kl,Addr.add];exact λh=>h.symm
 rw[VR];have Oz:a2 S ι ⟨((st.n.set Y (.own b n)).set Z (.int fY z)).set d3 .undef,st.k⟩ (a'.put (some d3) (.slice (some ⟨x,z.toNat*E.af,none⟩) (n-z.toNat) (c-z.toNat))) w:=a2.dst ahH (some d3) (av:= .undef) trivial;have Ws:d3<a'.tmps.size:=by
  have⟨v,m,_⟩:=ahH.n d3 _ (cG (by simpa using G));exact(tL.1 m).1
 have Oe:(a'.put (some d3) (.slice (some ⟨x,z.toNat*E.af,none⟩) (n-z.toNat) (c-z.toNat))).eval (.tmp d3)= .slice (some ⟨x,z.toNat*E.af,none⟩) (n-z.toNat) (c-z.toNat):=by
  rw[Ey,bg ⟨rfl,Ws⟩]
 generalize (a'.put (some d3) (.slice (some ⟨x,z.toNat*E.af,none⟩) (n-z.toNat) (c-z.toNat)))=a3 at Oz Oe;have aw8:d.cells.all (λv=>v.oneCell')=true:=by
  apply Array.all_eq_true.2;intro j K;have⟨av,u,_,y,W⟩:=aaQ R A U V (j:=j) (by rw[<-J];exact K) w (λ_=>True);rw[r3 K]at y
  cases y
  exact W.YM
 obtain⟨ahM,IE⟩:(Builtin.zeroCells d.cells (n-z.toNat)).toList.length=(n-z.toNat)*E.af/\ ∀v∈(Builtin.zeroCells d.cells (n-z.toNat)).toList,v.oneCell'=true:=by
  refine⟨by simp [Builtin.zeroCells,J],λv m=> ?_⟩;simp only[Builtin.zeroCells,Array.toList_map,oc,Array.mem_toList_iff,Array.mem_range]at m;obtain⟨t,L,rfl⟩:=m;have Ow:0<d.cells.size:=by
   rcases yr d.cells.size with e|e
   .rw[e]at L;simp at L
   .exact e
  have ht:=Nat.mod_lt t Ow;rw[getElem!_pos d.cells _ ht];exact Array.all_eq_true.1 aw8 _ ht
 have hmul:z.toNat*E.af+(n-z.toNat)*E.af=n*E.af:=by rw[<-ig];congr 1;omega
 have aw4:n*E.af<=C.size:=by rw[l0];exact h4 _ nW
 have awp:=ak6 (P:=X.P) w T e tr.type d hu (λw=>by simp [zeroValue,typeInfo,DR,xQ]) x (z.toNat*E.af) (n-z.toNat) (c-z.toNat) Ω _ rfl IE (λj K=>by
  rw[ahM]at K;rw[BR H,r3 Ω];rfl) (λj _=>F6 H _)
 refine EX VV (dK (v:= .tuple #[]) (w':=w.setCells x (z.toNat*E.af) (Builtin.zeroCells d.cells (n-z.toNat)).toList) ?_ ?_)
 .simp [execOp,agD,resolve,auT,auU,auW,invoke,builtin,Oe];rw[awp];rfl
 rw[sV];have⟨⟨By,q1,y,W⟩,Zy,Jy,Jz,JA,JB⟩:=ta x (Builtin.zeroCells d.cells (n-z.toNat)).toList (z.toNat*E.af) w C mh (0,0) H;generalize w.setCells x (z.toNat*E.af) (Builtin.zeroCells d.cells (n-z.toNat)).toList=w' at*
 have TB:M (⟨((st.n.set Y (.own b n)).set Z (.int fY z)).set d3 .undef,st.k⟩:O).k b 0= .ad false E.af n f:=bo;have⟨aC,WT,_⟩:=a2.Qz (b:=b) (a5:=b) (f:=f) (gD:=λt=>E.e ((I.yJ (E.ab n f) z.toNat (E.d N.zero)).at' t)) (n':=n) (c:=c) (w':=w') (lv:=By) Oz TB l2 H Jz JA JB Zy Jy q1 (by rw[y];exact l0) kK nW (λp r aL l=>by
  have aIQ:=nY aL l;rw[W,ahM];show∃av u,(E.e (cond (Nat.blt p z.toNat) (E.d (f p)) (E.d N.zero)))[r]? =some av/\_
  by_cases ahA:p<z.toNat
  .have k:Nat.blt p z.toNat=true:=by simpa[jL]using ahA
   have:=nY ahA l;rw[aW Ω,k,au,<-Wo];exact mE p r aL l
  .have k:Nat.blt p z.toNat=false:=by
    cases e:Nat.blt p z.toNat with
    |false=>rfl
    |true=>exact absurd (hH e) Ω
   have fw:z.toNat*E.af<=p*E.af:=h4 _ Ω;have hU:(p-z.toNat)*E.af=p*E.af-z.toNat*E.af:=E1 _ _ _;rw[bg ⟨Ω,Ω,Ω⟩,k,aB];have⟨av,u,ix,gF,j0⟩:=aaQ R A U V l w' (aX S ι st.k w);refine⟨av,u,ix,?_,?_⟩
   .have L:p-z.toNat<n-z.toNat:=by omega
    have:=aHy (z:=d.cells) L (by rw[J];exact l);rw[J]at this;rw[show p*E.af+r-z.toNat*E.af=(p-z.toNat)*E.af+r by omega,this];exact gF
   .obtain⟨aHO,al0,ah7,ain,azU⟩:=aaQ R A U V l w (aX S ι st.k w);rw[ix]at ah7;cases ah7;rw[gF]at ain;cases ain;exact azU) (.inl ⟨rfl,.inr ⟨rfl,y⟩⟩)
 exact Wd aC _ w' WT
def arO(nT:X.env.dU){ops:Array Oper}{u:aZ}{P:O}(h:Tw X ops.toList st=some (u,P))(eV:u.holds):KA X ops st P:=by
 intro S ι a w Q m Wd;unfold Tw at h
 split at h<;>try exact Ζ
 rename_i AR Jh ib tr TH
 split at h<;>try exact Ζ
 rename_i K TI
 split at h<;>try exact Ζ
 rename_i L TJ
 split at h<;>try exact Ζ
 rename_i N TK
 split at h<;>try exact Ζ
 rename_i Zm A
 split at h<;>try exact Ζ
 rename_i q eq;obtain⟨jb,E⟩:=q;rw[dw]at h;obtain⟨F,h⟩:=h;simp only[b2,j4]at F;obtain⟨⟨⟨⟨⟨⟨⟨⟨cw,a5⟩,j_⟩,mU⟩,d⟩,j⟩,k⟩,l⟩,R⟩:=F;replace cw:=(ey cw).symm;replace a5:=(ey a5).symm;replace j_:=(ey j_).symm;replace mU:=QL mU;replace d:=QL d;replace j:K.1<st.n.length:=hH j;replace k:L.1<st.n.length:=hH k;replace l:N.d<st.n.length:=hH l;obtain⟨U,s⟩:=K;obtain⟨V,i⟩:=L;obtain⟨W,aHB⟩:=Zm;obtain⟨d3,T,o,aHq⟩:=N;simp only at cw a5 j_ mU d j k l R h;subst cw a5 j_;have⟨b,hA,fY,z,n,f,Pz,Y,Z,bo,D,Ap,axJ,Wo,Ot⟩:=ake h eV;simp only[hI,od]at D;obtain⟨rfl,rfl⟩:=D;have⟨Xq,e,inf,aJI,hu,DR,pb,xQ,DS,ahk⟩:=adD nT eq;rw[TH];refine alY (g:= .undef) m TI TJ mU d j k Y Z (.inl rfl) λa' G Ai Xi=> ?_;have⟨kK,WI⟩:=m.Jt bo Ai;rcases WI with⟨x,c,C,mh,J,y,nW,B,l0,mE⟩|⟨fv,_⟩
 case inr=>omega
 have⟨VK,VR,VS⟩:=aFI TK;have⟨VV,sV,agD⟩:=acm A;have Ok:(Instr.sliceBounds true n c none (some (.int fY z)) none).run X.P w= .ok (0,z.toNat,c) w:=by
  simp [Instr.sliceBounds,run_sliceBound w fY z c _ Ap Ω]
 have TB:M (⟨(st.n.set U .undef).set V (.int fY z),st.k⟩:O).k b 0= .ad false E.af n f:=bo;have⟨aC,Oz,H⟩:=a2.Qz (b:=b) (a5:=st.k.length) (f:=f) (gD:=λt=>E.e ((I.cut (E.ab n f) z.toNat).at' t)) (n':=z.toNat) (c:=c) (w':=w) (lv:=C) G TB J B rfl rfl rfl rfl (λ_ _=>rfl) B l0 Ω Ω (λp r aO hv=>by
  show∃av mS,(E.e (E.d (f p)))[r]? =some av/\_;rw[<-Wo];exact mE p r Ω hv) (.inr ⟨λaL=>by
   have:=m.hn b x J;omega,λu=>vj (bH _) u,m.Pp (bH _)⟩)
 refine EX VK (dK (v:= .slice (some ⟨x,0,none⟩) z.toNat c) (w':=w) ?_ ?_)
 .simp [execOp,VS,y,Xi,Instr.sliceAt,fN hu,Instr.slice,Ok,sizeOf,typeInfo,DR,pb,Addr.add]
 rw[VR];have Ws:d3<a'.tmps.size:=by
  have⟨v,y,_⟩:=G.n d3 _ (cG (by simpa using l));exact(tL.1 y).1
 have WT:=a2.dst Oz (some d3) (av:= .own st.k.length z.toNat) (v:= .slice (some ⟨x,0,none⟩) z.toNat c) H;have Oe:(a'.put (some d3) (.slice (some ⟨x,0,none⟩) z.toNat c)).eval (.tmp d3)= .slice (some ⟨x,0,none⟩) z.toNat c:=by
  rw[Ey,bg ⟨rfl,Ws⟩]
 refine EX VV (aqt A ?_);rw[Oe];exact Wd aC _ w (a2.dst WT (some W) (av:= .own st.k.length z.toNat) H)
def aDG(b:X.env.dU){ops:Array Oper}{a:Bool}{o:aZ}{dR:O}(h:YR X ops.toList a st=some (o,dR))(c:o.holds)(id:Nat):WP X.env (.region id ops a) (λe s=>e= .normal/\s=dR) st:=by
 unfold YR at h
 cases a with
 |true=>cases h
 |false=>
  simp only at h
  split at h
  .rename_i q d
   cases h
   exact(arx b d c).wp id
  .exact(arO b h c).wp id
end
inductive apR where
 |pure
 |own (E:cZ)
 |heap
 |mF (kC:Bool) (adj:List Key) (l:List me)
 |ff (kC:Bool) (adj:List Key) (l:List me) (vV:List J->O) (di:O->List J)
structure c2 where
 md:apR
 rs:List ResultVar
 bF:List (Key×aG)
 iF:O
def c2.ck(R:c2):List aG:=R.bF.map (·.2)
def c2.st(R:c2)(a:List J):O:=
 match R.md with
 | .ff _ _ _ vV _=>vV a
 |_=>AM R.iF (R.bF.map (·.1)) a
def PQ(x y:J):J:=
 match y with
 | .arr a _ g=>match x with
   | .aH=> .arr a 0 g
   |x=>x
 | .undef=> .aH
 | .agg _=> .aH
 |_=>x
def EC:List J->List J->List J
 |x::a,y::b=>PQ x y::EC a b
 |[],_=>[]
 |x::a,[]=>x::a
def ZF(x y:J):J:=
 match y with
 | .agg a=>match x with
   | .agg cs=> .agg (EC cs a)
   |x=>x
 |y=>PQ x y
def A3:List J->List J->List J
 |x::a,y::b=>ZF x y::A3 a b
 |[],_=>[]
 |x::a,[]=>x::a
def akG{x y:J}(h:PQ x y=y):hN x y:=by
 cases y<;>simp only[PQ]at h<;>try exact Ζ
 case arr a n g=>
  cases x<;>simp only[J.arr.injEq,reduceCtorEq]at h
  .exact h.2.1.symm
  .obtain⟨rfl,rfl,rfl⟩:=h;exact⟨rfl,rfl,λ_ _=>rfl⟩
 all_goals (subst h;rfl)
def akH: ∀{b a:List J},EC b a=a->bb hN b a
 |[],[],_=>trivial
 |[],_::_,h=>by simp [EC]at h
 |_::_,[],h=>by simp [EC]at h
 |x::b,y::a,h=>by
  simp only[EC,oa]at h;exact⟨akG h.1,akH h.2⟩
def aEK{x y:J}(h:ZF x y=y):lD x y:=by
 cases y<;>simp only[ZF]at h
 case agg a=>
  cases x<;>simp only[J.agg.injEq,reduceCtorEq]at h
  exact akH h
 all_goals
  have:=akG h
  cases x<;>first|exact this|(simp [hN]at this;done)
def ZG: ∀{b a:List J},A3 b a=a->bb lD b a
 |[],[],_=>trivial
 |[],_::_,h=>by simp [A3]at h
 |_::_,[],h=>by simp [A3]at h
 |x::b,y::a,h=>by
  simp only[A3,oa]at h;exact⟨aEK h.1,ZG h.2⟩
def ZO(X:cm)(st:O)(r:ResultVar):Option i_:=
 match r with
 | .tmp t=>y4 st.k (st.n.getD t .undef)
 | .cell t T=>j3 X T λb=>match loadT b st.k (st.n.getD t .undef)with
   |some q=>match y4 st.k q.2 with
    |some a=>some (.and q.1 a.1,a.2)
    |none=>none
   |none=>none
def aE2{X:cm}{st:O}{r:ResultVar}{o:aZ}{av:J}{K:J->Prop}(h:ZO X st r=some (o,av))(b:o.holds)(c:K av):PY X.env st r K:=by
 unfold ZO at h;unfold PY
 cases r with
 |tmp t=>exact Ua h b c
 |cell t T=>
  simp only at h |-;have⟨i,g,a⟩:=kP h;refine kQ g ?_
  split at a<;>try exact Ζ
  rename_i q e
  split at a<;>try exact Ζ
  rename_i d f
  cases a
  exact O2 (o:=q.1) (av:=q.2) e b.1 (Ua (o:=d.1) (av:=d.2) f b.2 c)
def PX(X:cm)(st:O):List ResultVar->Option (aZ×List J)
 |[]=>some (.dr,[])
 |r::rs=>match ZO X st r with
  |some q=>match PX X st rs with
   |some a=>some (.and q.1 a.1,q.2::a.2)
   |none=>none
  |none=>none
def akT{X:cm}{st:O} : ∀{rs:List ResultVar} {o:aZ} {cQ:List J} {K:List J->Prop},PX X st rs=some (o,cQ)->o.holds->K cQ->A4 X.env st rs K
 |[],o,cQ,K,h,b,a=>by cases h;exact a
 |r::rs,o,cQ,K,h,b,a=>by
  simp only[PX]at h
  split at h<;>try exact Ζ
  rename_i q e
  split at h<;>try exact Ζ
  rename_i c d
  cases h
  exact aE2 (o:=q.1) (av:=q.2) e b.1 (akT (o:=c.1) (cQ:=c.2) d b.2 a)
def WQ(X:cm)(st:O)(r:ResultVar):Option i_:=
 match r with
 | .tmp t=>da (st.n.getD t .undef)
 | .cell t T=>j3 X T λa=>loadT a st.k (st.n.getD t .undef)
def axf{X:cm}{st:O}{r:ResultVar}{o:aZ}{av:J}{K:J->Prop}(h:WQ X st r=some (o,av))(d:o.holds)(a:K av):WO X.env st r K:=by
 unfold WQ at h;unfold WO
 cases r with
 |tmp t=>cases h;exact a
 |cell t T=>
  simp only at h |-;have⟨e,b,c⟩:=kP h;exact kQ b (O2 c d a)
def DV(X:cm)(st:O):List ResultVar->Option (aZ×List J)
 |[]=>some (.dr,[])
 |r::rs=>match WQ X st r with
  |some q=>match DV X st rs with
   |some a=>some (.and q.1 a.1,q.2::a.2)
   |none=>none
  |none=>none
def Ox{X:cm}{st:O} : ∀{rs:List ResultVar} {o:aZ} {cQ:List J} {K:List J->Prop},DV X st rs=some (o,cQ)->o.holds->K cQ->xS X.env st rs K
 |[],o,cQ,K,h,b,a=>by cases h;exact a
 |r::rs,o,cQ,K,h,b,a=>by
  simp only[DV]at h
  split at h<;>try exact Ζ
  rename_i q e
  split at h<;>try exact Ζ
  rename_i c d
  cases h
  exact axf (o:=q.1) (av:=q.2) e b.1 (Ox (o:=c.1) (cQ:=c.2) d b.2 a)
def PE(E:cZ)(H:Heap)(x:J):Option i_:=
 match x with
 | .own b k=>match M H b 0 with
   | .ad a c n f=>dp (!a&&Nat.beq c E.af) (some (.and (.e k n) (E.canon f),.ad false E.af n λi=>E.e ((E.ab n f).at' i)))
   |_=>none
 | .aH=>da (.ad false E.af 0 λi=>E.e ((@B E.T E.xV).at' i))
 |_=>none
def akf{E:cZ}{H:Heap}{x:J}{o:aZ}{av:J}(h:PE E H x=some (o,av))(a:o.holds): ∃n f,av= .ad false E.af n f/\Er H E.af n f x:=by
 unfold PE at h;unfold Er
 cases x<;>simp only[da]at h |- <;>try exact Ζ
 .cases h;exact⟨0,_,rfl,rfl⟩
 .split at h<;>try exact Ζ
  rename_i e;rw[dw]at h;obtain⟨b,h⟩:=h
  cases h
  (try simp only[e])
  exact⟨_,_,rfl,aF.2 ⟨b,a.1,rfl,λi _=>congrFun a.2 i⟩⟩
def ZM(X:cm)(E:cZ)(st:O)(rs:List ResultVar):Option i_:=
 match rs with
 |[x]=>match x with
  | .tmp t=>PE E st.k (st.n.getD t .undef)
  | .cell t T=>j3 X T λb=>match loadT b st.k (st.n.getD t .undef)with
    |some q=>match PE E st.k q.2 with
     |some a=>some (.and q.1 a.1,a.2)
     |none=>none
    |none=>none
 |_=>none
def aE0{X:cm}{E:cZ}{st:O}{rs:List ResultVar}{o:aZ}{av:J}(h:ZM X E st rs=some (o,av))(b:o.holds): ∃n f,av= .ad false E.af n f/\EG X.env st rs E.af n f:=by
 unfold ZM at h
 split at h<;>try exact Ζ
 rename_i x;unfold EG
 cases x with
 |tmp t=>exact akf h b
 |cell t T=>
  simp only at h |-;have⟨k,g,a⟩:=kP h
  split at a<;>try exact Ζ
  rename_i q e
  split at a<;>try exact Ζ
  rename_i c d
  cases a
  have⟨n,f,i,j⟩:=akf (o:=c.1) (av:=c.2) d b.2;exact⟨n,f,i,kQ g (O2 (o:=q.1) (av:=q.2) e b.1 j)⟩
def Ub{H:Heap} : ∀{b:List J} {o:aZ} {cL:List J},uz H b=some (o,cL)->cL.length=b.length
 |[],o,cL,h=>by cases h;rfl
 |x::r,o,cL,h=>by
  simp only[uz]at h
  split at h<;>try exact Ζ
  split at h<;>try exact Ζ
  rename_i a c
  cases h
  simp [Ub (o:=a.1) (cL:=a.2) c]
def tX(X:cm)(R:c2)(s:O)(b:List J):Prop:=
 match R.md with
 | .pure=> ∀K:List J->Prop,(∀a,bb lD a (R.st b).n->K a)->A4 X.env s R.rs K
 | .own E=> ∃n f,b=[.ad false E.af n f]/\EG X.env s R.rs E.af n f
 | .heap=> ∀K:List J->Prop,(∀a,a.length=(R.st b).n.length->cB X.m ⟨a,s.k⟩ (R.st b)->K a)->xS X.env s R.rs K
 | .mF .. => ∀K:List J->Prop,(∀a,a.length=(R.st b).n.length->cB X.m ⟨a,s.k⟩ (R.st b)->K a)->xS X.env s R.rs K
 | .ff .. => ∀K:List J->Prop,(∀a,a.length=(R.st b).n.length->cB X.m ⟨a,s.k⟩ (R.st b)->K a)->xS X.env s R.rs K
def PW(a:Bool)(H:Heap)(l:List J):Option (aZ×O):=
 match a with
 |true=>match uz H l with
  |some z=>some (z.1,⟨z.2,bN H (e_ H l)⟩)
  |none=>none
 |false=>some (.dr,⟨l,H⟩)
def akR{m:Nat}{b:Bool}{H:Heap}{l:List J}{o:aZ}{s:O}(h:PW b H l=some (o,s))(c:o.holds):cB m ⟨l,H⟩ s/\l.length=s.n.length:=by
 unfold PW at h
 cases b with
 |false=>cases h;exact⟨cB.refl _,rfl⟩
 |true=>
  simp only at h
  split at h<;>try exact Ζ
  rename_i z a
  cases h
  exact⟨cB.su (o:=z.1) (sa:=z.2) a c,(Ub (o:=z.1) (cL:=z.2) a).symm⟩
def A5(X:cm)(R:c2)(s:O):Option (aZ×List J):=
 match R.md with
 | .pure=>match PX X s R.rs with
   |some q=>match rL R.bF ⟨q.2,[]⟩with
    |some a=>some (.and q.1 (.e (A3 q.2 (R.st a).n) (R.st a).n),a)
    |none=>none
   |none=>none
 | .own E=>match ZM X E s R.rs with
   |some q=>match et R.ck [q.2]with
    |some a=>some (.and q.1 (.e a [q.2]),a)
    |none=>none
   |none=>none
 | .heap=>match DV X s R.rs with
   |some q=>match uz s.k q.2 with
    |some z=>match rL R.bF ⟨z.2,bN s.k (e_ s.k q.2)⟩with
     |some a=>dp (iy X.m (R.st a)) (some (.and q.1 (.and z.1 (kZ ⟨z.2,bN s.k (e_ s.k q.2)⟩ (R.st a))),a))
     |none=>none
    |none=>none
   |none=>none
 | .mF c b l=>match DV X s R.rs with
   |some q=>match PW c s.k q.2 with
    |some z=>match qQ X.m z.2 b l with
     |some p=>match rL R.bF p.2 with
      |some a=>dp (iy X.m (R.st a)) (some (.and q.1 (.and z.1 (.and p.1 (kZ p.2 (R.st a)))),a))
      |none=>none
     |none=>none
    |none=>none
   |none=>none
 | .ff c b l _ d=>match DV X s R.rs with
   |some q=>match PW c s.k q.2 with
    |some z=>match qQ X.m z.2 b l with
     |some p=>match et R.ck (d p.2)with
      |some a=>dp (iy X.m (R.st a)) (some (.and q.1 (.and z.1 (.and p.1 (kZ p.2 (R.st a)))),a))
      |none=>none
     |none=>none
    |none=>none
   |none=>none
def ZR{X:cm}{R:c2}{s:O}{o:aZ}{cQ:List J}(h:A5 X R s=some (o,cQ))(a:o.holds):tX X R s cQ/\ ∃w,et R.ck w=some cQ:=by
 unfold A5 at h;unfold tX
 cases e:R.md<;>rw[e]at h<;>simp only at h |-
 .split at h<;>try exact Ζ
  rename_i q b
  split at h<;>try exact Ζ
  rename_i k c
  cases h
  exact⟨λK d=>akT (o:=q.1) (cQ:=q.2) b a.1 (d _ (ZG a.2)),_,c⟩
 .split at h<;>try exact Ζ
  rename_i q b
  split at h<;>try exact Ζ
  rename_i k c;simp only[hI,od]at h;obtain⟨rfl,rfl⟩:=h;have⟨n,f,t,u⟩:=aE0 (o:=q.1) (av:=q.2) b a.1;have v:k=[q.2]:=a.2;exact⟨⟨n,f,by rw[v,t],u⟩,_,c⟩
 .split at h<;>try exact Ζ
  rename_i q b
  split at h<;>try exact Ζ
  rename_i z g
  split at h<;>try exact Ζ
  rename_i k c;rw[dw]at h;obtain⟨j,h⟩:=h
  cases h
  exact⟨λK d=>Ox (o:=q.1) (cQ:=q.2) b a.1 (d _ ((Ub (o:=z.1) (cL:=z.2) g).symm.trans (Cf (D3 (BY a.2.2)).1)) ((cB.su (o:=z.1) (sa:=z.2) g a.2.1).trans (pI a.2.2 j))),_,c⟩
 .split at h<;>try exact Ζ
  rename_i q b
  split at h<;>try exact Ζ
  rename_i z g
  split at h<;>try exact Ζ
  rename_i p i
  split at h<;>try exact Ζ
  rename_i k c;rw[dw]at h;obtain⟨j,h⟩:=h
  cases h
  have⟨l,r⟩:=akR (m:=X.m) (o:=z.1) (s:=z.2) g a.2.1;exact⟨λK d=>Ox (o:=q.1) (cQ:=q.2) b a.1 (d _ (r.trans ((ac0 i).symm.trans (Cf (D3 (BY a.2.2.2)).1))) ((l.trans (yM (o:=p.1) (dR:=p.2) i a.2.2.1)).trans (pI a.2.2.2 j))),_,c⟩
 .split at h<;>try exact Ζ
  rename_i q b
  split at h<;>try exact Ζ
  rename_i z g
  split at h<;>try exact Ζ
  rename_i p i
  split at h<;>try exact Ζ
  rename_i k c;rw[dw]at h;obtain⟨j,h⟩:=h
  cases h
  have⟨l,r⟩:=akR (m:=X.m) (o:=z.1) (s:=z.2) g a.2.1;exact⟨λK d=>Ox (o:=q.1) (cQ:=q.2) b a.1 (d _ (r.trans ((ac0 i).symm.trans (Cf (D3 (BY a.2.2.2)).1))) ((l.trans (yM (o:=p.1) (dR:=p.2) i a.2.2.1)).trans (pI a.2.2.2 j))),_,c⟩
def tD(R:List aG)(b:Option Nat)(a:Bool)(es:List (Key×aG)):List aG:=
 match b with
 |some _=>match a with
  |true=> .bool::(es.map (·.2)++R)
  |false=>es.map (·.2)
 |none=>match a with
  |true=>R
  |false=>[]
structure ed (R:List aG) where
 keep:Nat
 drop:List Key
 jP:List (Key×cZ)
 bF:List (Key×aG)
 ex:Option Nat
 rt:Bool
 aAv:Nat
 drop2:List Key
 es:List (Key×aG)
 G:Nat->ea (bF.map (·.2))->ea (tD R ex rt es)
 m:j7
 I:ea (bF.map (·.2))->Prop
 l5:ea (bF.map (·.2))->Nat
 post:Option (ea (tD R ex rt es)->Prop):=none
inductive cz (R:List aG):Type 1 where
 |z
 |s (l r:cz R)
 |j (J:yz) (l r:cz R)
 |c (b:Bool) (h:cz R)
 |c6 (L:ed R) (h:cz R)
 |vC (L:ed R) (h:ea (L.bF.map (·.2))->cz R)
 |iQ (h:cz R)
 |un (n:Nat) (h:cz R)
 |iL (i b:Nat) (h:cz R)
 |jP (l:List (Key×cZ))
 |mW (adj:List Key) (l:List me)
 |Av (J:yz) (jP:List me) (l r:cz R)
 |YQ
 |b5 (st:O) (h:cz R)
 |nm (L:List (Nat×Nat))
structure apN (R:List aG):Type 1 where
 J:yz
 jP:List me
 l:cz R
 r:cz R
def cz.ah6{R:List aG} :cz R->Option (apN R)
 | .j J l r=>some ⟨J,[],l,r⟩
 | .Av J a l r=>some ⟨J,a,l,r⟩
 |_=>none
def O_(m:Nat)(a:List me)(J:yz)(t:T O):Option (aZ×O):=
 match a with
 |[]=>meet m J t
 |c::r=>match t.uf (λs=>(qR m s (c::r)).isSome)with
  |true=>match meet m J (t.map λs=>((qR m s (c::r)).getD (.dr,s)).2)with
   |some q=>some (.and (t.Ji λs=>((qR m s (c::r)).getD (.dr,s)).1) q.1,q.2)
   |none=>none
  |false=>none
def Yj{m:Nat}{g:List me}{J:yz}{t:T O}{o:aZ}{km:O}(h:O_ m g J t=some (o,km))(b:o.holds):cB m t.bQ km:=by
 unfold O_ at h
 split at h
 .exact ajp h b
 .rename_i c r
  split at h<;>try exact Ζ
  rename_i i
  split at h<;>try exact Ζ
  rename_i q j
  cases h
  have d:=T.BJ i;have f:=T.PA b.1;have a:=ajp (o:=q.1) (km:=q.2) j b.2;rw[T.mH]at a
  cases e:qR m t.bQ (c::r)with
  |none=>rw[e]at d;cases d
  |some p=>
   rw[e]at f a;exact(K7 (o:=p.1) (dR:=p.2) e f).trans a
def cz.l{R:List aG} :cz R->cz R
 | .s l _=>l
 | .j _ l _=>l
 | .c _ h=>h
 |_=> .z
def cz.r{R:List aG} :cz R->cz R
 | .s _ r=>r
 | .j _ _ r=>r
 | .c _ h=>h
 |_=> .z
def so(a:List aG):List J:=a.map λk=>k.av k.mX
def Ty: ∀a:List aG,et a (so a)=some (so a)
 |[]=>rfl
 |k::a=>by
  have h:=Ty a;unfold so at h;simp only[so,Br,et,aG.nrm,aG.canon,h]
def vp:fD->Bool
 | .nrm _=>true
 |_=>false
def T.lh:T fD->Bool
 | .di a=>vp a
 | .eG _ l r=>match l.lh with
   |true=>true
   |false=>r.lh
def T.ou:T fD->Nat
 | .di a=>match vp a with
   |true=>1
   |false=>0
 | .eG _ l r=>l.ou+r.ou
def T.qv:T fD->Option O
 | .di a=>match a with
   | .nrm s=>some s
   |_=>none
 | .eG _ l r=>match l.qv with
   |some s=>some s
   |none=>r.qv
def T.wrap(t:T fD)(o:aZ):aZ:=
 match t with
 | .di _=>o
 | .eG b l r=>match l.lh with
   |true=> .imp b true (l.wrap o)
   |false=> .imp b false (r.wrap o)
def T.subst(t u:T fD):T fD:=
 match t with
 | .di a=>match vp a with
   |true=>u
   |false=> .di a
 | .eG b l r=> .eG b (l.subst u) (r.subst u)
def T.s_: ∀{t:T fD} {s:O},t.bQ= .nrm s->t.lh=true
 | .di a,s,h=>by simp only[T.bQ]at h;subst h;rfl
 | .eG b l r,s,h=>by
   simp only[T.lh]
   cases b
   .rw[T.s_ (t:=r) h];split<;>rfl
   .rw[T.s_ (t:=l) h]
def T.FN: ∀{t:T fD},t.ou=0->t.lh=false
 | .di a,h=>by
   cases a<;>first|rfl|(simp [T.ou,vp]at h;done)
 | .eG b l r,h=>by
   simp only[T.ou]at h;simp only[T.lh,T.FN (t:=l) Ω,T.FN (t:=r) Ω]
def T.DN: ∀{t:T fD},t.lh=true->0<t.ou
 | .di a,h=>by simp only[T.lh]at h;simp [T.ou,h]
 | .eG b l r,h=>by
   simp only[T.lh]at h;simp only[T.ou]
   split at h
   .rename_i e;have:=T.DN e;omega
   .have:=T.DN h;omega
def T.aaD: ∀{t:T fD},t.lh=false->t.qv=none
 | .di a,h=>by cases a<;>first|rfl|(simp [T.lh,vp]at h;done)
 | .eG b l r,h=>by
   simp only[T.lh]at h
   split at h
   .cases h
   .rename_i e;simp only[T.qv,T.aaD (t:=l) (by simpa using e),T.aaD h]
def T.YN: ∀{t:T fD} {s f:O},t.ou=1->t.bQ= .nrm s->t.qv=some f->s=f
 | .di a,s,f,_,h,c=>by
   simp only[T.bQ]at h;subst h;simp only[T.qv]at c
   cases c;rfl
 | .eG b l r,s,f,g,h,c=>by
   simp only[T.ou]at g;simp only[T.qv]at c
   cases b
   .have u:=T.DN (T.s_ (t:=r) h);rw[T.aaD (t:=l) (T.FN Ω)]at c;exact T.YN (t:=r) Ω h c
   .have k:=T.DN (T.s_ (t:=l) h)
    split at c
    .cases c
     rename_i e;exact T.YN (t:=l) Ω h e
    .rename_i e;obtain⟨s2,i⟩: ∃s2,l.qv=some s2:=by
      have:=T.s_ (t:=l) h;clear c g h k;revert e;have o: ∀{t:T fD},t.lh=true-> ∃s2,t.qv=some s2:=by
       intro t
       induction t with
       |di a=>intro d;cases a<;>first|exact⟨_,rfl⟩|(simp [T.lh,vp]at d;done)
       |eG b l r m n=>
        intro d;simp only[T.lh]at d;simp only[T.qv]
        split at d
        .rename_i e;have⟨s2,h⟩:=m e;rw[h];exact⟨_,rfl⟩
        .cases p:l.qv with
         |some q=>exact⟨q,rfl⟩
         |none=>exact n d
      have⟨s2,j⟩:=o this;intro e;rw[j]at e;cases e
     rw[i]at e;cases e
def T.aaP: ∀{t:T fD} {s:O} {o:aZ},t.ou=1->t.bQ= .nrm s->(t.wrap o).holds->o.holds
 | .di a,s,o,_,_,h=>h
 | .eG b l r,s,o,e,c,h=>by
   simp only[T.ou]at e;simp only[T.wrap]at h
   cases b
   .have f:=T.DN (T.s_ (t:=r) c);rw[T.FN (t:=l) Ω]at h;exact T.aaP (t:=r) Ω c (h rfl)
   .have d:=T.s_ (t:=l) c;rw[d]at h;exact T.aaP (t:=l) (have:=T.DN d;Ω) c (h rfl)
def T.JO{u:T fD} : ∀{t:T fD} {s:O},t.bQ= .nrm s->(t.subst u).bQ=u.bQ
 | .di a,s,h=>by simp only[T.bQ]at h;subst h;rfl
 | .eG b l r,s,h=>by
   cases b
   .exact T.JO (t:=r) h
   .exact T.JO (t:=l) h
def T.JN{u:T fD} : ∀{t:T fD},vp t.bQ=false->(t.subst u).bQ=t.bQ
 | .di a,h=>by simp only[T.bQ]at h;simp only[T.subst,h,T.bQ]
 | .eG b l r,h=>by
   cases b
   .exact T.JN (t:=r) h
   .exact T.JN (t:=l) h
def Je:fD->Option O
 | .nrm s=>some s
 |_=>none
def IK:fD->Option fD
 | .nrm _=>none
 | .dead=>none
 |x=>some x
def ON:fD->Option Bool
 | .nrm _=>some true
 | .dead=>none
 |_=>some false
def IH(id:Nat):fD->fD
 | .ext j s=>match Nat.beq j id with
   |true=> .nrm s
   |false=> .ext j s
 |x=>x
def KH(a b:Option Prop):Option Prop:=
 match a with
 |none=>b
 |some p=>match b with
  |none=>some p
  |some q=>some (p/\q)
def s6(a:Option Prop)(o:aZ):aZ:=
 match a with
 |none=>o
 |some p=> .xI p o
section
variable {R:List aG}
def ed.ends(L:ed R):Bool:=
 match L.ex with
 |some _=>true
 |none=>L.rt
def ed.ch(L:ed R)(r:O):O:=Fz L.keep L.drop r
def ed.eh(L:ed R)(ch:O)(s:ea (L.bF.map (·.2))):O:=AM ch (L.bF.map (·.1)) (ea.hM (L.bF.map (·.2)) s)
def ed.km(L:ed R)(ch:O)(a:List J):O:=AM (Fz L.aAv L.drop2 ch) (L.es.map (·.1)) a
def ed.Q(L:ed R)(s:O):Option (ea (L.bF.map (·.2))):=
 match rL L.bF s with
 |some a=>tB _ a
 |none=>none
def ed.out(L:ed R)(c:fD):Option (List J):=
 match c with
 | .ext _ s=>match rL L.es s with
   |some a=>match L.ex with
    |some _=>match L.rt with
     |true=>some (.bool false::(a++so R))
     |false=>some a
    |none=>none
   |none=>none
 | .ret b=>match L.rt with
   |true=>match L.ex with
    |some _=>some (.bool true::(so (L.es.map (·.2))++b))
    |none=>some b
   |false=>none
 |_=>none
def ed.D9(L:ed R)(k:Nat)(di:fD):Option (ea (tD R L.ex L.rt L.es)):=
 match di with
 | .nrm s=>match L.Q s with
   |some b=>some (L.G k b)
   |none=>none
 | .dead=>none
 |di=>match L.out di with
  |some a=>tB _ a
  |none=>none
def ed.P1(L:ed R)(t:T fD)(k:Nat):ea (tD R L.ex L.rt L.es):=
 match t.prune (L.D9 k)with
 |some a=>a.kY L.m
 |none=>ea.mX _
def ed.P2(L:ed R)(t:T fD)(k:Nat):cg:=
 match t.prune (L.D9 k)with
 |some a=>a.BT L.m
 |none=> .dr
def ali(a:Option Nat)(id:Nat):Bool:=
 match a with
 |some i=>Nat.beq id i
 |none=>false
def ed.Zo(L:ed R)(a:List J):aZ:=
 match L.post with
 |some p=>match tB (tD R L.ex L.rt L.es) a with
  |some b=> .p (p b)
  |none=> .p False
 |none=> .dr
def ed.AB(L:ed R)(ch:O)(s:ea (L.bF.map (·.2)))(d:fD):aZ:=
 match d with
 | .nrm b=>match L.Q b with
   |some c=> .and (kZ b (L.eh ch c)) (.p (L.I c/\L.l5 c<L.l5 s))
   |none=> .p False
 | .ext id b=>match ali L.ex id with
   |true=>match rL L.es b with
    |some a=>match L.out (.ext id b)with
     |some w=> .and (kZ b (L.km ch a)) (L.Zo w)
     |none=> .p False
    |none=> .p False
   |false=> .p False
 | .ret e=>match L.out (.ret e)with
   |some _=> .dr
   |none=> .p False
 | .dead=> .dr
def ahf(l:List J):Bool:=
 match l with
 | .bool b::_=>b
 |_=>false
def ed.res(L:ed R)(ch:O)(a:ea (tD R L.ex L.rt L.es)):T fD:=
 match L.ex with
 |some id=>match L.rt with
  |true=> .eG (ahf (ea.hM _ a)) (.di (.ret ((ea.hM _ a).drop (1+L.es.length)))) (.di (.ext id (L.km ch (((ea.hM _ a).drop 1).take L.es.length))))
  |false=> .di (.ext id (L.km ch (ea.hM _ a)))
 |none=>match L.rt with
  |true=> .di (.ret (ea.hM _ a))
  |false=> .di .dead
def ed.fact(L:ed R)(a:ea (tD R L.ex L.rt L.es)):Option Prop:=
 match L.post with
 |some p=>match L.rt with
  |true=>none
  |false=>some (p a)
 |none=>none
end
def cz.pre{R:List aG}(m:Nat)(st:O):cz R->Option (aZ×O)
 | .mW a l=>qQ m st a l
 |_=>some (.dr,st)
def cz.aEt{R:List aG}{m:Nat}{st dR:O}{o:aZ} : ∀{h:cz R},h.pre m st=some (o,dR)->o.holds->cB m st dR:=λ{h} e a=>by
 unfold cz.pre at e
 split at e
 .exact yM e a
 .cases e;exact cB.refl _
noncomputable def JI{R:List aG}(m:Nat)(f g:cz R->O->jN)(h:cz R)(st:O):jN:=
 match h.ah6 with
 |some z=>match(f z.l st).t.prune Je with
  |some a=>match O_ m z.jP z.J a with
   |some q=>match(f z.l st).t.prune IK with
    |none=>⟨.and (f z.l st).o (s6 (f z.l st).f (.and q.1 (g z.r q.2).o)),KH (f z.l st).f (g z.r q.2).f,(g z.r q.2).t⟩
    |some b=>match(f z.l st).t.prune ON with
     |some gJ=>⟨.and (f z.l st).o (s6 (f z.l st).f (.and q.1 (.and (.es λ_:Unit=>gJ.BT z.J.pm) (.imp (gJ.kY z.J.pm) true (g z.r q.2).o)))),(f z.l st).f,.eG (gJ.kY z.J.pm) (g z.r q.2).t b⟩
     |none=> .bad
   |none=> .bad
  |none=> .bad
 |none=>match(f h.l st).t.ou with
  |0=>f h.l st
  |1=>match(f h.l st).t.qv with
   |some s=>⟨.and (f h.l st).o (s6 (f h.l st).f ((f h.l st).t.wrap (g h.r s).o)),(match(f h.l st).t with
    | .di _=>KH (f h.l st).f (g h.r s).f
    |_=>(f h.l st).f),(f h.l st).t.subst (g h.r s).t⟩
   |none=> .bad
  |_=> .bad
noncomputable def Ib{R:List aG}(m:Nat)(g:cz R->O->jN)(h:cz R)(st:O):jN:=
 match h with
 | .b5 a b=>match iy m a with
   |true=>⟨.and (kZ st a) (g b a).o,(g b a).f,(g b a).t⟩
   |false=> .bad
 |h=>g h st
noncomputable def JV{R:List aG}(m:Nat)(f:cz R->O->jN):Nat->cz R->O->jN
 |0,h,st=>match(f h st).t.lh with
  |true=> .bad
  |false=>f h st
 |n+1,h,st=>JI m f (Ib m (JV m f n)) h st
noncomputable def exec(X:cm)(R:c2):Code->cz R.ck->O->jN
 | .skip,h,st=>match h with
   | .mW f l=>match qQ X.m st f l with
     |some p=>⟨p.1,none,.di (.nrm p.2)⟩
     |none=> .bad
   |_=>⟨.dr,none,.di (.nrm st)⟩
 | .label _,_,st=>⟨.dr,none,.di (.nrm st)⟩
 | .region _ ops e,h,st=>match h with
   | .iL i b a=>match a.pre X.m st with
     |none=> .bad
     |some p=>match p.2.n.getD i .undef with
      | .ptr b' o=>match(Nat.beq b' b&&Nat.beq o 0)with
        |true=>match(p.2.k.getD b []).all ot&&x3 ⟨p.2.n.set i (.ref (p.2.k.getD b [])),setAt [] p.2.k b []⟩&&iy X.m ⟨p.2.n.set i (.ref (p.2.k.getD b [])),setAt [] p.2.k b []⟩&&Nat.blt i p.2.n.length with
         |true=>⟨.and p.1 (kM X ops e ⟨p.2.n.set i (.ref (p.2.k.getD b [])),setAt [] p.2.k b []⟩).o,none,(kM X ops e ⟨p.2.n.set i (.ref (p.2.k.getD b [])),setAt [] p.2.k b []⟩).t⟩
         |false=> .bad
        |false=> .bad
      |_=> .bad
   | .jP l=>match BU st l with
     |some p=>⟨.and p.1 (kM X ops e p.2).o,none,(kM X ops e p.2).t⟩
     |none=> .bad
   | .mW f l=>match qQ X.m st f l with
     |some p=>⟨.and p.1 (kM X ops e p.2).o,none,(kM X ops e p.2).t⟩
     |none=> .bad
   | .nm L=>match e with
     |true=>vR X ops L st
     |false=> .bad
   | .YQ=>match YR X ops.toList e st with
     |some p=>⟨p.1,none,.di (.nrm p.2)⟩
     |none=> .bad
   |h=>match h.ah6 with
    |some z=>match(kM X ops e st).t.prune Je with
     |some g=>match O_ X.m z.jP z.J g with
      |some q=>⟨.and (kM X ops e st).o q.1,none,.di (.nrm q.2)⟩
      |none=> .bad
     |none=> .bad
    |none=>kM X ops e st
 | .exit id,h,st=>match h with
   | .mW f l=>match qQ X.m st f l with
     |some p=>⟨p.1,none,.di (.ext id p.2)⟩
     |none=> .bad
   |_=>⟨.dr,none,.di (.ext id st)⟩
 | .ret,h,st=>match h with
   | .mW f l=>match qQ X.m st f l with
     |some p=>match A5 X R p.2 with
      |some q=>⟨.and p.1 q.1,none,.di (.ret q.2)⟩
      |none=> .bad
     |none=> .bad
   |_=>match A5 X R st with
    |some q=>⟨q.1,none,.di (.ret q.2)⟩
    |none=> .bad
 | .block id x,h,st=>⟨(exec X R x h st).o,(exec X R x h st).f,(exec X R x h st).t.map (IH id)⟩
 | .cond c x y,h,st=>match aE st.n c with
   | .lit b=>match b with
     |true=>exec X R x h.l st
     |false=>exec X R y h.r st
   | .bool b=>match h with
     | .c b' a=>match b' with
       |true=>⟨.and (.e b true) (exec X R x a st).o,(exec X R x a st).f,(exec X R x a st).t⟩
       |false=>⟨.and (.e b false) (exec X R y a st).o,(exec X R y a st).f,(exec X R y a st).t⟩
     |h=>⟨.and (.imp b true (exec X R x h.l st).o) (.imp b false (exec X R y h.r st).o),none,.eG b (exec X R x h.l st).t (exec X R y h.r st).t⟩
   |_=> .bad
 | .seq x y,h,st=>JI X.m (exec X R x) (Ib X.m (exec X R y)) h st
 | .loop x,h,st=>match h with
   | .iQ a=>match(exec X R x a st).t.lh with
     |true=> .bad
     |false=>exec X R x a st
   | .un n a=>JV X.m (exec X R x) n a st
   | .c6 L a=>match BU st L.jP with
     |none=> .bad
     |some p=>match L.ends with
      |false=> .bad
      |true=>match L.Q p.2 with
       |none=> .bad
       |some d=>⟨.and p.1 (.and (kZ p.2 (L.eh (L.ch p.2) d)) (.and (.p (L.I d)) (.and (.e (λs=>iy X.m (L.eh (L.ch p.2) s)) λ_=>true) (.and (.e (λv=>iy X.m (L.km (L.ch p.2) (ea.hM (L.es.map (·.2)) v))) λ_=>true)
         (.all (L.bF.map (·.2)) L.I λs=> .and (exec X R x a (L.eh (L.ch p.2) s)).o (.and (s6 (exec X R x a (L.eh (L.ch p.2) s)).f ((exec X R x a (L.eh (L.ch p.2) s)).t.AS (L.AB (L.ch p.2) s)))
           (.es λk:Nat=> .and (.e (L.G (k+1) s) (L.P1 (exec X R x a (L.eh (L.ch p.2) s)).t k)) (L.P2 (exec X R x a (L.eh (L.ch p.2) s)).t k)))))))),
         L.fact (L.G (L.l5 d+1) d),L.res (L.ch p.2) (L.G (L.l5 d+1) d)⟩
   | .vC L a=>match BU st L.jP with
     |none=> .bad
     |some p=>match L.ends with
      |false=> .bad
      |true=>match L.Q p.2 with
       |none=> .bad
       |some d=>⟨.and p.1 (.and (kZ p.2 (L.eh (L.ch p.2) d)) (.and (.p (L.I d)) (.and (.e (λs=>iy X.m (L.eh (L.ch p.2) s)) λ_=>true) (.and (.e (λv=>iy X.m (L.km (L.ch p.2) (ea.hM (L.es.map (·.2)) v))) λ_=>true)
         (.all (L.bF.map (·.2)) L.I λs=> .and (exec X R x (a s) (L.eh (L.ch p.2) s)).o (.and (s6 (exec X R x (a s) (L.eh (L.ch p.2) s)).f ((exec X R x (a s) (L.eh (L.ch p.2) s)).t.AS (L.AB (L.ch p.2) s)))
           (.es λk:Nat=> .and (.e (L.G (k+1) s) (L.P1 (exec X R x (a s) (L.eh (L.ch p.2) s)).t k)) (L.P2 (exec X R x (a s) (L.eh (L.ch p.2) s)).t k)))))))),
         L.fact (L.G (L.l5 d+1) d),L.res (L.ch p.2) (L.G (L.l5 d+1) d)⟩
   |_=> .bad
 |_,_,_=> .bad
section
def kx(X:cm)(R:c2)(a:fD)(e:Exit)(s:O):Prop:=
 match e with
 | .normal=>match a with
   | .nrm b=>cB X.m s b
   |_=>False
 | .exit id=>match a with
   | .ext c b=>id=c/\cB X.m s b
   |_=>False
 | .ret=>match a with
   | .ret d=>tX X R s d
   |_=>False
 |_=>False
def aBr{b:List (Key×aG)}{s:O}{a:List J}(h:rL b s=some a): ∃c,tB (b.map (·.2)) a=some c/\ea.hM (b.map (·.2)) c=a:=En h
def YB: ∀{g c:List aG} {aa b d f:List J},et g aa=some d->et c b=some f->et (g++c) (aa++b)=some (d++f)
 |[],c,[],b,d,f,h,k=>by cases h;exact k
 |[],_,_::_,_,_,_,h,_=>by cases h
 |_::_,_,[],_,_,_,h,_=>by cases h
 |k::g,c,a::aa,b,d,f,h,j=>by
  simp only[et]at h
  split at h<;>try exact Ζ
  rename_i y e
  split at h<;>try exact Ζ
  rename_i l i
  cases h
  have:=YB i j;simp only[yu,et,e,this]
def x_: ∀{c:List aG} {aa b:List J},et c aa=some b->b.length=c.length
 |[],[],b,h=>by cases h;rfl
 |[],_::_,_,h=>by cases h
 |_::_,[],_,h=>by cases h
 |k::c,a::aa,b,h=>by
  simp only[et]at h
  split at h<;>try exact Ζ
  split at h<;>try exact Ζ
  rename_i e d
  cases h
  simp [x_ d]
section
variable {R:List aG}
def ed.akd{L:ed R}{d:fD}{w:List J}(h:L.out d=some w)(j: ∀b,d= .ret b-> ∃xs,et R xs=some b): ∃g,tB (tD R L.ex L.rt L.es) w=some g/\ea.hM _ g=w:=by
 unfold ed.out at h;unfold tD
 cases d<;>simp only at h<;>try exact Ζ
 .rename_i id s
  split at h<;>try exact Ζ
  rename_i a e
  split at h<;>try exact Ζ
  rename_i i k
  cases c:L.rt<;>rw[c]at h<;>cases h
  .simp only;exact En e
  .simp only;exact En (xs:= .bool false::(getAll s (L.es.map (·.1))++so R)) (by
    have:=YB e (Ty R);simp only[et,aG.nrm,aG.rd,ag.ZI,aG.av,this])
 .rename_i b;have⟨xs,f⟩:=j b rfl
  cases c:L.rt<;>rw[c]at h<;>simp only at h<;>try exact Ζ
  split at h
  .cases h
   simp only;exact En (xs:= .bool true::(so (L.es.map (·.2))++xs)) (by
    have:=YB (Ty (L.es.map (·.2))) f;simp only[et,aG.nrm,aG.rd,ag.ZI,aG.av,this])
  .cases h
   simp only;exact En f
end
structure BG (X:cm) (R:c2) (W:(Exit->O->Prop)->O->Prop) (st:O) (r:jN):Prop where
 wp:W (kx X R r.t.bQ) st
 f: ∀p,r.f=some p->p
 ret: ∀cQ,r.t.bQ= .ret cQ-> ∃xs,et R.ck xs=some cQ
 live:r.t.bQ≠ .dead
abbrev qJ(X:cm)(R:c2)(c:Code)(st:O)(r:jN):Prop:=BG X R (WP X.env c) st r
set_option maxHeartbeats 1000000
def ahg(b:Bool)(l:List J):ahf (.bool b::l)=b:=rfl
def WP.ajh{X:cm}{R:c2}{x:Code}{st:O}(L:ed R.ck)(r:O)(t:ea (L.bF.map (·.2)))(m:ea (L.bF.map (·.2))->jN)(I:L.ends=true)
  (jH: ∀s,(m s).o.holds->qJ X R x (L.eh (L.ch r) s) (m s))
  (hle:cB X.m st (L.eh (L.ch r) t)) (Q:L.I t) (aO: ∀s,iy X.m (L.eh (L.ch r) s)=true) (mF: ∀aL,iy X.m (L.km (L.ch r) (ea.hM (L.es.map (·.2)) aL))=true)
  (S: ∀s,L.I s->(m s).o.holds/\(s6 (m s).f ((m s).t.AS (L.AB (L.ch r) s))).holds/\ ∀k:Nat,L.G (k+1) s=L.P1 (m s).t k/\(L.P2 (m s).t k).holds)
  (hA:aZ):qJ X R (.loop x) st ⟨hA,L.fact (L.G (L.l5 t+1) t),L.res (L.ch r) (L.G (L.l5 t+1) t)⟩:=by
 have P: ∀s,L.I s->qJ X R x (L.eh (L.ch r) s) (m s):=λs d=>jH s (S s d).1;have W: ∀s,L.I s->(L.AB (L.ch r) s (m s).t.bQ).holds:=λs d=>by
  have⟨g,B,_⟩:=S s d;have n:=(jH s g).f;unfold s6 at B
  cases e:(m s).f with
  |none=>rw[e]at B;exact T.Jj B
  |some p=>rw[e]at B;exact T.Jj (B (n p e))
 have Z: ∀s,L.I s-> ∀k b,L.D9 k (m s).t.bQ=some b->L.G (k+1) s=b:=λs d k b axK=>by
  have⟨_,_,n⟩:=S s d;have⟨K,z⟩:=n k;rw[K];have⟨aJA,mY,iJ⟩:=T.n5 axK;unfold ed.P1;unfold ed.P2 at z;rw[mY]at z |-;simp only at z |-;rw[T.FP z,iJ]
 have ahx: ∀s,L.I s-> ∀f,(m s).t.bQ= .nrm f-> ∃b,L.Q f=some b/\(kZ f (L.eh (L.ch r) b)).holds/\L.I b/\L.l5 b<L.l5 s/\ ∀k,L.G (k+1) s=L.G k b:=λs d f c=>by
  have g:=W s d;rw[c]at g;simp only[ed.AB]at g
  split at g
  .rename_i b cy;exact⟨b,cy,g.1,g.2.1,g.2.2,λk=>Z s d k _ (by rw[c];simp only[ed.D9,cy])⟩
  .exact g.elim
 have V: ∀s,L.I s-> ∀id f,(m s).t.bQ= .ext id f->L.ex=some id/\ ∃a w b,rL L.es f=some a/\L.out (.ext id f)=some w/\tB _ w=some b/\ea.hM _ b=w/\(kZ f (L.km (L.ch r) a)).holds/\(L.Zo w).holds/\ ∀k,L.G (k+1) s=b:=λs d id f c=>by
  have g:=W s d;rw[c]at g;simp only[ed.AB]at g
  split at g<;>try exact g.elim
  rename_i J
  split at g<;>try exact g.elim
  rename_i a F
  split at g<;>try exact g.elim
  rename_i w l;have⟨b,t1,t2⟩:=ed.akd l (λj e=>by cases e);refine⟨?_,a,w,b,F,l,t1,t2,g.1,g.2,λk=>Z s d k b (by rw[c];simp only[ed.D9,l,t1])⟩;unfold ali at J
  split at J
  .rename_i i e;rw[e,ey J]
  .cases J
 have Y: ∀s,L.I s-> ∀j,(m s).t.bQ= .ret j->L.rt=true/\ ∃w b,L.out (.ret j)=some w/\tB _ w=some b/\ea.hM _ b=w/\ ∀k,L.G (k+1) s=b:=λs d j c=>by
  have g:=W s d;rw[c]at g;simp only[ed.AB]at g
  split at g<;>try exact g.elim
  rename_i w l;have⟨b,t1,t2⟩:=ed.akd l (λaGZ e=>by cases e;exact(P s d).ret _ c);refine⟨?_,w,b,l,t1,t2,λk=>Z s d k b (by rw[c];simp only[ed.D9,l,t1])⟩
  cases o:L.rt with
  |true=>rfl
  |false=>
   simp only[ed.out]at l
   split at l
   .rename_i B5;rw[o]at B5;cases B5
   .cases l
 have ahl: ∀(q:ea (tD R.ck L.ex L.rt L.es)->Prop),(∀s,L.I s-> ∀b,(∀id f,(m s).t.bQ= .ext id f->L.G 1 s=b->q b)/\∀j,(m s).t.bQ= .ret j->L.G 1 s=b->q b)-> ∀(k:Nat) s,L.I s->L.l5 s<=k->q (L.G (k+1) s):=λq jZ k=>by
  induction k using Nat.strongRecOn with
  |_ k pe=>
   intro s d kL
   cases c:(m s).t.bQ with
   |nrm f=>
    have⟨b,_,_,n,K,z⟩:=ahx s d f c;obtain⟨A,rfl⟩: ∃A,k=A+1:=⟨k-1,Ω⟩;rw[z];exact pe A Ω b n Ω
   |ext id f=>
    have⟨_,a,w,b,_,_,_,_,_,_,u⟩:=V s d id f c;rw[u];exact(jZ s d b).1 id f c (u 0)
   |ret j=>
    have⟨_,w,b,_,_,_,u⟩:=Y s d j c;rw[u];exact(jZ s d b).2 j c (u 0)
   |dead=>exact absurd c (P s d).live
 have ahD: ∀s,L.I s-> ∀id f,(m s).t.bQ= .ext id f-> ∀k,∃a,(kZ f (L.km (L.ch r) a)).holds/\iy X.m (L.km (L.ch r) a)=true/\(L.res (L.ch r) (L.G (k+1) s)).bQ= .ext id (L.km (L.ch r) a):=λs d id f c k=>by
  have⟨U,a,w,b,F,l,t1,t2,z,_,u⟩:=V s d id f c;have⟨aL,v1,v2⟩:=aBr F;have ahB:=mF aL;rw[v2]at ahB;refine⟨a,z,ahB,?_⟩;rw[u k];simp only[ed.out,F,U]at l;simp only[ed.res,t2]
  split
  .rename_i i v;rw[U]at v
   cases v
   split
   .rename_i o
    split at l
    .cases l
     simp only[ahg,T.bQ];have N:=x_ F;simp only[List.length_map]at N;simp only[List.drop_one,List.tail_cons,<-N,List.take_left']
    .rename_i G;rw[o]at G;cases G
   .rename_i o
    split at l
    .rename_i G;rw[o]at G;cases G
    .cases l
     rfl
  .rename_i v;rw[U]at v
   cases v
 have ahF: ∀s,L.I s-> ∀j,(m s).t.bQ= .ret j-> ∀k,(L.res (L.ch r) (L.G (k+1) s)).bQ= .ret j:=λs d j c k=>by
  have⟨WS,w,b,l,t1,t2,u⟩:=Y s d j c;rw[u k];simp only[ed.out,WS]at l;simp only[ed.res,t2]
  split
  .rename_i i v
   split at l
   .cases l
    split
    .simp only[ahg,T.bQ];have N:(so (L.es.map (·.2))).length=L.es.length:=by simp [so]
     rw[Nat.add_comm,List.drop_succ_cons,<-N,List.drop_left]
    .rename_i o;rw[WS]at o;cases o
   .rename_i e;rw[v]at e;cases e
  .rename_i v
   split at l
   .rename_i e;rw[v]at e;cases e
   .cases l
    split
    .rfl
    .rename_i o;rw[WS]at o;cases o
 refine⟨?_,?_,?_,?_⟩
 .refine WP.le hle (WP.loop (α:=ea (L.bF.map (·.2))×Nat) (λp=>L.eh (L.ch r) p.1) (λp=>L.I p.1/\L.l5 p.1<=p.2/\L.G (p.2+1) p.1=L.G (L.l5 t+1) t) (λp=>L.l5 p.1) (t,L.l5 t) ⟨Q,bH _,rfl⟩ (cB.refl _) λp axa=> ?_);obtain⟨s,k⟩:=p;obtain⟨H,kL,M⟩:=axa;simp only at H kL M;refine(P s H).wp.mono λe s1 y=> ?_
  cases e<;>simp only[kx]at y<;>try exact y.elim
  .
   split at y<;>try exact y.elim
   rename_i f c;have⟨b,g,B,n,K,z⟩:=ahx s H f c;obtain⟨A,rfl⟩: ∃A,k=A+1:=⟨k-1,Ω⟩;have C:L.l5 b<=A:=by omega
   have u:L.G (A+1) b=L.G (L.l5 t+1) t:=(z (A+1)).symm.trans M;exact⟨(b,A),⟨n,C,u⟩,K,y.trans (pI B (aO b))⟩
  .
   split at y<;>try exact y.elim
   rename_i aI5 f c;obtain⟨rfl,awV⟩:=y;have⟨a,g,B,n⟩:=ahD s H _ f c k;rw[M]at n;show kx X R (L.res (L.ch r) _).bQ (.exit _) s1;rw[n];exact⟨rfl,awV.trans (pI g B)⟩
  .
   split at y<;>try exact y.elim
   rename_i j c;have n:=ahF s H j c k;rw[M]at n;show kx X R (L.res (L.ch r) _).bQ .ret s1;rw[n];exact y
 .
  intro p E;simp only[ed.fact]at E
  split at E<;>try exact Ζ
  rename_i q Ll
  split at E<;>try exact Ζ
  rename_i o
  cases E
  refine ahl q (λs d b=>⟨λid f c D=> ?_,λj c _=> ?_⟩) _ t Q (bH _)
  .obtain⟨_,a,w,aJJ,_,_,t1,_,_,C,u⟩:=V s d id f c;rw[u 0]at D;subst D;unfold ed.Zo at C;rw[Ll]at C;simp only[t1]at C;exact C
  .have:=(Y s d j c).1;rw[o]at this;cases this
 .refine ahl (λb=> ∀j,(L.res (L.ch r) b).bQ= .ret j-> ∃xs,et R.ck xs=some j) (λs d b=>⟨λid f c D j dq=> ?_,λj c D aGZ dq=> ?_⟩) _ t Q (bH _)
  .obtain⟨a,_,_,n⟩:=ahD s d id f c 0;rw[D,dq]at n
   cases n
  .have n:=ahF s d j c 0;rw[D,dq]at n
   cases n
   exact(P s d).ret _ c
 .simp only[ed.res]
  split
  .split
   .intro h;simp only[T.bQ]at h
    split at h<;>cases h
   .intro h;cases h
  .split
   .intro h;cases h
   .rename_i v _ o;unfold ed.ends at I;rw[v]at I;simp only at I;rw[o]at I;cases I
def Jp{X:cm}{ops:Array Oper} : ∀(l:List Oper) (i:Nat) (st:O) (rs:List Rec) (o:aZ) (t:T si),rQ X ops l i st rs=some (o,t)->o.holds->t.bQ≠none
 |[],i,st,rs,o,t,h,a=>by cases h;intro h;cases h
 |p::l,i,st,rs,o,t,h,a=>by
  simp only[rQ,IA]at h
  split at h<;>try exact Ζ
  split at h
  .exact Jp l _ _ _ o t h a
  .split at h
   .cases h;exact a.elim
   split at h<;>try exact Ζ
   split at h
   .rename_i b f
    split at h<;>try exact Ζ
    rename_i q1 c
    split at h<;>try exact Ζ
    rename_i d e
    cases h
    cases b
    .exact Jp l _ _ _ d.1 d.2 e (a.2.2 rfl)
    .exact Jp l _ _ _ q1.1 q1.2 c (a.2.1 rfl)
   .split at h<;>try exact Ζ
    rename_i q c
    cases h
    exact Jp l _ _ _ q.1 q.2 c a.2
def Jn{X:cm}{ops:Array Oper} : ∀(l:List Oper) (i:Nat) (st:O) (rs:List Rec) (o:aZ) (t:T si),vK X ops l i st rs=some (o,t)->o.holds->t.bQ≠none
 |[],i,st,rs,o,t,h,a=>by cases h;intro h;cases h
 |p::l,i,st,rs,o,t,h,a=>by
  simp only[vK,IA]at h
  split at h<;>try exact Ζ
  split at h
  .exact Jn l _ _ _ o t h a
  .split at h
   .cases h;exact a.elim
   split at h<;>try exact Ζ
   split at h
   .rename_i b f
    split at h<;>try exact Ζ
    rename_i q1 c
    split at h<;>try exact Ζ
    rename_i d e
    cases h
    cases b
    .exact Jn l _ _ _ d.1 d.2 e (a.2.2 rfl)
    .exact Jn l _ _ _ q1.1 q1.2 c (a.2.1 rfl)
   .split at h<;>try exact Ζ
    rename_i q c
    cases h
    exact Jn l _ _ _ q.1 q.2 c a.2
def akN{X:cm}{ops:Array Oper}{b:Bool}{st:O}(a:(kM X ops b st).o.holds): ∃s,(kM X ops b st).t.bQ= .nrm s:=by
 unfold kM at a |-
 split at a
 .exact a.elim
 .rename_i q e;obtain⟨o,t⟩:=q;simp only[e];have c:o.holds-> ∃s,(t.map O0).bQ= .nrm s:=λa=>by
   rw[T.mH]
   cases h:t.bQ with
   |none=>exact absurd h (Jp _ _ _ _ o t e a)
   |some q=>exact⟨q.1,rfl⟩
  cases b with
  |false=>exact c a
  |true=>
   simp only at a |-
   split at a
   .rename_i d;simp only[d];exact c a
   .exact a.elim
def PV{X:cm}{R:c2}(e:X.env.dU){id:Nat}{ops:Array Oper}{b:Bool}{st:O}(c:(kM X ops b st).o.holds):qJ X R (.region id ops b) st (kM X ops b st):=by
 have⟨s,d⟩:=akN c;refine⟨akO e c λf h=> ?_,λp a=> ?_,λg h=> ?_,λh=> ?_⟩
 .rw[h];exact cB.refl _
 .unfold kM at a
  split at a
  .cases a
  .split at a
   .cases a
   .split at a<;>cases a
 .rw[d]at h;cases h
 .rw[d]at h;cases h
def aEW{X:cm}{R:c2}(f:X.env.dU){id:Nat}{ops:Array Oper}{L:List (Nat×Nat)}{st:O}(a:(vR X ops L st).o.holds):qJ X R (.region id ops true) st (vR X ops L st):=by
 have g: ∃s,(vR X ops L st).t.bQ= .nrm s:=by
  unfold vR at a |-
  split at a
  .exact a.elim
  .rename_i q e;obtain⟨o,t⟩:=q;simp only[e]at a |-
   split at a
   .rename_i d;simp only[d];rw[T.mH]
    cases h:t.bQ with
    |none=>exact absurd h (Jn _ _ _ _ o t e a.1)
    |some q=>exact⟨q.1,rfl⟩
   .exact a.elim
 obtain⟨s,c⟩:=g;refine⟨aEV f a λi h=> ?_,λp b=> ?_,λj h=> ?_,λh=> ?_⟩
 .rw[h];exact cB.refl _
 .unfold vR at b
  split at b
  .cases b
  .split at b<;>cases b
 .rw[c]at h;cases h
 .rw[c]at h;cases h
def ahS{id:Nat}{a:fD} :(∀b,IH id a= .ret b->a= .ret b)/\(IH id a= .dead->a= .dead):=by
 cases a<;>simp only[IH]
 .exact⟨λ_ h=>(by cases h),λh=>(by cases h)⟩
 .split<;>exact⟨λ_ h=>(by cases h),λh=>(by cases h)⟩
 .exact⟨λ_ h=>h,λh=>(by cases h)⟩
 .exact⟨λ_ h=>(by cases h),λh=>h⟩
def acb{a b:Option Prop}(c: ∀p,a=some p->p)(d: ∀p,b=some p->p): ∀p,KH a b=some p->p:=by
 intro p h;unfold KH at h
 split at h
 .exact d p h
 .split at h
  .cases h;exact c _ rfl
  .cases h;exact⟨c _ rfl,d _ rfl⟩
def N1{a:Option Prop}{o:aZ}(h:(s6 a o).holds)(b: ∀p,a=some p->p):o.holds:=by
 unfold s6 at h
 split at h
 .exact h
 .exact h (b _ rfl)
def Qp{X:cm}{R:c2}{W:(Exit->O->Prop)->O->Prop}{x:Code}{st:O}{r:jN}(h:qJ X R x st r)(b:vp r.t.bQ=false):WP X.env x (iT (W (kx X R r.t.bQ)) (kx X R r.t.bQ)) st:=
 h.wp.mono λe s a=>by
  cases e<;>simp only[iT]<;>try exact a
  simp only[kx]at a
  split at a
  .rename_i d c;rw[c]at b;cases b
  .exact a.elim
def aad{X:cm}{R:c2}{W:(Exit->O->Prop)->O->Prop}(d: ∀{Q st c},cB X.m st c->W Q c->W Q st){x:Code}{st s b:O}{r:jN}{Q:Exit->O->Prop}(h:qJ X R x st r)(g:r.t.bQ= .nrm s)(f:cB X.m s b)(i:W Q b):WP X.env x (iT (W Q) Q) st:=
 h.wp.mono λe j a=>by
  rw[g]at a
  cases e<;>simp only[kx,iT]at a |- <;>try exact a.elim
  exact d (a.trans f) i
def alu{X:cm}{R:c2}{W:(Exit->O->Prop)->O->Prop}{x:Code}{f g:cz R.ck->O->jN}(D: ∀{Q st J},cB X.m st J->W Q J->W Q st)(w: ∀h st,(f h st).o.holds->qJ X R x st (f h st))(C: ∀h st,(g h st).o.holds->BG X R W st (g h st))
  (h:cz R.ck) (st:O) (c:(JI X.m f g h st).o.holds):BG X R (λQ st=>WP X.env x (iT (W Q) Q) st) st (JI X.m f g h st):=by
 unfold JI at c |-
 split at c
 .rename_i z P
  split at c<;>try exact c.elim
  rename_i K cy
  split at c<;>try exact c.elim
  rename_i q G
  split at c
  .rename_i u;have a:=w z.l st c.1;have k:=N1 c.2 a.f;have e:=C z.r q.2 k.2;have E:=Yj (o:=q.1) (km:=q.2) G k.1;have H:IK (f z.l st).t.bQ=none:=by
    cases h:IK (f z.l st).t.bQ with
    |none=>rfl
    |some v=>have⟨m,b,_⟩:=T.n5 h;rw[u]at b;cases b
   obtain⟨s,I⟩: ∃s,(f z.l st).t.bQ= .nrm s:=by
    cases h:(f z.l st).t.bQ with
    |nrm s=>exact⟨s,rfl⟩
    |dead=>exact absurd h a.live
    |_=>rw[h]at H;cases H
   have F:K.bQ=s:=by
    have⟨m,b,d⟩:=T.n5 (f:=Je) (t:=(f z.l st).t) (x:=s) (by rw[I];rfl);rw[cy]at b;cases b;exact d
   exact⟨aad D a I (F▸E) e.wp,acb a.f e.f,e.ret,e.live⟩
  .rename_i j u
   split at c<;>try exact c.elim
   rename_i gJ A;have a:=w z.l st c.1;have k:=N1 c.2 a.f;have E:=Yj (o:=q.1) (km:=q.2) G k.1;have B:gJ.kY z.J.pm=gJ.bQ:=T.FP (k.2.1 ());have N:=k.2.2
   cases h:(f z.l st).t.bQ with
   |nrm s=>
    have F:K.bQ=s:=by
     have⟨m,b,d⟩:=T.n5 (f:=Je) (t:=(f z.l st).t) (x:=s) (by rw[h];rfl);rw[cy]at b;cases b;exact d
    have p:gJ.kY z.J.pm=true:=by
     have⟨m,b,d⟩:=T.n5 (f:=ON) (t:=(f z.l st).t) (x:=true) (by rw[h];rfl);rw[A]at b;cases b;exact B.trans d
    have e:=C z.r q.2 (N p);rw[p];exact⟨aad D a h (F▸E) e.wp,a.f,e.ret,e.live⟩
   |dead=>exact absurd h a.live
   |ext id s=>
    have p:gJ.kY z.J.pm=false:=by
     have⟨m,b,d⟩:=T.n5 (f:=ON) (t:=(f z.l st).t) (x:=false) (by rw[h];rfl);rw[A]at b;cases b;exact B.trans d
    have l:j.bQ=(f z.l st).t.bQ:=by
     have⟨m,b,d⟩:=T.n5 (f:=IK) (t:=(f z.l st).t) (x:= .ext id s) (by rw[h];rfl);rw[u]at b;cases b;rw[d,h]
    rw[p];refine⟨?_,a.f,?_,?_⟩
    .show WP _ x (iT (W (kx X R j.bQ)) (kx X R j.bQ)) _;rw[l];exact Qp a (by rw[h];rfl)
    .show∀r,j.bQ= .ret r->_;rw[l];exact a.ret
    .show j.bQ≠ .dead;rw[l];exact a.live
   |ret r=>
    have p:gJ.kY z.J.pm=false:=by
     have⟨m,b,d⟩:=T.n5 (f:=ON) (t:=(f z.l st).t) (x:=false) (by rw[h];rfl);rw[A]at b;cases b;exact B.trans d
    have l:j.bQ=(f z.l st).t.bQ:=by
     have⟨m,b,d⟩:=T.n5 (f:=IK) (t:=(f z.l st).t) (x:= .ret r) (by rw[h];rfl);rw[u]at b;cases b;rw[d,h]
    rw[p];refine⟨?_,a.f,?_,?_⟩
    .show WP _ x (iT (W (kx X R j.bQ)) (kx X R j.bQ)) _;rw[l];exact Qp a (by rw[h];rfl)
    .show∀r,j.bQ= .ret r->_;rw[l];exact a.ret
    .show j.bQ≠ .dead;rw[l];exact a.live
 .rename_i S U
  split at c
  .rename_i n;have a:=w _ st c;exact⟨Qp a (by
    cases h:(f h.l st).t.bQ with
    |nrm s=>have:=T.s_ h;rw[T.FN n]at this;cases this
    |_=>rfl),a.f,a.ret,a.live⟩
  .rename_i n
   split at c<;>try exact c.elim
   rename_i s es;have a:=w _ st c.1;have k:=N1 c.2 a.f
   cases i:(f h.l st).t.bQ with
   |nrm Y=>
    have M:=T.YN n i es;subst M;have e:=C _ _ (T.aaP n i k);refine⟨?_,?_,?_,?_⟩
    .simp only[T.JO i];exact aad D a i (cB.refl _) e.wp
    .split
     .exact acb a.f e.f
     .exact a.f
    .simp only[T.JO i];exact e.ret
    .simp only[T.JO i];exact e.live
   |dead=>exact absurd i a.live
   |_=>
    have y:vp (f h.l st).t.bQ=false:=by rw[i];rfl
    refine⟨?_,?_,?_,?_⟩
    .simp only[T.JN y];exact Qp a y
    .split
     .rename_i V L;exfalso;rw[L]at n i;simp only[T.bQ]at i;subst i
      cases n
     .exact a.f
    .simp only[T.JN y];exact a.ret
    .simp only[T.JN y];exact a.live
  .exact c.elim
def agQ{X:cm}{R:c2}{W:(Exit->O->Prop)->O->Prop}{g:cz R.ck->O->jN}(e: ∀{Q st d},cB X.m st d->W Q d->W Q st)(c: ∀h st,(g h st).o.holds->BG X R W st (g h st)): ∀h st,(Ib X.m g h st).o.holds->BG X R W st (Ib X.m g h st):=by
 intro h st a;unfold Ib at a |-
 split at a
 .split at a<;>try exact a.elim
  rename_i f;have b:=c _ _ a.2;exact⟨e (pI a.1 f) b.wp,b.f,b.ret,b.live⟩
 .exact c _ _ a
def WP.akX{E:Env}{x:Code}{Q:Exit->O->Prop}{st a:O}(h:cB E.m st a): ∀n,WP.A6 E x Q n a->WP.A6 E x Q n st
 |0,k=>k
 |_+1,k=>WP.le h k
def ama{X:cm}{R:c2}{x:Code}{f:cz R.ck->O->jN}(d: ∀h st,(f h st).o.holds->qJ X R x st (f h st)): ∀(n:Nat) (h:cz R.ck) (st:O),(JV X.m f n h st).o.holds->BG X R (λQ st=>WP.A6 X.env x Q (n+1) st) st (JV X.m f n h st)
 |0,h,st,a=>by
  unfold JV at a |-
  split at a
  .exact a.elim
  .rename_i g;have b:=d h st a;refine⟨b.wp.mono λe s c=> ?_,b.f,b.ret,b.live⟩
   cases e<;>simp only[iT]<;>try exact c
   simp only[kx]at c
   split at c
   .rename_i j i;rw[T.s_ i]at g;cases g
   .exact c
 |n+1,h,st,a=>alu (W:=λQ st=>WP.A6 X.env x Q (n+1) st) (λh k=>WP.akX h _ k) d (agQ (W:=λQ st=>WP.A6 X.env x Q (n+1) st) (λh k=>WP.akX h _ k) (ama d n)) h st a
def FX{X:cm}{R:c2}(E:X.env.dU): ∀(c:Code) (h:cz R.ck) (st:O),(exec X R c h st).o.holds->qJ X R c st (exec X R c h st):=by
 intro c
 induction c with
 |skip=>
  intro h st d;simp only[exec]at d |-
  split at d
  .split at d<;>try exact d.elim
   rename_i p r;exact⟨WP.skip (yM (o:=p.1) (dR:=p.2) r d),λp m=>(by cases m),λu h=>(by cases h),λh=>(by cases h)⟩
  .exact⟨WP.skip (cB.refl _),λp m=>(by cases m),λu h=>(by cases h),λh=>(by cases h)⟩
 |label l=>
  intro h st d;exact⟨WP.label (cB.refl _),λp m=>(by cases m),λu h=>(by cases h),λh=>(by cases h)⟩
 |exit id=>
  intro h st d;simp only[exec]at d |-
  split at d
  .split at d<;>try exact d.elim
   rename_i p r;exact⟨WP.exit ⟨rfl,yM (o:=p.1) (dR:=p.2) r d⟩,λp m=>(by cases m),λu h=>(by cases h),λh=>(by cases h)⟩
  .exact⟨WP.exit ⟨rfl,cB.refl _⟩,λp m=>(by cases m),λu h=>(by cases h),λh=>(by cases h)⟩
 |ret=>
  intro h st d;simp only[exec]at d |-
  split at d
  .split at d<;>try exact d.elim
   rename_i p r
   split at d<;>try exact d.elim
   rename_i q e;obtain⟨D,A⟩:=ZR (o:=q.1) (cQ:=q.2) e d.2;exact⟨WP.le (yM (o:=p.1) (dR:=p.2) r d.1) (WP.ret D),λp m=>(by cases m),λu h=>(by cases h;exact A),λh=>(by cases h)⟩
  .split at d<;>try exact d.elim
   rename_i q e;obtain⟨D,A⟩:=ZR (o:=q.1) (cQ:=q.2) e d;exact⟨WP.ret D,λp m=>(by cases m),λu h=>(by cases h;exact A),λh=>(by cases h)⟩
 |region id ops draw=>
  intro h st d;simp only[exec]at d |-
  split at d
  .split at d<;>try exact d.elim
   rename_i p r
   split at d<;>try exact d.elim
   rename_i b' Pz nB
   split at d<;>try exact d.elim
   rename_i N
   split at d<;>try exact d.elim
   rename_i bo;simp only[b2]at N bo;obtain⟨⟨⟨jS,kF⟩,gh⟩,mD⟩:=bo;have H:=ey N.1;have Ot:=ey N.2;subst H Ot;have g:=PV (R:=R) (id:=id) E d.2;refine⟨WP.le (cz.aEt (o:=p.1) (dR:=p.2) r d.1) (WP.atr _ _ _ ?_ rfl jS kF g.wp gh),λp m=>(by cases m),g.ret,g.live⟩;have g5:_<p.2.n.length:=hH mD;rw[cG g5];simp only[List.getD,cG g5,mM]at nB;rw[nB]
  .rename_i l
   split at d<;>try exact d.elim
   rename_i p r;have g:=PV (R:=R) (id:=id) E d.2;refine⟨WP.le (KV (nn:=p.1) (lq:=p.2) r d.1) g.wp,λp m=>(by cases m),g.ret,g.live⟩
  .split at d<;>try exact d.elim
   rename_i p r;have g:=PV (R:=R) (id:=id) E d.2;refine⟨WP.le (yM (o:=p.1) (dR:=p.2) r d.1) g.wp,λp m=>(by cases m),g.ret,g.live⟩
  .split at d<;>try exact d.elim
   exact aEW E d
  .split at d<;>try exact d.elim
   rename_i p r;refine⟨(aDG (o:=p.1) (dR:=p.2) E r d id).mono λe s i=> ?_,λp m=>(by cases m),λu h=>(by cases h),λh=>(by cases h)⟩;obtain⟨rfl,rfl⟩:=i;exact cB.refl _
  .split at d
   .rename_i aL adY
    split at d<;>try exact d.elim
    rename_i tG cy
    split at d<;>try exact d.elim
    rename_i q eq;obtain⟨s,i⟩:=akN d.1;have hm:=Yj (o:=q.1) (km:=q.2) eq d.2;have WZ:tG.bQ=s:=by
     obtain⟨aJt,A,G⟩:=T.n5 (f:=Je) (t:=(kM X ops draw st).t) (x:=s) (by rw[i];rfl);rw[cy]at A;cases A;exact G
    refine⟨akO E d.1 λdR h=> ?_,λp m=>(by cases m),λu h=>(by cases h),λh=>(by cases h)⟩;rw[i]at h
    cases h
    exact WZ▸hm
   .exact PV E d
 |block id x F=>
  intro h st d;simp only[exec]at d |-;have g:=F h st d;refine⟨WP.block (g.wp.mono λe s i=> ?_),g.f,λu dq=> ?_,λeh=> ?_⟩
  .simp only[T.mH];generalize (exec X R x h st).t.bQ=Z at i
   cases e with
   |normal=>
    simp only[kx]at i
    cases Z<;>simp only at i<;>first|exact i.elim|exact i
   |exit j=>
    simp only[kx]at i
    cases Z<;>simp only at i<;>try exact i.elim
    obtain⟨rfl,i⟩:=i;simp only[FC,IH]
    cases Q:Nat.beq j id with
    |true=>rw[bg (ey Q)];exact i
    |false=>
     rw[aW (by intro e;rw[e,ob]at Q;cases Q)];exact⟨rfl,i⟩
   |ret=>
    simp only[kx]at i
    cases Z<;>simp only at i<;>first|exact i.elim|exact i
   |_=>exact i.elim
  .rw[T.mH]at dq;exact g.ret u (ahS.1 u dq)
  .rw[T.mH]at eh;exact g.live (ahS.2 eh)
 |cond c x y J K=>
  intro h st d;simp only[exec]at d |-
  split at d
  .rename_i b C
   cases b with
   |true=>
    have g:=J _ _ d;refine⟨λS W ι a w i=> ?_,g.f,g.ret,g.live⟩;have I:=i.eval c;rw[C]at I;refine wp_cond I.lit ?_;exact g.wp S W ι a w i
   |false=>
    have g:=K _ _ d;refine⟨λS W ι a w i=> ?_,g.f,g.ret,g.live⟩;have I:=i.eval c;rw[C]at I;refine wp_cond I.lit ?_;exact g.wp S W ι a w i
  .rename_i b C
   split at d
   .rename_i b' z
    cases b' with
    |true=>
     have g:=J _ _ d.2;have H:b=true:=d.1;exact⟨WP.cond C (λ_=>g.wp) (λh=>by rw[H]at h;cases h),g.f,g.ret,g.live⟩
    |false=>
     have g:=K _ _ d.2;have H:b=false:=d.1;exact⟨WP.cond C (λh=>by rw[H]at h;cases h) (λ_=>g.wp),g.f,g.ret,g.live⟩
   .cases b with
    |true=>
     have g:=J _ _ (d.1 rfl);exact⟨WP.cond C (λ_=>g.wp) (λh=>by cases h),λp m=>(by cases m),g.ret,g.live⟩
    |false=>
     have g:=K _ _ (d.2 rfl);exact⟨WP.cond C (λh=>by cases h) (λ_=>g.wp),λp m=>(by cases m),g.ret,g.live⟩
  .exact d.elim
 |seq x y J K=>
  intro h st d;simp only[exec]at d |-;have g:=alu (W:=WP X.env y) (λh k=>WP.le h k) J (agQ (λh k=>WP.le h k) K) h st d;exact⟨WP.seq g.wp,g.f,g.ret,g.live⟩
 |loop x F=>
  intro h st d;simp only[exec]at d |-
  split at d
  .rename_i z
   split at d
   .exact d.elim
   .rename_i adr;have g:=F z st d;refine⟨WP.aBR (g.wp.mono λe s i=> ?_),g.f,g.ret,g.live⟩
    cases e<;>simp only[iT]<;>try exact i
    simp only[kx]at i
    split at i
    .rename_i dR el;rw[T.s_ el]at adr;cases adr
    .exact i
  .rename_i n z;have g:=ama F n z st d;exact⟨WP.rounds _ g.wp,g.f,g.ret,g.live⟩
  .rename_i L z
   split at d
   .exact d.elim
   rename_i p P
   split at d
   .exact d.elim
   rename_i Y
   split at d
   .exact d.elim
   rename_i M es;obtain⟨U,D,A,G,V,B⟩:=d;have m: ∀s,iy X.m (L.eh (L.ch p.2) s)=true:=λs=>congrFun G s;have g:=WP.ajh (X:=X) (R:=R) (st:=p.2) L p.2 M (λs=>exec X R x z (L.eh (L.ch p.2) s)) Y (λs d=>F z _ d) (pI D (m M)) A m (λv=>congrFun V v)
    (λs i=>⟨(B s i).1,(B s i).2.1,λk=>⟨((B s i).2.2 k).1,((B s i).2.2 k).2⟩⟩) .dr
   exact⟨WP.le (KV (nn:=p.1) (lq:=p.2) P U) g.wp,g.f,g.ret,g.live⟩
  .rename_i L z
   split at d
   .exact d.elim
   rename_i p P
   split at d
   .exact d.elim
   rename_i Y
   split at d
   .exact d.elim
   rename_i M es;obtain⟨U,D,A,G,V,B⟩:=d;have m: ∀s,iy X.m (L.eh (L.ch p.2) s)=true:=λs=>congrFun G s;have g:=WP.ajh (X:=X) (R:=R) (st:=p.2) L p.2 M (λs=>exec X R x (z s) (L.eh (L.ch p.2) s)) Y (λs d=>F (z s) _ d) (pI D (m M)) A m (λv=>congrFun V v)
    (λs i=>⟨(B s i).1,(B s i).2.1,λk=>⟨((B s i).2.2 k).1,((B s i).2.2 k).2⟩⟩) .dr
   exact⟨WP.le (KV (nn:=p.1) (lq:=p.2) P U) g.wp,g.f,g.ret,g.live⟩
  .exact d.elim
 |_=>exact λh st d=>d.elim
end
def FA{α:Type}(a b:Bool)(x y:α):(bif a then x else bif b then x else y)=bif(a||b)then x else y:=by cases a<;>rfl
end Go.ag
namespace Go.Proofs.YtcpfnfkibnjcfaaGreatDoor
open Go Go.RowKit Go.ag
def RM(n:Nat)(a:Nat->z):Prop:= ∀i j,i<j->j<n->Op.bytesLess (a i).toList (a j).toList=true
