/- Part of a proof: walks of the program. -/
import Derived.Test.YtfmgjpcmcjjoiaaGreatDoorXf
import Derived.Laws.Cover3
import Derived.Lib.Bytealg
import Derived.Test.YtfmgjpcmcjjoiaaGreatDoorProg
import Derived.Laws.Externs
open Go.IntKind (i64 u64 u8)
open Int (toNat)
set_option maxRecDepth 100000
set_option maxHeartbeats 4000000
set_option linter.all false
noncomputable section
namespace Go.ah
open Go Go.RowKit
theorem aBp{P:Program}{T e:TypeId}(w:World)(b:P.underlying T=some (.slice e))(x y:Operand)(a:Option Addr)(l c:Nat):
  (do eqGuard .eql T x y (.slice a l c) (.slice none 0 0);binOp .eql T (.slice a l c) (.slice none 0 0):Sem Value).run P w= .ok (.bool a.isNone) w:=by
 have h:binOp .eql T (.slice a l c) (.slice none 0 0)=(do pure (.bool (←Op.equal T (.slice a l c) (.slice none 0 0)))):=rfl;rw[h];simp [go_sem,run_equal_slice_nil w T e a l c b]
theorem WP.CA{E:Env}(H:E.dq){z:Code}{Q:Exit→D→Prop}{st:D}{id:Nat}{d j:Oper}{T A:TypeId}{l:bB}{t b m k n:Nat}{f:Nat→List J}
  (I:E.ty T=some l) (u:l.d.sz=true) (C:d.guard=none) (eb:d.op= .move (.tmp t)) (y:d.dst=some b) (F:j.guard=none) (dF:j.op= .binOp .eql T (.tmp b) (.const (.slice none 0 0)) A) (q1:j.dst=some m)
  (V:st.n[t]? =some (.arr k n f)) (N:b<st.n.length) (h: ∀q:Bool,(q=true→n=0)→WP E z Q ⟨(st.n.set b (.arr k n f)).set m (.bool q),st.k⟩):WP E (.seq (.region id #[d,j] false) z) Q st:=by
 refine WP.seq fun S sm ι a w p=>wp_region_list ?_;have X:=H.ty T l I;have s:=X.d;obtain⟨e,M⟩: ∃e,E.P.underlying T=some (.slice e):=by
  cases B:l.d<;>rw[B]at u s<;>first|(cases u;done)|exact⟨_,s.1⟩
 obtain⟨v,Z,i⟩:=p.n t _ V;have i:aR w (aM S ι st.k w) (.arr k n f) v:=i;refine BE C fun K o=>dk (v:=a.eval (.tmp t)) (ag:=w) (by simp [execOp,eb]) (o _ _ ?_);have L:a.eval (.tmp t)=v:=by simp [Act.eval,Gj,Z]
 rw[L];have G:aU S ι ⟨st.n.set b (.arr k n f),st.k⟩ (a.put d.dst v) w:=by rw[y];exact p.put b i
 have W:(a.put d.dst v).eval (.tmp b)=v:=by
  obtain⟨hg,Y,aFe⟩:=p.n b _ (cT N);have O:b<a.tmps.size:=by
   rcases fh b a.tmps.size with h|h
   ·exact h
   ·simp [rk h]at Y
  simp [Act.eval,Act.put,y,Gj,O]
 obtain⟨g,c,x⟩: ∃g c,v= .slice g n c:=by
  cases i with
  |nil=>exact⟨none,0,rfl⟩
  |mt _ _ g c=>exact⟨_,c,rfl⟩
  |arr _ _ _ cP fY c=>exact⟨_,c,rfl⟩
 have R:g.isNone=true→n=0:=fun P=>by
  rw[x]at i
  cases i<;>first|rfl|(cases P;done)
 refine BE F fun K o=>dk (v:= .bool g.isNone) (ag:=w) ?_ (o _ _ ?_)
 ·have U:(execOp (a.put d.dst v).eval j).run E.P w=((do eqGuard .eql T (.tmp b) (.const (.slice none 0 0)) ((a.put d.dst v).eval (.tmp b)) (.slice none 0 0);binOp .eql T ((a.put d.dst v).eval (.tmp b)) (.slice none 0 0):Sem Value).run E.P w).andThen fun v w=> .ok (.value v) w:=by
   simp only[execOp,dF];rw[Sem.run_bind];rfl
  rw[U,W,x,aBp w M];rfl
 ·have r:=G.put m (ab:= .bool g.isNone) (v:= .bool g.isNone) (aR.bool _);rw[←q1]at r;exact⟨ι,_,r,h _ R⟩
def eU(a b:Int):Int:=bif decide (b<a)then b else a
def imax(a b:Int):Int:=bif decide (b>a)then b else a
theorem AP(a b:Int):a≤imax a b∧b≤imax a b∧(imax a b=a∨imax a b=b):=by
 unfold imax
 by_cases h:b>a
 ·simp [h];omega
 ·simp [h];omega
theorem lY(a b:Int):eU a b≤a∧eU a b≤b∧(eU a b=a∨eU a b=b):=by
 unfold eU
 by_cases h:b<a
 ·simp [h];omega
 ·simp [h];omega
theorem yq{H:Heap}{b a o:Nat}(cs:List J):I (setAt [] H b cs) a o=if a=b then cs.getD o .undef else I H a o:=EI H b cs a o
theorem WP.apf{E:Env}{x:Code}{Q:Exit→D→Prop}{st:D}(i b:Nat)(cs:List J)(X:st.n[i]? =some (.ptr b 0))(iP:st.k.getD b []=cs)(F:cs.all mW=true)
  (Y:uP ⟨st.n.set i (.ref cs),setAt [] st.k b []⟩=true) (h:WP E x Q ⟨st.n.set i (.ref cs),setAt [] st.k b []⟩) (hm:hF E.m ⟨st.n.set i (.ref cs),setAt [] st.k b []⟩=true:=by rfl):WP E x Q st:=fun S sm ι a w k=>by
 simp only[uP,bY]at Y;let H:Heap:=setAt [] st.k b [];have V: ∀j (g:j<cs.length),mW cs[j]=true:=fun j g=>dw.1 F _ (vf g);have asB: ∀c,mW c=true→c≠ .undef:=by intro c F e;rw[e]at F;cases F
 have asx: ∀c,mW c=true→ch c=false:=by intro c F;cases c<;>first|rfl|(cases F;done)
 have W: ∀j (g:j<cs.length),I st.k b j=cs[j]:=fun j g=>by unfold I;rw[iP];simp [List.getD,g]
 have J4: ∀o,I H b o= .undef:=fun o=>by rw[yq,bF rfl];simp
 have arY: ∀d o,d≠b→I H d o=I st.k d o:=fun d o e8=>by rw[yq,bH e8]
 have ar_:alive H b=false:=by
  unfold alive;rw[o_,bF rfl]
 have jn: ∀d,alive H d=true→d≠b:=fun d h e=>by rw[e,ar_]at h;cases h
 let ay:Nat→Option Nat:=fun d=>if alive H d then ι d else none
 have s: ∀d,alive H d=true→ay d=ι d:=fun d p=>bF p;have r: ∀d y,ay d=some y→alive H d=true∧ι d=some y:=fun d y p=>by
  by_cases h:alive H d=true
  ·exact⟨h,by rw[←s d h];exact p⟩
  ·simp [ay,h]at p
 have gC: ∀d,alive H d=true→d<H.length:=fun d p=>by
  rcases fh d H.length with h|h
  ·exact h
  ·simp [alive,List.getD,e0 h]at p
 have SD: ∀d o,alive H d=false→I H d o= .undef:=fun d o h=>by
  unfold alive at h;unfold I
  cases e:H.getD d []with
  |nil=>rfl
  |cons cP rl=>rw[e]at h;cases h
 have A: ∀d,alive H d=true→ ∀o,I H d o=I st.k d o:=fun d p o=>arY d o (jn d p);have M: ∀y,aM S ι st.k w y→aM S ay H w y:=fun y ⟨L,m,e5⟩=>⟨L,m,fun d p kb=>e5 d (nG (fun o=>A d (r d y kb).1 o) p) (r d y kb).2⟩;refine h S sm ay a w ⟨k.below,k.defers,fun t ab q=> ?_,fun d o=> ?_,fun gJ bG y L m=>k.inj gJ bG y (r _ _ L).2 (r _ _ m).2,fun d y h=>k.fresh d y (r _ _ h).2,fun d y h=>gC d (r _ _ h).1,k.gB.cut S.pZ (fun b iP=>dw.1 hm b (vg.2 (by omega))) s A M⟩
 ·have Z:Ld H ab=true:=dw.1 Y.1 ab (e4 q);rw[s9]at q
  by_cases e:i=t
  ·subst e;rw[bF rfl]at q
   split at q
   ·cases q
    obtain⟨v,z,K⟩:=k.n i _ X;obtain⟨_,y,P,c4⟩:=(show ej S ι st.k w (.ptr b 0) v from K);have Ff: ∀j (g:j<cs.length),∃u,w.cell? ⟨y,j,none⟩=some u∧aR w (aM S ay H w) cs[j] u:=fun j g=>by
     obtain⟨u_,u,G,N,_,O⟩:=(k.k b j).box (by rw[W j g];exact asB _ (V j g)) (by rw[W j g];exact asx _ (V j g));rw[P]at G;cases G;rw[W j g]at O;refine⟨u,N,aR.mono M (fun _ _ _=>rfl) ?_⟩;have adH:=V j g;generalize cs[j]=c at adH O
     cases c<;>first|(cases adH;done)|exact O
    have EH:=k.fresh b y P;refine⟨v,z,?_⟩;rw[c4];refine(show aR w (aM S ay H w) (.ref cs) _ from .ref cs y 0 (fun j=>cs.getD j .undef) (fun j=>(w.cell? ⟨y,0+j,none⟩).getD undef) ⟨k.own P,EH.2,fun d _ he=> ?_⟩ (fun j g=> ?_) (fun j g=> ?_) fun j g=> ?_)
    ·obtain⟨L,m⟩:=r d y he;exact jn d L (k.inj d b y m P)
    ·simp [List.getD,g]
    ·obtain⟨u,Fg,_⟩:=Ff j g;simp [Fg]
    ·obtain⟨u,Fg,Te⟩:=Ff j g;simpa[List.getD,g,Fg]using Te
   ·cases q
  ·rw[bH e]at q;obtain⟨v,z,K⟩:=k.n t ab q;exact⟨v,z,afP s A M Z K⟩
 ·show eQ ay H w (aM S ay H w) d o (I H d o)
  cases B:alive H d with
  |false=>rw[SD d o B];trivial
  |true=>
   have m:=k.k d o;have Z: ∀ab,I H d o=ab→ab≠ .undef→AY H ab=true:=fun ab e ad5=>by
    unfold I at e
    cases R:H[d]? with
    |none=>simp [List.getD,R]at e;exact absurd e.symm ad5
    |some l=>
     simp only[List.getD,R,ly]at e
     cases U:l[o]? with
     |none=>rw[U]at e;exact absurd e.symm ad5
     |some cP=>
      rw[U]at e;simp only[ly]at e;subst e;exact dw.1 (dw.1 Y.2 l (e4 R)) cP (e4 U)
   have jH:ch (I H d 0)=ch (I st.k d 0):=by rw[A d B 0]
   have m:eQ ι st.k w (aM S ι st.k w) d o (I H d o):=by rw[A d B o];exact m
   cases e:I H d o<;>rw[e]at m
   case undef=>trivial
   case ae ro fY n f=>
    obtain⟨z,b_|⟨K,fb⟩⟩:=m
    ·exact⟨z,.inl ⟨b_.1,b_.2.1,by rw[s d B];exact b_.2.2⟩⟩
    refine⟨z,.inr ⟨K,?_⟩⟩;rw[s d B];exact fb.imp id fun⟨x,C,T,G,N,iS⟩=>⟨x,C,T,G,N,fun i j X g=>by
     obtain⟨ab,v,qM,qN,x1⟩:=iS i j X g;exact⟨ab,v,qM,qN,x1.mono M fun _ _ _=>rfl⟩⟩
   all_goals
    obtain⟨E8,x,v,G,N,iS,O⟩:=m;exact⟨by rw[jH];exact E8,x,v,by rw[s d B];exact G,N,iS,K_ s A M (Z _ e (by simp)) O⟩
theorem WP.aoK{E:Env}{I:Code}{Q:Exit→D→Prop}{st:D}{id:Nat}{n o p kd:Oper}{u j b c e d3:Nat}{x y:z}{k:IntKind}{r:Int}
  (T:n.guard=none) (eb:n.op= .move (.tmp u)) (g6:n.dst=some b) (U:o.guard=none) (dF:o.op= .move (.tmp j)) (q1:o.dst=some c) (V:p.guard=none) (fp:p.dst=some e) (W:kd.guard=none) (LL:kd.op= .assign (.tmp e)) (yh:kd.dst=some d3)
  (kb:st.n[u]? =some (.str x)) (sv:st.n[j]? =some (.str y)) (F:b≠j∧b≠c) (B:b<st.n.length∧c<st.n.length∧e<st.n.length)
  (dW: ∀(ρ:Operand→Value) (w:World),(∀f,ρ (.func f)= .func (.func f) #[] #[])→ρ (.tmp b)= .string x→ρ (.tmp c)= .string y→(execOp ρ p).run E.P w= .ok (.value (.int k r)) w)
  (h:WP E I Q ⟨(((st.n.set b (.str x)).set c (.str y)).set e (.int k r)).set d3 (.int k r),st.k⟩):WP E (.seq (.region id #[n,o,p,kd] false) I) Q st:=by
 refine WP.seq fun S sm ι a w G=>wp_region_list ?_;have size: ∀{i:List J} {H:Heap} {a:Act} {d:Nat},aU S ι ⟨i,H⟩ a w→d<i.length→d<a.tmps.size:=fun {i H a d} h X=>by
  obtain⟨hg,Z,_⟩:=h.n d _ (cT X);rcases fh d a.tmps.size with h|h
  ·exact h
  ·simp [rk h]at Z
 have l: ∀{i:List J} {H:Heap} {a:Act} {t:Nat} {ab:J},aU S ι ⟨i,H⟩ a w→i[t]? =some ab→bk S ι H w ab (a.eval (.tmp t)):=fun {i H a t ab} h Y=>by
  have:=h.eval (.tmp t);simpa[aC,List.getD,Y]using this
 have N:=l G kb;have q:=G.put b N;rw[←g6]at q;refine BE T fun K g=>dk (v:=a.eval (.tmp u)) (ag:=w) (by simp [execOp,eb]) (g _ _ ?_);generalize RO:a.put n.dst (a.eval (.tmp u))=A at q ⊢;have O:=l (t:=j) (ab:= .str y) q (by rw[BI F.1];exact sv);have m:=q.put c O;rw[←q1]at m;refine BE U fun K g=>dk (v:=A.eval (.tmp j)) (ag:=w) (by simp [execOp,dF]) (g _ _ ?_);generalize aEK:A.put o.dst (A.eval (.tmp j))=L at m ⊢;have P:=bk.str (l (t:=b) (ab:= .str x) m (by rw[BI (Ne.symm F.2),s9,bF rfl,bF (by simpa using B.1)]));have R:=bk.str (l (t:=c) (ab:= .str y) m (by rw[s9,bF rfl,bF (by simpa using B.2.1)]));have s:=m.put e (ab:= .int k r) (v:= .int k r) (aR.int k r);rw[←fp]at s;refine BE V fun K g=>dk (v:= .int k r) (ag:=w) (dW _ _ (fun _=>rfl) P R) (g _ _ ?_);generalize aEL:L.put p.dst (Value.int k r)=M at s ⊢;have bl:=l (t:=e) (ab:= .int k r) s (by rw[s9,bF rfl,bF (by simpa using B.2.2)]);have C:=s.put d3 bl;rw[←yh]at C;refine BE W fun K g=>dk (v:=M.eval (.tmp e)) (ag:=w) (by simp [execOp,LL]) (g _ _ ?_);exact⟨ι,_,C,h⟩
theorem WP.E7{E:Env}{x y:Code}{Q:Exit→D→Prop}{st:D}(a:D)(h:WP E x (hT (fun s=>rp s a) Q) st)(k:WP E y Q a)(b:hF E.m a=true:=by rfl):WP E (.seq x y) Q st:=WP.join a h k b
theorem B1(f g:Nat→List J)(i:Nat):hJ 0 f g i=g i:=by
 have:Nat.blt i 0=false:=by cases i<;>rfl
 simp only[hJ,this,aQ,Nat.sub_zero]
def ts(x y:J):J:=
 match y with
 | .undef=> .undef
 | .bool _=>match x with
   | .lit b=> .bool b
   |x=>x
 | .arr a _ g=>match x with
   | .aE=> .arr a 0 g
   |x=>x
 |_=>x
def y7:List J→List J→List J
 |x::a,y::b=>ts x y::y7 a b
 |[],_=>[]
 |x::a,[]=>x::a
def O1(x y:J):J:=
 match y with
 | .agg a=>match x with
   | .agg cs=> .agg (y7 cs a)
   |x=>x
 |y=>ts x y
def iq:List J→List J→List J
 |x::a,y::b=>O1 x y::iq a b
 |[],_=>[]
 |x::a,[]=>x::a
def rK:List J→List J→List J
 |x::a,y::c=>(match y with
  | .arr b _ g=>match x with
    | .aE=> .arr b 0 g
    |x=>x
  |_=>x)::rK a c
 |[],_=>[]
 |x::a,[]=>x::a
theorem G4: ∀{c b:List J},rK c b=b→kc c b
 |[],[],_=>trivial
 |[],_::_,h=>by simp [rK]at h
 |_::_,[],h=>by simp [rK]at h
 |x::c,y::b,h=>by
  simp only[rK,mO]at h;refine⟨?_,G4 h.2⟩;have a:=h.1
  cases y<;>simp only at a<;>first|exact .inl a|skip
  rename_i d n g
  cases x<;>simp only at a<;>first|exact .inl a|skip
  exact .inr ⟨rfl,d,g,a.symm⟩
def Cq(x y:J):J:=
 match y with
 | .ae _ _ _ g=>match x with
   | .ae a b n f=> .ae a b n fun i=>rK (f i) (g i)
   |x=>x
 | .undef=>match ch x with
   |true=>x
   |false=> .undef
 | .gone=>match x with
   | .undef=> .undef
   | .ae a b n f=> .ae a b n f
   |_=> .gone
 |y=>ts x y
def y6:List J→List J→List J
 |x::a,y::b=>Cq x y::y6 a b
 |[],_=>[]
 |x::a,[]=>match(x::a).all fun z=> !(ch z)with
  |true=>[]
  |false=>x::a
def tt:Heap→Heap→Heap
 |[],a=>match a.all fun y=>y.isEmpty with
  |true=>a
  |false=>[]
 |_::_,[]=>[]
 |x::b,y::a=>match y with
  |[]=>[]::tt b a
  |z::c=>y6 x (z::c)::tt b a
def G5(s m:D):Option D:=
 match uP m with
 |true=>some ⟨iq s.n m.n,tt s.k m.k⟩
 |false=>none
theorem G3{x y:J}(h:ts x y=y):h4 x y:=by
 cases y<;>simp only[ts]at h<;>first|trivial|skip
 case bool c=>cases x<;>simp only[J.bool.injEq,reduceCtorEq]at h<;>exact h
 case arr a n g=>cases x<;>simp only[J.arr.injEq,reduceCtorEq]at h<;>first|(obtain⟨_,rfl,_⟩:=h;rfl)|(obtain⟨rfl,rfl,rfl⟩:=h;exact aD.2 ⟨by simp,rfl,fun _ _=>rfl⟩)
 all_goals (subst h;simp [h4,aD])
theorem XS: ∀{b a:List J},y7 b a=a→Hl b a
 |[],[],_=>trivial
 |[],_::_,h=>by simp [y7]at h
 |_::_,[],h=>by simp [y7]at h
 |x::b,y::a,h=>by
  simp only[y7,mO]at h;exact⟨G3 h.1,XS h.2⟩
theorem anY{x y:J}(h:O1 x y=y):vP x y:=by
 cases y<;>simp only[O1]at h<;>simp only[vP]<;>first|exact G3 h|skip
 rename_i a
 cases x<;>simp only[J.agg.injEq,reduceCtorEq]at h ⊢ <;>first|exact XS h|exact h.elim
theorem XT: ∀{b a:List J},iq b a=a→oZ b a
 |[],[],_=>trivial
 |[],_::_,h=>by simp [iq]at h
 |_::_,[],h=>by simp [iq]at h
 |x::b,y::a,h=>by
  simp only[iq,mO]at h;have c:=XT h.2;have d:=anY h.1
  cases y<;>first|exact c|exact⟨d,c⟩
theorem anZ{x y:J}(h:Cq x y=y):hM x y:=by
 cases y
 case undef=>
  simp only[Cq]at h;simp only[hM]
  cases e:ch x with
  |false=>rfl
  |true=>rw[e]at h;simp only at h;subst h;cases e
 case ae j g n f=>
  cases x<;>simp only[Cq,J.ae.injEq,reduceCtorEq]at h<;>first|exact h.elim|skip
  obtain⟨rfl,rfl,rfl,h⟩:=h;simp only[hM,aD,vb,Bool.and_self,true_and];exact fun i _=>G4 (congrFun h i)
 case bool c=>
  have d:ts x (.bool c)= .bool c:=h;have a:=G3 d
  cases x<;>simp only[h4]at a<;>first|exact a.elim|(simp only[hM,h4,ch,aD];exact⟨rfl,a⟩)
 case arr g n f=>
  have d:ts x (.arr g n f)= .arr g n f:=h;have a:=G3 d
  cases x<;>first|exact(show False from a).elim|exact(aD (b:=true)).2 ⟨rfl,a⟩
 case gone=>cases x<;>first|trivial|(cases h;done)
 all_goals
  simp only[Cq,ts]at h;subst h;simp [hM,h4,ch,aD]
theorem XR: ∀{a b:List J},y6 a b=b→rL a b
 |[],[],_=>by simp [rL,aD]
 |[],_::_,h=>by simp [y6]at h
 |x::a,[],h=>by
  simp only[y6]at h;simp only[rL,aD,and_true]
  cases e:(x::a).all fun z=> !(ch z)with
  |true=>rfl
  |false=>rw[e]at h;cases h
 |x::a,y::b,h=>by
  simp only[y6,mO]at h;exact⟨anZ h.1,XR h.2⟩
theorem O2: ∀{xs a:Heap},tt xs a=a→zl xs a
 |[],a,h=>by
  simp only[tt]at h;simp only[zl,aD,and_true]
  cases e:a.all fun y=>y.isEmpty with
  |true=>rfl
  |false=>
   rw[e]at h;simp only at h;subst h;cases e
 |_::_,[],_=>trivial
 |x::xs,[]::a,h=>by
  simp only[tt,mO]at h;exact O2 (xs:=xs) h.2
 |x::xs,(z::b)::a,h=>by
  simp only[tt,mO]at h;exact⟨XR h.1,O2 h.2⟩
theorem AU{s m:D}(h:G5 s m=some m):rp s m:=by
 unfold G5 at h
 cases e:uP m with
 |false=>rw[e]at h;cases h
 |true=>
  rw[e]at h;simp only[hd]at h;have a:iq s.n m.n=m.n:=congrArg D.n h;have b:tt s.k m.k=m.k:=congrArg D.k h;exact⟨XT a,O2 b,e⟩
def us(n:Nat)(l:List J):List J:=Nat.rec (motive:=fun _=>List J) l (fun _ r=> .undef::r) n
def Canon{α:Type}[Inhabited α](s:A α):Prop:= ∀i,s.n≤i→s.at' i=default
section
variable {α β:Type} [Inhabited α] [Inhabited β]
theorem am3{a b:Nat}(h:a<b):Nat.blt a b=true:=by rw[fU];exact h
theorem am2{a b:Nat}(h:b≤a):Nat.blt a b=false:=by
 cases e:Nat.blt a b with
 |false=>rfl
 |true=>exact absurd (gW e) (by omega)
def scan(a:Int→Bool)(c:Int→β):Nat→Int→Bool×β
 |0,_=>(false,default)
 |m+1,i=>bif a i then(true,c i)else scan a c m (i+1)
theorem ahI(F:Nat→Int→Bool×β)(n:Nat)(a:Int→Bool)(c:Int→β)(g:n≤549755813888)(b: ∀k i,F (k+1) i=bif decide (i<(n:Int))then(cond (a i) (true,c i) (F k (i64.wrap (i+1))))else(false,default)):
  ∀(m k:Nat) (i:Int),0≤i→i+(m:Int)=n→m≤k→F (k+1) i=scan a c m i
 |0,k,i,d,e,f=>by
  rw[b,show decide (i<(n:Int))=false by simp;omega];rfl
 |m+1,k,i,d,e,f=>by
  obtain⟨k,rfl⟩: ∃h,k=h+1:=⟨k-1,by omega⟩;rw[b,show decide (i<(n:Int))=true by simp;omega];simp only[aN];rw[N _,ahI F n a c g b m k (i+1) (by omega) (by omega) (by omega)];rfl
theorem pA(F:Nat→Int→Bool×β)(n:Nat)(a:Int→Bool)(c:Int→β)(d:n≤549755813888)(b: ∀k i,F (k+1) i=bif decide (i<(n:Int))then(cond (a i) (true,c i) (F k (i64.wrap (i+1))))else(false,default)):
  F (toNat ((n:Int)-0)+1) 0=scan a c n 0:=ahI F n a c d b n _ 0 (dp _) (by omega) (by omega)
theorem ahJ{a:Int→Bool}{c:Int→β} : ∀(m:Nat) (i:Int),(∀j,i≤j→j<i+m→a j=false)→scan a c m i=(false,default)
 |0,_,_=>rfl
 |m+1,i,h=>by
  simp only[scan];rw[h i (dp _) (by omega)];exact ahJ m (i+1) fun j b d=>h j (by omega) (by omega)
theorem L_{a:Int→Bool}{c:Int→β} : ∀(m:Nat) (i:Int),(scan a c m i).1=true→ ∃j,i≤j∧j<i+m∧a j=true∧(scan a c m i).2=c j
 |0,_,h=>by cases h
 |m+1,i,h=>by
  simp only[scan]at h ⊢
  cases b:a i with
  |true=>exact⟨i,dp _,by omega,b,rfl⟩
  |false=>
   rw[b]at h;obtain⟨j,f,g,d,e⟩:=L_ m (i+1) h;exact⟨j,by omega,by omega,d,e⟩
end
theorem de{x:Int}(h:(Lit.int .i64 x).wf=true): -9223372036854775808≤x∧x≤9223372036854775807:=by
 simp only[Lit.wf,bY,jP]at h;exact h
def jJ(a:Int→Bool):Nat→Int→Bool
 |0,_=>false
 |m+1,i=>a i||jJ a m (i+1)
section
variable {β:Type} [Inhabited β]
theorem UX(a:Int→Bool)(c:Int→β): ∀m i,(scan a c m i).1=jJ a m i
 |0,_=>rfl
 |m+1,i=>by
  simp only[scan,jJ]
  cases a i
  ·simpa using UX a c m (i+1)
  ·rfl
theorem aBC(a:Int→Bool)(c:β)(m:Nat)(i:Int):scan a (fun _=>c) m i=(jJ a m i,bif jJ a m i then c else default):=by
 have b:=UX a (fun _=>c) m i
 cases h:jJ a m i with
 |false=>
  rw[h]at b;have d: ∀m i,jJ a m i=false→scan a (fun _=>c) m i=(false,default):=by
   intro m
   induction m with
   |zero=>intro i _;rfl
   |succ m f=>
    intro i aZ;simp only[jJ,BJ]at aZ;simp only[scan,aZ.1,aQ];exact f (i+1) aZ.2
  exact d m i h
 |true=>
  rw[h]at b;obtain⟨j,_,_,_,e⟩:=L_ m i b;exact Prod.ext b e
end
theorem E1(a:Int→Bool)(m:Nat)(r:Bool×Int)(h:r=scan a (fun i=>i) m 0):decide ((cond (cond r.1 false true) (-1) r.2)≥0)=jJ a m 0:=by
 subst h;have d:=UX a (fun i=>i) m 0;rw[←d];rcases Bool.eq_false_or_eq_true (scan a (fun i=>i) m 0).1 with h|h
 ·obtain⟨j,b,f,_,c⟩:=L_ m 0 h;have e:0≤(scan a (fun i=>i) m 0).2:=by rw[c];exact b
  simp [h,e]
 ·simp [h]
end Go.ah
namespace Go.Proofs.YtfmgjpcmcjjoiaaGreatDoor
open Go Go.ah
def hG:List (Nat×bB):=[
 (3,{size:=1,d:= .int .i64,zero:=[b 0]}),
 (4,{size:=1,d:= .bool,zero:=[.bool false]}),
 (5,{size:=1,d:= .int .u8,zero:=[.int .u8 0]}),
 (9,{size:=1,d:= .string,zero:=[.str ⟨#[]⟩]}),
 (22,{size:=1,d:= .slice 73 8 72,zero:=[.aE]}),
 (23,{size:=1,d:= .slice 51 11 136,zero:=[.aE]}),
 (24,{size:=1,d:= .slice 101 12 144,zero:=[.aE]}),
 (25,{size:=1,d:= .slice 105 2 16,zero:=[.aE]}),
 (27,{size:=4,d:= .struct [(0,1),(1,1),(2,1),(3,1)],zero:=[.aE,.aE,.aE,b 0]}),
 (30,{size:=1,d:= .slice 38 10 104,zero:=[.aE]}),
 (34,{size:=5,d:= .struct [(0,1),(1,1),(2,1),(3,1),(4,1)],zero:=[b 0,.str ⟨#[]⟩,.str ⟨#[]⟩,.str ⟨#[]⟩,b 0],cmp:=true}),
 (36,{size:=7,d:= .struct [(0,1),(1,1),(2,5)],zero:=[b 0,b 0,b 0,.str ⟨#[]⟩,.str ⟨#[]⟩,.str ⟨#[]⟩,b 0],cmp:=true}),
 (38,{size:=10,d:= .struct [(0,1),(1,1),(2,1),(3,7)],zero:=[b 0,b 0,b 0,b 0,b 0,b 0,.str ⟨#[]⟩,.str ⟨#[]⟩,.str ⟨#[]⟩,b 0],cmp:=true}),
 (41,{size:=1,d:= .slice 53 10 104,zero:=[.aE]}),
 (43,{size:=3,d:= .struct [(0,1),(1,1),(2,1)],zero:=[b 0,b 0,.aE]}),
 (44,{size:=1,d:= .slice 127 8 128,zero:=[.aE]}),
 (46,{size:=2,d:= .struct [(0,1),(1,1)],zero:=[b 0,.aE]}),
 (47,{size:=1,d:= .slice 135 7 80,zero:=[.aE]}),
 (49,{size:=4,d:= .struct [(0,2),(2,1),(3,1)],zero:=[b 0,.aE,b 0,.aE]}),
 (51,{size:=11,d:= .struct [(0,1),(1,1),(2,1),(3,1),(4,3),(7,4)],zero:=[.bool false,b 0,.bool false,b 0,b 0,b 0,.aE,b 0,.aE,b 0,.aE]}),
 (53,{size:=10,d:= .struct [(0,1),(1,1),(2,1),(3,7)],zero:=[b 0,b 0,.bool false,b 0,b 0,b 0,.str ⟨#[]⟩,.str ⟨#[]⟩,.str ⟨#[]⟩,b 0],cmp:=true}),
 (56,{size:=1,d:= .int .i64,zero:=[b 0]}),
 (71,{size:=5,d:= .struct [(0,1),(1,1),(2,1),(3,1),(4,1)],zero:=[b 0,b 0,b 0,b 0,.str ⟨#[]⟩]}),
 (73,{size:=8,d:= .struct [(0,1),(1,1),(2,1),(3,5)],zero:=[b 0,b 0,b 0,b 0,b 0,b 0,b 0,.str ⟨#[]⟩]}),
 (77,{size:=1,d:= .pointer 91,zero:=[.jq]}),
 (79,{size:=6,d:= .struct [(0,1),(1,1),(2,4)],zero:=[b 0,b 0,b 0,.aE,b 0,.aE]}),
 (80,{size:=3,d:= .array 3 4 1,zero:=[.bool false,.bool false,.bool false]}),
 (81,{size:=3,d:= .array 3 3 1,zero:=[b 0,b 0,b 0]}),
 (82,{size:=1,d:= .slice 147 9 96,zero:=[.aE]}),
 (83,{size:=1,d:= .slice 5 1 1,zero:=[.aE]}),
 (85,{size:=2,d:= .struct [(0,1),(1,1)],zero:=[.aE,b 0]}),
 (86,{size:=1,d:= .slice 117 15 168,zero:=[.aE]}),
 (88,{size:=33,d:= .struct [(0,1),(1,1),(2,1),(3,1),(4,1),(5,1),(6,3),(9,6),(15,4),(19,1),(20,3),(23,3),(26,3),(29,1),(30,2),(32,1)],zero:=[b 0,.bool false,b 0,b 0,b 0,b 0,b 0,b 0,.aE,b 0,b 0,b 0,.aE,b 0,.aE,b 0,.aE,b 0,.aE,b 0,.bool false,.bool false,.bool false,b 0,b 0,b 0,b 0,b 0,b 0,.aE,.aE,b 0,.aE]}),
 (89,{size:=99,d:= .array 3 88 33,zero:=[b 0,.bool false,b 0,b 0,b 0,b 0,b 0,b 0,.aE,b 0,b 0,b 0,.aE,b 0,.aE,b 0,.aE,b 0,.aE,b 0,.bool false,.bool false,.bool false,b 0,b 0,b 0,b 0,b 0,b 0,.aE,.aE,b 0,.aE,b 0,.bool false,b 0,b 0,b 0,b 0,b 0,b 0,.aE,b 0,b 0,b 0,.aE,b 0,.aE,b 0,.aE,b 0,.aE,b 0,.bool false,.bool false,.bool false,b 0,b 0,b 0,b 0,b 0,b 0,.aE,.aE,b 0,.aE,b 0,.bool false,b 0,b 0,b 0,b 0,b 0,b 0,.aE,b 0,b 0,b 0,.aE,b 0,.aE,b 0,.aE,b 0,.aE,b 0,.bool false,.bool false,.bool false,b 0,b 0,b 0,b 0,b 0,b 0,.aE,.aE,b 0,.aE]}),
 (91,{size:=102,d:= .struct [(0,99),(99,1),(100,1),(101,1)],zero:=[b 0,.bool false,b 0,b 0,b 0,b 0,b 0,b 0,.aE,b 0,b 0,b 0,.aE,b 0,.aE,b 0,.aE,b 0,.aE,b 0,.bool false,.bool false,.bool false,b 0,b 0,b 0,b 0,b 0,b 0,.aE,.aE,b 0,.aE,b 0,.bool false,b 0,b 0,b 0,b 0,b 0,b 0,.aE,b 0,b 0,b 0,.aE,b 0,.aE,b 0,.aE,b 0,.aE,b 0,.bool false,.bool false,.bool false,b 0,b 0,b 0,b 0,b 0,b 0,.aE,.aE,b 0,.aE,b 0,.bool false,b 0,b 0,b 0,b 0,b 0,b 0,.aE,b 0,b 0,b 0,.aE,b 0,.aE,b 0,.aE,b 0,.aE,b 0,.bool false,.bool false,.bool false,b 0,b 0,b 0,b 0,b 0,b 0,.aE,.aE,b 0,.aE,.aE,.aE,.aE]}),
 (94,{size:=11,d:= .struct [(0,1),(1,1),(2,6),(8,3)],zero:=[b 0,b 0,b 0,b 0,b 0,.aE,b 0,.aE,b 0,b 0,.aE]}),
 (97,{size:=1,d:= .slice 9 1 16,zero:=[.aE]}),
 (99,{size:=4,d:= .struct [(0,1),(1,1),(2,1),(3,1)],zero:=[b 0,.str ⟨#[]⟩,b 0,.aE]}),
 (101,{size:=12,d:= .struct [(0,1),(1,7),(8,4)],zero:=[b 0,b 0,b 0,b 0,.str ⟨#[]⟩,.str ⟨#[]⟩,.str ⟨#[]⟩,b 0,b 0,.str ⟨#[]⟩,b 0,.aE]}),
 (105,{size:=2,d:= .struct [(0,1),(1,1)],zero:=[b 0,b 0]}),
 (106,{size:=1,d:= .other,zero:=[.undef]}),
 (114,{size:=1,d:= .pointer 88,zero:=[.jq]}),
 (117,{size:=15,d:= .struct [(0,1),(1,1),(2,1),(3,1),(4,1),(5,1),(6,1),(7,1),(8,1),(9,6)],zero:=[b 0,b 0,b 0,b 0,b 0,b 0,.bool false,b 0,.aE,b 0,b 0,b 0,.aE,b 0,.aE]}),
 (122,{size:=1,d:= .slice 130 2 32,zero:=[.aE]}),
 (123,{size:=1,d:= .slice 133 2 24,zero:=[.aE]}),
 (125,{size:=6,d:= .struct [(0,1),(1,1),(2,1),(3,1),(4,1),(5,1)],zero:=[b 0,.str ⟨#[]⟩,b 0,.aE,.aE,.aE]}),
 (127,{size:=8,d:= .struct [(0,1),(1,6),(7,1)],zero:=[.str ⟨#[]⟩,b 0,.str ⟨#[]⟩,b 0,.aE,.aE,.aE,b 0]}),
 (130,{size:=2,d:= .struct [(0,1),(1,1)],zero:=[.str ⟨#[]⟩,.str ⟨#[]⟩],cmp:=true}),
 (133,{size:=2,d:= .struct [(0,1),(1,1)],zero:=[.str ⟨#[]⟩,b 0],cmp:=true}),
 (135,{size:=7,d:= .struct [(0,1),(1,1),(2,1),(3,4)],zero:=[b 0,b 0,b 0,b 0,.str ⟨#[]⟩,b 0,.aE]}),
 (147,{size:=9,d:= .struct [(0,1),(1,1),(2,7)],zero:=[b 0,b 0,b 0,b 0,b 0,.str ⟨#[]⟩,.str ⟨#[]⟩,.str ⟨#[]⟩,b 0]}),
 (166,{size:=20,d:= .struct [(0,1),(1,1),(2,1),(3,1),(4,10),(14,6)],zero:=[b 0,b 0,b 0,b 0,b 0,b 0,.bool false,b 0,b 0,b 0,.str ⟨#[]⟩,.str ⟨#[]⟩,.str ⟨#[]⟩,b 0,b 0,b 0,b 0,.aE,b 0,.aE]}),
 (181,{size:=1,d:= .slice 166 20 216,zero:=[.aE]}),
 (187,{size:=1,d:= .int .u64,zero:=[.int .u64 0]}),
 (213,{size:=1,d:= .pointer 49,zero:=[.jq]}),
 (224,{size:=1,d:= .struct [(0,1)],zero:=[.aE]}),
 (228,{size:=1,d:= .pointer 230,zero:=[.jq]}),
 (230,{size:=2,d:= .struct [(0,1),(1,1)],zero:=[.aE,.bool false]}),
 (237,{size:=1,d:= .slice 83 1 24,zero:=[.aE]}),
 (241,{size:=1,d:= .pointer 244,zero:=[.jq]}),
 (244,{size:=4,d:= .struct [(0,2),(2,1),(3,1)],zero:=[b 0,.aE,b 0,.bool false]}),
 (250,{size:=1,d:= .int .u64,zero:=[.int .u64 0]}),
 (293,{size:=1,d:= .slice 3 1 8,zero:=[.aE]})
]
theorem Vf:(hG.all fun x=>BA Tryz.prog x.1 x.2)=true:=by kernel_rfl
theorem OS:(hG.all fun x=>GY Tryz.prog x)=true:=by kernel_rfl
theorem mixed:Tryz.prog.follows .mixedOrders=true:=by kernel_rfl
def afX(m:Nat)(l:List (Nat×tc))(a:List (Nat×yO)):Env:=⟨Tryz.prog,yx hG,F5 l,m,ER a,fun _=>false⟩
theorem ayq{m:Nat}{l:List (Nat×tc)}{a:List (Nat×yO)}(h:GD Tryz.prog l)(b:Nw Tryz.prog a):(afX m l a).dq:=Ym mixed Vf OS (U7 h) (Sx b)
def x5(l:List (Nat×tc)):Env:=afX 0 l []
theorem g5{l:List (Nat×tc)}(h:GD Tryz.prog l):(x5 l).dq:=ayq h trivial
abbrev U:J:= .undef
section
def cr:J→Int
 | .int _ n=>n
 |_=>0
def F8:J→Bool
 | .bool b=>b
 |_=>false
def hU:J→z
 | .str s=>s
 |_=>⟨#[]⟩
variable(l:List J)(x:Int)
def bl:List J:=[b x]
def d3:Int:=cr (l.getD 0 .undef)
theorem aon(x:Int):d3 (bl x)=x:=rfl
structure br where
 j:z
 ai:z
instance:Inhabited br:=⟨⟨default,default⟩⟩
def fz(x:br):List J:=[.str x.j,.str x.ai]
def d160:br:=⟨hU (l.getD 0 .undef),hU (l.getD 1 .undef)⟩
theorem aok(x:br):d160 (fz x)=x:=rfl
def cK(x:z):List J:=[.str x]
def d9:z:=hU (l.getD 0 .undef)
theorem aoy(x:z):d9 (cK x)=x:=rfl
structure bO where
 j:z
 ai:Int
instance:Inhabited bO:=⟨⟨default,default⟩⟩
def fA(x:bO):List J:=[.str x.j,b x.ai]
def d164:bO:=⟨hU (l.getD 0 .undef),cr (l.getD 1 .undef)⟩
theorem aol(x:bO):d164 (fA x)=x:=rfl
structure aj where
 j:z
 ai:Int
 K:z
 an:Int
 p:(A br)
 v:(A z)
 ax:(A bO)
 aF:Int
instance:Inhabited aj:=⟨⟨default,default,default,default,default,default,default,default⟩⟩
def fZ(x:aj):List J:=[.str x.j,b x.ai,.str x.K,b x.an,aH 2 fz x.p,aH 1 cK x.v,aH 2 fA x.ax,b x.aF]
def d175:aj:=⟨hU (l.getD 0 .undef),cr (l.getD 1 .undef),hU (l.getD 2 .undef),cr (l.getD 3 .undef),cD d160 (l.getD 4 .undef),cD d9 (l.getD 5 .undef),cD d164 (l.getD 6 .undef),cr (l.getD 7 .undef)⟩
theorem aom(x:aj):d175 (fZ x)=x:=rfl
structure aG where
 j:Int
 ai:Int
 K:Int
 an:Int
 p:z
 v:Int
 ax:(A z)
instance:Inhabited aG:=⟨⟨default,default,default,default,default,default,default⟩⟩
def gK(x:aG):List J:=[b x.j,b x.ai,b x.K,b x.an,.str x.p,b x.v,aH 1 cK x.ax]
def d137:aG:=⟨cr (l.getD 0 .undef),cr (l.getD 1 .undef),cr (l.getD 2 .undef),cr (l.getD 3 .undef),hU (l.getD 4 .undef),cr (l.getD 5 .undef),cD d9 (l.getD 6 .undef)⟩
theorem aoj(x:aG):d137 (gK x)=x:=rfl
structure aI where
 j:Int
 ai:Int
 K:Bool
 an:Int
 p:Int
 v:Int
 ax:z
 aF:z
 i:z
 aP:Int
instance:Inhabited aI:=⟨⟨default,default,default,default,default,default,default,default,default,default⟩⟩
def dU(x:aI):List J:=[b x.j,b x.ai,.bool x.K,b x.an,b x.p,b x.v,.str x.ax,.str x.aF,.str x.i,b x.aP]
def d68:aI:=⟨cr (l.getD 0 .undef),cr (l.getD 1 .undef),F8 (l.getD 2 .undef),cr (l.getD 3 .undef),cr (l.getD 4 .undef),cr (l.getD 5 .undef),hU (l.getD 6 .undef),hU (l.getD 7 .undef),hU (l.getD 8 .undef),cr (l.getD 9 .undef)⟩
theorem aow(x:aI):d68 (dU x)=x:=rfl
def cQ:List J:=[.int .u8 x]
def d5:Int:=cr (l.getD 0 .undef)
theorem aov(x:Int):d5 (cQ x)=x:=rfl
def Yd(x:(A Int)):List J:=[aH 1 cQ x]
def d43:(A Int):=cD d5 (l.getD 0 .undef)
theorem aou(x:(A Int)):d43 (Yd x)=x:=rfl
structure b7 where
 j:Int
 ai:Int
 K:Int
 an:Int
 p:Int
 v:Int
 ax:Bool
 aF:Int
 i:Int
 aP:Int
 cG:z
 cZ:z
 cJ:z
 dh:Int
 b1:Int
 gv:Int
 kp:Int
 jx:(A aj)
 kq:Int
 jy:(A aG)
instance:Inhabited b7:=⟨⟨default,default,default,default,default,default,default,default,default,default,default,default,default,default,default,default,default,default,default,default⟩⟩
def O8(x:b7):List J:=[b x.j,b x.ai,b x.K,b x.an,b x.p,b x.v,.bool x.ax,b x.aF,b x.i,b x.aP,.str x.cG,.str x.cZ,.str x.cJ,b x.dh,b x.b1,b x.gv,b x.kp,aH 8 fZ x.jx,b x.kq,aH 7 gK x.jy]
def d122:b7:=⟨cr (l.getD 0 .undef),cr (l.getD 1 .undef),cr (l.getD 2 .undef),cr (l.getD 3 .undef),cr (l.getD 4 .undef),cr (l.getD 5 .undef),F8 (l.getD 6 .undef),cr (l.getD 7 .undef),cr (l.getD 8 .undef),cr (l.getD 9 .undef),hU (l.getD 10 .undef),hU (l.getD 11 .undef),hU (l.getD 12 .undef),cr (l.getD 13 .undef),cr (l.getD 14 .undef),cr (l.getD 15 .undef),cr (l.getD 16 .undef),cD d175 (l.getD 17 .undef),cr (l.getD 18 .undef),cD d137 (l.getD 19 .undef)⟩
theorem aoi(x:b7):d122 (O8 x)=x:=rfl
structure F where
 j:Int
 ai:Int
 K:Int
 an:Int
 p:Int
 v:Int
 ax:z
 aF:z
 i:z
 aP:Int
instance:Inhabited F:=⟨⟨default,default,default,default,default,default,default,default,default,default⟩⟩
def Ye(x:F):List J:=[b x.j,b x.ai,b x.K,b x.an,b x.p,b x.v,.str x.ax,.str x.aF,.str x.i,b x.aP]
def d75:F:=⟨cr (l.getD 0 .undef),cr (l.getD 1 .undef),cr (l.getD 2 .undef),cr (l.getD 3 .undef),cr (l.getD 4 .undef),cr (l.getD 5 .undef),hU (l.getD 6 .undef),hU (l.getD 7 .undef),hU (l.getD 8 .undef),cr (l.getD 9 .undef)⟩
theorem aox(x:F):d75 (Ye x)=x:=rfl
structure dg where
 j:Bool
 ai:Int
 K:Bool
 an:Int
 p:Int
 v:Int
 ax:(A aI)
 aF:Int
 i:(A aj)
 aP:Int
 cG:(A aG)
instance:Inhabited dg:=⟨⟨default,default,default,default,default,default,default,default,default,default,default⟩⟩
def tv(x:dg):List J:=[.bool x.j,b x.ai,.bool x.K,b x.an,b x.p,b x.v,aH 10 dU x.ax,b x.aF,aH 8 fZ x.i,b x.aP,aH 7 gK x.cG]
def XX:dg:=⟨F8 (l.getD 0 .undef),cr (l.getD 1 .undef),F8 (l.getD 2 .undef),cr (l.getD 3 .undef),cr (l.getD 4 .undef),cr (l.getD 5 .undef),cD d68 (l.getD 6 .undef),cr (l.getD 7 .undef),cD d175 (l.getD 8 .undef),cr (l.getD 9 .undef),cD d137 (l.getD 10 .undef)⟩
theorem aoq(x:dg):XX (tv x)=x:=rfl
structure a7 where
 j:Int
 ai:Int
 K:Int
 an:Int
 p:z
 v:z
 ax:z
 aF:Int
 i:Int
 aP:z
 cG:Int
 cZ:(A z)
instance:Inhabited a7:=⟨⟨default,default,default,default,default,default,default,default,default,default,default,default⟩⟩
def vI(x:a7):List J:=[b x.j,b x.ai,b x.K,b x.an,.str x.p,.str x.v,.str x.ax,b x.aF,b x.i,.str x.aP,b x.cG,aH 1 cK x.cZ]
def XV:a7:=⟨cr (l.getD 0 .undef),cr (l.getD 1 .undef),cr (l.getD 2 .undef),cr (l.getD 3 .undef),hU (l.getD 4 .undef),hU (l.getD 5 .undef),hU (l.getD 6 .undef),cr (l.getD 7 .undef),cr (l.getD 8 .undef),hU (l.getD 9 .undef),cr (l.getD 10 .undef),cD d9 (l.getD 11 .undef)⟩
theorem aoo(x:a7):XV (vI x)=x:=rfl
structure aJ where
 j:Int
 ai:Int
instance:Inhabited aJ:=⟨⟨default,default⟩⟩
def vJ(x:aJ):List J:=[b x.j,b x.ai]
def XW:aJ:=⟨cr (l.getD 0 .undef),cr (l.getD 1 .undef)⟩
theorem aop(x:aJ):XW (vJ x)=x:=rfl
structure hI where
 j:Int
 ai:Int
 K:Int
 an:Int
 p:Int
 v:z
 ax:z
 aF:z
 i:Int
instance:Inhabited hI:=⟨⟨default,default,default,default,default,default,default,default,default⟩⟩
def Yc(x:hI):List J:=[b x.j,b x.ai,b x.K,b x.an,b x.p,.str x.v,.str x.ax,.str x.aF,b x.i]
def XZ:hI:=⟨cr (l.getD 0 .undef),cr (l.getD 1 .undef),cr (l.getD 2 .undef),cr (l.getD 3 .undef),cr (l.getD 4 .undef),hU (l.getD 5 .undef),hU (l.getD 6 .undef),hU (l.getD 7 .undef),cr (l.getD 8 .undef)⟩
theorem aos(x:hI):XZ (Yc x)=x:=rfl
structure O where
 j:Int
 ai:Int
 K:Int
 an:Int
 p:Int
 v:Int
 ax:Bool
 aF:Int
 i:(A aI)
 aP:Int
 cG:Int
 cZ:Int
 cJ:(A aj)
 dh:Int
 b1:(A aG)
instance:Inhabited O:=⟨⟨default,default,default,default,default,default,default,default,default,default,default,default,default,default,default⟩⟩
def iu(x:O):List J:=[b x.j,b x.ai,b x.K,b x.an,b x.p,b x.v,.bool x.ax,b x.aF,aH 10 dU x.i,b x.aP,b x.cG,b x.cZ,aH 8 fZ x.cJ,b x.dh,aH 7 gK x.b1]
def _root_.Go.iZ(a c:Int)(x:O):List J:=[b a,b c,b x.K,b x.an,b x.p,b x.v,.bool x.ax,b x.aF,aH 10 dU x.i,b x.aP,b x.cG,b x.cZ,aH 8 fZ x.cJ,b x.dh,aH 7 gK x.b1]
def XY:O:=⟨cr (l.getD 0 .undef),cr (l.getD 1 .undef),cr (l.getD 2 .undef),cr (l.getD 3 .undef),cr (l.getD 4 .undef),cr (l.getD 5 .undef),F8 (l.getD 6 .undef),cr (l.getD 7 .undef),cD d68 (l.getD 8 .undef),cr (l.getD 9 .undef),cr (l.getD 10 .undef),cr (l.getD 11 .undef),cD d175 (l.getD 12 .undef),cr (l.getD 13 .undef),cD d137 (l.getD 14 .undef)⟩
theorem aor(x:O):XY (iu x)=x:=rfl
structure dE where
 j:Int
 ai:Int
 K:Int
 an:Int
 p:Int
 v:Int
 ax:Int
 aF:z
instance:Inhabited dE:=⟨⟨default,default,default,default,default,default,default,default⟩⟩
def e_(x:dE):List J:=[b x.j,b x.ai,b x.K,b x.an,b x.p,b x.v,b x.ax,.str x.aF]
def bZ:dE:=⟨cr (l.getD 0 .undef),cr (l.getD 1 .undef),cr (l.getD 2 .undef),cr (l.getD 3 .undef),cr (l.getD 4 .undef),cr (l.getD 5 .undef),cr (l.getD 6 .undef),hU (l.getD 7 .undef)⟩
theorem aot(x:dE):bZ (e_ x)=x:=rfl
end
end Go.Proofs.YtfmgjpcmcjjoiaaGreatDoor
namespace Go.ah
open Go Go.RowKit
structure cF where
 T:Type
 uI:Inhabited T
 M:Nat
 e:T→List J
 d:List J→T
 nW: ∀x,d (e x)=x
inductive aB:Type 1 where
 |int (k:IntKind)
 |bool
 |str
 |af (E:cF)
 |ae (E:cF)
@[reducible] def aB.ty:aB→Type
  | .int _=>Int
  | .bool=>Bool
  | .str=>ByteArray
  | .af E=>A E.T
  | .ae E=>A E.T
def aB.lF:(k:aB)→k.ty
 | .int _=>default
 | .bool=>default
 | .str=>default
 | .af E=>have:=E.uI;default
 | .ae E=>have:=E.uI;default
def aB.ab:(k:aB)→k.ty→J
 | .int k,n=> .int k n
 | .bool,b=> .bool b
 | .str,s=> .str s
 | .af E,s=>aH E.M E.e s
 | .ae E,s=> .ae false E.M s.n fun i=>E.e (s.at' i)
def ahc(k:IntKind)(x:J):Option Int:=
 match x with
 | .int a n=>match decide (a=k)with
   |true=>some n
   |false=>none
 |_=>none
def UG(x:J):Option Bool:=
 match x with
 | .bool b=>some b
 | .lit b=>some b
 |_=>none
def aA3(x:J):Option ByteArray:=
 match x with
 | .str s=>some s
 |_=>none
def ahe(E:cF)(x:J):Option (A E.T):=
 match x with
 | .arr a n f=>match Nat.beq a E.M with
   |true=>some ⟨n,fun i=>E.d (f i)⟩
   |false=>none
 | .aE=>some (@L E.T E.uI)
 |_=>none
def ahd(E:cF)(x:J):Option (A E.T):=
 match x with
 | .ae a b n f=>match a with
   |true=>none
   |false=>match Nat.beq b E.M with
    |true=>some ⟨n,fun i=>E.d (f i)⟩
    |false=>none
 |_=>none
def aB.rd:(k:aB)→J→Option k.ty
 | .int k,x=>ahc k x
 | .bool,x=>ah.UG x
 | .str,x=>aA3 x
 | .af E,x=>ahe E x
 | .ae E,x=>ahd E x
theorem aB.canon: ∀(k:aB) (x:k.ty),k.rd (k.ab x)=some x
 | .int k,x=>by simp [aB.rd,aB.ab,ahc]
 | .bool,x=>rfl
 | .str,x=>rfl
 | .af E,x=>by simp [aB.rd,aB.ab,ahe,aH,E.nW]
 | .ae E,x=>by simp [aB.rd,aB.ab,ahd,E.nW]
@[reducible] def dx:List aB→Type
  |[]=>Unit
  |[k]=>k.ty
  |k::a::r=>k.ty×dx (a::r)
def dx.cons:{k:aB} →{a:List aB} →k.ty→dx a→dx (k::a)
 |_,[],x,_=>x
 |_,_::_,x,s=>(x,s)
def dx.lF:(a:List aB)→dx a
 |[]=>()
 |k::a=>dx.cons k.lF (dx.lF a)
def dx.gZ:(b:List aB)→dx b→List J
 |[],_=>[]
 |[k],x=>[k.ab x]
 |k::a::r,s=>k.ab s.1::dx.gZ (a::r) s.2
def qY:(b:List aB)→List J→Option (dx b)
 |[],[]=>some ()
 |[k],[x]=>k.rd x
 |k::a::r,x::c=>match k.rd x with
  |some v=>match qY (a::r) c with
   |some s=>some (v,s)
   |none=>none
  |none=>none
 |_,_=>none
def aB.nrm(k:aB)(x:J):Option J:=
 match k.rd x with
 |some v=>some (k.ab v)
 |none=>none
def dP:List aB→List J→Option (List J)
 |[],[]=>some []
 |k::a,x::b=>match k.nrm x with
  |some y=>match dP a b with
   |some c=>some (y::c)
   |none=>none
  |none=>none
 |_,_=>none
theorem aB.FB{k:aB}{x y:J}(h:k.nrm x=some y): ∃v,y=k.ab v∧k.rd y=some v:=by
 unfold aB.nrm at h
 split at h
 ·rename_i v e
  cases h
  exact⟨v,rfl,aB.canon k v⟩
 ·cases h
theorem A8: ∀{bp:List aB} {xs cu:List J},dP bp xs=some cu→ ∃s,qY bp cu=some s∧dx.gZ bp s=cu
 |[],[],cu,h=>by cases h;exact⟨(),rfl,rfl⟩
 |[k],[x],cu,h=>by
  simp only[dP]at h
  split at h<;>try (cases h;done)
  rename_i y e
  cases h
  obtain⟨v,a,b⟩:=aB.FB e;exact⟨v,b,by simp only[dx.gZ,a]⟩
 |k::g::r,x::xs,cu,h=>by
  simp only[dP]at h
  split at h<;>try (cases h;done)
  rename_i y e
  split at h<;>try (cases h;done)
  rename_i i c
  cases h
  obtain⟨v,a,b⟩:=aB.FB e;obtain⟨s,d,f⟩:=A8 (bp:=g::r) (xs:=xs) (cu:=i) (by simpa only[dP]using c);exact⟨(v,s),by simp only[qY,b,d],by simp only[dx.gZ,a,f]⟩
 |[],_::_,_,h=>by cases h
 |_::_,[],_,h=>by cases h
 |[k],x::y::r,cu,h=>by
  simp only[dP]at h
  split at h<;>cases h
def vm:(b:List aB)→(dx b→Prop)→Prop
 |[],p=>p ()
 |[k],p=> ∀x:k.ty,p x
 |k::a::r,p=> ∀x:k.ty,vm (a::r) fun s=>p (x,s)
theorem yU: ∀(b:List aB) (p:dx b→Prop),vm b p↔ ∀s,p s
 |[],p=>⟨fun h _=>h,fun h=>h ()⟩
 |[k],p=>Iff.rfl
 |k::a::r,p=>by
  simp only[vm];constructor
  ·intro h s;exact(yU (a::r) _).1 (h s.1) s.2
  ·intro h x;exact(yU (a::r) _).2 fun s=>h (x,s)
inductive gX:Type 1 where
 |c5
 |e {α:Type} (a b:α)
 |and (l r:gX)
def gX.holds:gX→Prop
 | .c5=>True
 | .e a b=>a=b
 | .and l r=>l.holds∧r.holds
inductive aS:Type 1 where
 |c5
 |p (q:Prop)
 |e {α:Type} (a b:α)
 |es {σ:Type} (f:σ→gX)
 |and (l r:aS)
 |imp (b c:Bool) (r:aS)
 |uw (q:Prop) (r:aS)
 |all (bp:List aB) (I:dx bp→Prop) (f:dx bp→aS)
def aS.holds:aS→Prop
 | .c5=>True
 | .p q=>q
 | .e a b=>a=b
 | .es f=> ∀k,(f k).holds
 | .and l r=>l.holds∧r.holds
 | .imp b c r=>b=c→r.holds
 | .uw q r=>q→r.holds
 | .all _ I f=> ∀s,I s→(f s).holds
def aS.kG:aS→Bool
 | .p _=>true
 | .and l r=>match l.kG with
   |true=>true
   |false=>r.kG
 | .imp _ _ r=>r.kG
 | .uw _ r=>r.kG
 | .all .. =>true
 |_=>false
def aS.prop:aS→Prop
 | .c5=>True
 | .p q=>q
 | .e _ _=>True
 | .es _=>True
 | .and l r=>match l.kG with
   |true=>match r.kG with
    |true=>l.prop∧r.prop
    |false=>l.prop
   |false=>r.prop
 | .imp b c r=>match r.kG with
   |true=>b=c→r.prop
   |false=>True
 | .uw q r=>match r.kG with
   |true=>q→r.prop
   |false=>True
 | .all a I f=>vm a fun s=>I s→(f s).prop
inductive nO:Type 1 where
 |nil
 |c {α:Type} (a:α)
 |and (l r:nO)
 |lam {σ:Type} (f:σ→nO)
def gX.g9:gX→nO
 | .c5=> .nil
 | .e a _=> .c a
 | .and l r=> .and l.g9 r.g9
def gX.hS:gX→nO
 | .c5=> .nil
 | .e _ b=> .c b
 | .and l r=> .and l.hS r.hS
theorem gX.ok: ∀(o:gX),o.g9=o.hS→o.holds
 | .c5,_=>trivial
 | .e a b,h=>by
   simp only[gX.g9,gX.hS,nO.c.injEq,heq_eq_eq,true_and]at h;exact h
 | .and l r,h=>by
   simp only[gX.g9,gX.hS,nO.and.injEq]at h;exact⟨gX.ok l h.1,gX.ok r h.2⟩
def aS.g9:aS→nO
 | .e a _=> .c a
 | .es f=> .lam fun k=>(f k).g9
 | .and l r=> .and l.g9 r.g9
 | .imp _ _ r=>r.g9
 | .uw _ r=>r.g9
 | .all _ _ f=> .lam fun s=>(f s).g9
 |_=> .nil
def aS.hS:aS→nO
 | .e _ b=> .c b
 | .es f=> .lam fun k=>(f k).hS
 | .and l r=> .and l.hS r.hS
 | .imp _ _ r=>r.hS
 | .uw _ r=>r.hS
 | .all _ _ f=> .lam fun s=>(f s).hS
 |_=> .nil
theorem aS.soft: ∀(o:aS),o.kG=false→o.prop
 | .c5,_=>trivial
 | .p _,h=>by cases h
 | .e _ _,_=>trivial
 | .es _,_=>trivial
 | .and l r,h=>by
   simp only[aS.kG]at h
   cases a:l.kG with
   |true=>rw[a]at h;cases h
   |false=>
    rw[a]at h;simp only[aS.prop,a];exact aS.soft r h
 | .imp b c r,h=>by
   simp only[aS.kG]at h;simp only[aS.prop,h]
 | .uw q r,h=>by
   simp only[aS.kG]at h;simp only[aS.prop,h]
 | .all ..,h=>by cases h
theorem aS.ok: ∀(o:aS),o.g9=o.hS→o.prop→o.holds
 | .c5,_,_=>trivial
 | .p _,_,h=>h
 | .e a b,h,_=>by
   simp only[aS.g9,aS.hS,nO.c.injEq,heq_eq_eq,true_and]at h;exact h
 | .es f,h,_=>by
   simp only[aS.g9,aS.hS,nO.lam.injEq,heq_eq_eq,true_and]at h;exact fun k=>gX.ok (f k) (congrFun h k)
 | .and l r,h,d=>by
   simp only[aS.g9,aS.hS,nO.and.injEq]at h;simp only[aS.prop]at d
   cases i:l.kG with
   |true=>
    rw[i]at d
    cases e:r.kG with
    |true=>rw[e]at d;exact⟨aS.ok l h.1 d.1,aS.ok r h.2 d.2⟩
    |false=>rw[e]at d;exact⟨aS.ok l h.1 d,aS.ok r h.2 (aS.soft r e)⟩
   |false=>rw[i]at d;exact⟨aS.ok l h.1 (aS.soft l i),aS.ok r h.2 d⟩
 | .imp b c r,h,d=>by
   simp only[aS.g9,aS.hS]at h;simp only[aS.prop]at d;intro g
   cases e:r.kG with
   |true=>rw[e]at d;exact aS.ok r h (d g)
   |false=>exact aS.ok r h (aS.soft r e)
 | .uw q r,h,d=>by
   simp only[aS.g9,aS.hS]at h;simp only[aS.prop]at d;intro g
   cases e:r.kG with
   |true=>rw[e]at d;exact aS.ok r h (d g)
   |false=>exact aS.ok r h (aS.soft r e)
 | .all m I f,h,d=>by
   simp only[aS.g9,aS.hS,nO.lam.injEq,heq_eq_eq,true_and]at h;intro s j;exact aS.ok (f s) (congrFun h s) ((yU m _).1 d s j)
inductive T (α:Type _) where
 |cW (a:α)
 |d_ (b:Bool) (l r:T α)
def T.bw{α:Type _} :T α→α
 | .cW a=>a
 | .d_ b l r=>match b with
   |true=>l.bw
   |false=>r.bw
def T.map{α β:Type _}(f:α→β):T α→T β
 | .cW a=> .cW (f a)
 | .d_ b l r=> .d_ b (l.map f) (r.map f)
theorem T.lp{α β:Type _}(f:α→β): ∀t:T α,(t.map f).bw=f t.bw
 | .cW _=>rfl
 | .d_ b l r=>by cases b<;>simp only[T.map,T.bw,T.lp f]
def T.prune{α β:Type _}(f:α→Option β):T α→Option (T β)
 | .cW a=>match f a with
   |some b=>some (.cW b)
   |none=>none
 | .d_ b l r=>match l.prune f with
   |some c=>match r.prune f with
    |some d=>some (.d_ b c d)
    |none=>some c
   |none=>r.prune f
theorem T.mI{α β:Type _}{f:α→Option β} : ∀{t:T α} {x:β},f t.bw=some x→ ∃c,t.prune f=some c∧c.bw=x
 | .cW a,x,h=>by
   simp only[T.bw]at h;exact⟨.cW x,by simp only[T.prune,h],rfl⟩
 | .d_ b l r,x,h=>by
   cases b with
   |true=>
    obtain⟨c,g,d⟩:=T.mI (t:=l) (show f l.bw=some x from h);simp only[T.prune,g]
    cases e:r.prune f with
    |none=>exact⟨c,rfl,d⟩
    |some j=>exact⟨.d_ true c j,rfl,d⟩
   |false=>
    obtain⟨c,g,d⟩:=T.mI (t:=r) (show f r.bw=some x from h);simp only[T.prune,g]
    cases e:l.prune f with
    |none=>exact⟨c,rfl,d⟩
    |some i=>exact⟨.d_ false i c,rfl,d⟩
inductive ja where
 |f
 |l
 |b (x y:ja)
def T.first{α:Type _} :T α→α
 | .cW a=>a
 | .d_ _ l _=>l.first
def T.jW{α:Type} :T α→ja→α
 | .cW a,_=>a
 | .d_ b l r,m=>match m with
   | .f=>bif b then l.jW .f else r.jW .f
   | .l=>l.first
   | .b x y=>bif b then l.jW x else r.jW y
def T.same{α:Type}(a:α):T α→gX
 | .cW x=> .e x a
 | .d_ _ l r=> .and (l.same a) (r.same a)
def T.y4{α:Type} :T α→ja→gX
 | .cW _,_=> .c5
 | .d_ _ l r,m=>match m with
   | .f=> .c5
   | .l=> .and (l.same l.first) (r.same l.first)
   | .b x y=> .and (l.y4 x) (r.y4 y)
theorem T.US{α:Type}{a:α} : ∀{t:T α},(t.same a).holds→t.bw=a
 | .cW _,h=>h
 | .d_ b l r,h=>by
   cases b
   ·exact T.US (t:=r) h.2
   ·exact T.US (t:=l) h.1
theorem T.XD{α:Type} : ∀(t:T α),t.jW .f=t.bw
 | .cW _=>rfl
 | .d_ b l r=>by cases b<;>simp only[T.jW,T.bw,aN,aQ,T.XD]
theorem T.Cl{α:Type} : ∀{t:T α} {m:ja},(t.y4 m).holds→t.jW m=t.bw
 | .cW _,_,_=>rfl
 | .d_ b l r,.f,_=>T.XD _
 | .d_ b l r,.l,h=>by
   simp only[T.jW];exact(T.US (t:= .d_ b l r) h).symm
 | .d_ b l r,.b x y,h=>by
   have a:=T.Cl (t:=l) (m:=x) h.1;have c:=T.Cl (t:=r) (m:=y) h.2
   cases b
   ·simp only[T.jW,aQ,T.bw,c]
   ·simp only[T.jW,aN,T.bw,a]
structure cb where
 P:Program
 ty:TypeId→Option bB
 el:TypeId→Option cF
 spec:FuncId→List J→Option (aS×J)
 m:Nat:=0
 nr:FuncId→List J→Heap→Option (aS×List J×Heap):=fun _ _ _=>none
 aoT:Nat→List J→Option cF:=fun _ _=>none
 eh:FuncId→Bool:=fun _=>false
def cb.aoA(X:cb)(H:Heap)(x:J):Option cF:=
 match x with
 | .fl b _ i _=>match I H b 0 with
   | .ae _ a _ f=>X.aoT a (f i)
   |_=>none
 |_=>none
def cb.env(X:cb):Env where
 P:=X.P
 ty:=X.ty
 spec:=fun f aa=>match X.spec f aa with
  |some q=>some (some q.1.holds,q.2)
  |none=>none
 m:=X.m
 nr:=fun f aa H=>match X.nr f aa H with
  |some q=>some (some q.1.holds,q.2)
  |none=>none
 eh:=X.eh
def c3{α:Type _}(b:Bool)(x:Option α):Option α:=
 match b with
 |true=>x
 |false=>none
theorem dd{α:Type _}{b:Bool}{x:Option α}{y:α} :c3 b x=some y↔b=true∧x=some y:=by
 cases b<;>simp [c3]
abbrev rq:=aS×J×bX
abbrev h1:=aS×J
def val(x:Option h1):Option rq:=
 match x with
 |some q=>some (q.1,q.2,[])
 |none=>none
theorem oD{x:Option h1}{o:aS}{ab:J}{c:bX} :val x=some (o,ab,c)↔x=some (o,ab)∧c=[]:=by
 cases x with
 |none=>simp [val]
 |some q=>
  obtain⟨a,b⟩:=q;simp only[val,hd,s_];constructor
  ·rintro⟨rfl,rfl,rfl⟩;exact⟨⟨rfl,rfl⟩,rfl⟩
  ·rintro⟨⟨rfl,rfl⟩,rfl⟩;exact⟨rfl,rfl,rfl⟩
def cR(ab:J):Option h1:=some (.c5,ab)
def loadT(t:bB)(H:Heap)(x:J):Option h1:=
 match x with
 | .ptr b o=>c3 ((ks H b o t.size).all vv) (cR (oR t.d.isAgg (ks H b o t.size)))
 | .ref cs=>c3 (decide (t.size≤cs.length)) (cR (oR t.d.isAgg (cs.take t.size)))
 | .fl b k i o=>match I H b 0 with
   | .ae _ a n f=>c3 (decide (o+t.size≤a)) (some (.and (.e k n) (.p (i<n)),oR t.d.isAgg (((f i).drop o).take t.size)))
   |_=>none
 |_=>none
theorem K7{t:bB}{H:Heap}{x:J}{o:aS}{ab:J}{K:J→Prop}(h:loadT t H x=some (o,ab))(d:o.holds)(c:K ab):nx t H x K:=by
 unfold loadT at h;unfold nx
 cases x<;>simp only at h ⊢ <;>try (cases h;done)
 ·rw[dd,cR]at h;obtain⟨a,b⟩:=h
  cases b
  exact aD.2 ⟨a,c⟩
 ·split at h
  ·rename_i e;rw[dd]at h;obtain⟨a,b⟩:=h
   cases b
   simp only[e];exact⟨d.1,d.2,aD.2 ⟨a,c⟩⟩
  ·cases h
 ·rw[dd,cR]at h;obtain⟨a,b⟩:=h
  cases b
  exact aD.2 ⟨a,c⟩
def cF.canon(E:cF)(f:Nat→List J):aS:= .e f fun i=>E.e (E.d (f i))
noncomputable def A.cz{α:Type}(s:A α)(i:Nat)(x:α):A α:=⟨s.n,fun j=>bif Nat.beq j i then x else s.at' j⟩
theorem A.pD{α:Type}(s:A α)(i:Nat)(x:α):(s.cz i x).n=s.n:=rfl
noncomputable def storeT(E:Option cF)(t:bB)(H:Heap)(x v:J):Option (aS×bX):=
 match x with
 | .ptr b o=>c3 (nH v&&decide ((cellsOf v).length=t.size)&&(ks H b o t.size).all vv&& !(ch (I H b 0))) (some (.c5,hL b (cellsOf v) o))
 | .fl b k i o=>match I H b 0 with
   | .ae c a n f=>match E with
     |some E=>c3 (!c&&decide (o+t.size≤a)&&nH (eE v)&&decide ((cellsOf (eE v)).length=t.size)&&(cellsOf (eE v)).all nZ&& !((cellsOf (eE v)).isEmpty))
       (some (.and (.e k n) (.and (.p (i<n)) (.and (E.canon f) (.e (qL (f i) (cellsOf (eE v)) o) (E.e (E.d (qL (f i) (cellsOf (eE v)) o)))))),[(b,0,.ae false a n fun j=>E.e ((A.cz (⟨n,fun i=>E.d (f i)⟩:A E.T) i (E.d (qL (f i) (cellsOf (eE v)) o))).at' j))]))
     |none=>none
   |_=>none
 |_=>none
theorem aB2{E:Option cF}{t:bB}{H:Heap}{x v:J}{o:aS}{ws:bX}{K:bX→Prop}(h:storeT E t H x v=some (o,ws))(l:o.holds)(c:K ws):s3 t H x v K:=by
 unfold storeT at h;unfold s3
 cases x<;>simp only at h ⊢ <;>try (cases h;done)
 ·rw[dd]at h;obtain⟨a,b⟩:=h
  cases b
  exact aD.2 ⟨a,c⟩
 ·split at h
  ·rename_i e
   split at h<;>try (cases h;done)
   rename_i E;rw[dd]at h;obtain⟨a,b⟩:=h
   cases b
   simp only[e];obtain⟨f,g,i,k⟩:=l;refine aD.2 ⟨a,f,g,_,fun j m=> ?_,c⟩;unfold Mj A.cz;simp only
   cases d:Nat.beq j _ with
   |true=>
    have:=dX d;subst this;simp only[aN];exact k
   |false=>
    simp only[aQ];exact congrFun i j
  ·cases h
def Pv(t:bB)(H:Heap)(f:Nat)(x:J):Option h1:=
 match t.d with
 | .struct c=>match c[f]? with
   |some (a,_)=>match x with
    | .ptr b o=>cR (.ptr b (o+a))
    | .ref cs=>cR (.ref (cs.drop a))
    | .fl b k i o=>match I H b 0 with
      | .ae _ _ n _=>some (.e k n,.fl b k i (o+a))
      |_=>none
    |_=>none
   |none=>none
 |_=>none
theorem ao0{t:bB}{H:Heap}{f:Nat}{x:J}{o:aS}{ab:J}{K:J→Prop}(h:Pv t H f x=some (o,ab))(c:o.holds)(a:K ab):rN t H f x K:=by
 unfold Pv at h;unfold rN
 split at h<;>try (cases h;done)
 rename_i g e;simp only[e]
 split at h<;>try (cases h;done)
 rename_i d i b;simp only[b]
 cases x<;>simp only[cR]at h ⊢ <;>try (cases h;done)
 ·cases h;exact a
 ·split at h
  ·rename_i e;cases h;simp only[e];exact⟨c,a⟩
  ·cases h
 ·cases h;exact a
def SR(t:bB)(H:Heap)(x i:J):Option h1:=
 match t.d with
 | .slice _ a _=>match i with
   | .int _ z=>match x with
     | .arr c n f=>c3 (decide (c=a)) (some (.p (0≤z∧z<n),.ref ((f z.toNat).take c)))
     | .own b k=>match I H b 0 with
       | .ae _ c n _=>c3 (decide (c=a)) (some (.and (.e k n) (.p (0≤z∧z<n)),.fl b k z.toNat 0))
       |_=>none
     |_=>none
   |_=>none
 | .array n _ a=>match i with
   | .int _ z=>match x with
     | .ptr b o=>c3 (decide (0≤z)&&decide (z<n)) (cR (.ptr b (o+z.toNat*a)))
     | .ref cs=>c3 (decide (0≤z)&&decide (z<n)) (cR (.ref (cs.drop (z.toNat*a))))
     |_=>none
   |_=>none
 |_=>none
def SQ(E:TypeId→Option bB)(t:bB)(x i:J):Option h1:=
 match t.d with
 | .array n e a=>match i with
   | .int _ z=>match x with
     | .agg cs=>match E e with
       |some u=>c3 (decide (0≤z)&&decide (z<n)&&decide (u.size=a)&&decide (z.toNat*a+a≤cs.length)) (cR (oR u.d.isAgg ((cs.drop (z.toNat*a)).take a)))
       |none=>none
     |_=>none
   |_=>none
 |_=>none
theorem at0{E:TypeId→Option bB}{t:bB}{x i:J}{o:aS}{ab:J}{K:J→Prop}(h:SQ E t x i=some (o,ab))(f:K ab):uG E t x i K:=by
 unfold SQ at h;unfold uG
 split at h<;>try (cases h;done)
 rename_i n e g a;simp only[a]
 cases i<;>simp only at h ⊢ <;>try (cases h;done)
 cases x<;>simp only at h ⊢ <;>try (cases h;done)
 split at h<;>try (cases h;done)
 rename_i u b;simp only[b];rw[dd,cR]at h;obtain⟨c,d⟩:=h
 cases d
 exact aD.2 ⟨c,f⟩
theorem aua{t:bB}{H:Heap}{x i:J}{o:aS}{ab:J}{K:J→Prop}(h:SR t H x i=some (o,ab))(d:o.holds)(c:K ab):sx t H x i K:=by
 unfold SR at h;unfold sx
 split at h<;>try (cases h;done)
 case h_2 n f g e=>
  simp only[e]
  cases i<;>simp only at h ⊢ <;>try (cases h;done)
  cases x<;>simp only at h ⊢ <;>try (cases h;done)
  all_goals
   rw[dd,cR]at h;obtain⟨a,b⟩:=h
   cases b
   exact aD.2 ⟨a,c⟩
 rename_i f g j e;simp only[e]
 cases i<;>simp only at h ⊢ <;>try (cases h;done)
 cases x<;>simp only at h ⊢ <;>try (cases h;done)
 ·rw[dd]at h;obtain⟨a,b⟩:=h
  cases b
  exact aD.2 ⟨a,d,c⟩
 ·split at h
  ·rename_i e;rw[dd]at h;obtain⟨a,b⟩:=h
   cases b
   simp only[e];exact aD.2 ⟨a,d.1,d.2,c⟩
  ·cases h
def SU(c:BinOp)(k:IntKind)(a b:Int):Option h1:=
 match c with
 | .add=>cR (.int k (k.wrap (a+b)))
 | .sub=>cR (.int k (k.wrap (a-b)))
 | .mul=>cR (.int k (k.wrap (a*b)))
 | .eql=>cR (.bool (a==b))
 | .neq=>cR (.bool (a !=b))
 | .lss=>cR (.bool (decide (a<b)))
 | .leq=>cR (.bool (decide (a≤b)))
 | .gtr=>cR (.bool (decide (a>b)))
 | .geq=>cR (.bool (decide (a≥b)))
 | .quo=>some (.p (b≠0),.int k (k.wrap (a.tdiv b)))
 | .rem=>some (.p (b≠0),.int k (a.tmod b))
 | .and=>cR (.int k (bits .and k a b))
 | .or=>cR (.int k (bits .or k a b))
 |_=>none
theorem auj{c:BinOp}{k:IntKind}{a b:Int}{o:aS}{ab:J}{K:J→Prop}(h:SU c k a b=some (o,ab))(e:o.holds)(d:K ab):uJ c k a b K:=by
 unfold SU at h;unfold uJ
 cases c<;>simp only[cR]at h ⊢ <;>first|(cases h;done)|(cases h;exact d)|(cases h;exact⟨e,d⟩)
def U2(c:BinOp)(k:IntKind)(a b:Int):Option h1:=
 match c with
 | .shl=>some (.p (0≤b∧b≤k.bits),.int k (k.wrap (a*2^b.toNat)))
 | .shr=>some (.p (0≤b∧b≤k.bits),.int k (a/2^b.toNat))
 |_=>none
theorem aBG{c:BinOp}{k:IntKind}{a b:Int}{o:aS}{ab:J}{K:J→Prop}(h:U2 c k a b=some (o,ab))(e:o.holds)(d:K ab):Mb c k a b K:=by
 unfold U2 at h;unfold Mb
 cases c<;>simp only at h ⊢ <;>first|(cases h;done)|(cases h;exact⟨e,d⟩)
def OE(t:bB)(c:BinOp)(x y:J):Option h1:=
 match x with
 | .int k a=>match y with
   | .int e b=>match KR c with
     |true=>U2 c k a b
     |false=>c3 (decide (k=e)) (SU c k a b)
   |_=>none
 | .bool a=>match y with
   | .bool b=>match t.d with
     | .bool=>match c with
       | .eql=>cR (.bool (a==b))
       | .neq=>cR (.bool (!(a==b)))
       |_=>none
     |_=>none
   |_=>none
 | .str a=>match y with
   | .str b=>match c with
     | .eql=>cR (.bool (a.toList==b.toList))
     | .neq=>cR (.bool (!(a.toList==b.toList)))
     | .leq=>cR (.bool (Op.bytesLess a.toList b.toList||a.toList==b.toList))
     | .gtr=>cR (.bool (!(Op.bytesLess a.toList b.toList||a.toList==b.toList)))
     | .lss=>cR (.bool (Op.bytesLess a.toList b.toList))
     | .geq=>cR (.bool (!Op.bytesLess a.toList b.toList))
     | .add=>some (.p (a.size+b.size≤dm),.str (a++b))
     |_=>none
   |_=>none
 | .agg cs=>match y with
   | .agg d=>c3 (t.cmp&&hy t.zero cs&&hy t.zero d) (match c with
     | .eql=>cR (.bool (jh cs d))
     | .neq=>cR (.bool (!(jh cs d)))
     |_=>none)
   |_=>none
 |_=>none
theorem amZ{t:bB}{b:BinOp}{x y:J}{o:aS}{ab:J}{K:J→Prop}(h:OE t b x y=some (o,ab))(d:o.holds)(a:K ab):oT t b x y K:=by
 unfold OE at h
 cases x<;>simp only at h<;>try (cases h;done)
 ·cases y<;>simp only at h<;>try (cases h;done)
  simp only[oT]
  split at h
  ·rename_i e;simp only[e];exact aBG h d a
  ·rename_i e;simp only[e];rw[dd]at h;exact aD.2 ⟨h.1,auj h.2 d a⟩
 ·cases y<;>simp only at h<;>try (cases h;done)
  split at h<;>try (cases h;done)
  rename_i e;simp only[oT,e]
  cases b<;>simp only[cR]at h ⊢ <;>first|(cases h;done)|(cases h;exact a)
 ·cases y<;>simp only at h<;>try (cases h;done)
  simp only[oT]
  cases b<;>simp only[cR]at h ⊢ <;>first|(cases h;done)|(cases h;exact a)|(cases h;exact⟨d,a⟩)
 ·cases y<;>simp only at h<;>try (cases h;done)
  simp only[oT];rw[dd]at h;refine aD.2 ⟨h.1,?_⟩;have c:=h.2
  cases b<;>simp only[cR]at c ⊢ <;>first|(cases c;done)|(cases c;exact a)
def Vo(a:UnOp)(x:J):Option h1:=
 match a with
 | .not=>match x with
   | .bool b=>cR (.bool (!b))
   | .lit b=>cR (.lit (!b))
   |_=>none
 | .neg=>match x with
   | .int k n=>cR (.int k (k.wrap (0-n)))
   |_=>none
 |_=>none
theorem aC3{a:UnOp}{x:J}{o:aS}{ab:J}{K:J→Prop}(h:Vo a x=some (o,ab))(b:K ab):yy a x K:=by
 unfold Vo at h
 cases a<;>simp only at h<;>try (cases h;done)
 all_goals
  cases x<;>simp only[cR]at h<;>first|(cases h;done)|(cases h;exact b)
def GV(c:List (Nat×Nat))(a:List J):List (Nat×Operand)→List J→Option (List J)
 |[],cs=>some cs
 |(i,x)::r,cs=>match c[i]? with
  |some (b,d)=>c3 (nH (aC a x)&&decide ((cellsOf (aC a x)).length=d)&&decide (b+d≤cs.length)) (GV c a r (qL cs (cellsOf (aC a x)) b))
  |none=>none
theorem Xj{c:List (Nat×Nat)}{f:List J}{K:List J→Prop} : ∀{d:List (Nat×Operand)} {cs a:List J},GV c f d cs=some a→K a→mV c f d cs K
 |[],cs,a,h,b=>by cases h;exact b
 |(i,x)::r,cs,a,h,b=>by
  simp only[GV]at h;simp only[mV]
  split at h
  ·rename_i g j e;rw[dd]at h;simp only[e];exact aD.2 ⟨h.1,Xj h.2 b⟩
  ·cases h
def To(H:Heap)(x:J):Option h1:=
 match x with
 | .arr _ n _=>cR (.int .i64 n)
 | .aE=>cR (.int .i64 0)
 | .str s=>cR (.int .i64 s.size)
 | .own b k=>match I H b 0 with
   | .ae _ _ n _=>some (.e k n,.int .i64 n)
   |_=>none
 |_=>none
theorem axO{H:Heap}{x:J}{o:aS}{ab:J}{K:J→Prop}(h:To H x=some (o,ab))(b:o.holds)(a:K ab):pk H x K:=by
 unfold To at h;unfold pk
 cases x<;>simp only[cR]at h ⊢ <;>try (cases h;done)
 ·cases h;exact a
 ·cases h;exact a
 ·cases h;exact a
 ·split at h
  ·rename_i e;cases h;simp only[e];exact⟨b,a⟩
  ·cases h
def Hu(H:Heap)(x:J):Option h1:=
 match x with
 | .own b k=>match I H b 0 with
   | .ae _ a n f=>some (.e k n,.arr a n f)
   |_=>none
 | .lit b=>cR (.bool b)
 |ab=>c3 (nZ ab) (cR ab)
theorem Y8{H:Heap}{x:J}{o:aS}{ab:J}{K:J→Prop}(h:Hu H x=some (o,ab))(d:o.holds)(a:K ab):iv H x K:=by
 unfold Hu at h;unfold iv
 cases x<;>simp only[cR,dd]at h ⊢ <;>first|(obtain⟨b,c⟩:=h;cases c;exact aD.2 ⟨b,a⟩)|(cases h;exact a)|skip
 split at h
 ·rename_i e;cases h;simp only[e];exact⟨d,a⟩
 ·cases h
def CL(H:Heap):List J→Option (aS×List J)
 |[]=>some (.c5,[])
 |x::r=>match Hu H x with
  |some q=>match CL H r with
   |some a=>some (.and q.1 a.1,q.2::a.2)
   |none=>none
  |none=>none
theorem PI{H:Heap} : ∀{d:List J} {o:aS} {cu:List J} {K:List J→Prop},CL H d=some (o,cu)→o.holds→K cu→lH H d K
 |[],o,cu,K,h,_,a=>by cases h;exact a
 |x::r,o,cu,K,h,b,a=>by
  simp only[CL]at h
  split at h<;>try (cases h;done)
  rename_i q e
  split at h<;>try (cases h;done)
  rename_i c f
  cases h
  exact Y8 (o:=q.1) (ab:=q.2) e b.1 (PI (o:=c.1) (cu:=c.2) f b.2 a)
def vT(H:Heap)(x:J):Option h1:=
 match x with
 | .agg cs=>match CL H cs with
   |some q=>some (q.1,.agg q.2)
   |none=>none
 |ab=>Hu H ab
theorem PJ{H:Heap}{x:J}{o:aS}{ab:J}{K:J→Prop}(h:vT H x=some (o,ab))(b:o.holds)(a:K ab):ku H x K:=by
 unfold vT at h;unfold ku
 cases x<;>simp only at h ⊢ <;>first|exact Y8 h b a|skip
 split at h<;>try (cases h;done)
 rename_i q e
 cases h
 exact PI (o:=q.1) (cu:=q.2) e b a
def rQ(H:Heap):List J→Option (aS×List J)
 |[]=>some (.c5,[])
 |x::r=>match vT H x with
  |some q=>match rQ H r with
   |some a=>some (.and q.1 a.1,q.2::a.2)
   |none=>none
  |none=>none
theorem PL{H:Heap} : ∀{d:List J} {o:aS} {cu:List J} {K:List J→Prop},rQ H d=some (o,cu)→o.holds→K cu→mh H d K
 |[],o,cu,K,h,_,a=>by cases h;exact a
 |x::r,o,cu,K,h,b,a=>by
  simp only[rQ]at h
  split at h<;>try (cases h;done)
  rename_i q e
  split at h<;>try (cases h;done)
  rename_i c f
  cases h
  exact PJ (o:=q.1) (ab:=q.2) e b.1 (PL (o:=c.1) (cu:=c.2) f b.2 a)
def UK(aA:Nat)(o:aS)(r:J)(a:bX):rq:=
 match r with
 | .ae _ b n f=>(o,.own aA n,a++[(aA,0,.ae false b n f)])
 |r=>(o,r,a)
def OL(X:cb)(H:Heap)(aA:Nat)(f:FuncId)(a:List J):Option rq:=
 match rQ H (a.map eE)with
 |some q=>match X.spec f q.2 with
  |some s=>some (UK aA (.and q.1 s.1) s.2 (nF H s.2 (a.map eE)))
  |none=>none
 |none=>none
theorem ang{X:cb}{H:Heap}{aA:Nat}{f:FuncId}{c:List J}{o:aS}{ab:J}{g:bX}{K:J→bX→Prop}(h:OL X H aA f c=some (o,ab,g))(j:o.holds)(b:K ab g):tr X.env H aA f c K:=by
 unfold OL at h
 split at h<;>try (cases h;done)
 rename_i q e
 split at h<;>try (cases h;done)
 rename_i s i;have d:q.1.holds∧s.1.holds:=by
  simp only[hd]at h;unfold UK at h
  split at h<;>(cases h;exact j)
 refine PL (o:=q.1) (cu:=q.2) e d.1 ?_;have bl:X.env.spec f q.2=some (some s.1.holds,s.2):=by simp only[cb.env,i]
 simp only[bl,nC];refine⟨d.2,?_⟩;simp only[hd]at h;unfold UK at h;unfold sU
 split at h
 ·rename_i a
  cases h
  rw[a]at b ⊢;exact b
 ·rename_i a
  cases h
  split
  ·rename_i cQ;exact absurd cQ (a _ _ _ _)
  ·exact b
def Ps(i:Nat)(x:J):Option h1:=
 match x with
 | .c9 a=>c3 (decide (i<a.length)) (cR (a.getD i .undef))
 |_=>none
theorem aoL{i:Nat}{x:J}{o:aS}{ab:J}{K:J→Prop}(h:Ps i x=some (o,ab))(c:K ab):zj i x K:=by
 unfold Ps at h;unfold zj
 cases x<;>simp only[dd,cR]at h ⊢ <;>try (cases h;done)
 obtain⟨a,b⟩:=h
 cases b
 exact aD.2 ⟨a,c⟩
def U9(E:cF)(H:Heap)(a:Bool)(c:Nat)(y:J):Option (aS×Nat×(Nat→List J)):=
 match y with
 | .aE=>c3 (!a) (some (.c5,0,fun _=>E.e (E.d [])))
 | .arr d n f=>c3 (!a&&decide (d=c)) (some (.c5,n,f))
 | .str s=>c3 (a&&decide (c=1)) (some (.c5,s.size,vr s))
 | .own b k=>match I H b 0 with
   | .ae _ d n f=>c3 (!a&&decide (d=c)) (some (.e k n,n,f))
   |_=>none
 |_=>none
theorem U_{E:cF}{H:Heap}{j:Bool}{f:Nat}{y:J}{o:aS}{n:Nat}{g:Nat→List J}{K:Nat→(Nat→List J)→Prop}(h:U9 E H j f y=some (o,n,g))(l:o.holds)(c: ∀d,(∀i,i<n→d i=g i)→(y= .aE∨d=g)→K n d):mM H j f y K:=by
 unfold U9 at h;unfold mM
 cases y<;>simp only[dd]at h ⊢ <;>try (cases h;done)
 ·obtain⟨a,b⟩:=h;cases b;exact aD.2 ⟨a,c _ (fun _ _=>rfl) (.inr rfl)⟩
 ·obtain⟨a,b⟩:=h;cases b;exact aD.2 ⟨a,c _ (fun i k=>absurd k (eH _)) (.inl rfl)⟩
 ·obtain⟨a,b⟩:=h;cases b;exact aD.2 ⟨a,c _ (fun _ _=>rfl) (.inr rfl)⟩
 ·split at h
  ·rename_i e;rw[dd]at h;obtain⟨a,b⟩:=h;cases b;simp only[e];exact aD.2 ⟨a,l,c _ (fun _ _=>rfl) (.inr rfl)⟩
  ·cases h
def cF.af(E:cF)(n:Nat)(f:Nat→List J):A E.T:=⟨n,fun i=>E.d (f i)⟩
def notNil:J→Bool
 | .aE=>false
 |_=>true
noncomputable def Oz(h:TypeId→Option cF)(t:bB)(l:Bool)(H:Heap)(aA:Nat)(x y:J):Option rq:=
 match t.d with
 | .slice e a d=>match h e with
   |some E=>c3 (Nat.ble d 256&&Nat.blt 0 a) (match U9 E H l a y with
    |some (o,m,g)=>match x with
     | .aE=>c3 (notNil y) (some (.and o (.and (E.canon g) (.p (m≤dm))),.own aA m,[(aA,0,.ae false a m fun i=>E.e ((E.af m g).at' i))]))
     | .own b k=>match I H b 0 with
       | .ae j c n f=>c3 (!j&&decide (c=a)) (some (.and o (.and (.e k n) (.and (E.canon f) (.and (E.canon g) (.p (n+m≤dm))))),.own b (n+m),[(b,0,.ae false a (n+m) fun i=>E.e (((E.af n f).app (E.af m g)).at' i))]))
       |_=>none
     | .jV c n f=>c3 (decide (c=a)) (some (.and o (.and (E.canon f) (.and (E.canon g) (.p (0<m∧n+m≤dm)))),.own aA (n+m),[(aA,0,.ae false a (n+m) fun i=>E.e (((E.af n f).app (E.af m g)).at' i))]))
     |_=>none
    |none=>none)
   |none=>none
 |_=>none
theorem amP{D:TypeId→Option cF}{t:bB}{z:Bool}{H:Heap}{aA:Nat}{x y:J}{o:aS}{ab:J}{A:bX}{K:J→bX→Prop}(h:Oz D t z H aA x y=some (o,ab,A))(c:o.holds)(u:K ab A):nR t z H aA x y K:=by
 unfold Oz at h
 split at h<;>try (cases h;done)
 rename_i e M L C;simp only[nR,C]
 split at h<;>try (cases h;done)
 rename_i E I;rw[dd]at h;refine aD.2 ⟨h.1,?_⟩;have a:=h.2;clear h
 split at a<;>try (cases a;done)
 rename_i N m g p
 cases x<;>simp only at a<;>try (cases a;done)
 ·rw[dd]at a;obtain⟨w,a⟩:=a
  cases a
  refine U_ p c.1 fun q l F=>⟨c.2.2,?_⟩;have d:q=g:=F.resolve_left fun e=>by rw[e]at w;cases w
  have j:g=fun i=>E.e (E.d (g i)):=c.2.1;rw[d,j];exact u
 ·split at a<;>try (cases a;done)
  rename_i b k O G n f B;rw[dd]at a;obtain⟨r,a⟩:=a
  cases a
  refine U_ p c.1 fun q l _=> ?_;simp only[B];refine aD.2 ⟨r,c.2.1,c.2.2.2.2,_,?_,u⟩;have d:f=fun i=>E.e (E.d (f i)):=c.2.2.1;have j:g=fun i=>E.e (E.d (g i)):=c.2.2.2.1;exact WL (e:=E.e) (s:=E.af n f) (t:=E.af m g) rfl rfl (fun i _=>congrFun d i) fun i v=>(l i v).trans (congrFun j i)
 ·rename_i G n f;rw[dd]at a;obtain⟨r,a⟩:=a
  cases a
  refine U_ p c.1 fun q l _=> ?_;refine aD.2 ⟨r,c.2.2.2.1,c.2.2.2.2,_,?_,u⟩;have d:f=fun i=>E.e (E.d (f i)):=c.2.1;have j:g=fun i=>E.e (E.d (g i)):=c.2.2.1;exact WL (e:=E.e) (s:=E.af n f) (t:=E.af m g) rfl rfl (fun i _=>congrFun d i) fun i v=>(l i v).trans (congrFun j i)
def zp(H:Heap):List (List J)→Option (aS×List (List J))
 |[]=>some (.c5,[])
 |x::r=>match CL H x with
  |some q=>match zp H r with
   |some a=>some (.and q.1 a.1,q.2::a.2)
   |none=>none
  |none=>none
theorem Y5{H:Heap} : ∀{d:List (List J)} {o:aS} {cu:List (List J)} {K:List (List J)→Prop},zp H d=some (o,cu)→o.holds→K cu→m1 H d K
 |[],o,cu,K,h,_,a=>by cases h;exact a
 |x::r,o,cu,K,h,b,a=>by
  simp only[zp]at h
  split at h<;>try (cases h;done)
  rename_i q e
  split at h<;>try (cases h;done)
  rename_i c f
  cases h
  exact PI (o:=q.1) (cu:=q.2) e b.1 (Y5 (o:=c.1) (cu:=c.2) f b.2 a)
theorem Y4{H:Heap} : ∀{b:List (List J)} {o:aS} {a:List (List J)},zp H b=some (o,a)→a.length=b.length
 |[],o,a,h=>by cases h;rfl
 |x::r,o,a,h=>by
  simp only[zp]at h
  split at h<;>try (cases h;done)
  split at h<;>try (cases h;done)
  rename_i d c
  cases h
  simp [Y4 c]
noncomputable def OI(c:TypeId→Option cF)(t:bB)(f:List J)(H:Heap)(aA b:Nat)(d:List (Nat×Operand)):Option rq:=
 match t.d with
 | .slice e a _=>match c e with
   |some E=>match kM a f d 0 with
    |some l=>match zp H l with
     |some q=>c3 (Nat.beq l.length b&&Nat.ble b 4096&&Nat.ble a 4096&&Nat.blt 0 a)
      (some (.and q.1 (.e (q.2.map fun x=>rK x (E.e (E.d x))) (q.2.map fun x=>E.e (E.d x))),.own aA b,ev H l.flatten++[(aA,0,.ae false a b fun i=>E.e ((have:=E.uI;A.lit (q.2.map E.d)).at' i))]))
     |none=>none
    |none=>none
   |none=>none
 |_=>none
theorem am8{r:TypeId→Option cF}{t:bB}{m:List J}{H:Heap}{aA j:Nat}{k:List (Nat×Operand)}{o:aS}{ab:J}{n:bX}{K:J→bX→Prop}(h:OI r t m H aA j k=some (o,ab,n))(b:o.holds)(u:K ab n):pW t m H aA j k K:=by
 unfold OI at h
 split at h<;>try (cases h;done)
 rename_i e z y p;simp only[pW,p]
 split at h<;>try (cases h;done)
 rename_i E w
 split at h<;>try (cases h;done)
 rename_i l s;simp only[s]
 split at h<;>try (cases h;done)
 rename_i q f;obtain⟨D,a⟩:=q;rw[dd]at h;obtain⟨c,h⟩:=h
 cases h
 refine aD.2 ⟨c,Y5 f b.1 ⟨_,?_,u⟩⟩;intro i A;simp only[bY]at c;have B:=dX c.1.1.1;have C:a.length=l.length:=Y4 f;have b:(a.map fun x=>rK x (E.e (E.d x)))=a.map fun x=>E.e (E.d x):=b.2;have v:i<(a.map E.d).length:=by rw[List.length_map];omega
 have:= @axV E.T E.uI E.e (a.map E.d) i v;rw[List.map_map]at this;rw[←this];have g:i<a.length:=by omega
 have d:=congrArg (fun q:List (List J)=>q.getD i []) b;simp only[List.getD,fq,cT g,rb,ly]at d;simp only[List.getD,fq,cT g,rb,ly,Function.comp];exact G4 d
def Tu(X:cb)(t:bB)(d:List J)(aA:Nat)(l c:Operand):Option rq:=
 match t.d with
 | .slice e a f=>match X.ty e with
   |some b=>match aC d l with
    | .int _ z=>match aC d c with
      | .int _ g=>c3 (b.zero.all LN&&Nat.beq b.zero.length a&&Nat.ble a 4096&&Nat.ble f 4096&&Nat.blt 0 a) (some (.and (.e z g) (.p (0≤z∧z≤4096)),.own aA z.toNat,[(aA,0,.ae false a z.toNat fun _=>b.zero)]))
      |_=>none
    |_=>none
   |none=>none
 |_=>none
theorem ayd{X:cb}{t:bB}{b:List J}{aA:Nat}{l c:Operand}{o:aS}{ab:J}{d:bX}{K:J→bX→Prop}(h:Tu X t b aA l c=some (o,ab,d))(a:o.holds)(n:K ab d):qO X.env t b aA l c K:=by
 unfold Tu at h
 split at h<;>try (cases h;done)
 rename_i e q p f;simp only[qO,f]
 split at h<;>try (cases h;done)
 rename_i aX g;have i:X.env.ty e=some aX:=g;simp only[i]
 split at h<;>try (cases h;done)
 rename_i r z j
 split at h<;>try (cases h;done)
 rename_i s u k;simp only[j,k];rw[dd]at h;obtain⟨m,h⟩:=h
 cases h
 exact aD.2 ⟨m,⟨a.1,a.2⟩,n⟩
def vo(a:List J)(d:Int)(o:Option Operand):Option Int:=
 match o with
 |none=>some d
 |some x=>match aC a x with
  | .int _ z=>some z
  |_=>none
theorem Ca{b:List J}{d z:Int}{o:Option Operand}{K:Int→Prop}(h:vo b d o=some z)(a:K z):cL b d o K:=by
 unfold vo at h;unfold cL
 split at h
 ·cases h;exact a
 ·rename_i x;simp only
  split at h
  ·rename_i e;cases h;simp only[e];exact a
  ·cases h
def B8(a:List J)(n:Int)(l h m:Option Operand):Option (Int×Int×Int):=
 match vo a 0 l with
 |some c=>match vo a n h with
  |some b=>match vo a b m with
   |some d=>some (c,b,d)
   |none=>none
  |none=>none
 |none=>none
theorem OF{c:List J}{n b a et:Int}{l h m:Option Operand}{K:Int→Int→Int→Prop}(e:B8 c n l h m=some (b,a,et))(g:K b a et):cL c 0 l fun b=>cL c n h fun a=>cL c a m fun et=>K b a et:=by
 unfold B8 at e
 split at e<;>try (cases e;done)
 rename_i j d
 split at e<;>try (cases e;done)
 rename_i i f
 split at e<;>try (cases e;done)
 rename_i k bl
 cases e
 exact Ca d (Ca f (Ca bl g))
def OM(c:Bool)(p q:Prop):aS:=
 match c with
 |true=> .p (p∧q)
 |false=> .p q
theorem Xo{c:Bool}{p q:Prop}(h:(OM c p q).holds):q∧(c=true→p):=by
 cases c with
 |true=>exact⟨h.2,fun _=>h.1⟩
 |false=>exact⟨h,fun e=>by cases e⟩
def U5(t:bB)(H:Heap)(g:List J)(x:J)(l h m:Option Operand):Option rq:=
 c3 (h.isSome|| !(m.isSome)) (match t.d with
 | .slice _ j _=>match x with
   | .arr d n f=>c3 (decide (d=j)) (match B8 g n l h m with
     |some (c,a,e)=>some (OM (kr m d) (a=e) (0≤c∧c≤a∧a≤e∧e≤n),sR (kr m d) d (a-c).toNat fun i=>f (c.toNat+i),[])
     |none=>none)
   | .aE=>match B8 g 0 l h m with
     |some (c,a,e)=>some (.p (c=0∧a=0∧e=0),.aE,[])
     |none=>none
   | .own b k=>match I H b 0 with
     | .ae o d n f=>c3 (decide (d=j)) (match B8 g n l h m with
       |some (c,a,e)=>some (.and (.e k n) (OM (kr m d) (a=e) (0≤c∧c≤a∧a≤e∧e≤n)),sR (kr m d) d (a-c).toNat (fun i=>f (c.toNat+i)),[(b,0,.ae true d n f)])
       |none=>none)
     |_=>none
   |_=>none
 | .string=>match x with
   | .str s=>match m with
     |none=>match vo g 0 l with
      |some c=>match vo g s.size h with
       |some a=>some (.p (0≤c∧c≤a∧a≤s.size),.str (s.extract c.toNat a.toNat),[])
       |none=>none
      |none=>none
     |some _=>none
   |_=>none
 |_=>none)
theorem aBN{t:bB}{H:Heap}{p:List J}{x:J}{l aZ m:Option Operand}{o:aS}{ab:J}{q:bX}{K:J→bX→Prop}(h:U5 t H p x l aZ m=some (o,ab,q))(b:o.holds)(c:K ab q):q3 t H p x l aZ m K:=by
 unfold U5 at h;rw[dd]at h;refine aD.2 ⟨h.1,?_⟩;have a:=h.2;clear h
 split at a<;>try (cases a;done)
 ·rename_i e w v d;simp only[d]
  cases x<;>simp only at a ⊢ <;>try (cases a;done)
  ·split at a<;>try (cases a;done)
   rename_i j i k bl
   cases a
   exact OF bl ⟨b,c⟩
  ·rw[dd]at a;obtain⟨g,a⟩:=a;refine aD.2 ⟨g,?_⟩
   split at a<;>try (cases a;done)
   rename_i j i k bl
   cases a
   exact OF bl ⟨Xo b,c⟩
  ·split at a<;>try (cases a;done)
   rename_i y z n f u;simp only[u];rw[dd]at a;obtain⟨g,a⟩:=a;refine aD.2 ⟨g,?_⟩
   split at a<;>try (cases a;done)
   rename_i j i k bl
   cases a
   exact⟨b.1,OF bl ⟨Xo b.2,c⟩⟩
 ·rename_i d;simp only[d]
  cases x<;>simp only at a ⊢ <;>try (cases a;done)
  split at a<;>try (cases a;done)
  simp only
  split at a<;>try (cases a;done)
  rename_i j r
  split at a<;>try (cases a;done)
  rename_i i s
  cases a
  exact Ca r (Ca s ⟨b,c⟩)
def WG(f:Nat→List J):aS:= .e (fun i=>E6 ((f i).getD 0 .undef)) fun _=>true
def OX(t u:bB)(a:Option bB)(H:Heap)(x:J):Option h1:=
 match x with
 | .int _ z=>match u.d with
   | .int k=>match t.d with
     | .int _=>cR (.int k (k.wrap z))
     |_=>none
   |_=>none
 | .str s=>match t.d with
   | .string=>match u.d with
     | .string=>cR (.str s)
     | .slice .. =>c3 (nS u a) (cR (.arr 1 s.size (vr s)))
     |_=>none
   |_=>none
 | .arr c n f=>c3 (u.d.isStr&&nS t a&&Nat.beq c 1) (some (WG f,.str (bytesOf n f)))
 | .aE=>c3 (u.d.isStr&&nS t a) (cR (.str ⟨#[]⟩))
 | .own b d=>match I H b 0 with
   | .ae _ c n f=>c3 (u.d.isStr&&nS t a&&Nat.beq c 1) (some (.and (.e d n) (WG f),.str (bytesOf n f)))
   |_=>none
 |_=>none
theorem anI{t u:bB}{g:Option bB}{H:Heap}{x:J}{o:aS}{ab:J}{K:J→Prop}(h:OX t u g H x=some (o,ab))(f:o.holds)(b:K ab):rI t u g H x K:=by
 unfold OX at h;unfold rI
 cases x<;>simp only[cR,dd]at h ⊢ <;>try (cases h;done)
 ·split at h<;>try (cases h;done)
  rename_i d
  split at h<;>try (cases h;done)
  rename_i c
  cases h
  simp only[d,c];exact b
 ·split at h<;>try (cases h;done)
  rename_i d
  split at h<;>try (cases h;done)
  ·rename_i c
   cases h
   simp only[d,c];exact b
  ·rename_i c;rw[dd]at h;obtain⟨a,h⟩:=h
   cases h
   simp only[d,c];exact aD.2 ⟨a,b⟩
 ·obtain⟨a,h⟩:=h
  cases h
  exact aD.2 ⟨a,b⟩
 ·obtain⟨a,h⟩:=h
  cases h
  exact aD.2 ⟨a,fun i _=>congrFun f i,b⟩
 ·split at h<;>try (cases h;done)
  rename_i e;rw[dd]at h;obtain⟨a,h⟩:=h
  cases h
  simp only[e];exact aD.2 ⟨a,f.1,fun i _=>congrFun f.2 i,b⟩
def Ty(x y:J):Option h1:=
 match x with
 | .int k a=>match y with
   | .int c b=>c3 (decide (k=c)) (cR (.int k (eU a b)))
   |_=>none
 |_=>none
theorem ayo{x y:J}{o:aS}{ab:J}{K:J→Prop}(h:Ty x y=some (o,ab))(b:K ab):x3 x y K:=by
 unfold Ty at h
 cases x<;>simp only at h<;>try (cases h;done)
 cases y<;>simp only[dd,cR]at h<;>try (cases h;done)
 obtain⟨a,h⟩:=h
 cases h
 exact aD.2 ⟨a,b⟩
def Tw(x y:J):Option h1:=
 match x with
 | .int k a=>match y with
   | .int c b=>c3 (decide (k=c)) (cR (.int k (imax a b)))
   |_=>none
 |_=>none
theorem ayj{x y:J}{o:aS}{ab:J}{K:J→Prop}(h:Tw x y=some (o,ab))(b:K ab):x2 x y K:=by
 unfold Tw at h
 cases x<;>simp only at h<;>try (cases h;done)
 cases y<;>simp only[dd,cR]at h<;>try (cases h;done)
 obtain⟨a,h⟩:=h
 cases h
 exact aD.2 ⟨a,b⟩
def TI(H:Heap)(x:J):Option h1:=
 match x with
 | .ptr .. =>cR x
 | .ref _=>cR x
 | .fl b k _ _=>match I H b 0 with
   | .ae _ _ n _=>some (.e k n,x)
   |_=>none
 |_=>none
theorem ay2{H:Heap}{x:J}{o:aS}{ab:J}{K:J→Prop}(h:TI H x=some (o,ab))(b:o.holds)(a:K ab):sN H x K:=by
 unfold TI at h;unfold sN
 cases x<;>simp only[cR]at h ⊢ <;>try (cases h;done)
 ·cases h;exact a
 ·split at h
  ·rename_i e;cases h;simp only[e];exact⟨b,a⟩
  ·cases h
 ·cases h;exact a
def RV(X:cb)(H:Heap)(aA:Nat)(f:FuncId)(aa:List J):Option rq:=
 c3 (nodup (dS H aa)&&(dS H aa).all (fun b=>x0 (H.getD b [])&&(H.getD b []).all (mZ (mem (dS H aa))))&&aa.all (vG (mem (dS H aa))))
  (match X.nr f (aa.map (kP (pos (dS H aa)))) ((dS H aa).map fun b=>(H.getD b []).map (ff (pos (dS H aa))))with
  |some q=>c3 (!(q.2.2.isEmpty)&&pz (dS H aa) H q.2.2&&q.2.2.all (fun l=>l.all (mZ (pn q.2.2.length)))&&q.2.1.all (fun r=>vG (pn q.2.2.length) r&&nH r))
    (some (q.1,Mg (q.2.1.map (kP (sZ (dS H aa) aA))),rF (sZ (dS H aa) aA) 0 q.2.2))
  |none=>none)
theorem asv{X:cb}{H:Heap}{aA:Nat}{f:FuncId}{aa:List J}{o:aS}{ab:J}{c:bX}{K:J→bX→Prop}(h:RV X H aA f aa=some (o,ab,c))(j:o.holds)(i:K ab c):np X.env H aA f aa K:=by
 unfold RV at h;rw[dd]at h;refine aD.2 ⟨h.1,?_⟩;have a:=h.2;clear h
 split at a<;>try (cases a;done)
 rename_i q e;have d:X.env.nr f (aa.map (kP (pos (dS H aa)))) ((dS H aa).map fun b=>(H.getD b []).map (ff (pos (dS H aa))))=some (some q.1.holds,q.2):=by simp only[cb.env,e]
 rw[dd]at a;obtain⟨g,a⟩:=a
 cases a
 obtain⟨q1,k,l⟩:=q;rw[d];exact⟨j,aD.2 ⟨g,i⟩⟩
def iV{α:Type _}(X:cb)(T:TypeId)(K:bB→Option α):Option α:=
 match X.ty T with
 |some t=>K t
 |none=>none
theorem jM{α:Type _}{X:cb}{T:TypeId}{K:bB→Option α}{a:α}(h:iV X T K=some a): ∃t,X.env.ty T=some t∧K t=some a:=by
 unfold iV at h
 split at h
 ·rename_i t e;exact⟨t,e,h⟩
 ·cases h
theorem jN{E:Env}{T:TypeId}{t:bB}{K:bB→Prop}(h:E.ty T=some t)(a:K t):dz E T K:=by
 unfold dz;rw[h];exact a
noncomputable def LG(X:cb)(aA:Nat)(a:List J)(H:Heap)(d:Op):Option rq:=
 match d with
 | .move x=>some (.c5,aC a x,[])
 | .assign x=>some (.c5,aC a x,[])
 | .pick c x y=>match aC a c with
   | .lit b=>match b with
     |true=>some (.c5,aC a x,[])
     |false=>some (.c5,aC a y,[])
   |_=>none
 | .alloc T=>iV X T fun t=>c3 (!t.zero.isEmpty) (some (.c5,.ptr aA 0,hL aA t.zero 0))
 | .box _ x=>c3 (nH (aC a x)&& !(cellsOf (aC a x)).isEmpty) (some (.c5,.ptr aA 0,hL aA (cellsOf (aC a x)) 0))
 | .build T g=>iV X T fun t=>match t.d with
   | .struct v=>match GV v a g.toList t.zero with
     |some cs=>some (.c5,.agg cs,[])
     |none=>none
   |_=>none
 | .load T x=>iV X T fun t=>val (loadT t H (aC a x))
 | .store T x y=>iV X T fun t=>match storeT (X.aoA H (aC a x)) t H (aC a x) (aC a y)with
   |some q=>some (q.1,.undef,q.2)
   |none=>none
 | .nilCheck x=>val (TI H (aC a x))
 | .binOp d T x y _=>iV X T fun t=>val (OE t d (eE (aC a x)) (eE (aC a y)))
 | .unOp d _ x=>val (Vo d (aC a x))
 | .fieldAddr T x f=>iV X T fun t=>val (Pv t H f (aC a x))
 | .indexAddr T x y=>iV X T fun t=>val (SR t H (aC a x) (aC a y))
 | .index T x y=>iV X T fun t=>val (SQ X.ty t (aC a x) (aC a y))
 | .extract x i=>val (Ps i (aC a x))
 | .buildSlice T s g=>iV X T fun t=>OI X.el t a H aA s g.toList
 | .makeSlice T l c=>iV X T fun t=>Tu X t a aA l c
 | .slice T x l h m=>iV X T fun t=>U5 t H a (aC a x) l h m
 | .convert p o x=>iV X p fun t=>iV X o fun u=>val (OX t u (tw X.env t u) H (aC a x))
 | .makeFunc r first k=>match r with
   | .func f=>c3 (first.toList.isEmpty&&(k.toList.map (aC a)).all Xp) (some (.c5,.fn f (k.toList.map (aC a)),[]))
   |_=>none
 | .call c=>match c.callee with
   | .value x=>match aC a x with
     | .fn f e=>match xB X.eh f (c.args.toList.map (aC a)++e)with
       |true=>RV X H aA f (c.args.toList.map (aC a)++e)
       |false=>c3 (e.all mW) (OL X H aA f (c.args.toList.map (aC a)++e))
     |_=>none
   | .builtin b=>match b with
     | .len=>match c.args.toList with
       |[x]=>match c.argTypes.toList with
        |[T]=>iV X T fun t=>c3 (Fk t (aC a x)) (val (To H (aC a x)))
        |_=>none
       |_=>none
     | .append=>match c.args.toList with
       |[x,y]=>match c.argTypes.toList with
        |[T,n]=>iV X T fun t=>iV X n fun j=>c3 (j.d.isStr||j.d.sz) (Oz X.el t j.d.isStr H aA (aC a x) (aC a y))
        |_=>none
       |_=>none
     | .min=>match c.args.toList with
       |[x,y]=>val (Ty (aC a x) (aC a y))
       |_=>none
     | .max=>match c.args.toList with
       |[x,y]=>val (Tw (aC a x) (aC a y))
       |_=>none
     |_=>none
   |_=>none
 |_=>none
theorem Ba{X:cb}{aA:Nat}{B:List J}{H:Heap}{w:Op}{o:aS}{ab:J}{ws:bX}{K:J→bX→Prop}(h:LG X aA B H w=some (o,ab,ws))(n:o.holds)(k:K ab ws):h2 X.env aA B H w K:=by
 cases w<;>simp only[LG]at h<;>try (cases h;done)
 case move x=>cases h;exact k
 case assign x=>cases h;exact k
 case pick c x y=>
  split at h<;>try (cases h;done)
  rename_i b e;simp only[h2,e]
  cases b<;>(cases h;exact k)
 case alloc T=>
  obtain⟨t,j,a⟩:=jM h;rw[dd]at a;obtain⟨d,a⟩:=a
  cases a
  exact jN j (aD.2 ⟨d,k⟩)
 case box T x=>
  rw[dd]at h;obtain⟨d,a⟩:=h
  cases a
  exact aD.2 ⟨d,k⟩
 case build T G=>
  obtain⟨t,j,a⟩:=jM h;refine jN j ?_
  split at a<;>try (cases a;done)
  rename_i P e;simp only[e]
  split at a<;>try (cases a;done)
  rename_i cs s
  cases a
  exact Xj s k
 case load T x=>
  obtain⟨t,j,a⟩:=jM h;obtain⟨d,rfl⟩:=oD.1 a;exact jN j (K7 (K:=fun ab=>K ab []) d n k)
 case store T x y=>
  obtain⟨t,j,a⟩:=jM h
  split at a<;>try (cases a;done)
  rename_i q e
  cases a
  exact jN j (aB2 (o:=q.1) (ws:=q.2) e n k)
 case nilCheck x=>
  obtain⟨d,rfl⟩:=oD.1 h;exact ay2 (K:=fun ab=>K ab []) d n k
 case binOp w T x y I=>
  obtain⟨t,j,a⟩:=jM h;obtain⟨d,rfl⟩:=oD.1 a;exact jN j (amZ (K:=fun ab=>K ab []) d n k)
 case unOp w T x=>
  obtain⟨d,rfl⟩:=oD.1 h;exact aC3 (K:=fun ab=>K ab []) d k
 case fieldAddr T x f=>
  obtain⟨t,j,a⟩:=jM h;obtain⟨d,rfl⟩:=oD.1 a;exact jN j (ao0 (K:=fun ab=>K ab []) d n k)
 case indexAddr T x y=>
  obtain⟨t,j,a⟩:=jM h;obtain⟨d,rfl⟩:=oD.1 a;exact jN j (aua (K:=fun ab=>K ab []) d n k)
 case index T x y=>
  obtain⟨t,j,a⟩:=jM h;obtain⟨d,rfl⟩:=oD.1 a;exact jN j (at0 (K:=fun ab=>K ab []) d k)
 case extract x i=>
  obtain⟨d,rfl⟩:=oD.1 h;exact aoL (K:=fun ab=>K ab []) d k
 case buildSlice T len G=>
  obtain⟨t,j,a⟩:=jM h;exact jN j (am8 a n k)
 case makeSlice T l c=>
  obtain⟨t,j,a⟩:=jM h;exact jN j (ayd a n k)
 case slice T x l aZ m=>
  obtain⟨t,j,a⟩:=jM h;exact jN j (aBN a n k)
 case convert N M x=>
  obtain⟨t,j,a⟩:=jM h;obtain⟨u,d,v⟩:=jM a;obtain⟨A,rfl⟩:=oD.1 v;exact jN j (jN d (anI (K:=fun ab=>K ab []) A n k))
 case makeFunc F first O=>
  cases F<;>simp only at h<;>try (cases h;done)
  rw[dd]at h;obtain⟨d,a⟩:=h
  cases a
  exact aD.2 ⟨d,k⟩
 case call c=>
  simp only[h2]
  cases z:c.callee with
  |value f=>
   rw[z]at h;simp only at h ⊢;unfold yY
   split at h<;>try (cases h;done)
   rename_i g D hi;simp only[hi];have E:X.env.eh=X.eh:=rfl;rw[E]
   cases C:xB X.eh g (c.args.toList.map (aC B)++D)with
   |true=>rw[C]at h;exact asv h n k
   |false=>
    rw[C]at h;simp only[dd]at h;exact aD.2 ⟨h.1,ang h.2 n k⟩
  |invoke r m=>rw[z]at h;cases h
  |builtin b=>
   rw[z]at h
   cases b<;>simp only at h ⊢ <;>try (cases h;done)
   case append=>
    split at h<;>try (cases h;done)
    rename_i x y p
    split at h<;>try (cases h;done)
    rename_i T L s;obtain⟨t,j,a⟩:=jM h;obtain⟨u,d,v⟩:=jM a;rw[dd]at v;simp only[p,s];exact jN j (jN d (aD.2 ⟨v.1,amP v.2 n k⟩))
   case min=>
    split at h<;>try (cases h;done)
    rename_i x y p;obtain⟨d,rfl⟩:=oD.1 h;simp only[p];exact ayo (K:=fun ab=>K ab []) d k
   case max=>
    split at h<;>try (cases h;done)
    rename_i x y p;obtain⟨d,rfl⟩:=oD.1 h;simp only[p];exact ayj (K:=fun ab=>K ab []) d k
   case len=>
    split at h<;>try (cases h;done)
    rename_i x p
    split at h<;>try (cases h;done)
    rename_i T s;obtain⟨t,j,a⟩:=jM h;rw[dd]at a;obtain⟨A,rfl⟩:=oD.1 a.2;simp only[p,s];exact jN j (aD.2 ⟨a.1,axO A n k⟩)
def Ax(ops:Array Oper)(o:Oper)(a:List J):Option Bool:=
 match o.guard with
 |none=>some true
 |some (j,c)=>match(ops[j]?).bind (·.dst)with
  |some d=>match a.getD d .undef with
   | .lit b=>some (b==c)
   | .gone=>some false
   |_=>none
  |none=>none
def K6(a:Bool)(ab:J):Option Bool:=
 match a with
 |true=>match ab with
  | .bool b=>some b
  |_=>none
 |false=>none
def X0:Op→Bool
 | .panic .. =>true
 | .makeInterface .. =>true
 |_=>false
abbrev pQ:=Option (D×List Rec)
def q0(b:Nat):Nat→bX→List J×bX
 |_,[]=>([],[])
 |o,x::r=>match Nat.beq x.1 b&&Nat.beq x.2.1 o with
  |true=>(x.2.2::(q0 b (o+1) r).1,(q0 b (o+1) r).2)
  |false=>([],x::r)
def EW:Nat→Heap→bX→Heap
 |0,H,a=>bt H a
 |n+1,H,a=>match a with
  |[]=>H
  |x::r=>match x.2.1 with
   |0=>EW n (setAt [] H x.1 (x.2.2::(q0 x.1 1 r).1++(H.getD x.1 []).drop ((q0 x.1 1 r).1.length+1))) (q0 x.1 1 r).2
   |o+1=>EW n (bs H x.1 (o+1) x.2.2) r
def xu(H:Heap)(a:bX):Heap:=EW a.length H a
theorem ahM{α:Type}(d:α)(x:α): ∀(p r:List α),setAt d (p++r) p.length x=p++x::r.drop 1
 |[],[]=>rfl
 |[],_::_=>rfl
 |a::p,r=>by simp only[BN,fr,setAt,ahM d x p r]
theorem arh{α:Type}(d x e:α)(l:List α)(i:Nat):(setAt d l i x).getD i e=x:=by
 induction l generalizing i with
 |nil=>
  induction i with
  |zero=>rfl
  |succ i b=>simpa[setAt]using b
 |cons a l b=>
  cases i with
  |zero=>rfl
  |succ i=>simpa[setAt]using b i
theorem run_eq(b:Nat): ∀(r:bX) (H:Heap) (p q:List J),bt (setAt [] H b (p++q)) r=bt (setAt [] H b (p++(q0 b p.length r).1++q.drop (q0 b p.length r).1.length)) (q0 b p.length r).2
 |[],H,p,q=>by simp [q0]
 |x::r,H,p,q=>by
  unfold q0
  cases e:(Nat.beq x.1 b&&Nat.beq x.2.1 p.length)with
  |false=>simp
  |true=>
   simp only[bY]at e;have d:=dX e.1;have f:=dX e.2;obtain⟨a,i,c⟩:=x;simp only at d f;subst d f;have h:=run_eq a r H (p++[c]) (q.drop 1);have g:(p++[c]).length=p.length+1:=by simp
   rw[g]at h;show bt (bs (setAt [] H a (p++q)) a p.length c) r=_;unfold bs;rw[arh,F3,ahM];simp only[kj,BH]at h;rw[h];simp only[fr,vh,kj,BN,Nat.add_comm]
theorem SG: ∀(n:Nat) (H:Heap) (a:bX),EW n H a=bt H a
 |0,_,_=>rfl
 |n+1,H,[]=>rfl
 |n+1,H,(b,o,c)::r=>by
  unfold EW
  cases o with
  |zero=>
   simp only;rw[SG n];show _=bt (bs H b 0 c) r;unfold bs;have d:setAt .undef (H.getD b []) 0 c=[c]++(H.getD b []).drop 1:=by
    cases H.getD b []<;>rfl
   rw[d];have h:=run_eq b r H [c] ((H.getD b []).drop 1);rw[h];simp only[fr,hs,cN,vh,BN,re,Nat.add_comm]
  |succ o=>
   simp only;rw[SG n];rfl
theorem EV(H:Heap)(ws:bX):xu H ws=bt H ws:=SG _ _ _
noncomputable def pq(X:cb)(ops:Array Oper):List Oper→Nat→D→List Rec→Option (aS×T pQ)
 |[],_,st,rs=>some (.c5,.cW (some (st,rs)))
 |o::a,i,st,rs=>match Ax ops o st.n with
  |none=>none
  |some g=>match g with
   |false=>pq X ops a (i+1) ⟨jY o.dst .gone st.n,st.k⟩ (⟨.gone,[],[],[],0,false⟩::rs)
   |true=>match X0 o.op with
    |true=>some (.p False,.cW none)
    |false=>match LG X (sL st.n st.k o.op) st.n st.k o.op with
     |none=>none
     |some r=>match K6 (Gd a i) r.2.1 with
      |some b=>match pq X ops a (i+1) ⟨jY o.dst (.lit true) st.n,xu st.k r.2.2⟩ (⟨.lit true,r.2.2,kf X.env st.n o.op,pv st.n st.k o.op,sL st.n st.k o.op,true⟩::rs)with
       |none=>none
       |some q1=>match pq X ops a (i+1) ⟨jY o.dst (.lit false) st.n,xu st.k r.2.2⟩ (⟨.lit false,r.2.2,kf X.env st.n o.op,pv st.n st.k o.op,sL st.n st.k o.op,true⟩::rs)with
        |none=>none
        |some c=>some (.and r.1 (.and (.imp b true q1.1) (.imp b false c.1)),.d_ b q1.2 c.2)
      |none=>match pq X ops a (i+1) ⟨jY o.dst r.2.1 st.n,xu st.k r.2.2⟩ (⟨r.2.1,r.2.2,kf X.env st.n o.op,pv st.n st.k o.op,sL st.n st.k o.op,true⟩::rs)with
       |none=>none
       |some q=>some (.and r.1 q.1,q.2)
theorem RE{ops:Array Oper}{o:Oper}{st:D}{a skip:Prop}(h:Ax ops o st.n=some true)(k:a):uz ops o st a skip:=by
 unfold Ax at h;unfold uz
 split at h
 ·rename_i e;simp only[e];exact k
 ·rename_i j f e;simp only[e]
  split at h<;>try (cases h;done)
  rename_i d c;simp only[c]
  split at h<;>try (cases h;done)
  rename_i b bl;simp only[bl];simp only[hd]at h;simp only[h];exact k
theorem RF{ops:Array Oper}{o:Oper}{st:D}{c skip:Prop}(h:Ax ops o st.n=some false)(k:skip):uz ops o st c skip:=by
 unfold Ax at h;unfold uz
 split at h
 ·cases h
 ·rename_i j f e;simp only[e]
  split at h<;>try (cases h;done)
  rename_i d a;simp only[a]
  split at h<;>try (cases h;done)
  ·rename_i b bl;simp only[bl];simp only[hd]at h;simp only[h];exact k
  ·rename_i bl;simp only[bl];exact k
theorem AW{a:Bool}{ab:J}{K:J→Prop}(h:match K6 a ab with
  |some b=>(b=true→K (.lit true))∧(b=false→K (.lit false))
  |none=>K ab):AV a ab K:=by
 unfold K6 at h;unfold AV
 cases a
 ·exact h
 ·simp only at h ⊢
  cases ab<;>exact h
theorem FK{X:cb}{ops:Array Oper}{K:List Rec→D→Prop} : ∀(l:List Oper) (i:Nat) (st:D) (rs:List Rec) (o:aS) (t:T pQ),pq X ops l i st rs=some (o,t)→o.holds→
  (∀s d,t.bw=some (s,d)→K d.reverse s)→rC X.env ops l i st rs K
 |[],i,st,rs,o,t,h,a,c=>by
  cases h
  exact c st rs rfl
 |p::l,i,st,rs,o,t,h,a,c=>by
  simp only[pq,EV]at h;simp only[rC]
  split at h<;>try (cases h;done)
  rename_i g m
  split at h
  ·exact RF m (FK l _ _ _ o t h a c)
  ·refine RE m ?_
   split at h
   ·cases h;exact a.elim
   split at h<;>try (cases h;done)
   rename_i r n;obtain⟨x,w,y⟩:=r
   split at h
   ·rename_i b e
    split at h<;>try (cases h;done)
    rename_i q1 f
    split at h<;>try (cases h;done)
    rename_i u v
    cases h
    refine⟨_,Fu st.n st.k p.op,?_⟩;refine Ba n a.1 (AW ?_);simp only at e;simp only[e];constructor
    ·intro j;subst j;exact FK l _ _ _ q1.1 q1.2 f (a.2.1 rfl) fun s d k=>c s d k
    ·intro j;subst j;exact FK l _ _ _ u.1 u.2 v (a.2.2 rfl) fun s d k=>c s d k
   ·rename_i e
    split at h<;>try (cases h;done)
    rename_i q f
    cases h
    refine⟨_,Fu st.n st.k p.op,?_⟩;refine Ba n a.1 (AW ?_);simp only at e;simp only[e];exact FK l _ _ _ q.1 q.2 f a.2 c
theorem FM{X:cb}{ops:Array Oper}{K:D→Prop} : ∀(l:List Oper) (i:Nat) (st:D) (rs:List Rec) (o:aS) (t:T pQ),pq X ops l i st rs=some (o,t)→o.holds→
  (∀s e,t.bw=some (s,e)→K s)→yV X.env ops l i st K
 |[],i,st,rs,o,t,h,a,c=>by
  cases h
  exact c st rs rfl
 |p::l,i,st,rs,o,t,h,a,c=>by
  simp only[pq,EV]at h;simp only[yV]
  split at h<;>try (cases h;done)
  rename_i g m
  split at h
  ·exact RF m (FM l _ _ _ o t h a c)
  ·refine RE m ?_
   split at h
   ·cases h;exact a.elim
   split at h<;>try (cases h;done)
   rename_i r n;obtain⟨x,w,y⟩:=r
   split at h
   ·rename_i b d
    split at h<;>try (cases h;done)
    rename_i q1 f
    split at h<;>try (cases h;done)
    rename_i u v
    cases h
    refine Ba n a.1 (AW ?_);simp only at d;simp only[d];constructor
    ·intro j;subst j;exact FM l _ _ _ q1.1 q1.2 f (a.2.1 rfl) fun s e k=>c s e k
    ·intro j;subst j;exact FM l _ _ _ u.1 u.2 v (a.2.2 rfl) fun s e k=>c s e k
   ·rename_i d
    split at h<;>try (cases h;done)
    rename_i q f
    cases h
    refine Ba n a.1 (AW ?_);simp only at d;simp only[d];exact FM l _ _ _ q.1 q.2 f a.2 c
inductive eR where
 |nrm (s:D)
 |ext (id:Nat) (s:D)
 |ret (cv:List J)
 |dead
structure iG where
 o:aS
 f:Option Prop
 t:T eR
def iG.bad:iG:=⟨.p False,none,.cW .dead⟩
def T.rE{α:Type _}(f:α→Bool):T α→Bool
 | .cW a=>f a
 | .d_ _ l r=>match l.rE f with
   |true=>r.rE f
   |false=>false
theorem T.yT{α:Type _}{f:α→Bool} : ∀{t:T α},t.rE f=true→f t.bw=true
 | .cW _,h=>h
 | .d_ b l r,h=>by
   simp only[T.rE]at h
   split at h
   ·rename_i e
    cases b
    ·exact T.yT (t:=r) h
    ·exact T.yT (t:=l) e
   ·cases h
def K2:pQ→eR
 |some q=> .nrm q.1
 |none=> .dead
noncomputable def jL(X:cb)(ops:Array Oper)(a:Bool)(st:D):iG:=
 match pq X ops ops.toList 0 st []with
 |none=> .bad
 |some q=>match a with
  |false=>⟨q.1,none,q.2.map K2⟩
  |true=>match q.2.rE (fun x=>match x with
    |some y=>indep st.k ops y.2.reverse
    |none=>true)with
   |true=>⟨q.1,none,q.2.map K2⟩
   |false=> .bad
theorem ahi{X:cb}(g:X.env.dq){id:Nat}{ops:Array Oper}{c:Bool}{st:D}{Q:Exit→D→Prop}(a:(jL X ops c st).o.holds)(b: ∀s,(jL X ops c st).t.bw= .nrm s→Q .normal s):WP X.env (.region id ops c) Q st:=by
 unfold jL at a b;refine WP.TR g ?_;simp only[ma]
 split at a
 ·exact a.elim
 ·rename_i q e;obtain⟨o,t⟩:=q;simp only[e]at b
  cases c with
  |false=>
   simp only at b a ⊢;exact FM _ _ _ _ o t e a fun s h d=>b s (by rw[T.lp,d];rfl)
  |true=>
   simp only at b a ⊢
   split at a
   ·rename_i f;simp only[f]at b;refine FK _ _ _ _ o t e a fun s h d=>⟨?_,b s (by rw[T.lp,d];rfl)⟩;have:=T.yT f;rw[d]at this;exact yP.of this
   ·exact a.elim
def Li(L:List (Nat×Nat))(b p:Nat):Bool:=L.any fun x=>Nat.beq x.1 b&&Nat.beq x.2 p
def FC(H:Heap)(L:List (Nat×Nat)):bX→gX
 |[]=> .c5
 |x::r=>match Li L x.1 x.2.1 with
  |true=> .and (.e x.2.2 (I H x.1 x.2.1)) (FC H L r)
  |false=>FC H L r
def Lv(H:Heap)(L:List (Nat×Nat)):List Rec→gX
 |[]=> .c5
 |r::rs=> .and (FC H L r.ws) (Lv H L rs)
theorem TM{H:Heap}{L:List (Nat×Nat)} : ∀{f:bX},(FC H L f).holds→ ∀b p c,Li L b p=true→(b,p,c)∈f→c=I H b p
 |[],_,_,_,_,_,h=>by cases h
 |x::r,a,b,p,c,d,h=>by
  unfold FC at a;rcases hf.1 h with e|e
  ·subst e;rw[d]at a;exact a.1
  ·split at a
   ·exact TM a.2 b p c d e
   ·exact TM a b p c d e
theorem agl{H:Heap}{L:List (Nat×Nat)} : ∀{rs:List Rec},(Lv H L rs).holds→ ∀b p,Li L b p=true→ ∀r∈rs,∀c,(b,p,c)∈r.ws→c=I H b p
 |[],_,_,_,_,_,h,_,_=>by cases h
 |g::rs,f,b,p,d,r,h,c,a=>by
  rcases hf.1 h with e|e
  ·subst e;exact TM f.1 b p c d a
  ·exact agl f.2 b p d r e c a
def Ly(H:Heap)(L:List (Nat×Nat)):T pQ→gX
 | .cW a=>match a with
   |some y=>Lv H L y.2.reverse
   |none=> .c5
 | .d_ _ l r=> .and (Ly H L l) (Ly H L r)
theorem TN{H:Heap}{L:List (Nat×Nat)} : ∀{t:T pQ} {y:D×List Rec},(Ly H L t).holds→t.bw=some y→(Lv H L y.2.reverse).holds
 | .cW a,y,h,e=>by
   simp only[T.bw]at e;subst e;exact h
 | .d_ b l r,y,h,e=>by
   cases b
   ·exact TN (t:=r) h.2 e
   ·exact TN (t:=l) h.1 e
def A3(a:List J)(H:Heap)(op:Op):Nat:=match op with
 | .call _=>H.length+32
 |op=>sL a H op
theorem af_(a:List J)(H:Heap)(op:Op):H.length≤A3 a H op:=by
 unfold A3
 split
 ·exact ra _ _
 ·exact Fu _ _ _
noncomputable def sQ(X:cb)(ops:Array Oper):List Oper→Nat→D→List Rec→Option (aS×T pQ)
 |[],_,st,rs=>some (.c5,.cW (some (st,rs)))
 |o::a,i,st,rs=>match Ax ops o st.n with
  |none=>none
  |some g=>match g with
   |false=>sQ X ops a (i+1) ⟨jY o.dst .gone st.n,st.k⟩ (⟨.gone,[],[],[],0,false⟩::rs)
   |true=>match X0 o.op with
    |true=>some (.p False,.cW none)
    |false=>match LG X (A3 st.n st.k o.op) st.n st.k o.op with
     |none=>none
     |some r=>match K6 (Gd a i) r.2.1 with
      |some b=>match sQ X ops a (i+1) ⟨jY o.dst (.lit true) st.n,xu st.k r.2.2⟩ (⟨.lit true,r.2.2,kf X.env st.n o.op,pv st.n st.k o.op,A3 st.n st.k o.op,true⟩::rs)with
       |none=>none
       |some q1=>match sQ X ops a (i+1) ⟨jY o.dst (.lit false) st.n,xu st.k r.2.2⟩ (⟨.lit false,r.2.2,kf X.env st.n o.op,pv st.n st.k o.op,A3 st.n st.k o.op,true⟩::rs)with
        |none=>none
        |some c=>some (.and r.1 (.and (.imp b true q1.1) (.imp b false c.1)),.d_ b q1.2 c.2)
      |none=>match sQ X ops a (i+1) ⟨jY o.dst r.2.1 st.n,xu st.k r.2.2⟩ (⟨r.2.1,r.2.2,kf X.env st.n o.op,pv st.n st.k o.op,A3 st.n st.k o.op,true⟩::rs)with
       |none=>none
       |some q=>some (.and r.1 q.1,q.2)
theorem FI{X:cb}{ops:Array Oper}{K:List Rec→D→Prop} : ∀(l:List Oper) (i:Nat) (st:D) (rs:List Rec) (o:aS) (t:T pQ),sQ X ops l i st rs=some (o,t)→o.holds→
  (∀s d,t.bw=some (s,d)→K d.reverse s)→rC X.env ops l i st rs K
 |[],i,st,rs,o,t,h,a,c=>by
  cases h
  exact c st rs rfl
 |p::l,i,st,rs,o,t,h,a,c=>by
  simp only[sQ,EV]at h;simp only[rC]
  split at h<;>try (cases h;done)
  rename_i g m
  split at h
  ·exact RF m (FI l _ _ _ o t h a c)
  ·refine RE m ?_
   split at h
   ·cases h;exact a.elim
   split at h<;>try (cases h;done)
   rename_i r n;obtain⟨x,w,y⟩:=r
   split at h
   ·rename_i b e
    split at h<;>try (cases h;done)
    rename_i q1 f
    split at h<;>try (cases h;done)
    rename_i u v
    cases h
    refine⟨_,af_ st.n st.k p.op,?_⟩;refine Ba n a.1 (AW ?_);simp only at e;simp only[e];constructor
    ·intro j;subst j;exact FI l _ _ _ q1.1 q1.2 f (a.2.1 rfl) fun s d k=>c s d k
    ·intro j;subst j;exact FI l _ _ _ u.1 u.2 v (a.2.2 rfl) fun s d k=>c s d k
   ·rename_i e
    split at h<;>try (cases h;done)
    rename_i q f
    cases h
    refine⟨_,af_ st.n st.k p.op,?_⟩;refine Ba n a.1 (AW ?_);simp only at e;simp only[e];exact FI l _ _ _ q.1 q.2 f a.2 c
noncomputable def sT(X:cb)(ops:Array Oper)(L:List (Nat×Nat))(st:D):iG:=
 match sQ X ops ops.toList 0 st []with
 |none=> .bad
 |some q=>match q.2.rE (fun x=>match x with
   |some y=>xA (fun b p=>Lx st.k y.2.reverse b p||Li L b p) ops y.2.reverse
   |none=>true)with
  |true=>⟨.and q.1 (.es fun _:Unit=>Ly st.k L q.2),none,q.2.map K2⟩
  |false=> .bad
theorem aA7{X:cb}(k:X.env.dq){id:Nat}{ops:Array Oper}{L:List (Nat×Nat)}{st:D}{Q:Exit→D→Prop}(a:(sT X ops L st).o.holds)(d: ∀s,(sT X ops L st).t.bw= .nrm s→Q .normal s):WP X.env (.region id ops true) Q st:=by
 unfold sT at a d;refine WP.TR k ?_;simp only[ma]
 split at a
 ·exact a.elim
 ·rename_i q e;obtain⟨o,t⟩:=q;simp only[e]at d;simp only at d a ⊢
  split at a
  ·rename_i g;simp only[g]at d;refine FI _ _ _ _ o t e a.1 fun s m f=>⟨?_,d s (by rw[T.lp,f];rfl)⟩;have:=T.yT g;rw[f]at this;refine⟨_,fun b p l r j c i=> ?_,this⟩;rcases Bool.or_eq_true_iff.1 l with h|h
   ·exact agm h j i
   ·exact agl (TN (a.2 ()) f) b p h r j c i
  ·exact a.elim
inductive Key where
 |t (i:Nat)
 |c (i j:Nat)
 |h (b o:Nat)
 |b (b:Nat)
def xj(s:D)(k:Key):J:=
 match k with
 | .t i=>s.n.getD i .undef
 | .c i j=>match s.n.getD i .undef with
   | .agg cs=>cs.getD j .undef
   |_=> .undef
 | .h b o=>I s.k b o
 | .b _=> .undef
def yr(l:List J)(i:Nat)(v:J):List J:=
 match l,i with
 |[],_=>[]
 |_::r,0=>v::r
 |x::r,i+1=>x::yr r i v
def UZ(H:Heap)(b:Nat)(f:List J→List J):Heap:=
 match H,b with
 |[],_=>[]
 |l::r,0=>f l::r
 |l::r,b+1=>l::UZ r b f
def LO(s:D)(k:Key)(v:J):D:=
 match k with
 | .t i=>⟨yr s.n i v,s.k⟩
 | .c i j=>match s.n.getD i .undef with
   | .agg cs=>⟨yr s.n i (.agg (yr cs j v)),s.k⟩
   |_=>s
 | .h b o=>⟨s.n,UZ s.k b fun l=>yr l o v⟩
 | .b b=>⟨s.n,UZ s.k b fun _=>[]⟩
def ag4:D→List Key→List J→D
 |s,k::a,v::b=>ag4 (LO s k v) a b
 |s,_,_=>s
def vH:D→List Key→D
 |s,[]=>s
 |s,k::a=>vH (LO s k .undef) a
def afo(m:Nat):List J→List J
 |[]=>[]
 |x::r=>(match Nat.beq (m%2) 1 with
  |true=>x
  |false=> .undef)::afo (m/2) r
def LU(H:Heap)(x:J):J:=
 match x with
 | .own b _=>match I H b 0 with
   | .ae _ _ n _=> .own b n
   |_=> .undef
 | .fl b _ i o=>match I H b 0 with
   | .ae _ _ n _=> .fl b n i o
   |_=> .undef
 |x=>x
def Bn(H:Heap)(x:J):J:=
 match x with
 | .agg cs=> .agg (cs.map (LU H))
 |x=>LU H x
def aA6(s:D):D:=⟨s.n.map (Bn s.k),s.k.map fun l=>l.map (LU s.k)⟩
def x6(base:D)(a:List Key)(b:List J):D:=aA6 (ag4 base a b)
def getAll(s:D):List Key→List J
 |[]=>[]
 |k::a=>xj s k::getAll s a
def pj(a:List (Key×aB))(s:D):Option (List J):=dP (a.map (·.2)) (getAll s (a.map (·.1)))
def Pk(x y:J):aS:=
 match x with
 | .int k a=>match y with
   | .int d b=> .and (.e k d) (.e a b)
   |y=> .e (.int k a) y
 | .bool a=>match y with
   | .bool b=> .e a b
   |y=> .e (.bool a) y
 | .own b n=>match y with
   | .own c e=> .and (.e b c) (.e n e)
   |y=> .e (.own b n) y
 |x=> .e x y
theorem aoF{x y:J}(h:(Pk x y).holds):x=y:=by
 unfold Pk at h
 cases x<;>simp only at h<;>first|exact h|skip
 all_goals
  cases y<;>simp only at h<;>first|exact h|skip
 ·have a:=h.1;have b:=h.2;simp only[aS.holds]at a b;rw[a,b]
 ·simp only[aS.holds]at h;rw[h]
 ·have a:=h.1;have b:=h.2;simp only[aS.holds]at a b;rw[a,b]
def Hf:List J→List J→aS
 |[],[]=> .c5
 |x::a,y::b=> .and (Pk x y) (Hf a b)
 |[],_::_=> .p False
 |_::_,[]=> .p False
theorem Pq: ∀{a b:List J},(Hf a b).holds→a=b
 |[],[],_=>rfl
 |x::a,y::b,h=>by
  have c:=aoF h.1;have d:=Pq h.2;rw[c,d]
 |[],_::_,h=>h.elim
 |_::_,[],h=>h.elim
def Pn:Heap→Heap→aS
 |[],[]=> .c5
 |x::a,y::b=> .and (Hf x y) (Pn a b)
 |[],_::_=> .p False
 |_::_,[]=> .p False
theorem Yq: ∀{a b:Heap},(Pn a b).holds→a=b
 |[],[],_=>rfl
 |x::a,y::b,h=>by
  have c:=Pq h.1;have d:=Yq h.2;rw[c,d]
 |[],_::_,h=>h.elim
 |_::_,[],h=>h.elim
def jX(s m:D):aS:=
 match G5 s m with
 |some z=> .and (Hf z.n m.n) (Pn z.k m.k)
 |none=> .p False
theorem y8{s m:D}(h:(jX s m).holds):G5 s m=some m:=by
 unfold jX at h
 split at h
 ·rename_i z e;have a:=Pq h.1;have b:=Yq h.2;rw[e]
  cases z;cases m
  simp only at a b;rw[a,b]
 ·exact h.elim
theorem nU{s m:D}{k:Nat}(h:(jX s m).holds)(a:hF k m=true):cp k s m:=rp.le (AU (y8 h)) a
def OU(k:aB)(m:ja)(t:T J):Option (gX×J):=
 match t.rE (fun x=>(k.rd x).isSome)with
 |true=>some ((t.map fun x=>(k.rd x).getD k.lF).y4 m,k.ab ((t.map fun x=>(k.rd x).getD k.lF).jW m))
 |false=>none
theorem anD{k:aB}{m:ja}{t:T J}{o:gX}{v:J}(h:OU k m t=some (o,v))(c:o.holds):k.nrm t.bw=some v:=by
 unfold OU at h
 split at h
 ·rename_i e;have a:=T.yT e
  cases h
  rw[T.Cl c,T.lp];unfold aB.nrm
  cases b:k.rd t.bw with
  |none=>rw[b]at a;cases a
  |some v=>rfl
 ·cases h
def Ch:List aB→List ja→T (List J)→Option (gX×List J)
 |[],_,_=>some (.c5,[])
 |k::b,ms,t=>match OU k (ms.headD .f) (t.map fun l=>l.headD .undef)with
  |some q=>match Ch b ms.tail (t.map List.tail)with
   |some a=>some (.and q.1 a.1,q.2::a.2)
   |none=>none
  |none=>none
theorem OT: ∀{bp:List aB} {ms:List ja} {t:T (List J)} {o:gX} {cv:List J},Ch bp ms t=some (o,cv)→o.holds→t.bw.length=bp.length→dP bp t.bw=some cv
 |[],ms,t,o,cv,h,f,a=>by
  cases h
  have:t.bw=[]:=Vy (by simpa using a);rw[this];rfl
 |k::bp,ms,t,o,cv,h,f,a=>by
  simp only[Ch]at h
  split at h<;>try (cases h;done)
  rename_i q e
  split at h<;>try (cases h;done)
  rename_i g i
  cases h
  have c:=anD (o:=q.1) (v:=q.2) e f.1;rw[T.lp]at c
  cases b:t.bw with
  |nil=>rw[b]at a;cases a
  |cons x j=>
   have d:=OT (bp:=bp) (o:=g.1) (cv:=g.2) i f.2 (by rw[T.lp,b];simpa[b]using a);rw[T.lp,b]at d;rw[b]at c;simp only[List.headD_cons]at c;simp only[List.tail_cons]at d;simp only[dP,c,d]
def T.yb{α:Type _}(f:α→aS):T α→aS
 | .cW a=>f a
 | .d_ b l r=> .and (.imp b true (l.yb f)) (.imp b false (r.yb f))
theorem T.FG{α:Type _}{f:α→aS} : ∀{t:T α},(t.yb f).holds→(f t.bw).holds
 | .cW _,h=>h
 | .d_ b l r,h=>by
   cases b
   ·exact T.FG (t:=r) (h.2 rfl)
   ·exact T.FG (t:=l) (h.1 rfl)
def T.FF{α:Type _}(f:α→aS):T α→aS
 | .cW a=>f a
 | .d_ _ l r=> .and (l.FF f) (r.FF f)
theorem T.LD{α:Type _}{f:α→aS} : ∀{t:T α},(t.FF f).holds→(f t.bw).holds
 | .cW _,h=>h
 | .d_ b l r,h=>by
   cases b
   ·exact T.LD (t:=r) h.2
   ·exact T.LD (t:=l) h.1
structure vj where
 keep:Nat
 drop:List Key
 bp:List (Key×aB)
 ms:List ja
 pm:ja:= .f
def ah2:Heap→Heap
 |[]=>[]
 |l::r=>match ah2 r with
  |[]=>match l with
   |[]=>[]
   |x::y=>[x::y]
  |a::b=>l::a::b
def aCI(s:D):D:=⟨s.n,ah2 s.k⟩
def B5(b:Nat)(a:List Key)(s:D):D:=aCI (vH ⟨afo b s.n,s.k⟩ a)
def meet(m:Nat)(J:vj)(t:T D):Option (aS×D):=
 match t.rE (fun s=>(pj J.bp s).isSome)with
 |false=>none
 |true=>match Ch (J.bp.map (·.2)) J.ms (t.map fun s=>getAll s (J.bp.map (·.1)))with
  |none=>none
  |some q=>match hF m (x6 (B5 J.keep J.drop t.first) (J.bp.map (·.1)) q.2)with
   |true=>some (.and (.es fun _:Unit=>q.1) (t.FF fun s=>jX s (x6 (B5 J.keep J.drop t.first) (J.bp.map (·.1)) ((pj J.bp s).getD []))),x6 (B5 J.keep J.drop t.first) (J.bp.map (·.1)) q.2)
   |false=>none
theorem ado(s:D): ∀a:List Key,(getAll s a).length=a.length
 |[]=>rfl
 |_::a=>by simp [getAll,ado s a]
theorem afW{m:Nat}{J:vj}{t:T D}{o:aS}{jo:D}(h:meet m J t=some (o,jo))(c:o.holds):cp m t.bw jo:=by
 unfold meet at h
 split at h<;>try (cases h;done)
 rename_i g
 split at h<;>try (cases h;done)
 rename_i q d
 split at h<;>try (cases h;done)
 rename_i f
 cases h
 have a:=OT (o:=q.1) (cv:=q.2) d (c.1 ()) (by rw[T.lp,ado];simp);rw[T.lp]at a;have b:=T.LD (t:=t) c.2;have e:pj J.bp t.bw=some q.2:=a;rw[e]at b;exact nU b f
theorem B6{α:Type}(a b:Bool)(x y:α):(bif a then x else bif b then x else y)=bif(a||b)then x else y:=by cases a<;>rfl
end Go.ah
namespace Go.Proofs.YtfmgjpcmcjjoiaaGreatDoor
open Go Go.RowKit Go.ah
def NC(n:Nat)(a:Nat→z):Prop:= ∀i j,i<j→j<n→Op.bytesLess (a i).toList (a j).toList=true
end Go.Proofs.YtfmgjpcmcjjoiaaGreatDoor
