import Derived.Test.YtfmgjpcmcjjoiaaGreatDoorXg
open Go.IntKind (i64 u64 u8)
open Int (toNat)
set_option maxRecDepth 100000
set_option maxHeartbeats 4000000
set_option linter.all false
noncomputable section
namespace Go.af
open Go Go.RowKit
section
variable {S:dM} {ι:Nat→Option Nat} {st:K} {a:Act} {w:World}
theorem cg.p4{m:Nat}{g rm:List J}{H:Heap}{o:aO}(h:rU H g=some (o,rm))(D:o.holds):cg m ⟨g,H⟩ ⟨rm,bt H (ew H g)⟩:=by
 intro S _ ι a w y;obtain⟨i,E⟩:=y.freeze (H':=bt H (ew H g)) (vr g) (qM _ _);have C: ∃d:List Value,aU (bg S ι (bt H (ew H g)) w) g d∧ ∀(t:Nat) v,d[t]? =some v→a.tmps[t]? =some v:=by
  have G: ∀(l:List J) (k:Nat),(∀(t:Nat) av,l[t]? =some av→ ∃v,a.tmps[k+t]? =some v∧bg S ι (bt H (ew H g)) w av v)→ ∃d:List Value,aU (bg S ι (bt H (ew H g)) w) l d∧ ∀(t:Nat) v,d[t]? =some v→a.tmps[k+t]? =some v:=by
   intro l
   induction l with
   |nil=>exact fun k _=>⟨[],trivial,fun t v h=>by simp at h⟩
   |cons x l F=>
    intro k s;obtain⟨v,j,p⟩:=s 0 x rfl;obtain⟨d,r,z⟩:=F (k+1) fun t av c=>by
     obtain⟨v,q1,q⟩:=s (t+1) av (by simpa using c);exact⟨v,by rw[show k+1+t=k+(t+1) by omega];exact q1,q⟩
    refine⟨v::d,⟨p,r⟩,fun t u c=> ?_⟩
    cases t with
    |zero=>simp at c;subst c;exact j
    |succ t=>rw[show k+(t+1)=k+1+t by omega];exact z t u (by simpa using c)
  obtain⟨d,j,p⟩:=G g 0 fun t av c=>by
   obtain⟨v,q1,q⟩:=y.n t av c;exact⟨v,by simpa using q1,q.step E⟩
  exact⟨d,j,fun t v c=>by simpa using p t v c⟩
 obtain⟨d,j,p⟩:=C;obtain⟨L,e,r⟩:=QD (H:=H) i g d (fun l=>l=rm) (fun b A I K n f B=>GG A B) j (QL (K:=fun l=>l=rm) h D rfl);subst e;refine⟨ι,i.below,i.defers,fun t av c=> ?_,i.k,i.inj,i.fresh,i.gn,i.gr⟩;obtain⟨v,q1,q⟩:=r.get t av c;exact⟨v,p t v q1,eh.yf (fR.Mh q)⟩
end
def vX(s:K)(k:Key)(E:cD):Option (aO×K):=
 match xB s k with
 | .aA=>match k with
   | .t i=>some (.c4,⟨s.n.set i (.own s.k.length 0),bs s.k s.k.length 0 (.ad false E.M 0 fun i=>E.e ((@D E.T E.vd).at' i))⟩)
   | .h b o=>c2 (Nat.blt b s.k.length) (some (.c4,⟨s.n,bs (bs s.k s.k.length 0 (.ad false E.M 0 fun i=>E.e ((@D E.T E.vd).at' i))) b o (.own s.k.length 0)⟩))
   |_=>none
 | .own a n=>match k with
   | .h b o=>match B s.k a 0 with
     | .ad _ d c f=>c2 (!(Nat.beq a b)) (some (.e n c,⟨s.n,bs (bt s.k (ew s.k [.own a n])) b o (.arr d c f)⟩))
     |_=>none
   | .t i=>match B s.k a 0 with
     | .ad _ d c f=>some (.e n c,⟨s.n.set i (.arr d c f),bt s.k (ew s.k [.own a n])⟩)
     |_=>none
   |_=>none
 |_=>none
def y8:K→List (Key×cD)→Option (aO×K)
 |s,[]=>some (.c4,s)
 |s,q::r=>match vX s q.1 q.2 with
  |some p=>match y8 p.2 r with
   |some a=>some (.and p.1 a.1,a.2)
   |none=>none
  |none=>none
theorem cg.ayg{m:Nat}{st:K}(i h:Nat)(f:Nat→List J)(n:st.n[i]? =some .aA):cg m st ⟨st.n.set i (.own st.k.length 0),bs st.k st.k.length 0 (.ad false h 0 f)⟩:=fun S _ ι a w g=>by
 obtain⟨c,q,l⟩:=g.L8 (b:=st.k.length) (fun o=>sJ (bC _) o) (g.L9 (bC _)) h f;refine⟨_,c.below,c.defers,fun t av d=> ?_,c.k,c.inj,c.fresh,c.gn,c.gr⟩;rw[tw]at d
 by_cases e:i=t
 ·subst e;rw[bf rfl]at d
  split at d
  ·cases d
   obtain⟨v,j,k⟩:=g.n i .aA n;refine⟨v,j,?_⟩;have p:v= .slice none 0 0:=afM (ι:=ι) (H:=st.k) (F:=aK S ι st.k w) (w:=w) k;subst p;exact l (aK S ι (bs st.k st.k.length 0 (.ad false h 0 f)) w)
  ·cases d
 ·rw[a7 e]at d;exact c.n t av d
theorem cg.ayf{m:Nat}{st:K}(b o d:Nat)(f:Nat→List J)(l:B st.k b o= .aA)(k:Nat.blt b st.k.length=true):cg m st ⟨st.n,bs (bs st.k st.k.length 0 (.ad false d 0 f)) b o (.own st.k.length 0)⟩:=fun S _ ι a w g=>by
 obtain⟨i,p,j⟩:=g.L8 (b:=st.k.length) (fun o=>sJ (bC _) o) (g.L9 (bC _)) d f;have n:b≠st.k.length:=by
  have:=gL k;omega
 have c:B (bs st.k st.k.length 0 (.ad false d 0 f)) b o= .aA:=by rw[eG,a7 (fun e=>n e.1)];exact l
 refine⟨_,i.agO (by rw[c];simp) (by rw[c];rfl) (by simp) rfl fun v h=> ?_⟩;rw[c]at h;rw[afM h];exact j _
theorem cg.aoI{m:Nat}{st:K}(b o c n:Nat){t:Bool}{h d:Nat}{f:Nat→List J}(k:B st.k b o= .own c n)(p:B st.k c 0= .ad t h d f)(y:c≠b)(q:n=d):cg m st ⟨st.n,bs (bt st.k (ew st.k [.own c n])) b o (.arr h d f)⟩:=fun S _ ι a w s=>by
 obtain⟨j,z⟩:=s.freeze (H':=bt st.k (ew st.k [.own c n])) (vr _) (qM _ _);have e:B (bt st.k (ew st.k [.own c n])) b o= .own c n:=by
  rcases vr (H:=st.k) [.own c n] b o with g|⟨rfl,C,D,A,u,i,x⟩
  ·rw[g];exact k
  ·rw[k]at i;cases i
 have r:B (bt st.k (ew st.k [.own c n])) c 0= .ad true h d f:=GG (by simp [qW,oh]) p;refine⟨_,j.agO (by rw[e];simp) (by rw[e];rfl) (by simp) rfl fun v l=> ?_⟩;rw[e]at l;exact Ml j r q l
theorem cg.wq{m:Nat}{st:K}(i c n:Nat){s:Bool}{h g:Nat}{f:Nat→List J}(o:st.n[i]? =some (.own c n))(l:B st.k c 0= .ad s h g f)(p:n=g):cg m st ⟨st.n.set i (.arr h g f),bt st.k (ew st.k [.own c n])⟩:=fun S _ ι a w r=>by
 obtain⟨b,u⟩:=r.freeze (H':=bt st.k (ew st.k [.own c n])) (vr _) (qM _ _);have q:B (bt st.k (ew st.k [.own c n])) c 0= .ad true h g f:=GG (by simp [qW,oh]) l;refine⟨ι,b.below,b.defers,fun t av d=> ?_,b.k,b.inj,b.fresh,b.gn,b.gr⟩;rw[tw]at d
 by_cases e:i=t
 ·subst e;rw[bf rfl]at d
  split at d
  ·cases d
   obtain⟨v,j,k⟩:=b.n i (.own c n) o;exact⟨v,j,Ml b q p k⟩
  ·cases d
 ·rw[a7 e]at d;exact b.n t av d
theorem P3{m:Nat}{st j9:K}{k:Key}{cD:cD}{lH:aO}(h:vX st k cD=some (lH,j9))(d:lH.holds):cg m st j9:=by
 unfold vX at h
 split at h<;>try (cases h;done)
 ·rename_i e
  cases k<;>simp only at h<;>try (cases h;done)
  ·cases h
   rename_i i;refine cg.ayg i cD.M _ ?_;simp only[xB,List.getD]at e
   cases a:st.n[i]? with
   |none=>rw[a]at e;cases e
   |some v=>rw[a]at e;exact congrArg some e
  ·rw[c9]at h;obtain⟨b,h⟩:=h
   cases h
   exact cg.ayf _ _ cD.M _ e b
 ·rename_i p n e
  cases k<;>simp only at h<;>try (cases h;done)
  ·split at h<;>try (cases h;done)
   rename_i i _ l o j f c
   cases h
   refine cg.wq _ _ _ ?_ c d;simp only[xB,List.getD]at e
   cases a:st.n[i]? with
   |none=>rw[a]at e;cases e
   |some v=>rw[a]at e;exact congrArg some e
  split at h<;>try (cases h;done)
  rename_i l o j f c;rw[c9]at h;obtain⟨b,h⟩:=h
  cases h
  refine cg.aoI _ _ _ _ e c (fun g=> ?_) d;rw[g,nz]at b;cases b
theorem HN{m:Nat} : ∀{d:List (Key×cD)} {st j9:K} {lH:aO},y8 st d=some (lH,j9)→lH.holds→cg m st j9
 |[],st,j9,lH,h,_=>by cases h;exact cg.refl _
 |q::r,st,j9,lH,h,a=>by
  simp only[y8]at h
  split at h<;>try (cases h;done)
  rename_i p e
  split at h<;>try (cases h;done)
  rename_i b c
  cases h
  exact(P3 (lH:=p.1) (j9:=p.2) e a.1).trans (HN (lH:=b.1) (j9:=b.2) c a.2)
def L_(b:Nat):J→Bool
 | .ptr c _=> !(Nat.beq c b)
 |_=>true
def h5(b a:Nat):J→J
 | .ptr c o=>match Nat.beq c a with
   |true=> .undef
   |false=> .ptr c o
 | .fn f d=>match d.all (L_ a)with
   |true=> .fn f d
   |false=> .undef
 | .own c k=>match Nat.beq c b with
   |true=> .own a k
   |false=>match Nat.beq c a with
    |true=> .undef
    |false=> .own c k
 | .fp c k i o=>match Nat.beq c b with
   |true=> .fp a k i o
   |false=>match Nat.beq c a with
    |true=> .undef
    |false=> .fp c k i o
 |x=>x
theorem axD{b a:Nat}{c:J}(h:h5 b a c= .gone):c= .gone:=by
 cases c<;>simp only[h5]at h<;>first|rfl|(cases h;done)|(split at h<;>first|(cases h;done)|(split at h<;>cases h))
def FZ(b a:Nat):J→J
 | .agg cs=> .agg (cs.map (h5 b a))
 |x=>h5 b a x
def afx(b a:Nat):J→J
 | .c7 c=> .c7 (c.map (FZ b a))
 |x=>FZ b a x
def Z_(H:Heap)(b:Nat):Bool:=
 match H.getD b []with
 |[]=>true
 |x::r=>match x with
  | .ad a c _ _=>a&&(Nat.beq c 0&&r.isEmpty)
  |_=>false
def zc(b m:Nat):List J:=
 match Nat.blt b m with
 |true=>[dk]
 |false=>[]
def afy(H:Heap)(m b a:Nat)(x:J):Heap:=setAt [] (setAt [] (H.map fun l=>l.map (h5 b a)) b (zc b m)) a [x]
def F0(m:Nat)(s:K)(b a:Nat):Option K:=
 match s.k.getD b []with
 |x::r=>match x with
  | .ad d c n f=>c2 (Nat.ble m a&&(!(Nat.beq b a)&&(Z_ s.k a&&(r.isEmpty&& !(Nat.beq c 0))))) (some ⟨s.n.map (afx b a),afy s.k m b a (.ad d c n f)⟩)
  |_=>none
 |[]=>none
def vl(m:Nat):K→List (Key×Nat)→Option K
 |s,[]=>some s
 |s,q::r=>match xB s q.1 with
  | .own b _=>match Nat.beq b q.2 with
    |true=>vl m s r
    |false=>match F0 m s b q.2 with
     |some a=>vl m a r
     |none=>none
  |_=>none
theorem L3{b a:Nat}{c:J} :b_ (h5 b a c)=b_ c:=by
 cases c<;>first|rfl|skip
 all_goals
  simp only[h5]
  split<;>first|rfl|(split<;>rfl)
theorem arV{H:Heap}{g:J→J}(a:g .undef= .undef)(b o:Nat):B (H.map fun l=>l.map g) b o=g (B H b o):=by
 unfold B;have e:(H.map fun l=>l.map g).getD b []=(H.getD b []).map g:=by
  rw[List.getD,List.getD,gN]
  cases H[b]? <;>rfl
 rw[e];generalize H.getD b []=l;rw[List.getD,List.getD,gN]
 cases l[o]? with
 |none=>exact a.symm
 |some x=>rfl
theorem cg.axC{m:Nat}{s dA:K}{b bG:Nat}(h:F0 m s b bG=some dA):cg m s dA:=by
 unfold F0 at h
 split at h<;>try (cases h;done)
 rename_i x hA lX
 split at h<;>try (cases h;done)
 rename_i Y Z n f;rw[c9]at h;obtain⟨jd,h⟩:=h
 cases h
 simp only[bL,iL]at jd;obtain⟨hm,je,A2,gv,nk⟩:=jd;have hm:m≤bG:=gL hm;have je:b≠bG:=fun e=>by rw[e,nz]at je;cases je
 have gv:hA=[]:=by cases hA with
  |nil=>rfl
  |cons=>cases gv
 subst gv;intro S sH ι a w O;have P:B s.k b 0= .ad Y Z n f:=by unfold B;rw[lX];rfl
 have aDD: ∀o,o≠0→B s.k b o= .undef:=fun o ed=>by
  unfold B;rw[lX]
  cases o with
  |zero=>exact absurd rfl ed
  |succ o=>rfl
 have aDH: ∀o,B s.k bG o= .undef∨(o=0∧ ∃F f2,B s.k bG 0= .ad true 0 F f2):=fun o=>by
  unfold Z_ at A2;unfold B
  split at A2
  ·rename_i e;rw[e];exact .inl rfl
  ·rename_i y q e
   split at A2<;>try (cases A2;done)
   rename_i aAt aBj F f2;simp only[bL]at A2;obtain⟨D,E,fe⟩:=A2;have E:=dQ E;subst D E;rw[e]
   cases o with
   |zero=>exact .inr ⟨rfl,F,f2,rfl⟩
   |succ o=>
    cases q with
    |nil=>exact .inl rfl
    |cons=>cases fe
 let an:Nat→Option Nat:=fun c=>if c=bG then ι b else if c=b then none else ι c
 have adB:n≤dj:=by
  have H:=O.k b 0;rw[P]at H;rcases H.2 with dD|dD
  ·rw[dD.2.1]at nk;cases nk
  ·exact dD.1
 let H':Heap:=afy s.k m b bG (.ad Y Z n f);have W:an bG=ι b:=bf rfl;have E_:an b=none:=by simp [an,je]
 have M: ∀c,c≠b→c≠bG→an c=ι c:=fun c u L=>by simp only[an];rw[a7 L,a7 u]
 have KO: ∀o,B H' bG o=if o=0 then .ad Y Z n f else .undef:=fun o=>by
  show B (setAt [] _ bG _) bG o=_;rw[yu,bf rfl]
  cases o<;>rfl
 have KP: ∀o,B H' b o=(zc b m).getD o .undef:=fun o=>by
  show B (setAt [] _ bG _) b o=_;rw[yu,a7 je,yu,bf rfl]
 have U: ∀c o,c≠b→c≠bG→B H' c o=h5 b bG (B s.k c o):=fun c o u L=>by
  show B (setAt [] _ bG _) c o=_;rw[yu,a7 L,yu,a7 u,arV rfl]
 have arI: ∀o,B H' b o= .undef∨(o=0∧b<m∧B H' b 0=dk):=fun o=>by
  have lW:=KP 0;have d:=KP o;unfold zc at lW d
  cases Tb:Nat.blt b m with
  |false=>rw[Tb]at d;rw[d];exact .inl rfl
  |true=>
   rw[Tb]at lW d
   cases o with
   |zero=>exact .inr ⟨rfl,gL Tb,lW⟩
   |succ o=>rw[d];exact .inl rfl
 have kD: ∀c,c≠b→c≠bG→b_ (B H' c 0)=b_ (B s.k c 0):=fun c u L=>by rw[U c 0 u L,L3]
 have adR: ∀c,ot (h5 b bG c)=true→ot c=true:=fun c=>by
  cases c<;>first|exact id|(intro _;rfl)
 have nf: ∀y,aK S ι s.k w y→aK S an H' w y:=fun y ⟨u,L,e4⟩=>⟨u,L,fun c H r=>by
  by_cases k:c=bG
  ·subst k;rw[W]at r;refine e4 b ?_ r;have lW:B H' c 0= .ad Y Z n f:=by rw[KO];rfl
   rcases H with⟨_,g⟩|⟨g,_⟩
   ·rw[lW]at g;exact .inl ⟨by rw[P];rfl,by rw[P];exact g⟩
   ·rw[lW]at g;cases g
  ·by_cases d:c=b
   ·subst d;rw[E_]at r;cases r
   ·rw[M c d k]at r;refine e4 c ?_ r;rcases H with⟨D,E⟩|⟨D,o,E⟩
    ·rw[U c 0 d k]at D E;rw[L3]at D;exact .inl ⟨D,adR _ E⟩
    ·rw[U c 0 d k,L3]at D;rw[U c o d k]at E;exact .inr ⟨D,o,adR _ E⟩⟩
 have KM: ∀{av:J} {v:Value},aR w (aK S ι s.k w) av v→aR w (aK S an H' w) av v:=fun h=>h.mono nf fun _ _ _=>rfl;have arb: ∀{c:J} {v:Value},L_ bG c=true→iv ι s.k w (aK S ι s.k w) c v→iv an H' w (aK S an H' w) c v:=fun {c v} eX h=>by
  cases c<;>simp only[iv]at h ⊢ <;>first|exact KM h|skip
  rename_i c o;obtain⟨u,x,L,e4⟩:=h;have F:c≠bG:=fun e=>by rw[e]at eX;simp only[L_,nz]at eX;cases eX
  have G:c≠b:=fun e=>by rw[e,P]at u;cases u
  exact⟨by rw[kD c G F];exact u,x,by rw[M c G F];exact L,e4⟩
 have j2: ∀{c:J} {v:Value},b8 ι s.k w (aK S ι s.k w) c v→b8 an H' w (aK S an H' w) (h5 b bG c) v:=fun {c v} h=>by
  have u:=h.one
  cases c<;>first|exact KM h|exact u|exact h.elim|skip
  ·rename_i c cM;simp only[h5];obtain⟨R,nt,ka,ev,fB,z,I,N⟩:=h
   cases d:Nat.beq c b with
   |true=>
    have d:=dQ d;subst d;rw[P]at z;cases z;exact⟨R,Y,Z,n,f,by rw[KO];rfl,I,fun e=>by rw[W];exact N e⟩
   |false=>
    cases k:Nat.beq c bG with
    |true=>exact R
    |false=>
     have G:c≠b:=fun e=>by rw[e,nz]at d;cases d
     have F:c≠bG:=fun e=>by rw[e,nz]at k;cases k
     exact⟨R,nt,ka,ev,fB,by rw[U c 0 G F,z];rfl,I,fun e=>by rw[M c G F];exact N e⟩
  ·rename_i c o;simp only[h5];obtain⟨z,x,I,N⟩:=h
   cases k:Nat.beq c bG with
   |true=>exact u
   |false=>
    have F:c≠bG:=fun e=>by rw[e,nz]at k;cases k
    have G:c≠b:=fun e=>by rw[e,P]at z;cases z
    exact⟨by rw[kD c G F];exact z,x,by rw[M c G F];exact I,N⟩
  ·rename_i c cM i o;simp only[h5];obtain⟨R,nt,ka,ev,fB,z,I,N⟩:=h
   cases d:Nat.beq c b with
   |true=>
    have d:=dQ d;subst d;rw[P]at z;cases z;exact⟨R,Y,Z,n,f,by rw[KO];rfl,I,fun e=>by rw[W];exact N e⟩
   |false=>
    cases k:Nat.beq c bG with
    |true=>exact R
    |false=>
     have G:c≠b:=fun e=>by rw[e,nz]at d;cases d
     have F:c≠bG:=fun e=>by rw[e,nz]at k;cases k
     exact⟨R,nt,ka,ev,fB,by rw[U c 0 G F,z];rfl,I,fun e=>by rw[M c G F];exact N e⟩
  ·rename_i g iU;simp only[h5]
   cases k:iU.all (L_ bG)with
   |false=>exact u
   |true=>
    obtain⟨A,z,I⟩:=h;refine⟨A,z,aU.mk I.length fun i p q e2 iI=> ?_⟩;obtain⟨Gu,D,E⟩:=I.get i p e2;rw[iI]at D;cases D;exact arb (ds.1 k p (e0 e2)) E
 have kB: ∀{cs:List J} {A:List Value},aU (b8 ι s.k w (aK S ι s.k w)) cs A→aU (b8 an H' w (aK S an H' w)) (cs.map (h5 b bG)) A:=by
  intro cs
  induction cs with
  |nil=>intro A h;cases A with
   |nil=>trivial
   |cons=>exact h.elim
  |cons c cs kE=>intro A h;cases A with
   |nil=>exact h.elim
   |cons v A=>exact⟨j2 h.1,kE h.2⟩
 have nd: ∀{c:J} {v:Value},fR ι s.k w (aK S ι s.k w) c v→fR an H' w (aK S an H' w) (FZ b bG c) v:=fun {c v} h=>by
  by_cases S6: ∃cs,c= .agg cs
  ·obtain⟨cs,rfl⟩:=S6;obtain⟨A,u,L⟩:=h;exact⟨A,u,kB L⟩
  ·have d:FZ b bG c=h5 b bG c:=by cases c<;>first|rfl|exact absurd ⟨_,rfl⟩ S6
   have u:b8 ι s.k w (aK S ι s.k w) c v:=by cases c<;>first|exact h|exact absurd ⟨_,rfl⟩ S6|exact(show False from h).elim
   rw[d];have L:=j2 u;have eW:h5 b bG c≠ .gone:=fun e=>by
    rw[axD e]at h;exact h
   generalize h5 b bG c=V at L eW
   cases V<;>first|exact L|exact L.elim|exact absurd rfl eW
 refine⟨an,O.below,O.defers,fun t av h2=> ?_,fun c o=> ?_,fun gB iS x u e4=> ?_,fun c x r=> ?_,fun c x r=> ?_,?_⟩
 ·simp only[gN,lM]at h2;obtain⟨Q,aar,rfl⟩:=h2;obtain⟨v,D,E⟩:=O.n t Q aar;refine⟨v,D,?_⟩
  by_cases TP: ∃A,Q= .c7 A
  ·obtain⟨aa,rfl⟩:=TP;obtain⟨A,z,I⟩:=E;refine⟨A,z,?_⟩;clear z aar;revert A
   induction aa with
   |nil=>intro A h;cases A with
    |nil=>trivial
    |cons=>exact h.elim
   |cons c cs kE=>intro A h;cases A with
    |nil=>exact h.elim
    |cons v A=>exact⟨nd h.1,kE A h.2⟩
  ·by_cases X:Q= .undef∨Q= .gone
   ·rcases X with rfl|rfl
    ·trivial
    ·exact E
   ·have d:afx b bG Q=FZ b bG Q:=by cases Q<;>first|rfl|exact absurd ⟨_,rfl⟩ TP
    have u:fR ι s.k w (aK S ι s.k w) Q v:=by
     cases Q<;>first|exact E|exact absurd ⟨_,rfl⟩ TP|exact absurd (.inl rfl) X|exact absurd (.inr rfl) X
    rw[d];exact eh.yf (nd u)
 ·show eQ an H' w (aK S an H' w) c o (B H' c o)
  by_cases k:c=bG
  ·subst k;rw[KO]
   by_cases ZE:o=0
   ·subst ZE;rw[bf rfl];have H:=O.k b 0;rw[P]at H;obtain⟨_,H⟩:=H;refine⟨rfl,H.imp (fun g=>⟨g.1,g.2.1,by rw[W];exact g.2.2⟩) fun g=>⟨g.1,?_⟩⟩;rw[W];exact g.2.imp id fun⟨x,C,T,z,I,N⟩=>⟨x,C,T,z,I,fun i j iG fg=>by
     obtain⟨av,v,qS,qT,x4⟩:=N i j iG fg;exact⟨av,v,qS,qT,KM x4⟩⟩
   ·rw[a7 ZE];trivial
  ·by_cases d:c=b
   ·subst d;rcases arI o with g|⟨rfl,_,g⟩
    ·rw[g];trivial
    ·rw[g];exact⟨rfl,.inl ⟨rfl,rfl,E_⟩⟩
   ·have H:=O.k c o;rw[U c o d k]
    by_cases Ta:b_ (B s.k c o)=true
    ·cases e:B s.k c o<;>rw[e]at Ta H<;>first|(cases Ta;done)|skip
     simp only[h5];obtain⟨eW,H⟩:=H;refine⟨eW,H.imp (fun g=>⟨g.1,g.2.1,by rw[M c d k];exact g.2.2⟩) fun g=>⟨g.1,?_⟩⟩;rw[M c d k];exact g.2.imp id fun⟨x,C,T,z,I,N⟩=>⟨x,C,T,z,I,fun i j iG fg=>by
      obtain⟨av,v,qS,qT,x4⟩:=N i j iG fg;exact⟨av,v,qS,qT,KM x4⟩⟩
    ·by_cases X:B s.k c o= .undef
     ·rw[X];trivial
     ·have Tu:b_ (B s.k c o)=false:=by simpa using Ta
      obtain⟨R,x,v,z,I,N,xX⟩:b_ (B s.k c 0)=false∧ ∃x v,ι c=some x∧w.cell? ⟨x,o,none⟩=some v∧w.frozen? ⟨x,o,none⟩=false∧b8 ι s.k w (aK S ι s.k w) (B s.k c o) v:=by
       cases e:B s.k c o<;>rw[e]at H X Tu<;>first|exact absurd rfl X|(cases Tu;done)|exact H
      have FR:=j2 xX;have FT:b_ (B H' c 0)=false:=by rw[kD c d k];exact R
      have Um:an c=some x:=by rw[M c d k];exact z
      have aeK:b_ (h5 b bG (B s.k c o))=false:=by rw[L3];exact Tu
      generalize h5 b bG (B s.k c o)=V at FR aeK
      cases V<;>first|trivial|(cases aeK;done)|exact⟨FT,x,v,Um,I,N,FR⟩
 ·have key: ∀c x,an c=some x→ ∃V,ι V=some x∧((c=bG∧V=b)∨(c≠bG∧c≠b∧V=c)):=fun c x r=>by
   by_cases k:c=bG
   ·subst k;rw[W]at r;exact⟨b,r,.inl ⟨rfl,rfl⟩⟩
   ·by_cases d:c=b
    ·subst d;rw[E_]at r;cases r
    ·rw[M c d k]at r;exact⟨c,r,.inr ⟨k,d,rfl⟩⟩
  obtain⟨jM,D,q1⟩:=key gB x u;obtain⟨lk,fe,yk⟩:=key iS x e4;have e:=O.inj jM lk x D fe;rcases q1 with⟨rfl,rfl⟩|⟨b6,eo,rfl⟩<;>rcases yk with⟨rfl,rfl⟩|⟨a3,a4,rfl⟩
  ·rfl
  ·exact absurd e.symm a4
  ·exact absurd e eo
  ·exact e
 ·by_cases k:c=bG
  ·subst k;rw[W]at r;exact O.fresh b x r
  ·by_cases d:c=b
   ·subst d;rw[E_]at r;cases r
   ·rw[M c d k]at r;exact O.fresh c x r
 ·show c<H'.length;have adv:=(lE ([]:List J) [J.ad Y Z n f] (setAt [] (s.k.map fun l=>l.map (h5 b bG)) b (zc b m)) bG);have Fm:=(lE ([]:List J) (zc b m) (s.k.map fun l=>l.map (h5 b bG)) b)
  by_cases k:c=bG
  ·rw[k];exact adv.2
  ·by_cases d:c=b
   ·subst d;rw[E_]at r;cases r
   ·rw[M c d k]at r;have:=O.gn c x r;refine gk ?_ (dB Fm.1 adv.1);simpa using this
 ·have hh:=O.gr;have gu: ∀c,B S.tL c 0≠ .undef→c<m:=fun c jd=>by
   rcases fk c S.tL.length with g|g
   ·omega
   ·exact absurd (sJ g 0) jd
  refine⟨fun x r=>nf x (hh.hE x r),fun x o r=>hh.cell x o r,fun c x r jB=> ?_,fun c GF lK x_ f0 jB=> ?_⟩
  ·obtain⟨D,E⟩:=hh.box c x r jB;have adg:c<m:=gk (S.p2 c x r) sH;have F:c≠bG:=by omega
   have G:c≠b:=fun e=>by rw[e,P]at E;cases E
   exact⟨by rw[M c G F];exact D,by rw[kD c G F];exact E⟩
  ·obtain⟨nt,ka,ev,fB,D,E,fe⟩:=hh.arr c GF lK x_ f0 jB;have adg:c<m:=gu c (by rw[jB];simp);have F:c≠bG:=by omega
   by_cases G:c=b
   ·subst G;rw[P]at D;cases D;refine⟨true,0,dj+1,fun _=>[],?_,by omega,fun e=>by omega⟩;rw[KP 0];unfold zc;rw[show Nat.blt c m=true from by simpa[hj]using adg];rfl
   ·exact⟨nt,ka,ev,fB,by rw[U c 0 G F,D];rfl,E,fun e=>by rw[M c G F];exact fe e⟩
theorem L4{m:Nat} : ∀{l:List (Key×Nat)} {s a:K},vl m s l=some a→cg m s a
 |[],s,a,h=>by cases h;exact cg.refl _
 |q::r,s,a,h=>by
  simp only[vl]at h
  split at h<;>try (cases h;done)
  split at h
  ·exact L4 h
  ·split at h<;>try (cases h;done)
   rename_i c b;exact(cg.axC b).trans (L4 h)
def FU(s:K)(b:Nat):Option K:=
 match s.k.getD b []with
 |x::r=>match x with
  | .ad c a n f=>match c&&Nat.beq a 0 with
    |true=>some s
    |false=>c2 (r.isEmpty&& !(Nat.beq a 0)) (some ⟨s.n,bs s.k b 0 dk⟩)
  |_=>none
 |[]=>none
theorem cg.kill{m:Nat}{s J:K}{b:Nat}(h:FU s b=some J):cg m s J:=by
 unfold FU at h
 split at h<;>try (cases h;done)
 rename_i x b6 F
 split at h<;>try (cases h;done)
 rename_i ro eo n f
 split at h
 ·cases h;exact cg.refl _
 rw[c9]at h;obtain⟨H,h⟩:=h
 cases h
 simp only[bL,iL]at H;obtain⟨X,I⟩:=H;intro S sH ι a w i;have A:B s.k b 0= .ad ro eo n f:=by unfold B;rw[F];rfl
 have V: ∀o,o≠0→B s.k b o= .undef:=fun o W=>by
  unfold B;rw[F]
  cases o with
  |zero=>exact absurd rfl W
  |succ o=>
   cases b6 with
   |nil=>rfl
   |cons=>cases X
 have adB:n≤dj:=by
  have p:=i.k b 0;rw[A]at p;rcases p.2 with D|D
  ·rw[D.2.1]at I;cases I
  ·exact D.1
 let an:Nat→Option Nat:=fun c=>if c=b then none else ι c
 let H':Heap:=bs s.k b 0 dk;have z:an b=none:=bf rfl;have k: ∀c,c≠b→an c=ι c:=fun c h=>a7 h;have G:B H' b 0=dk:=by show B (bs _ _ _ _) b 0=_;rw[eG,bf ⟨rfl,rfl⟩]
 have l: ∀c o,(c≠b∨o≠0)→B H' c o=B s.k c o:=fun c o h=>by
  show B (bs _ _ _ _) c o=_;rw[eG,a7 (fun e=>h.elim (fun g=>g e.1) fun g=>g e.2)]
 have U: ∀y,aK S ι s.k w y→aK S an H' w y:=fun y ⟨u,Q,v⟩=>⟨u,Q,fun c p d=>by
  by_cases e:c=b
  ·subst e;rw[z]at d;cases d
  ·rw[k c e]at d;exact v c (nv (fun o=>l c o (.inl e)) p) d⟩
 have E:ec ι s.k w (aK S ι s.k w) an H' w (aK S an H' w):=by
  refine⟨U,fun _ _ _=>rfl,fun c x d j=> ?_,fun c GF lK Z N j=> ?_⟩
  ·have e:c≠b:=fun e=>by rw[e,A]at j;cases j
   exact⟨by rw[k c e];exact d,by rw[l c 0 (.inl e)];exact j⟩
  ·by_cases e:c=b
   ·subst e;rw[A]at j;cases j;exact⟨true,0,dj+1,fun _=>[],G,by omega,fun e=>by omega⟩
   ·exact⟨GF,lK,Z,N,by rw[l c 0 (.inl e)];exact j,bC _,fun _=>⟨rfl,k c e,fun x C T _ R=>⟨C,R,rfl⟩⟩⟩
 have q: ∀c x,an c=some x→c≠b∧ι c=some x:=fun c x d=>by
  by_cases e:c=b
  ·subst e;rw[z]at d;cases d
  ·exact⟨e,by rw[←k c e];exact d⟩
 refine⟨an,i.below,i.defers,fun t av Y=> ?_,fun c o=> ?_,fun L M x u v=>i.inj L M x (q _ _ u).2 (q _ _ v).2,fun c x d=>i.fresh c x (q _ _ d).2,fun c x d=>gk (i.gn c x (q _ _ d).2) (vi s.k b 0 dk).1,i.gr.trans E⟩
 ·obtain⟨e2,O,P⟩:=i.n t av Y;exact⟨e2,O,P.step E⟩
 ·show eQ an H' w (aK S an H' w) c o (B H' c o)
  by_cases e:c=b
  ·subst e
   by_cases r:o=0
   ·subst r;rw[G];exact⟨rfl,.inl ⟨rfl,rfl,z⟩⟩
   ·rw[l c o (.inr r),V o r];trivial
  ·rw[l c o (.inl e)];exact(i.k c o).step E (fun _=>k c e) (fun _ _ _=>⟨rfl,rfl⟩) (fun _=>⟨k c e,fun _ _=>rfl⟩)
inductive kQ where
 |kX (k:Key) (E:cD)
 |own (k:Key) (E:cD) (b:Nat)
 |kill (b:Nat)
def CX(m:Nat)(s:K)(c:kQ):Option (aO×K):=
 match c with
 | .kX k E=>match xB s k with
   | .own .. =>vX s k E
   |_=>some (.c4,s)
 | .own k E b=>match xB s k with
   | .aA=>match vX s k E with
     |some p=>match vl m p.2 [(k,b)]with
      |some a=>some (p.1,a)
      |none=>none
     |none=>none
   |_=>match vl m s [(k,b)]with
    |some a=>some (.c4,a)
    |none=>none
 | .kill b=>match FU s b with
   |some a=>some (.c4,a)
   |none=>none
def oK(m:Nat):K→List kQ→Option (aO×K)
 |s,[]=>some (.c4,s)
 |s,c::r=>match CX m s c with
  |some p=>match oK m p.2 r with
   |some a=>some (.and p.1 a.1,a.2)
   |none=>none
  |none=>none
theorem ans{m:Nat}{s dA:K}{c:kQ}{o:aO}(h:CX m s c=some (o,dA))(b:o.holds):cg m s dA:=by
 unfold CX at h
 split at h
 ·split at h
  ·exact P3 h b
  ·cases h;exact cg.refl _
 ·split at h
  ·split at h<;>try (cases h;done)
   rename_i p e
   split at h<;>try (cases h;done)
   rename_i d a
   cases h
   exact(P3 (lH:=p.1) (j9:=p.2) e b).trans (L4 a)
  ·split at h<;>try (cases h;done)
   rename_i d a
   cases h
   exact L4 a
 ·split at h<;>try (cases h;done)
  rename_i d a
  cases h
  exact cg.kill a
theorem avT{s a:K}{b:Nat}(h:FU s b=some a):a.n.length=s.n.length:=by
 unfold FU at h
 split at h<;>try (cases h;done)
 split at h<;>try (cases h;done)
 split at h
 ·cases h;rfl
 ·rw[c9]at h
  cases h.2;rfl
theorem HT{m:Nat} : ∀{l:List kQ} {s dA:K} {o:aO},oK m s l=some (o,dA)→o.holds→cg m s dA
 |[],s,dA,o,h,_=>by cases h;exact cg.refl _
 |c::r,s,dA,o,h,a=>by
  simp only[oK]at h
  split at h<;>try (cases h;done)
  rename_i p e
  split at h<;>try (cases h;done)
  rename_i b d
  cases h
  exact(ans (o:=p.1) (dA:=p.2) e a.1).trans (HT (o:=b.1) (dA:=b.2) d a.2)
def oJ(m:Nat)(s:K)(a:List Key)(l:List kQ):Option (aO×K):=
 match a with
 |[]=>oK m s l
 |k::r=>match hq m (we s (k::r))with
  |true=>match oK m (we s (k::r)) l with
   |some p=>some (.and (jQ s (we s (k::r))) p.1,p.2)
   |none=>none
  |false=>none
theorem vY{m:Nat}{s dA:K}{b:List Key}{l:List kQ}{o:aO}(h:oJ m s b l=some (o,dA))(a:o.holds):cg m s dA:=by
 unfold oJ at h
 split at h
 ·exact HT h a
 ·split at h<;>try (cases h;done)
  rename_i c
  split at h<;>try (cases h;done)
  rename_i p d
  cases h
  exact(nH a.1 c).trans (HT (o:=p.1) (dA:=p.2) d a.2)
theorem Wn: ∀{l:List J} {i:Nat} {v:J},(yv l i v).length=l.length
 |[],_,_=>rfl
 |_::_,0,_=>rfl
 |_::l,i+1,v=>by simp only[yv,dr,Wn]
theorem azL{s:K}{k:Key}{v:J} :(Mq s k v).n.length=s.n.length:=by
 unfold Mq
 split
 ·exact Wn
 ·split
  ·exact Wn
  ·rfl
 ·rfl
 ·rfl
theorem Zr: ∀{a:List Key} {s:K},(we s a).n.length=s.n.length
 |[],_=>rfl
 |k::a,s=>by simp only[we,Zr,azL]
theorem axE{m:Nat}{s a:K}{b c:Nat}(h:F0 m s b c=some a):a.n.length=s.n.length:=by
 unfold F0 at h
 split at h<;>try (cases h;done)
 split at h<;>try (cases h;done)
 rw[c9]at h
 cases h.2
 simp
theorem L5{m:Nat} : ∀{l:List (Key×Nat)} {s a:K},vl m s l=some a→a.n.length=s.n.length
 |[],s,a,h=>by cases h;rfl
 |q::r,s,a,h=>by
  simp only[vl]at h
  split at h<;>try (cases h;done)
  split at h
  ·exact L5 h
  ·split at h<;>try (cases h;done)
   rename_i c b;rw[L5 h,axE b]
theorem Y4{s dA:K}{k:Key}{E:cD}{o:aO}(h:vX s k E=some (o,dA)):dA.n.length=s.n.length:=by
 unfold vX at h
 split at h<;>try (cases h;done)
 ·cases k<;>simp only at h<;>try (cases h;done)
  ·cases h;simp
  ·rw[c9]at h;cases h.2;rfl
 ·cases k<;>simp only at h<;>try (cases h;done)
  ·split at h<;>try (cases h;done)
   cases h;simp
  ·split at h<;>try (cases h;done)
   rw[c9]at h;cases h.2;rfl
theorem ant{m:Nat}{s dA:K}{c:kQ}{o:aO}(h:CX m s c=some (o,dA)):dA.n.length=s.n.length:=by
 unfold CX at h
 split at h
 ·split at h
  ·exact Y4 h
  ·cases h;rfl
 ·split at h
  ·split at h<;>try (cases h;done)
   rename_i p d
   split at h<;>try (cases h;done)
   rename_i b a
   cases h
   rw[L5 a,Y4 (o:=p.1) (dA:=p.2) d]
  ·split at h<;>try (cases h;done)
   rename_i b a
   cases h
   exact L5 a
 ·split at h<;>try (cases h;done)
  rename_i b a
  cases h
  exact avT a
theorem Qc{m:Nat} : ∀{l:List kQ} {s dA:K} {o:aO},oK m s l=some (o,dA)→dA.n.length=s.n.length
 |[],s,dA,o,h=>by cases h;rfl
 |c::r,s,dA,o,h=>by
  simp only[oK]at h
  split at h<;>try (cases h;done)
  rename_i p e
  split at h<;>try (cases h;done)
  rename_i a b
  cases h
  rw[Qc (o:=a.1) (dA:=a.2) b,ant (o:=p.1) (dA:=p.2) e]
theorem Y5{m:Nat}{s:K}{a:List Key}{l:List kQ}{p:aO×K}(h:oJ m s a l=some p):p.2.n.length=s.n.length:=by
 obtain⟨o,c⟩:=p;unfold oJ at h
 split at h
 ·exact Qc h
 ·split at h<;>try (cases h;done)
  split at h<;>try (cases h;done)
  rename_i p b
  cases h
  rw[Qc (o:=p.1) (dA:=p.2) b,Zr]
noncomputable def G.vW{α:Type}(s:G α)(i:Nat)(z:α):G α:=⟨s.n,fun t=>bif Nat.blt t i then s.at' t else z⟩
def G.cut{α:Type}(s:G α)(i:Nat):G α:=⟨i,s.at'⟩
theorem G.aC0{α:Type}(s:G α)(i:Nat)(z:α):(s.vW i z).n=s.n:=rfl
theorem G.Zf{α:Type}(s:G α)(i:Nat):(s.cut i).n=i:=rfl
def s6(o:Oper):Option (Nat×Nat):=
 match o.guard with
 |none=>match o.dst with
  |some d=>match o.op with
   | .move x=>match x with
     | .tmp s=>some (d,s)
     |_=>none
   |_=>none
  |none=>none
 |some _=>none
def HB(o:Oper):Option (Nat×Nat):=
 match o.guard with
 |none=>match o.dst with
  |some d=>match o.op with
   | .assign x=>match x with
     | .tmp s=>some (d,s)
     |_=>none
   |_=>none
  |none=>none
 |some _=>none
structure Ht where
 d:Nat
 T:TypeId
 x:Nat
 y:Nat
def Ws(o:Oper):Option Ht:=
 match o.guard with
 |none=>match o.dst with
  |some d=>match o.op with
   | .slice T x l h m=>match x,l,h,m with
     | .tmp x,some (.tmp y),none,none=>some ⟨d,T,x,y⟩
     |_,_,_,_=>none
   |_=>none
  |none=>none
 |some _=>none
def Wq(o:Oper):Option Ht:=
 match o.guard with
 |none=>match o.dst with
  |some d=>match o.op with
   | .slice T x l h m=>match x,l,h,m with
     | .tmp x,none,some (.tmp y),none=>some ⟨d,T,x,y⟩
     |_,_,_,_=>none
   |_=>none
  |none=>none
 |some _=>none
def PW(o:Oper):Option (Nat×TypeId):=
 match o.guard with
 |none=>match o.dst with
  |none=>match o.op with
   | .call c=>match c.callee with
     | .builtin b=>match b with
       | .clear=>match c.args.toList,c.argTypes.toList with
         |[.tmp z],[T]=>some (z,T)
         |_,_=>none
       |_=>none
     |_=>none
   |_=>none
  |some _=>none
 |some _=>none
theorem UJ{o:Oper}{d s:Nat}(h:s6 o=some (d,s)):o.guard=none∧o.dst=some d∧o.op= .move (.tmp s):=by
 unfold s6 at h
 split at h<;>try (cases h;done)
 split at h<;>try (cases h;done)
 split at h<;>try (cases h;done)
 split at h<;>cases h
 exact⟨by assumption,by assumption,by assumption⟩
theorem Yq{o:Oper}{d s:Nat}(h:HB o=some (d,s)):o.guard=none∧o.dst=some d∧o.op= .assign (.tmp s):=by
 unfold HB at h
 split at h<;>try (cases h;done)
 split at h<;>try (cases h;done)
 split at h<;>try (cases h;done)
 split at h<;>cases h
 exact⟨by assumption,by assumption,by assumption⟩
theorem aAZ{o:Oper}{p:Ht}(h:Ws o=some p):o.guard=none∧o.dst=some p.d∧o.op= .slice p.T (.tmp p.x) (some (.tmp p.y)) none none:=by
 unfold Ws at h
 split at h<;>try (cases h;done)
 split at h<;>try (cases h;done)
 split at h<;>try (cases h;done)
 split at h<;>cases h
 exact⟨by assumption,by assumption,by assumption⟩
theorem aAW{o:Oper}{p:Ht}(h:Wq o=some p):o.guard=none∧o.dst=some p.d∧o.op= .slice p.T (.tmp p.x) none (some (.tmp p.y)) none:=by
 unfold Wq at h
 split at h<;>try (cases h;done)
 split at h<;>try (cases h;done)
 split at h<;>try (cases h;done)
 split at h<;>cases h
 exact⟨by assumption,by assumption,by assumption⟩
theorem am4{o:Oper}{z:Nat}{T:TypeId}(h:PW o=some (z,T)):o.guard=none∧o.dst=none∧ ∃c,o.op= .call c∧c.callee= .builtin .clear∧c.args= #[.tmp z]∧c.argTypes= #[T]:=by
 unfold PW at h
 split at h<;>try (cases h;done)
 split at h<;>try (cases h;done)
 split at h<;>try (cases h;done)
 split at h<;>try (cases h;done)
 split at h<;>try (cases h;done)
 split at h<;>cases h
 rename_i c _ _ _ a _ _ b d;exact⟨by assumption,by assumption,_,by assumption,a,Array.toList_inj.1 b,Array.toList_inj.1 d⟩
def Mj(st:K)(E:cD)(s i:Nat)(a:Nat→Nat→IntKind→Int→Nat→(Nat→List J)→Option (aO×K)):Option (aO×K):=
 match st.n.getD s .undef with
 | .own b k=>match st.n.getD i .undef with
   | .int ft z=>match B st.k b 0 with
     | .ad c d n f=>c2 (!c&&Nat.beq d E.M) (match a b k ft z n f with
       |some q=>some (.and (.e k n) (.and (.p ((0:Int)≤z∧z<(n:Int))) (.and (E.canon f) q.1)),q.2)
       |none=>none)
     |_=>none
   |_=>none
 |_=>none
def H2(X:b3)(T:TypeId):Option (bD×cD):=
 match X.ty T with
 |some t=>match t.d with
  | .slice e b _=>match X.el e with
    |some E=>match X.ty e with
     |some a=>c2 (Nat.beq b E.M&&Nat.beq a.zero.length E.M&&Nat.beq a.size E.M) (some (a,E))
     |none=>none
    |none=>none
  |_=>none
 |none=>none
def U8:J→Bool
 | .undef=>false
 |_=>true
noncomputable def PX(X:b3)(ops:List Oper)(st:K):Option (aO×K):=
 match ops with
 |[g,h,g0,Bz]=>match s6 g with
  |some c=>match s6 h with
   |some d=>match Ws g0 with
    |some a=>match PW Bz with
     |some e=>match H2 X a.T with
      |some q=>c2 (Nat.beq a.x c.1&&Nat.beq a.y d.1&&Nat.beq e.1 a.d&&Nat.beq e.2 a.T&& !(Nat.beq c.1 d.1)&& !(Nat.beq d.2 c.1)&&Nat.blt c.1 st.n.length&&Nat.blt d.1 st.n.length&&Nat.blt a.d st.n.length&&q.1.zero.all U8)
       (Mj st q.2 c.2 d.2 fun b _ ft z n f=>some (.e (rK q.1.zero (q.2.e (q.2.d q.1.zero))) (q.2.e (q.2.d q.1.zero)),
        ⟨((st.n.set c.1 (.own b n)).set d.1 (.int ft z)).set a.d .undef,pC st.k b b (.ad false q.2.M n fun t=>q.2.e ((G.vW (q.2.ab n f) z.toNat (q.2.d q.1.zero)).at' t))⟩))
      |none=>none
     |none=>none
    |none=>none
   |none=>none
  |none=>none
 |_=>none
noncomputable def Qb(X:b3)(ops:List Oper)(st:K):Option (aO×K):=
 match ops with
 |[g,h,g0,Bz]=>match s6 g with
  |some a=>match s6 h with
   |some c=>match Wq g0 with
    |some d=>match HB Bz with
     |some e=>match H2 X d.T with
      |some q=>c2 (Nat.beq d.x a.1&&Nat.beq d.y c.1&&Nat.beq e.2 d.d&& !(Nat.beq a.1 c.1)&& !(Nat.beq c.2 a.1)&&Nat.blt a.1 st.n.length&&Nat.blt c.1 st.n.length&&Nat.blt d.d st.n.length&&Nat.blt e.1 st.n.length)
       (Mj st q.2 a.2 c.2 fun b _ ft z n f=>some (.c4,
        ⟨(((st.n.set a.1 .undef).set c.1 (.int ft z)).set d.d (.own st.k.length z.toNat)).set e.1 (.own st.k.length z.toNat),pC st.k b st.k.length (.ad false q.2.M z.toNat fun t=>q.2.e ((G.cut (q.2.ab n f) z.toNat).at' t))⟩))
      |none=>none
     |none=>none
    |none=>none
   |none=>none
  |none=>none
 |_=>none
noncomputable def Vd(X:b3)(ops:List Oper)(a:Bool)(st:K):Option (aO×K):=
 match a with
 |true=>none
 |false=>match PX X ops st with
  |some q=>some q
  |none=>Qb X ops st
section
variable {X:b3} {S:dM} {ι:Nat→Option Nat} {st:K} {a:Act} {w:World}
theorem B6{P:Program}{ops:Array Oper}{Q:Exit→Act→World→Prop}{b:List Oper}{o:Oper}(c:o.guard=none)(h:o.wp P a w (wpList P ops Q b) Q):wpList P ops Q (o::b) a w:=by
 unfold wpList;rw[bf (by simp [Region.wanted,c])];exact .inl h
theorem afz{P:Program}{o:Oper}{d s:Nat}{next:Act→World→Prop}{Q:Exit→Act→World→Prop}(h:s6 o=some (d,s))(e:next (a.put (some d) (a.eval (.tmp s))) w):o.wp P a w next Q:=by
 obtain⟨_,b,c⟩:=UJ h;refine di (v:=a.eval (.tmp s)) (w':=w) ?_ (by rw[b];exact e);simp [execOp,c]
theorem al8{P:Program}{o:Oper}{d s:Nat}{next:Act→World→Prop}{Q:Exit→Act→World→Prop}(h:HB o=some (d,s))(e:next (a.put (some d) (a.eval (.tmp s))) w):o.wp P a w next Q:=by
 obtain⟨_,b,c⟩:=Yq h;refine di (v:=a.eval (.tmp s)) (w':=w) ?_ (by rw[b];exact e);simp [execOp,c]
theorem BL(d:Nat)(v:Value)(t:Nat):(a.put (some d) v).eval (.tmp t)=if t=d∧d<a.tmps.size then v else a.eval (.tmp t):=by
 simp only[Act.eval,Act.put]
 by_cases e:t=d
 ·subst e
  by_cases h:t<a.tmps.size
  ·simp [h]
  ·simp [h]
 ·simp only[e,false_and,mx];rw[G_,G_,G9 (fun h=>e h.symm)]
theorem af7{E:cD}{s i:Nat}{d:Nat→Nat→IntKind→Int→Nat→(Nat→List J)→Option (aO×K)}{o:aO}{l:K}(h:Mj st E s i d=some (o,l))(w:o.holds):
  ∃b k ft z n f j,st.n.getD s .undef= .own b n∧st.n.getD i .undef= .int ft z∧B st.k b 0= .ad false E.M n f∧d b k ft z n f=some (j,l)∧0≤z∧z<(n:Int)∧(∀t,f t=E.e (E.d (f t)))∧j.holds:=by
 unfold Mj at h
 split at h<;>try (cases h;done)
 rename_i b k m
 split at h<;>try (cases h;done)
 rename_i ft z p
 split at h<;>try (cases h;done)
 rename_i y A n f aZ;rw[c9]at h;obtain⟨g,h⟩:=h
 split at h<;>try (cases h;done)
 rename_i q r
 cases h
 obtain⟨a,e,u,v⟩:=w;have a:k=n:=a;subst a;simp only[bL,iL]at g;obtain⟨x,c⟩:=g;have c:=dQ c;subst x c;exact⟨b,_,ft,z,_,f,q.1,m,p,aZ,r,e.1,e.2,fun t=>congrFun u t,v⟩
theorem ZB(k:X.env.dm){T:TypeId}{b:bD}{E:cD}(h:H2 X T=some (b,E)):b.zero.length=E.M∧ ∃e i z,X.P.underlying T=some (.slice e)∧X.P.info? e=some i∧i.size=E.M∧i.zero=some z∧z.cells.size=E.M∧aU kW b.zero z.cells.toList:=by
 unfold H2 at h
 split at h<;>try (cases h;done)
 rename_i t o
 split at h<;>try (cases h;done)
 rename_i e C B n
 split at h<;>try (cases h;done)
 rename_i y A
 split at h<;>try (cases h;done)
 rename_i F p;rw[c9]at h;obtain⟨g,h⟩:=h
 cases h
 simp only[bL]at g;obtain⟨⟨m,d⟩,a⟩:=g;have m:=dQ m;have d:=dQ d;have a:=dQ a;have l:=(k.ty T t o).d;rw[n]at l;obtain⟨x,i,v,D,_⟩:=l;obtain⟨c,z,f,q,r,s,u⟩:=(k.ty e b p).info;have w:c=i:=by
  have:X.P.info? e=some c:=f;have j:X.P.info? e=some i:=v;rw[this]at j;cases j;rfl
 subst w;exact⟨d,e,c,z,x,f,by rw[q,a],r,by rw[s,a],u⟩
theorem ZJ(h:aP S ι st a w){t:Nat}{av:J}(e:st.n.getD t .undef=av):bg S ι st.k w av (a.eval (.tmp t)):=by
 have:=h.eval (.tmp t);simp only[ax]at this;rwa [e]at this
theorem ahJ(h:aP S ι st a w){c d s i b n:Nat}{ft:IntKind}{z:Int}{g:J}{ops:Array Oper}{Q:Exit→Act→World→Prop}{o p:Oper}{l:List Oper}
  (j:s6 o=some (c,s)) (k:s6 p=some (d,i)) (y:c≠d) (A:i≠c) (C:c<st.n.length) (D:d<st.n.length) (r:st.n.getD s .undef= .own b n) (u:st.n.getD i .undef= .int ft z) (G:g= .undef∨g= .own b n)
  (B: ∀e,aP S ι ⟨(st.n.set c g).set d (.int ft z),st.k⟩ e w→eg S ι st.k w (.own b n) (e.eval (.tmp c))→e.eval (.tmp d)= .int ft z→wpList X.P ops Q l e w):wpList X.P ops Q (o::p::l) a w:=by
 have q:=ZJ h r;have H:=ZJ h u;have I:=bg.int H;refine B6 (UJ j).1 (afz j (B6 (UJ k).1 (afz k ?_)));have m: ∀t,t<st.n.length→t<a.tmps.size:=fun t E=>by
  obtain⟨v,F,_⟩:=h.n t _ (cI E);exact(rh.1 F).1
 have x:(a.put (some c) (a.eval (.tmp s))).eval (.tmp i)= .int ft z:=by
  rw[BL,a7 (fun f=>A f.1)];exact I
 have K:aP S ι ⟨st.n.set c g,st.k⟩ (a.put (some c) (a.eval (.tmp s))) w:=by
  rcases G with rfl|rfl
  ·exact aP.dst h (some c) (av:= .undef) trivial
  ·exact aP.dst h (some c) q
 have L:=aP.dst K (some d) (av:= .int ft z) (v:= .int ft z) (bg.mkInt _ _);rw[x];refine B _ L ?_ ?_
 ·rw[BL,a7 (fun f=>y f.1),BL,bf ⟨rfl,m _ C⟩];exact q
 ·rw[BL,bf ⟨rfl,by simp [Act.put];exact m _ D⟩]
theorem WS{E:cD}{a:bD}{z:Value}(d:aU kW a.zero z.cells.toList)(i:a.zero.all U8=true)(h:j6 a.zero (E.e (E.d a.zero)))(m:a.zero.length=E.M){j:Nat}(l:j<E.M)(w:World)(F:Nat→Prop):
  ∃av u,(E.e (E.d a.zero))[j]? =some av∧z.cells[j]? =some u∧aR w F av u:=by
 obtain⟨x,c⟩: ∃x,a.zero[j]? =some x:=⟨_,cI (by omega)⟩;obtain⟨v,e,b⟩:=d.get j x c;obtain⟨y,f,g⟩:=Me j x h c;have k:U8 x=true:=ds.1 i x (e0 c);refine⟨y,v,f,by simpa using e,U3 g ?_⟩
 cases x<;>simp only[kW]at b<;>first|exact b.elim|(subst b;constructor)|(obtain⟨rfl,d⟩:=b;exact aR.str _ (by omega))|(cases k;done)
theorem aCC{z:Array Value}{m t j:Nat}(c:t<m)(a:j<z.size):(Builtin.zeroCells z m).toList[t*z.size+j]? =z[j]? :=by
 have b:=mg c a;simp only[Builtin.zeroCells,Array.toList_map,gN,M_];rw[Array.getElem?_range];rw[bf b];simp only[rj];have:(t*z.size+j)%z.size=j:=by rw[Nat.add_comm,Nat.add_mul_mod_self_right,Nd a]
 rw[this,getElem!_pos z j a,pH a]
def Hu(X:b3)(ops:Array Oper)(st c:K):Prop:= ∀(S:dM) (ι:Nat→Option Nat) (a:Act) (w:World) (Q:Exit→Act→World→Prop),aP S ι st a w→(∀an b w',aP S an c b w'→Q .normal b w')→wpList X.P ops Q ops.toList a w
theorem Hu.wp{ops:Array Oper}{b:K}(h:Hu X ops st b)(id:Nat):WP X.env (.region id ops false) (fun e s=>e= .normal∧s=b) st:=fun S _ ι a w c=>
 wp_region_list (h S ι a w _ c fun an f w' d=>⟨an,b,d,rfl,rfl⟩)
theorem am7(mb:X.env.dm){ops:Array Oper}{eo:aO}{dA:K}(d:PX X ops.toList st=some (eo,dA))(ed:eo.holds):Hu X ops st dA:=by
 intro S ι a w Q oa S0;unfold PX at d
 split at d<;>try (cases d;done)
 rename_i yd Gd g0 Bz Qk
 split at d<;>try (cases d;done)
 rename_i dz Ql
 split at d<;>try (cases d;done)
 rename_i dF Qm
 split at d<;>try (cases d;done)
 rename_i Mn Qn
 split at d<;>try (cases d;done)
 rename_i VG an4
 split at d<;>try (cases d;done)
 rename_i q eq;obtain⟨R,E⟩:=q;rw[c9]at d;obtain⟨l,d⟩:=d;simp only[bL,iL]at l;obtain⟨⟨⟨⟨⟨⟨⟨⟨⟨gB,bG⟩,iS⟩,lU⟩,ll⟩,F⟩,H⟩,I⟩,J⟩,D⟩:=l;replace gB:=(dQ gB).symm;replace bG:=(dQ bG).symm;replace iS:=(dQ iS).symm;replace lU:=(dQ lU).symm;replace ll:=M9 ll;replace F:=M9 F;replace H:dz.1<st.n.length:=gL H;replace I:dF.1<st.n.length:=gL I;replace J:Mn.d<st.n.length:=gL J;obtain⟨Z,s⟩:=dz;obtain⟨d2,i⟩:=dF;obtain⟨aCG,aCO⟩:=VG;obtain⟨d3,T,h,aCt⟩:=Mn;simp only at gB bG iS lU ll F H I J D d;subst gB bG iS lU;obtain⟨b,e2,ft,z,n,f,Mf,jS,fJ,aZ,pd,xN,asY,Te,K_⟩:=af7 d ed;simp only[gM,tz]at pd;obtain⟨rfl,rfl⟩:=pd;have V:j6 R.zero (E.e (E.d R.zero)):=HR K_;obtain⟨W,e,inf,k,hu,A3,ni,u9,M,U⟩:=ZB mb eq;rw[Qk];refine ahJ (g:= .own b n) oa Ql Qm ll F H I jS fJ (.inr rfl) fun A adO Fy TS=> ?_;obtain⟨jA,Tx⟩:=oa.Gp aZ Fy;rcases Tx with⟨x,c,C,kV,jC,o,me,L,kB,k6⟩|⟨eW,_⟩
 case inr=>omega
 obtain⟨Sx,SE,SF⟩:=aAZ Qn;obtain⟨SJ,qt,aCY,acI,ap5,ap6,ap8⟩:=am4 an4;have asa:(Instr.sliceBounds true n c (some (.int ft z)) none none).run X.P w= .ok (z.toNat,n,c) w:=by
  simp [Instr.sliceBounds,run_sliceBound w ft z n _ xN (by omega)]
 refine B6 Sx (di (v:= .slice (some ⟨x,z.toNat*E.M,none⟩) (n-z.toNat) (c-z.toNat)) (w':=w) ?_ ?_)
 ·have je: ¬c=z.toNat:=by omega
  simp [execOp,SF,o,TS,Instr.sliceAt,eY hu,Instr.slice,asa,sizeOf,typeInfo,A3,ni,je,Addr.add];exact fun d=>d.symm
 rw[SE];have Ll:aP S ι ⟨((st.n.set Z (.own b n)).set d2 (.int ft z)).set d3 .undef,st.k⟩ (A.put (some d3) (.slice (some ⟨x,z.toNat*E.M,none⟩) (n-z.toNat) (c-z.toNat))) w:=aP.dst adO (some d3) (av:= .undef) trivial;have Th:d3<A.tmps.size:=by
  obtain⟨v,o,_⟩:=adO.n d3 _ (cI (by simpa using J));exact(rh.1 o).1
 have KW:(A.put (some d3) (.slice (some ⟨x,z.toNat*E.M,none⟩) (n-z.toNat) (c-z.toNat))).eval (.tmp d3)= .slice (some ⟨x,z.toNat*E.M,none⟩) (n-z.toNat) (c-z.toNat):=by
  rw[BL,bf ⟨rfl,Th⟩]
 generalize (A.put (some d3) (.slice (some ⟨x,z.toNat*E.M,none⟩) (n-z.toNat) (c-z.toNat)))=a3 at Ll KW;have asn:k.cells.all (fun v=>v.oneCell')=true:=by
  apply Array.all_eq_true.2;intro j N;obtain⟨av,u,_,y,Y⟩:=WS U D V W (j:=j) (by rw[←M];exact N) w (fun _=>True);rw[pH N]at y
  cases y
  exact Y.U9
 obtain⟨adT,FD⟩:(Builtin.zeroCells k.cells (n-z.toNat)).toList.length=(n-z.toNat)*E.M∧ ∀v∈(Builtin.zeroCells k.cells (n-z.toNat)).toList,v.oneCell'=true:=by
  refine⟨by simp [Builtin.zeroCells,M],fun v o=> ?_⟩;simp only[Builtin.zeroCells,Array.toList_map,ox,Array.mem_toList_iff,Array.mem_range]at o;obtain⟨t,O,rfl⟩:=o;have Lh:0<k.cells.size:=by
   rcases vC k.cells.size with e|e
   ·rw[e]at O;simp at O
   ·exact e
  have gu:=Nat.mod_lt t Lh;rw[getElem!_pos k.cells _ gu];exact Array.all_eq_true.1 asn _ gu
 have hmul:z.toNat*E.M+(n-z.toNat)*E.M=n*E.M:=by rw[←hi];congr 1;omega
 have asi:n*E.M≤C.size:=by rw[kB];exact g7 _ me
 have arE:=ag6 (P:=X.P) w T e Bz.type k hu (fun w=>by simp [zeroValue,typeInfo,A3,u9]) x (z.toNat*E.M) (n-z.toNat) (c-z.toNat) (by omega) _ rfl FD (fun j N=>by
  rw[adT]at N;rw[y5 L,pH (by omega)];rfl) (fun j _=>Db L _)
 refine B6 SJ (di (v:= .tuple #[]) (w':=w.setCells x (z.toNat*E.M) (Builtin.zeroCells k.cells (n-z.toNat)).toList) ?_ ?_)
 ·simp [execOp,acI,resolve,ap5,ap6,ap8,invoke,builtin,KW];rw[arE];rfl
 rw[qt];obtain⟨⟨tF,q1,y,Y⟩,VS,Gv,Gw,Gx,Gy⟩:=qJ x (Builtin.zeroCells k.cells (n-z.toNat)).toList (z.toNat*E.M) w C kV (0,0) L;generalize w.setCells x (z.toNat*E.M) (Builtin.zeroCells k.cells (n-z.toNat)).toList=w' at*
 have Qh:B (⟨((st.n.set Z (.own b n)).set d2 (.int ft z)).set d3 .undef,st.k⟩:K).k b 0= .ad false E.M n f:=aZ;obtain⟨an,TI,_⟩:=aP.MZ (b:=b) (bG:=b) (f:=f) (fB:=fun t=>E.e ((G.vW (E.ab n f) z.toNat (E.d R.zero)).at' t)) (ev:=n) (c:=c) (w':=w') (kd:=tF) Ll Qh jC L Gw Gx Gy VS Gv q1 (by rw[y];exact kB) jA me (fun p r b6 m=>by
  have aDV:=mg b6 m;rw[Y,adT];show∃av u,(E.e (cond (Nat.blt p z.toNat) (E.d (f p)) (E.d R.zero)))[r]? =some av∧_
  by_cases adH:p<z.toNat
  ·have l:Nat.blt p z.toNat=true:=by simpa[hj]using adH
   have:=mg adH m;rw[a7 (by omega),l,aQ,←Te];exact k6 p r b6 m
  ·have l:Nat.blt p z.toNat=false:=by
    cases e:Nat.blt p z.toNat with
    |false=>rfl
    |true=>exact absurd (gL e) (by omega)
   have eM:z.toNat*E.M≤p*E.M:=g7 _ (by omega);have gX:(p-z.toNat)*E.M=p*E.M-z.toNat*E.M:=B_ _ _ _;rw[bf ⟨by omega,by omega,by omega⟩,l,aS];obtain⟨av,u,gY,fX,h3⟩:=WS U D V W m w' (aK S ι st.k w);refine⟨av,u,gY,?_,?_⟩
   ·have O:p-z.toNat<n-z.toNat:=by omega
    have:=aCC (z:=k.cells) O (by rw[M];exact m);rw[M]at this;rw[show p*E.M+r-z.toNat*E.M=(p-z.toNat)*E.M+r by omega,this];exact fX
   ·obtain⟨aCS,ahL,aea,aeq,avh⟩:=WS U D V W m w (aK S ι st.k w);rw[gY]at aea;cases aea;rw[fX]at aeq;cases aeq;exact avh) (.inl ⟨rfl,.inr ⟨rfl,y⟩⟩)
 exact S0 an _ w' TI
theorem anr(mb:X.env.dm){ops:Array Oper}{o:aO}{R:K}(d:Qb X ops.toList st=some (o,R))(ed:o.holds):Hu X ops st R:=by
 intro S ι a w Q u S0;unfold Qb at d
 split at d<;>try (cases d;done)
 rename_i yd Gd g0 Bz Qk
 split at d<;>try (cases d;done)
 rename_i N Ql
 split at d<;>try (cases d;done)
 rename_i O Qm
 split at d<;>try (cases d;done)
 rename_i P Qn
 split at d<;>try (cases d;done)
 rename_i VG D
 split at d<;>try (cases d;done)
 rename_i q eq;obtain⟨a6,E⟩:=q;rw[c9]at d;obtain⟨I,d⟩:=d;simp only[bL,iL]at I;obtain⟨⟨⟨⟨⟨⟨⟨⟨gB,bG⟩,iS⟩,ll⟩,j⟩,k⟩,l⟩,m⟩,U⟩:=I;replace gB:=(dQ gB).symm;replace bG:=(dQ bG).symm;replace iS:=(dQ iS).symm;replace ll:=M9 ll;replace j:=M9 j;replace k:N.1<st.n.length:=gL k;replace l:O.1<st.n.length:=gL l;replace m:P.d<st.n.length:=gL m;obtain⟨V,s⟩:=N;obtain⟨W,i⟩:=O;obtain⟨Y,aCG⟩:=VG;obtain⟨d3,T,h,aCt⟩:=P;simp only at gB bG iS ll j k l m U d;subst gB bG iS;obtain⟨b,e2,ft,z,n,f,Mf,Z,fJ,aZ,H,xN,asY,Te,K_⟩:=af7 d ed;simp only[gM,tz]at H;obtain⟨rfl,rfl⟩:=H;obtain⟨T0,e,inf,aEG,hu,A3,ni,u9,A4,adr⟩:=ZB mb eq;rw[Qk];refine ahJ (g:= .undef) u Ql Qm ll j k l Z fJ (.inl rfl) fun A J Fy TS=> ?_;obtain⟨jA,Tx⟩:=u.Gp aZ Fy;rcases Tx with⟨x,c,C,kV,M,y,me,F,kB,k6⟩|⟨eW,_⟩
 case inr=>omega
 obtain⟨Sx,SE,SF⟩:=aAW Qn;obtain⟨SJ,qt,acI⟩:=Yq D;have arW:(Instr.sliceBounds true n c none (some (.int ft z)) none).run X.P w= .ok (0,z.toNat,c) w:=by
  simp [Instr.sliceBounds,run_sliceBound w ft z c _ xN (by omega)]
 have Qh:B (⟨(st.n.set V .undef).set W (.int ft z),st.k⟩:K).k b 0= .ad false E.M n f:=aZ;obtain⟨an,Ll,L⟩:=aP.MZ (b:=b) (bG:=st.k.length) (f:=f) (fB:=fun t=>E.e ((G.cut (E.ab n f) z.toNat).at' t)) (ev:=z.toNat) (c:=c) (w':=w) (kd:=C) J Qh M F rfl rfl rfl rfl (fun _ _=>rfl) F kB (by omega) (by omega) (fun p r eo gv=>by
  show∃av hA,(E.e (E.d (f p)))[r]? =some av∧_;rw[←Te];exact k6 p r (by omega) gv) (.inr ⟨fun b6=>by
   have:=u.gn b x M;omega,fun o=>sJ (bC _) o,u.L9 (bC _)⟩)
 refine B6 Sx (di (v:= .slice (some ⟨x,0,none⟩) z.toNat c) (w':=w) ?_ ?_)
 ·simp [execOp,SF,y,TS,Instr.sliceAt,eY hu,Instr.slice,arW,sizeOf,typeInfo,A3,ni,Addr.add]
 rw[SE];have Th:d3<A.tmps.size:=by
  obtain⟨v,y,_⟩:=J.n d3 _ (cI (by simpa using m));exact(rh.1 y).1
 have TI:=aP.dst Ll (some d3) (av:= .own st.k.length z.toNat) (v:= .slice (some ⟨x,0,none⟩) z.toNat c) L;have KW:(A.put (some d3) (.slice (some ⟨x,0,none⟩) z.toNat c)).eval (.tmp d3)= .slice (some ⟨x,0,none⟩) z.toNat c:=by
  rw[BL,bf ⟨rfl,Th⟩]
 refine B6 SJ (al8 D ?_);rw[KW];exact S0 an _ w (aP.dst TI (some Y) (av:= .own st.k.length z.toNat) L)
theorem ayU(b:X.env.dm){ops:Array Oper}{a:Bool}{o:aO}{dA:K}(h:Vd X ops.toList a st=some (o,dA))(c:o.holds)(id:Nat):WP X.env (.region id ops a) (fun e s=>e= .normal∧s=dA) st:=by
 unfold Vd at h
 cases a with
 |true=>cases h
 |false=>
  simp only at h
  split at h
  ·rename_i q d
   cases h
   exact(am7 b d c).wp id
  ·exact(anr b h c).wp id
end
inductive alx where
 |pure
 |own (E:cD)
 |heap
 |k7 (lp:Bool) (Zp:List Key) (l:List kQ)
 |eB (lp:Bool) (Zp:List Key) (l:List kQ) (tk:List J→K) (cY:K→List J)
structure cG where
 md:alx
 rs:List ResultVar
 bm:List (Key×aB)
 alH:K
def cG.b1(R:cG):List aB:=R.bm.map (·.2)
def cG.st(R:cG)(a:List J):K:=
 match R.md with
 | .eB _ _ _ tk _=>tk a
 |_=>x9 R.alH (R.bm.map (·.1)) a
def Mw(x y:J):J:=
 match y with
 | .arr a _ g=>match x with
   | .aA=> .arr a 0 g
   |x=>x
 | .undef=> .aA
 | .agg _=> .aA
 |_=>x
def BO:List J→List J→List J
 |x::a,y::b=>Mw x y::BO a b
 |[],_=>[]
 |x::a,[]=>x::a
def VY(x y:J):J:=
 match y with
 | .agg a=>match x with
   | .agg cs=> .agg (BO cs a)
   |x=>x
 |y=>Mw x y
def ym:List J→List J→List J
 |x::a,y::b=>VY x y::ym a b
 |[],_=>[]
 |x::a,[]=>x::a
theorem agI{x y:J}(h:Mw x y=y):gT x y:=by
 cases y<;>simp only[Mw]at h<;>try (cases h;done)
 case arr a n g=>
  cases x<;>simp only[J.arr.injEq,reduceCtorEq]at h
  ·exact h.2.1.symm
  ·obtain⟨rfl,rfl,rfl⟩:=h;exact⟨rfl,rfl,fun _ _=>rfl⟩
 all_goals (subst h;rfl)
theorem agJ: ∀{b a:List J},BO b a=a→aU gT b a
 |[],[],_=>trivial
 |[],_::_,h=>by simp [BO]at h
 |_::_,[],h=>by simp [BO]at h
 |x::b,y::a,h=>by
  simp only[BO,mw]at h;exact⟨agI h.1,agJ h.2⟩
theorem az6{x y:J}(h:VY x y=y):jN x y:=by
 cases y<;>simp only[VY]at h
 case agg a=>
  cases x<;>simp only[J.agg.injEq,reduceCtorEq]at h
  exact agJ h
 all_goals
  have:=agI h
  cases x<;>first|exact this|(simp [gT]at this;done)
theorem VZ: ∀{b a:List J},ym b a=a→aU jN b a
 |[],[],_=>trivial
 |[],_::_,h=>by simp [ym]at h
 |_::_,[],h=>by simp [ym]at h
 |x::b,y::a,h=>by
  simp only[ym,mw]at h;exact⟨az6 h.1,VZ h.2⟩
def V7(X:b3)(st:K)(r:ResultVar):Option hV:=
 match r with
 | .tmp t=>wq st.k (st.n.getD t .undef)
 | .cell t T=>iK X T fun b=>match loadT b st.k (st.n.getD t .undef)with
   |some q=>match wq st.k q.2 with
    |some a=>some (.and q.1 a.1,a.2)
    |none=>none
   |none=>none
theorem aAm{X:b3}{st:K}{r:ResultVar}{o:aO}{av:J}{c:J→Prop}(h:V7 X st r=some (o,av))(b:o.holds)(d:c av):ME X.env st r c:=by
 unfold V7 at h;unfold ME
 cases r with
 |tmp t=>exact QJ h b d
 |cell t T=>
  simp only at h ⊢;obtain⟨j,i,a⟩:=jG h;refine jH i ?_
  split at a<;>try (cases a;done)
  rename_i q e
  split at a<;>try (cases a;done)
  rename_i f g
  cases a
  exact LR (o:=q.1) (av:=q.2) e b.1 (QJ (o:=f.1) (av:=f.2) g b.2 d)
def MD(X:b3)(st:K):List ResultVar→Option (aO×List J)
 |[]=>some (.c4,[])
 |r::rs=>match V7 X st r with
  |some q=>match MD X st rs with
   |some a=>some (.and q.1 a.1,q.2::a.2)
   |none=>none
  |none=>none
theorem agV{X:b3}{st:K} : ∀{rs:List ResultVar} {o:aO} {cv:List J} {a:List J→Prop},MD X st rs=some (o,cv)→o.holds→a cv→yn X.env st rs a
 |[],o,cv,a,h,c,b=>by cases h;exact b
 |r::rs,o,cv,a,h,c,b=>by
  simp only[MD]at h
  split at h<;>try (cases h;done)
  rename_i q e
  split at h<;>try (cases h;done)
  rename_i d f
  cases h
  exact aAm (o:=q.1) (av:=q.2) e c.1 (agV (o:=d.1) (cv:=d.2) f c.2 b)
def TD(X:b3)(st:K)(r:ResultVar):Option hV:=
 match r with
 | .tmp t=>cQ (st.n.getD t .undef)
 | .cell t T=>iK X T fun a=>loadT a st.k (st.n.getD t .undef)
theorem asw{X:b3}{st:K}{r:ResultVar}{o:aO}{av:J}{a:J→Prop}(h:TD X st r=some (o,av))(e:o.holds)(b:a av):TC X.env st r a:=by
 unfold TD at h;unfold TC
 cases r with
 |tmp t=>cases h;exact b
 |cell t T=>
  simp only at h ⊢;obtain⟨f,c,d⟩:=jG h;exact jH c (LR d e b)
def A8(X:b3)(st:K):List ResultVar→Option (aO×List J)
 |[]=>some (.c4,[])
 |r::rs=>match TD X st r with
  |some q=>match A8 X st rs with
   |some a=>some (.and q.1 a.1,q.2::a.2)
   |none=>none
  |none=>none
theorem Li{X:b3}{st:K} : ∀{rs:List ResultVar} {o:aO} {cv:List J} {a:List J→Prop},A8 X st rs=some (o,cv)→o.holds→a cv→va X.env st rs a
 |[],o,cv,a,h,c,b=>by cases h;exact b
 |r::rs,o,cv,a,h,c,b=>by
  simp only[A8]at h
  split at h<;>try (cases h;done)
  rename_i q e
  split at h<;>try (cases h;done)
  rename_i d f
  cases h
  exact asw (o:=q.1) (av:=q.2) e c.1 (Li (o:=d.1) (cv:=d.2) f c.2 b)
def Mk(E:cD)(H:Heap)(x:J):Option hV:=
 match x with
 | .own b k=>match B H b 0 with
   | .ad a c n f=>c2 (!a&&Nat.beq c E.M) (some (.and (.e k n) (E.canon f),.ad false E.M n fun i=>E.e ((E.ab n f).at' i)))
   |_=>none
 | .aA=>cQ (.ad false E.M 0 fun i=>E.e ((@D E.T E.vd).at' i))
 |_=>none
theorem af8{E:cD}{H:Heap}{x:J}{o:aO}{av:J}(h:Mk E H x=some (o,av))(a:o.holds): ∃n f,av= .ad false E.M n f∧BE H E.M n f x:=by
 unfold Mk at h;unfold BE
 cases x<;>simp only[cQ]at h ⊢ <;>try (cases h;done)
 ·cases h;exact⟨0,_,rfl,rfl⟩
 ·split at h<;>try (cases h;done)
  rename_i e;rw[c9]at h;obtain⟨b,h⟩:=h
  cases h
  (try simp only[e])
  exact⟨_,_,rfl,ay.2 ⟨b,a.1,rfl,fun i _=>congrFun a.2 i⟩⟩
def V5(X:b3)(E:cD)(st:K)(rs:List ResultVar):Option hV:=
 match rs with
 |[x]=>match x with
  | .tmp t=>Mk E st.k (st.n.getD t .undef)
  | .cell t T=>iK X T fun b=>match loadT b st.k (st.n.getD t .undef)with
    |some q=>match Mk E st.k q.2 with
     |some a=>some (.and q.1 a.1,a.2)
     |none=>none
    |none=>none
 |_=>none
theorem aAk{X:b3}{E:cD}{st:K}{rs:List ResultVar}{o:aO}{av:J}(h:V5 X E st rs=some (o,av))(b:o.holds): ∃n f,av= .ad false E.M n f∧BR X.env st rs E.M n f:=by
 unfold V5 at h
 split at h<;>try (cases h;done)
 rename_i x;unfold BR
 cases x with
 |tmp t=>exact af8 h b
 |cell t T=>
  simp only at h ⊢;obtain⟨k,g,a⟩:=jG h
  split at a<;>try (cases a;done)
  rename_i q e
  split at a<;>try (cases a;done)
  rename_i c d
  cases a
  obtain⟨n,f,i,j⟩:=af8 (o:=c.1) (av:=c.2) d b.2;exact⟨n,f,i,jH g (LR (o:=q.1) (av:=q.2) e b.1 j)⟩
theorem QK{H:Heap} : ∀{b:List J} {o:aO} {cq:List J},rU H b=some (o,cq)→cq.length=b.length
 |[],o,cq,h=>by cases h;rfl
 |x::r,o,cq,h=>by
  simp only[rU]at h
  split at h<;>try (cases h;done)
  split at h<;>try (cases h;done)
  rename_i a c
  cases h
  simp [QK (o:=a.1) (cq:=a.2) c]
def ry(X:b3)(R:cG)(s:K)(c:List J):Prop:=
 match R.md with
 | .pure=> ∀b:List J→Prop,(∀a,aU jN a (R.st c).n→b a)→yn X.env s R.rs b
 | .own E=> ∃n f,c=[.ad false E.M n f]∧BR X.env s R.rs E.M n f
 | .heap=> ∀b:List J→Prop,(∀a,a.length=(R.st c).n.length→cg X.m ⟨a,s.k⟩ (R.st c)→b a)→va X.env s R.rs b
 | .k7 .. => ∀b:List J→Prop,(∀a,a.length=(R.st c).n.length→cg X.m ⟨a,s.k⟩ (R.st c)→b a)→va X.env s R.rs b
 | .eB .. => ∀b:List J→Prop,(∀a,a.length=(R.st c).n.length→cg X.m ⟨a,s.k⟩ (R.st c)→b a)→va X.env s R.rs b
def MC(a:Bool)(H:Heap)(l:List J):Option (aO×K):=
 match a with
 |true=>match rU H l with
  |some z=>some (z.1,⟨z.2,bt H (ew H l)⟩)
  |none=>none
 |false=>some (.c4,⟨l,H⟩)
theorem agT{m:Nat}{b:Bool}{H:Heap}{l:List J}{o:aO}{s:K}(h:MC b H l=some (o,s))(c:o.holds):cg m ⟨l,H⟩ s∧l.length=s.n.length:=by
 unfold MC at h
 cases b with
 |false=>cases h;exact⟨cg.refl _,rfl⟩
 |true=>
  simp only at h
  split at h<;>try (cases h;done)
  rename_i z a
  cases h
  exact⟨cg.p4 (o:=z.1) (rm:=z.2) a c,(QK (o:=z.1) (cq:=z.2) a).symm⟩
def yo(X:b3)(R:cG)(s:K):Option (aO×List J):=
 match R.md with
 | .pure=>match MD X s R.rs with
   |some q=>match pn R.bm ⟨q.2,[]⟩with
    |some a=>some (.and q.1 (.e (ym q.2 (R.st a).n) (R.st a).n),a)
    |none=>none
   |none=>none
 | .own E=>match V5 X E s R.rs with
   |some q=>match dK R.b1 [q.2]with
    |some a=>some (.and q.1 (.e a [q.2]),a)
    |none=>none
   |none=>none
 | .heap=>match A8 X s R.rs with
   |some q=>match rU s.k q.2 with
    |some z=>match pn R.bm ⟨z.2,bt s.k (ew s.k q.2)⟩with
     |some a=>c2 (hq X.m (R.st a)) (some (.and q.1 (.and z.1 (jQ ⟨z.2,bt s.k (ew s.k q.2)⟩ (R.st a))),a))
     |none=>none
    |none=>none
   |none=>none
 | .k7 c b l=>match A8 X s R.rs with
   |some q=>match MC c s.k q.2 with
    |some z=>match oJ X.m z.2 b l with
     |some p=>match pn R.bm p.2 with
      |some a=>c2 (hq X.m (R.st a)) (some (.and q.1 (.and z.1 (.and p.1 (jQ p.2 (R.st a)))),a))
      |none=>none
     |none=>none
    |none=>none
   |none=>none
 | .eB c b l _ d=>match A8 X s R.rs with
   |some q=>match MC c s.k q.2 with
    |some z=>match oJ X.m z.2 b l with
     |some p=>match dK R.b1 (d p.2)with
      |some a=>c2 (hq X.m (R.st a)) (some (.and q.1 (.and z.1 (.and p.1 (jQ p.2 (R.st a)))),a))
      |none=>none
     |none=>none
    |none=>none
   |none=>none
theorem V_{X:b3}{R:cG}{s:K}{o:aO}{cv:List J}(h:yo X R s=some (o,cv))(a:o.holds):ry X R s cv∧ ∃x,dK R.b1 x=some cv:=by
 unfold yo at h;unfold ry
 cases e:R.md<;>rw[e]at h<;>simp only at h ⊢
 ·split at h<;>try (cases h;done)
  rename_i q b
  split at h<;>try (cases h;done)
  rename_i k c
  cases h
  exact⟨fun l d=>agV (o:=q.1) (cv:=q.2) b a.1 (d _ (VZ a.2)),_,c⟩
 ·split at h<;>try (cases h;done)
  rename_i q b
  split at h<;>try (cases h;done)
  rename_i k c;simp only[gM,tz]at h;obtain⟨rfl,rfl⟩:=h;obtain⟨n,f,u,v⟩:=aAk (o:=q.1) (av:=q.2) b a.1;have w:k=[q.2]:=a.2;exact⟨⟨n,f,by rw[w,u],v⟩,_,c⟩
 ·split at h<;>try (cases h;done)
  rename_i q b
  split at h<;>try (cases h;done)
  rename_i z g
  split at h<;>try (cases h;done)
  rename_i k c;rw[c9]at h;obtain⟨j,h⟩:=h
  cases h
  exact⟨fun l d=>Li (o:=q.1) (cv:=q.2) b a.1 (d _ ((QK (o:=z.1) (cq:=z.2) g).symm.trans (zp (Bf (za a.2.2)).1)) ((cg.p4 (o:=z.1) (rm:=z.2) g a.2.1).trans (nH a.2.2 j))),_,c⟩
 ·split at h<;>try (cases h;done)
  rename_i q b
  split at h<;>try (cases h;done)
  rename_i z g
  split at h<;>try (cases h;done)
  rename_i p i
  split at h<;>try (cases h;done)
  rename_i k c;rw[c9]at h;obtain⟨j,h⟩:=h
  cases h
  obtain⟨r,t⟩:=agT (m:=X.m) (o:=z.1) (s:=z.2) g a.2.1;exact⟨fun l d=>Li (o:=q.1) (cv:=q.2) b a.1 (d _ (t.trans ((Y5 i).symm.trans (zp (Bf (za a.2.2.2)).1))) ((r.trans (vY (o:=p.1) (dA:=p.2) i a.2.2.1)).trans (nH a.2.2.2 j))),_,c⟩
 ·split at h<;>try (cases h;done)
  rename_i q b
  split at h<;>try (cases h;done)
  rename_i z g
  split at h<;>try (cases h;done)
  rename_i p i
  split at h<;>try (cases h;done)
  rename_i k c;rw[c9]at h;obtain⟨j,h⟩:=h
  cases h
  obtain⟨r,t⟩:=agT (m:=X.m) (o:=z.1) (s:=z.2) g a.2.1;exact⟨fun l d=>Li (o:=q.1) (cv:=q.2) b a.1 (d _ (t.trans ((Y5 i).symm.trans (zp (Bf (za a.2.2.2)).1))) ((r.trans (vY (o:=p.1) (dA:=p.2) i a.2.2.1)).trans (nH a.2.2.2 j))),_,c⟩
def q6(R:List aB)(c:Option Nat)(b:Bool)(a:List (Key×aB)):List aB:=
 match c with
 |some _=>match b with
  |true=> .bool::(a.map (·.2)++R)
  |false=>a.map (·.2)
 |none=>match b with
  |true=>R
  |false=>[]
structure dy (R:List aB) where
 keep:Nat
 drop:List Key
 ix:List (Key×cD)
 bm:List (Key×aB)
 ex:Option Nat
 rt:Bool
 avS:Nat
 drop2:List Key
 es:List (Key×aB)
 G:Nat→du (bm.map (·.2))→du (q6 R ex rt es)
 m:iP
 I:du (bm.map (·.2))→Prop
 kG:du (bm.map (·.2))→Nat
 post:Option (du (q6 R ex rt es)→Prop):=none
inductive cb (R:List aB):Type 1 where
 |z
 |s (l r:cb R)
 |j (J:vI) (l r:cb R)
 |c (b:Bool) (h:cb R)
 |cW (L:dy R) (h:cb R)
 |x3 (L:dy R) (h:du (L.bm.map (·.2))→cb R)
 |nn (h:cb R)
 |un (n:Nat) (h:cb R)
 |hE (i b:Nat) (h:cb R)
 |ix (l:List (Key×cD))
 |rL (Zp:List Key) (l:List kQ)
 |xT (J:vI) (ix:List kQ) (l r:cb R)
 |Vc
 |bO (st:K) (h:cb R)
 |lG (L:List (Nat×Nat))
structure alv (R:List aB):Type 1 where
 J:vI
 ix:List kQ
 l:cb R
 r:cb R
def cb.ad_{R:List aB} :cb R→Option (alv R)
 | .j J l r=>some ⟨J,[],l,r⟩
 | .xT J a l r=>some ⟨J,a,l,r⟩
 |_=>none
def LZ(m:Nat)(a:List kQ)(J:vI)(t:T K):Option (aO×K):=
 match a with
 |[]=>meet m J t
 |c::r=>match t.rG (fun s=>(oK m s (c::r)).isSome)with
  |true=>match meet m J (t.map fun s=>((oK m s (c::r)).getD (.c4,s)).2)with
   |some q=>some (.and (t.Ge fun s=>((oK m s (c::r)).getD (.c4,s)).1) q.1,q.2)
   |none=>none
  |false=>none
theorem UH{m:Nat}{g:List kQ}{J:vI}{t:T K}{o:aO}{jf:K}(h:LZ m g J t=some (o,jf))(b:o.holds):cg m t.bx jf:=by
 unfold LZ at h
 split at h
 ·exact afp h b
 ·rename_i c r
  split at h<;>try (cases h;done)
  rename_i i
  split at h<;>try (cases h;done)
  rename_i q j
  cases h
  have d:=T.yX i;have f:=T.Mg b.1;have a:=afp (o:=q.1) (jf:=q.2) j b.2;rw[T.k_]at a
  cases e:oK m t.bx (c::r)with
  |none=>rw[e]at d;cases d
  |some p=>
   rw[e]at f a;exact(HT (o:=p.1) (dA:=p.2) e f).trans a
def cb.l{R:List aB} :cb R→cb R
 | .s l _=>l
 | .j _ l _=>l
 | .c _ h=>h
 |_=> .z
def cb.r{R:List aB} :cb R→cb R
 | .s _ r=>r
 | .j _ _ r=>r
 | .c _ h=>h
 |_=> .z
def p1(a:List aB):List J:=a.map fun k=>k.av k.ln
theorem Qd: ∀a:List aB,dK a (p1 a)=some (p1 a)
 |[]=>rfl
 |k::a=>by
  have h:=Qd a;unfold p1 at h;simp only[p1,G8,dK,aB.nrm,aB.canon,h]
def sR:eR→Bool
 | .nrm _=>true
 |_=>false
def T.j3:T eR→Bool
 | .cY a=>sR a
 | .dT _ l r=>match l.j3 with
   |true=>true
   |false=>r.j3
def T.mE:T eR→Nat
 | .cY a=>match sR a with
   |true=>1
   |false=>0
 | .dT _ l r=>l.mE+r.mE
def T.om:T eR→Option K
 | .cY a=>match a with
   | .nrm s=>some s
   |_=>none
 | .dT _ l r=>match l.om with
   |some s=>some s
   |none=>r.om
def T.wrap(t:T eR)(o:aO):aO:=
 match t with
 | .cY _=>o
 | .dT b l r=>match l.j3 with
   |true=> .imp b true (l.wrap o)
   |false=> .imp b false (r.wrap o)
def T.subst(t:T eR)(u:T eR):T eR:=
 match t with
 | .cY a=>match sR a with
   |true=>u
   |false=> .cY a
 | .dT b l r=> .dT b (l.subst u) (r.subst u)
theorem T.qI: ∀{t:T eR} {s:K},t.bx= .nrm s→t.j3=true
 | .cY a,s,h=>by simp only[T.bx]at h;subst h;rfl
 | .dT b l r,s,h=>by
   simp only[T.j3]
   cases b
   ·rw[T.qI (t:=r) h];split<;>rfl
   ·rw[T.qI (t:=l) h]
theorem T.CS: ∀{t:T eR},t.mE=0→t.j3=false
 | .cY a,h=>by
   cases a<;>first|rfl|(simp [T.mE,sR]at h;done)
 | .dT b l r,h=>by
   simp only[T.mE]at h;simp only[T.j3,T.CS (t:=l) (by omega),T.CS (t:=r) (by omega)]
theorem T.AZ: ∀{t:T eR},t.j3=true→0<t.mE
 | .cY a,h=>by simp only[T.j3]at h;simp [T.mE,h]
 | .dT b l r,h=>by
   simp only[T.j3]at h;simp only[T.mE]
   split at h
   ·rename_i e;have:=T.AZ e;omega
   ·have:=T.AZ h;omega
theorem T.WE: ∀{t:T eR},t.j3=false→t.om=none
 | .cY a,h=>by cases a<;>first|rfl|(simp [T.j3,sR]at h;done)
 | .dT b l r,h=>by
   simp only[T.j3]at h
   split at h
   ·cases h
   ·rename_i e;simp only[T.om,T.WE (t:=l) (by simpa using e),T.WE h]
theorem T.U_: ∀{t:T eR} {s f:K},t.mE=1→t.bx= .nrm s→t.om=some f→s=f
 | .cY a,s,f,_,h,c=>by
   simp only[T.bx]at h;subst h;simp only[T.om]at c
   cases c;rfl
 | .dT b l r,s,f,g,h,c=>by
   simp only[T.mE]at g;simp only[T.om]at c
   cases b
   ·have u:=T.AZ (T.qI (t:=r) h);rw[T.WE (t:=l) (T.CS (by omega))]at c;exact T.U_ (t:=r) (by omega) h c
   ·have k:=T.AZ (T.qI (t:=l) h)
    split at c
    ·cases c
     rename_i e;exact T.U_ (t:=l) (by omega) h e
    ·rename_i e;obtain⟨s2,i⟩: ∃s2,l.om=some s2:=by
      have:=T.qI (t:=l) h;clear c g h k;revert e;have o: ∀{t:T eR},t.j3=true→ ∃s2,t.om=some s2:=by
       intro t
       induction t with
       |cY a=>intro d;cases a<;>first|exact⟨_,rfl⟩|(simp [T.j3,sR]at d;done)
       |dT b l r m n=>
        intro d;simp only[T.j3]at d;simp only[T.om]
        split at d
        ·rename_i e;obtain⟨s2,h⟩:=m e;rw[h];exact⟨_,rfl⟩
        ·cases p:l.om with
         |some q=>exact⟨q,rfl⟩
         |none=>exact n d
      obtain⟨s2,j⟩:=o this;intro e;rw[j]at e;cases e
     rw[i]at e;cases e
theorem T.WR: ∀{t:T eR} {s:K} {o:aO},t.mE=1→t.bx= .nrm s→(t.wrap o).holds→o.holds
 | .cY a,s,o,_,_,h=>h
 | .dT b l r,s,o,e,c,h=>by
   simp only[T.mE]at e;simp only[T.wrap]at h
   cases b
   ·have f:=T.AZ (T.qI (t:=r) c);rw[T.CS (t:=l) (by omega)]at h;exact T.WR (t:=r) (by omega) c (h rfl)
   ·have d:=T.qI (t:=l) c;rw[d]at h;exact T.WR (t:=l) (by have:=T.AZ d;omega) c (h rfl)
theorem T.GO{u:T eR} : ∀{t:T eR} {s:K},t.bx= .nrm s→(t.subst u).bx=u.bx
 | .cY a,s,h=>by simp only[T.bx]at h;subst h;rfl
 | .dT b l r,s,h=>by
   cases b
   ·exact T.GO (t:=r) h
   ·exact T.GO (t:=l) h
theorem T.GN{u:T eR} : ∀{t:T eR},sR t.bx=false→(t.subst u).bx=t.bx
 | .cY a,h=>by simp only[T.bx]at h;simp only[T.subst,h,T.bx]
 | .dT b l r,h=>by
   cases b
   ·exact T.GN (t:=r) h
   ·exact T.GN (t:=l) h
def F_:eR→Option K
 | .nrm s=>some s
 |_=>none
def FJ:eR→Option eR
 | .nrm _=>none
 | .dead=>none
 |x=>some x
def LB:eR→Option Bool
 | .nrm _=>some true
 | .dead=>none
 |_=>some false
def FG(id:Nat):eR→eR
 | .ext j s=>match Nat.beq j id with
   |true=> .nrm s
   |false=> .ext j s
 |x=>x
def HA(a b:Option Prop):Option Prop:=
 match a with
 |none=>b
 |some p=>match b with
  |none=>some p
  |some q=>some (p∧q)
def qE(a:Option Prop)(o:aO):aO:=
 match a with
 |none=>o
 |some p=> .u1 p o
section
variable {R:List aB}
def dy.ends(L:dy R):Bool:=
 match L.ex with
 |some _=>true
 |none=>L.rt
def dy.cM(L:dy R)(a:K):K:=CF L.keep L.drop a
def dy.dD(L:dy R)(cM:K)(s:du (L.bm.map (·.2))):K:=x9 cM (L.bm.map (·.1)) (du.gS (L.bm.map (·.2)) s)
def dy.jf(L:dy R)(cM:K)(a:List J):K:=x9 (CF L.avS L.drop2 cM) (L.es.map (·.1)) a
def dy.Gc(L:dy R)(s:K):Option (du (L.bm.map (·.2))):=
 match pn L.bm s with
 |some a=>q4 _ a
 |none=>none
def dy.out(L:dy R)(c:eR):Option (List J):=
 match c with
 | .ext _ s=>match pn L.es s with
   |some a=>match L.ex with
    |some _=>match L.rt with
     |true=>some (.bool false::(a++p1 R))
     |false=>some a
    |none=>none
   |none=>none
 | .ret b=>match L.rt with
   |true=>match L.ex with
    |some _=>some (.bool true::(p1 (L.es.map (·.2))++b))
    |none=>some b
   |false=>none
 |_=>none
def dy.Bl(L:dy R)(k:Nat)(cY:eR):Option (du (q6 R L.ex L.rt L.es)):=
 match cY with
 | .nrm s=>match L.Gc s with
   |some b=>some (L.G k b)
   |none=>none
 | .dead=>none
 |cY=>match L.out cY with
  |some a=>q4 _ a
  |none=>none
def dy.MF(L:dy R)(t:T eR)(k:Nat):du (q6 R L.ex L.rt L.es):=
 match t.prune (L.Bl k)with
 |some a=>a.jP L.m
 |none=>du.ln _
def dy.MG(L:dy R)(t:T eR)(k:Nat):gP:=
 match t.prune (L.Bl k)with
 |some a=>a.y7 L.m
 |none=> .c4
def ahh(a:Option Nat)(id:Nat):Bool:=
 match a with
 |some i=>Nat.beq id i
 |none=>false
def dy.VI(L:dy R)(a:List J):aO:=
 match L.post with
 |some p=>match q4 (q6 R L.ex L.rt L.es) a with
  |some b=> .p (p b)
  |none=> .p False
 |none=> .c4
def dy.xZ(L:dy R)(cM:K)(s:du (L.bm.map (·.2)))(d:eR):aO:=
 match d with
 | .nrm b=>match L.Gc b with
   |some c=> .and (jQ b (L.dD cM c)) (.p (L.I c∧L.kG c<L.kG s))
   |none=> .p False
 | .ext id b=>match ahh L.ex id with
   |true=>match pn L.es b with
    |some a=>match L.out (.ext id b)with
     |some w=> .and (jQ b (L.jf cM a)) (L.VI w)
     |none=> .p False
    |none=> .p False
   |false=> .p False
 | .ret e=>match L.out (.ret e)with
   |some _=> .c4
   |none=> .p False
 | .dead=> .c4
def adm(l:List J):Bool:=
 match l with
 | .bool b::_=>b
 |_=>false
def dy.res(L:dy R)(cM:K)(a:du (q6 R L.ex L.rt L.es)):T eR:=
 match L.ex with
 |some id=>match L.rt with
  |true=> .dT (adm (du.gS _ a)) (.cY (.ret ((du.gS _ a).drop (1+L.es.length)))) (.cY (.ext id (L.jf cM (((du.gS _ a).drop 1).take L.es.length))))
  |false=> .cY (.ext id (L.jf cM (du.gS _ a)))
 |none=>match L.rt with
  |true=> .cY (.ret (du.gS _ a))
  |false=> .cY .dead
def dy.fact(L:dy R)(a:du (q6 R L.ex L.rt L.es)):Option Prop:=
 match L.post with
 |some p=>match L.rt with
  |true=>none
  |false=>some (p a)
 |none=>none
end
def cb.pre{R:List aB}(m:Nat)(st:K):cb R→Option (aO×K)
 | .rL a l=>oJ m st a l
 |_=>some (.c4,st)
theorem cb.azG{R:List aB}{m:Nat}{st dA:K}{o:aO} : ∀{h:cb R},h.pre m st=some (o,dA)→o.holds→cg m st dA:=fun {h} e a=>by
 unfold cb.pre at e
 split at e
 ·exact vY e a
 ·cases e;exact cg.refl _
noncomputable def GI{R:List aB}(m:Nat)(f g:cb R→K→iu)(h:cb R)(st:K):iu:=
 match h.ad_ with
 |some z=>match(f z.l st).t.prune F_ with
  |some a=>match LZ m z.ix z.J a with
   |some q=>match(f z.l st).t.prune FJ with
    |none=>⟨.and (f z.l st).o (qE (f z.l st).f (.and q.1 (g z.r q.2).o)),HA (f z.l st).f (g z.r q.2).f,(g z.r q.2).t⟩
    |some b=>match(f z.l st).t.prune LB with
     |some fu=>⟨.and (f z.l st).o (qE (f z.l st).f (.and q.1 (.and (.es fun _:Unit=>fu.y7 z.J.pm) (.imp (fu.jP z.J.pm) true (g z.r q.2).o)))),(f z.l st).f,.dT (fu.jP z.J.pm) (g z.r q.2).t b⟩
     |none=> .bad
   |none=> .bad
  |none=> .bad
 |none=>match(f h.l st).t.mE with
  |0=>f h.l st
  |1=>match(f h.l st).t.om with
   |some s=>⟨.and (f h.l st).o (qE (f h.l st).f ((f h.l st).t.wrap (g h.r s).o)),(match(f h.l st).t with
    | .cY _=>HA (f h.l st).f (g h.r s).f
    |_=>(f h.l st).f),(f h.l st).t.subst (g h.r s).t⟩
   |none=> .bad
  |_=> .bad
noncomputable def E9{R:List aB}(m:Nat)(g:cb R→K→iu)(h:cb R)(st:K):iu:=
 match h with
 | .bO a b=>match hq m a with
   |true=>⟨.and (jQ st a) (g b a).o,(g b a).f,(g b a).t⟩
   |false=> .bad
 |h=>g h st
noncomputable def GZ{R:List aB}(m:Nat)(f:cb R→K→iu):Nat→cb R→K→iu
 |0,h,st=>match(f h st).t.j3 with
  |true=> .bad
  |false=>f h st
 |n+1,h,st=>GI m f (E9 m (GZ m f n)) h st
noncomputable def exec(X:b3)(R:cG):Code→cb R.b1→K→iu
 | .skip,h,st=>match h with
   | .rL f l=>match oJ X.m st f l with
     |some p=>⟨p.1,none,.cY (.nrm p.2)⟩
     |none=> .bad
   |_=>⟨.c4,none,.cY (.nrm st)⟩
 | .label _,_,st=>⟨.c4,none,.cY (.nrm st)⟩
 | .region _ ops e,h,st=>match h with
   | .hE i b a=>match a.pre X.m st with
     |none=> .bad
     |some p=>match p.2.n.getD i .undef with
      | .ptr g o=>match(Nat.beq g b&&Nat.beq o 0)with
        |true=>match(p.2.k.getD b []).all mD&&vj ⟨p.2.n.set i (.ref (p.2.k.getD b [])),setAt [] p.2.k b []⟩&&hq X.m ⟨p.2.n.set i (.ref (p.2.k.getD b [])),setAt [] p.2.k b []⟩&&Nat.blt i p.2.n.length with
         |true=>⟨.and p.1 (jD X ops e ⟨p.2.n.set i (.ref (p.2.k.getD b [])),setAt [] p.2.k b []⟩).o,none,(jD X ops e ⟨p.2.n.set i (.ref (p.2.k.getD b [])),setAt [] p.2.k b []⟩).t⟩
         |false=> .bad
        |false=> .bad
      |_=> .bad
   | .ix l=>match y8 st l with
     |some p=>⟨.and p.1 (jD X ops e p.2).o,none,(jD X ops e p.2).t⟩
     |none=> .bad
   | .rL f l=>match oJ X.m st f l with
     |some p=>⟨.and p.1 (jD X ops e p.2).o,none,(jD X ops e p.2).t⟩
     |none=> .bad
   | .lG L=>match e with
     |true=>tg X ops L st
     |false=> .bad
   | .Vc=>match Vd X ops.toList e st with
     |some p=>⟨p.1,none,.cY (.nrm p.2)⟩
     |none=> .bad
   |h=>match h.ad_ with
    |some z=>match(jD X ops e st).t.prune F_ with
     |some j=>match LZ X.m z.ix z.J j with
      |some q=>⟨.and (jD X ops e st).o q.1,none,.cY (.nrm q.2)⟩
      |none=> .bad
     |none=> .bad
    |none=>jD X ops e st
 | .exit id,h,st=>match h with
   | .rL f l=>match oJ X.m st f l with
     |some p=>⟨p.1,none,.cY (.ext id p.2)⟩
     |none=> .bad
   |_=>⟨.c4,none,.cY (.ext id st)⟩
 | .ret,h,st=>match h with
   | .rL f l=>match oJ X.m st f l with
     |some p=>match yo X R p.2 with
      |some q=>⟨.and p.1 q.1,none,.cY (.ret q.2)⟩
      |none=> .bad
     |none=> .bad
   |_=>match yo X R st with
    |some q=>⟨q.1,none,.cY (.ret q.2)⟩
    |none=> .bad
 | .block id x,h,st=>⟨(exec X R x h st).o,(exec X R x h st).f,(exec X R x h st).t.map (FG id)⟩
 | .cond c x y,h,st=>match ax st.n c with
   | .lit b=>match b with
     |true=>exec X R x h.l st
     |false=>exec X R y h.r st
   | .bool b=>match h with
     | .c g a=>match g with
       |true=>⟨.and (.e b true) (exec X R x a st).o,(exec X R x a st).f,(exec X R x a st).t⟩
       |false=>⟨.and (.e b false) (exec X R y a st).o,(exec X R y a st).f,(exec X R y a st).t⟩
     |h=>⟨.and (.imp b true (exec X R x h.l st).o) (.imp b false (exec X R y h.r st).o),none,.dT b (exec X R x h.l st).t (exec X R y h.r st).t⟩
   |_=> .bad
 | .seq x y,h,st=>GI X.m (exec X R x) (E9 X.m (exec X R y)) h st
 | .loop x,h,st=>match h with
   | .nn a=>match(exec X R x a st).t.j3 with
     |true=> .bad
     |false=>exec X R x a st
   | .un n a=>GZ X.m (exec X R x) n a st
   | .cW L a=>match y8 st L.ix with
     |none=> .bad
     |some p=>match L.ends with
      |false=> .bad
      |true=>match L.Gc p.2 with
       |none=> .bad
       |some d=>⟨.and p.1 (.and (jQ p.2 (L.dD (L.cM p.2) d)) (.and (.p (L.I d)) (.and (.e (fun s=>hq X.m (L.dD (L.cM p.2) s)) fun _=>true) (.and (.e (fun v=>hq X.m (L.jf (L.cM p.2) (du.gS (L.es.map (·.2)) v))) fun _=>true)
         (.all (L.bm.map (·.2)) L.I fun s=> .and (exec X R x a (L.dD (L.cM p.2) s)).o (.and (qE (exec X R x a (L.dD (L.cM p.2) s)).f ((exec X R x a (L.dD (L.cM p.2) s)).t.ye (L.xZ (L.cM p.2) s)))
           (.es fun k:Nat=> .and (.e (L.G (k+1) s) (L.MF (exec X R x a (L.dD (L.cM p.2) s)).t k)) (L.MG (exec X R x a (L.dD (L.cM p.2) s)).t k)))))))),
         L.fact (L.G (L.kG d+1) d),L.res (L.cM p.2) (L.G (L.kG d+1) d)⟩
   | .x3 L a=>match y8 st L.ix with
     |none=> .bad
     |some p=>match L.ends with
      |false=> .bad
      |true=>match L.Gc p.2 with
       |none=> .bad
       |some d=>⟨.and p.1 (.and (jQ p.2 (L.dD (L.cM p.2) d)) (.and (.p (L.I d)) (.and (.e (fun s=>hq X.m (L.dD (L.cM p.2) s)) fun _=>true) (.and (.e (fun v=>hq X.m (L.jf (L.cM p.2) (du.gS (L.es.map (·.2)) v))) fun _=>true)
         (.all (L.bm.map (·.2)) L.I fun s=> .and (exec X R x (a s) (L.dD (L.cM p.2) s)).o (.and (qE (exec X R x (a s) (L.dD (L.cM p.2) s)).f ((exec X R x (a s) (L.dD (L.cM p.2) s)).t.ye (L.xZ (L.cM p.2) s)))
           (.es fun k:Nat=> .and (.e (L.G (k+1) s) (L.MF (exec X R x (a s) (L.dD (L.cM p.2) s)).t k)) (L.MG (exec X R x (a s) (L.dD (L.cM p.2) s)).t k)))))))),
         L.fact (L.G (L.kG d+1) d),L.res (L.cM p.2) (L.G (L.kG d+1) d)⟩
   |_=> .bad
 |_,_,_=> .bad
section
def jt(X:b3)(R:cG)(a:eR)(e:Exit)(s:K):Prop:=
 match e with
 | .normal=>match a with
   | .nrm b=>cg X.m s b
   |_=>False
 | .exit id=>match a with
   | .ext c b=>id=c∧cg X.m s b
   |_=>False
 | .ret=>match a with
   | .ret d=>ry X R s d
   |_=>False
 |_=>False
theorem awK{b:List (Key×aB)}{s:K}{a:List J}(h:pn b s=some a): ∃c,q4 (b.map (·.2)) a=some c∧du.gS (b.map (·.2)) c=a:=By h
theorem UZ: ∀{g c:List aB} {aa b d f:List J},dK g aa=some d→dK c b=some f→dK (g++c) (aa++b)=some (d++f)
 |[],c,[],b,d,f,h,k=>by cases h;exact k
 |[],_,_::_,_,_,_,h,_=>by cases h
 |_::_,_,[],_,_,_,h,_=>by cases h
 |k::g,c,a::aa,b,d,f,h,j=>by
  simp only[dK]at h
  split at h<;>try (cases h;done)
  rename_i y e
  split at h<;>try (cases h;done)
  rename_i l i
  cases h
  have:=UZ i j;simp only[vF,dK,e,this]
theorem vo: ∀{c:List aB} {aa b:List J},dK c aa=some b→b.length=c.length
 |[],[],b,h=>by cases h;rfl
 |[],_::_,_,h=>by cases h
 |_::_,[],_,h=>by cases h
 |k::c,a::aa,b,h=>by
  simp only[dK]at h
  split at h<;>try (cases h;done)
  split at h<;>try (cases h;done)
  rename_i e d
  cases h
  simp [vo d]
section
variable {R:List aB}
theorem dy.af6{L:dy R}{d:eR}{w:List J}(h:L.out d=some w)(j: ∀b,d= .ret b→ ∃xs,dK R xs=some b): ∃g,q4 (q6 R L.ex L.rt L.es) w=some g∧du.gS _ g=w:=by
 unfold dy.out at h;unfold q6
 cases d<;>simp only at h<;>try (cases h;done)
 ·rename_i id s
  split at h<;>try (cases h;done)
  rename_i a e
  split at h<;>try (cases h;done)
  rename_i i k
  cases c:L.rt<;>rw[c]at h<;>cases h
  ·simp only;exact By e
  ·simp only;exact By (xs:= .bool false::(getAll s (L.es.map (·.1))++p1 R)) (by
    have:=UZ e (Qd R);simp only[dK,aB.nrm,aB.rd,af.V1,aB.av,this])
 ·rename_i b;obtain⟨xs,f⟩:=j b rfl
  cases c:L.rt<;>rw[c]at h<;>simp only at h<;>try (cases h;done)
  split at h
  ·cases h
   simp only;exact By (xs:= .bool true::(p1 (L.es.map (·.2))++xs)) (by
    have:=UZ (Qd (L.es.map (·.2))) f;simp only[dK,aB.nrm,aB.rd,af.V1,aB.av,this])
  ·cases h
   simp only;exact By f
end
structure yU (X:b3) (R:cG) (W:(Exit→K→Prop)→K→Prop) (st:K) (r:iu):Prop where
 wp:W (jt X R r.t.bx) st
 f: ∀p,r.f=some p→p
 ret: ∀cv,r.t.bx= .ret cv→ ∃xs,dK R.b1 xs=some cv
 live:r.t.bx≠ .dead
abbrev oD(X:b3)(R:cG)(c:Code)(st:K)(r:iu):Prop:=yU X R (WP X.env c) st r
set_option maxHeartbeats 1000000
theorem adn(b:Bool)(l:List J):adm (.bool b::l)=b:=rfl
theorem WP.afh{X:b3}{R:cG}{x:Code}{st:K}(L:dy R.b1)(n:K)(t:du (L.bm.map (·.2)))(m:du (L.bm.map (·.2))→iu)(M:L.ends=true)
  (iF: ∀s,(m s).o.holds→oD X R x (L.dD (L.cM n) s) (m s))
  (hle:cg X.m st (L.dD (L.cM n) t)) (U:L.I t) (eo: ∀s,hq X.m (L.dD (L.cM n) s)=true) (k7: ∀b6,hq X.m (L.jf (L.cM n) (du.gS (L.es.map (·.2)) b6))=true)
  (V: ∀s,L.I s→(m s).o.holds∧(qE (m s).f ((m s).t.ye (L.xZ (L.cM n) s))).holds∧ ∀k:Nat,L.G (k+1) s=L.MF (m s).t k∧(L.MG (m s).t k).holds)
  (e2:aO):oD X R (.loop x) st ⟨e2,L.fact (L.G (L.kG t+1) t),L.res (L.cM n) (L.G (L.kG t+1) t)⟩:=by
 have S: ∀s,L.I s→oD X R x (L.dD (L.cM n) s) (m s):=fun s d=>iF s (V s d).1;have Z: ∀s,L.I s→(L.xZ (L.cM n) s (m s).t.bx).holds:=fun s d=>by
  obtain⟨g,B,_⟩:=V s d;have o:=(iF s g).f;unfold qE at B
  cases e:(m s).f with
  |none=>rw[e]at B;exact T.Gf B
  |some p=>rw[e]at B;exact T.Gf (B (o p e))
 have TF: ∀s,L.I s→ ∀k b,L.Bl k (m s).t.bx=some b→L.G (k+1) s=b:=fun s d k b asZ=>by
  obtain⟨_,_,o⟩:=V s d;obtain⟨O,z⟩:=o k;rw[O];obtain⟨aEA,jS,fJ⟩:=T.mn asZ;unfold dy.MF;unfold dy.MG at z;rw[jS]at z ⊢;simp only at z ⊢;rw[T.CU z,fJ]
 have adE: ∀s,L.I s→ ∀f,(m s).t.bx= .nrm f→ ∃b,L.Gc f=some b∧(jQ f (L.dD (L.cM n) b)).holds∧L.I b∧L.kG b<L.kG s∧ ∀k,L.G (k+1) s=L.G k b:=fun s d f c=>by
  have g:=Z s d;rw[c]at g;simp only[dy.xZ]at g
  split at g
  ·rename_i b H4;exact⟨b,H4,g.1,g.2.1,g.2.2,fun k=>TF s d k _ (by rw[c];simp only[dy.Bl,H4])⟩
  ·exact g.elim
 have Y: ∀s,L.I s→ ∀id f,(m s).t.bx= .ext id f→L.ex=some id∧ ∃a w b,pn L.es f=some a∧L.out (.ext id f)=some w∧q4 _ w=some b∧du.gS _ b=w∧(jQ f (L.jf (L.cM n) a)).holds∧(L.VI w).holds∧ ∀k,L.G (k+1) s=b:=fun s d id f c=>by
  have g:=Z s d;rw[c]at g;simp only[dy.xZ]at g
  split at g<;>try exact g.elim
  rename_i N
  split at g<;>try exact g.elim
  rename_i a H
  split at g<;>try exact g.elim
  rename_i w l;obtain⟨b,C,D⟩:=dy.af6 l (fun j e=>by cases e);refine⟨?_,a,w,b,H,l,C,D,g.1,g.2,fun k=>TF s d k b (by rw[c];simp only[dy.Bl,l,C])⟩;unfold ahh at N
  split at N
  ·rename_i i e;rw[e,dQ N]
  ·cases N
 have TE: ∀s,L.I s→ ∀j,(m s).t.bx= .ret j→L.rt=true∧ ∃w b,L.out (.ret j)=some w∧q4 _ w=some b∧du.gS _ b=w∧ ∀k,L.G (k+1) s=b:=fun s d j c=>by
  have g:=Z s d;rw[c]at g;simp only[dy.xZ]at g
  split at g<;>try exact g.elim
  rename_i w l;obtain⟨b,C,D⟩:=dy.af6 l (fun aBX e=>by cases e;exact(S s d).ret _ c);refine⟨?_,w,b,l,C,D,fun k=>TF s d k b (by rw[c];simp only[dy.Bl,l,C])⟩
  cases r:L.rt with
  |true=>rfl
  |false=>
   simp only[dy.out]at l
   split at l
   ·rename_i zh;rw[r]at zh;cases zh
   ·cases l
 have ads: ∀(q:du (q6 R.b1 L.ex L.rt L.es)→Prop),(∀s,L.I s→ ∀b,(∀id f,(m s).t.bx= .ext id f→L.G 1 s=b→q b)∧(∀j,(m s).t.bx= .ret j→L.G 1 s=b→q b))→ ∀(k:Nat) s,L.I s→L.kG s≤k→q (L.G (k+1) s):=fun q iI k=>by
  induction k using Nat.strongRecOn with
  |_ k kE=>
   intro s d jB
   cases c:(m s).t.bx with
   |nrm f=>
    obtain⟨b,_,_,o,O,z⟩:=adE s d f c;obtain⟨A,rfl⟩: ∃A,k=A+1:=⟨k-1,by omega⟩;rw[z];exact kE A (by omega) b o (by omega)
   |ext id f=>
    obtain⟨_,a,w,b,_,_,_,_,_,_,u⟩:=Y s d id f c;rw[u];exact(iI s d b).1 id f c (u 0)
   |ret j=>
    obtain⟨_,w,b,_,_,_,u⟩:=TE s d j c;rw[u];exact(iI s d b).2 j c (u 0)
   |dead=>exact absurd c (S s d).live
 have adK: ∀s,L.I s→ ∀id f,(m s).t.bx= .ext id f→ ∀k,∃a,(jQ f (L.jf (L.cM n) a)).holds∧hq X.m (L.jf (L.cM n) a)=true∧(L.res (L.cM n) (L.G (k+1) s)).bx= .ext id (L.jf (L.cM n) a):=fun s d id f c k=>by
  obtain⟨W,a,w,b,H,l,C,D,z,_,u⟩:=Y s d id f c;obtain⟨b6,v1,v2⟩:=awK H;have adI:=k7 b6;rw[v2]at adI;refine⟨a,z,adI,?_⟩;rw[u k];simp only[dy.out,H,W]at l;simp only[dy.res,D]
  split
  ·rename_i i v;rw[W]at v
   cases v
   split
   ·rename_i r
    split at l
    ·cases l
     simp only[adn,T.bx];have Q:=vo H;simp only[List.length_map]at Q;simp only[List.drop_one,List.tail_cons,←Q,List.take_left']
    ·rename_i I;rw[r]at I;cases I
   ·rename_i r
    split at l
    ·rename_i I;rw[r]at I;cases I
    ·cases l
     rfl
  ·rename_i v;rw[W]at v
   cases v
 have adM: ∀s,L.I s→ ∀j,(m s).t.bx= .ret j→ ∀k,(L.res (L.cM n) (L.G (k+1) s)).bx= .ret j:=fun s d j c k=>by
  obtain⟨TH,w,b,l,C,D,u⟩:=TE s d j c;rw[u k];simp only[dy.out,TH]at l;simp only[dy.res,D]
  split
  ·rename_i i v
   split at l
   ·cases l
    split
    ·simp only[adn,T.bx];have Q:(p1 (L.es.map (·.2))).length=L.es.length:=by simp [p1]
     rw[Nat.add_comm,List.drop_succ_cons,←Q,List.drop_left]
    ·rename_i r;rw[TH]at r;cases r
   ·rename_i e;rw[v]at e;cases e
  ·rename_i v
   split at l
   ·rename_i e;rw[v]at e;cases e
   ·cases l
    split
    ·rfl
    ·rename_i r;rw[TH]at r;cases r
 refine⟨?_,?_,?_,?_⟩
 ·refine WP.le hle (WP.loop (α:=du (L.bm.map (·.2))×Nat) (fun p=>L.dD (L.cM n) p.1) (fun p=>L.I p.1∧L.kG p.1≤p.2∧L.G (p.2+1) p.1=L.G (L.kG t+1) t) (fun p=>L.kG p.1) (t,L.kG t) ⟨U,bC _,rfl⟩ (cg.refl _) fun p asq=> ?_);obtain⟨s,k⟩:=p;obtain⟨J,jB,P⟩:=asq;simp only at J jB P;refine(S s J).wp.mono fun e s1 y=> ?_
  cases e<;>simp only[jt]at y<;>try exact y.elim
  ·
   split at y<;>try exact y.elim
   rename_i f c;obtain⟨b,g,B,o,O,z⟩:=adE s J f c;obtain⟨A,rfl⟩: ∃A,k=A+1:=⟨k-1,by omega⟩;have E:L.kG b≤A:=by omega
   have u:L.G (A+1) b=L.G (L.kG t+1) t:=(z (A+1)).symm.trans P;exact⟨(b,A),⟨o,E,u⟩,O,y.trans (nH B (eo b))⟩
  ·
   split at y<;>try exact y.elim
   rename_i aD_ f c;obtain⟨rfl,ar9⟩:=y;obtain⟨a,g,B,o⟩:=adK s J _ f c k;rw[P]at o;show jt X R (L.res (L.cM n) _).bx (.exit _) s1;rw[o];exact⟨rfl,ar9.trans (nH g B)⟩
  ·
   split at y<;>try exact y.elim
   rename_i j c;have o:=adM s J j c k;rw[P]at o;show jt X R (L.res (L.cM n) _).bx .ret s1;rw[o];exact y
 ·
  intro p G;simp only[dy.fact]at G
  split at G<;>try (cases G;done)
  rename_i q Ia
  split at G<;>try (cases G;done)
  rename_i r
  cases G
  refine ads q (fun s d b=>⟨fun id f c F=> ?_,fun j c _=> ?_⟩) _ t U (bC _)
  ·obtain⟨_,a,w,aEH,_,_,C,_,_,E,u⟩:=Y s d id f c;rw[u 0]at F;subst F;unfold dy.VI at E;rw[Ia]at E;simp only[C]at E;exact E
  ·have:=(TE s d j c).1;rw[r]at this;cases this
 ·refine ads (fun b=> ∀j,(L.res (L.cM n) b).bx= .ret j→ ∃xs,dK R.b1 xs=some j) (fun s d b=>⟨fun id f c F j c3=> ?_,fun j c F aBX c3=> ?_⟩) _ t U (bC _)
  ·obtain⟨a,_,_,o⟩:=adK s d id f c 0;rw[F,c3]at o
   cases o
  ·have o:=adM s d j c 0;rw[F,c3]at o
   cases o
   exact(S s d).ret _ c
 ·simp only[dy.res]
  split
  ·split
   ·intro h;simp only[T.bx]at h
    split at h<;>cases h
   ·intro h;cases h
  ·split
   ·intro h;cases h
   ·rename_i v _ r;unfold dy.ends at M;rw[v]at M;simp only at M;rw[r]at M;cases M
theorem Gk{X:b3}{ops:Array Oper} : ∀(l:List Oper) (i:Nat) (st:K) (rs:List Rec) (o:aO) (t:T pV),pt X ops l i st rs=some (o,t)→o.holds→t.bx≠none
 |[],i,st,rs,o,t,h,a=>by cases h;intro h;cases h
 |p::l,i,st,rs,o,t,h,a=>by
  simp only[pt,Fz]at h
  split at h<;>try (cases h;done)
  split at h
  ·exact Gk l _ _ _ o t h a
  ·split at h
   ·cases h;exact a.elim
   split at h<;>try (cases h;done)
   split at h
   ·rename_i b f
    split at h<;>try (cases h;done)
    rename_i q1 c
    split at h<;>try (cases h;done)
    rename_i d e
    cases h
    cases b
    ·exact Gk l _ _ _ d.1 d.2 e (a.2.2 rfl)
    ·exact Gk l _ _ _ q1.1 q1.2 c (a.2.1 rfl)
   ·split at h<;>try (cases h;done)
    rename_i q c
    cases h
    exact Gk l _ _ _ q.1 q.2 c a.2
theorem Gi{X:b3}{ops:Array Oper} : ∀(l:List Oper) (i:Nat) (st:K) (rs:List Rec) (o:aO) (t:T pV),ta X ops l i st rs=some (o,t)→o.holds→t.bx≠none
 |[],i,st,rs,o,t,h,a=>by cases h;intro h;cases h
 |p::l,i,st,rs,o,t,h,a=>by
  simp only[ta,Fz]at h
  split at h<;>try (cases h;done)
  split at h
  ·exact Gi l _ _ _ o t h a
  ·split at h
   ·cases h;exact a.elim
   split at h<;>try (cases h;done)
   split at h
   ·rename_i b f
    split at h<;>try (cases h;done)
    rename_i q1 c
    split at h<;>try (cases h;done)
    rename_i d e
    cases h
    cases b
    ·exact Gi l _ _ _ d.1 d.2 e (a.2.2 rfl)
    ·exact Gi l _ _ _ q1.1 q1.2 c (a.2.1 rfl)
   ·split at h<;>try (cases h;done)
    rename_i q c
    cases h
    exact Gi l _ _ _ q.1 q.2 c a.2
theorem agP{X:b3}{ops:Array Oper}{b:Bool}{st:K}(a:(jD X ops b st).o.holds): ∃s,(jD X ops b st).t.bx= .nrm s:=by
 unfold jD at a ⊢
 split at a
 ·exact a.elim
 ·rename_i q e;obtain⟨o,t⟩:=q;simp only[e];have c:o.holds→ ∃s,(t.map LP).bx= .nrm s:=fun a=>by
   rw[T.k_]
   cases h:t.bx with
   |none=>exact absurd h (Gk _ _ _ _ o t e a)
   |some q=>exact⟨q.1,rfl⟩
  cases b with
  |false=>exact c a
  |true=>
   simp only at a ⊢
   split at a
   ·rename_i d;simp only[d];exact c a
   ·exact a.elim
theorem MB{X:b3}{R:cG}(e:X.env.dm){id:Nat}{ops:Array Oper}{b:Bool}{st:K}(c:(jD X ops b st).o.holds):oD X R (.region id ops b) st (jD X ops b st):=by
 obtain⟨s,d⟩:=agP c;refine⟨agQ e c fun f h=> ?_,fun p a=> ?_,fun g h=> ?_,fun h=> ?_⟩
 ·rw[h];exact cg.refl _
 ·unfold jD at a
  split at a
  ·cases a
  ·split at a
   ·cases a
   ·split at a<;>cases a
 ·rw[d]at h;cases h
 ·rw[d]at h;cases h
theorem aAg{X:b3}{R:cG}(f:X.env.dm){id:Nat}{ops:Array Oper}{L:List (Nat×Nat)}{st:K}(a:(tg X ops L st).o.holds):oD X R (.region id ops true) st (tg X ops L st):=by
 have g: ∃s,(tg X ops L st).t.bx= .nrm s:=by
  unfold tg at a ⊢
  split at a
  ·exact a.elim
  ·rename_i q e;obtain⟨o,t⟩:=q;simp only[e]at a ⊢
   split at a
   ·rename_i d;simp only[d];rw[T.k_]
    cases h:t.bx with
    |none=>exact absurd h (Gi _ _ _ _ o t e a.1)
    |some q=>exact⟨q.1,rfl⟩
   ·exact a.elim
 obtain⟨s,c⟩:=g;refine⟨aAf f a fun i h=> ?_,fun p b=> ?_,fun j h=> ?_,fun h=> ?_⟩
 ·rw[h];exact cg.refl _
 ·unfold tg at b
  split at b
  ·cases b
  ·split at b<;>cases b
 ·rw[c]at h;cases h
 ·rw[c]at h;cases h
theorem adY{id:Nat}{a:eR} :(∀b,FG id a= .ret b→a= .ret b)∧(FG id a= .dead→a= .dead):=by
 cases a<;>simp only[FG]
 ·exact⟨fun _ h=>(by cases h),fun h=>(by cases h)⟩
 ·split<;>exact⟨fun _ h=>(by cases h),fun h=>(by cases h)⟩
 ·exact⟨fun _ h=>h,fun h=>(by cases h)⟩
 ·exact⟨fun _ h=>(by cases h),fun h=>h⟩
theorem Yh{a b:Option Prop}(c: ∀p,a=some p→p)(d: ∀p,b=some p→p): ∀p,HA a b=some p→p:=by
 intro p h;unfold HA at h
 split at h
 ·exact d p h
 ·split at h
  ·cases h;exact c _ rfl
  ·cases h;exact⟨c _ rfl,d _ rfl⟩
theorem KH{a:Option Prop}{o:aO}(h:(qE a o).holds)(b: ∀p,a=some p→p):o.holds:=by
 unfold qE at h
 split at h
 ·exact h
 ·exact h (b _ rfl)
theorem MP{X:b3}{R:cG}{W:(Exit→K→Prop)→K→Prop}{x:Code}{st:K}{r:iu}(h:oD X R x st r)(b:sR r.t.bx=false):WP X.env x (hN (W (jt X R r.t.bx)) (jt X R r.t.bx)) st:=
 h.wp.mono fun e s a=>by
  cases e<;>simp only[hN]<;>try exact a
  simp only[jt]at a
  split at a
  ·rename_i d c;rw[c]at b;cases b
  ·exact a.elim
theorem Wl{X:b3}{R:cG}{W:(Exit→K→Prop)→K→Prop}(d: ∀{Q st c},cg X.m st c→W Q c→W Q st){x:Code}{st s b:K}{r:iu}{Q:Exit→K→Prop}(h:oD X R x st r)(g:r.t.bx= .nrm s)(f:cg X.m s b)(i:W Q b):WP X.env x (hN (W Q) Q) st:=
 h.wp.mono fun e j a=>by
  rw[g]at a
  cases e<;>simp only[jt,hN]at a ⊢ <;>try exact a.elim
  exact d (a.trans f) i
theorem aho{X:b3}{R:cG}{W:(Exit→K→Prop)→K→Prop}{x:Code}{f g:cb R.b1→K→iu}(C: ∀{Q st J},cg X.m st J→W Q J→W Q st)(v: ∀h st,(f h st).o.holds→oD X R x st (f h st))(B: ∀h st,(g h st).o.holds→yU X R W st (g h st))
  (h:cb R.b1) (st:K) (c:(GI X.m f g h st).o.holds):yU X R (fun Q st=>WP X.env x (hN (W Q) Q) st) st (GI X.m f g h st):=by
 unfold GI at c ⊢
 split at c
 ·rename_i z S
  split at c<;>try exact c.elim
  rename_i L F
  split at c<;>try exact c.elim
  rename_i q G
  split at c
  ·rename_i u;have a:=v z.l st c.1;have k:=KH c.2 a.f;have e:=B z.r q.2 k.2;have D:=UH (o:=q.1) (jf:=q.2) G k.1;have H:FJ (f z.l st).t.bx=none:=by
    cases h:FJ (f z.l st).t.bx with
    |none=>rfl
    |some b6=>obtain⟨m,b,_⟩:=T.mn h;rw[u]at b;cases b
   obtain⟨s,I⟩: ∃s,(f z.l st).t.bx= .nrm s:=by
    cases h:(f z.l st).t.bx with
    |nrm s=>exact⟨s,rfl⟩
    |dead=>exact absurd h a.live
    |_=>rw[h]at H;cases H
   have E:L.bx=s:=by
    obtain⟨m,b,d⟩:=T.mn (f:=F_) (t:=(f z.l st).t) (x:=s) (by rw[I];rfl);rw[F]at b;cases b;exact d
   exact⟨Wl C a I (E▸D) e.wp,Yh a.f e.f,e.ret,e.live⟩
  ·rename_i j u
   split at c<;>try exact c.elim
   rename_i fu y;have a:=v z.l st c.1;have k:=KH c.2 a.f;have D:=UH (o:=q.1) (jf:=q.2) G k.1;have A:fu.jP z.J.pm=fu.bx:=T.CU (k.2.1 ());have P:=k.2.2
   cases h:(f z.l st).t.bx with
   |nrm s=>
    have E:L.bx=s:=by
     obtain⟨m,b,d⟩:=T.mn (f:=F_) (t:=(f z.l st).t) (x:=s) (by rw[h];rfl);rw[F]at b;cases b;exact d
    have p:fu.jP z.J.pm=true:=by
     obtain⟨m,b,d⟩:=T.mn (f:=LB) (t:=(f z.l st).t) (x:=true) (by rw[h];rfl);rw[y]at b;cases b;exact A.trans d
    have e:=B z.r q.2 (P p);rw[p];exact⟨Wl C a h (E▸D) e.wp,a.f,e.ret,e.live⟩
   |dead=>exact absurd h a.live
   |ext id s=>
    have p:fu.jP z.J.pm=false:=by
     obtain⟨m,b,d⟩:=T.mn (f:=LB) (t:=(f z.l st).t) (x:=false) (by rw[h];rfl);rw[y]at b;cases b;exact A.trans d
    have l:j.bx=(f z.l st).t.bx:=by
     obtain⟨m,b,d⟩:=T.mn (f:=FJ) (t:=(f z.l st).t) (x:= .ext id s) (by rw[h];rfl);rw[u]at b;cases b;rw[d,h]
    rw[p];refine⟨?_,a.f,?_,?_⟩
    ·show WP _ x (hN (W (jt X R j.bx)) (jt X R j.bx)) _;rw[l];exact MP a (by rw[h];rfl)
    ·show∀r,j.bx= .ret r→_;rw[l];exact a.ret
    ·show j.bx≠ .dead;rw[l];exact a.live
   |ret r=>
    have p:fu.jP z.J.pm=false:=by
     obtain⟨m,b,d⟩:=T.mn (f:=LB) (t:=(f z.l st).t) (x:=false) (by rw[h];rfl);rw[y]at b;cases b;exact A.trans d
    have l:j.bx=(f z.l st).t.bx:=by
     obtain⟨m,b,d⟩:=T.mn (f:=FJ) (t:=(f z.l st).t) (x:= .ret r) (by rw[h];rfl);rw[u]at b;cases b;rw[d,h]
    rw[p];refine⟨?_,a.f,?_,?_⟩
    ·show WP _ x (hN (W (jt X R j.bx)) (jt X R j.bx)) _;rw[l];exact MP a (by rw[h];rfl)
    ·show∀r,j.bx= .ret r→_;rw[l];exact a.ret
    ·show j.bx≠ .dead;rw[l];exact a.live
 ·rename_i U V
  split at c
  ·rename_i n;have a:=v _ st c;exact⟨MP a (by
    cases h:(f h.l st).t.bx with
    |nrm s=>have:=T.qI h;rw[T.CS n]at this;cases this
    |_=>rfl),a.f,a.ret,a.live⟩
  ·rename_i n
   split at c<;>try exact c.elim
   rename_i s N;have a:=v _ st c.1;have k:=KH c.2 a.f
   cases i:(f h.l st).t.bx with
   |nrm Z=>
    have O:=T.U_ n i N;subst O;have e:=B _ _ (T.WR n i k);refine⟨?_,?_,?_,?_⟩
    ·simp only[T.GO i];exact Wl C a i (cg.refl _) e.wp
    ·split
     ·exact Yh a.f e.f
     ·exact a.f
    ·simp only[T.GO i];exact e.ret
    ·simp only[T.GO i];exact e.live
   |dead=>exact absurd i a.live
   |_=>
    have w:sR (f h.l st).t.bx=false:=by rw[i];rfl
    refine⟨?_,?_,?_,?_⟩
    ·simp only[T.GN w];exact MP a w
    ·split
     ·rename_i Y M;exfalso;rw[M]at n i;simp only[T.bx]at i;subst i
      cases n
     ·exact a.f
    ·simp only[T.GN w];exact a.ret
    ·simp only[T.GN w];exact a.live
  ·exact c.elim
theorem acV{X:b3}{R:cG}{W:(Exit→K→Prop)→K→Prop}{g:cb R.b1→K→iu}(e: ∀{Q st d},cg X.m st d→W Q d→W Q st)(c: ∀h st,(g h st).o.holds→yU X R W st (g h st)): ∀h st,(E9 X.m g h st).o.holds→yU X R W st (E9 X.m g h st):=by
 intro h st a;unfold E9 at a ⊢
 split at a
 ·split at a<;>try exact a.elim
  rename_i f;have b:=c _ _ a.2;exact⟨e (nH a.1 f) b.wp,b.f,b.ret,b.live⟩
 ·exact c _ _ a
theorem WP.agX{E:Env}{x:Code}{Q:Exit→K→Prop}{st a:K}(h:cg E.m st a): ∀n,WP.yp E x Q n a→WP.yp E x Q n st
 |0,k=>k
 |_+1,k=>WP.le h k
theorem ahV{X:b3}{R:cG}{x:Code}{f:cb R.b1→K→iu}(d: ∀h st,(f h st).o.holds→oD X R x st (f h st)): ∀(n:Nat) (h:cb R.b1) (st:K),(GZ X.m f n h st).o.holds→yU X R (fun Q st=>WP.yp X.env x Q (n+1) st) st (GZ X.m f n h st)
 |0,h,st,a=>by
  unfold GZ at a ⊢
  split at a
  ·exact a.elim
  ·rename_i g;have b:=d h st a;refine⟨b.wp.mono fun e s c=> ?_,b.f,b.ret,b.live⟩
   cases e<;>simp only[hN]<;>try exact c
   simp only[jt]at c
   split at c
   ·rename_i j i;rw[T.qI i]at g;cases g
   ·exact c
 |n+1,h,st,a=>aho (W:=fun Q st=>WP.yp X.env x Q (n+1) st) (fun h k=>WP.agX h _ k) d (acV (W:=fun Q st=>WP.yp X.env x Q (n+1) st) (fun h k=>WP.agX h _ k) (ahV d n)) h st a
theorem C1{X:b3}{R:cG}(E:X.env.dm): ∀(c:Code) (h:cb R.b1) (st:K),(exec X R c h st).o.holds→oD X R c st (exec X R c h st):=by
 intro c
 induction c with
 |skip=>
  intro h st d;simp only[exec]at d ⊢
  split at d
  ·split at d<;>try exact d.elim
   rename_i p r;exact⟨WP.skip (vY (o:=p.1) (dA:=p.2) r d),fun p m=>(by cases m),fun u h=>(by cases h),fun h=>(by cases h)⟩
  ·exact⟨WP.skip (cg.refl _),fun p m=>(by cases m),fun u h=>(by cases h),fun h=>(by cases h)⟩
 |label l=>
  intro h st d;exact⟨WP.label (cg.refl _),fun p m=>(by cases m),fun u h=>(by cases h),fun h=>(by cases h)⟩
 |exit id=>
  intro h st d;simp only[exec]at d ⊢
  split at d
  ·split at d<;>try exact d.elim
   rename_i p r;exact⟨WP.exit ⟨rfl,vY (o:=p.1) (dA:=p.2) r d⟩,fun p m=>(by cases m),fun u h=>(by cases h),fun h=>(by cases h)⟩
  ·exact⟨WP.exit ⟨rfl,cg.refl _⟩,fun p m=>(by cases m),fun u h=>(by cases h),fun h=>(by cases h)⟩
 |ret=>
  intro h st d;simp only[exec]at d ⊢
  split at d
  ·split at d<;>try exact d.elim
   rename_i p r
   split at d<;>try exact d.elim
   rename_i q e;obtain⟨D,A⟩:=V_ (o:=q.1) (cv:=q.2) e d.2;exact⟨WP.le (vY (o:=p.1) (dA:=p.2) r d.1) (WP.ret D),fun p m=>(by cases m),fun u h=>(by cases h;exact A),fun h=>(by cases h)⟩
  ·split at d<;>try exact d.elim
   rename_i q e;obtain⟨D,A⟩:=V_ (o:=q.1) (cv:=q.2) e d;exact⟨WP.ret D,fun p m=>(by cases m),fun u h=>(by cases h;exact A),fun h=>(by cases h)⟩
 |region id ops draw=>
  intro h st d;simp only[exec]at d ⊢
  split at d
  ·split at d<;>try exact d.elim
   rename_i p r
   split at d<;>try exact d.elim
   rename_i kj Mf lW
   split at d<;>try exact d.elim
   rename_i O
   split at d<;>try exact d.elim
   rename_i aZ;simp only[bL]at O aZ;obtain⟨⟨⟨hZ,iB⟩,fe⟩,k5⟩:=aZ;have H:=dQ O.1;have K_:=dQ O.2;subst H K_;have g:=MB (R:=R) (id:=id) E d.2;refine⟨WP.le (cb.azG (o:=p.1) (dA:=p.2) r d.1) (WP.aoD _ _ _ ?_ rfl hZ iB g.wp fe),fun p m=>(by cases m),g.ret,g.live⟩;have iG:_<p.2.n.length:=gL k5;rw[cI iG];simp only[List.getD,cI iG,kM]at lW;rw[lW]
  ·rename_i l
   split at d<;>try exact d.elim
   rename_i p r;have g:=MB (R:=R) (id:=id) E d.2;refine⟨WP.le (HN (lH:=p.1) (j9:=p.2) r d.1) g.wp,fun p m=>(by cases m),g.ret,g.live⟩
  ·split at d<;>try exact d.elim
   rename_i p r;have g:=MB (R:=R) (id:=id) E d.2;refine⟨WP.le (vY (o:=p.1) (dA:=p.2) r d.1) g.wp,fun p m=>(by cases m),g.ret,g.live⟩
  ·split at d<;>try exact d.elim
   exact aAg E d
  ·split at d<;>try exact d.elim
   rename_i p r;refine⟨(ayU (o:=p.1) (dA:=p.2) E r d id).mono fun e s i=> ?_,fun p m=>(by cases m),fun u h=>(by cases h),fun h=>(by cases h)⟩;obtain⟨rfl,rfl⟩:=i;exact cg.refl _
  ·split at d
   ·rename_i b6 ZK
    split at d<;>try exact d.elim
    rename_i q_ H4
    split at d<;>try exact d.elim
    rename_i q eq;obtain⟨s,i⟩:=agP d.1;have hm:=UH (o:=q.1) (jf:=q.2) eq d.2;have TO:q_.bx=s:=by
     obtain⟨aEx,A,G⟩:=T.mn (f:=F_) (t:=(jD X ops draw st).t) (x:=s) (by rw[i];rfl);rw[H4]at A;cases A;exact G
    refine⟨agQ E d.1 fun dA h=> ?_,fun p m=>(by cases m),fun u h=>(by cases h),fun h=>(by cases h)⟩;rw[i]at h
    cases h
    exact TO▸hm
   ·exact MB E d
 |block id x F=>
  intro h st d;simp only[exec]at d ⊢;have g:=F h st d;refine⟨WP.block (g.wp.mono fun e s i=> ?_),g.f,fun u c3=> ?_,fun dD=> ?_⟩
  ·simp only[T.k_];generalize (exec X R x h st).t.bx=Z at i
   cases e with
   |normal=>
    simp only[jt]at i
    cases Z<;>simp only at i<;>first|exact i.elim|exact i
   |exit j=>
    simp only[jt]at i
    cases Z<;>simp only at i<;>try exact i.elim
    obtain⟨rfl,i⟩:=i;simp only[CH,FG]
    cases Q:Nat.beq j id with
    |true=>rw[bf (dQ Q)];exact i
    |false=>
     rw[a7 (by intro e;rw[e,nz]at Q;cases Q)];exact⟨rfl,i⟩
   |ret=>
    simp only[jt]at i
    cases Z<;>simp only at i<;>first|exact i.elim|exact i
   |_=>exact i.elim
  ·rw[T.k_]at c3;exact g.ret u (adY.1 u c3)
  ·rw[T.k_]at dD;exact g.live (adY.2 dD)
 |cond c x y J M=>
  intro h st d;simp only[exec]at d ⊢
  split at d
  ·rename_i b C
   cases b with
   |true=>
    have g:=J _ _ d;refine⟨fun S W ι a w i=> ?_,g.f,g.ret,g.live⟩;have I:=i.eval c;rw[C]at I;refine wp_cond I.lit ?_;exact g.wp S W ι a w i
   |false=>
    have g:=M _ _ d;refine⟨fun S W ι a w i=> ?_,g.f,g.ret,g.live⟩;have I:=i.eval c;rw[C]at I;refine wp_cond I.lit ?_;exact g.wp S W ι a w i
  ·rename_i b C
   split at d
   ·rename_i kj z
    cases kj with
    |true=>
     have g:=J _ _ d.2;have H:b=true:=d.1;exact⟨WP.cond C (fun _=>g.wp) (fun h=>by rw[H]at h;cases h),g.f,g.ret,g.live⟩
    |false=>
     have g:=M _ _ d.2;have H:b=false:=d.1;exact⟨WP.cond C (fun h=>by rw[H]at h;cases h) (fun _=>g.wp),g.f,g.ret,g.live⟩
   ·cases b with
    |true=>
     have g:=J _ _ (d.1 rfl);exact⟨WP.cond C (fun _=>g.wp) (fun h=>by cases h),fun p m=>(by cases m),g.ret,g.live⟩
    |false=>
     have g:=M _ _ (d.2 rfl);exact⟨WP.cond C (fun h=>by cases h) (fun _=>g.wp),fun p m=>(by cases m),g.ret,g.live⟩
  ·exact d.elim
 |seq x y J M=>
  intro h st d;simp only[exec]at d ⊢;have g:=aho (W:=WP X.env y) (fun h k=>WP.le h k) J (acV (fun h k=>WP.le h k) M) h st d;exact⟨WP.seq g.wp,g.f,g.ret,g.live⟩
 |loop x F=>
  intro h st d;simp only[exec]at d ⊢
  split at d
  ·rename_i z
   split at d
   ·exact d.elim
   ·rename_i Zw;have g:=F z st d;refine⟨WP.aw8 (g.wp.mono fun e s i=> ?_),g.f,g.ret,g.live⟩
    cases e<;>simp only[hN]<;>try exact i
    simp only[jt]at i
    split at i
    ·rename_i dA el;rw[T.qI el]at Zw;cases Zw
    ·exact i
  ·rename_i n z;have g:=ahV F n z st d;exact⟨WP.rounds _ g.wp,g.f,g.ret,g.live⟩
  ·rename_i L z
   split at d
   ·exact d.elim
   rename_i p P
   split at d
   ·exact d.elim
   rename_i Y
   split at d
   ·exact d.elim
   rename_i N es;obtain⟨U,D,A,G,V,B⟩:=d;have m: ∀s,hq X.m (L.dD (L.cM p.2) s)=true:=fun s=>congrFun G s;have g:=WP.afh (X:=X) (R:=R) (st:=p.2) L p.2 N (fun s=>exec X R x z (L.dD (L.cM p.2) s)) Y (fun s d=>F z _ d) (nH D (m N)) A m (fun v=>congrFun V v)
    (fun s i=>⟨(B s i).1,(B s i).2.1,fun k=>⟨((B s i).2.2 k).1,((B s i).2.2 k).2⟩⟩) .c4
   exact⟨WP.le (HN (lH:=p.1) (j9:=p.2) P U) g.wp,g.f,g.ret,g.live⟩
  ·rename_i L z
   split at d
   ·exact d.elim
   rename_i p P
   split at d
   ·exact d.elim
   rename_i Y
   split at d
   ·exact d.elim
   rename_i N es;obtain⟨U,D,A,G,V,B⟩:=d;have m: ∀s,hq X.m (L.dD (L.cM p.2) s)=true:=fun s=>congrFun G s;have g:=WP.afh (X:=X) (R:=R) (st:=p.2) L p.2 N (fun s=>exec X R x (z s) (L.dD (L.cM p.2) s)) Y (fun s d=>F (z s) _ d) (nH D (m N)) A m (fun v=>congrFun V v)
    (fun s i=>⟨(B s i).1,(B s i).2.1,fun k=>⟨((B s i).2.2 k).1,((B s i).2.2 k).2⟩⟩) .c4
   exact⟨WP.le (HN (lH:=p.1) (j9:=p.2) P U) g.wp,g.f,g.ret,g.live⟩
  ·exact d.elim
 |_=>exact fun h st d=>d.elim
end
end Go.af
