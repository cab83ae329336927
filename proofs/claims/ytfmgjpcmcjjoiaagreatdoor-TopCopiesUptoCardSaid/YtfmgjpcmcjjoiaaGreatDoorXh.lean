/- Part of a proof: walks of the program. -/
import Derived.Test.YtfmgjpcmcjjoiaaGreatDoorXg
open Go.IntKind (i64 u64 u8)
open Int (toNat)
set_option maxRecDepth 100000
set_option maxHeartbeats 4000000
set_option linter.all false
noncomputable section
namespace Go.ah
open Go Go.RowKit
section
variable {S:dR} {ι:Nat→Option Nat} {st:D} {a:Act} {w:World}
theorem cp.p1{m:Nat}{g rl:List J}{H:Heap}{o:aS}(h:rQ H g=some (o,rl))(D:o.holds):cp m ⟨g,H⟩ ⟨rl,bt H (ev H g)⟩:=by
 intro S _ ι a w y;obtain⟨i,E⟩:=y.freeze (al:=bt H (ev H g)) (uX g) (qG _ _);have C: ∃d:List Value,aY (bk S ι (bt H (ev H g)) w) g d∧ ∀(t:Nat) v,d[t]? =some v→a.tmps[t]? =some v:=by
  have G: ∀(l:List J) (k:Nat),(∀(t:Nat) ab,l[t]? =some ab→ ∃v,a.tmps[k+t]? =some v∧bk S ι (bt H (ev H g)) w ab v)→ ∃d:List Value,aY (bk S ι (bt H (ev H g)) w) l d∧ ∀(t:Nat) v,d[t]? =some v→a.tmps[k+t]? =some v:=by
   intro l
   induction l with
   |nil=>exact fun k _=>⟨[],trivial,fun t v h=>by simp at h⟩
   |cons x l F=>
    intro k s;obtain⟨v,j,p⟩:=s 0 x rfl;obtain⟨d,r,z⟩:=F (k+1) fun t ab c=>by
     obtain⟨v,q1,q⟩:=s (t+1) ab (by simpa using c);exact⟨v,by rw[show k+1+t=k+(t+1) by omega];exact q1,q⟩
    refine⟨v::d,⟨p,r⟩,fun t u c=> ?_⟩
    cases t with
    |zero=>simp at c;subst c;exact j
    |succ t=>rw[show k+(t+1)=k+1+t by omega];exact z t u (by simpa using c)
  obtain⟨d,j,p⟩:=G g 0 fun t ab c=>by
   obtain⟨v,q1,q⟩:=y.n t ab c;exact⟨v,by simpa using q1,q.step E⟩
  exact⟨d,j,fun t v c=>by simpa using p t v c⟩
 obtain⟨d,j,p⟩:=C;obtain⟨L,e,r⟩:=PD (H:=H) i g d (fun l=>l=rl) (fun b A I K n f B=>F1 A B) j (PL (K:=fun l=>l=rl) h D rfl);subst e;refine⟨ι,i.below,i.defers,fun t ab c=> ?_,i.k,i.inj,i.fresh,i.gw,i.gB⟩;obtain⟨v,q1,q⟩:=r.get t ab c;exact⟨v,p t v q1,ek.yc (fX.LF q)⟩
end
def vz(s:D)(k:Key)(E:cF):Option (aS×D):=
 match xj s k with
 | .aE=>match k with
   | .t i=>some (.c5,⟨s.n.set i (.own s.k.length 0),bs s.k s.k.length 0 (.ae false E.M 0 fun i=>E.e ((@L E.T E.uI).at' i))⟩)
   | .h b o=>c3 (Nat.blt b s.k.length) (some (.c5,⟨s.n,bs (bs s.k s.k.length 0 (.ae false E.M 0 fun i=>E.e ((@L E.T E.uI).at' i))) b o (.own s.k.length 0)⟩))
   |_=>none
 | .own a n=>match k with
   | .h b o=>match I s.k a 0 with
     | .ae _ d c f=>c3 (!(Nat.beq a b)) (some (.e n c,⟨s.n,bs (bt s.k (ev s.k [.own a n])) b o (.arr d c f)⟩))
     |_=>none
   | .t i=>match I s.k a 0 with
     | .ae _ d c f=>some (.e n c,⟨s.n.set i (.arr d c f),bt s.k (ev s.k [.own a n])⟩)
     |_=>none
   |_=>none
 |_=>none
def y5:D→List (Key×cF)→Option (aS×D)
 |s,[]=>some (.c5,s)
 |s,q::r=>match vz s q.1 q.2 with
  |some p=>match y5 p.2 r with
   |some a=>some (.and p.1 a.1,a.2)
   |none=>none
  |none=>none
theorem cp.ay5{m:Nat}{st:D}(i h:Nat)(f:Nat→List J)(n:st.n[i]? =some .aE):cp m st ⟨st.n.set i (.own st.k.length 0),bs st.k st.k.length 0 (.ae false h 0 f)⟩:=fun S _ ι a w g=>by
 obtain⟨c,q,l⟩:=g.Lr (b:=st.k.length) (fun o=>so (bx _) o) (g.Ls (bx _)) h f;refine⟨_,c.below,c.defers,fun t ab d=> ?_,c.k,c.inj,c.fresh,c.gw,c.gB⟩;rw[s9]at d
 by_cases e:i=t
 ·subst e;rw[bF rfl]at d
  split at d
  ·cases d
   obtain⟨v,j,k⟩:=g.n i .aE n;refine⟨v,j,?_⟩;have p:v= .slice none 0 0:=age (ι:=ι) (H:=st.k) (F:=aM S ι st.k w) (w:=w) k;subst p;exact l (aM S ι (bs st.k st.k.length 0 (.ae false h 0 f)) w)
  ·cases d
 ·rw[bH e]at d;exact c.n t ab d
theorem cp.ay4{m:Nat}{st:D}(b o d:Nat)(f:Nat→List J)(l:I st.k b o= .aE)(k:Nat.blt b st.k.length=true):cp m st ⟨st.n,bs (bs st.k st.k.length 0 (.ae false d 0 f)) b o (.own st.k.length 0)⟩:=fun S _ ι a w g=>by
 obtain⟨i,p,j⟩:=g.Lr (b:=st.k.length) (fun o=>so (bx _) o) (g.Ls (bx _)) d f;have n:b≠st.k.length:=by
  have:=gW k;omega
 have c:I (bs st.k st.k.length 0 (.ae false d 0 f)) b o= .aE:=by rw[eK,bH (fun e=>n e.1)];exact l
 refine⟨_,i.ahg (by rw[c];simp) (by rw[c];rfl) (by simp) rfl fun v h=> ?_⟩;rw[c]at h;rw[age h];exact j _
theorem cp.apk{m:Nat}{st:D}(b o c n:Nat){t:Bool}{h d:Nat}{f:Nat→List J}(k:I st.k b o= .own c n)(p:I st.k c 0= .ae t h d f)(y:c≠b)(q:n=d):cp m st ⟨st.n,bs (bt st.k (ev st.k [.own c n])) b o (.arr h d f)⟩:=fun S _ ι a w s=>by
 obtain⟨j,z⟩:=s.freeze (al:=bt st.k (ev st.k [.own c n])) (uX _) (qG _ _);have e:I (bt st.k (ev st.k [.own c n])) b o= .own c n:=by
  rcases uX (H:=st.k) [.own c n] b o with g|⟨rfl,B,C,A,u,i,x⟩
  ·rw[g];exact k
  ·rw[k]at i;cases i
 have r:I (bt st.k (ev st.k [.own c n])) c 0= .ae true h d f:=F1 (by simp [qR,oz]) p;refine⟨_,j.ahg (by rw[e];simp) (by rw[e];rfl) (by simp) rfl fun v l=> ?_⟩;rw[e]at l;exact LJ j r q l
theorem cp.vT{m:Nat}{st:D}(i c n:Nat){s:Bool}{h g:Nat}{f:Nat→List J}(o:st.n[i]? =some (.own c n))(l:I st.k c 0= .ae s h g f)(p:n=g):cp m st ⟨st.n.set i (.arr h g f),bt st.k (ev st.k [.own c n])⟩:=fun S _ ι a w r=>by
 obtain⟨b,u⟩:=r.freeze (al:=bt st.k (ev st.k [.own c n])) (uX _) (qG _ _);have q:I (bt st.k (ev st.k [.own c n])) c 0= .ae true h g f:=F1 (by simp [qR,oz]) l;refine⟨ι,b.below,b.defers,fun t ab d=> ?_,b.k,b.inj,b.fresh,b.gw,b.gB⟩;rw[s9]at d
 by_cases e:i=t
 ·subst e;rw[bF rfl]at d
  split at d
  ·cases d
   obtain⟨v,j,k⟩:=b.n i (.own c n) o;exact⟨v,j,LJ b q p k⟩
  ·cases d
 ·rw[bH e]at d;exact b.n t ab d
theorem OW{m:Nat}{st kg:D}{k:Key}{cF:cF}{l4:aS}(h:vz st k cF=some (l4,kg))(d:l4.holds):cp m st kg:=by
 unfold vz at h
 split at h<;>try (cases h;done)
 ·rename_i e
  cases k<;>simp only at h<;>try (cases h;done)
  ·cases h
   rename_i i;refine cp.ay5 i cF.M _ ?_;simp only[xj,List.getD]at e
   cases a:st.n[i]? with
   |none=>rw[a]at e;cases e
   |some v=>rw[a]at e;exact congrArg some e
  ·rw[dd]at h;obtain⟨b,h⟩:=h
   cases h
   exact cp.ay4 _ _ cF.M _ e b
 ·rename_i p n e
  cases k<;>simp only at h<;>try (cases h;done)
  ·split at h<;>try (cases h;done)
   rename_i i _ l o j f c
   cases h
   refine cp.vT _ _ _ ?_ c d;simp only[xj,List.getD]at e
   cases a:st.n[i]? with
   |none=>rw[a]at e;cases e
   |some v=>rw[a]at e;exact congrArg some e
  split at h<;>try (cases h;done)
  rename_i l o j f c;rw[dd]at h;obtain⟨b,h⟩:=h
  cases h
  refine cp.apk _ _ _ _ e c (fun g=> ?_) d;rw[g,nK]at b;cases b
theorem G0{m:Nat} : ∀{d:List (Key×cF)} {st kg:D} {l4:aS},y5 st d=some (l4,kg)→l4.holds→cp m st kg
 |[],st,kg,l4,h,_=>by cases h;exact cp.refl _
 |q::r,st,kg,l4,h,a=>by
  simp only[y5]at h
  split at h<;>try (cases h;done)
  rename_i p e
  split at h<;>try (cases h;done)
  rename_i b c
  cases h
  exact(OW (l4:=p.1) (kg:=p.2) e a.1).trans (G0 (l4:=b.1) (kg:=b.2) c a.2)
def Lu(b:Nat):J→Bool
 | .ptr c _=> !(Nat.beq c b)
 |_=>true
def ie(b a:Nat):J→J
 | .ptr c o=>match Nat.beq c a with
   |true=> .undef
   |false=> .ptr c o
 | .fn f d=>match d.all (Lu a)with
   |true=> .fn f d
   |false=> .undef
 | .own c k=>match Nat.beq c b with
   |true=> .own a k
   |false=>match Nat.beq c a with
    |true=> .undef
    |false=> .own c k
 | .fl c k i o=>match Nat.beq c b with
   |true=> .fl a k i o
   |false=>match Nat.beq c a with
    |true=> .undef
    |false=> .fl c k i o
 |x=>x
theorem ayv{b a:Nat}{c:J}(h:ie b a c= .gone):c= .gone:=by
 cases c<;>simp only[ie]at h<;>first|rfl|(cases h;done)|(split at h<;>first|(cases h;done)|(split at h<;>cases h))
def Fp(b a:Nat):J→J
 | .agg cs=> .agg (cs.map (ie b a))
 |x=>ie b a x
def af3(b a:Nat):J→J
 | .c9 c=> .c9 (c.map (Fp b a))
 |x=>Fp b a x
def YO(H:Heap)(b:Nat):Bool:=
 match H.getD b []with
 |[]=>true
 |x::r=>match x with
  | .ae a c _ _=>a&&(Nat.beq c 0&&r.isEmpty)
  |_=>false
def y_(b m:Nat):List J:=
 match Nat.blt b m with
 |true=>[dn]
 |false=>[]
def af4(H:Heap)(m b a:Nat)(x:J):Heap:=setAt [] (setAt [] (H.map fun l=>l.map (ie b a)) b (y_ b m)) a [x]
def Fq(m:Nat)(s:D)(b a:Nat):Option D:=
 match s.k.getD b []with
 |x::r=>match x with
  | .ae d c n f=>c3 (Nat.ble m a&&(!(Nat.beq b a)&&(YO s.k a&&(r.isEmpty&& !(Nat.beq c 0))))) (some ⟨s.n.map (af3 b a),af4 s.k m b a (.ae d c n f)⟩)
  |_=>none
 |[]=>none
def uS(m:Nat):D→List (Key×Nat)→Option D
 |s,[]=>some s
 |s,q::r=>match xj s q.1 with
  | .own b _=>match Nat.beq b q.2 with
    |true=>uS m s r
    |false=>match Fq m s b q.2 with
     |some a=>uS m a r
     |none=>none
  |_=>none
theorem Lm{b a:Nat}{c:J} :ch (ie b a c)=ch c:=by
 cases c<;>first|rfl|skip
 all_goals
  simp only[ie]
  split<;>first|rfl|(split<;>rfl)
theorem asQ{H:Heap}{g:J→J}(a:g .undef= .undef)(b o:Nat):I (H.map fun l=>l.map g) b o=g (I H b o):=by
 unfold I;have e:(H.map fun l=>l.map g).getD b []=(H.getD b []).map g:=by
  rw[List.getD,List.getD,fq]
  cases H[b]? <;>rfl
 rw[e];generalize H.getD b []=l;rw[List.getD,List.getD,fq]
 cases l[o]? with
 |none=>exact a.symm
 |some x=>rfl
theorem cp.ayu{m:Nat}{s dG:D}{b bG:Nat}(h:Fq m s b bG=some dG):cp m s dG:=by
 unfold Fq at h
 split at h<;>try (cases h;done)
 rename_i x mT mg
 split at h<;>try (cases h;done)
 rename_i Y Z n f;rw[dd]at h;obtain⟨jm,h⟩:=h
 cases h
 simp only[bY,iX]at jm;obtain⟨hm,jn,AF,gD,ns⟩:=jm;have hm:m≤bG:=gW hm;have jn:b≠bG:=fun e=>by rw[e,nK]at jn;cases jn
 have gD:mT=[]:=by cases mT with
  |nil=>rfl
  |cons=>cases gD
 subst gD;intro S sm ι a w O;have P:I s.k b 0= .ae Y Z n f:=by unfold I;rw[mg];rfl
 have aEP: ∀o,o≠0→I s.k b o= .undef:=fun o eh=>by
  unfold I;rw[mg]
  cases o with
  |zero=>exact absurd rfl eh
  |succ o=>rfl
 have aET: ∀o,I s.k bG o= .undef∨(o=0∧ ∃F f2,I s.k bG 0= .ae true 0 F f2):=fun o=>by
  unfold YO at AF;unfold I
  split at AF
  ·rename_i e;rw[e];exact .inl rfl
  ·rename_i y q e
   split at AF<;>try (cases AF;done)
   rename_i aBj aB9 F f2;simp only[bY]at AF;obtain⟨B,E,fb⟩:=AF;have E:=dX E;subst B E;rw[e]
   cases o with
   |zero=>exact .inr ⟨rfl,F,f2,rfl⟩
   |succ o=>
    cases q with
    |nil=>exact .inl rfl
    |cons=>cases fb
 let ay:Nat→Option Nat:=fun c=>if c=bG then ι b else if c=b then none else ι c
 have ad4:n≤dm:=by
  have H:=O.k b 0;rw[P]at H;rcases H.2 with dK|dK
  ·rw[dK.2.1]at ns;cases ns
  ·exact dK.1
 let al:Heap:=af4 s.k m b bG (.ae Y Z n f);have W:ay bG=ι b:=bF rfl;have EA:ay b=none:=by simp [ay,jn]
 have M: ∀c,c≠b→c≠bG→ay c=ι c:=fun c u L=>by simp only[ay];rw[bH L,bH u]
 have J3: ∀o,I al bG o=if o=0 then .ae Y Z n f else .undef:=fun o=>by
  show I (setAt [] _ bG _) bG o=_;rw[yq,bF rfl]
  cases o<;>rfl
 have J4: ∀o,I al b o=(y_ b m).getD o .undef:=fun o=>by
  show I (setAt [] _ bG _) b o=_;rw[yq,bH jn,yq,bF rfl]
 have U: ∀c o,c≠b→c≠bG→I al c o=ie b bG (I s.k c o):=fun c o u L=>by
  show I (setAt [] _ bG _) c o=_;rw[yq,bH L,yq,bH u,asQ rfl]
 have asD: ∀o,I al b o= .undef∨(o=0∧b<m∧I al b 0=dn):=fun o=>by
  have mf:=J4 0;have d:=J4 o;unfold y_ at mf d
  cases RT:Nat.blt b m with
  |false=>rw[RT]at d;rw[d];exact .inl rfl
  |true=>
   rw[RT]at mf d
   cases o with
   |zero=>exact .inr ⟨rfl,gW RT,mf⟩
   |succ o=>rw[d];exact .inl rfl
 have kH: ∀c,c≠b→c≠bG→ch (I al c 0)=ch (I s.k c 0):=fun c u L=>by rw[U c 0 u L,Lm]
 have aej: ∀c,oE (ie b bG c)=true→oE c=true:=fun c=>by
  cases c<;>first|exact id|(intro _;rfl)
 have nm: ∀y,aM S ι s.k w y→aM S ay al w y:=fun y ⟨u,L,e5⟩=>⟨u,L,fun c H r=>by
  by_cases k:c=bG
  ·subst k;rw[W]at r;refine e5 b ?_ r;have mf:I al c 0= .ae Y Z n f:=by rw[J3];rfl
   rcases H with⟨_,g⟩|⟨g,_⟩
   ·rw[mf]at g;exact .inl ⟨by rw[P];rfl,by rw[P];exact g⟩
   ·rw[mf]at g;cases g
  ·by_cases d:c=b
   ·subst d;rw[EA]at r;cases r
   ·rw[M c d k]at r;refine e5 c ?_ r;rcases H with⟨B,E⟩|⟨B,o,E⟩
    ·rw[U c 0 d k]at B E;rw[Lm]at B;exact .inl ⟨B,aej _ E⟩
    ·rw[U c 0 d k,Lm]at B;rw[U c o d k]at E;exact .inr ⟨B,o,aej _ E⟩⟩
 have JZ: ∀{ab:J} {v:Value},aR w (aM S ι s.k w) ab v→aR w (aM S ay al w) ab v:=fun h=>h.mono nm fun _ _ _=>rfl;have ar8: ∀{c:J} {v:Value},Lu bG c=true→iH ι s.k w (aM S ι s.k w) c v→iH ay al w (aM S ay al w) c v:=fun {c v} e8 h=>by
  cases c<;>simp only[iH]at h ⊢ <;>first|exact JZ h|skip
  rename_i c o;obtain⟨u,x,L,e5⟩:=h;have F:c≠bG:=fun e=>by rw[e]at e8;simp only[Lu,nK]at e8;cases e8
  have G:c≠b:=fun e=>by rw[e,P]at u;cases u
  exact⟨by rw[kH c G F];exact u,x,by rw[M c G F];exact L,e5⟩
 have j_: ∀{c:J} {v:Value},cf ι s.k w (aM S ι s.k w) c v→cf ay al w (aM S ay al w) (ie b bG c) v:=fun {c v} h=>by
  have u:=h.one
  cases c<;>first|exact JZ h|exact u|exact h.elim|skip
  ·rename_i c pT;simp only[ie];obtain⟨R,nE,ki,eu,fB,z,K,N⟩:=h
   cases d:Nat.beq c b with
   |true=>
    have d:=dX d;subst d;rw[P]at z;cases z;exact⟨R,Y,Z,n,f,by rw[J3];rfl,K,fun e=>by rw[W];exact N e⟩
   |false=>
    cases k:Nat.beq c bG with
    |true=>exact R
    |false=>
     have G:c≠b:=fun e=>by rw[e,nK]at d;cases d
     have F:c≠bG:=fun e=>by rw[e,nK]at k;cases k
     exact⟨R,nE,ki,eu,fB,by rw[U c 0 G F,z];rfl,K,fun e=>by rw[M c G F];exact N e⟩
  ·rename_i c o;simp only[ie];obtain⟨z,x,K,N⟩:=h
   cases k:Nat.beq c bG with
   |true=>exact u
   |false=>
    have F:c≠bG:=fun e=>by rw[e,nK]at k;cases k
    have G:c≠b:=fun e=>by rw[e,P]at z;cases z
    exact⟨by rw[kH c G F];exact z,x,by rw[M c G F];exact K,N⟩
  ·rename_i c pT i o;simp only[ie];obtain⟨R,nE,ki,eu,fB,z,K,N⟩:=h
   cases d:Nat.beq c b with
   |true=>
    have d:=dX d;subst d;rw[P]at z;cases z;exact⟨R,Y,Z,n,f,by rw[J3];rfl,K,fun e=>by rw[W];exact N e⟩
   |false=>
    cases k:Nat.beq c bG with
    |true=>exact R
    |false=>
     have G:c≠b:=fun e=>by rw[e,nK]at d;cases d
     have F:c≠bG:=fun e=>by rw[e,nK]at k;cases k
     exact⟨R,nE,ki,eu,fB,by rw[U c 0 G F,z];rfl,K,fun e=>by rw[M c G F];exact N e⟩
  ·rename_i g jf;simp only[ie]
   cases k:jf.all (Lu bG)with
   |false=>exact u
   |true=>
    obtain⟨A,z,K⟩:=h;refine⟨A,z,aY.mk K.length fun i p q hg iR=> ?_⟩;obtain⟨FW,B,E⟩:=K.get i p hg;rw[iR]at B;cases B;exact ar8 (dw.1 k p (e4 hg)) E
 have kF: ∀{cs:List J} {A:List Value},aY (cf ι s.k w (aM S ι s.k w)) cs A→aY (cf ay al w (aM S ay al w)) (cs.map (ie b bG)) A:=by
  intro cs
  induction cs with
  |nil=>intro A h;cases A with
   |nil=>trivial
   |cons=>exact h.elim
  |cons c cs lX=>intro A h;cases A with
   |nil=>exact h.elim
   |cons v A=>exact⟨j_ h.1,lX h.2⟩
 have nk: ∀{c:J} {v:Value},fX ι s.k w (aM S ι s.k w) c v→fX ay al w (aM S ay al w) (Fp b bG c) v:=fun {c v} h=>by
  by_cases RP: ∃cs,c= .agg cs
  ·obtain⟨cs,rfl⟩:=RP;obtain⟨A,u,L⟩:=h;exact⟨A,u,kF L⟩
  ·have d:Fp b bG c=ie b bG c:=by cases c<;>first|rfl|exact absurd ⟨_,rfl⟩ RP
   have u:cf ι s.k w (aM S ι s.k w) c v:=by cases c<;>first|exact h|exact absurd ⟨_,rfl⟩ RP|exact(show False from h).elim
   rw[d];have L:=j_ u;have jH:ie b bG c≠ .gone:=fun e=>by
    rw[ayv e]at h;exact h
   generalize ie b bG c=V at L jH
   cases V<;>first|exact L|exact L.elim|exact absurd rfl jH
 refine⟨ay,O.below,O.defers,fun t ab ia=> ?_,fun c o=> ?_,fun gJ je x u e5=> ?_,fun c x r=> ?_,fun c x r=> ?_,?_⟩
 ·simp only[fq,jQ]at ia;obtain⟨Q,Y9,rfl⟩:=ia;obtain⟨v,B,E⟩:=O.n t Q Y9;refine⟨v,B,?_⟩
  by_cases SC: ∃A,Q= .c9 A
  ·obtain⟨aa,rfl⟩:=SC;obtain⟨A,z,K⟩:=E;refine⟨A,z,?_⟩;clear z Y9;revert A
   induction aa with
   |nil=>intro A h;cases A with
    |nil=>trivial
    |cons=>exact h.elim
   |cons c cs lX=>intro A h;cases A with
    |nil=>exact h.elim
    |cons v A=>exact⟨nk h.1,lX A h.2⟩
  ·by_cases X:Q= .undef∨Q= .gone
   ·rcases X with rfl|rfl
    ·trivial
    ·exact E
   ·have d:af3 b bG Q=Fp b bG Q:=by cases Q<;>first|rfl|exact absurd ⟨_,rfl⟩ SC
    have u:fX ι s.k w (aM S ι s.k w) Q v:=by
     cases Q<;>first|exact E|exact absurd ⟨_,rfl⟩ SC|exact absurd (.inl rfl) X|exact absurd (.inr rfl) X
    rw[d];exact ek.yc (nk u)
 ·show eQ ay al w (aM S ay al w) c o (I al c o)
  by_cases k:c=bG
  ·subst k;rw[J3]
   by_cases Yn:o=0
   ·subst Yn;rw[bF rfl];have H:=O.k b 0;rw[P]at H;obtain⟨_,H⟩:=H;refine⟨rfl,H.imp (fun g=>⟨g.1,g.2.1,by rw[W];exact g.2.2⟩) fun g=>⟨g.1,?_⟩⟩;rw[W];exact g.2.imp id fun⟨x,C,T,z,K,N⟩=>⟨x,C,T,z,K,fun i j iQ fe=>by
     obtain⟨ab,v,qM,qN,x1⟩:=N i j iQ fe;exact⟨ab,v,qM,qN,JZ x1⟩⟩
   ·rw[bH Yn];trivial
  ·by_cases d:c=b
   ·subst d;rcases asD o with g|⟨rfl,_,g⟩
    ·rw[g];trivial
    ·rw[g];exact⟨rfl,.inl ⟨rfl,rfl,EA⟩⟩
   ·have H:=O.k c o;rw[U c o d k]
    by_cases RS:ch (I s.k c o)=true
    ·cases e:I s.k c o<;>rw[e]at RS H<;>first|(cases RS;done)|skip
     simp only[ie];obtain⟨jH,H⟩:=H;refine⟨jH,H.imp (fun g=>⟨g.1,g.2.1,by rw[M c d k];exact g.2.2⟩) fun g=>⟨g.1,?_⟩⟩;rw[M c d k];exact g.2.imp id fun⟨x,C,T,z,K,N⟩=>⟨x,C,T,z,K,fun i j iQ fe=>by
      obtain⟨ab,v,qM,qN,x1⟩:=N i j iQ fe;exact⟨ab,v,qM,qN,JZ x1⟩⟩
    ·by_cases X:I s.k c o= .undef
     ·rw[X];trivial
     ·have Sg:ch (I s.k c o)=false:=by simpa using RS
      obtain⟨R,x,v,z,K,N,Fe⟩:ch (I s.k c 0)=false∧ ∃x v,ι c=some x∧w.cell? ⟨x,o,none⟩=some v∧w.frozen? ⟨x,o,none⟩=false∧cf ι s.k w (aM S ι s.k w) (I s.k c o) v:=by
       cases e:I s.k c o<;>rw[e]at H X Sg<;>first|exact absurd rfl X|(cases Sg;done)|exact H
      have Ff:=j_ Fe;have Fg:ch (I al c 0)=false:=by rw[kH c d k];exact R
      have Te:ay c=some x:=by rw[M c d k];exact z
      have afi:ch (ie b bG (I s.k c o))=false:=by rw[Lm];exact Sg
      generalize ie b bG (I s.k c o)=V at Ff afi
      cases V<;>first|trivial|(cases afi;done)|exact⟨Fg,x,v,Te,K,N,Ff⟩
 ·have key: ∀c x,ay c=some x→ ∃V,ι V=some x∧((c=bG∧V=b)∨(c≠bG∧c≠b∧V=c)):=fun c x r=>by
   by_cases k:c=bG
   ·subst k;rw[W]at r;exact⟨b,r,.inl ⟨rfl,rfl⟩⟩
   ·by_cases d:c=b
    ·subst d;rw[EA]at r;cases r
    ·rw[M c d k]at r;exact⟨c,r,.inr ⟨k,d,rfl⟩⟩
  obtain⟨ai,B,q1⟩:=key gJ x u;obtain⟨an,fb,yh⟩:=key je x e5;have e:=O.inj ai an x B fb;rcases q1 with⟨rfl,rfl⟩|⟨cP,fY,rfl⟩<;>rcases yh with⟨rfl,rfl⟩|⟨a3,a4,rfl⟩
  ·rfl
  ·exact absurd e.symm a4
  ·exact absurd e fY
  ·exact e
 ·by_cases k:c=bG
  ·subst k;rw[W]at r;exact O.fresh b x r
  ·by_cases d:c=b
   ·subst d;rw[EA]at r;cases r
   ·rw[M c d k]at r;exact O.fresh c x r
 ·show c<al.length;have adY:=(l1 ([]:List J) [J.ae Y Z n f] (setAt [] (s.k.map fun l=>l.map (ie b bG)) b (y_ b m)) bG);have EK:=(l1 ([]:List J) (y_ b m) (s.k.map fun l=>l.map (ie b bG)) b)
  by_cases k:c=bG
  ·rw[k];exact adY.2
  ·by_cases d:c=b
   ·subst d;rw[EA]at r;cases r
   ·rw[M c d k]at r;have:=O.gw c x r;refine gG ?_ (fg EK.1 adY.1);simpa using this
 ·have aZ:=O.gB;have gC: ∀c,I S.ti c 0≠ .undef→c<m:=fun c jm=>by
   rcases fh c S.ti.length with g|g
   ·omega
   ·exact absurd (so g 0) jm
  refine⟨fun x r=>nm x (aZ.hN x r),fun x o r=>aZ.cell x o r,fun c x r jK=> ?_,fun c F0 iE x7 f0 jK=> ?_⟩
  ·obtain⟨B,E⟩:=aZ.box c x r jK;have adI:c<m:=gG (S.pZ c x r) sm;have F:c≠bG:=by omega
   have G:c≠b:=fun e=>by rw[e,P]at E;cases E
   exact⟨by rw[M c G F];exact B,by rw[kH c G F];exact E⟩
  ·obtain⟨nE,ki,eu,fB,B,E,fb⟩:=aZ.arr c F0 iE x7 f0 jK;have adI:c<m:=gC c (by rw[jK];simp);have F:c≠bG:=by omega
   by_cases G:c=b
   ·subst G;rw[P]at B;cases B;refine⟨true,0,dm+1,fun _=>[],?_,by omega,fun e=>by omega⟩;rw[J4 0];unfold y_;rw[show Nat.blt c m=true from by simpa[fU]using adI];rfl
   ·exact⟨nE,ki,eu,fB,by rw[U c 0 G F,B];rfl,E,fun e=>by rw[M c G F];exact fb e⟩
theorem Ln{m:Nat} : ∀{l:List (Key×Nat)} {s a:D},uS m s l=some a→cp m s a
 |[],s,a,h=>by cases h;exact cp.refl _
 |q::r,s,a,h=>by
  simp only[uS]at h
  split at h<;>try (cases h;done)
  split at h
  ·exact Ln h
  ·split at h<;>try (cases h;done)
   rename_i c b;exact(cp.ayu b).trans (Ln h)
def Fh(s:D)(b:Nat):Option D:=
 match s.k.getD b []with
 |x::r=>match x with
  | .ae c a n f=>match c&&Nat.beq a 0 with
    |true=>some s
    |false=>c3 (r.isEmpty&& !(Nat.beq a 0)) (some ⟨s.n,bs s.k b 0 dn⟩)
  |_=>none
 |[]=>none
theorem cp.kill{m:Nat}{s K:D}{b:Nat}(h:Fh s b=some K):cp m s K:=by
 unfold Fh at h
 split at h<;>try (cases h;done)
 rename_i x cP F
 split at h<;>try (cases h;done)
 rename_i ro fY n f
 split at h
 ·cases h;exact cp.refl _
 rw[dd]at h;obtain⟨H,h⟩:=h
 cases h
 simp only[bY,iX]at H;obtain⟨X,J⟩:=H;intro S sm ι a w i;have A:I s.k b 0= .ae ro fY n f:=by unfold I;rw[F];rfl
 have V: ∀o,o≠0→I s.k b o= .undef:=fun o W=>by
  unfold I;rw[F]
  cases o with
  |zero=>exact absurd rfl W
  |succ o=>
   cases cP with
   |nil=>rfl
   |cons=>cases X
 have ad4:n≤dm:=by
  have p:=i.k b 0;rw[A]at p;rcases p.2 with B|B
  ·rw[B.2.1]at J;cases J
  ·exact B.1
 let ay:Nat→Option Nat:=fun c=>if c=b then none else ι c
 let al:Heap:=bs s.k b 0 dn;have z:ay b=none:=bF rfl;have k: ∀c,c≠b→ay c=ι c:=fun c h=>bH h;have G:I al b 0=dn:=by show I (bs _ _ _ _) b 0=_;rw[eK,bF ⟨rfl,rfl⟩]
 have l: ∀c o,(c≠b∨o≠0)→I al c o=I s.k c o:=fun c o h=>by
  show I (bs _ _ _ _) c o=_;rw[eK,bH (fun e=>h.elim (fun g=>g e.1) fun g=>g e.2)]
 have U: ∀y,aM S ι s.k w y→aM S ay al w y:=fun y ⟨u,Q,v⟩=>⟨u,Q,fun c p d=>by
  by_cases e:c=b
  ·subst e;rw[z]at d;cases d
  ·rw[k c e]at d;exact v c (nG (fun o=>l c o (.inl e)) p) d⟩
 have E:eg ι s.k w (aM S ι s.k w) ay al w (aM S ay al w):=by
  refine⟨U,fun _ _ _=>rfl,fun c x d j=> ?_,fun c F0 iE Z N j=> ?_⟩
  ·have e:c≠b:=fun e=>by rw[e,A]at j;cases j
   exact⟨by rw[k c e];exact d,by rw[l c 0 (.inl e)];exact j⟩
  ·by_cases e:c=b
   ·subst e;rw[A]at j;cases j;exact⟨true,0,dm+1,fun _=>[],G,by omega,fun e=>by omega⟩
   ·exact⟨F0,iE,Z,N,by rw[l c 0 (.inl e)];exact j,bx _,fun _=>⟨rfl,k c e,fun x C T _ R=>⟨C,R,rfl⟩⟩⟩
 have q: ∀c x,ay c=some x→c≠b∧ι c=some x:=fun c x d=>by
  by_cases e:c=b
  ·subst e;rw[z]at d;cases d
  ·exact⟨e,by rw[←k c e];exact d⟩
 refine⟨ay,i.below,i.defers,fun t ab Y=> ?_,fun c o=> ?_,fun L M x u v=>i.inj L M x (q _ _ u).2 (q _ _ v).2,fun c x d=>i.fresh c x (q _ _ d).2,fun c x d=>gG (i.gw c x (q _ _ d).2) (uO s.k b 0 dn).1,i.gB.trans E⟩
 ·obtain⟨hg,O,P⟩:=i.n t ab Y;exact⟨hg,O,P.step E⟩
 ·show eQ ay al w (aM S ay al w) c o (I al c o)
  by_cases e:c=b
  ·subst e
   by_cases r:o=0
   ·subst r;rw[G];exact⟨rfl,.inl ⟨rfl,rfl,z⟩⟩
   ·rw[l c o (.inr r),V o r];trivial
  ·rw[l c o (.inl e)];exact(i.k c o).step E (fun _=>k c e) (fun _ _ _=>⟨rfl,rfl⟩) (fun _=>⟨k c e,fun _ _=>rfl⟩)
inductive kX where
 |k2 (k:Key) (E:cF)
 |own (k:Key) (E:cF) (b:Nat)
 |kill (b:Nat)
def Cr(m:Nat)(s:D)(c:kX):Option (aS×D):=
 match c with
 | .k2 k E=>match xj s k with
   | .own .. =>vz s k E
   |_=>some (.c5,s)
 | .own k E b=>match xj s k with
   | .aE=>match vz s k E with
     |some p=>match uS m p.2 [(k,b)]with
      |some a=>some (p.1,a)
      |none=>none
     |none=>none
   |_=>match uS m s [(k,b)]with
    |some a=>some (.c5,a)
    |none=>none
 | .kill b=>match Fh s b with
   |some a=>some (.c5,a)
   |none=>none
def oX(m:Nat):D→List kX→Option (aS×D)
 |s,[]=>some (.c5,s)
 |s,c::r=>match Cr m s c with
  |some p=>match oX m p.2 r with
   |some a=>some (.and p.1 a.1,a.2)
   |none=>none
  |none=>none
theorem an2{m:Nat}{s dG:D}{c:kX}{o:aS}(h:Cr m s c=some (o,dG))(b:o.holds):cp m s dG:=by
 unfold Cr at h
 split at h
 ·split at h
  ·exact OW h b
  ·cases h;exact cp.refl _
 ·split at h
  ·split at h<;>try (cases h;done)
   rename_i p e
   split at h<;>try (cases h;done)
   rename_i d a
   cases h
   exact(OW (l4:=p.1) (kg:=p.2) e b).trans (Ln a)
  ·split at h<;>try (cases h;done)
   rename_i d a
   cases h
   exact Ln a
 ·split at h<;>try (cases h;done)
  rename_i d a
  cases h
  exact cp.kill a
theorem awK{s a:D}{b:Nat}(h:Fh s b=some a):a.n.length=s.n.length:=by
 unfold Fh at h
 split at h<;>try (cases h;done)
 split at h<;>try (cases h;done)
 split at h
 ·cases h;rfl
 ·rw[dd]at h
  cases h.2;rfl
theorem G6{m:Nat} : ∀{l:List kX} {s dG:D} {o:aS},oX m s l=some (o,dG)→o.holds→cp m s dG
 |[],s,dG,o,h,_=>by cases h;exact cp.refl _
 |c::r,s,dG,o,h,a=>by
  simp only[oX]at h
  split at h<;>try (cases h;done)
  rename_i p e
  split at h<;>try (cases h;done)
  rename_i b d
  cases h
  exact(an2 (o:=p.1) (dG:=p.2) e a.1).trans (G6 (o:=b.1) (dG:=b.2) d a.2)
def oU(m:Nat)(s:D)(a:List Key)(l:List kX):Option (aS×D):=
 match a with
 |[]=>oX m s l
 |k::r=>match hF m (vH s (k::r))with
  |true=>match oX m (vH s (k::r)) l with
   |some p=>some (.and (jX s (vH s (k::r))) p.1,p.2)
   |none=>none
  |false=>none
theorem vA{m:Nat}{s dG:D}{b:List Key}{l:List kX}{o:aS}(h:oU m s b l=some (o,dG))(a:o.holds):cp m s dG:=by
 unfold oU at h
 split at h
 ·exact G6 h a
 ·split at h<;>try (cases h;done)
  rename_i c
  split at h<;>try (cases h;done)
  rename_i p d
  cases h
  exact(nU a.1 c).trans (G6 (o:=p.1) (dG:=p.2) d a.2)
theorem U0: ∀{l:List J} {i:Nat} {v:J},(yr l i v).length=l.length
 |[],_,_=>rfl
 |_::_,0,_=>rfl
 |_::l,i+1,v=>by simp only[yr,fr,U0]
theorem aAI{s:D}{k:Key}{v:J} :(LO s k v).n.length=s.n.length:=by
 unfold LO
 split
 ·exact U0
 ·split
  ·exact U0
  ·rfl
 ·rfl
 ·rfl
theorem Ya: ∀{a:List Key} {s:D},(vH s a).n.length=s.n.length
 |[],_=>rfl
 |k::a,s=>by simp only[vH,Ya,aAI]
theorem ayw{m:Nat}{s a:D}{b c:Nat}(h:Fq m s b c=some a):a.n.length=s.n.length:=by
 unfold Fq at h
 split at h<;>try (cases h;done)
 split at h<;>try (cases h;done)
 rw[dd]at h
 cases h.2
 simp
theorem Lo{m:Nat} : ∀{l:List (Key×Nat)} {s a:D},uS m s l=some a→a.n.length=s.n.length
 |[],s,a,h=>by cases h;rfl
 |q::r,s,a,h=>by
  simp only[uS]at h
  split at h<;>try (cases h;done)
  split at h
  ·exact Lo h
  ·split at h<;>try (cases h;done)
   rename_i c b;rw[Lo h,ayw b]
theorem XH{s dG:D}{k:Key}{E:cF}{o:aS}(h:vz s k E=some (o,dG)):dG.n.length=s.n.length:=by
 unfold vz at h
 split at h<;>try (cases h;done)
 ·cases k<;>simp only at h<;>try (cases h;done)
  ·cases h;simp
  ·rw[dd]at h;cases h.2;rfl
 ·cases k<;>simp only at h<;>try (cases h;done)
  ·split at h<;>try (cases h;done)
   cases h;simp
  ·split at h<;>try (cases h;done)
   rw[dd]at h;cases h.2;rfl
theorem an3{m:Nat}{s dG:D}{c:kX}{o:aS}(h:Cr m s c=some (o,dG)):dG.n.length=s.n.length:=by
 unfold Cr at h
 split at h
 ·split at h
  ·exact XH h
  ·cases h;rfl
 ·split at h
  ·split at h<;>try (cases h;done)
   rename_i p d
   split at h<;>try (cases h;done)
   rename_i b a
   cases h
   rw[Lo a,XH (o:=p.1) (dG:=p.2) d]
  ·split at h<;>try (cases h;done)
   rename_i b a
   cases h
   exact Lo a
 ·split at h<;>try (cases h;done)
  rename_i b a
  cases h
  exact awK a
theorem O4{m:Nat} : ∀{l:List kX} {s dG:D} {o:aS},oX m s l=some (o,dG)→dG.n.length=s.n.length
 |[],s,dG,o,h=>by cases h;rfl
 |c::r,s,dG,o,h=>by
  simp only[oX]at h
  split at h<;>try (cases h;done)
  rename_i p e
  split at h<;>try (cases h;done)
  rename_i a b
  cases h
  rw[O4 (o:=a.1) (dG:=a.2) b,an3 (o:=p.1) (dG:=p.2) e]
theorem XI{m:Nat}{s:D}{a:List Key}{l:List kX}{p:aS×D}(h:oU m s a l=some p):p.2.n.length=s.n.length:=by
 obtain⟨o,c⟩:=p;unfold oU at h
 split at h
 ·exact O4 h
 ·split at h<;>try (cases h;done)
  split at h<;>try (cases h;done)
  rename_i p b
  cases h
  rw[O4 (o:=p.1) (dG:=p.2) b,Ya]
noncomputable def A.vy{α:Type}(s:A α)(i:Nat)(z:α):A α:=⟨s.n,fun t=>bif Nat.blt t i then s.at' t else z⟩
def A.cut{α:Type}(s:A α)(i:Nat):A α:=⟨i,s.at'⟩
theorem A.rG{α:Type}(s:A α)(i:Nat)(z:α):(s.vy i z).n=s.n:=rfl
theorem A.oW{α:Type}(s:A α)(i:Nat):(s.cut i).n=i:=rfl
def sK(o:Oper):Option (Nat×Nat):=
 match o.guard with
 |none=>match o.dst with
  |some d=>match o.op with
   | .move x=>match x with
     | .tmp s=>some (d,s)
     |_=>none
   |_=>none
  |none=>none
 |some _=>none
def GL(o:Oper):Option (Nat×Nat):=
 match o.guard with
 |none=>match o.dst with
  |some d=>match o.op with
   | .assign x=>match x with
     | .tmp s=>some (d,s)
     |_=>none
   |_=>none
  |none=>none
 |some _=>none
structure GF where
 d:Nat
 T:TypeId
 x:Nat
 y:Nat
def U4(o:Oper):Option GF:=
 match o.guard with
 |none=>match o.dst with
  |some d=>match o.op with
   | .slice T x l h m=>match x,l,h,m with
     | .tmp x,some (.tmp y),none,none=>some ⟨d,T,x,y⟩
     |_,_,_,_=>none
   |_=>none
  |none=>none
 |some _=>none
def U3(o:Oper):Option GF:=
 match o.guard with
 |none=>match o.dst with
  |some d=>match o.op with
   | .slice T x l h m=>match x,l,h,m with
     | .tmp x,none,some (.tmp y),none=>some ⟨d,T,x,y⟩
     |_,_,_,_=>none
   |_=>none
  |none=>none
 |some _=>none
def OQ(o:Oper):Option (Nat×TypeId):=
 match o.guard with
 |none=>match o.dst with
  |none=>match o.op with
   | .call c=>match c.callee with
     | .builtin b=>match b with
       | .clear=>match c.args.toList,c.argTypes.toList with
         |[.tmp z],[T]=>some (z,T)
         |_,_=>none
       |_=>none
     |_=>none
   |_=>none
  |some _=>none
 |some _=>none
theorem TA{o:Oper}{d s:Nat}(h:sK o=some (d,s)):o.guard=none∧o.dst=some d∧o.op= .move (.tmp s):=by
 unfold sK at h
 split at h<;>try (cases h;done)
 split at h<;>try (cases h;done)
 split at h<;>try (cases h;done)
 split at h<;>cases h
 exact⟨by assumption,by assumption,by assumption⟩
theorem WQ{o:Oper}{d s:Nat}(h:GL o=some (d,s)):o.guard=none∧o.dst=some d∧o.op= .assign (.tmp s):=by
 unfold GL at h
 split at h<;>try (cases h;done)
 split at h<;>try (cases h;done)
 split at h<;>try (cases h;done)
 split at h<;>cases h
 exact⟨by assumption,by assumption,by assumption⟩
theorem aBK{o:Oper}{p:GF}(h:U4 o=some p):o.guard=none∧o.dst=some p.d∧o.op= .slice p.T (.tmp p.x) (some (.tmp p.y)) none none:=by
 unfold U4 at h
 split at h<;>try (cases h;done)
 split at h<;>try (cases h;done)
 split at h<;>try (cases h;done)
 split at h<;>cases h
 exact⟨by assumption,by assumption,by assumption⟩
theorem aBI{o:Oper}{p:GF}(h:U3 o=some p):o.guard=none∧o.dst=some p.d∧o.op= .slice p.T (.tmp p.x) none (some (.tmp p.y)) none:=by
 unfold U3 at h
 split at h<;>try (cases h;done)
 split at h<;>try (cases h;done)
 split at h<;>try (cases h;done)
 split at h<;>cases h
 exact⟨by assumption,by assumption,by assumption⟩
theorem anw{o:Oper}{z:Nat}{T:TypeId}(h:OQ o=some (z,T)):o.guard=none∧o.dst=none∧ ∃c,o.op= .call c∧c.callee= .builtin .clear∧c.args= #[.tmp z]∧c.argTypes= #[T]:=by
 unfold OQ at h
 split at h<;>try (cases h;done)
 split at h<;>try (cases h;done)
 split at h<;>try (cases h;done)
 split at h<;>try (cases h;done)
 split at h<;>try (cases h;done)
 split at h<;>cases h
 rename_i c _ _ _ a _ _ b d;exact⟨by assumption,by assumption,_,by assumption,a,Array.toList_inj.1 b,Array.toList_inj.1 d⟩
def LH(st:D)(E:cF)(s i:Nat)(K:Nat→Nat→IntKind→Int→Nat→(Nat→List J)→Option (aS×D)):Option (aS×D):=
 match st.n.getD s .undef with
 | .own b k=>match st.n.getD i .undef with
   | .int a z=>match I st.k b 0 with
     | .ae c d n f=>c3 (!c&&Nat.beq d E.M) (match K b k a z n f with
       |some q=>some (.and (.e k n) (.and (.p ((0:Int)≤z∧z<(n:Int))) (.and (E.canon f) q.1)),q.2)
       |none=>none)
     |_=>none
   |_=>none
 |_=>none
def Ha(X:cb)(T:TypeId):Option (bB×cF):=
 match X.ty T with
 |some t=>match t.d with
  | .slice e b _=>match X.el e with
    |some E=>match X.ty e with
     |some a=>c3 (Nat.beq b E.M&&Nat.beq a.zero.length E.M&&Nat.beq a.size E.M) (some (a,E))
     |none=>none
    |none=>none
  |_=>none
 |none=>none
def TU:J→Bool
 | .undef=>false
 |_=>true
noncomputable def OR(X:cb)(ops:List Oper)(st:D):Option (aS×D):=
 match ops with
 |[h,i,kd,A9]=>match sK h with
  |some c=>match sK i with
   |some d=>match U4 kd with
    |some a=>match OQ A9 with
     |some e=>match Ha X a.T with
      |some q=>c3 (Nat.beq a.x c.1&&Nat.beq a.y d.1&&Nat.beq e.1 a.d&&Nat.beq e.2 a.T&& !(Nat.beq c.1 d.1)&& !(Nat.beq d.2 c.1)&&Nat.blt c.1 st.n.length&&Nat.blt d.1 st.n.length&&Nat.blt a.d st.n.length&&q.1.zero.all TU)
       (LH st q.2 c.2 d.2 fun b _ g z n f=>some (.e (rK q.1.zero (q.2.e (q.2.d q.1.zero))) (q.2.e (q.2.d q.1.zero)),
        ⟨((st.n.set c.1 (.own b n)).set d.1 (.int g z)).set a.d .undef,pB st.k b b (.ae false q.2.M n fun t=>q.2.e ((A.vy (q.2.af n f) z.toNat (q.2.d q.1.zero)).at' t))⟩))
      |none=>none
     |none=>none
    |none=>none
   |none=>none
  |none=>none
 |_=>none
noncomputable def O3(X:cb)(ops:List Oper)(st:D):Option (aS×D):=
 match ops with
 |[h,i,kd,A9]=>match sK h with
  |some a=>match sK i with
   |some c=>match U3 kd with
    |some d=>match GL A9 with
     |some e=>match Ha X d.T with
      |some q=>c3 (Nat.beq d.x a.1&&Nat.beq d.y c.1&&Nat.beq e.2 d.d&& !(Nat.beq a.1 c.1)&& !(Nat.beq c.2 a.1)&&Nat.blt a.1 st.n.length&&Nat.blt c.1 st.n.length&&Nat.blt d.d st.n.length&&Nat.blt e.1 st.n.length)
       (LH st q.2 a.2 c.2 fun b _ g z n f=>some (.c5,
        ⟨(((st.n.set a.1 .undef).set c.1 (.int g z)).set d.d (.own st.k.length z.toNat)).set e.1 (.own st.k.length z.toNat),pB st.k b st.k.length (.ae false q.2.M z.toNat fun t=>q.2.e ((A.cut (q.2.af n f) z.toNat).at' t))⟩))
      |none=>none
     |none=>none
    |none=>none
   |none=>none
  |none=>none
 |_=>none
noncomputable def T1(X:cb)(ops:List Oper)(a:Bool)(st:D):Option (aS×D):=
 match a with
 |true=>none
 |false=>match OR X ops st with
  |some q=>some q
  |none=>O3 X ops st
section
variable {X:cb} {S:dR} {ι:Nat→Option Nat} {st:D} {a:Act} {w:World}
theorem BC{P:Program}{ops:Array Oper}{Q:Exit→Act→World→Prop}{b:List Oper}{o:Oper}(c:o.guard=none)(h:o.wp P a w (wpList P ops Q b) Q):wpList P ops Q (o::b) a w:=by
 unfold wpList;rw[bF (by simp [Region.wanted,c])];exact .inl h
theorem af5{P:Program}{o:Oper}{d s:Nat}{next:Act→World→Prop}{Q:Exit→Act→World→Prop}(h:sK o=some (d,s))(e:next (a.put (some d) (a.eval (.tmp s))) w):o.wp P a w next Q:=by
 obtain⟨_,b,c⟩:=TA h;refine dk (v:=a.eval (.tmp s)) (ag:=w) ?_ (by rw[b];exact e);simp [execOp,c]
theorem amS{P:Program}{o:Oper}{d s:Nat}{next:Act→World→Prop}{Q:Exit→Act→World→Prop}(h:GL o=some (d,s))(e:next (a.put (some d) (a.eval (.tmp s))) w):o.wp P a w next Q:=by
 obtain⟨_,b,c⟩:=WQ h;refine dk (v:=a.eval (.tmp s)) (ag:=w) ?_ (by rw[b];exact e);simp [execOp,c]
theorem Bi(d:Nat)(v:Value)(t:Nat):(a.put (some d) v).eval (.tmp t)=if t=d∧d<a.tmps.size then v else a.eval (.tmp t):=by
 simp only[Act.eval,Act.put]
 by_cases e:t=d
 ·subst e
  by_cases h:t<a.tmps.size
  ·simp [h]
  ·simp [h]
 ·simp only[e,false_and,mP];rw[Gj,Gj,Gi (fun h=>e h.symm)]
theorem agA{E:cF}{s i:Nat}{K:Nat→Nat→IntKind→Int→Nat→(Nat→List J)→Option (aS×D)}{o:aS}{l:D}(h:LH st E s i K=some (o,l))(w:o.holds):
  ∃b k a z n f j,st.n.getD s .undef= .own b n∧st.n.getD i .undef= .int a z∧I st.k b 0= .ae false E.M n f∧K b k a z n f=some (j,l)∧0≤z∧z<(n:Int)∧(∀t,f t=E.e (E.d (f t)))∧j.holds:=by
 unfold LH at h
 split at h<;>try (cases h;done)
 rename_i b k m
 split at h<;>try (cases h;done)
 rename_i a z p
 split at h<;>try (cases h;done)
 rename_i y A n f bl;rw[dd]at h;obtain⟨g,h⟩:=h
 split at h<;>try (cases h;done)
 rename_i q r
 cases h
 obtain⟨c,e,u,v⟩:=w;have c:k=n:=c;subst c;simp only[bY,iX]at g;obtain⟨x,d⟩:=g;have d:=dX d;subst x d;exact⟨b,_,a,z,_,f,q.1,m,p,bl,r,e.1,e.2,fun t=>congrFun u t,v⟩
theorem Yk(k:X.env.dq){T:TypeId}{b:bB}{E:cF}(h:Ha X T=some (b,E)):b.zero.length=E.M∧ ∃e i z,X.P.underlying T=some (.slice e)∧X.P.info? e=some i∧i.size=E.M∧i.zero=some z∧z.cells.size=E.M∧aY k1 b.zero z.cells.toList:=by
 unfold Ha at h
 split at h<;>try (cases h;done)
 rename_i t o
 split at h<;>try (cases h;done)
 rename_i e C B n
 split at h<;>try (cases h;done)
 rename_i y A
 split at h<;>try (cases h;done)
 rename_i F p;rw[dd]at h;obtain⟨g,h⟩:=h
 cases h
 simp only[bY]at g;obtain⟨⟨m,d⟩,a⟩:=g;have m:=dX m;have d:=dX d;have a:=dX a;have l:=(k.ty T t o).d;rw[n]at l;obtain⟨x,i,v,D,_⟩:=l;obtain⟨c,z,f,q,r,s,u⟩:=(k.ty e b p).info;have w:c=i:=by
  have:X.P.info? e=some c:=f;have j:X.P.info? e=some i:=v;rw[this]at j;cases j;rfl
 subst w;exact⟨d,e,c,z,x,f,by rw[q,a],r,by rw[s,a],u⟩
theorem Yt(h:aU S ι st a w){t:Nat}{ab:J}(e:st.n.getD t .undef=ab):bk S ι st.k w ab (a.eval (.tmp t)):=by
 have:=h.eval (.tmp t);simp only[aC]at this;rwa [e]at this
theorem ah4(h:aU S ι st a w){c d s i b n:Nat}{e:IntKind}{z:Int}{g:J}{ops:Array Oper}{Q:Exit→Act→World→Prop}{p q:Oper}{l:List Oper}
  (k:sK p=some (c,s)) (m:sK q=some (d,i)) (A:c≠d) (B:i≠c) (D:c<st.n.length) (E:d<st.n.length) (u:st.n.getD s .undef= .own b n) (x:st.n.getD i .undef= .int e z) (H:g= .undef∨g= .own b n)
  (C: ∀f,aU S ι ⟨(st.n.set c g).set d (.int e z),st.k⟩ f w→ej S ι st.k w (.own b n) (f.eval (.tmp c))→f.eval (.tmp d)= .int e z→wpList X.P ops Q l f w):wpList X.P ops Q (p::q::l) a w:=by
 have r:=Yt h u;have I:=Yt h x;have K:=bk.int I;refine BC (TA k).1 (af5 k (BC (TA m).1 (af5 m ?_)));have o: ∀t,t<st.n.length→t<a.tmps.size:=fun t F=>by
  obtain⟨v,G,_⟩:=h.n t _ (cT F);exact(q9.1 G).1
 have y:(a.put (some c) (a.eval (.tmp s))).eval (.tmp i)= .int e z:=by
  rw[Bi,bH (fun j=>B j.1)];exact K
 have L:aU S ι ⟨st.n.set c g,st.k⟩ (a.put (some c) (a.eval (.tmp s))) w:=by
  rcases H with rfl|rfl
  ·exact aU.dst h (some c) (ab:= .undef) trivial
  ·exact aU.dst h (some c) r
 have M:=aU.dst L (some d) (ab:= .int e z) (v:= .int e z) (bk.mkInt _ _);rw[y];refine C _ M ?_ ?_
 ·rw[Bi,bH (fun j=>A j.1),Bi,bF ⟨rfl,o _ D⟩];exact r
 ·rw[Bi,bF ⟨rfl,by simp [Act.put];exact o _ E⟩]
theorem Vw{E:cF}{a:bB}{z:Value}(d:aY k1 a.zero z.cells.toList)(i:a.zero.all TU=true)(h:kc a.zero (E.e (E.d a.zero)))(m:a.zero.length=E.M){j:Nat}(l:j<E.M)(w:World)(F:Nat→Prop):
  ∃ab u,(E.e (E.d a.zero))[j]? =some ab∧z.cells[j]? =some u∧aR w F ab u:=by
 obtain⟨x,c⟩: ∃x,a.zero[j]? =some x:=⟨_,cT (by omega)⟩;obtain⟨v,e,b⟩:=d.get j x c;obtain⟨y,f,g⟩:=LB j x h c;have k:TU x=true:=dw.1 i x (e4 c);refine⟨y,v,f,by simpa using e,TP g ?_⟩
 cases x<;>simp only[k1]at b<;>first|exact b.elim|(subst b;constructor)|(obtain⟨rfl,d⟩:=b;exact aR.str _ (by omega))|(cases k;done)
theorem aDL{z:Array Value}{m t j:Nat}(c:t<m)(a:j<z.size):(Builtin.zeroCells z m).toList[t*z.size+j]? =z[j]? :=by
 have b:=mF c a;simp only[Builtin.zeroCells,Array.toList_map,fq,Mo];rw[Array.getElem?_range];rw[bF b];simp only[rb];have:(t*z.size+j)%z.size=j:=by rw[Nat.add_comm,Nat.add_mul_mod_self_right,Ms a]
 rw[this,getElem!_pos z j a,pG a]
def GG(X:cb)(ops:Array Oper)(st c:D):Prop:= ∀(S:dR) (ι:Nat→Option Nat) (a:Act) (w:World) (Q:Exit→Act→World→Prop),aU S ι st a w→(∀ay b ag,aU S ay c b ag→Q .normal b ag)→wpList X.P ops Q ops.toList a w
theorem GG.wp{ops:Array Oper}{b:D}(h:GG X ops st b)(id:Nat):WP X.env (.region id ops false) (fun e s=>e= .normal∧s=b) st:=fun S _ ι a w c=>
 wp_region_list (h S ι a w _ c fun ay f ag d=>⟨ay,b,d,rfl,rfl⟩)
theorem anz(mB:X.env.dq){ops:Array Oper}{fY:aS}{dG:D}(d:OR X ops.toList st=some (fY,dG))(eh:fY.holds):GG X ops st dG:=by
 intro S ι a w Q oo RL;unfold OR at d
 split at d<;>try (cases d;done)
 rename_i ya FE kd A9 Pe
 split at d<;>try (cases d;done)
 rename_i dF Pf
 split at d<;>try (cases d;done)
 rename_i dW Ph
 split at d<;>try (cases d;done)
 rename_i LL Pj
 split at d<;>try (cases d;done)
 rename_i Us aoE
 split at d<;>try (cases d;done)
 rename_i q eq;obtain⟨U,E⟩:=q;rw[dd]at d;obtain⟨l,d⟩:=d;simp only[bY,iX]at l;obtain⟨⟨⟨⟨⟨⟨⟨⟨⟨gJ,bG⟩,je⟩,mb⟩,lE⟩,G⟩,H⟩,J⟩,K⟩,F⟩:=l;replace gJ:=(dX gJ).symm;replace bG:=(dX bG).symm;replace je:=(dX je).symm;replace mb:=(dX mb).symm;replace lE:=Mn lE;replace G:=Mn G;replace H:dF.1<st.n.length:=gW H;replace J:dW.1<st.n.length:=gW J;replace K:LL.d<st.n.length:=gW K;obtain⟨d1,s⟩:=dF;obtain⟨d2,i⟩:=dW;obtain⟨aDO,aDW⟩:=Us;obtain⟨d3,T,h,aDG⟩:=LL;simp only at gJ bG je mb lE G H J K F d;subst gJ bG je mb;obtain⟨b,hg,R,z,n,f,LC,jg,fL,bl,pb,xw,atT,RW,Kv⟩:=agA d eh;simp only[hd,s_]at pb;obtain⟨rfl,rfl⟩:=pb;have W:kc U.zero (E.e (E.d U.zero)):=G4 Kv;obtain⟨Y,e,inf,k,hu,AG,nq,uD,M,V⟩:=Yk mB eq;rw[Pe];refine ah4 (g:= .own b n) oo Pf Ph lE G H J jg fL (.inr rfl) fun B aeg EU SF=> ?_;obtain⟨jI,Sj⟩:=oo.FP bl EU;rcases Sj with⟨x,c,C,k0,kb,o,mD,L,kF,lg⟩|⟨jH,_⟩
 case inr=>omega
 obtain⟨Q7,Rb,Rc⟩:=aBK Pj;obtain⟨Ro,w5,aD_,acT,aqX,aqY,aq0⟩:=anw aoE;have as6:(Instr.sliceBounds true n c (some (.int R z)) none none).run X.P w= .ok (z.toNat,n,c) w:=by
  simp [Instr.sliceBounds,run_sliceBound w R z n _ xw (by omega)]
 refine BC Q7 (dk (v:= .slice (some ⟨x,z.toNat*E.M,none⟩) (n-z.toNat) (c-z.toNat)) (ag:=w) ?_ ?_)
 ·have jn: ¬c=z.toNat:=by omega
  simp [execOp,Rc,o,SF,Instr.sliceAt,e3 hu,Instr.slice,as6,sizeOf,typeInfo,AG,nq,jn,Addr.add];exact fun d=>d.symm
 rw[Rb];have KC:aU S ι ⟨((st.n.set d1 (.own b n)).set d2 (.int R z)).set d3 .undef,st.k⟩ (B.put (some d3) (.slice (some ⟨x,z.toNat*E.M,none⟩) (n-z.toNat) (c-z.toNat))) w:=aU.dst aeg (some d3) (ab:= .undef) trivial;have RZ:d3<B.tmps.size:=by
  obtain⟨v,o,_⟩:=aeg.n d3 _ (cT (by simpa using K));exact(q9.1 o).1
 have Kk:(B.put (some d3) (.slice (some ⟨x,z.toNat*E.M,none⟩) (n-z.toNat) (c-z.toNat))).eval (.tmp d3)= .slice (some ⟨x,z.toNat*E.M,none⟩) (n-z.toNat) (c-z.toNat):=by
  rw[Bi,bF ⟨rfl,RZ⟩]
 generalize (B.put (some d3) (.slice (some ⟨x,z.toNat*E.M,none⟩) (n-z.toNat) (c-z.toNat)))=a3 at KC Kk;have ath:k.cells.all (fun v=>v.oneCell')=true:=by
  apply Array.all_eq_true.2;intro j N;obtain⟨ab,u,_,y,Z⟩:=Vw V F W Y (j:=j) (by rw[←M];exact N) w (fun _=>True);rw[pG N]at y
  cases y
  exact Z.TV
 obtain⟨ael,EZ⟩:(Builtin.zeroCells k.cells (n-z.toNat)).toList.length=(n-z.toNat)*E.M∧ ∀v∈(Builtin.zeroCells k.cells (n-z.toNat)).toList,v.oneCell'=true:=by
  refine⟨by simp [Builtin.zeroCells,M],fun v o=> ?_⟩;simp only[Builtin.zeroCells,Array.toList_map,pJ,Array.mem_toList_iff,Array.mem_range]at o;obtain⟨t,O,rfl⟩:=o;have Kz:0<k.cells.size:=by
   rcases nL k.cells.size with e|e
   ·rw[e]at O;simp at O
   ·exact e
  have gC:=Nat.mod_lt t Kz;rw[getElem!_pos k.cells _ gC];exact Array.all_eq_true.1 ath _ gC
 have hmul:z.toNat*E.M+(n-z.toNat)*E.M=n*E.M:=by rw[←hr];congr 1;omega
 have atd:n*E.M≤C.size:=by rw[kF];exact hc _ mD
 have asz:=ahv (P:=X.P) w T e A9.type k hu (fun w=>by simp [zeroValue,typeInfo,AG,uD]) x (z.toNat*E.M) (n-z.toNat) (c-z.toNat) (by omega) _ rfl EZ (fun j N=>by
  rw[ael]at N;rw[y1 L,pG (by omega)];rfl) (fun j _=>CJ L _)
 refine BC Ro (dk (v:= .tuple #[]) (ag:=w.setCells x (z.toNat*E.M) (Builtin.zeroCells k.cells (n-z.toNat)).toList) ?_ ?_)
 ·simp [execOp,acT,resolve,aqX,aqY,aq0,invoke,builtin,Kk];rw[asz];rfl
 rw[w5];obtain⟨⟨td,q1,y,Z⟩,Ux,aAP,aAQ,aAR,aAS⟩:=qD x (Builtin.zeroCells k.cells (n-z.toNat)).toList (z.toNat*E.M) w C k0 (0,0) L;generalize w.setCells x (z.toNat*E.M) (Builtin.zeroCells k.cells (n-z.toNat)).toList=ag at*
 have O_:I (⟨((st.n.set d1 (.own b n)).set d2 (.int R z)).set d3 .undef,st.k⟩:D).k b 0= .ae false E.M n f:=bl;obtain⟨ay,Sv,_⟩:=aU.Mh (b:=b) (bG:=b) (f:=f) (fB:=fun t=>E.e ((A.vy (E.af n f) z.toNat (E.d U.zero)).at' t)) (eu:=n) (c:=c) (ag:=ag) (kk:=td) KC O_ kb L aAQ aAR aAS Ux aAP q1 (by rw[y];exact kF) jI mD (fun p r cP m=>by
  have aE7:=mF cP m;rw[Z,ael];show∃ab u,(E.e (cond (Nat.blt p z.toNat) (E.d (f p)) (E.d U.zero)))[r]? =some ab∧_
  by_cases ad_:p<z.toNat
  ·have l:Nat.blt p z.toNat=true:=by simpa[fU]using ad_
   have:=mF ad_ m;rw[bH (by omega),l,aN,←RW];exact lg p r cP m
  ·have l:Nat.blt p z.toNat=false:=by
    cases e:Nat.blt p z.toNat with
    |false=>rfl
    |true=>exact absurd (gW e) (by omega)
   have iC:z.toNat*E.M≤p*E.M:=hc _ (by omega);have g3:(p-z.toNat)*E.M=p*E.M-z.toNat*E.M:=BF _ _ _;rw[bF ⟨by omega,by omega,by omega⟩,l,aQ];obtain⟨ab,u,hl,gh,iS⟩:=Vw V F W Y m ag (aM S ι st.k w);refine⟨ab,u,hl,?_,?_⟩
   ·have O:p-z.toNat<n-z.toNat:=by omega
    have:=aDL (z:=k.cells) O (by rw[M];exact m);rw[M]at this;rw[show p*E.M+r-z.toNat*E.M=(p-z.toNat)*E.M+r by omega,this];exact gh
   ·obtain⟨aD4,ah6,aeG,aeW,av9⟩:=Vw V F W Y m w (aM S ι st.k w);rw[hl]at aeG;cases aeG;rw[gh]at aeW;cases aeW;exact av9) (.inl ⟨rfl,.inr ⟨rfl,y⟩⟩)
 exact RL ay _ ag Sv
theorem an0(mB:X.env.dq){ops:Array Oper}{o:aS}{U:D}(d:O3 X ops.toList st=some (o,U))(eh:o.holds):GG X ops st U:=by
 intro S ι a w Q u RL;unfold O3 at d
 split at d<;>try (cases d;done)
 rename_i ya FE kd A9 Pe
 split at d<;>try (cases d;done)
 rename_i O Pf
 split at d<;>try (cases d;done)
 rename_i P Ph
 split at d<;>try (cases d;done)
 rename_i R Pj
 split at d<;>try (cases d;done)
 rename_i Us G
 split at d<;>try (cases d;done)
 rename_i q eq;obtain⟨aX,E⟩:=q;rw[dd]at d;obtain⟨K,d⟩:=d;simp only[bY,iX]at K;obtain⟨⟨⟨⟨⟨⟨⟨⟨gJ,bG⟩,je⟩,lE⟩,j⟩,k⟩,l⟩,m⟩,V⟩:=K;replace gJ:=(dX gJ).symm;replace bG:=(dX bG).symm;replace je:=(dX je).symm;replace lE:=Mn lE;replace j:=Mn j;replace k:O.1<st.n.length:=gW k;replace l:P.1<st.n.length:=gW l;replace m:R.d<st.n.length:=gW m;obtain⟨W,s⟩:=O;obtain⟨Y,i⟩:=P;obtain⟨Z,aDO⟩:=Us;obtain⟨d3,T,h,aDG⟩:=R;simp only at gJ bG je lE j k l m V d;subst gJ bG je;obtain⟨b,hg,B,z,n,f,LC,jg,fL,bl,J,xw,atT,RW,Kv⟩:=agA d eh;simp only[hd,s_]at J;obtain⟨rfl,rfl⟩:=J;obtain⟨SN,e,inf,aFN,hu,AG,nq,uD,AH,adU⟩:=Yk mB eq;rw[Pe];refine ah4 (g:= .undef) u Pf Ph lE j k l jg fL (.inl rfl) fun F L EU SF=> ?_;obtain⟨jI,Sj⟩:=u.FP bl EU;rcases Sj with⟨x,c,C,k0,N,y,mD,H,kF,lg⟩|⟨jH,_⟩
 case inr=>omega
 obtain⟨Q7,Rb,Rc⟩:=aBI Pj;obtain⟨Ro,w5,acT⟩:=WQ G;have asR:(Instr.sliceBounds true n c none (some (.int B z)) none).run X.P w= .ok (0,z.toNat,c) w:=by
  simp [Instr.sliceBounds,run_sliceBound w B z c _ xw (by omega)]
 have O_:I (⟨(st.n.set W .undef).set Y (.int B z),st.k⟩:D).k b 0= .ae false E.M n f:=bl;obtain⟨ay,KC,M⟩:=aU.Mh (b:=b) (bG:=st.k.length) (f:=f) (fB:=fun t=>E.e ((A.cut (E.af n f) z.toNat).at' t)) (eu:=z.toNat) (c:=c) (ag:=w) (kk:=C) L O_ N H rfl rfl rfl rfl (fun _ _=>rfl) H kF (by omega) (by omega) (fun p r fY gD=>by
  show∃ab mT,(E.e (E.d (f p)))[r]? =some ab∧_;rw[←RW];exact lg p r (by omega) gD) (.inr ⟨fun cP=>by
   have:=u.gw b x N;omega,fun o=>so (bx _) o,u.Ls (bx _)⟩)
 refine BC Q7 (dk (v:= .slice (some ⟨x,0,none⟩) z.toNat c) (ag:=w) ?_ ?_)
 ·simp [execOp,Rc,y,SF,Instr.sliceAt,e3 hu,Instr.slice,asR,sizeOf,typeInfo,AG,nq,Addr.add]
 rw[Rb];have RZ:d3<F.tmps.size:=by
  obtain⟨v,y,_⟩:=L.n d3 _ (cT (by simpa using m));exact(q9.1 y).1
 have Sv:=aU.dst KC (some d3) (ab:= .own st.k.length z.toNat) (v:= .slice (some ⟨x,0,none⟩) z.toNat c) M;have Kk:(F.put (some d3) (.slice (some ⟨x,0,none⟩) z.toNat c)).eval (.tmp d3)= .slice (some ⟨x,0,none⟩) z.toNat c:=by
  rw[Bi,bF ⟨rfl,RZ⟩]
 refine BC Ro (amS G ?_);rw[Kk];exact RL ay _ w (aU.dst Sv (some Z) (ab:= .own st.k.length z.toNat) M)
theorem azC(b:X.env.dq){ops:Array Oper}{a:Bool}{o:aS}{dG:D}(h:T1 X ops.toList a st=some (o,dG))(c:o.holds)(id:Nat):WP X.env (.region id ops a) (fun e s=>e= .normal∧s=dG) st:=by
 unfold T1 at h
 cases a with
 |true=>cases h
 |false=>
  simp only at h
  split at h
  ·rename_i q d
   cases h
   exact(anz b d c).wp id
  ·exact(an0 b h c).wp id
end
inductive al8 where
 |pure
 |own (E:cF)
 |heap
 |lh (p0:Bool) (X9:List Key) (l:List kX)
 |eA (p0:Bool) (X9:List Key) (l:List kX) (sY:List J→D) (cW:D→List J)
structure cI where
 md:al8
 rs:List ResultVar
 bp:List (Key×aB)
 amh:D
def cI.b_(R:cI):List aB:=R.bp.map (·.2)
def cI.st(R:cI)(a:List J):D:=
 match R.md with
 | .eA _ _ _ sY _=>sY a
 |_=>x6 R.amh (R.bp.map (·.1)) a
def LQ(x y:J):J:=
 match y with
 | .arr a _ g=>match x with
   | .aE=> .arr a 0 g
   |x=>x
 | .undef=> .aE
 | .agg _=> .aE
 |_=>x
def Bm:List J→List J→List J
 |x::a,y::b=>LQ x y::Bm a b
 |[],_=>[]
 |x::a,[]=>x::a
def UD(x y:J):J:=
 match y with
 | .agg a=>match x with
   | .agg cs=> .agg (Bm cs a)
   |x=>x
 |y=>LQ x y
def yj:List J→List J→List J
 |x::a,y::b=>UD x y::yj a b
 |[],_=>[]
 |x::a,[]=>x::a
theorem aha{x y:J}(h:LQ x y=y):g0 x y:=by
 cases y<;>simp only[LQ]at h<;>try (cases h;done)
 case arr a n g=>
  cases x<;>simp only[J.arr.injEq,reduceCtorEq]at h
  ·exact h.2.1.symm
  ·obtain⟨rfl,rfl,rfl⟩:=h;exact⟨rfl,rfl,fun _ _=>rfl⟩
 all_goals (subst h;rfl)
theorem ahb: ∀{b a:List J},Bm b a=a→aY g0 b a
 |[],[],_=>trivial
 |[],_::_,h=>by simp [Bm]at h
 |_::_,[],h=>by simp [Bm]at h
 |x::b,y::a,h=>by
  simp only[Bm,mO]at h;exact⟨aha h.1,ahb h.2⟩
theorem aA2{x y:J}(h:UD x y=y):jT x y:=by
 cases y<;>simp only[UD]at h
 case agg a=>
  cases x<;>simp only[J.agg.injEq,reduceCtorEq]at h
  exact ahb h
 all_goals
  have:=aha h
  cases x<;>first|exact this|(simp [g0]at this;done)
theorem UE: ∀{b a:List J},yj b a=a→aY jT b a
 |[],[],_=>trivial
 |[],_::_,h=>by simp [yj]at h
 |_::_,[],h=>by simp [yj]at h
 |x::b,y::a,h=>by
  simp only[yj,mO]at h;exact⟨aA2 h.1,UE h.2⟩
def UL(X:cb)(st:D)(r:ResultVar):Option h1:=
 match r with
 | .tmp t=>vT st.k (st.n.getD t .undef)
 | .cell t T=>iV X T fun b=>match loadT b st.k (st.n.getD t .undef)with
   |some q=>match vT st.k q.2 with
    |some a=>some (.and q.1 a.1,a.2)
    |none=>none
   |none=>none
theorem aBd{X:cb}{st:D}{r:ResultVar}{o:aS}{ab:J}{K:J→Prop}(h:UL X st r=some (o,ab))(b:o.holds)(c:K ab):LZ X.env st r K:=by
 unfold UL at h;unfold LZ
 cases r with
 |tmp t=>exact PJ h b c
 |cell t T=>
  simp only at h ⊢;obtain⟨i,g,a⟩:=jM h;refine jN g ?_
  split at a<;>try (cases a;done)
  rename_i q e
  split at a<;>try (cases a;done)
  rename_i d f
  cases a
  exact K7 (o:=q.1) (ab:=q.2) e b.1 (PJ (o:=d.1) (ab:=d.2) f b.2 c)
def LY(X:cb)(st:D):List ResultVar→Option (aS×List J)
 |[]=>some (.c5,[])
 |r::rs=>match UL X st r with
  |some q=>match LY X st rs with
   |some a=>some (.and q.1 a.1,q.2::a.2)
   |none=>none
  |none=>none
theorem ahm{X:cb}{st:D} : ∀{rs:List ResultVar} {o:aS} {cv:List J} {K:List J→Prop},LY X st rs=some (o,cv)→o.holds→K cv→yk X.env st rs K
 |[],o,cv,K,h,b,a=>by cases h;exact a
 |r::rs,o,cv,K,h,b,a=>by
  simp only[LY]at h
  split at h<;>try (cases h;done)
  rename_i q e
  split at h<;>try (cases h;done)
  rename_i c d
  cases h
  exact aBd (o:=q.1) (ab:=q.2) e b.1 (ahm (o:=c.1) (cv:=c.2) d b.2 a)
def Sq(X:cb)(st:D)(r:ResultVar):Option h1:=
 match r with
 | .tmp t=>cR (st.n.getD t .undef)
 | .cell t T=>iV X T fun a=>loadT a st.k (st.n.getD t .undef)
theorem atq{X:cb}{st:D}{r:ResultVar}{o:aS}{ab:J}{K:J→Prop}(h:Sq X st r=some (o,ab))(d:o.holds)(a:K ab):Sp X.env st r K:=by
 unfold Sq at h;unfold Sp
 cases r with
 |tmp t=>cases h;exact a
 |cell t T=>
  simp only at h ⊢;obtain⟨e,b,c⟩:=jM h;exact jN b (K7 c d a)
def AL(X:cb)(st:D):List ResultVar→Option (aS×List J)
 |[]=>some (.c5,[])
 |r::rs=>match Sq X st r with
  |some q=>match AL X st rs with
   |some a=>some (.and q.1 a.1,q.2::a.2)
   |none=>none
  |none=>none
theorem KA{X:cb}{st:D} : ∀{rs:List ResultVar} {o:aS} {cv:List J} {K:List J→Prop},AL X st rs=some (o,cv)→o.holds→K cv→uF X.env st rs K
 |[],o,cv,K,h,b,a=>by cases h;exact a
 |r::rs,o,cv,K,h,b,a=>by
  simp only[AL]at h
  split at h<;>try (cases h;done)
  rename_i q e
  split at h<;>try (cases h;done)
  rename_i c d
  cases h
  exact atq (o:=q.1) (ab:=q.2) e b.1 (KA (o:=c.1) (cv:=c.2) d b.2 a)
def LI(E:cF)(H:Heap)(x:J):Option h1:=
 match x with
 | .own b k=>match I H b 0 with
   | .ae a c n f=>c3 (!a&&Nat.beq c E.M) (some (.and (.e k n) (E.canon f),.ae false E.M n fun i=>E.e ((E.af n f).at' i)))
   |_=>none
 | .aE=>cR (.ae false E.M 0 fun i=>E.e ((@L E.T E.uI).at' i))
 |_=>none
theorem agB{E:cF}{H:Heap}{x:J}{o:aS}{ab:J}(h:LI E H x=some (o,ab))(a:o.holds): ∃n f,ab= .ae false E.M n f∧Bb H E.M n f x:=by
 unfold LI at h;unfold Bb
 cases x<;>simp only[cR]at h ⊢ <;>try (cases h;done)
 ·cases h;exact⟨0,_,rfl,rfl⟩
 ·split at h<;>try (cases h;done)
  rename_i e;rw[dd]at h;obtain⟨b,h⟩:=h
  cases h
  (try simp only[e])
  exact⟨_,_,rfl,aD.2 ⟨b,a.1,rfl,fun i _=>congrFun a.2 i⟩⟩
def UJ(X:cb)(E:cF)(st:D)(rs:List ResultVar):Option h1:=
 match rs with
 |[x]=>match x with
  | .tmp t=>LI E st.k (st.n.getD t .undef)
  | .cell t T=>iV X T fun b=>match loadT b st.k (st.n.getD t .undef)with
    |some q=>match LI E st.k q.2 with
     |some a=>some (.and q.1 a.1,a.2)
     |none=>none
    |none=>none
 |_=>none
theorem aBb{X:cb}{E:cF}{st:D}{rs:List ResultVar}{o:aS}{ab:J}(h:UJ X E st rs=some (o,ab))(b:o.holds): ∃n f,ab= .ae false E.M n f∧Bp X.env st rs E.M n f:=by
 unfold UJ at h
 split at h<;>try (cases h;done)
 rename_i x;unfold Bp
 cases x with
 |tmp t=>exact agB h b
 |cell t T=>
  simp only at h ⊢;obtain⟨k,g,a⟩:=jM h
  split at a<;>try (cases a;done)
  rename_i q e
  split at a<;>try (cases a;done)
  rename_i c d
  cases a
  obtain⟨n,f,i,j⟩:=agB (o:=c.1) (ab:=c.2) d b.2;exact⟨n,f,i,jN g (K7 (o:=q.1) (ab:=q.2) e b.1 j)⟩
theorem PK{H:Heap} : ∀{b:List J} {o:aS} {cu:List J},rQ H b=some (o,cu)→cu.length=b.length
 |[],o,cu,h=>by cases h;rfl
 |x::r,o,cu,h=>by
  simp only[rQ]at h
  split at h<;>try (cases h;done)
  split at h<;>try (cases h;done)
  rename_i a c
  cases h
  simp [PK (o:=a.1) (cu:=a.2) c]
def rr(X:cb)(R:cI)(s:D)(b:List J):Prop:=
 match R.md with
 | .pure=> ∀K:List J→Prop,(∀a,aY jT a (R.st b).n→K a)→yk X.env s R.rs K
 | .own E=> ∃n f,b=[.ae false E.M n f]∧Bp X.env s R.rs E.M n f
 | .heap=> ∀K:List J→Prop,(∀a,a.length=(R.st b).n.length→cp X.m ⟨a,s.k⟩ (R.st b)→K a)→uF X.env s R.rs K
 | .lh .. => ∀K:List J→Prop,(∀a,a.length=(R.st b).n.length→cp X.m ⟨a,s.k⟩ (R.st b)→K a)→uF X.env s R.rs K
 | .eA .. => ∀K:List J→Prop,(∀a,a.length=(R.st b).n.length→cp X.m ⟨a,s.k⟩ (R.st b)→K a)→uF X.env s R.rs K
def LX(a:Bool)(H:Heap)(l:List J):Option (aS×D):=
 match a with
 |true=>match rQ H l with
  |some z=>some (z.1,⟨z.2,bt H (ev H l)⟩)
  |none=>none
 |false=>some (.c5,⟨l,H⟩)
theorem ahk{m:Nat}{b:Bool}{H:Heap}{l:List J}{o:aS}{s:D}(h:LX b H l=some (o,s))(c:o.holds):cp m ⟨l,H⟩ s∧l.length=s.n.length:=by
 unfold LX at h
 cases b with
 |false=>cases h;exact⟨cp.refl _,rfl⟩
 |true=>
  simp only at h
  split at h<;>try (cases h;done)
  rename_i z a
  cases h
  exact⟨cp.p1 (o:=z.1) (rl:=z.2) a c,(PK (o:=z.1) (cu:=z.2) a).symm⟩
def yl(X:cb)(R:cI)(s:D):Option (aS×List J):=
 match R.md with
 | .pure=>match LY X s R.rs with
   |some q=>match pj R.bp ⟨q.2,[]⟩with
    |some a=>some (.and q.1 (.e (yj q.2 (R.st a).n) (R.st a).n),a)
    |none=>none
   |none=>none
 | .own E=>match UJ X E s R.rs with
   |some q=>match dP R.b_ [q.2]with
    |some a=>some (.and q.1 (.e a [q.2]),a)
    |none=>none
   |none=>none
 | .heap=>match AL X s R.rs with
   |some q=>match rQ s.k q.2 with
    |some z=>match pj R.bp ⟨z.2,bt s.k (ev s.k q.2)⟩with
     |some a=>c3 (hF X.m (R.st a)) (some (.and q.1 (.and z.1 (jX ⟨z.2,bt s.k (ev s.k q.2)⟩ (R.st a))),a))
     |none=>none
    |none=>none
   |none=>none
 | .lh c b l=>match AL X s R.rs with
   |some q=>match LX c s.k q.2 with
    |some z=>match oU X.m z.2 b l with
     |some p=>match pj R.bp p.2 with
      |some a=>c3 (hF X.m (R.st a)) (some (.and q.1 (.and z.1 (.and p.1 (jX p.2 (R.st a)))),a))
      |none=>none
     |none=>none
    |none=>none
   |none=>none
 | .eA c b l _ d=>match AL X s R.rs with
   |some q=>match LX c s.k q.2 with
    |some z=>match oU X.m z.2 b l with
     |some p=>match dP R.b_ (d p.2)with
      |some a=>c3 (hF X.m (R.st a)) (some (.and q.1 (.and z.1 (.and p.1 (jX p.2 (R.st a)))),a))
      |none=>none
     |none=>none
    |none=>none
   |none=>none
theorem UN{X:cb}{R:cI}{s:D}{o:aS}{cv:List J}(h:yl X R s=some (o,cv))(a:o.holds):rr X R s cv∧ ∃w,dP R.b_ w=some cv:=by
 unfold yl at h;unfold rr
 cases e:R.md<;>rw[e]at h<;>simp only at h ⊢
 ·split at h<;>try (cases h;done)
  rename_i q b
  split at h<;>try (cases h;done)
  rename_i k c
  cases h
  exact⟨fun K d=>ahm (o:=q.1) (cv:=q.2) b a.1 (d _ (UE a.2)),_,c⟩
 ·split at h<;>try (cases h;done)
  rename_i q b
  split at h<;>try (cases h;done)
  rename_i k c;simp only[hd,s_]at h;obtain⟨rfl,rfl⟩:=h;obtain⟨n,f,t,u⟩:=aBb (o:=q.1) (ab:=q.2) b a.1;have v:k=[q.2]:=a.2;exact⟨⟨n,f,by rw[v,t],u⟩,_,c⟩
 ·split at h<;>try (cases h;done)
  rename_i q b
  split at h<;>try (cases h;done)
  rename_i z g
  split at h<;>try (cases h;done)
  rename_i k c;rw[dd]at h;obtain⟨j,h⟩:=h
  cases h
  exact⟨fun K d=>KA (o:=q.1) (cv:=q.2) b a.1 (d _ ((PK (o:=z.1) (cu:=z.2) g).symm.trans (zn (AU (y8 a.2.2)).1)) ((cp.p1 (o:=z.1) (rl:=z.2) g a.2.1).trans (nU a.2.2 j))),_,c⟩
 ·split at h<;>try (cases h;done)
  rename_i q b
  split at h<;>try (cases h;done)
  rename_i z g
  split at h<;>try (cases h;done)
  rename_i p i
  split at h<;>try (cases h;done)
  rename_i k c;rw[dd]at h;obtain⟨j,h⟩:=h
  cases h
  obtain⟨l,r⟩:=ahk (m:=X.m) (o:=z.1) (s:=z.2) g a.2.1;exact⟨fun K d=>KA (o:=q.1) (cv:=q.2) b a.1 (d _ (r.trans ((XI i).symm.trans (zn (AU (y8 a.2.2.2)).1))) ((l.trans (vA (o:=p.1) (dG:=p.2) i a.2.2.1)).trans (nU a.2.2.2 j))),_,c⟩
 ·split at h<;>try (cases h;done)
  rename_i q b
  split at h<;>try (cases h;done)
  rename_i z g
  split at h<;>try (cases h;done)
  rename_i p i
  split at h<;>try (cases h;done)
  rename_i k c;rw[dd]at h;obtain⟨j,h⟩:=h
  cases h
  obtain⟨l,r⟩:=ahk (m:=X.m) (o:=z.1) (s:=z.2) g a.2.1;exact⟨fun K d=>KA (o:=q.1) (cv:=q.2) b a.1 (d _ (r.trans ((XI i).symm.trans (zn (AU (y8 a.2.2.2)).1))) ((l.trans (vA (o:=p.1) (dG:=p.2) i a.2.2.1)).trans (nU a.2.2.2 j))),_,c⟩
def qZ(R:List aB)(c:Option Nat)(b:Bool)(a:List (Key×aB)):List aB:=
 match c with
 |some _=>match b with
  |true=> .bool::(a.map (·.2)++R)
  |false=>a.map (·.2)
 |none=>match b with
  |true=>R
  |false=>[]
structure dC (R:List aB) where
 keep:Nat
 drop:List Key
 ir:List (Key×cF)
 bp:List (Key×aB)
 ex:Option Nat
 rt:Bool
 awJ:Nat
 drop2:List Key
 es:List (Key×aB)
 G:Nat→dx (bp.map (·.2))→dx (qZ R ex rt es)
 m:ja
 I:dx (bp.map (·.2))→Prop
 kK:dx (bp.map (·.2))→Nat
 post:Option (dx (qZ R ex rt es)→Prop):=none
inductive cm (R:List aB):Type 1 where
 |z
 |s (l r:cm R)
 |j (J:vj) (l r:cm R)
 |c (b:Bool) (h:cm R)
 |cy (L:dC R) (h:cm R)
 |uQ (L:dC R) (h:dx (L.bp.map (·.2))→cm R)
 |fo (h:cm R)
 |un (n:Nat) (h:cm R)
 |hN (i b:Nat) (h:cm R)
 |ir (l:List (Key×cF))
 |pX (X9:List Key) (l:List kX)
 |xD (J:vj) (ir:List kX) (l r:cm R)
 |T0
 |bU (st:D) (h:cm R)
 |lk (L:List (Nat×Nat))
structure al6 (R:List aB):Type 1 where
 J:vj
 ir:List kX
 l:cm R
 r:cm R
def cm.aeF{R:List aB} :cm R→Option (al6 R)
 | .j J l r=>some ⟨J,[],l,r⟩
 | .xD J a l r=>some ⟨J,a,l,r⟩
 |_=>none
def Lf(m:Nat)(a:List kX)(J:vj)(t:T D):Option (aS×D):=
 match a with
 |[]=>meet m J t
 |c::r=>match t.rE (fun s=>(oX m s (c::r)).isSome)with
  |true=>match meet m J (t.map fun s=>((oX m s (c::r)).getD (.c5,s)).2)with
   |some q=>some (.and (t.FF fun s=>((oX m s (c::r)).getD (.c5,s)).1) q.1,q.2)
   |none=>none
  |false=>none
theorem Tx{m:Nat}{g:List kX}{J:vj}{t:T D}{o:aS}{jo:D}(h:Lf m g J t=some (o,jo))(b:o.holds):cp m t.bw jo:=by
 unfold Lf at h
 split at h
 ·exact afW h b
 ·rename_i c r
  split at h<;>try (cases h;done)
  rename_i i
  split at h<;>try (cases h;done)
  rename_i q j
  cases h
  have d:=T.yT i;have f:=T.LD b.1;have a:=afW (o:=q.1) (jo:=q.2) j b.2;rw[T.lp]at a
  cases e:oX m t.bw (c::r)with
  |none=>rw[e]at d;cases d
  |some p=>
   rw[e]at f a;exact(G6 (o:=p.1) (dG:=p.2) e f).trans a
def cm.l{R:List aB} :cm R→cm R
 | .s l _=>l
 | .j _ l _=>l
 | .c _ h=>h
 |_=> .z
def cm.r{R:List aB} :cm R→cm R
 | .s _ r=>r
 | .j _ _ r=>r
 | .c _ h=>h
 |_=> .z
def pY(a:List aB):List J:=a.map fun k=>k.ab k.lF
theorem O5: ∀a:List aB,dP a (pY a)=some (pY a)
 |[]=>rfl
 |k::a=>by
  have h:=O5 a;unfold pY at h;simp only[pY,Gh,dP,aB.nrm,aB.canon,h]
def sy:eR→Bool
 | .nrm _=>true
 |_=>false
def T.ka:T eR→Bool
 | .cW a=>sy a
 | .d_ _ l r=>match l.ka with
   |true=>true
   |false=>r.ka
def T.mX:T eR→Nat
 | .cW a=>match sy a with
   |true=>1
   |false=>0
 | .d_ _ l r=>l.mX+r.mX
def T.oB:T eR→Option D
 | .cW a=>match a with
   | .nrm s=>some s
   |_=>none
 | .d_ _ l r=>match l.oB with
   |some s=>some s
   |none=>r.oB
def T.wrap(t:T eR)(o:aS):aS:=
 match t with
 | .cW _=>o
 | .d_ b l r=>match l.ka with
   |true=> .imp b true (l.wrap o)
   |false=> .imp b false (r.wrap o)
def T.subst(t:T eR)(u:T eR):T eR:=
 match t with
 | .cW a=>match sy a with
   |true=>u
   |false=> .cW a
 | .d_ b l r=> .d_ b (l.subst u) (r.subst u)
theorem T.qC: ∀{t:T eR} {s:D},t.bw= .nrm s→t.ka=true
 | .cW a,s,h=>by simp only[T.bw]at h;subst h;rfl
 | .d_ b l r,s,h=>by
   simp only[T.ka]
   cases b
   ·rw[T.qC (t:=r) h];split<;>rfl
   ·rw[T.qC (t:=l) h]
theorem T.Cg: ∀{t:T eR},t.mX=0→t.ka=false
 | .cW a,h=>by
   cases a<;>first|rfl|(simp [T.mX,sy]at h;done)
 | .d_ b l r,h=>by
   simp only[T.mX]at h;simp only[T.ka,T.Cg (t:=l) (by omega),T.Cg (t:=r) (by omega)]
theorem T.AB: ∀{t:T eR},t.ka=true→0<t.mX
 | .cW a,h=>by simp only[T.ka]at h;simp [T.mX,h]
 | .d_ b l r,h=>by
   simp only[T.ka]at h;simp only[T.mX]
   split at h
   ·rename_i e;have:=T.AB e;omega
   ·have:=T.AB h;omega
theorem T.Vh: ∀{t:T eR},t.ka=false→t.oB=none
 | .cW a,h=>by cases a<;>first|rfl|(simp [T.ka,sy]at h;done)
 | .d_ b l r,h=>by
   simp only[T.ka]at h
   split at h
   ·cases h
   ·rename_i e;simp only[T.oB,T.Vh (t:=l) (by simpa using e),T.Vh h]
theorem T.TW: ∀{t:T eR} {s f:D},t.mX=1→t.bw= .nrm s→t.oB=some f→s=f
 | .cW a,s,f,_,h,c=>by
   simp only[T.bw]at h;subst h;simp only[T.oB]at c
   cases c;rfl
 | .d_ b l r,s,f,g,h,c=>by
   simp only[T.mX]at g;simp only[T.oB]at c
   cases b
   ·have u:=T.AB (T.qC (t:=r) h);rw[T.Vh (t:=l) (T.Cg (by omega))]at c;exact T.TW (t:=r) (by omega) h c
   ·have k:=T.AB (T.qC (t:=l) h)
    split at c
    ·cases c
     rename_i e;exact T.TW (t:=l) (by omega) h e
    ·rename_i e;obtain⟨s2,i⟩: ∃s2,l.oB=some s2:=by
      have:=T.qC (t:=l) h;clear c g h k;revert e;have o: ∀{t:T eR},t.ka=true→ ∃s2,t.oB=some s2:=by
       intro t
       induction t with
       |cW a=>intro d;cases a<;>first|exact⟨_,rfl⟩|(simp [T.ka,sy]at d;done)
       |d_ b l r m n=>
        intro d;simp only[T.ka]at d;simp only[T.oB]
        split at d
        ·rename_i e;obtain⟨s2,h⟩:=m e;rw[h];exact⟨_,rfl⟩
        ·cases p:l.oB with
         |some q=>exact⟨q,rfl⟩
         |none=>exact n d
      obtain⟨s2,j⟩:=o this;intro e;rw[j]at e;cases e
     rw[i]at e;cases e
theorem T.Vv: ∀{t:T eR} {s:D} {o:aS},t.mX=1→t.bw= .nrm s→(t.wrap o).holds→o.holds
 | .cW a,s,o,_,_,h=>h
 | .d_ b l r,s,o,e,c,h=>by
   simp only[T.mX]at e;simp only[T.wrap]at h
   cases b
   ·have f:=T.AB (T.qC (t:=r) c);rw[T.Cg (t:=l) (by omega)]at h;exact T.Vv (t:=r) (by omega) c (h rfl)
   ·have d:=T.qC (t:=l) c;rw[d]at h;exact T.Vv (t:=l) (by have:=T.AB d;omega) c (h rfl)
theorem T.F7{u:T eR} : ∀{t:T eR} {s:D},t.bw= .nrm s→(t.subst u).bw=u.bw
 | .cW a,s,h=>by simp only[T.bw]at h;subst h;rfl
 | .d_ b l r,s,h=>by
   cases b
   ·exact T.F7 (t:=r) h
   ·exact T.F7 (t:=l) h
theorem T.F6{u:T eR} : ∀{t:T eR},sy t.bw=false→(t.subst u).bw=t.bw
 | .cW a,h=>by simp only[T.bw]at h;simp only[T.subst,h,T.bw]
 | .d_ b l r,h=>by
   cases b
   ·exact T.F6 (t:=r) h
   ·exact T.F6 (t:=l) h
def FA:eR→Option D
 | .nrm s=>some s
 |_=>none
def E5:eR→Option eR
 | .nrm _=>none
 | .dead=>none
 |x=>some x
def KQ:eR→Option Bool
 | .nrm _=>some true
 | .dead=>none
 |_=>some false
def E2(id:Nat):eR→eR
 | .ext j s=>match Nat.beq j id with
   |true=> .nrm s
   |false=> .ext j s
 |x=>x
def GK(a b:Option Prop):Option Prop:=
 match a with
 |none=>b
 |some p=>match b with
  |none=>some p
  |some q=>some (p∧q)
def qA(a:Option Prop)(o:aS):aS:=
 match a with
 |none=>o
 |some p=> .uw p o
section
variable {R:List aB}
def dC.ends(L:dC R):Bool:=
 match L.ex with
 |some _=>true
 |none=>L.rt
def dC.cS(L:dC R)(a:D):D:=B5 L.keep L.drop a
def dC.dK(L:dC R)(cS:D)(s:dx (L.bp.map (·.2))):D:=x6 cS (L.bp.map (·.1)) (dx.gZ (L.bp.map (·.2)) s)
def dC.jo(L:dC R)(cS:D)(a:List J):D:=x6 (B5 L.awJ L.drop2 cS) (L.es.map (·.1)) a
def dC.FD(L:dC R)(s:D):Option (dx (L.bp.map (·.2))):=
 match pj L.bp s with
 |some a=>qY _ a
 |none=>none
def dC.out(L:dC R)(c:eR):Option (List J):=
 match c with
 | .ext _ s=>match pj L.es s with
   |some a=>match L.ex with
    |some _=>match L.rt with
     |true=>some (.bool false::(a++pY R))
     |false=>some a
    |none=>none
   |none=>none
 | .ret b=>match L.rt with
   |true=>match L.ex with
    |some _=>some (.bool true::(pY (L.es.map (·.2))++b))
    |none=>some b
   |false=>none
 |_=>none
def dC.AZ(L:dC R)(k:Nat)(cW:eR):Option (dx (qZ R L.ex L.rt L.es)):=
 match cW with
 | .nrm s=>match L.FD s with
   |some b=>some (L.G k b)
   |none=>none
 | .dead=>none
 |cW=>match L.out cW with
  |some a=>qY _ a
  |none=>none
def dC.L0(L:dC R)(t:T eR)(k:Nat):dx (qZ R L.ex L.rt L.es):=
 match t.prune (L.AZ k)with
 |some a=>a.jW L.m
 |none=>dx.lF _
def dC.L1(L:dC R)(t:T eR)(k:Nat):gX:=
 match t.prune (L.AZ k)with
 |some a=>a.y4 L.m
 |none=> .c5
def ahC(a:Option Nat)(id:Nat):Bool:=
 match a with
 |some i=>Nat.beq id i
 |none=>false
def dC.Uu(L:dC R)(a:List J):aS:=
 match L.post with
 |some p=>match qY (qZ R L.ex L.rt L.es) a with
  |some b=> .p (p b)
  |none=> .p False
 |none=> .c5
def dC.xX(L:dC R)(cS:D)(s:dx (L.bp.map (·.2)))(d:eR):aS:=
 match d with
 | .nrm b=>match L.FD b with
   |some c=> .and (jX b (L.dK cS c)) (.p (L.I c∧L.kK c<L.kK s))
   |none=> .p False
 | .ext id b=>match ahC L.ex id with
   |true=>match pj L.es b with
    |some a=>match L.out (.ext id b)with
     |some w=> .and (jX b (L.jo cS a)) (L.Uu w)
     |none=> .p False
    |none=> .p False
   |false=> .p False
 | .ret e=>match L.out (.ret e)with
   |some _=> .c5
   |none=> .p False
 | .dead=> .c5
def adO(l:List J):Bool:=
 match l with
 | .bool b::_=>b
 |_=>false
def dC.res(L:dC R)(cS:D)(a:dx (qZ R L.ex L.rt L.es)):T eR:=
 match L.ex with
 |some id=>match L.rt with
  |true=> .d_ (adO (dx.gZ _ a)) (.cW (.ret ((dx.gZ _ a).drop (1+L.es.length)))) (.cW (.ext id (L.jo cS (((dx.gZ _ a).drop 1).take L.es.length))))
  |false=> .cW (.ext id (L.jo cS (dx.gZ _ a)))
 |none=>match L.rt with
  |true=> .cW (.ret (dx.gZ _ a))
  |false=> .cW .dead
def dC.fact(L:dC R)(a:dx (qZ R L.ex L.rt L.es)):Option Prop:=
 match L.post with
 |some p=>match L.rt with
  |true=>none
  |false=>some (p a)
 |none=>none
end
def cm.pre{R:List aB}(m:Nat)(st:D):cm R→Option (aS×D)
 | .pX a l=>oU m st a l
 |_=>some (.c5,st)
theorem cm.aAx{R:List aB}{m:Nat}{st dG:D}{o:aS} : ∀{h:cm R},h.pre m st=some (o,dG)→o.holds→cp m st dG:=fun {h} e a=>by
 unfold cm.pre at e
 split at e
 ·exact vA e a
 ·cases e;exact cp.refl _
noncomputable def F2{R:List aB}(m:Nat)(f g:cm R→D→iG)(h:cm R)(st:D):iG:=
 match h.aeF with
 |some z=>match(f z.l st).t.prune FA with
  |some a=>match Lf m z.ir z.J a with
   |some q=>match(f z.l st).t.prune E5 with
    |none=>⟨.and (f z.l st).o (qA (f z.l st).f (.and q.1 (g z.r q.2).o)),GK (f z.l st).f (g z.r q.2).f,(g z.r q.2).t⟩
    |some b=>match(f z.l st).t.prune KQ with
     |some eV=>⟨.and (f z.l st).o (qA (f z.l st).f (.and q.1 (.and (.es fun _:Unit=>eV.y4 z.J.pm) (.imp (eV.jW z.J.pm) true (g z.r q.2).o)))),(f z.l st).f,.d_ (eV.jW z.J.pm) (g z.r q.2).t b⟩
     |none=> .bad
   |none=> .bad
  |none=> .bad
 |none=>match(f h.l st).t.mX with
  |0=>f h.l st
  |1=>match(f h.l st).t.oB with
   |some s=>⟨.and (f h.l st).o (qA (f h.l st).f ((f h.l st).t.wrap (g h.r s).o)),(match(f h.l st).t with
    | .cW _=>GK (f h.l st).f (g h.r s).f
    |_=>(f h.l st).f),(f h.l st).t.subst (g h.r s).t⟩
   |none=> .bad
  |_=> .bad
noncomputable def Ez{R:List aB}(m:Nat)(g:cm R→D→iG)(h:cm R)(st:D):iG:=
 match h with
 | .bU a b=>match hF m a with
   |true=>⟨.and (jX st a) (g b a).o,(g b a).f,(g b a).t⟩
   |false=> .bad
 |h=>g h st
noncomputable def Gc{R:List aB}(m:Nat)(f:cm R→D→iG):Nat→cm R→D→iG
 |0,h,st=>match(f h st).t.ka with
  |true=> .bad
  |false=>f h st
 |n+1,h,st=>F2 m f (Ez m (Gc m f n)) h st
noncomputable def exec(X:cb)(R:cI):Code→cm R.b_→D→iG
 | .skip,h,st=>match h with
   | .pX f l=>match oU X.m st f l with
     |some p=>⟨p.1,none,.cW (.nrm p.2)⟩
     |none=> .bad
   |_=>⟨.c5,none,.cW (.nrm st)⟩
 | .label _,_,st=>⟨.c5,none,.cW (.nrm st)⟩
 | .region _ ops e,h,st=>match h with
   | .hN i b a=>match a.pre X.m st with
     |none=> .bad
     |some p=>match p.2.n.getD i .undef with
      | .ptr g o=>match(Nat.beq g b&&Nat.beq o 0)with
        |true=>match(p.2.k.getD b []).all mW&&uP ⟨p.2.n.set i (.ref (p.2.k.getD b [])),setAt [] p.2.k b []⟩&&hF X.m ⟨p.2.n.set i (.ref (p.2.k.getD b [])),setAt [] p.2.k b []⟩&&Nat.blt i p.2.n.length with
         |true=>⟨.and p.1 (jL X ops e ⟨p.2.n.set i (.ref (p.2.k.getD b [])),setAt [] p.2.k b []⟩).o,none,(jL X ops e ⟨p.2.n.set i (.ref (p.2.k.getD b [])),setAt [] p.2.k b []⟩).t⟩
         |false=> .bad
        |false=> .bad
      |_=> .bad
   | .ir l=>match y5 st l with
     |some p=>⟨.and p.1 (jL X ops e p.2).o,none,(jL X ops e p.2).t⟩
     |none=> .bad
   | .pX f l=>match oU X.m st f l with
     |some p=>⟨.and p.1 (jL X ops e p.2).o,none,(jL X ops e p.2).t⟩
     |none=> .bad
   | .lk L=>match e with
     |true=>sT X ops L st
     |false=> .bad
   | .T0=>match T1 X ops.toList e st with
     |some p=>⟨p.1,none,.cW (.nrm p.2)⟩
     |none=> .bad
   |h=>match h.aeF with
    |some z=>match(jL X ops e st).t.prune FA with
     |some j=>match Lf X.m z.ir z.J j with
      |some q=>⟨.and (jL X ops e st).o q.1,none,.cW (.nrm q.2)⟩
      |none=> .bad
     |none=> .bad
    |none=>jL X ops e st
 | .exit id,h,st=>match h with
   | .pX f l=>match oU X.m st f l with
     |some p=>⟨p.1,none,.cW (.ext id p.2)⟩
     |none=> .bad
   |_=>⟨.c5,none,.cW (.ext id st)⟩
 | .ret,h,st=>match h with
   | .pX f l=>match oU X.m st f l with
     |some p=>match yl X R p.2 with
      |some q=>⟨.and p.1 q.1,none,.cW (.ret q.2)⟩
      |none=> .bad
     |none=> .bad
   |_=>match yl X R st with
    |some q=>⟨q.1,none,.cW (.ret q.2)⟩
    |none=> .bad
 | .block id x,h,st=>⟨(exec X R x h st).o,(exec X R x h st).f,(exec X R x h st).t.map (E2 id)⟩
 | .cond c x y,h,st=>match aC st.n c with
   | .lit b=>match b with
     |true=>exec X R x h.l st
     |false=>exec X R y h.r st
   | .bool b=>match h with
     | .c g a=>match g with
       |true=>⟨.and (.e b true) (exec X R x a st).o,(exec X R x a st).f,(exec X R x a st).t⟩
       |false=>⟨.and (.e b false) (exec X R y a st).o,(exec X R y a st).f,(exec X R y a st).t⟩
     |h=>⟨.and (.imp b true (exec X R x h.l st).o) (.imp b false (exec X R y h.r st).o),none,.d_ b (exec X R x h.l st).t (exec X R y h.r st).t⟩
   |_=> .bad
 | .seq x y,h,st=>F2 X.m (exec X R x) (Ez X.m (exec X R y)) h st
 | .loop x,h,st=>match h with
   | .fo a=>match(exec X R x a st).t.ka with
     |true=> .bad
     |false=>exec X R x a st
   | .un n a=>Gc X.m (exec X R x) n a st
   | .cy L a=>match y5 st L.ir with
     |none=> .bad
     |some p=>match L.ends with
      |false=> .bad
      |true=>match L.FD p.2 with
       |none=> .bad
       |some d=>⟨.and p.1 (.and (jX p.2 (L.dK (L.cS p.2) d)) (.and (.p (L.I d)) (.and (.e (fun s=>hF X.m (L.dK (L.cS p.2) s)) fun _=>true) (.and (.e (fun v=>hF X.m (L.jo (L.cS p.2) (dx.gZ (L.es.map (·.2)) v))) fun _=>true)
         (.all (L.bp.map (·.2)) L.I fun s=> .and (exec X R x a (L.dK (L.cS p.2) s)).o (.and (qA (exec X R x a (L.dK (L.cS p.2) s)).f ((exec X R x a (L.dK (L.cS p.2) s)).t.yb (L.xX (L.cS p.2) s)))
           (.es fun k:Nat=> .and (.e (L.G (k+1) s) (L.L0 (exec X R x a (L.dK (L.cS p.2) s)).t k)) (L.L1 (exec X R x a (L.dK (L.cS p.2) s)).t k)))))))),
         L.fact (L.G (L.kK d+1) d),L.res (L.cS p.2) (L.G (L.kK d+1) d)⟩
   | .uQ L a=>match y5 st L.ir with
     |none=> .bad
     |some p=>match L.ends with
      |false=> .bad
      |true=>match L.FD p.2 with
       |none=> .bad
       |some d=>⟨.and p.1 (.and (jX p.2 (L.dK (L.cS p.2) d)) (.and (.p (L.I d)) (.and (.e (fun s=>hF X.m (L.dK (L.cS p.2) s)) fun _=>true) (.and (.e (fun v=>hF X.m (L.jo (L.cS p.2) (dx.gZ (L.es.map (·.2)) v))) fun _=>true)
         (.all (L.bp.map (·.2)) L.I fun s=> .and (exec X R x (a s) (L.dK (L.cS p.2) s)).o (.and (qA (exec X R x (a s) (L.dK (L.cS p.2) s)).f ((exec X R x (a s) (L.dK (L.cS p.2) s)).t.yb (L.xX (L.cS p.2) s)))
           (.es fun k:Nat=> .and (.e (L.G (k+1) s) (L.L0 (exec X R x (a s) (L.dK (L.cS p.2) s)).t k)) (L.L1 (exec X R x (a s) (L.dK (L.cS p.2) s)).t k)))))))),
         L.fact (L.G (L.kK d+1) d),L.res (L.cS p.2) (L.G (L.kK d+1) d)⟩
   |_=> .bad
 |_,_,_=> .bad
section
def jw(X:cb)(R:cI)(a:eR)(e:Exit)(s:D):Prop:=
 match e with
 | .normal=>match a with
   | .nrm b=>cp X.m s b
   |_=>False
 | .exit id=>match a with
   | .ext c b=>id=c∧cp X.m s b
   |_=>False
 | .ret=>match a with
   | .ret d=>rr X R s d
   |_=>False
 |_=>False
theorem axC{b:List (Key×aB)}{s:D}{a:List J}(h:pj b s=some a): ∃c,qY (b.map (·.2)) a=some c∧dx.gZ (b.map (·.2)) c=a:=A8 h
theorem TL: ∀{g c:List aB} {aa b d f:List J},dP g aa=some d→dP c b=some f→dP (g++c) (aa++b)=some (d++f)
 |[],c,[],b,d,f,h,k=>by cases h;exact k
 |[],_,_::_,_,_,_,h,_=>by cases h
 |_::_,_,[],_,_,_,h,_=>by cases h
 |k::g,c,a::aa,b,d,f,h,j=>by
  simp only[dP]at h
  split at h<;>try (cases h;done)
  rename_i y e
  split at h<;>try (cases h;done)
  rename_i l i
  cases h
  have:=TL i j;simp only[BN,dP,e,this]
theorem uU: ∀{c:List aB} {aa b:List J},dP c aa=some b→b.length=c.length
 |[],[],b,h=>by cases h;rfl
 |[],_::_,_,h=>by cases h
 |_::_,[],_,h=>by cases h
 |k::c,a::aa,b,h=>by
  simp only[dP]at h
  split at h<;>try (cases h;done)
  split at h<;>try (cases h;done)
  rename_i e d
  cases h
  simp [uU d]
section
variable {R:List aB}
theorem dC.agz{L:dC R}{d:eR}{w:List J}(h:L.out d=some w)(j: ∀b,d= .ret b→ ∃xs,dP R xs=some b): ∃g,qY (qZ R L.ex L.rt L.es) w=some g∧dx.gZ _ g=w:=by
 unfold dC.out at h;unfold qZ
 cases d<;>simp only at h<;>try (cases h;done)
 ·rename_i id s
  split at h<;>try (cases h;done)
  rename_i a e
  split at h<;>try (cases h;done)
  rename_i i k
  cases c:L.rt<;>rw[c]at h<;>cases h
  ·simp only;exact A8 e
  ·simp only;exact A8 (xs:= .bool false::(getAll s (L.es.map (·.1))++pY R)) (by
    have:=TL e (O5 R);simp only[dP,aB.nrm,aB.rd,ah.UG,aB.ab,this])
 ·rename_i b;obtain⟨xs,f⟩:=j b rfl
  cases c:L.rt<;>rw[c]at h<;>simp only at h<;>try (cases h;done)
  split at h
  ·cases h
   simp only;exact A8 (xs:= .bool true::(pY (L.es.map (·.2))++xs)) (by
    have:=TL (O5 (L.es.map (·.2))) f;simp only[dP,aB.nrm,aB.rd,ah.UG,aB.ab,this])
  ·cases h
   simp only;exact A8 f
end
structure yQ (X:cb) (R:cI) (W:(Exit→D→Prop)→D→Prop) (st:D) (r:iG):Prop where
 wp:W (jw X R r.t.bw) st
 f: ∀p,r.f=some p→p
 ret: ∀cv,r.t.bw= .ret cv→ ∃xs,dP R.b_ xs=some cv
 live:r.t.bw≠ .dead
abbrev oP(X:cb)(R:cI)(c:Code)(st:D)(r:iG):Prop:=yQ X R (WP X.env c) st r
set_option maxHeartbeats 1000000
theorem adP(b:Bool)(l:List J):adO (.bool b::l)=b:=rfl
theorem WP.afN{X:cb}{R:cI}{x:Code}{st:D}(L:dC R.b_)(n:D)(t:dx (L.bp.map (·.2)))(m:dx (L.bp.map (·.2))→iG)(M:L.ends=true)
  (iP: ∀s,(m s).o.holds→oP X R x (L.dK (L.cS n) s) (m s))
  (hle:cp X.m st (L.dK (L.cS n) t)) (U:L.I t) (fY: ∀s,hF X.m (L.dK (L.cS n) s)=true) (lh: ∀cP,hF X.m (L.jo (L.cS n) (dx.gZ (L.es.map (·.2)) cP))=true)
  (V: ∀s,L.I s→(m s).o.holds∧(qA (m s).f ((m s).t.yb (L.xX (L.cS n) s))).holds∧ ∀k:Nat,L.G (k+1) s=L.L0 (m s).t k∧(L.L1 (m s).t k).holds)
  (hg:aS):oP X R (.loop x) st ⟨hg,L.fact (L.G (L.kK t+1) t),L.res (L.cS n) (L.G (L.kK t+1) t)⟩:=by
 have S: ∀s,L.I s→oP X R x (L.dK (L.cS n) s) (m s):=fun s d=>iP s (V s d).1;have Z: ∀s,L.I s→(L.xX (L.cS n) s (m s).t.bw).holds:=fun s d=>by
  obtain⟨g,B,_⟩:=V s d;have o:=(iP s g).f;unfold qA at B
  cases e:(m s).f with
  |none=>rw[e]at B;exact T.FG B
  |some p=>rw[e]at B;exact T.FG (B (o p e))
 have Ss: ∀s,L.I s→ ∀k b,L.AZ k (m s).t.bw=some b→L.G (k+1) s=b:=fun s d k b atU=>by
  obtain⟨_,_,o⟩:=V s d;obtain⟨O,z⟩:=o k;rw[O];obtain⟨aFH,jg,fL⟩:=T.mI atU;unfold dC.L0;unfold dC.L1 at z;rw[jg]at z ⊢;simp only at z ⊢;rw[T.Cl z,fL]
 have ad7: ∀s,L.I s→ ∀f,(m s).t.bw= .nrm f→ ∃b,L.FD f=some b∧(jX f (L.dK (L.cS n) b)).holds∧L.I b∧L.kK b<L.kK s∧ ∀k,L.G (k+1) s=L.G k b:=fun s d f c=>by
  have g:=Z s d;rw[c]at g;simp only[dC.xX]at g
  split at g
  ·rename_i b Hb;exact⟨b,Hb,g.1,g.2.1,g.2.2,fun k=>Ss s d k _ (by rw[c];simp only[dC.AZ,Hb])⟩
  ·exact g.elim
 have Y: ∀s,L.I s→ ∀id f,(m s).t.bw= .ext id f→L.ex=some id∧ ∃a w b,pj L.es f=some a∧L.out (.ext id f)=some w∧qY _ w=some b∧dx.gZ _ b=w∧(jX f (L.jo (L.cS n) a)).holds∧(L.Uu w).holds∧ ∀k,L.G (k+1) s=b:=fun s d id f c=>by
  have g:=Z s d;rw[c]at g;simp only[dC.xX]at g
  split at g<;>try exact g.elim
  rename_i N
  split at g<;>try exact g.elim
  rename_i a I
  split at g<;>try exact g.elim
  rename_i w l;obtain⟨b,C,E⟩:=dC.agz l (fun j e=>by cases e);refine⟨?_,a,w,b,I,l,C,E,g.1,g.2,fun k=>Ss s d k b (by rw[c];simp only[dC.AZ,l,C])⟩;unfold ahC at N
  split at N
  ·rename_i i e;rw[e,dX N]
  ·cases N
 have Sr: ∀s,L.I s→ ∀j,(m s).t.bw= .ret j→L.rt=true∧ ∃w b,L.out (.ret j)=some w∧qY _ w=some b∧dx.gZ _ b=w∧ ∀k,L.G (k+1) s=b:=fun s d j c=>by
  have g:=Z s d;rw[c]at g;simp only[dC.xX]at g
  split at g<;>try exact g.elim
  rename_i w l;obtain⟨b,C,E⟩:=dC.agz l (fun aDc e=>by cases e;exact(S s d).ret _ c);refine⟨?_,w,b,l,C,E,fun k=>Ss s d k b (by rw[c];simp only[dC.AZ,l,C])⟩
  cases r:L.rt with
  |true=>rfl
  |false=>
   simp only[dC.out]at l
   split at l
   ·rename_i zh;rw[r]at zh;cases zh
   ·cases l
 have adV: ∀(q:dx (qZ R.b_ L.ex L.rt L.es)→Prop),(∀s,L.I s→ ∀b,(∀id f,(m s).t.bw= .ext id f→L.G 1 s=b→q b)∧(∀j,(m s).t.bw= .ret j→L.G 1 s=b→q b))→ ∀(k:Nat) s,L.I s→L.kK s≤k→q (L.G (k+1) s):=fun q iR k=>by
  induction k using Nat.strongRecOn with
  |_ k lX=>
   intro s d jK
   cases c:(m s).t.bw with
   |nrm f=>
    obtain⟨b,_,_,o,O,z⟩:=ad7 s d f c;obtain⟨A,rfl⟩: ∃A,k=A+1:=⟨k-1,by omega⟩;rw[z];exact lX A (by omega) b o (by omega)
   |ext id f=>
    obtain⟨_,a,w,b,_,_,_,_,_,_,u⟩:=Y s d id f c;rw[u];exact(iR s d b).1 id f c (u 0)
   |ret j=>
    obtain⟨_,w,b,_,_,_,u⟩:=Sr s d j c;rw[u];exact(iR s d b).2 j c (u 0)
   |dead=>exact absurd c (S s d).live
 have aec: ∀s,L.I s→ ∀id f,(m s).t.bw= .ext id f→ ∀k,∃a,(jX f (L.jo (L.cS n) a)).holds∧hF X.m (L.jo (L.cS n) a)=true∧(L.res (L.cS n) (L.G (k+1) s)).bw= .ext id (L.jo (L.cS n) a):=fun s d id f c k=>by
  obtain⟨W,a,w,b,I,l,C,E,z,_,u⟩:=Y s d id f c;obtain⟨cP,v1,v2⟩:=axC I;have aea:=lh cP;rw[v2]at aea;refine⟨a,z,aea,?_⟩;rw[u k];simp only[dC.out,I,W]at l;simp only[dC.res,E]
  split
  ·rename_i i v;rw[W]at v
   cases v
   split
   ·rename_i r
    split at l
    ·cases l
     simp only[adP,T.bw];have Q:=uU I;simp only[List.length_map]at Q;simp only[List.drop_one,List.tail_cons,←Q,List.take_left']
    ·rename_i J;rw[r]at J;cases J
   ·rename_i r
    split at l
    ·rename_i J;rw[r]at J;cases J
    ·cases l
     rfl
  ·rename_i v;rw[W]at v
   cases v
 have aee: ∀s,L.I s→ ∀j,(m s).t.bw= .ret j→ ∀k,(L.res (L.cS n) (L.G (k+1) s)).bw= .ret j:=fun s d j c k=>by
  obtain⟨Su,w,b,l,C,E,u⟩:=Sr s d j c;rw[u k];simp only[dC.out,Su]at l;simp only[dC.res,E]
  split
  ·rename_i i v
   split at l
   ·cases l
    split
    ·simp only[adP,T.bw];have Q:(pY (L.es.map (·.2))).length=L.es.length:=by simp [pY]
     rw[Nat.add_comm,List.drop_succ_cons,←Q,List.drop_left]
    ·rename_i r;rw[Su]at r;cases r
   ·rename_i e;rw[v]at e;cases e
  ·rename_i v
   split at l
   ·rename_i e;rw[v]at e;cases e
   ·cases l
    split
    ·rfl
    ·rename_i r;rw[Su]at r;cases r
 refine⟨?_,?_,?_,?_⟩
 ·refine WP.le hle (WP.loop (α:=dx (L.bp.map (·.2))×Nat) (fun p=>L.dK (L.cS n) p.1) (fun p=>L.I p.1∧L.kK p.1≤p.2∧L.G (p.2+1) p.1=L.G (L.kK t+1) t) (fun p=>L.kK p.1) (t,L.kK t) ⟨U,bx _,rfl⟩ (cp.refl _) fun p atk=> ?_);obtain⟨s,k⟩:=p;obtain⟨K,jK,P⟩:=atk;simp only at K jK P;refine(S s K).wp.mono fun e s1 y=> ?_
  cases e<;>simp only[jw]at y<;>try exact y.elim
  ·
   split at y<;>try exact y.elim
   rename_i f c;obtain⟨b,g,B,o,O,z⟩:=ad7 s K f c;obtain⟨A,rfl⟩: ∃A,k=A+1:=⟨k-1,by omega⟩;have F:L.kK b≤A:=by omega
   have u:L.G (A+1) b=L.G (L.kK t+1) t:=(z (A+1)).symm.trans P;exact⟨(b,A),⟨o,F,u⟩,O,y.trans (nU B (fY b))⟩
  ·
   split at y<;>try exact y.elim
   rename_i aFl f c;obtain⟨rfl,as4⟩:=y;obtain⟨a,g,B,o⟩:=aec s K _ f c k;rw[P]at o;show jw X R (L.res (L.cS n) _).bw (.exit _) s1;rw[o];exact⟨rfl,as4.trans (nU g B)⟩
  ·
   split at y<;>try exact y.elim
   rename_i j c;have o:=aee s K j c k;rw[P]at o;show jw X R (L.res (L.cS n) _).bw .ret s1;rw[o];exact y
 ·
  intro p H;simp only[dC.fact]at H
  split at H<;>try (cases H;done)
  rename_i q Hd
  split at H<;>try (cases H;done)
  rename_i r
  cases H
  refine adV q (fun s d b=>⟨fun id f c G=> ?_,fun j c _=> ?_⟩) _ t U (bx _)
  ·obtain⟨_,a,w,aFO,_,_,C,_,_,F,u⟩:=Y s d id f c;rw[u 0]at G;subst G;unfold dC.Uu at F;rw[Hd]at F;simp only[C]at F;exact F
  ·have:=(Sr s d j c).1;rw[r]at this;cases this
 ·refine adV (fun b=> ∀j,(L.res (L.cS n) b).bw= .ret j→ ∃xs,dP R.b_ xs=some j) (fun s d b=>⟨fun id f c G j c4=> ?_,fun j c G aDc c4=> ?_⟩) _ t U (bx _)
  ·obtain⟨a,_,_,o⟩:=aec s d id f c 0;rw[G,c4]at o
   cases o
  ·have o:=aee s d j c 0;rw[G,c4]at o
   cases o
   exact(S s d).ret _ c
 ·simp only[dC.res]
  split
  ·split
   ·intro h;simp only[T.bw]at h
    split at h<;>cases h
   ·intro h;cases h
  ·split
   ·intro h;cases h
   ·rename_i v _ r;unfold dC.ends at M;rw[v]at M;simp only at M;rw[r]at M;cases M
theorem FL{X:cb}{ops:Array Oper} : ∀(l:List Oper) (i:Nat) (st:D) (rs:List Rec) (o:aS) (t:T pQ),pq X ops l i st rs=some (o,t)→o.holds→t.bw≠none
 |[],i,st,rs,o,t,h,a=>by cases h;intro h;cases h
 |p::l,i,st,rs,o,t,h,a=>by
  simp only[pq,EV]at h
  split at h<;>try (cases h;done)
  split at h
  ·exact FL l _ _ _ o t h a
  ·split at h
   ·cases h;exact a.elim
   split at h<;>try (cases h;done)
   split at h
   ·rename_i b f
    split at h<;>try (cases h;done)
    rename_i q1 c
    split at h<;>try (cases h;done)
    rename_i d e
    cases h
    cases b
    ·exact FL l _ _ _ d.1 d.2 e (a.2.2 rfl)
    ·exact FL l _ _ _ q1.1 q1.2 c (a.2.1 rfl)
   ·split at h<;>try (cases h;done)
    rename_i q c
    cases h
    exact FL l _ _ _ q.1 q.2 c a.2
theorem FJ{X:cb}{ops:Array Oper} : ∀(l:List Oper) (i:Nat) (st:D) (rs:List Rec) (o:aS) (t:T pQ),sQ X ops l i st rs=some (o,t)→o.holds→t.bw≠none
 |[],i,st,rs,o,t,h,a=>by cases h;intro h;cases h
 |p::l,i,st,rs,o,t,h,a=>by
  simp only[sQ,EV]at h
  split at h<;>try (cases h;done)
  split at h
  ·exact FJ l _ _ _ o t h a
  ·split at h
   ·cases h;exact a.elim
   split at h<;>try (cases h;done)
   split at h
   ·rename_i b f
    split at h<;>try (cases h;done)
    rename_i q1 c
    split at h<;>try (cases h;done)
    rename_i d e
    cases h
    cases b
    ·exact FJ l _ _ _ d.1 d.2 e (a.2.2 rfl)
    ·exact FJ l _ _ _ q1.1 q1.2 c (a.2.1 rfl)
   ·split at h<;>try (cases h;done)
    rename_i q c
    cases h
    exact FJ l _ _ _ q.1 q.2 c a.2
theorem ahh{X:cb}{ops:Array Oper}{b:Bool}{st:D}(a:(jL X ops b st).o.holds): ∃s,(jL X ops b st).t.bw= .nrm s:=by
 unfold jL at a ⊢
 split at a
 ·exact a.elim
 ·rename_i q e;obtain⟨o,t⟩:=q;simp only[e];have c:o.holds→ ∃s,(t.map K2).bw= .nrm s:=fun a=>by
   rw[T.lp]
   cases h:t.bw with
   |none=>exact absurd h (FL _ _ _ _ o t e a)
   |some q=>exact⟨q.1,rfl⟩
  cases b with
  |false=>exact c a
  |true=>
   simp only at a ⊢
   split at a
   ·rename_i d;simp only[d];exact c a
   ·exact a.elim
theorem LW{X:cb}{R:cI}(e:X.env.dq){id:Nat}{ops:Array Oper}{b:Bool}{st:D}(c:(jL X ops b st).o.holds):oP X R (.region id ops b) st (jL X ops b st):=by
 obtain⟨s,d⟩:=ahh c;refine⟨ahi e c fun f h=> ?_,fun p a=> ?_,fun g h=> ?_,fun h=> ?_⟩
 ·rw[h];exact cp.refl _
 ·unfold jL at a
  split at a
  ·cases a
  ·split at a
   ·cases a
   ·split at a<;>cases a
 ·rw[d]at h;cases h
 ·rw[d]at h;cases h
theorem aA8{X:cb}{R:cI}(f:X.env.dq){id:Nat}{ops:Array Oper}{L:List (Nat×Nat)}{st:D}(a:(sT X ops L st).o.holds):oP X R (.region id ops true) st (sT X ops L st):=by
 have g: ∃s,(sT X ops L st).t.bw= .nrm s:=by
  unfold sT at a ⊢
  split at a
  ·exact a.elim
  ·rename_i q e;obtain⟨o,t⟩:=q;simp only[e]at a ⊢
   split at a
   ·rename_i d;simp only[d];rw[T.lp]
    cases h:t.bw with
    |none=>exact absurd h (FJ _ _ _ _ o t e a.1)
    |some q=>exact⟨q.1,rfl⟩
   ·exact a.elim
 obtain⟨s,c⟩:=g;refine⟨aA7 f a fun i h=> ?_,fun p b=> ?_,fun j h=> ?_,fun h=> ?_⟩
 ·rw[h];exact cp.refl _
 ·unfold sT at b
  split at b
  ·cases b
  ·split at b<;>cases b
 ·rw[c]at h;cases h
 ·rw[c]at h;cases h
theorem aeu{id:Nat}{a:eR} :(∀b,E2 id a= .ret b→a= .ret b)∧(E2 id a= .dead→a= .dead):=by
 cases a<;>simp only[E2]
 ·exact⟨fun _ h=>(by cases h),fun h=>(by cases h)⟩
 ·split<;>exact⟨fun _ h=>(by cases h),fun h=>(by cases h)⟩
 ·exact⟨fun _ h=>h,fun h=>(by cases h)⟩
 ·exact⟨fun _ h=>(by cases h),fun h=>h⟩
theorem WH{a b:Option Prop}(c: ∀p,a=some p→p)(d: ∀p,b=some p→p): ∀p,GK a b=some p→p:=by
 intro p h;unfold GK at h
 split at h
 ·exact d p h
 ·split at h
  ·cases h;exact c _ rfl
  ·cases h;exact⟨c _ rfl,d _ rfl⟩
theorem JU{a:Option Prop}{o:aS}(h:(qA a o).holds)(b: ∀p,a=some p→p):o.holds:=by
 unfold qA at h
 split at h
 ·exact h
 ·exact h (b _ rfl)
theorem Ma{X:cb}{R:cI}{W:(Exit→D→Prop)→D→Prop}{x:Code}{st:D}{r:iG}(h:oP X R x st r)(b:sy r.t.bw=false):WP X.env x (hT (W (jw X R r.t.bw)) (jw X R r.t.bw)) st:=
 h.wp.mono fun e s a=>by
  cases e<;>simp only[hT]<;>try exact a
  simp only[jw]at a
  split at a
  ·rename_i d c;rw[c]at b;cases b
  ·exact a.elim
theorem UY{X:cb}{R:cI}{W:(Exit→D→Prop)→D→Prop}(d: ∀{Q st c},cp X.m st c→W Q c→W Q st){x:Code}{st s b:D}{r:iG}{Q:Exit→D→Prop}(h:oP X R x st r)(g:r.t.bw= .nrm s)(f:cp X.m s b)(i:W Q b):WP X.env x (hT (W Q) Q) st:=
 h.wp.mono fun e j a=>by
  rw[g]at a
  cases e<;>simp only[jw,hT]at a ⊢ <;>try exact a.elim
  exact d (a.trans f) i
theorem ahK{X:cb}{R:cI}{W:(Exit→D→Prop)→D→Prop}{x:Code}{f g:cm R.b_→D→iG}(C: ∀{Q st K},cp X.m st K→W Q K→W Q st)(v: ∀h st,(f h st).o.holds→oP X R x st (f h st))(B: ∀h st,(g h st).o.holds→yQ X R W st (g h st))
  (h:cm R.b_) (st:D) (c:(F2 X.m f g h st).o.holds):yQ X R (fun Q st=>WP X.env x (hT (W Q) Q) st) st (F2 X.m f g h st):=by
 unfold F2 at c ⊢
 split at c
 ·rename_i z S
  split at c<;>try exact c.elim
  rename_i L G
  split at c<;>try exact c.elim
  rename_i q H
  split at c
  ·rename_i u;have a:=v z.l st c.1;have k:=JU c.2 a.f;have e:=B z.r q.2 k.2;have E:=Tx (o:=q.1) (jo:=q.2) H k.1;have I:E5 (f z.l st).t.bw=none:=by
    cases h:E5 (f z.l st).t.bw with
    |none=>rfl
    |some cP=>obtain⟨m,b,_⟩:=T.mI h;rw[u]at b;cases b
   obtain⟨s,J⟩: ∃s,(f z.l st).t.bw= .nrm s:=by
    cases h:(f z.l st).t.bw with
    |nrm s=>exact⟨s,rfl⟩
    |dead=>exact absurd h a.live
    |_=>rw[h]at I;cases I
   have F:L.bw=s:=by
    obtain⟨m,b,d⟩:=T.mI (f:=FA) (t:=(f z.l st).t) (x:=s) (by rw[J];rfl);rw[G]at b;cases b;exact d
   exact⟨UY C a J (F▸E) e.wp,WH a.f e.f,e.ret,e.live⟩
  ·rename_i j u
   split at c<;>try exact c.elim
   rename_i eV y;have a:=v z.l st c.1;have k:=JU c.2 a.f;have E:=Tx (o:=q.1) (jo:=q.2) H k.1;have A:eV.jW z.J.pm=eV.bw:=T.Cl (k.2.1 ());have P:=k.2.2
   cases h:(f z.l st).t.bw with
   |nrm s=>
    have F:L.bw=s:=by
     obtain⟨m,b,d⟩:=T.mI (f:=FA) (t:=(f z.l st).t) (x:=s) (by rw[h];rfl);rw[G]at b;cases b;exact d
    have p:eV.jW z.J.pm=true:=by
     obtain⟨m,b,d⟩:=T.mI (f:=KQ) (t:=(f z.l st).t) (x:=true) (by rw[h];rfl);rw[y]at b;cases b;exact A.trans d
    have e:=B z.r q.2 (P p);rw[p];exact⟨UY C a h (F▸E) e.wp,a.f,e.ret,e.live⟩
   |dead=>exact absurd h a.live
   |ext id s=>
    have p:eV.jW z.J.pm=false:=by
     obtain⟨m,b,d⟩:=T.mI (f:=KQ) (t:=(f z.l st).t) (x:=false) (by rw[h];rfl);rw[y]at b;cases b;exact A.trans d
    have l:j.bw=(f z.l st).t.bw:=by
     obtain⟨m,b,d⟩:=T.mI (f:=E5) (t:=(f z.l st).t) (x:= .ext id s) (by rw[h];rfl);rw[u]at b;cases b;rw[d,h]
    rw[p];refine⟨?_,a.f,?_,?_⟩
    ·show WP _ x (hT (W (jw X R j.bw)) (jw X R j.bw)) _;rw[l];exact Ma a (by rw[h];rfl)
    ·show∀r,j.bw= .ret r→_;rw[l];exact a.ret
    ·show j.bw≠ .dead;rw[l];exact a.live
   |ret r=>
    have p:eV.jW z.J.pm=false:=by
     obtain⟨m,b,d⟩:=T.mI (f:=KQ) (t:=(f z.l st).t) (x:=false) (by rw[h];rfl);rw[y]at b;cases b;exact A.trans d
    have l:j.bw=(f z.l st).t.bw:=by
     obtain⟨m,b,d⟩:=T.mI (f:=E5) (t:=(f z.l st).t) (x:= .ret r) (by rw[h];rfl);rw[u]at b;cases b;rw[d,h]
    rw[p];refine⟨?_,a.f,?_,?_⟩
    ·show WP _ x (hT (W (jw X R j.bw)) (jw X R j.bw)) _;rw[l];exact Ma a (by rw[h];rfl)
    ·show∀r,j.bw= .ret r→_;rw[l];exact a.ret
    ·show j.bw≠ .dead;rw[l];exact a.live
 ·rename_i U V
  split at c
  ·rename_i n;have a:=v _ st c;exact⟨Ma a (by
    cases h:(f h.l st).t.bw with
    |nrm s=>have:=T.qC h;rw[T.Cg n]at this;cases this
    |_=>rfl),a.f,a.ret,a.live⟩
  ·rename_i n
   split at c<;>try exact c.elim
   rename_i s N;have a:=v _ st c.1;have k:=JU c.2 a.f
   cases i:(f h.l st).t.bw with
   |nrm Z=>
    have O:=T.TW n i N;subst O;have e:=B _ _ (T.Vv n i k);refine⟨?_,?_,?_,?_⟩
    ·simp only[T.F7 i];exact UY C a i (cp.refl _) e.wp
    ·split
     ·exact WH a.f e.f
     ·exact a.f
    ·simp only[T.F7 i];exact e.ret
    ·simp only[T.F7 i];exact e.live
   |dead=>exact absurd i a.live
   |_=>
    have w:sy (f h.l st).t.bw=false:=by rw[i];rfl
    refine⟨?_,?_,?_,?_⟩
    ·simp only[T.F6 w];exact Ma a w
    ·split
     ·rename_i Y M;exfalso;rw[M]at n i;simp only[T.bw]at i;subst i
      cases n
     ·exact a.f
    ·simp only[T.F6 w];exact a.ret
    ·simp only[T.F6 w];exact a.live
  ·exact c.elim
theorem adp{X:cb}{R:cI}{W:(Exit→D→Prop)→D→Prop}{g:cm R.b_→D→iG}(e: ∀{Q st d},cp X.m st d→W Q d→W Q st)(c: ∀h st,(g h st).o.holds→yQ X R W st (g h st)): ∀h st,(Ez X.m g h st).o.holds→yQ X R W st (Ez X.m g h st):=by
 intro h st a;unfold Ez at a ⊢
 split at a
 ·split at a<;>try exact a.elim
  rename_i f;have b:=c _ _ a.2;exact⟨e (nU a.1 f) b.wp,b.f,b.ret,b.live⟩
 ·exact c _ _ a
theorem WP.ahn{E:Env}{x:Code}{Q:Exit→D→Prop}{st a:D}(h:cp E.m st a): ∀n,WP.ym E x Q n a→WP.ym E x Q n st
 |0,k=>k
 |_+1,k=>WP.le h k
theorem aif{X:cb}{R:cI}{x:Code}{f:cm R.b_→D→iG}(d: ∀h st,(f h st).o.holds→oP X R x st (f h st)): ∀(n:Nat) (h:cm R.b_) (st:D),(Gc X.m f n h st).o.holds→yQ X R (fun Q st=>WP.ym X.env x Q (n+1) st) st (Gc X.m f n h st)
 |0,h,st,a=>by
  unfold Gc at a ⊢
  split at a
  ·exact a.elim
  ·rename_i g;have b:=d h st a;refine⟨b.wp.mono fun e s c=> ?_,b.f,b.ret,b.live⟩
   cases e<;>simp only[hT]<;>try exact c
   simp only[jw]at c
   split at c
   ·rename_i j i;rw[T.qC i]at g;cases g
   ·exact c
 |n+1,h,st,a=>ahK (W:=fun Q st=>WP.ym X.env x Q (n+1) st) (fun h k=>WP.ahn h _ k) d (adp (W:=fun Q st=>WP.ym X.env x Q (n+1) st) (fun h k=>WP.ahn h _ k) (aif d n)) h st a
theorem CC{X:cb}{R:cI}(F:X.env.dq): ∀(c:Code) (h:cm R.b_) (st:D),(exec X R c h st).o.holds→oP X R c st (exec X R c h st):=by
 intro c
 induction c with
 |skip=>
  intro h st d;simp only[exec]at d ⊢
  split at d
  ·split at d<;>try exact d.elim
   rename_i p r;exact⟨WP.skip (vA (o:=p.1) (dG:=p.2) r d),fun p m=>(by cases m),fun u h=>(by cases h),fun h=>(by cases h)⟩
  ·exact⟨WP.skip (cp.refl _),fun p m=>(by cases m),fun u h=>(by cases h),fun h=>(by cases h)⟩
 |label l=>
  intro h st d;exact⟨WP.label (cp.refl _),fun p m=>(by cases m),fun u h=>(by cases h),fun h=>(by cases h)⟩
 |exit id=>
  intro h st d;simp only[exec]at d ⊢
  split at d
  ·split at d<;>try exact d.elim
   rename_i p r;exact⟨WP.exit ⟨rfl,vA (o:=p.1) (dG:=p.2) r d⟩,fun p m=>(by cases m),fun u h=>(by cases h),fun h=>(by cases h)⟩
  ·exact⟨WP.exit ⟨rfl,cp.refl _⟩,fun p m=>(by cases m),fun u h=>(by cases h),fun h=>(by cases h)⟩
 |ret=>
  intro h st d;simp only[exec]at d ⊢
  split at d
  ·split at d<;>try exact d.elim
   rename_i p r
   split at d<;>try exact d.elim
   rename_i q e;obtain⟨E,A⟩:=UN (o:=q.1) (cv:=q.2) e d.2;exact⟨WP.le (vA (o:=p.1) (dG:=p.2) r d.1) (WP.ret E),fun p m=>(by cases m),fun u h=>(by cases h;exact A),fun h=>(by cases h)⟩
  ·split at d<;>try exact d.elim
   rename_i q e;obtain⟨E,A⟩:=UN (o:=q.1) (cv:=q.2) e d;exact⟨WP.ret E,fun p m=>(by cases m),fun u h=>(by cases h;exact A),fun h=>(by cases h)⟩
 |region id ops draw=>
  intro h st d;simp only[exec]at d ⊢
  split at d
  ·split at d<;>try exact d.elim
   rename_i p r
   split at d<;>try exact d.elim
   rename_i ko LC mf
   split at d<;>try exact d.elim
   rename_i O
   split at d<;>try exact d.elim
   rename_i bl;simp only[bY]at O bl;obtain⟨⟨⟨h5,iK⟩,fb⟩,lb⟩:=bl;have I:=dX O.1;have Kv:=dX O.2;subst I Kv;have g:=LW (R:=R) (id:=id) F d.2;refine⟨WP.le (cm.aAx (o:=p.1) (dG:=p.2) r d.1) (WP.apf _ _ _ ?_ rfl h5 iK g.wp fb),fun p m=>(by cases m),g.ret,g.live⟩;have iQ:_<p.2.n.length:=gW lb;rw[cT iQ];simp only[List.getD,cT iQ,ly]at mf;rw[mf]
  ·rename_i l
   split at d<;>try exact d.elim
   rename_i p r;have g:=LW (R:=R) (id:=id) F d.2;refine⟨WP.le (G0 (l4:=p.1) (kg:=p.2) r d.1) g.wp,fun p m=>(by cases m),g.ret,g.live⟩
  ·split at d<;>try exact d.elim
   rename_i p r;have g:=LW (R:=R) (id:=id) F d.2;refine⟨WP.le (vA (o:=p.1) (dG:=p.2) r d.1) g.wp,fun p m=>(by cases m),g.ret,g.live⟩
  ·split at d<;>try exact d.elim
   exact aA8 F d
  ·split at d<;>try exact d.elim
   rename_i p r;refine⟨(azC (o:=p.1) (dG:=p.2) F r d id).mono fun e s i=> ?_,fun p m=>(by cases m),fun u h=>(by cases h),fun h=>(by cases h)⟩;obtain⟨rfl,rfl⟩:=i;exact cp.refl _
  ·split at d
   ·rename_i cP Yu
    split at d<;>try exact d.elim
    rename_i q4 Hb
    split at d<;>try exact d.elim
    rename_i q eq;obtain⟨s,i⟩:=ahh d.1;have hm:=Tx (o:=q.1) (jo:=q.2) eq d.2;have SB:q4.bw=s:=by
     obtain⟨aFE,A,H⟩:=T.mI (f:=FA) (t:=(jL X ops draw st).t) (x:=s) (by rw[i];rfl);rw[Hb]at A;cases A;exact H
    refine⟨ahi F d.1 fun dG h=> ?_,fun p m=>(by cases m),fun u h=>(by cases h),fun h=>(by cases h)⟩;rw[i]at h
    cases h
    exact SB▸hm
   ·exact LW F d
 |block id x G=>
  intro h st d;simp only[exec]at d ⊢;have g:=G h st d;refine⟨WP.block (g.wp.mono fun e s i=> ?_),g.f,fun u c4=> ?_,fun dK=> ?_⟩
  ·simp only[T.lp];generalize (exec X R x h st).t.bw=Z at i
   cases e with
   |normal=>
    simp only[jw]at i
    cases Z<;>simp only at i<;>first|exact i.elim|exact i
   |exit j=>
    simp only[jw]at i
    cases Z<;>simp only at i<;>try exact i.elim
    obtain⟨rfl,i⟩:=i;simp only[B7,E2]
    cases Q:Nat.beq j id with
    |true=>rw[bF (dX Q)];exact i
    |false=>
     rw[bH (by intro e;rw[e,nK]at Q;cases Q)];exact⟨rfl,i⟩
   |ret=>
    simp only[jw]at i
    cases Z<;>simp only at i<;>first|exact i.elim|exact i
   |_=>exact i.elim
  ·rw[T.lp]at c4;exact g.ret u (aeu.1 u c4)
  ·rw[T.lp]at dK;exact g.live (aeu.2 dK)
 |cond c x y K M=>
  intro h st d;simp only[exec]at d ⊢
  split at d
  ·rename_i b C
   cases b with
   |true=>
    have g:=K _ _ d;refine⟨fun S W ι a w i=> ?_,g.f,g.ret,g.live⟩;have J:=i.eval c;rw[C]at J;refine wp_cond J.lit ?_;exact g.wp S W ι a w i
   |false=>
    have g:=M _ _ d;refine⟨fun S W ι a w i=> ?_,g.f,g.ret,g.live⟩;have J:=i.eval c;rw[C]at J;refine wp_cond J.lit ?_;exact g.wp S W ι a w i
  ·rename_i b C
   split at d
   ·rename_i ko z
    cases ko with
    |true=>
     have g:=K _ _ d.2;have I:b=true:=d.1;exact⟨WP.cond C (fun _=>g.wp) (fun h=>by rw[I]at h;cases h),g.f,g.ret,g.live⟩
    |false=>
     have g:=M _ _ d.2;have I:b=false:=d.1;exact⟨WP.cond C (fun h=>by rw[I]at h;cases h) (fun _=>g.wp),g.f,g.ret,g.live⟩
   ·cases b with
    |true=>
     have g:=K _ _ (d.1 rfl);exact⟨WP.cond C (fun _=>g.wp) (fun h=>by cases h),fun p m=>(by cases m),g.ret,g.live⟩
    |false=>
     have g:=M _ _ (d.2 rfl);exact⟨WP.cond C (fun h=>by cases h) (fun _=>g.wp),fun p m=>(by cases m),g.ret,g.live⟩
  ·exact d.elim
 |seq x y K M=>
  intro h st d;simp only[exec]at d ⊢;have g:=ahK (W:=WP X.env y) (fun h k=>WP.le h k) K (adp (fun h k=>WP.le h k) M) h st d;exact⟨WP.seq g.wp,g.f,g.ret,g.live⟩
 |loop x G=>
  intro h st d;simp only[exec]at d ⊢
  split at d
  ·rename_i z
   split at d
   ·exact d.elim
   ·rename_i Yf;have g:=G z st d;refine⟨WP.ax0 (g.wp.mono fun e s i=> ?_),g.f,g.ret,g.live⟩
    cases e<;>simp only[hT]<;>try exact i
    simp only[jw]at i
    split at i
    ·rename_i dG el;rw[T.qC el]at Yf;cases Yf
    ·exact i
  ·rename_i n z;have g:=aif G n z st d;exact⟨WP.rounds _ g.wp,g.f,g.ret,g.live⟩
  ·rename_i L z
   split at d
   ·exact d.elim
   rename_i p P
   split at d
   ·exact d.elim
   rename_i Y
   split at d
   ·exact d.elim
   rename_i N es;obtain⟨U,E,A,H,V,B⟩:=d;have m: ∀s,hF X.m (L.dK (L.cS p.2) s)=true:=fun s=>congrFun H s;have g:=WP.afN (X:=X) (R:=R) (st:=p.2) L p.2 N (fun s=>exec X R x z (L.dK (L.cS p.2) s)) Y (fun s d=>G z _ d) (nU E (m N)) A m (fun v=>congrFun V v)
    (fun s i=>⟨(B s i).1,(B s i).2.1,fun k=>⟨((B s i).2.2 k).1,((B s i).2.2 k).2⟩⟩) .c5
   exact⟨WP.le (G0 (l4:=p.1) (kg:=p.2) P U) g.wp,g.f,g.ret,g.live⟩
  ·rename_i L z
   split at d
   ·exact d.elim
   rename_i p P
   split at d
   ·exact d.elim
   rename_i Y
   split at d
   ·exact d.elim
   rename_i N es;obtain⟨U,E,A,H,V,B⟩:=d;have m: ∀s,hF X.m (L.dK (L.cS p.2) s)=true:=fun s=>congrFun H s;have g:=WP.afN (X:=X) (R:=R) (st:=p.2) L p.2 N (fun s=>exec X R x (z s) (L.dK (L.cS p.2) s)) Y (fun s d=>G (z s) _ d) (nU E (m N)) A m (fun v=>congrFun V v)
    (fun s i=>⟨(B s i).1,(B s i).2.1,fun k=>⟨((B s i).2.2 k).1,((B s i).2.2 k).2⟩⟩) .c5
   exact⟨WP.le (G0 (l4:=p.1) (kg:=p.2) P U) g.wp,g.f,g.ret,g.live⟩
  ·exact d.elim
 |_=>exact fun h st d=>d.elim
end
end Go.ah
