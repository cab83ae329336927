import Derived.Test.YtadmdaokcgjdiaaGreatDoorXg
open Go.IntKind (i64 u64 u8)
open Int (toNat)
set_option maxRecDepth 100000
set_option maxHeartbeats 4000000
set_option linter.all false
noncomputable section
namespace Go.af
open Go Go.RowKit
section
variable {S:eb} {ι:Nat->Option Nat} {st:O} {a:Act} {w:World}
def cz.q_{m:Nat}{g su:List J}{H:Heap}{o:aW}(h:s0 H g=some (o,su))(D:o.holds):cz m ⟨g,H⟩ ⟨su,bJ H (eO H g)⟩:=by
 intro S _ ι a w y;obtain⟨i,E⟩:=y.freeze (H':=bJ H (eO H g)) (wL g) (rZ _ _);have C: ∃d:List Value,a6 (bz S ι (bJ H (eO H g)) w) g d/\ ∀(t:Nat) v,d[t]? =some v->a.tmps[t]? =some v:=by
  have G: ∀(l:List J) (k:Nat),(∀(t:Nat) av,l[t]? =some av-> ∃v,a.tmps[k+t]? =some v/\bz S ι (bJ H (eO H g)) w av v)-> ∃d:List Value,a6 (bz S ι (bJ H (eO H g)) w) l d/\ ∀(t:Nat) v,d[t]? =some v->a.tmps[k+t]? =some v:=by
   intro l
   induction l with
   |nil=>exact λk _=>⟨[],trivial,λt v h=>by simp at h⟩
   |cons x l F=>
    intro k s;obtain⟨v,j,p⟩:=s 0 x rfl;obtain⟨d,r,z⟩:=F (k+1) λt av c=>by
     obtain⟨v,q1,q⟩:=s (t+1) av (by simpa using c);exact⟨v,by rw[show k+1+t=k+(t+1) by omega];exact q1,q⟩
    refine⟨v::d,⟨p,r⟩,λt u c=> ?_⟩
    cases t with
    |zero=>simp at c;subst c;exact j
    |succ t=>rw[show k+(t+1)=k+1+t by omega];exact z t u (by simpa using c)
  obtain⟨d,j,p⟩:=G g 0 λt av c=>by
   obtain⟨v,q1,q⟩:=y.D t av c;exact⟨v,by simpa using q1,q.step E⟩
  exact⟨d,j,λt v c=>by simpa using p t v c⟩
 obtain⟨d,j,p⟩:=C;obtain⟨L,e,r⟩:=R7 (H:=H) i g d (λl=>l=su) (λb A I K n f B=>Im A B) j (Si (K:=λl=>l=su) h D rfl);subst e;refine⟨ι,i.below,i.defers,λt av c=> ?_,i.k,i.inj,i.fresh,i.gT,i.gW⟩;obtain⟨v,q1,q⟩:=r.get t av c;exact⟨v,p t v q1,eF.zu (gw.N3 q)⟩
end
def xg(s:O)(k:Key)(E:cR):Option (aW×O):=
 match yO s k with
 | .aG=>match k with
   | .t i=>some (.di,⟨s.D.set i (.own s.k.length 0),bI s.k s.k.length 0 (.ad false E.V 0 λi=>E.e ((@B E.T E.wm).at' i))⟩)
   | .h b o=>dg (Nat.blt b s.k.length) (some (.di,⟨s.D,bI (bI s.k s.k.length 0 (.ad false E.V 0 λi=>E.e ((@B E.T E.wm).at' i))) b o (.own s.k.length 0)⟩))
   |_=>none
 | .own b' n=>match k with
   | .h b o=>match I s.k b' 0 with
     | .ad _ c a f=>dg (!(Nat.beq b' b)) (some (.e n a,⟨s.D,bI (bJ s.k (eO s.k [.own b' n])) b o (.arr c a f)⟩))
     |_=>none
   | .t i=>match I s.k b' 0 with
     | .ad _ c a f=>some (.e n a,⟨s.D.set i (.arr c a f),bJ s.k (eO s.k [.own b' n])⟩)
     |_=>none
   |_=>none
 |_=>none
def Av:O->List (Key×cR)->Option (aW×O)
 |s,[]=>some (.di,s)
 |s,q::r=>match xg s q.1 q.2 with
  |some p=>match Av p.2 r with
   |some a=>some (.and p.1 a.1,a.2)
   |none=>none
  |none=>none
def cz.aAU{m:Nat}{st:O}(i h:Nat)(f:Nat->List J)(n:st.D[i]? =some .aG):cz m st ⟨st.D.set i (.own st.k.length 0),bI st.k st.k.length 0 (.ad false h 0 f)⟩:=λS _ ι a w g=>by
 obtain⟨c,q,l⟩:=g.NS (b:=st.k.length) (λo=>tQ (bN _) o) (g.NT (bN _)) h f;refine⟨_,c.below,c.defers,λt av d=> ?_,c.k,c.inj,c.fresh,c.gT,c.gW⟩;rw[uQ]at d
 by_cases e:i=t
 .subst e;rw[a5 rfl]at d
  split at d
  .cases d
   obtain⟨v,j,k⟩:=g.D i .aG n;refine⟨v,j,?_⟩;have p:v= .slice none 0 0:=ahQ (ι:=ι) (H:=st.k) (F:=aT S ι st.k w) (w:=w) k;subst p;exact l (aT S ι (bI st.k st.k.length 0 (.ad false h 0 f)) w)
  .cases d
 .rw[aS e]at d;exact c.D t av d
def cz.aAT{m:Nat}{st:O}(b o d:Nat)(f:Nat->List J)(l:I st.k b o= .aG)(k:Nat.blt b st.k.length=true):cz m st ⟨st.D,bI (bI st.k st.k.length 0 (.ad false d 0 f)) b o (.own st.k.length 0)⟩:=λS _ ι a w g=>by
 obtain⟨i,p,j⟩:=g.NS (b:=st.k.length) (λo=>tQ (bN _) o) (g.NT (bN _)) d f;have n:b≠st.k.length:=by
  have:=g8 k;omega
 have c:I (bI st.k st.k.length 0 (.ad false d 0 f)) b o= .aG:=by rw[eZ,aS (λe=>n e.1)];exact l
 refine⟨_,i.aiL (by rw[c];simp) (by rw[c];rfl) (by simp) rfl λv h=> ?_⟩;rw[c]at h;rw[ahQ h];exact j _
def cz.aqT{m:Nat}{st:O}(b o b' n:Nat){s:Bool}{e c:Nat}{f:Nat->List J}(j:I st.k b o= .own b' n)(l:I st.k b' 0= .ad s e c f)(x:b'≠b)(p:n=c):cz m st ⟨st.D,bI (bJ st.k (eO st.k [.own b' n])) b o (.arr e c f)⟩:=λS _ ι a w r=>by
 obtain⟨i,y⟩:=r.freeze (H':=bJ st.k (eO st.k [.own b' n])) (wL _) (rZ _ _);have d:I (bJ st.k (eO st.k [.own b' n])) b o= .own b' n:=by
  rcases wL (H:=st.k) [.own b' n] b o with g|⟨rfl,A,B,z,t,h,u⟩
  .rw[g];exact j
  .rw[j]at h;cases h
 have q:I (bJ st.k (eO st.k [.own b' n])) b' 0= .ad true e c f:=Im (by simp [r8,pn]) l;refine⟨_,i.aiL (by rw[d];simp) (by rw[d];rfl) (by simp) rfl λv k=> ?_⟩;rw[d]at k;exact N7 i q p k
def cz.xA{m:Nat}{st:O}(i b' n:Nat){r:Bool}{g d:Nat}{f:Nat->List J}(l:st.D[i]? =some (.own b' n))(k:I st.k b' 0= .ad r g d f)(o:n=d):cz m st ⟨st.D.set i (.arr g d f),bJ st.k (eO st.k [.own b' n])⟩:=λS _ ι a w q=>by
 obtain⟨b,s⟩:=q.freeze (H':=bJ st.k (eO st.k [.own b' n])) (wL _) (rZ _ _);have p:I (bJ st.k (eO st.k [.own b' n])) b' 0= .ad true g d f:=Im (by simp [r8,pn]) k;refine⟨ι,b.below,b.defers,λt av c=> ?_,b.k,b.inj,b.fresh,b.gT,b.gW⟩;rw[uQ]at c
 by_cases e:i=t
 .subst e;rw[a5 rfl]at c
  split at c
  .cases c
   obtain⟨v,h,j⟩:=b.D i (.own b' n) l;exact⟨v,h,N7 b p o j⟩
  .cases c
 .rw[aS e]at c;exact b.D t av c
def Rz{m:Nat}{st kD:O}{k:Key}{cR:cR}{mx:aW}(h:xg st k cR=some (mx,kD))(d:mx.holds):cz m st kD:=by
 unfold xg at h
 split at h<;>try (cases h;done)
 .rename_i e
  cases k<;>simp only at h<;>try (cases h;done)
  .cases h
   rename_i i;refine cz.aAU i cR.V _ ?_;simp only[yO,List.getD]at e
   cases a:st.D[i]? with
   |none=>rw[a]at e;cases e
   |some v=>rw[a]at e;exact congrArg some e
  .rw[ds]at h;obtain⟨b,h⟩:=h
   cases h
   exact cz.aAT _ _ cR.V _ e b
 .rename_i b' n e
  cases k<;>simp only at h<;>try (cases h;done)
  .split at h<;>try (cases h;done)
   rename_i i _ l o j f c
   cases h
   refine cz.xA _ _ _ ?_ c d;simp only[yO,List.getD]at e
   cases a:st.D[i]? with
   |none=>rw[a]at e;cases e
   |some v=>rw[a]at e;exact congrArg some e
  split at h<;>try (cases h;done)
  rename_i l o j f c;rw[ds]at h;obtain⟨b,h⟩:=h
  cases h
  refine cz.aqT _ _ _ _ e c (λg=> ?_) d;rw[g,oC]at b;cases b
def Js{m:Nat} : ∀{d:List (Key×cR)} {st kD:O} {mx:aW},Av st d=some (mx,kD)->mx.holds->cz m st kD
 |[],st,kD,mx,h,_=>by cases h;exact cz.refl _
 |q::r,st,kD,mx,h,a=>by
  simp only[Av]at h
  split at h<;>try (cases h;done)
  rename_i p e
  split at h<;>try (cases h;done)
  rename_i b c
  cases h
  exact(Rz (mx:=p.1) (kD:=p.2) e a.1).trans (Js (mx:=b.1) (kD:=b.2) c a.2)
def NU(b:Nat):J->Bool
 | .ptr c _=> !(Nat.beq c b)
 |_=>true
def iE(b a:Nat):J->J
 | .ptr c o=>match Nat.beq c a with
   |true=> .undef
   |false=> .ptr c o
 | .fn f d=>match d.all (NU a)with
   |true=> .fn f d
   |false=> .undef
 | .own c k=>match Nat.beq c b with
   |true=> .own a k
   |false=>match Nat.beq c a with
    |true=> .undef
    |false=> .own c k
 | .fN c k i o=>match Nat.beq c b with
   |true=> .fN a k i o
   |false=>match Nat.beq c a with
    |true=> .undef
    |false=> .fN c k i o
 |x=>x
def aAh{b a:Nat}{c:J}(h:iE b a c= .gone):c= .gone:=by
 cases c<;>simp only[iE]at h<;>first|rfl|(cases h;done)|(split at h<;>first|(cases h;done)|(split at h<;>cases h))
def Hz(b a:Nat):J->J
 | .agg cs=> .agg (cs.map (iE b a))
 |x=>iE b a x
def ahA(b a:Nat):J->J
 | .dp c=> .dp (c.map (Hz b a))
 |x=>Hz b a x
def ab9(H:Heap)(b:Nat):Bool:=
 match H.getD b []with
 |[]=>true
 |x::r=>match x with
  | .ad a c _ _=>a&&(Nat.beq c 0&&r.isEmpty)
  |_=>false
def AB(b m:Nat):List J:=
 match Nat.blt b m with
 |true=>[dB]
 |false=>[]
def ahB(H:Heap)(m b a:Nat)(x:J):Heap:=setAt [] (setAt [] (H.map λl=>l.map (iE b a)) b (AB b m)) a [x]
def HA(m:Nat)(s:O)(b a:Nat):Option O:=
 match s.k.getD b []with
 |x::r=>match x with
  | .ad d c n f=>dg (Nat.ble m a&&(!(Nat.beq b a)&&(ab9 s.k a&&(r.isEmpty&& !(Nat.beq c 0))))) (some ⟨s.D.map (ahA b a),ahB s.k m b a (.ad d c n f)⟩)
  |_=>none
 |[]=>none
def wA(m:Nat):O->List (Key×Nat)->Option O
 |s,[]=>some s
 |s,q::r=>match yO s q.1 with
  | .own b _=>match Nat.beq b q.2 with
    |true=>wA m s r
    |false=>match HA m s b q.2 with
     |some a=>wA m a r
     |none=>none
  |_=>none
def NM{b a:Nat}{c:J} :cr (iE b a c)=cr c:=by
 cases c<;>first|rfl|skip
 all_goals
  simp only[iE]
  split<;>first|rfl|(split<;>rfl)
def aus{H:Heap}{g:J->J}(a:g .undef= .undef)(b o:Nat):I (H.map λl=>l.map g) b o=g (I H b o):=by
 unfold I;have e:(H.map λl=>l.map g).getD b []=(H.getD b []).map g:=by
  rw[List.getD,List.getD,g_]
  cases H[b]? <;>rfl
 rw[e];generalize H.getD b []=l;rw[List.getD,List.getD,g_]
 cases l[o]? with
 |none=>exact a.symm
 |some x=>rfl
def cz.aAg{m:Nat}{s s':O}{b bU:Nat}(h:HA m s b bU=some s'):cz m s s':=by
 unfold HA at h
 split at h<;>try (cases h;done)
 rename_i x h1 mP
 split at h<;>try (cases h;done)
 rename_i Y Z n f;rw[ds]at h;obtain⟨jF,h⟩:=h
 cases h
 simp only[b4,jn]at jF;obtain⟨hm,jG,Cn,gD,oj⟩:=jF;have hm:m<=bU:=g8 hm;have jG:b≠bU:=λe=>by rw[e,oC]at jG;cases jG
 have gD:h1=[]:=by cases h1 with
  |nil=>rfl
  |cons=>cases gD
 subst gD;intro S tO ι a w N;have P:I s.k b 0= .ad Y Z n f:=by unfold I;rw[mP];rfl
 have aGc: ∀o,o≠0->I s.k b o= .undef:=λo eA=>by
  unfold I;rw[mP]
  cases o with
  |zero=>exact absurd rfl eA
  |succ o=>rfl
 have aGg: ∀o,I s.k bU o= .undef\/(o=0/\ ∃E f2,I s.k bU 0= .ad true 0 E f2):=λo=>by
  unfold ab9 at Cn;unfold I
  split at Cn
  .rename_i e;rw[e];exact .inl rfl
  .rename_i y q e
   split at Cn<;>try (cases Cn;done)
   rename_i aC5 aDW E f2;simp only[b4]at Cn;obtain⟨B,D,fG⟩:=Cn;have D:=eg D;subst B D;rw[e]
   cases o with
   |zero=>exact .inr ⟨rfl,E,f2,rfl⟩
   |succ o=>
    cases q with
    |nil=>exact .inl rfl
    |cons=>cases fG
 let az:Nat->Option Nat:=λc=>if c=bU then ι b else if c=b then none else ι c
 have afC:n<=dz:=by
  have G:=N.k b 0;rw[P]at G;rcases G.2 with dQ|dQ
  .rw[dQ.2.1]at oj;cases oj
  .exact dQ.1
 let H':Heap:=ahB s.k m b bU (.ad Y Z n f);have W:az bU=ι b:=a5 rfl;have GH:az b=none:=by simp [az,jG]
 have L: ∀c,c≠b->c≠bU->az c=ι c:=λc u K=>by simp only[az];rw[aS K,aS u]
 have Mq: ∀o,I H' bU o=if o=0 then .ad Y Z n f else .undef:=λo=>by
  show I (setAt [] _ bU _) bU o=_;rw[zK,a5 rfl]
  cases o<;>rfl
 have Mr: ∀o,I H' b o=(AB b m).getD o .undef:=λo=>by
  show I (setAt [] _ bU _) b o=_;rw[zK,aS jG,zK,a5 rfl]
 have U: ∀c o,c≠b->c≠bU->I H' c o=iE b bU (I s.k c o):=λc o u K=>by
  show I (setAt [] _ bU _) c o=_;rw[zK,aS K,zK,aS u,aus rfl]
 have auf: ∀o,I H' b o= .undef\/(o=0/\b<m/\I H' b 0=dB):=λo=>by
  have mO:=Mr 0;have d:=Mr o;unfold AB at mO d
  cases U3:Nat.blt b m with
  |false=>rw[U3]at d;rw[d];exact .inl rfl
  |true=>
   rw[U3]at mO d
   cases o with
   |zero=>exact .inr ⟨rfl,g8 U3,mO⟩
   |succ o=>rw[d];exact .inl rfl
 have ld: ∀c,c≠b->c≠bU->cr (I H' c 0)=cr (I s.k c 0):=λc u K=>by rw[U c 0 u K,NM]
 have afS: ∀c,pt (iE b bU c)=true->pt c=true:=λc=>by
  cases c<;>first|exact id|(intro _;rfl)
 have od: ∀y,aT S ι s.k w y->aT S az H' w y:=λy ⟨u,K,fe⟩=>⟨u,K,λc G r=>by
  by_cases k:c=bU
  .subst k;rw[W]at r;refine fe b ?_ r;have mO:I H' c 0= .ad Y Z n f:=by rw[Mq];rfl
   rcases G with⟨_,g⟩|⟨g,_⟩
   .rw[mO]at g;exact .inl ⟨by rw[P];rfl,by rw[P];exact g⟩
   .rw[mO]at g;cases g
  .by_cases d:c=b
   .subst d;rw[GH]at r;cases r
   .rw[L c d k]at r;refine fe c ?_ r;rcases G with⟨B,D⟩|⟨B,o,D⟩
    .rw[U c 0 d k]at B D;rw[NM]at B;exact .inl ⟨B,afS _ D⟩
    .rw[U c 0 d k,NM]at B;rw[U c o d k]at D;exact .inr ⟨B,o,afS _ D⟩⟩
 have Mo: ∀{av:J} {v:Value},a1 w (aT S ι s.k w) av v->a1 w (aT S az H' w) av v:=λh=>h.mono od λ_ _ _=>rfl;have atH: ∀{c:J} {v:Value},NU bU c=true->ja ι s.k w (aT S ι s.k w) c v->ja az H' w (aT S az H' w) c v:=λ{c v} fP h=>by
  cases c<;>simp only[ja]at h |- <;>first|exact Mo h|skip
  rename_i c o;obtain⟨u,x,K,fe⟩:=h;have E:c≠bU:=λe=>by rw[e]at fP;simp only[NU,oC]at fP;cases fP
  have F:c≠b:=λe=>by rw[e,P]at u;cases u
  exact⟨by rw[ld c F E];exact u,x,by rw[L c F E];exact K,fe⟩
 have ku: ∀{c:J} {v:Value},cq ι s.k w (aT S ι s.k w) c v->cq az H' w (aT S az H' w) (iE b bU c) v:=λ{c v} h=>by
  have u:=h.one
  cases c<;>first|exact Mo h|exact u|exact h.elim|skip
  .rename_i c c1;simp only[iE];obtain⟨R,ow,kG,n',fW,z,H,M⟩:=h
   cases d:Nat.beq c b with
   |true=>
    have d:=eg d;subst d;rw[P]at z;cases z;exact⟨R,Y,Z,n,f,by rw[Mq];rfl,H,λe=>by rw[W];exact M e⟩
   |false=>
    cases k:Nat.beq c bU with
    |true=>exact R
    |false=>
     have F:c≠b:=λe=>by rw[e,oC]at d;cases d
     have E:c≠bU:=λe=>by rw[e,oC]at k;cases k
     exact⟨R,ow,kG,n',fW,by rw[U c 0 F E,z];rfl,H,λe=>by rw[L c F E];exact M e⟩
  .rename_i c o;simp only[iE];obtain⟨z,x,H,M⟩:=h
   cases k:Nat.beq c bU with
   |true=>exact u
   |false=>
    have E:c≠bU:=λe=>by rw[e,oC]at k;cases k
    have F:c≠b:=λe=>by rw[e,P]at z;cases z
    exact⟨by rw[ld c F E];exact z,x,by rw[L c F E];exact H,M⟩
  .rename_i c c1 i o;simp only[iE];obtain⟨R,ow,kG,n',fW,z,H,M⟩:=h
   cases d:Nat.beq c b with
   |true=>
    have d:=eg d;subst d;rw[P]at z;cases z;exact⟨R,Y,Z,n,f,by rw[Mq];rfl,H,λe=>by rw[W];exact M e⟩
   |false=>
    cases k:Nat.beq c bU with
    |true=>exact R
    |false=>
     have F:c≠b:=λe=>by rw[e,oC]at d;cases d
     have E:c≠bU:=λe=>by rw[e,oC]at k;cases k
     exact⟨R,ow,kG,n',fW,by rw[U c 0 F E,z];rfl,H,λe=>by rw[L c F E];exact M e⟩
  .rename_i g jx;simp only[iE]
   cases k:jx.all (NU bU)with
   |false=>exact u
   |true=>
    obtain⟨A,z,H⟩:=h;refine⟨A,z,a6.mk H.length λi p q fu jk=> ?_⟩;obtain⟨Ia,B,D⟩:=H.get i p fu;rw[jk]at B;cases B;exact atH (dK.1 k p (ft fu)) D
 have la: ∀{cs:List J} {A:List Value},a6 (cq ι s.k w (aT S ι s.k w)) cs A->a6 (cq az H' w (aT S az H' w)) (cs.map (iE b bU)) A:=by
  intro cs
  induction cs with
  |nil=>intro A h;cases A with
   |nil=>trivial
   |cons=>exact h.elim
  |cons c cs om=>intro A h;cases A with
   |nil=>exact h.elim
   |cons v A=>exact⟨ku h.1,om h.2⟩
 have oc: ∀{c:J} {v:Value},gw ι s.k w (aT S ι s.k w) c v->gw az H' w (aT S az H' w) (Hz b bU c) v:=λ{c v} h=>by
  by_cases UZ: ∃cs,c= .agg cs
  .obtain⟨cs,rfl⟩:=UZ;obtain⟨A,u,K⟩:=h;exact⟨A,u,la K⟩
  .have d:Hz b bU c=iE b bU c:=by cases c<;>first|rfl|exact absurd ⟨_,rfl⟩ UZ
   have u:cq ι s.k w (aT S ι s.k w) c v:=by cases c<;>first|exact h|exact absurd ⟨_,rfl⟩ UZ|exact(show False from h).elim
   rw[d];have K:=ku u;have fq:iE b bU c≠ .gone:=λe=>by
    rw[aAh e]at h;exact h
   generalize iE b bU c=V at K fq
   cases V<;>first|exact K|exact K.elim|exact absurd rfl fq
 refine⟨az,N.below,N.defers,λt av iC=> ?_,λc o=> ?_,λg1 jv x u fe=> ?_,λc x r=> ?_,λc x r=> ?_,?_⟩
 .simp only[g_,mC]at iC;obtain⟨Q,acs,rfl⟩:=iC;obtain⟨v,B,D⟩:=N.D t Q acs;refine⟨v,B,?_⟩
  by_cases VF: ∃A,Q= .dp A
  .obtain⟨aa,rfl⟩:=VF;obtain⟨A,z,H⟩:=D;refine⟨A,z,?_⟩;clear z acs;revert A
   induction aa with
   |nil=>intro A h;cases A with
    |nil=>trivial
    |cons=>exact h.elim
   |cons c cs om=>intro A h;cases A with
    |nil=>exact h.elim
    |cons v A=>exact⟨oc h.1,om A h.2⟩
  .by_cases X:Q= .undef\/Q= .gone
   .rcases X with rfl|rfl
    .trivial
    .exact D
   .have d:ahA b bU Q=Hz b bU Q:=by cases Q<;>first|rfl|exact absurd ⟨_,rfl⟩ VF
    have u:gw ι s.k w (aT S ι s.k w) Q v:=by
     cases Q<;>first|exact D|exact absurd ⟨_,rfl⟩ VF|exact absurd (.inl rfl) X|exact absurd (.inr rfl) X
    rw[d];exact eF.zu (oc u)
 .show e9 az H' w (aT S az H' w) c o (I H' c o)
  by_cases k:c=bU
  .subst k;rw[Mq]
   by_cases abH:o=0
   .subst abH;rw[a5 rfl];have G:=N.k b 0;rw[P]at G;obtain⟨_,G⟩:=G;refine⟨rfl,G.imp (λg=>⟨g.1,g.2.1,by rw[W];exact g.2.2⟩) λg=>⟨g.1,?_⟩⟩;rw[W];exact g.2.imp id λ⟨x,C,T,z,H,M⟩=>⟨x,C,T,z,H,λi j ji fX=>by
     obtain⟨av,v,r5,r6,zh⟩:=M i j ji fX;exact⟨av,v,r5,r6,Mo zh⟩⟩
   .rw[aS abH];trivial
  .by_cases d:c=b
   .subst d;rcases auf o with g|⟨rfl,_,g⟩
    .rw[g];trivial
    .rw[g];exact⟨rfl,.inl ⟨rfl,rfl,GH⟩⟩
   .have G:=N.k c o;rw[U c o d k]
    by_cases U2:cr (I s.k c o)=true
    .cases e:I s.k c o<;>rw[e]at U2 G<;>first|(cases U2;done)|skip
     simp only[iE];obtain⟨fq,G⟩:=G;refine⟨fq,G.imp (λg=>⟨g.1,g.2.1,by rw[L c d k];exact g.2.2⟩) λg=>⟨g.1,?_⟩⟩;rw[L c d k];exact g.2.imp id λ⟨x,C,T,z,H,M⟩=>⟨x,C,T,z,H,λi j ji fX=>by
      obtain⟨av,v,r5,r6,zh⟩:=M i j ji fX;exact⟨av,v,r5,r6,Mo zh⟩⟩
    .by_cases X:I s.k c o= .undef
     .rw[X];trivial
     .have Vk:cr (I s.k c o)=false:=by simpa using U2
      obtain⟨R,x,v,z,H,M,Ho⟩:cr (I s.k c 0)=false/\ ∃x v,ι c=some x/\w.cell? ⟨x,o,none⟩=some v/\w.frozen? ⟨x,o,none⟩=false/\cq ι s.k w (aT S ι s.k w) (I s.k c o) v:=by
       cases e:I s.k c o<;>rw[e]at G X Vk<;>first|exact absurd rfl X|(cases Vk;done)|exact G
      have Hp:=ku Ho;have Hq:cr (I H' c 0)=false:=by rw[ld c d k];exact R
      have V_:az c=some x:=by rw[L c d k];exact z
      have agO:cr (iE b bU (I s.k c o))=false:=by rw[NM];exact Vk
      generalize iE b bU (I s.k c o)=V at Hp agO
      cases V<;>first|trivial|(cases agO;done)|exact⟨Hq,x,v,V_,H,M,Hp⟩
 .have key: ∀c x,az c=some x-> ∃V,ι V=some x/\((c=bU/\V=b)\/(c≠bU/\c≠b/\V=c)):=λc x r=>by
   by_cases k:c=bU
   .subst k;rw[W]at r;exact⟨b,r,.inl ⟨rfl,rfl⟩⟩
   .by_cases d:c=b
    .subst d;rw[GH]at r;cases r
    .rw[L c d k]at r;exact⟨c,r,.inr ⟨k,d,rfl⟩⟩
  obtain⟨kc,B,q1⟩:=key g1 x u;obtain⟨l4,fG,zA⟩:=key jv x fe;have e:=N.inj kc l4 x B fG;rcases q1 with⟨rfl,rfl⟩|⟨cx,eI,rfl⟩<;>rcases zA with⟨rfl,rfl⟩|⟨a3,a4,rfl⟩
  .rfl
  .exact absurd e.symm a4
  .exact absurd e eI
  .exact e
 .by_cases k:c=bU
  .subst k;rw[W]at r;exact N.fresh b x r
  .by_cases d:c=b
   .subst d;rw[GH]at r;cases r
   .rw[L c d k]at r;exact N.fresh c x r
 .show c<H'.length;have afw:=(mq ([]:List J) [J.ad Y Z n f] (setAt [] (s.k.map λl=>l.map (iE b bU)) b (AB b m)) bU);have GV:=(mq ([]:List J) (AB b m) (s.k.map λl=>l.map (iE b bU)) b)
  by_cases k:c=bU
  .rw[k];exact afw.2
  .by_cases d:c=b
   .subst d;rw[GH]at r;cases r
   .rw[L c d k]at r;have:=N.gT c x r;refine gR ?_ (dP GV.1 afw.1);simpa using this
 .have hh:=N.gW;have gX: ∀c,I S.u0 c 0≠ .undef->c<m:=λc jF=>by
   rcases fE c S.u0.length with g|g
   .omega
   .exact absurd (tQ g 0) jF
  refine⟨λx r=>od x (hh.h5 x r),λx o r=>hh.cell x o r,λc x r jZ=> ?_,λc Il mA wC f0 jZ=> ?_⟩
  .obtain⟨B,D⟩:=hh.box c x r jZ;have afg:c<m:=gR (S.q8 c x r) tO;have E:c≠bU:=by omega
   have F:c≠b:=λe=>by rw[e,P]at D;cases D
   exact⟨by rw[L c F E];exact B,by rw[ld c F E];exact D⟩
  .obtain⟨ow,kG,n',fW,B,D,fG⟩:=hh.arr c Il mA wC f0 jZ;have afg:c<m:=gX c (by rw[jZ];simp);have E:c≠bU:=by omega
   by_cases F:c=b
   .subst F;rw[P]at B;cases B;refine⟨true,0,dz+1,λ_=>[],?_,Ω,λe=>by omega⟩;rw[Mr 0];unfold AB;rw[show Nat.blt c m=true from by simpa[iY]using afg];rfl
   .exact⟨ow,kG,n',fW,by rw[U c 0 F E,B];rfl,D,λe=>by rw[L c F E];exact fG e⟩
def NN{m:Nat} : ∀{l:List (Key×Nat)} {s a:O},wA m s l=some a->cz m s a
 |[],s,a,h=>by cases h;exact cz.refl _
 |q::r,s,a,h=>by
  simp only[wA]at h
  split at h<;>try (cases h;done)
  split at h
  .exact NN h
  .split at h<;>try (cases h;done)
   rename_i c b;exact(cz.aAg b).trans (NN h)
def Hr(s:O)(b:Nat):Option O:=
 match s.k.getD b []with
 |x::r=>match x with
  | .ad c a n f=>match c&&Nat.beq a 0 with
    |true=>some s
    |false=>dg (r.isEmpty&& !(Nat.beq a 0)) (some ⟨s.D,bI s.k b 0 dB⟩)
  |_=>none
 |[]=>none
def cz.kill{m:Nat}{s J:O}{b:Nat}(h:Hr s b=some J):cz m s J:=by
 unfold Hr at h
 split at h<;>try (cases h;done)
 rename_i x cx E
 split at h<;>try (cases h;done)
 rename_i ro eI n f
 split at h
 .cases h;exact cz.refl _
 rw[ds]at h;obtain⟨G,h⟩:=h
 cases h
 simp only[b4,jn]at G;obtain⟨X,H⟩:=G;intro S tO ι a w i;have A:I s.k b 0= .ad ro eI n f:=by unfold I;rw[E];rfl
 have V: ∀o,o≠0->I s.k b o= .undef:=λo W=>by
  unfold I;rw[E]
  cases o with
  |zero=>exact absurd rfl W
  |succ o=>
   cases cx with
   |nil=>rfl
   |cons=>cases X
 have afC:n<=dz:=by
  have p:=i.k b 0;rw[A]at p;rcases p.2 with B|B
  .rw[B.2.1]at H;cases H
  .exact B.1
 let az:Nat->Option Nat:=λc=>if c=b then none else ι c
 let H':Heap:=bI s.k b 0 dB;have z:az b=none:=a5 rfl;have k: ∀c,c≠b->az c=ι c:=λc h=>aS h;have F:I H' b 0=dB:=by show I (bI _ _ _ _) b 0=_;rw[eZ,a5 ⟨rfl,rfl⟩]
 have l: ∀c o,(c≠b\/o≠0)->I H' c o=I s.k c o:=λc o h=>by
  show I (bI _ _ _ _) c o=_;rw[eZ,aS (λe=>h.elim (λg=>g e.1) λg=>g e.2)]
 have U: ∀y,aT S ι s.k w y->aT S az H' w y:=λy ⟨u,Q,v⟩=>⟨u,Q,λc p d=>by
  by_cases e:c=b
  .subst e;rw[z]at d;cases d
  .rw[k c e]at d;exact v c (oy (λo=>l c o (.inl e)) p) d⟩
 have D:ey ι s.k w (aT S ι s.k w) az H' w (aT S az H' w):=by
  refine⟨U,λ_ _ _=>rfl,λc x d j=> ?_,λc Il mA Z M j=> ?_⟩
  .have e:c≠b:=λe=>by rw[e,A]at j;cases j
   exact⟨by rw[k c e];exact d,by rw[l c 0 (.inl e)];exact j⟩
  .by_cases e:c=b
   .subst e;rw[A]at j;cases j;exact⟨true,0,dz+1,λ_=>[],F,Ω,λe=>by omega⟩
   .exact⟨Il,mA,Z,M,by rw[l c 0 (.inl e)];exact j,bN _,λ_=>⟨rfl,k c e,λx C T _ R=>⟨C,R,rfl⟩⟩⟩
 have q: ∀c x,az c=some x->c≠b/\ι c=some x:=λc x d=>by
  by_cases e:c=b
  .subst e;rw[z]at d;cases d
  .exact⟨e,by rw[<-k c e];exact d⟩
 refine⟨az,i.below,i.defers,λt av Y=> ?_,λc o=> ?_,λK L x u v=>i.inj K L x (q _ _ u).2 (q _ _ v).2,λc x d=>i.fresh c x (q _ _ d).2,λc x d=>gR (i.gT c x (q _ _ d).2) (wx s.k b 0 dB).1,i.gW.trans D⟩
 .obtain⟨fu,N,P⟩:=i.D t av Y;exact⟨fu,N,P.step D⟩
 .show e9 az H' w (aT S az H' w) c o (I H' c o)
  by_cases e:c=b
  .subst e
   by_cases r:o=0
   .subst r;rw[F];exact⟨rfl,.inl ⟨rfl,rfl,z⟩⟩
   .rw[l c o (.inr r),V o r];trivial
  .rw[l c o (.inl e)];exact(i.k c o).step D (λ_=>k c e) (λ_ _ _=>⟨rfl,rfl⟩) (λ_=>⟨k c e,λ_ _=>rfl⟩)
inductive lr where
 |lA (k:Key) (E:cR)
 |own (k:Key) (E:cR) (b:Nat)
 |kill (b:Nat)
def El(m:Nat)(s:O)(c:lr):Option (aW×O):=
 match c with
 | .lA k E=>match yO s k with
   | .own .. =>xg s k E
   |_=>some (.di,s)
 | .own k E b=>match yO s k with
   | .aG=>match xg s k E with
     |some p=>match wA m p.2 [(k,b)]with
      |some a=>some (p.1,a)
      |none=>none
     |none=>none
   |_=>match wA m s [(k,b)]with
    |some a=>some (.di,a)
    |none=>none
 | .kill b=>match Hr s b with
   |some a=>some (.di,a)
   |none=>none
def pL(m:Nat):O->List lr->Option (aW×O)
 |s,[]=>some (.di,s)
 |s,c::r=>match El m s c with
  |some p=>match pL m p.2 r with
   |some a=>some (.and p.1 a.1,a.2)
   |none=>none
  |none=>none
def apD{m:Nat}{s s':O}{c:lr}{o:aW}(h:El m s c=some (o,s'))(b:o.holds):cz m s s':=by
 unfold El at h
 split at h
 .split at h
  .exact Rz h b
  .cases h;exact cz.refl _
 .split at h
  .split at h<;>try (cases h;done)
   rename_i p e
   split at h<;>try (cases h;done)
   rename_i d a
   cases h
   exact(Rz (mx:=p.1) (kD:=p.2) e b).trans (NN a)
  .split at h<;>try (cases h;done)
   rename_i d a
   cases h
   exact NN a
 .split at h<;>try (cases h;done)
  rename_i d a
  cases h
  exact cz.kill a
def ayr{s a:O}{b:Nat}(h:Hr s b=some a):a.D.length=s.D.length:=by
 unfold Hr at h
 split at h<;>try (cases h;done)
 split at h<;>try (cases h;done)
 split at h
 .cases h;rfl
 .rw[ds]at h
  cases h.2;rfl
def Jy{m:Nat} : ∀{l:List lr} {s s':O} {o:aW},pL m s l=some (o,s')->o.holds->cz m s s'
 |[],s,s',o,h,_=>by cases h;exact cz.refl _
 |c::r,s,s',o,h,a=>by
  simp only[pL]at h
  split at h<;>try (cases h;done)
  rename_i p e
  split at h<;>try (cases h;done)
  rename_i b d
  cases h
  exact(apD (o:=p.1) (s':=p.2) e a.1).trans (Jy (o:=b.1) (s':=b.2) d a.2)
def pK(m:Nat)(s:O)(a:List Key)(l:List lr):Option (aW×O):=
 match a with
 |[]=>pL m s l
 |k::r=>match hV m (xp s (k::r))with
  |true=>match pL m (xp s (k::r)) l with
   |some p=>some (.and (kg s (xp s (k::r))) p.1,p.2)
   |none=>none
  |false=>none
def xh{m:Nat}{s s':O}{b:List Key}{l:List lr}{o:aW}(h:pK m s b l=some (o,s'))(a:o.holds):cz m s s':=by
 unfold pK at h
 split at h
 .exact Jy h a
 .split at h<;>try (cases h;done)
  rename_i c
  split at h<;>try (cases h;done)
  rename_i p d
  cases h
  exact(oK a.1 c).trans (Jy (o:=p.1) (s':=p.2) d a.2)
def YA: ∀{l:List J} {i:Nat} {v:J},(zL l i v).length=l.length
 |[],_,_=>rfl
 |_::_,0,_=>rfl
 |_::l,i+1,v=>by simp only[zL,dy,YA]
def aCs{s:O}{k:Key}{v:J} :(Ob s k v).D.length=s.D.length:=by
 unfold Ob
 split
 .exact YA
 .split
  .exact YA
  .rfl
 .rfl
 .rfl
def abu: ∀{a:List Key} {s:O},(xp s a).D.length=s.D.length
 |[],_=>rfl
 |k::a,s=>by simp only[xp,abu,aCs]
def aAi{m:Nat}{s a:O}{b c:Nat}(h:HA m s b c=some a):a.D.length=s.D.length:=by
 unfold HA at h
 split at h<;>try (cases h;done)
 split at h<;>try (cases h;done)
 rw[ds]at h
 cases h.2
 simp
def NO{m:Nat} : ∀{l:List (Key×Nat)} {s a:O},wA m s l=some a->a.D.length=s.D.length
 |[],s,a,h=>by cases h;rfl
 |q::r,s,a,h=>by
  simp only[wA]at h
  split at h<;>try (cases h;done)
  split at h
  .exact NO h
  .split at h<;>try (cases h;done)
   rename_i c b;rw[NO h,aAi b]
def aa5{s s':O}{k:Key}{E:cR}{o:aW}(h:xg s k E=some (o,s')):s'.D.length=s.D.length:=by
 unfold xg at h
 split at h<;>try (cases h;done)
 .cases k<;>simp only at h<;>try (cases h;done)
  .cases h;simp
  .rw[ds]at h;cases h.2;rfl
 .cases k<;>simp only at h<;>try (cases h;done)
  .split at h<;>try (cases h;done)
   cases h;simp
  .split at h<;>try (cases h;done)
   rw[ds]at h;cases h.2;rfl
def apE{m:Nat}{s s':O}{c:lr}{o:aW}(h:El m s c=some (o,s')):s'.D.length=s.D.length:=by
 unfold El at h
 split at h
 .split at h
  .exact aa5 h
  .cases h;rfl
 .split at h
  .split at h<;>try (cases h;done)
   rename_i p d
   split at h<;>try (cases h;done)
   rename_i b a
   cases h
   rw[NO a,aa5 (o:=p.1) (s':=p.2) d]
  .split at h<;>try (cases h;done)
   rename_i b a
   cases h
   exact NO a
 .split at h<;>try (cases h;done)
  rename_i b a
  cases h
  exact ayr a
def RG{m:Nat} : ∀{l:List lr} {s s':O} {o:aW},pL m s l=some (o,s')->s'.D.length=s.D.length
 |[],s,s',o,h=>by cases h;rfl
 |c::r,s,s',o,h=>by
  simp only[pL]at h
  split at h<;>try (cases h;done)
  rename_i p e
  split at h<;>try (cases h;done)
  rename_i a b
  cases h
  rw[RG (o:=a.1) (s':=a.2) b,apE (o:=p.1) (s':=p.2) e]
def aa6{m:Nat}{s:O}{a:List Key}{l:List lr}{p:aW×O}(h:pK m s a l=some p):p.2.D.length=s.D.length:=by
 obtain⟨o,c⟩:=p;unfold pK at h
 split at h
 .exact RG h
 .split at h<;>try (cases h;done)
  split at h<;>try (cases h;done)
  rename_i p b
  cases h
  rw[RG (o:=p.1) (s':=p.2) b,abu]
noncomputable def G.xf{α:Type}(s:G α)(i:Nat)(z:α):G α:=⟨s.n,λt=>bif Nat.blt t i then s.at' t else z⟩
def G.cut{α:Type}(s:G α)(i:Nat):G α:=⟨i,s.at'⟩
def G.aFz{α:Type}(s:G α)(i:Nat)(z:α):(s.xf i z).n=s.n:=rfl
def G.abg{α:Type}(s:G α)(i:Nat):(s.cut i).n=i:=rfl
def uj(o:Oper):Option (Nat×Nat):=
 match o.guard with
 |none=>match o.dst with
  |some d=>match o.op with
   | .move x=>match x with
     | .tmp s=>some (d,s)
     |_=>none
   |_=>none
  |none=>none
 |some _=>none
def Jf(o:Oper):Option (Nat×Nat):=
 match o.guard with
 |none=>match o.dst with
  |some d=>match o.op with
   | .assign x=>match x with
     | .tmp s=>some (d,s)
     |_=>none
   |_=>none
  |none=>none
 |some _=>none
structure I8 where
 d:Nat
 T:TypeId
 x:Nat
 y:Nat
def YE(o:Oper):Option I8:=
 match o.guard with
 |none=>match o.dst with
  |some d=>match o.op with
   | .slice T x l h m=>match x,l,h,m with
     | .tmp x,some (.tmp y),none,none=>some ⟨d,T,x,y⟩
     |_,_,_,_=>none
   |_=>none
  |none=>none
 |some _=>none
def YD(o:Oper):Option I8:=
 match o.guard with
 |none=>match o.dst with
  |some d=>match o.op with
   | .slice T x l h m=>match x,l,h,m with
     | .tmp x,none,some (.tmp y),none=>some ⟨d,T,x,y⟩
     |_,_,_,_=>none
   |_=>none
  |none=>none
 |some _=>none
def Rr(o:Oper):Option (Nat×TypeId):=
 match o.guard with
 |none=>match o.dst with
  |none=>match o.op with
   | .call c=>match c.callee with
     | .builtin b=>match b with
       | .clear=>match c.args.toList,c.argTypes.toList with
         |[.tmp z],[T]=>some (z,T)
         |_,_=>none
       |_=>none
     |_=>none
   |_=>none
  |some _=>none
 |some _=>none
def WA{o:Oper}{d s:Nat}(h:uj o=some (d,s)):o.guard=none/\o.dst=some d/\o.op= .move (.tmp s):=by
 unfold uj at h
 split at h<;>try (cases h;done)
 split at h<;>try (cases h;done)
 split at h<;>try (cases h;done)
 split at h<;>cases h
 exact⟨Ψ,Ψ,Ψ⟩
def aas{o:Oper}{d s:Nat}(h:Jf o=some (d,s)):o.guard=none/\o.dst=some d/\o.op= .assign (.tmp s):=by
 unfold Jf at h
 split at h<;>try (cases h;done)
 split at h<;>try (cases h;done)
 split at h<;>try (cases h;done)
 split at h<;>cases h
 exact⟨Ψ,Ψ,Ψ⟩
def aDA{o:Oper}{p:I8}(h:YE o=some p):o.guard=none/\o.dst=some p.d/\o.op= .slice p.T (.tmp p.x) (some (.tmp p.y)) none none:=by
 unfold YE at h
 split at h<;>try (cases h;done)
 split at h<;>try (cases h;done)
 split at h<;>try (cases h;done)
 split at h<;>cases h
 exact⟨Ψ,Ψ,Ψ⟩
def aDx{o:Oper}{p:I8}(h:YD o=some p):o.guard=none/\o.dst=some p.d/\o.op= .slice p.T (.tmp p.x) none (some (.tmp p.y)) none:=by
 unfold YD at h
 split at h<;>try (cases h;done)
 split at h<;>try (cases h;done)
 split at h<;>try (cases h;done)
 split at h<;>cases h
 exact⟨Ψ,Ψ,Ψ⟩
def apd{o:Oper}{z:Nat}{T:TypeId}(h:Rr o=some (z,T)):o.guard=none/\o.dst=none/\ ∃c,o.op= .call c/\c.callee= .builtin .clear/\c.args= #[.tmp z]/\c.argTypes= #[T]:=by
 unfold Rr at h
 split at h<;>try (cases h;done)
 split at h<;>try (cases h;done)
 split at h<;>try (cases h;done)
 split at h<;>try (cases h;done)
 split at h<;>try (cases h;done)
 split at h<;>cases h
 rename_i c _ _ _ a _ _ b d;exact⟨Ψ,Ψ,_,Ψ,a,Array.toList_inj.1 b,Array.toList_inj.1 d⟩
def N5(st:O)(E:cR)(s i:Nat)(K:Nat->Nat->IntKind->Int->Nat->(Nat->List J)->Option (aW×O)):Option (aW×O):=
 match st.D.getD s .undef with
 | .own b k=>match st.D.getD i .undef with
   | .int fB z=>match I st.k b 0 with
     | .ad a c n f=>dg (!a&&Nat.beq c E.V) (match K b k fB z n f with
       |some q=>some (.and (.e k n) (.and (.p ((0:Int)<=z/\z<(n:Int))) (.and (E.canon f) q.1)),q.2)
       |none=>none)
     |_=>none
   |_=>none
 |_=>none
def JF(X:cj)(T:TypeId):Option (bS×cR):=
 match X.ty T with
 |some t=>match t.d with
  | .slice e b _=>match X.el e with
    |some E=>match X.ty e with
     |some a=>dg (Nat.beq b E.V&&Nat.beq a.zero.length E.V&&Nat.beq a.size E.V) (some (a,E))
     |none=>none
    |none=>none
  |_=>none
 |none=>none
def Xk:J->Bool
 | .undef=>false
 |_=>true
noncomputable def Rs(X:cj)(ops:List Oper)(st:O):Option (aW×O):=
 match ops with
 |[g,h,hp,CT]=>match uj g with
  |some c=>match uj h with
   |some d=>match YE hp with
    |some a=>match Rr CT with
     |some e=>match JF X a.T with
      |some q=>dg (Nat.beq a.x c.1&&Nat.beq a.y d.1&&Nat.beq e.1 a.d&&Nat.beq e.2 a.T&& !(Nat.beq c.1 d.1)&& !(Nat.beq d.2 c.1)&&Nat.blt c.1 st.D.length&&Nat.blt d.1 st.D.length&&Nat.blt a.d st.D.length&&q.1.zero.all Xk)
       (N5 st q.2 c.2 d.2 λb _ fB z n f=>some (.e (sP q.1.zero (q.2.e (q.2.d q.1.zero))) (q.2.e (q.2.d q.1.zero)),
        ⟨((st.D.set c.1 (.own b n)).set d.1 (.int fB z)).set a.d .undef,qF st.k b b (.ad false q.2.V n λt=>q.2.e ((G.xf (q.2.ab n f) z.toNat (q.2.d q.1.zero)).at' t))⟩))
      |none=>none
     |none=>none
    |none=>none
   |none=>none
  |none=>none
 |_=>none
noncomputable def RF(X:cj)(ops:List Oper)(st:O):Option (aW×O):=
 match ops with
 |[g,h,hp,CT]=>match uj g with
  |some a=>match uj h with
   |some c=>match YD hp with
    |some d=>match Jf CT with
     |some e=>match JF X d.T with
      |some q=>dg (Nat.beq d.x a.1&&Nat.beq d.y c.1&&Nat.beq e.2 d.d&& !(Nat.beq a.1 c.1)&& !(Nat.beq c.2 a.1)&&Nat.blt a.1 st.D.length&&Nat.blt c.1 st.D.length&&Nat.blt d.d st.D.length&&Nat.blt e.1 st.D.length)
       (N5 st q.2 a.2 c.2 λb _ fB z n f=>some (.di,
        ⟨(((st.D.set a.1 .undef).set c.1 (.int fB z)).set d.d (.own st.k.length z.toNat)).set e.1 (.own st.k.length z.toNat),qF st.k b st.k.length (.ad false q.2.V z.toNat λt=>q.2.e ((G.cut (q.2.ab n f) z.toNat).at' t))⟩))
      |none=>none
     |none=>none
    |none=>none
   |none=>none
  |none=>none
 |_=>none
noncomputable def Xq(X:cj)(ops:List Oper)(a:Bool)(st:O):Option (aW×O):=
 match a with
 |true=>none
 |false=>match Rs X ops st with
  |some q=>some q
  |none=>RF X ops st
section
variable {X:cj} {S:eb} {ι:Nat->Option Nat} {st:O} {a:Act} {w:World}
def Dt{P:Program}{ops:Array Oper}{Q:Exit->Act->World->Prop}{b:List Oper}{o:Oper}(c:o.guard=none)(h:o.wp P a w (wpList P ops Q b) Q):wpList P ops Q (o::b) a w:=by
 unfold wpList;rw[a5 (by simp [Region.wanted,c])];exact .inl h
def ahC{P:Program}{o:Oper}{d s:Nat}{next:Act->World->Prop}{Q:Exit->Act->World->Prop}(h:uj o=some (d,s))(e:next (a.put (some d) (a.eval (.tmp s))) w):o.wp P a w next Q:=by
 obtain⟨_,b,c⟩:=WA h;refine dx (v:=a.eval (.tmp s)) (w':=w) ?_ (by rw[b];exact e);simp [execOp,c]
def aoi{P:Program}{o:Oper}{d s:Nat}{next:Act->World->Prop}{Q:Exit->Act->World->Prop}(h:Jf o=some (d,s))(e:next (a.put (some d) (a.eval (.tmp s))) w):o.wp P a w next Q:=by
 obtain⟨_,b,c⟩:=aas h;refine dx (v:=a.eval (.tmp s)) (w':=w) ?_ (by rw[b];exact e);simp [execOp,c]
def C4(d:Nat)(v:Value)(t:Nat):(a.put (some d) v).eval (.tmp t)=if t=d/\d<a.tmps.size then v else a.eval (.tmp t):=by
 simp only[Act.eval,Act.put]
 by_cases e:t=d
 .subst e
  by_cases h:t<a.tmps.size
  .simp [h]
  .simp [h]
 .simp only[e,false_and,np];rw[IN,IN,IM (λh=>e h.symm)]
def ah_{E:cR}{s i:Nat}{K:Nat->Nat->IntKind->Int->Nat->(Nat->List J)->Option (aW×O)}{o:aW}{j:O}(h:N5 st E s i K=some (o,j))(v:o.holds):
  ∃b k fB z n f g,st.D.getD s .undef= .own b n/\st.D.getD i .undef= .int fB z/\I st.k b 0= .ad false E.V n f/\K b k fB z n f=some (g,j)/\0<=z/\z<(n:Int)/\(∀t,f t=E.e (E.d (f t)))/\g.holds:=by
 unfold N5 at h
 split at h<;>try (cases h;done)
 rename_i b k l
 split at h<;>try (cases h;done)
 rename_i fB z m
 split at h<;>try (cases h;done)
 rename_i x y n f bk;rw[ds]at h;obtain⟨e,h⟩:=h
 split at h<;>try (cases h;done)
 rename_i q p
 cases h
 obtain⟨a,d,r,u⟩:=v;have a:k=n:=a;subst a;simp only[b4,jn]at e;obtain⟨w,c⟩:=e;have c:=eg c;subst w c;exact⟨b,_,fB,z,_,f,q.1,l,m,bk,p,d.1,d.2,λt=>congrFun r t,u⟩
def abE(k:X.env.dE){T:TypeId}{b:bS}{E:cR}(h:JF X T=some (b,E)):b.zero.length=E.V/\ ∃e i z,X.P.underlying T=some (.slice e)/\X.P.info? e=some i/\i.size=E.V/\i.zero=some z/\z.cells.size=E.V/\a6 ly b.zero z.cells.toList:=by
 unfold JF at h
 split at h<;>try (cases h;done)
 rename_i t o
 split at h<;>try (cases h;done)
 rename_i e C B n
 split at h<;>try (cases h;done)
 rename_i y A
 split at h<;>try (cases h;done)
 rename_i F p;rw[ds]at h;obtain⟨g,h⟩:=h
 cases h
 simp only[b4]at g;obtain⟨⟨m,d⟩,a⟩:=g;have m:=eg m;have d:=eg d;have a:=eg a;have l:=(k.ty T t o).d;rw[n]at l;obtain⟨x,i,v,D,_⟩:=l;obtain⟨c,z,f,q,r,s,u⟩:=(k.ty e b p).info;have w:c=i:=by
  have:X.P.info? e=some c:=f;have j:X.P.info? e=some i:=v;rw[this]at j;cases j;rfl
 subst w;exact⟨d,e,c,z,x,f,by rw[q,a],r,by rw[s,a],u⟩
def abM(h:aY S ι st a w){t:Nat}{av:J}(e:st.D.getD t .undef=av):bz S ι st.k w av (a.eval (.tmp t)):=by
 have:=h.eval (.tmp t);simp only[aE]at this;rwa [e]at this
def ajM(h:aY S ι st a w){c d s i b n:Nat}{fB:IntKind}{z:Int}{g:J}{ops:Array Oper}{Q:Exit->Act->World->Prop}{o p:Oper}{l:List Oper}
  (j:uj o=some (c,s)) (k:uj p=some (d,i)) (y:c≠d) (A:i≠c) (C:c<st.D.length) (D:d<st.D.length) (r:st.D.getD s .undef= .own b n) (u:st.D.getD i .undef= .int fB z) (G:g= .undef\/g= .own b n)
  (B: ∀e,aY S ι ⟨(st.D.set c g).set d (.int fB z),st.k⟩ e w->eE S ι st.k w (.own b n) (e.eval (.tmp c))->e.eval (.tmp d)= .int fB z->wpList X.P ops Q l e w):wpList X.P ops Q (o::p::l) a w:=by
 have q:=abM h r;have H:=abM h u;have I:=bz.int H;refine Dt (WA j).1 (ahC j (Dt (WA k).1 (ahC k ?_)));have m: ∀t,t<st.D.length->t<a.tmps.size:=λt E=>by
  obtain⟨v,F,_⟩:=h.D t _ (cM E);exact(so.1 F).1
 have x:(a.put (some c) (a.eval (.tmp s))).eval (.tmp i)= .int fB z:=by
  rw[C4,aS (λf=>A f.1)];exact I
 have K:aY S ι ⟨st.D.set c g,st.k⟩ (a.put (some c) (a.eval (.tmp s))) w:=by
  rcases G with rfl|rfl
  .exact aY.dst h (some c) (av:= .undef) trivial
  .exact aY.dst h (some c) q
 have L:=aY.dst K (some d) (av:= .int fB z) (v:= .int fB z) (bz.mkInt _ _);rw[x];refine B _ L ?_ ?_
 .rw[C4,aS (λf=>y f.1),C4,a5 ⟨rfl,m _ C⟩];exact q
 .rw[C4,a5 ⟨rfl,by simp [Act.put];exact m _ D⟩]
def Y8{E:cR}{a:bS}{z:Value}(d:a6 ly a.zero z.cells.toList)(i:a.zero.all Xk=true)(h:kA a.zero (E.e (E.d a.zero)))(m:a.zero.length=E.V){j:Nat}(l:j<E.V)(w:World)(F:Nat->Prop):
  ∃av u,(E.e (E.d a.zero))[j]? =some av/\z.cells[j]? =some u/\a1 w F av u:=by
 obtain⟨x,c⟩: ∃x,a.zero[j]? =some x:=⟨_,cM Ω⟩;obtain⟨v,e,b⟩:=d.get j x c;obtain⟨y,f,g⟩:=N0 j x h c;have k:Xk x=true:=dK.1 i x (ft c);refine⟨y,v,f,by simpa using e,WV g ?_⟩
 cases x<;>simp only[ly]at b<;>first|exact b.elim|(subst b;constructor)|(obtain⟨rfl,d⟩:=b;exact a1.str _ Ω)|(cases k;done)
def aFc{z:Array Value}{m t j:Nat}(c:t<m)(a:j<z.size):(Builtin.zeroCells z m).toList[t*z.size+j]? =z[j]? :=by
 have b:=m8 c a;simp only[Builtin.zeroCells,Array.toList_map,g_,OX];rw[Array.getElem?_range];rw[a5 b];simp only[sr];have:(t*z.size+j)%z.size=j:=by rw[Nat.add_comm,Nat.add_mul_mod_self_right,O1 a]
 rw[this,getElem!_pos z j a,qK a]
def I9(X:cj)(ops:Array Oper)(st c:O):Prop:= ∀(S:eb) (ι:Nat->Option Nat) (a:Act) (w:World) (Q:Exit->Act->World->Prop),aY S ι st a w->(∀az b w',aY S az c b w'->Q .normal b w')->wpList X.P ops Q ops.toList a w
def I9.wp{ops:Array Oper}{b:O}(h:I9 X ops st b)(id:Nat):WP X.env (.region id ops false) (λe s=>e= .normal/\s=b) st:=λS _ ι a w c=>
 wp_region_list (h S ι a w _ c λaz f w' d=>⟨az,b,d,rfl,rfl⟩)
def apg(m4:X.env.dE){ops:Array Oper}{eI:aW}{s':O}(d:Rs X ops.toList st=some (eI,s'))(eA:eI.holds):I9 X ops st s':=by
 intro S ι a w Q pe UU;unfold Rs at d
 split at d<;>try (cases d;done)
 rename_i zs HP hp CT RO
 split at d<;>try (cases d;done)
 rename_i dD RP
 split at d<;>try (cases d;done)
 rename_i dG RQ
 split at d<;>try (cases d;done)
 rename_i N9 RR
 split at d<;>try (cases d;done)
 rename_i XU aqd
 split at d<;>try (cases d;done)
 rename_i q eq;obtain⟨R,E⟩:=q;rw[ds]at d;obtain⟨l,d⟩:=d;simp only[b4,jn]at l;obtain⟨⟨⟨⟨⟨⟨⟨⟨⟨g1,bU⟩,jv⟩,mK⟩,l6⟩,D⟩,F⟩,H⟩,J⟩,B⟩:=l;replace g1:=(eg g1).symm;replace bU:=(eg bU).symm;replace jv:=(eg jv).symm;replace mK:=(eg mK).symm;replace l6:=OV l6;replace D:=OV D;replace F:dD.1<st.D.length:=g8 F;replace H:dG.1<st.D.length:=g8 H;replace J:N9.d<st.D.length:=g8 J;obtain⟨Z,s⟩:=dD;obtain⟨d2,i⟩:=dG;obtain⟨aFf,aFn⟩:=XU;obtain⟨d3,T,h,aE5⟩:=N9;simp only at g1 bU jv mK l6 D F H J B d;subst g1 bU jv mK;obtain⟨b,fu,fB,z,n,f,N1,ki,hC,bk,qj,y1,avw,U6,MI⟩:=ah_ d eA;simp only[g9,pz]at qj;obtain⟨rfl,rfl⟩:=qj;have V:kA R.zero (E.e (E.d R.zero)):=Jw MI;obtain⟨W,e,inf,k,hu,Co,oh,wg,L,U⟩:=abE m4 eq;rw[RO];refine ajM (g:= .own b n) pe RP RQ l6 D F H ki hC (.inr rfl) λA afP G6 VH=> ?_;obtain⟨jY,Vn⟩:=pe.H0 bk G6;rcases Vn with⟨x,c,C,lx,j0,o,m6,K,la,lN⟩|⟨fq,_⟩
 case inr=>omega
 obtain⟨T7,Up,Uq⟩:=aDA RR;obtain⟨UA,rG,aFx,aeA,ase,asf,ash⟩:=apd aqd;have auJ:(Instr.sliceBounds true n c (some (.int fB z)) none none).run X.P w= .ok (z.toNat,n,c) w:=by
  simp [Instr.sliceBounds,run_sliceBound w fB z n _ y1 Ω]
 refine Dt T7 (dx (v:= .slice (some ⟨x,z.toNat*E.V,none⟩) (n-z.toNat) (c-z.toNat)) (w':=w) ?_ ?_)
 .have jG: ¬c=z.toNat:=by omega
  simp [execOp,Uq,o,VH,Instr.sliceAt,fr hu,Instr.slice,auJ,sizeOf,typeInfo,Co,oh,jG,Addr.add];exact λd=>d.symm
 rw[Up];have MP:aY S ι ⟨((st.D.set Z (.own b n)).set d2 (.int fB z)).set d3 .undef,st.k⟩ (A.put (some d3) (.slice (some ⟨x,z.toNat*E.V,none⟩) (n-z.toNat) (c-z.toNat))) w:=aY.dst afP (some d3) (av:= .undef) trivial;have U9:d3<A.tmps.size:=by
  obtain⟨v,o,_⟩:=afP.D d3 _ (cM (by simpa using J));exact(so.1 o).1
 have My:(A.put (some d3) (.slice (some ⟨x,z.toNat*E.V,none⟩) (n-z.toNat) (c-z.toNat))).eval (.tmp d3)= .slice (some ⟨x,z.toNat*E.V,none⟩) (n-z.toNat) (c-z.toNat):=by
  rw[C4,a5 ⟨rfl,U9⟩]
 generalize (A.put (some d3) (.slice (some ⟨x,z.toNat*E.V,none⟩) (n-z.toNat) (c-z.toNat)))=a3 at MP My;have auV:k.cells.all (λv=>v.oneCell')=true:=by
  apply Array.all_eq_true.2;intro j M;obtain⟨av,u,_,y,Y⟩:=Y8 U B V W (j:=j) (by rw[<-L];exact M) w (λ_=>True);rw[qK M]at y
  cases y
  exact Y.Xl
 obtain⟨afU,Ha⟩:(Builtin.zeroCells k.cells (n-z.toNat)).toList.length=(n-z.toNat)*E.V/\ ∀v∈(Builtin.zeroCells k.cells (n-z.toNat)).toList,v.oneCell'=true:=by
  refine⟨by simp [Builtin.zeroCells,L],λv o=> ?_⟩;simp only[Builtin.zeroCells,Array.toList_map,px,Array.mem_toList_iff,Array.mem_range]at o;obtain⟨t,N,rfl⟩:=o;have MM:0<k.cells.size:=by
   rcases wX k.cells.size with e|e
   .rw[e]at N;simp at N
   .exact e
  have gX:=Nat.mod_lt t MM;rw[getElem!_pos k.cells _ gX];exact Array.all_eq_true.1 auV _ gX
 have hmul:z.toNat*E.V+(n-z.toNat)*E.V=n*E.V:=by rw[<-hI];congr 1;omega
 have auR:n*E.V<=C.size:=by rw[la];exact hy _ m6
 have aua:=ai5 (P:=X.P) w T e CT.type k hu (λw=>by simp [zeroValue,typeInfo,Co,wg]) x (z.toNat*E.V) (n-z.toNat) (c-z.toNat) Ω _ rfl Ha (λj M=>by
  rw[afU]at M;rw[Ar K,qK Ω];rfl) (λj _=>Ez K _)
 refine Dt UA (dx (v:= .tuple #[]) (w':=w.setCells x (z.toNat*E.V) (Builtin.zeroCells k.cells (n-z.toNat)).toList) ?_ ?_)
 .simp [execOp,aeA,resolve,ase,asf,ash,invoke,builtin,My];rw[aua];rfl
 rw[rG];obtain⟨⟨uW,q1,y,Y⟩,X5,Ib,Ic,Ie,Ig⟩:=rV x (Builtin.zeroCells k.cells (n-z.toNat)).toList (z.toNat*E.V) w C lx (0,0) K;generalize w.setCells x (z.toNat*E.V) (Builtin.zeroCells k.cells (n-z.toNat)).toList=w' at*
 have RM:I (⟨((st.D.set Z (.own b n)).set d2 (.int fB z)).set d3 .undef,st.k⟩:O).k b 0= .ad false E.V n f:=bk;obtain⟨az,Vy,_⟩:=aY.OM (b:=b) (bU:=b) (f:=f) (fW:=λt=>E.e ((G.xf (E.ab n f) z.toNat (E.d R.zero)).at' t)) (n':=n) (c:=c) (w':=w') (kJ:=uW) MP RM j0 K Ic Ie Ig X5 Ib q1 (by rw[y];exact la) jY m6 (λp r cx m=>by
  have aGv:=m8 cx m;rw[Y,afU];show∃av u,(E.e (cond (Nat.blt p z.toNat) (E.d (f p)) (E.d R.zero)))[r]? =some av/\_
  by_cases afI:p<z.toNat
  .have l:Nat.blt p z.toNat=true:=by simpa[iY]using afI
   have:=m8 afI m;rw[aS Ω,l,aR,<-U6];exact lN p r cx m
  .have l:Nat.blt p z.toNat=false:=by
    cases e:Nat.blt p z.toNat with
    |false=>rfl
    |true=>exact absurd (g8 e) Ω
   have e5:z.toNat*E.V<=p*E.V:=hy _ Ω;have hl:(p-z.toNat)*E.V=p*E.V-z.toNat*E.V:=Dy _ _ _;rw[a5 ⟨Ω,Ω,Ω⟩,l,aX];obtain⟨av,u,hn,gE,j1⟩:=Y8 U B V W m w' (aT S ι st.k w);refine⟨av,u,hn,?_,?_⟩
   .have N:p-z.toNat<n-z.toNat:=by omega
    have:=aFc (z:=k.cells) N (by rw[L];exact m);rw[L]at this;rw[show p*E.V+r-z.toNat*E.V=(p-z.toNat)*E.V+r by omega,this];exact gE
   .obtain⟨aFr,ajO,agc,agt,axK⟩:=Y8 U B V W m w (aT S ι st.k w);rw[hn]at agc;cases agc;rw[gE]at agt;cases agt;exact axK) (.inl ⟨rfl,.inr ⟨rfl,y⟩⟩)
 exact UU az _ w' Vy
def apC(m4:X.env.dE){ops:Array Oper}{o:aW}{R:O}(d:RF X ops.toList st=some (o,R))(eA:o.holds):I9 X ops st R:=by
 intro S ι a w Q u UU;unfold RF at d
 split at d<;>try (cases d;done)
 rename_i zs HP hp CT RO
 split at d<;>try (cases d;done)
 rename_i M RP
 split at d<;>try (cases d;done)
 rename_i N RQ
 split at d<;>try (cases d;done)
 rename_i P RR
 split at d<;>try (cases d;done)
 rename_i XU B
 split at d<;>try (cases d;done)
 rename_i q eq;obtain⟨ao,E⟩:=q;rw[ds]at d;obtain⟨H,d⟩:=d;simp only[b4,jn]at H;obtain⟨⟨⟨⟨⟨⟨⟨⟨g1,bU⟩,jv⟩,l6⟩,j⟩,k⟩,l⟩,m⟩,U⟩:=H;replace g1:=(eg g1).symm;replace bU:=(eg bU).symm;replace jv:=(eg jv).symm;replace l6:=OV l6;replace j:=OV j;replace k:M.1<st.D.length:=g8 k;replace l:N.1<st.D.length:=g8 l;replace m:P.d<st.D.length:=g8 m;obtain⟨V,s⟩:=M;obtain⟨W,i⟩:=N;obtain⟨Y,aFf⟩:=XU;obtain⟨d3,T,h,aE5⟩:=P;simp only at g1 bU jv l6 j k l m U d;subst g1 bU jv;obtain⟨b,fu,fB,z,n,f,N1,Z,hC,bk,F,y1,avw,U6,MI⟩:=ah_ d eA;simp only[g9,pz]at F;obtain⟨rfl,rfl⟩:=F;obtain⟨VP,e,inf,aHd,hu,Co,oh,wg,Cp,afs⟩:=abE m4 eq;rw[RO];refine ajM (g:= .undef) u RP RQ l6 j k l Z hC (.inl rfl) λA J G6 VH=> ?_;obtain⟨jY,Vn⟩:=u.H0 bk G6;rcases Vn with⟨x,c,C,lx,L,y,m6,D,la,lN⟩|⟨fq,_⟩
 case inr=>omega
 obtain⟨T7,Up,Uq⟩:=aDx RR;obtain⟨UA,rG,aeA⟩:=aas B;have aut:(Instr.sliceBounds true n c none (some (.int fB z)) none).run X.P w= .ok (0,z.toNat,c) w:=by
  simp [Instr.sliceBounds,run_sliceBound w fB z c _ y1 Ω]
 have RM:I (⟨(st.D.set V .undef).set W (.int fB z),st.k⟩:O).k b 0= .ad false E.V n f:=bk;obtain⟨az,MP,K⟩:=aY.OM (b:=b) (bU:=st.k.length) (f:=f) (fW:=λt=>E.e ((G.cut (E.ab n f) z.toNat).at' t)) (n':=z.toNat) (c:=c) (w':=w) (kJ:=C) J RM L D rfl rfl rfl rfl (λ_ _=>rfl) D la Ω Ω (λp r eI gD=>by
  show∃av h1,(E.e (E.d (f p)))[r]? =some av/\_;rw[<-U6];exact lN p r Ω gD) (.inr ⟨λcx=>by
   have:=u.gT b x L;omega,λo=>tQ (bN _) o,u.NT (bN _)⟩)
 refine Dt T7 (dx (v:= .slice (some ⟨x,0,none⟩) z.toNat c) (w':=w) ?_ ?_)
 .simp [execOp,Uq,y,VH,Instr.sliceAt,fr hu,Instr.slice,aut,sizeOf,typeInfo,Co,oh,Addr.add]
 rw[Up];have U9:d3<A.tmps.size:=by
  obtain⟨v,y,_⟩:=J.D d3 _ (cM (by simpa using m));exact(so.1 y).1
 have Vy:=aY.dst MP (some d3) (av:= .own st.k.length z.toNat) (v:= .slice (some ⟨x,0,none⟩) z.toNat c) K;have My:(A.put (some d3) (.slice (some ⟨x,0,none⟩) z.toNat c)).eval (.tmp d3)= .slice (some ⟨x,0,none⟩) z.toNat c:=by
  rw[C4,a5 ⟨rfl,U9⟩]
 refine Dt UA (aoi B ?_);rw[My];exact UU az _ w (aY.dst Vy (some Y) (av:= .own st.k.length z.toNat) K)
def aBy(b:X.env.dE){ops:Array Oper}{a:Bool}{o:aW}{s':O}(h:Xq X ops.toList a st=some (o,s'))(c:o.holds)(id:Nat):WP X.env (.region id ops a) (λe s=>e= .normal/\s=s') st:=by
 unfold Xq at h
 cases a with
 |true=>cases h
 |false=>
  simp only at h
  split at h
  .rename_i q d
   cases h
   exact(apg b d c).wp id
  .exact(apC b h c).wp id
end
inductive anI where
 |pure
 |own (E:cR)
 |heap
 |lO (lB:Bool) (abr:List Key) (l:List lr)
 |eR (lB:Bool) (abr:List Key) (l:List lr) (uF:List J->O) (da:O->List J)
structure cT where
 md:anI
 rs:List ResultVar
 bE:List (Key×aH)
 anS:O
def cT.cg(R:cT):List aH:=R.bE.map (·.2)
def cT.st(R:cT)(a:List J):O:=
 match R.md with
 | .eR _ _ _ uF _=>uF a
 |_=>zn R.anS (R.bE.map (·.1)) a
def Og(x y:J):J:=
 match y with
 | .arr a _ g=>match x with
   | .aG=> .arr a 0 g
   |x=>x
 | .undef=> .aG
 | .agg _=> .aG
 |_=>x
def C7:List J->List J->List J
 |x::a,y::b=>Og x y::C7 a b
 |[],_=>[]
 |x::a,[]=>x::a
def Ya(x y:J):J:=
 match y with
 | .agg a=>match x with
   | .agg cs=> .agg (C7 cs a)
   |x=>x
 |y=>Og x y
def zC:List J->List J->List J
 |x::a,y::b=>Ya x y::zC a b
 |[],_=>[]
 |x::a,[]=>x::a
def aiF{x y:J}(h:Og x y=y):hg x y:=by
 cases y<;>simp only[Og]at h<;>try (cases h;done)
 case arr a n g=>
  cases x<;>simp only[J.arr.injEq,reduceCtorEq]at h
  .exact h.2.1.symm
  .obtain⟨rfl,rfl,rfl⟩:=h;exact⟨rfl,rfl,λ_ _=>rfl⟩
 all_goals (subst h;rfl)
def aiG: ∀{b a:List J},C7 b a=a->a6 hg b a
 |[],[],_=>trivial
 |[],_::_,h=>by simp [C7]at h
 |_::_,[],h=>by simp [C7]at h
 |x::b,y::a,h=>by
  simp only[C7,nn]at h;exact⟨aiF h.1,aiG h.2⟩
def aCH{x y:J}(h:Ya x y=y):kd x y:=by
 cases y<;>simp only[Ya]at h
 case agg a=>
  cases x<;>simp only[J.agg.injEq,reduceCtorEq]at h
  exact aiG h
 all_goals
  have:=aiF h
  cases x<;>first|exact this|(simp [hg]at this;done)
def Yb: ∀{b a:List J},zC b a=a->a6 kd b a
 |[],[],_=>trivial
 |[],_::_,h=>by simp [zC]at h
 |_::_,[],h=>by simp [zC]at h
 |x::b,y::a,h=>by
  simp only[zC,nn]at h;exact⟨aCH h.1,Yb h.2⟩
def Yj(X:cj)(st:O)(r:ResultVar):Option iv:=
 match r with
 | .tmp t=>xA st.k (st.D.getD t .undef)
 | .cell t T=>jm X T λb=>match loadT b st.k (st.D.getD t .undef)with
   |some q=>match xA st.k q.2 with
    |some a=>some (.and q.1 a.1,a.2)
    |none=>none
   |none=>none
def aCY{X:cj}{st:O}{r:ResultVar}{o:aW}{av:J}{K:J->Prop}(h:Yj X st r=some (o,av))(b:o.holds)(c:K av):Oo X.env st r K:=by
 unfold Yj at h;unfold Oo
 cases r with
 |tmp t=>exact Sg h b c
 |cell t T=>
  simp only at h |-;obtain⟨i,g,a⟩:=j4 h;refine j5 g ?_
  split at a<;>try (cases a;done)
  rename_i q e
  split at a<;>try (cases a;done)
  rename_i d f
  cases a
  exact NA (o:=q.1) (av:=q.2) e b.1 (Sg (o:=d.1) (av:=d.2) f b.2 c)
def On(X:cj)(st:O):List ResultVar->Option (aW×List J)
 |[]=>some (.di,[])
 |r::rs=>match Yj X st r with
  |some q=>match On X st rs with
   |some a=>some (.and q.1 a.1,q.2::a.2)
   |none=>none
  |none=>none
def aiS{X:cj}{st:O} : ∀{rs:List ResultVar} {o:aW} {cI:List J} {K:List J->Prop},On X st rs=some (o,cI)->o.holds->K cI->zD X.env st rs K
 |[],o,cI,K,h,b,a=>by cases h;exact a
 |r::rs,o,cI,K,h,b,a=>by
  simp only[On]at h
  split at h<;>try (cases h;done)
  rename_i q e
  split at h<;>try (cases h;done)
  rename_i c d
  cases h
  exact aCY (o:=q.1) (av:=q.2) e b.1 (aiS (o:=c.1) (cI:=c.2) d b.2 a)
def Vt(X:cj)(st:O)(r:ResultVar):Option iv:=
 match r with
 | .tmp t=>c6 (st.D.getD t .undef)
 | .cell t T=>jm X T λa=>loadT a st.k (st.D.getD t .undef)
def au4{X:cj}{st:O}{r:ResultVar}{o:aW}{av:J}{K:J->Prop}(h:Vt X st r=some (o,av))(d:o.holds)(a:K av):Vs X.env st r K:=by
 unfold Vt at h;unfold Vs
 cases r with
 |tmp t=>cases h;exact a
 |cell t T=>
  simp only at h |-;obtain⟨e,b,c⟩:=j4 h;exact j5 b (NA c d a)
def Ct(X:cj)(st:O):List ResultVar->Option (aW×List J)
 |[]=>some (.di,[])
 |r::rs=>match Vt X st r with
  |some q=>match Ct X st rs with
   |some a=>some (.and q.1 a.1,q.2::a.2)
   |none=>none
  |none=>none
def MN{X:cj}{st:O} : ∀{rs:List ResultVar} {o:aW} {cI:List J} {K:List J->Prop},Ct X st rs=some (o,cI)->o.holds->K cI->wi X.env st rs K
 |[],o,cI,K,h,b,a=>by cases h;exact a
 |r::rs,o,cI,K,h,b,a=>by
  simp only[Ct]at h
  split at h<;>try (cases h;done)
  rename_i q e
  split at h<;>try (cases h;done)
  rename_i c d
  cases h
  exact au4 (o:=q.1) (av:=q.2) e b.1 (MN (o:=c.1) (cI:=c.2) d b.2 a)
def N6(E:cR)(H:Heap)(x:J):Option iv:=
 match x with
 | .own b k=>match I H b 0 with
   | .ad a c n f=>dg (!a&&Nat.beq c E.V) (some (.and (.e k n) (E.canon f),.ad false E.V n λi=>E.e ((E.ab n f).at' i)))
   |_=>none
 | .aG=>c6 (.ad false E.V 0 λi=>E.e ((@B E.T E.wm).at' i))
 |_=>none
def aia{E:cR}{H:Heap}{x:J}{o:aW}{av:J}(h:N6 E H x=some (o,av))(a:o.holds): ∃n f,av= .ad false E.V n f/\CX H E.V n f x:=by
 unfold N6 at h;unfold CX
 cases x<;>simp only[c6]at h |- <;>try (cases h;done)
 .cases h;exact⟨0,_,rfl,rfl⟩
 .split at h<;>try (cases h;done)
  rename_i e;rw[ds]at h;obtain⟨b,h⟩:=h
  cases h
  (try simp only[e])
  exact⟨_,_,rfl,aF.2 ⟨b,a.1,rfl,λi _=>congrFun a.2 i⟩⟩
def Yh(X:cj)(E:cR)(st:O)(rs:List ResultVar):Option iv:=
 match rs with
 |[x]=>match x with
  | .tmp t=>N6 E st.k (st.D.getD t .undef)
  | .cell t T=>jm X T λb=>match loadT b st.k (st.D.getD t .undef)with
    |some q=>match N6 E st.k q.2 with
     |some a=>some (.and q.1 a.1,a.2)
     |none=>none
    |none=>none
 |_=>none
def aCW{X:cj}{E:cR}{st:O}{rs:List ResultVar}{o:aW}{av:J}(h:Yh X E st rs=some (o,av))(b:o.holds): ∃n f,av= .ad false E.V n f/\C_ X.env st rs E.V n f:=by
 unfold Yh at h
 split at h<;>try (cases h;done)
 rename_i x;unfold C_
 cases x with
 |tmp t=>exact aia h b
 |cell t T=>
  simp only at h |-;obtain⟨k,g,a⟩:=j4 h
  split at a<;>try (cases a;done)
  rename_i q e
  split at a<;>try (cases a;done)
  rename_i c d
  cases a
  obtain⟨n,f,i,j⟩:=aia (o:=c.1) (av:=c.2) d b.2;exact⟨n,f,i,j5 g (NA (o:=q.1) (av:=q.2) e b.1 j)⟩
def Sh{H:Heap} : ∀{b:List J} {o:aW} {cG:List J},s0 H b=some (o,cG)->cG.length=b.length
 |[],o,cG,h=>by cases h;rfl
 |x::r,o,cG,h=>by
  simp only[s0]at h
  split at h<;>try (cases h;done)
  split at h<;>try (cases h;done)
  rename_i a c
  cases h
  simp [Sh (o:=a.1) (cG:=a.2) c]
def sC(X:cj)(R:cT)(s:O)(b:List J):Prop:=
 match R.md with
 | .pure=> ∀K:List J->Prop,(∀a,a6 kd a (R.st b).D->K a)->zD X.env s R.rs K
 | .own E=> ∃n f,b=[.ad false E.V n f]/\C_ X.env s R.rs E.V n f
 | .heap=> ∀K:List J->Prop,(∀a,a.length=(R.st b).D.length->cz X.m ⟨a,s.k⟩ (R.st b)->K a)->wi X.env s R.rs K
 | .lO .. => ∀K:List J->Prop,(∀a,a.length=(R.st b).D.length->cz X.m ⟨a,s.k⟩ (R.st b)->K a)->wi X.env s R.rs K
 | .eR .. => ∀K:List J->Prop,(∀a,a.length=(R.st b).D.length->cz X.m ⟨a,s.k⟩ (R.st b)->K a)->wi X.env s R.rs K
def Om(a:Bool)(H:Heap)(l:List J):Option (aW×O):=
 match a with
 |true=>match s0 H l with
  |some z=>some (z.1,⟨z.2,bJ H (eO H l)⟩)
  |none=>none
 |false=>some (.di,⟨l,H⟩)
def aiQ{m:Nat}{b:Bool}{H:Heap}{l:List J}{o:aW}{s:O}(h:Om b H l=some (o,s))(c:o.holds):cz m ⟨l,H⟩ s/\l.length=s.D.length:=by
 unfold Om at h
 cases b with
 |false=>cases h;exact⟨cz.refl _,rfl⟩
 |true=>
  simp only at h
  split at h<;>try (cases h;done)
  rename_i z a
  cases h
  exact⟨cz.q_ (o:=z.1) (su:=z.2) a c,(Sh (o:=z.1) (cG:=z.2) a).symm⟩
def zE(X:cj)(R:cT)(s:O):Option (aW×List J):=
 match R.md with
 | .pure=>match On X s R.rs with
   |some q=>match qq R.bE ⟨q.2,[]⟩with
    |some a=>some (.and q.1 (.e (zC q.2 (R.st a).D) (R.st a).D),a)
    |none=>none
   |none=>none
 | .own E=>match Yh X E s R.rs with
   |some q=>match dZ R.cg [q.2]with
    |some a=>some (.and q.1 (.e a [q.2]),a)
    |none=>none
   |none=>none
 | .heap=>match Ct X s R.rs with
   |some q=>match s0 s.k q.2 with
    |some z=>match qq R.bE ⟨z.2,bJ s.k (eO s.k q.2)⟩with
     |some a=>dg (hV X.m (R.st a)) (some (.and q.1 (.and z.1 (kg ⟨z.2,bJ s.k (eO s.k q.2)⟩ (R.st a))),a))
     |none=>none
    |none=>none
   |none=>none
 | .lO c b l=>match Ct X s R.rs with
   |some q=>match Om c s.k q.2 with
    |some z=>match pK X.m z.2 b l with
     |some p=>match qq R.bE p.2 with
      |some a=>dg (hV X.m (R.st a)) (some (.and q.1 (.and z.1 (.and p.1 (kg p.2 (R.st a)))),a))
      |none=>none
     |none=>none
    |none=>none
   |none=>none
 | .eR c b l _ d=>match Ct X s R.rs with
   |some q=>match Om c s.k q.2 with
    |some z=>match pK X.m z.2 b l with
     |some p=>match dZ R.cg (d p.2)with
      |some a=>dg (hV X.m (R.st a)) (some (.and q.1 (.and z.1 (.and p.1 (kg p.2 (R.st a)))),a))
      |none=>none
     |none=>none
    |none=>none
   |none=>none
def Ym{X:cj}{R:cT}{s:O}{o:aW}{cI:List J}(h:zE X R s=some (o,cI))(a:o.holds):sC X R s cI/\ ∃w,dZ R.cg w=some cI:=by
 unfold zE at h;unfold sC
 cases e:R.md<;>rw[e]at h<;>simp only at h |-
 .split at h<;>try (cases h;done)
  rename_i q b
  split at h<;>try (cases h;done)
  rename_i k c
  cases h
  exact⟨λK d=>aiS (o:=q.1) (cI:=q.2) b a.1 (d _ (Yb a.2)),_,c⟩
 .split at h<;>try (cases h;done)
  rename_i q b
  split at h<;>try (cases h;done)
  rename_i k c;simp only[g9,pz]at h;obtain⟨rfl,rfl⟩:=h;obtain⟨n,f,t,u⟩:=aCW (o:=q.1) (av:=q.2) b a.1;have v:k=[q.2]:=a.2;exact⟨⟨n,f,by rw[v,t],u⟩,_,c⟩
 .split at h<;>try (cases h;done)
  rename_i q b
  split at h<;>try (cases h;done)
  rename_i z g
  split at h<;>try (cases h;done)
  rename_i k c;rw[ds]at h;obtain⟨j,h⟩:=h
  cases h
  exact⟨λK d=>MN (o:=q.1) (cI:=q.2) b a.1 (d _ ((Sh (o:=z.1) (cG:=z.2) g).symm.trans (AP (CD (Az a.2.2)).1)) ((cz.q_ (o:=z.1) (su:=z.2) g a.2.1).trans (oK a.2.2 j))),_,c⟩
 .split at h<;>try (cases h;done)
  rename_i q b
  split at h<;>try (cases h;done)
  rename_i z g
  split at h<;>try (cases h;done)
  rename_i p i
  split at h<;>try (cases h;done)
  rename_i k c;rw[ds]at h;obtain⟨j,h⟩:=h
  cases h
  obtain⟨l,r⟩:=aiQ (m:=X.m) (o:=z.1) (s:=z.2) g a.2.1;exact⟨λK d=>MN (o:=q.1) (cI:=q.2) b a.1 (d _ (r.trans ((aa6 i).symm.trans (AP (CD (Az a.2.2.2)).1))) ((l.trans (xh (o:=p.1) (s':=p.2) i a.2.2.1)).trans (oK a.2.2.2 j))),_,c⟩
 .split at h<;>try (cases h;done)
  rename_i q b
  split at h<;>try (cases h;done)
  rename_i z g
  split at h<;>try (cases h;done)
  rename_i p i
  split at h<;>try (cases h;done)
  rename_i k c;rw[ds]at h;obtain⟨j,h⟩:=h
  cases h
  obtain⟨l,r⟩:=aiQ (m:=X.m) (o:=z.1) (s:=z.2) g a.2.1;exact⟨λK d=>MN (o:=q.1) (cI:=q.2) b a.1 (d _ (r.trans ((aa6 i).symm.trans (AP (CD (Az a.2.2.2)).1))) ((l.trans (xh (o:=p.1) (s':=p.2) i a.2.2.1)).trans (oK a.2.2.2 j))),_,c⟩
def sg(R:List aH)(c:Option Nat)(b:Bool)(a:List (Key×aH)):List aH:=
 match c with
 |some _=>match b with
  |true=> .bool::(a.map (·.2)++R)
  |false=>a.map (·.2)
 |none=>match b with
  |true=>R
  |false=>[]
structure dN (R:List aH) where
 keep:Nat
 drop:List Key
 jb:List (Key×cR)
 bE:List (Key×aH)
 ex:Option Nat
 rt:Bool
 ayq:Nat
 drop2:List Key
 es:List (Key×aH)
 G:Nat->dL (bE.map (·.2))->dL (sg R ex rt es)
 m:js
 I:dL (bE.map (·.2))->Prop
 lg:dL (bE.map (·.2))->Nat
 post:Option (dL (sg R ex rt es)->Prop):=none
inductive cw (R:List aH):Type 1 where
 |z
 |s (l r:cw R)
 |j (J:w4) (l r:cw R)
 |c (b:Bool) (h:cw R)
 |cX (L:dN R) (h:cw R)
 |zg (L:dN R) (h:dL (L.bE.map (·.2))->cw R)
 |m_ (h:cw R)
 |un (n:Nat) (h:cw R)
 |h5 (i b:Nat) (h:cw R)
 |jb (l:List (Key×cR))
 |gl (abr:List Key) (l:List lr)
 |y8 (J:w4) (jb:List lr) (l r:cw R)
 |Xp
 |bs (st:O) (h:cw R)
 |mw (L:List (Nat×Nat))
structure anG (R:List aH):Type 1 where
 J:w4
 jb:List lr
 l:cw R
 r:cw R
def cw.agb{R:List aH} :cw R->Option (anG R)
 | .j J l r=>some ⟨J,[],l,r⟩
 | .y8 J a l r=>some ⟨J,a,l,r⟩
 |_=>none
def NI(m:Nat)(a:List lr)(J:w4)(t:T O):Option (aW×O):=
 match a with
 |[]=>meet m J t
 |c::r=>match t.sL (λs=>(pL m s (c::r)).isSome)with
  |true=>match meet m J (t.map λs=>((pL m s (c::r)).getD (.di,s)).2)with
   |some q=>some (.and (t.HQ λs=>((pL m s (c::r)).getD (.di,s)).1) q.1,q.2)
   |none=>none
  |false=>none
def Wy{m:Nat}{g:List lr}{J:w4}{t:T O}{o:aW}{jI:O}(h:NI m g J t=some (o,jI))(b:o.holds):cz m t.bL jI:=by
 unfold NI at h
 split at h
 .exact ahr h b
 .rename_i c r
  split at h<;>try (cases h;done)
  rename_i i
  split at h<;>try (cases h;done)
  rename_i q j
  cases h
  have d:=T.Ag i;have f:=T.N2 b.1;have a:=ahr (o:=q.1) (jI:=q.2) j b.2;rw[T.lT]at a
  cases e:pL m t.bL (c::r)with
  |none=>rw[e]at d;cases d
  |some p=>
   rw[e]at f a;exact(Jy (o:=p.1) (s':=p.2) e f).trans a
def cw.l{R:List aH} :cw R->cw R
 | .s l _=>l
 | .j _ l _=>l
 | .c _ h=>h
 |_=> .z
def cw.r{R:List aH} :cw R->cw R
 | .s _ r=>r
 | .j _ _ r=>r
 | .c _ h=>h
 |_=> .z
def q7(a:List aH):List J:=a.map λk=>k.av k.l7
def RH: ∀a:List aH,dZ a (q7 a)=some (q7 a)
 |[]=>rfl
 |k::a=>by
  have h:=RH a;unfold q7 at h;simp only[q7,IL,dZ,aH.nrm,aH.canon,h]
def tX:e_->Bool
 | .nrm _=>true
 |_=>false
def T.kv:T e_->Bool
 | .da a=>tX a
 | .ej _ l r=>match l.kv with
   |true=>true
   |false=>r.kv
def T.nz:T e_->Nat
 | .da a=>match tX a with
   |true=>1
   |false=>0
 | .ej _ l r=>l.nz+r.nz
def T.pq:T e_->Option O
 | .da a=>match a with
   | .nrm s=>some s
   |_=>none
 | .ej _ l r=>match l.pq with
   |some s=>some s
   |none=>r.pq
def T.wrap(t:T e_)(o:aW):aW:=
 match t with
 | .da _=>o
 | .ej b l r=>match l.kv with
   |true=> .imp b true (l.wrap o)
   |false=> .imp b false (r.wrap o)
def T.subst(t:T e_)(u:T e_):T e_:=
 match t with
 | .da a=>match tX a with
   |true=>u
   |false=> .da a
 | .ej b l r=> .ej b (l.subst u) (r.subst u)
def T.rU: ∀{t:T e_} {s:O},t.bL= .nrm s->t.kv=true
 | .da a,s,h=>by simp only[T.bL]at h;subst h;rfl
 | .ej b l r,s,h=>by
   simp only[T.kv]
   cases b
   .rw[T.rU (t:=r) h];split<;>rfl
   .rw[T.rU (t:=l) h]
def T.Ef: ∀{t:T e_},t.nz=0->t.kv=false
 | .da a,h=>by
   cases a<;>first|rfl|(simp [T.nz,tX]at h;done)
 | .ej b l r,h=>by
   simp only[T.nz]at h;simp only[T.kv,T.Ef (t:=l) Ω,T.Ef (t:=r) Ω]
def T.Ch: ∀{t:T e_},t.kv=true->0<t.nz
 | .da a,h=>by simp only[T.kv]at h;simp [T.nz,h]
 | .ej b l r,h=>by
   simp only[T.kv]at h;simp only[T.nz]
   split at h
   .rename_i e;have:=T.Ch e;omega
   .have:=T.Ch h;omega
def T.YT: ∀{t:T e_},t.kv=false->t.pq=none
 | .da a,h=>by cases a<;>first|rfl|(simp [T.kv,tX]at h;done)
 | .ej b l r,h=>by
   simp only[T.kv]at h
   split at h
   .cases h
   .rename_i e;simp only[T.pq,T.YT (t:=l) (by simpa using e),T.YT h]
def T.Xm: ∀{t:T e_} {s f:O},t.nz=1->t.bL= .nrm s->t.pq=some f->s=f
 | .da a,s,f,_,h,c=>by
   simp only[T.bL]at h;subst h;simp only[T.pq]at c
   cases c;rfl
 | .ej b l r,s,f,g,h,c=>by
   simp only[T.nz]at g;simp only[T.pq]at c
   cases b
   .have u:=T.Ch (T.rU (t:=r) h);rw[T.YT (t:=l) (T.Ef Ω)]at c;exact T.Xm (t:=r) Ω h c
   .have k:=T.Ch (T.rU (t:=l) h)
    split at c
    .cases c
     rename_i e;exact T.Xm (t:=l) Ω h e
    .rename_i e;obtain⟨s2,i⟩: ∃s2,l.pq=some s2:=by
      have:=T.rU (t:=l) h;clear c g h k;revert e;have o: ∀{t:T e_},t.kv=true-> ∃s2,t.pq=some s2:=by
       intro t
       induction t with
       |da a=>intro d;cases a<;>first|exact⟨_,rfl⟩|(simp [T.kv,tX]at d;done)
       |ej b l r m n=>
        intro d;simp only[T.kv]at d;simp only[T.pq]
        split at d
        .rename_i e;obtain⟨s2,h⟩:=m e;rw[h];exact⟨_,rfl⟩
        .cases p:l.pq with
         |some q=>exact⟨q,rfl⟩
         |none=>exact n d
      obtain⟨s2,j⟩:=o this;intro e;rw[j]at e;cases e
     rw[i]at e;cases e
def T.Y7: ∀{t:T e_} {s:O} {o:aW},t.nz=1->t.bL= .nrm s->(t.wrap o).holds->o.holds
 | .da a,s,o,_,_,h=>h
 | .ej b l r,s,o,e,c,h=>by
   simp only[T.nz]at e;simp only[T.wrap]at h
   cases b
   .have f:=T.Ch (T.rU (t:=r) c);rw[T.Ef (t:=l) Ω]at h;exact T.Y7 (t:=r) Ω c (h rfl)
   .have d:=T.rU (t:=l) c;rw[d]at h;exact T.Y7 (t:=l) (by have:=T.Ch d;omega) c (h rfl)
def T.Iw{u:T e_} : ∀{t:T e_} {s:O},t.bL= .nrm s->(t.subst u).bL=u.bL
 | .da a,s,h=>by simp only[T.bL]at h;subst h;rfl
 | .ej b l r,s,h=>by
   cases b
   .exact T.Iw (t:=r) h
   .exact T.Iw (t:=l) h
def T.Iv{u:T e_} : ∀{t:T e_},tX t.bL=false->(t.subst u).bL=t.bL
 | .da a,h=>by simp only[T.bL]at h;simp only[T.subst,h,T.bL]
 | .ej b l r,h=>by
   cases b
   .exact T.Iv (t:=r) h
   .exact T.Iv (t:=l) h
def HL:e_->Option O
 | .nrm s=>some s
 |_=>none
def Hg:e_->Option e_
 | .nrm _=>none
 | .dead=>none
 |x=>some x
def M5:e_->Option Bool
 | .nrm _=>some true
 | .dead=>none
 |_=>some false
def Hd(id:Nat):e_->e_
 | .ext j s=>match Nat.beq j id with
   |true=> .nrm s
   |false=> .ext j s
 |x=>x
def Je(a b:Option Prop):Option Prop:=
 match a with
 |none=>b
 |some p=>match b with
  |none=>some p
  |some q=>some (p/\q)
def rQ(a:Option Prop)(o:aW):aW:=
 match a with
 |none=>o
 |some p=> .v5 p o
section
variable {R:List aH}
def dN.ends(L:dN R):Bool:=
 match L.ex with
 |some _=>true
 |none=>L.rt
def dN.c1(L:dN R)(a:O):O:=D3 L.keep L.drop a
def dN.dQ(L:dN R)(c1:O)(s:dL (L.bE.map (·.2))):O:=zn c1 (L.bE.map (·.1)) (dL.hf (L.bE.map (·.2)) s)
def dN.jI(L:dN R)(c1:O)(a:List J):O:=zn (D3 L.ayq L.drop2 c1) (L.es.map (·.1)) a
def dN.HO(L:dN R)(s:O):Option (dL (L.bE.map (·.2))):=
 match qq L.bE s with
 |some a=>se _ a
 |none=>none
def dN.out(L:dN R)(c:e_):Option (List J):=
 match c with
 | .ext _ s=>match qq L.es s with
   |some a=>match L.ex with
    |some _=>match L.rt with
     |true=>some (.bool false::(a++q7 R))
     |false=>some a
    |none=>none
   |none=>none
 | .ret b=>match L.rt with
   |true=>match L.ex with
    |some _=>some (.bool true::(q7 (L.es.map (·.2))++b))
    |none=>some b
   |false=>none
 |_=>none
def dN.CJ(L:dN R)(k:Nat)(da:e_):Option (dL (sg R L.ex L.rt L.es)):=
 match da with
 | .nrm s=>match L.HO s with
   |some b=>some (L.G k b)
   |none=>none
 | .dead=>none
 |da=>match L.out da with
  |some a=>se _ a
  |none=>none
def dN.Oq(L:dN R)(t:T e_)(k:Nat):dL (sg R L.ex L.rt L.es):=
 match t.prune (L.CJ k)with
 |some a=>a.kf L.m
 |none=>dL.l7 _
def dN.Ot(L:dN R)(t:T e_)(k:Nat):ha:=
 match t.prune (L.CJ k)with
 |some a=>a.Au L.m
 |none=> .di
def aje(a:Option Nat)(id:Nat):Bool:=
 match a with
 |some i=>Nat.beq id i
 |none=>false
def dN.XW(L:dN R)(a:List J):aW:=
 match L.post with
 |some p=>match se (sg R L.ex L.rt L.es) a with
  |some b=> .p (p b)
  |none=> .p False
 |none=> .di
def dN.zc(L:dN R)(c1:O)(s:dL (L.bE.map (·.2)))(d:e_):aW:=
 match d with
 | .nrm b=>match L.HO b with
   |some c=> .and (kg b (L.dQ c1 c)) (.p (L.I c/\L.lg c<L.lg s))
   |none=> .p False
 | .ext id b=>match aje L.ex id with
   |true=>match qq L.es b with
    |some a=>match L.out (.ext id b)with
     |some w=> .and (kg b (L.jI c1 a)) (L.XW w)
     |none=> .p False
    |none=> .p False
   |false=> .p False
 | .ret e=>match L.out (.ret e)with
   |some _=> .di
   |none=> .p False
 | .dead=> .di
def afm(l:List J):Bool:=
 match l with
 | .bool b::_=>b
 |_=>false
def dN.res(L:dN R)(c1:O)(a:dL (sg R L.ex L.rt L.es)):T e_:=
 match L.ex with
 |some id=>match L.rt with
  |true=> .ej (afm (dL.hf _ a)) (.da (.ret ((dL.hf _ a).drop (1+L.es.length)))) (.da (.ext id (L.jI c1 (((dL.hf _ a).drop 1).take L.es.length))))
  |false=> .da (.ext id (L.jI c1 (dL.hf _ a)))
 |none=>match L.rt with
  |true=> .da (.ret (dL.hf _ a))
  |false=> .da .dead
def dN.fact(L:dN R)(a:dL (sg R L.ex L.rt L.es)):Option Prop:=
 match L.post with
 |some p=>match L.rt with
  |true=>none
  |false=>some (p a)
 |none=>none
end
def cw.pre{R:List aH}(m:Nat)(st:O):cw R->Option (aW×O)
 | .gl a l=>pK m st a l
 |_=>some (.di,st)
def cw.aCn{R:List aH}{m:Nat}{st s':O}{o:aW} : ∀{h:cw R},h.pre m st=some (o,s')->o.holds->cz m st s':=λ{h} e a=>by
 unfold cw.pre at e
 split at e
 .exact xh e a
 .cases e;exact cz.refl _
noncomputable def Ir{R:List aH}(m:Nat)(f g:cw R->O->i_)(h:cw R)(st:O):i_:=
 match h.agb with
 |some z=>match(f z.l st).t.prune HL with
  |some a=>match NI m z.jb z.J a with
   |some q=>match(f z.l st).t.prune Hg with
    |none=>⟨.and (f z.l st).o (rQ (f z.l st).f (.and q.1 (g z.r q.2).o)),Je (f z.l st).f (g z.r q.2).f,(g z.r q.2).t⟩
    |some b=>match(f z.l st).t.prune M5 with
     |some ga=>⟨.and (f z.l st).o (rQ (f z.l st).f (.and q.1 (.and (.es λ_:Unit=>ga.Au z.J.pm) (.imp (ga.kf z.J.pm) true (g z.r q.2).o)))),(f z.l st).f,.ej (ga.kf z.J.pm) (g z.r q.2).t b⟩
     |none=> .bad
   |none=> .bad
  |none=> .bad
 |none=>match(f h.l st).t.nz with
  |0=>f h.l st
  |1=>match(f h.l st).t.pq with
   |some s=>⟨.and (f h.l st).o (rQ (f h.l st).f ((f h.l st).t.wrap (g h.r s).o)),(match(f h.l st).t with
    | .da _=>Je (f h.l st).f (g h.r s).f
    |_=>(f h.l st).f),(f h.l st).t.subst (g h.r s).t⟩
   |none=> .bad
  |_=> .bad
noncomputable def GG{R:List aH}(m:Nat)(g:cw R->O->i_)(h:cw R)(st:O):i_:=
 match h with
 | .bs a b=>match hV m a with
   |true=>⟨.and (kg st a) (g b a).o,(g b a).f,(g b a).t⟩
   |false=> .bad
 |h=>g h st
noncomputable def ID{R:List aH}(m:Nat)(f:cw R->O->i_):Nat->cw R->O->i_
 |0,h,st=>match(f h st).t.kv with
  |true=> .bad
  |false=>f h st
 |n+1,h,st=>Ir m f (GG m (ID m f n)) h st
noncomputable def exec(X:cj)(R:cT):Code->cw R.cg->O->i_
 | .skip,h,st=>match h with
   | .gl f l=>match pK X.m st f l with
     |some p=>⟨p.1,none,.da (.nrm p.2)⟩
     |none=> .bad
   |_=>⟨.di,none,.da (.nrm st)⟩
 | .label _,_,st=>⟨.di,none,.da (.nrm st)⟩
 | .region _ ops e,h,st=>match h with
   | .h5 i b a=>match a.pre X.m st with
     |none=> .bad
     |some p=>match p.2.D.getD i .undef with
      | .ptr b' o=>match(Nat.beq b' b&&Nat.beq o 0)with
        |true=>match(p.2.k.getD b []).all ny&&wy ⟨p.2.D.set i (.ref (p.2.k.getD b [])),setAt [] p.2.k b []⟩&&hV X.m ⟨p.2.D.set i (.ref (p.2.k.getD b [])),setAt [] p.2.k b []⟩&&Nat.blt i p.2.D.length with
         |true=>⟨.and p.1 (j2 X ops e ⟨p.2.D.set i (.ref (p.2.k.getD b [])),setAt [] p.2.k b []⟩).o,none,(j2 X ops e ⟨p.2.D.set i (.ref (p.2.k.getD b [])),setAt [] p.2.k b []⟩).t⟩
         |false=> .bad
        |false=> .bad
      |_=> .bad
   | .jb l=>match Av st l with
     |some p=>⟨.and p.1 (j2 X ops e p.2).o,none,(j2 X ops e p.2).t⟩
     |none=> .bad
   | .gl f l=>match pK X.m st f l with
     |some p=>⟨.and p.1 (j2 X ops e p.2).o,none,(j2 X ops e p.2).t⟩
     |none=> .bad
   | .mw L=>match e with
     |true=>uB X ops L st
     |false=> .bad
   | .Xp=>match Xq X ops.toList e st with
     |some p=>⟨p.1,none,.da (.nrm p.2)⟩
     |none=> .bad
   |h=>match h.agb with
    |some z=>match(j2 X ops e st).t.prune HL with
     |some g=>match NI X.m z.jb z.J g with
      |some q=>⟨.and (j2 X ops e st).o q.1,none,.da (.nrm q.2)⟩
      |none=> .bad
     |none=> .bad
    |none=>j2 X ops e st
 | .exit id,h,st=>match h with
   | .gl f l=>match pK X.m st f l with
     |some p=>⟨p.1,none,.da (.ext id p.2)⟩
     |none=> .bad
   |_=>⟨.di,none,.da (.ext id st)⟩
 | .ret,h,st=>match h with
   | .gl f l=>match pK X.m st f l with
     |some p=>match zE X R p.2 with
      |some q=>⟨.and p.1 q.1,none,.da (.ret q.2)⟩
      |none=> .bad
     |none=> .bad
   |_=>match zE X R st with
    |some q=>⟨q.1,none,.da (.ret q.2)⟩
    |none=> .bad
 | .block id x,h,st=>⟨(exec X R x h st).o,(exec X R x h st).f,(exec X R x h st).t.map (Hd id)⟩
 | .cond c x y,h,st=>match aE st.D c with
   | .lit b=>match b with
     |true=>exec X R x h.l st
     |false=>exec X R y h.r st
   | .bool b=>match h with
     | .c b' a=>match b' with
       |true=>⟨.and (.e b true) (exec X R x a st).o,(exec X R x a st).f,(exec X R x a st).t⟩
       |false=>⟨.and (.e b false) (exec X R y a st).o,(exec X R y a st).f,(exec X R y a st).t⟩
     |h=>⟨.and (.imp b true (exec X R x h.l st).o) (.imp b false (exec X R y h.r st).o),none,.ej b (exec X R x h.l st).t (exec X R y h.r st).t⟩
   |_=> .bad
 | .seq x y,h,st=>Ir X.m (exec X R x) (GG X.m (exec X R y)) h st
 | .loop x,h,st=>match h with
   | .m_ a=>match(exec X R x a st).t.kv with
     |true=> .bad
     |false=>exec X R x a st
   | .un n a=>ID X.m (exec X R x) n a st
   | .cX L a=>match Av st L.jb with
     |none=> .bad
     |some p=>match L.ends with
      |false=> .bad
      |true=>match L.HO p.2 with
       |none=> .bad
       |some d=>⟨.and p.1 (.and (kg p.2 (L.dQ (L.c1 p.2) d)) (.and (.p (L.I d)) (.and (.e (λs=>hV X.m (L.dQ (L.c1 p.2) s)) λ_=>true) (.and (.e (λv=>hV X.m (L.jI (L.c1 p.2) (dL.hf (L.es.map (·.2)) v))) λ_=>true)
         (.all (L.bE.map (·.2)) L.I λs=> .and (exec X R x a (L.dQ (L.c1 p.2) s)).o (.and (rQ (exec X R x a (L.dQ (L.c1 p.2) s)).f ((exec X R x a (L.dQ (L.c1 p.2) s)).t.zt (L.zc (L.c1 p.2) s)))
           (.es λk:Nat=> .and (.e (L.G (k+1) s) (L.Oq (exec X R x a (L.dQ (L.c1 p.2) s)).t k)) (L.Ot (exec X R x a (L.dQ (L.c1 p.2) s)).t k)))))))),
         L.fact (L.G (L.lg d+1) d),L.res (L.c1 p.2) (L.G (L.lg d+1) d)⟩
   | .zg L a=>match Av st L.jb with
     |none=> .bad
     |some p=>match L.ends with
      |false=> .bad
      |true=>match L.HO p.2 with
       |none=> .bad
       |some d=>⟨.and p.1 (.and (kg p.2 (L.dQ (L.c1 p.2) d)) (.and (.p (L.I d)) (.and (.e (λs=>hV X.m (L.dQ (L.c1 p.2) s)) λ_=>true) (.and (.e (λv=>hV X.m (L.jI (L.c1 p.2) (dL.hf (L.es.map (·.2)) v))) λ_=>true)
         (.all (L.bE.map (·.2)) L.I λs=> .and (exec X R x (a s) (L.dQ (L.c1 p.2) s)).o (.and (rQ (exec X R x (a s) (L.dQ (L.c1 p.2) s)).f ((exec X R x (a s) (L.dQ (L.c1 p.2) s)).t.zt (L.zc (L.c1 p.2) s)))
           (.es λk:Nat=> .and (.e (L.G (k+1) s) (L.Oq (exec X R x (a s) (L.dQ (L.c1 p.2) s)).t k)) (L.Ot (exec X R x (a s) (L.dQ (L.c1 p.2) s)).t k)))))))),
         L.fact (L.G (L.lg d+1) d),L.res (L.c1 p.2) (L.G (L.lg d+1) d)⟩
   |_=> .bad
 |_,_,_=> .bad
section
def jT(X:cj)(R:cT)(a:e_)(e:Exit)(s:O):Prop:=
 match e with
 | .normal=>match a with
   | .nrm b=>cz X.m s b
   |_=>False
 | .exit id=>match a with
   | .ext c b=>id=c/\cz X.m s b
   |_=>False
 | .ret=>match a with
   | .ret d=>sC X R s d
   |_=>False
 |_=>False
def azj{b:List (Key×aH)}{s:O}{a:List J}(h:qq b s=some a): ∃c,se (b.map (·.2)) a=some c/\dL.hf (b.map (·.2)) c=a:=CS h
def WR: ∀{g c:List aH} {aa b d f:List J},dZ g aa=some d->dZ c b=some f->dZ (g++c) (aa++b)=some (d++f)
 |[],c,[],b,d,f,h,k=>by cases h;exact k
 |[],_,_::_,_,_,_,h,_=>by cases h
 |_::_,_,[],_,_,_,h,_=>by cases h
 |k::g,c,a::aa,b,d,f,h,j=>by
  simp only[dZ]at h
  split at h<;>try (cases h;done)
  rename_i y e
  split at h<;>try (cases h;done)
  rename_i l i
  cases h
  have:=WR i j;simp only[w1,dZ,e,this]
def wF: ∀{c:List aH} {aa b:List J},dZ c aa=some b->b.length=c.length
 |[],[],b,h=>by cases h;rfl
 |[],_::_,_,h=>by cases h
 |_::_,[],_,h=>by cases h
 |k::c,a::aa,b,h=>by
  simp only[dZ]at h
  split at h<;>try (cases h;done)
  split at h<;>try (cases h;done)
  rename_i e d
  cases h
  simp [wF d]
section
variable {R:List aH}
def dN.ah9{L:dN R}{d:e_}{w:List J}(h:L.out d=some w)(j: ∀b,d= .ret b-> ∃xs,dZ R xs=some b): ∃g,se (sg R L.ex L.rt L.es) w=some g/\dL.hf _ g=w:=by
 unfold dN.out at h;unfold sg
 cases d<;>simp only at h<;>try (cases h;done)
 .rename_i id s
  split at h<;>try (cases h;done)
  rename_i a e
  split at h<;>try (cases h;done)
  rename_i i k
  cases c:L.rt<;>rw[c]at h<;>cases h
  .simp only;exact CS e
  .simp only;exact CS (xs:= .bool false::(getAll s (L.es.map (·.1))++q7 R)) (by
    have:=WR e (RH R);simp only[dZ,aH.nrm,aH.rd,af.Yd,aH.av,this])
 .rename_i b;obtain⟨xs,f⟩:=j b rfl
  cases c:L.rt<;>rw[c]at h<;>simp only at h<;>try (cases h;done)
  split at h
  .cases h
   simp only;exact CS (xs:= .bool true::(q7 (L.es.map (·.2))++xs)) (by
    have:=WR (RH (L.es.map (·.2))) f;simp only[dZ,aH.nrm,aH.rd,af.Yd,aH.av,this])
  .cases h
   simp only;exact CS f
end
structure Ab (X:cj) (R:cT) (W:(Exit->O->Prop)->O->Prop) (st:O) (r:i_):Prop where
 wp:W (jT X R r.t.bL) st
 f: ∀p,r.f=some p->p
 ret: ∀cI,r.t.bL= .ret cI-> ∃xs,dZ R.cg xs=some cI
 live:r.t.bL≠ .dead
abbrev pF(X:cj)(R:cT)(c:Code)(st:O)(r:i_):Prop:=Ab X R (WP X.env c) st r
set_option maxHeartbeats 1000000
def afn(b:Bool)(l:List J):afm (.bool b::l)=b:=rfl
def WP.ahk{X:cj}{R:cT}{x:Code}{st:O}(L:dN R.cg)(n:O)(t:dL (L.bE.map (·.2)))(m:dL (L.bE.map (·.2))->i_)(K:L.ends=true)
  (jh: ∀s,(m s).o.holds->pF X R x (L.dQ (L.c1 n) s) (m s))
  (hle:cz X.m st (L.dQ (L.c1 n) t)) (U:L.I t) (eI: ∀s,hV X.m (L.dQ (L.c1 n) s)=true) (lO: ∀cx,hV X.m (L.jI (L.c1 n) (dL.hf (L.es.map (·.2)) cx))=true)
  (V: ∀s,L.I s->(m s).o.holds/\(rQ (m s).f ((m s).t.zt (L.zc (L.c1 n) s))).holds/\ ∀k:Nat,L.G (k+1) s=L.Oq (m s).t k/\(L.Ot (m s).t k).holds)
  (fu:aW):pF X R (.loop x) st ⟨fu,L.fact (L.G (L.lg t+1) t),L.res (L.c1 n) (L.G (L.lg t+1) t)⟩:=by
 have S: ∀s,L.I s->pF X R x (L.dQ (L.c1 n) s) (m s):=λs d=>jh s (V s d).1;have Z: ∀s,L.I s->(L.zc (L.c1 n) s (m s).t.bL).holds:=λs d=>by
  obtain⟨g,B,_⟩:=V s d;have o:=(jh s g).f;unfold rQ at B
  cases e:(m s).f with
  |none=>rw[e]at B;exact T.HR B
  |some p=>rw[e]at B;exact T.HR (B (o p e))
 have Vv: ∀s,L.I s-> ∀k b,L.CJ k (m s).t.bL=some b->L.G (k+1) s=b:=λs d k b avx=>by
  obtain⟨_,_,o⟩:=V s d;obtain⟨N,z⟩:=o k;rw[N];obtain⟨aG7,ki,hC⟩:=T.nf avx;unfold dN.Oq;unfold dN.Ot at z;rw[ki]at z |-;simp only at z |-;rw[T.Eh z,hC]
 have afF: ∀s,L.I s-> ∀f,(m s).t.bL= .nrm f-> ∃b,L.HO f=some b/\(kg f (L.dQ (L.c1 n) b)).holds/\L.I b/\L.lg b<L.lg s/\ ∀k,L.G (k+1) s=L.G k b:=λs d f c=>by
  have g:=Z s d;rw[c]at g;simp only[dN.zc]at g
  split at g
  .rename_i b JG;exact⟨b,JG,g.1,g.2.1,g.2.2,λk=>Vv s d k _ (by rw[c];simp only[dN.CJ,JG])⟩
  .exact g.elim
 have Y: ∀s,L.I s-> ∀id f,(m s).t.bL= .ext id f->L.ex=some id/\ ∃a w b,qq L.es f=some a/\L.out (.ext id f)=some w/\se _ w=some b/\dL.hf _ b=w/\(kg f (L.jI (L.c1 n) a)).holds/\(L.XW w).holds/\ ∀k,L.G (k+1) s=b:=λs d id f c=>by
  have g:=Z s d;rw[c]at g;simp only[dN.zc]at g
  split at g<;>try exact g.elim
  rename_i M
  split at g<;>try exact g.elim
  rename_i a H
  split at g<;>try exact g.elim
  rename_i w l;obtain⟨b,C,D⟩:=dN.ah9 l (λj e=>by cases e);refine⟨?_,a,w,b,H,l,C,D,g.1,g.2,λk=>Vv s d k b (by rw[c];simp only[dN.CJ,l,C])⟩;unfold aje at M
  split at M
  .rename_i i e;rw[e,eg M]
  .cases M
 have Vu: ∀s,L.I s-> ∀j,(m s).t.bL= .ret j->L.rt=true/\ ∃w b,L.out (.ret j)=some w/\se _ w=some b/\dL.hf _ b=w/\ ∀k,L.G (k+1) s=b:=λs d j c=>by
  have g:=Z s d;rw[c]at g;simp only[dN.zc]at g
  split at g<;>try exact g.elim
  rename_i w l;obtain⟨b,C,D⟩:=dN.ah9 l (λaEA e=>by cases e;exact(S s d).ret _ c);refine⟨?_,w,b,l,C,D,λk=>Vv s d k b (by rw[c];simp only[dN.CJ,l,C])⟩
  cases r:L.rt with
  |true=>rfl
  |false=>
   simp only[dN.out]at l
   split at l
   .rename_i AH;rw[r]at AH;cases AH
   .cases l
 have aft: ∀(q:dL (sg R.cg L.ex L.rt L.es)->Prop),(∀s,L.I s-> ∀b,(∀id f,(m s).t.bL= .ext id f->L.G 1 s=b->q b)/\(∀j,(m s).t.bL= .ret j->L.G 1 s=b->q b))-> ∀(k:Nat) s,L.I s->L.lg s<=k->q (L.G (k+1) s):=λq jk k=>by
  induction k using Nat.strongRecOn with
  |_ k om=>
   intro s d jZ
   cases c:(m s).t.bL with
   |nrm f=>
    obtain⟨b,_,_,o,N,z⟩:=afF s d f c;obtain⟨A,rfl⟩: ∃A,k=A+1:=⟨k-1,Ω⟩;rw[z];exact om A Ω b o Ω
   |ext id f=>
    obtain⟨_,a,w,b,_,_,_,_,_,_,u⟩:=Y s d id f c;rw[u];exact(jk s d b).1 id f c (u 0)
   |ret j=>
    obtain⟨_,w,b,_,_,_,u⟩:=Vu s d j c;rw[u];exact(jk s d b).2 j c (u 0)
   |dead=>exact absurd c (S s d).live
 have afL: ∀s,L.I s-> ∀id f,(m s).t.bL= .ext id f-> ∀k,∃a,(kg f (L.jI (L.c1 n) a)).holds/\hV X.m (L.jI (L.c1 n) a)=true/\(L.res (L.c1 n) (L.G (k+1) s)).bL= .ext id (L.jI (L.c1 n) a):=λs d id f c k=>by
  obtain⟨W,a,w,b,H,l,C,D,z,_,u⟩:=Y s d id f c;obtain⟨cx,v1,v2⟩:=azj H;have afJ:=lO cx;rw[v2]at afJ;refine⟨a,z,afJ,?_⟩;rw[u k];simp only[dN.out,H,W]at l;simp only[dN.res,D]
  split
  .rename_i i v;rw[W]at v
   cases v
   split
   .rename_i r
    split at l
    .cases l
     simp only[afn,T.bL];have Q:=wF H;simp only[List.length_map]at Q;simp only[List.drop_one,List.tail_cons,<-Q,List.take_left']
    .rename_i I;rw[r]at I;cases I
   .rename_i r
    split at l
    .rename_i I;rw[r]at I;cases I
    .cases l
     rfl
  .rename_i v;rw[W]at v
   cases v
 have afN: ∀s,L.I s-> ∀j,(m s).t.bL= .ret j-> ∀k,(L.res (L.c1 n) (L.G (k+1) s)).bL= .ret j:=λs d j c k=>by
  obtain⟨Vx,w,b,l,C,D,u⟩:=Vu s d j c;rw[u k];simp only[dN.out,Vx]at l;simp only[dN.res,D]
  split
  .rename_i i v
   split at l
   .cases l
    split
    .simp only[afn,T.bL];have Q:(q7 (L.es.map (·.2))).length=L.es.length:=by simp [q7]
     rw[Nat.add_comm,List.drop_succ_cons,<-Q,List.drop_left]
    .rename_i r;rw[Vx]at r;cases r
   .rename_i e;rw[v]at e;cases e
  .rename_i v
   split at l
   .rename_i e;rw[v]at e;cases e
   .cases l
    split
    .rfl
    .rename_i r;rw[Vx]at r;cases r
 refine⟨?_,?_,?_,?_⟩
 .refine WP.le hle (WP.loop (α:=dL (L.bE.map (·.2))×Nat) (λp=>L.dQ (L.c1 n) p.1) (λp=>L.I p.1/\L.lg p.1<=p.2/\L.G (p.2+1) p.1=L.G (L.lg t+1) t) (λp=>L.lg p.1) (t,L.lg t) ⟨U,bN _,rfl⟩ (cz.refl _) λp auY=> ?_);obtain⟨s,k⟩:=p;obtain⟨J,jZ,P⟩:=auY;simp only at J jZ P;refine(S s J).wp.mono λe s1 y=> ?_
  cases e<;>simp only[jT]at y<;>try exact y.elim
  .
   split at y<;>try exact y.elim
   rename_i f c;obtain⟨b,g,B,o,N,z⟩:=afF s J f c;obtain⟨A,rfl⟩: ∃A,k=A+1:=⟨k-1,Ω⟩;have E:L.lg b<=A:=by omega
   have u:L.G (A+1) b=L.G (L.lg t+1) t:=(z (A+1)).symm.trans P;exact⟨(b,A),⟨o,E,u⟩,N,y.trans (oK B (eI b))⟩
  .
   split at y<;>try exact y.elim
   rename_i aGK f c;obtain⟨rfl,auH⟩:=y;obtain⟨a,g,B,o⟩:=afL s J _ f c k;rw[P]at o;show jT X R (L.res (L.c1 n) _).bL (.exit _) s1;rw[o];exact⟨rfl,auH.trans (oK g B)⟩
  .
   split at y<;>try exact y.elim
   rename_i j c;have o:=afN s J j c k;rw[P]at o;show jT X R (L.res (L.c1 n) _).bL .ret s1;rw[o];exact y
 .
  intro p G;simp only[dN.fact]at G
  split at G<;>try (cases G;done)
  rename_i q JJ
  split at G<;>try (cases G;done)
  rename_i r
  cases G
  refine aft q (λs d b=>⟨λid f c F=> ?_,λj c _=> ?_⟩) _ t U (bN _)
  .obtain⟨_,a,w,aHe,_,_,C,_,_,E,u⟩:=Y s d id f c;rw[u 0]at F;subst F;unfold dN.XW at E;rw[JJ]at E;simp only[C]at E;exact E
  .have:=(Vu s d j c).1;rw[r]at this;cases this
 .refine aft (λb=> ∀j,(L.res (L.c1 n) b).bL= .ret j-> ∃xs,dZ R.cg xs=some j) (λs d b=>⟨λid f c F j dh=> ?_,λj c F aEA dh=> ?_⟩) _ t U (bN _)
  .obtain⟨a,_,_,o⟩:=afL s d id f c 0;rw[F,dh]at o
   cases o
  .have o:=afN s d j c 0;rw[F,dh]at o
   cases o
   exact(S s d).ret _ c
 .simp only[dN.res]
  split
  .split
   .intro h;simp only[T.bL]at h
    split at h<;>cases h
   .intro h;cases h
  .split
   .intro h;cases h
   .rename_i v _ r;unfold dN.ends at K;rw[v]at K;simp only at K;rw[r]at K;cases K
def HW{X:cj}{ops:Array Oper} : ∀(l:List Oper) (i:Nat) (st:O) (rs:List Rec) (o:aW) (t:T qZ),qw X ops l i st rs=some (o,t)->o.holds->t.bL≠none
 |[],i,st,rs,o,t,h,a=>by cases h;intro h;cases h
 |p::l,i,st,rs,o,t,h,a=>by
  simp only[qw,G7]at h
  split at h<;>try (cases h;done)
  split at h
  .exact HW l _ _ _ o t h a
  .split at h
   .cases h;exact a.elim
   split at h<;>try (cases h;done)
   split at h
   .rename_i b f
    split at h<;>try (cases h;done)
    rename_i q1 c
    split at h<;>try (cases h;done)
    rename_i d e
    cases h
    cases b
    .exact HW l _ _ _ d.1 d.2 e (a.2.2 rfl)
    .exact HW l _ _ _ q1.1 q1.2 c (a.2.1 rfl)
   .split at h<;>try (cases h;done)
    rename_i q c
    cases h
    exact HW l _ _ _ q.1 q.2 c a.2
def HU{X:cj}{ops:Array Oper} : ∀(l:List Oper) (i:Nat) (st:O) (rs:List Rec) (o:aW) (t:T qZ),uu X ops l i st rs=some (o,t)->o.holds->t.bL≠none
 |[],i,st,rs,o,t,h,a=>by cases h;intro h;cases h
 |p::l,i,st,rs,o,t,h,a=>by
  simp only[uu,G7]at h
  split at h<;>try (cases h;done)
  split at h
  .exact HU l _ _ _ o t h a
  .split at h
   .cases h;exact a.elim
   split at h<;>try (cases h;done)
   split at h
   .rename_i b f
    split at h<;>try (cases h;done)
    rename_i q1 c
    split at h<;>try (cases h;done)
    rename_i d e
    cases h
    cases b
    .exact HU l _ _ _ d.1 d.2 e (a.2.2 rfl)
    .exact HU l _ _ _ q1.1 q1.2 c (a.2.1 rfl)
   .split at h<;>try (cases h;done)
    rename_i q c
    cases h
    exact HU l _ _ _ q.1 q.2 c a.2
def aiM{X:cj}{ops:Array Oper}{b:Bool}{st:O}(a:(j2 X ops b st).o.holds): ∃s,(j2 X ops b st).t.bL= .nrm s:=by
 unfold j2 at a |-
 split at a
 .exact a.elim
 .rename_i q e;obtain⟨o,t⟩:=q;simp only[e];have c:o.holds-> ∃s,(t.map Nv).bL= .nrm s:=λa=>by
   rw[T.lT]
   cases h:t.bL with
   |none=>exact absurd h (HW _ _ _ _ o t e a)
   |some q=>exact⟨q.1,rfl⟩
  cases b with
  |false=>exact c a
  |true=>
   simp only at a |-
   split at a
   .rename_i d;simp only[d];exact c a
   .exact a.elim
def Ol{X:cj}{R:cT}(e:X.env.dE){id:Nat}{ops:Array Oper}{b:Bool}{st:O}(c:(j2 X ops b st).o.holds):pF X R (.region id ops b) st (j2 X ops b st):=by
 obtain⟨s,d⟩:=aiM c;refine⟨aiN e c λf h=> ?_,λp a=> ?_,λg h=> ?_,λh=> ?_⟩
 .rw[h];exact cz.refl _
 .unfold j2 at a
  split at a
  .cases a
  .split at a
   .cases a
   .split at a<;>cases a
 .rw[d]at h;cases h
 .rw[d]at h;cases h
def aCS{X:cj}{R:cT}(f:X.env.dE){id:Nat}{ops:Array Oper}{L:List (Nat×Nat)}{st:O}(a:(uB X ops L st).o.holds):pF X R (.region id ops true) st (uB X ops L st):=by
 have g: ∃s,(uB X ops L st).t.bL= .nrm s:=by
  unfold uB at a |-
  split at a
  .exact a.elim
  .rename_i q e;obtain⟨o,t⟩:=q;simp only[e]at a |-
   split at a
   .rename_i d;simp only[d];rw[T.lT]
    cases h:t.bL with
    |none=>exact absurd h (HU _ _ _ _ o t e a.1)
    |some q=>exact⟨q.1,rfl⟩
   .exact a.elim
 obtain⟨s,c⟩:=g;refine⟨aCR f a λi h=> ?_,λp b=> ?_,λj h=> ?_,λh=> ?_⟩
 .rw[h];exact cz.refl _
 .unfold uB at b
  split at b
  .cases b
  .split at b<;>cases b
 .rw[c]at h;cases h
 .rw[c]at h;cases h
def afZ{id:Nat}{a:e_} :(∀b,Hd id a= .ret b->a= .ret b)/\(Hd id a= .dead->a= .dead):=by
 cases a<;>simp only[Hd]
 .exact⟨λ_ h=>(by cases h),λh=>(by cases h)⟩
 .split<;>exact⟨λ_ h=>(by cases h),λh=>(by cases h)⟩
 .exact⟨λ_ h=>h,λh=>(by cases h)⟩
 .exact⟨λ_ h=>(by cases h),λh=>h⟩
def aak{a b:Option Prop}(c: ∀p,a=some p->p)(d: ∀p,b=some p->p): ∀p,Je a b=some p->p:=by
 intro p h;unfold Je at h
 split at h
 .exact d p h
 .split at h
  .cases h;exact c _ rfl
  .cases h;exact⟨c _ rfl,d _ rfl⟩
def Mj{a:Option Prop}{o:aW}(h:(rQ a o).holds)(b: ∀p,a=some p->p):o.holds:=by
 unfold rQ at h
 split at h
 .exact h
 .exact h (b _ rfl)
def OD{X:cj}{R:cT}{W:(Exit->O->Prop)->O->Prop}{x:Code}{st:O}{r:i_}(h:pF X R x st r)(b:tX r.t.bL=false):WP X.env x (ic (W (jT X R r.t.bL)) (jT X R r.t.bL)) st:=
 h.wp.mono λe s a=>by
  cases e<;>simp only[ic]<;>try exact a
  simp only[jT]at a
  split at a
  .rename_i d c;rw[c]at b;cases b
  .exact a.elim
def Yy{X:cj}{R:cT}{W:(Exit->O->Prop)->O->Prop}(d: ∀{Q st c},cz X.m st c->W Q c->W Q st){x:Code}{st s b:O}{r:i_}{Q:Exit->O->Prop}(h:pF X R x st r)(g:r.t.bL= .nrm s)(f:cz X.m s b)(i:W Q b):WP X.env x (ic (W Q) Q) st:=
 h.wp.mono λe j a=>by
  rw[g]at a
  cases e<;>simp only[jT,ic]at a |- <;>try exact a.elim
  exact d (a.trans f) i
def ajl{X:cj}{R:cT}{W:(Exit->O->Prop)->O->Prop}{x:Code}{f g:cw R.cg->O->i_}(C: ∀{Q st J},cz X.m st J->W Q J->W Q st)(u: ∀h st,(f h st).o.holds->pF X R x st (f h st))(B: ∀h st,(g h st).o.holds->Ab X R W st (g h st))
  (h:cw R.cg) (st:O) (c:(Ir X.m f g h st).o.holds):Ab X R (λQ st=>WP X.env x (ic (W Q) Q) st) st (Ir X.m f g h st):=by
 unfold Ir at c |-
 split at c
 .rename_i z S
  split at c<;>try exact c.elim
  rename_i K F
  split at c<;>try exact c.elim
  rename_i q G
  split at c
  .rename_i r;have a:=u z.l st c.1;have k:=Mj c.2 a.f;have e:=B z.r q.2 k.2;have D:=Wy (o:=q.1) (jI:=q.2) G k.1;have H:Hg (f z.l st).t.bL=none:=by
    cases h:Hg (f z.l st).t.bL with
    |none=>rfl
    |some v=>obtain⟨t',b,_⟩:=T.nf h;rw[r]at b;cases b
   obtain⟨s,I⟩: ∃s,(f z.l st).t.bL= .nrm s:=by
    cases h:(f z.l st).t.bL with
    |nrm s=>exact⟨s,rfl⟩
    |dead=>exact absurd h a.live
    |_=>rw[h]at H;cases H
   have E:K.bL=s:=by
    obtain⟨t',b,d⟩:=T.nf (f:=HL) (t:=(f z.l st).t) (x:=s) (by rw[I];rfl);rw[F]at b;cases b;exact d
   exact⟨Yy C a I (E▸D) e.wp,aak a.f e.f,e.ret,e.live⟩
  .rename_i j r
   split at c<;>try exact c.elim
   rename_i ga y;have a:=u z.l st c.1;have k:=Mj c.2 a.f;have D:=Wy (o:=q.1) (jI:=q.2) G k.1;have A:ga.kf z.J.pm=ga.bL:=T.Eh (k.2.1 ());have P:=k.2.2
   cases h:(f z.l st).t.bL with
   |nrm s=>
    have E:K.bL=s:=by
     obtain⟨t',b,d⟩:=T.nf (f:=HL) (t:=(f z.l st).t) (x:=s) (by rw[h];rfl);rw[F]at b;cases b;exact d
    have n:ga.kf z.J.pm=true:=by
     obtain⟨t',b,d⟩:=T.nf (f:=M5) (t:=(f z.l st).t) (x:=true) (by rw[h];rfl);rw[y]at b;cases b;exact A.trans d
    have e:=B z.r q.2 (P n);rw[n];exact⟨Yy C a h (E▸D) e.wp,a.f,e.ret,e.live⟩
   |dead=>exact absurd h a.live
   |ext id s=>
    have n:ga.kf z.J.pm=false:=by
     obtain⟨t',b,d⟩:=T.nf (f:=M5) (t:=(f z.l st).t) (x:=false) (by rw[h];rfl);rw[y]at b;cases b;exact A.trans d
    have l:j.bL=(f z.l st).t.bL:=by
     obtain⟨t',b,d⟩:=T.nf (f:=Hg) (t:=(f z.l st).t) (x:= .ext id s) (by rw[h];rfl);rw[r]at b;cases b;rw[d,h]
    rw[n];refine⟨?_,a.f,?_,?_⟩
    .show WP _ x (ic (W (jT X R j.bL)) (jT X R j.bL)) _;rw[l];exact OD a (by rw[h];rfl)
    .show∀p,j.bL= .ret p->_;rw[l];exact a.ret
    .show j.bL≠ .dead;rw[l];exact a.live
   |ret p=>
    have n:ga.kf z.J.pm=false:=by
     obtain⟨t',b,d⟩:=T.nf (f:=M5) (t:=(f z.l st).t) (x:=false) (by rw[h];rfl);rw[y]at b;cases b;exact A.trans d
    have l:j.bL=(f z.l st).t.bL:=by
     obtain⟨t',b,d⟩:=T.nf (f:=Hg) (t:=(f z.l st).t) (x:= .ret p) (by rw[h];rfl);rw[r]at b;cases b;rw[d,h]
    rw[n];refine⟨?_,a.f,?_,?_⟩
    .show WP _ x (ic (W (jT X R j.bL)) (jT X R j.bL)) _;rw[l];exact OD a (by rw[h];rfl)
    .show∀p,j.bL= .ret p->_;rw[l];exact a.ret
    .show j.bL≠ .dead;rw[l];exact a.live
 .rename_i U V
  split at c
  .rename_i m;have a:=u _ st c;exact⟨OD a (by
    cases h:(f h.l st).t.bL with
    |nrm s=>have:=T.rU h;rw[T.Ef m]at this;cases this
    |_=>rfl),a.f,a.ret,a.live⟩
  .rename_i m
   split at c<;>try exact c.elim
   rename_i s M;have a:=u _ st c.1;have k:=Mj c.2 a.f
   cases i:(f h.l st).t.bL with
   |nrm Z=>
    have N:=T.Xm m i M;subst N;have e:=B _ _ (T.Y7 m i k);refine⟨?_,?_,?_,?_⟩
    .simp only[T.Iw i];exact Yy C a i (cz.refl _) e.wp
    .split
     .exact aak a.f e.f
     .exact a.f
    .simp only[T.Iw i];exact e.ret
    .simp only[T.Iw i];exact e.live
   |dead=>exact absurd i a.live
   |_=>
    have w:tX (f h.l st).t.bL=false:=by rw[i];rfl
    refine⟨?_,?_,?_,?_⟩
    .simp only[T.Iv w];exact OD a w
    .split
     .rename_i Y L;exfalso;rw[L]at m i;simp only[T.bL]at i;subst i
      cases m
     .exact a.f
    .simp only[T.Iv w];exact a.ret
    .simp only[T.Iv w];exact a.live
  .exact c.elim
def aeP{X:cj}{R:cT}{W:(Exit->O->Prop)->O->Prop}{g:cw R.cg->O->i_}(e: ∀{Q st d},cz X.m st d->W Q d->W Q st)(c: ∀h st,(g h st).o.holds->Ab X R W st (g h st)): ∀h st,(GG X.m g h st).o.holds->Ab X R W st (GG X.m g h st):=by
 intro h st a;unfold GG at a |-
 split at a
 .split at a<;>try exact a.elim
  rename_i f;have b:=c _ _ a.2;exact⟨e (oK a.1 f) b.wp,b.f,b.ret,b.live⟩
 .exact c _ _ a
def WP.aiU{E:Env}{x:Code}{Q:Exit->O->Prop}{st a:O}(h:cz E.m st a): ∀n,WP.zF E x Q n a->WP.zF E x Q n st
 |0,k=>k
 |_+1,k=>WP.le h k
def ajY{X:cj}{R:cT}{x:Code}{f:cw R.cg->O->i_}(d: ∀h st,(f h st).o.holds->pF X R x st (f h st)): ∀(n:Nat) (h:cw R.cg) (st:O),(ID X.m f n h st).o.holds->Ab X R (λQ st=>WP.zF X.env x Q (n+1) st) st (ID X.m f n h st)
 |0,h,st,a=>by
  unfold ID at a |-
  split at a
  .exact a.elim
  .rename_i g;have b:=d h st a;refine⟨b.wp.mono λe s c=> ?_,b.f,b.ret,b.live⟩
   cases e<;>simp only[ic]<;>try exact c
   simp only[jT]at c
   split at c
   .rename_i j i;rw[T.rU i]at g;cases g
   .exact c
 |n+1,h,st,a=>ajl (W:=λQ st=>WP.zF X.env x Q (n+1) st) (λh k=>WP.aiU h _ k) d (aeP (W:=λQ st=>WP.zF X.env x Q (n+1) st) (λh k=>WP.aiU h _ k) (ajY d n)) h st a
def Eo{X:cj}{R:cT}(E:X.env.dE): ∀(c:Code) (h:cw R.cg) (st:O),(exec X R c h st).o.holds->pF X R c st (exec X R c h st):=by
 intro c
 induction c with
 |skip=>
  intro h st d;simp only[exec]at d |-
  split at d
  .split at d<;>try exact d.elim
   rename_i p r;exact⟨WP.skip (xh (o:=p.1) (s':=p.2) r d),λp m=>(by cases m),λu h=>(by cases h),λh=>(by cases h)⟩
  .exact⟨WP.skip (cz.refl _),λp m=>(by cases m),λu h=>(by cases h),λh=>(by cases h)⟩
 |label l=>
  intro h st d;exact⟨WP.label (cz.refl _),λp m=>(by cases m),λu h=>(by cases h),λh=>(by cases h)⟩
 |exit id=>
  intro h st d;simp only[exec]at d |-
  split at d
  .split at d<;>try exact d.elim
   rename_i p r;exact⟨WP.exit ⟨rfl,xh (o:=p.1) (s':=p.2) r d⟩,λp m=>(by cases m),λu h=>(by cases h),λh=>(by cases h)⟩
  .exact⟨WP.exit ⟨rfl,cz.refl _⟩,λp m=>(by cases m),λu h=>(by cases h),λh=>(by cases h)⟩
 |ret=>
  intro h st d;simp only[exec]at d |-
  split at d
  .split at d<;>try exact d.elim
   rename_i p r
   split at d<;>try exact d.elim
   rename_i q e;obtain⟨D,A⟩:=Ym (o:=q.1) (cI:=q.2) e d.2;exact⟨WP.le (xh (o:=p.1) (s':=p.2) r d.1) (WP.ret D),λp m=>(by cases m),λu h=>(by cases h;exact A),λh=>(by cases h)⟩
  .split at d<;>try exact d.elim
   rename_i q e;obtain⟨D,A⟩:=Ym (o:=q.1) (cI:=q.2) e d;exact⟨WP.ret D,λp m=>(by cases m),λu h=>(by cases h;exact A),λh=>(by cases h)⟩
 |region id ops draw=>
  intro h st d;simp only[exec]at d |-
  split at d
  .split at d<;>try exact d.elim
   rename_i p r
   split at d<;>try exact d.elim
   rename_i b' N1 mO
   split at d<;>try exact d.elim
   rename_i N
   split at d<;>try exact d.elim
   rename_i bk;simp only[b4]at N bk;obtain⟨⟨⟨jc,jg⟩,fG⟩,lL⟩:=bk;have H:=eg N.1;have MI:=eg N.2;subst H MI;have g:=Ol (R:=R) (id:=id) E d.2;refine⟨WP.le (cw.aCn (o:=p.1) (s':=p.2) r d.1) (WP.aqO _ _ _ ?_ rfl jc jg g.wp fG),λp m=>(by cases m),g.ret,g.live⟩;have ji:_<p.2.D.length:=g8 lL;rw[cM ji];simp only[List.getD,cM ji,lY]at mO;rw[mO]
  .rename_i l
   split at d<;>try exact d.elim
   rename_i p r;have g:=Ol (R:=R) (id:=id) E d.2;refine⟨WP.le (Js (mx:=p.1) (kD:=p.2) r d.1) g.wp,λp m=>(by cases m),g.ret,g.live⟩
  .split at d<;>try exact d.elim
   rename_i p r;have g:=Ol (R:=R) (id:=id) E d.2;refine⟨WP.le (xh (o:=p.1) (s':=p.2) r d.1) g.wp,λp m=>(by cases m),g.ret,g.live⟩
  .split at d<;>try exact d.elim
   exact aCS E d
  .split at d<;>try exact d.elim
   rename_i p r;refine⟨(aBy (o:=p.1) (s':=p.2) E r d id).mono λe s i=> ?_,λp m=>(by cases m),λu h=>(by cases h),λh=>(by cases h)⟩;obtain⟨rfl,rfl⟩:=i;exact cz.refl _
  .split at d
   .rename_i cx abN
    split at d<;>try exact d.elim
    rename_i qE JG
    split at d<;>try exact d.elim
    rename_i q eq;obtain⟨s,i⟩:=aiM d.1;have hm:=Wy (o:=q.1) (jI:=q.2) eq d.2;have VE:qE.bL=s:=by
     obtain⟨t',A,G⟩:=T.nf (f:=HL) (t:=(j2 X ops draw st).t) (x:=s) (by rw[i];rfl);rw[JG]at A;cases A;exact G
    refine⟨aiN E d.1 λs' h=> ?_,λp m=>(by cases m),λu h=>(by cases h),λh=>(by cases h)⟩;rw[i]at h
    cases h
    exact VE▸hm
   .exact Ol E d
 |block id x F=>
  intro h st d;simp only[exec]at d |-;have g:=F h st d;refine⟨WP.block (g.wp.mono λe s i=> ?_),g.f,λu dh=> ?_,λdQ=> ?_⟩
  .simp only[T.lT];generalize (exec X R x h st).t.bL=Z at i
   cases e with
   |normal=>
    simp only[jT]at i
    cases Z<;>simp only at i<;>first|exact i.elim|exact i
   |exit j=>
    simp only[jT]at i
    cases Z<;>simp only at i<;>try exact i.elim
    obtain⟨rfl,i⟩:=i;simp only[D5,Hd]
    cases Q:Nat.beq j id with
    |true=>rw[a5 (eg Q)];exact i
    |false=>
     rw[aS (by intro e;rw[e,oC]at Q;cases Q)];exact⟨rfl,i⟩
   |ret=>
    simp only[jT]at i
    cases Z<;>simp only at i<;>first|exact i.elim|exact i
   |_=>exact i.elim
  .rw[T.lT]at dh;exact g.ret u (afZ.1 u dh)
  .rw[T.lT]at dQ;exact g.live (afZ.2 dQ)
 |cond c x y J K=>
  intro h st d;simp only[exec]at d |-
  split at d
  .rename_i b C
   cases b with
   |true=>
    have g:=J _ _ d;refine⟨λS W ι a w i=> ?_,g.f,g.ret,g.live⟩;have I:=i.eval c;rw[C]at I;refine wp_cond I.lit ?_;exact g.wp S W ι a w i
   |false=>
    have g:=K _ _ d;refine⟨λS W ι a w i=> ?_,g.f,g.ret,g.live⟩;have I:=i.eval c;rw[C]at I;refine wp_cond I.lit ?_;exact g.wp S W ι a w i
  .rename_i b C
   split at d
   .rename_i b' z
    cases b' with
    |true=>
     have g:=J _ _ d.2;have H:b=true:=d.1;exact⟨WP.cond C (λ_=>g.wp) (λh=>by rw[H]at h;cases h),g.f,g.ret,g.live⟩
    |false=>
     have g:=K _ _ d.2;have H:b=false:=d.1;exact⟨WP.cond C (λh=>by rw[H]at h;cases h) (λ_=>g.wp),g.f,g.ret,g.live⟩
   .cases b with
    |true=>
     have g:=J _ _ (d.1 rfl);exact⟨WP.cond C (λ_=>g.wp) (λh=>by cases h),λp m=>(by cases m),g.ret,g.live⟩
    |false=>
     have g:=K _ _ (d.2 rfl);exact⟨WP.cond C (λh=>by cases h) (λ_=>g.wp),λp m=>(by cases m),g.ret,g.live⟩
  .exact d.elim
 |seq x y J K=>
  intro h st d;simp only[exec]at d |-;have g:=ajl (W:=WP X.env y) (λh k=>WP.le h k) J (aeP (λh k=>WP.le h k) K) h st d;exact⟨WP.seq g.wp,g.f,g.ret,g.live⟩
 |loop x F=>
  intro h st d;simp only[exec]at d |-
  split at d
  .rename_i z
   split at d
   .exact d.elim
   .rename_i abz;have g:=F z st d;refine⟨WP.azI (g.wp.mono λe s i=> ?_),g.f,g.ret,g.live⟩
    cases e<;>simp only[ic]<;>try exact i
    simp only[jT]at i
    split at i
    .rename_i s' el;rw[T.rU el]at abz;cases abz
    .exact i
  .rename_i n z;have g:=ajY F n z st d;exact⟨WP.rounds _ g.wp,g.f,g.ret,g.live⟩
  .rename_i L z
   split at d
   .exact d.elim
   rename_i p P
   split at d
   .exact d.elim
   rename_i Y
   split at d
   .exact d.elim
   rename_i M es;obtain⟨U,D,A,G,V,B⟩:=d;have m: ∀s,hV X.m (L.dQ (L.c1 p.2) s)=true:=λs=>congrFun G s;have g:=WP.ahk (X:=X) (R:=R) (st:=p.2) L p.2 M (λs=>exec X R x z (L.dQ (L.c1 p.2) s)) Y (λs d=>F z _ d) (oK D (m M)) A m (λv=>congrFun V v)
    (λs i=>⟨(B s i).1,(B s i).2.1,λk=>⟨((B s i).2.2 k).1,((B s i).2.2 k).2⟩⟩) .di
   exact⟨WP.le (Js (mx:=p.1) (kD:=p.2) P U) g.wp,g.f,g.ret,g.live⟩
  .rename_i L z
   split at d
   .exact d.elim
   rename_i p P
   split at d
   .exact d.elim
   rename_i Y
   split at d
   .exact d.elim
   rename_i M es;obtain⟨U,D,A,G,V,B⟩:=d;have m: ∀s,hV X.m (L.dQ (L.c1 p.2) s)=true:=λs=>congrFun G s;have g:=WP.ahk (X:=X) (R:=R) (st:=p.2) L p.2 M (λs=>exec X R x (z s) (L.dQ (L.c1 p.2) s)) Y (λs d=>F (z s) _ d) (oK D (m M)) A m (λv=>congrFun V v)
    (λs i=>⟨(B s i).1,(B s i).2.1,λk=>⟨((B s i).2.2 k).1,((B s i).2.2 k).2⟩⟩) .di
   exact⟨WP.le (Js (mx:=p.1) (kD:=p.2) P U) g.wp,g.f,g.ret,g.live⟩
  .exact d.elim
 |_=>exact λh st d=>d.elim
end
end Go.af
