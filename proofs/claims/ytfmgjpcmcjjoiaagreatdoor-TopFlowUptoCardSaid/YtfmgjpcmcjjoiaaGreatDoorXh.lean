/- Part of a proof: walks of the program. -/
import Derived.Test.YtfmgjpcmcjjoiaaGreatDoorXg
open Go.IntKind (i64 u64 u8)
open Int (toNat)
set_option maxRecDepth 100000
set_option maxHeartbeats 4000000
set_option linter.all false
noncomputable section
namespace Go.Vc
open Go Go.RowKit
section
variable {S:dF} {ι:Nat→Option Nat} {st:St} {a:Act} {w:World}
theorem Le.qQ{m:Nat}{ys zs:List AV}{H:Heap}{o:Ob}(h:tf H ys=some (o,zs))(ho:o.holds):Le m ⟨ys,H⟩ ⟨zs,bm H (eI H ys)⟩:=by
 intro S _ ι a w hs;obtain⟨h1,fQ⟩:=hs.freeze (H':=bm H (eI H ys)) (wK ys) (rS _ _);have hlen: ∃vs:List Value,aT (VR S ι (bm H (eI H ys)) w) ys vs∧ ∀(t:Nat) v,vs[t]? =some v→a.tmps[t]? =some v:=by
  have key: ∀(l:List AV) (k:Nat),(∀(t:Nat) av,l[t]? =some av→ ∃v,a.tmps[k+t]? =some v∧VR S ι (bm H (eI H ys)) w av v)→ ∃vs:List Value,aT (VR S ι (bm H (eI H ys)) w) l vs∧ ∀(t:Nat) v,vs[t]? =some v→a.tmps[k+t]? =some v:=by
   intro l
   induction l with
   |nil=>exact fun k _=>⟨[],trivial,fun t v h=>by simp at h⟩
   |cons x l ih=>
    intro k hk;obtain⟨v,g1,g2⟩:=hk 0 x rfl;obtain⟨vs,g3,g4⟩:=ih (k+1) fun t av ht=>by
     obtain⟨v,q1,q2⟩:=hk (t+1) av (by simpa using ht);exact⟨v,by rw[show k+1+t=k+(t+1) by omega];exact q1,q2⟩
    refine⟨v::vs,⟨g2,g3⟩,fun t u ht=> ?_⟩
    cases t with
    |zero=>simp at ht;subst ht;exact g1
    |succ t=>rw[show k+(t+1)=k+1+t by omega];exact g4 t u (by simpa using ht)
  obtain⟨vs,g1,g2⟩:=key ys 0 fun t av ht=>by
   obtain⟨v,q1,q2⟩:=hs.tm t av ht;exact⟨v,by simpa using q1,q2.step fQ⟩
  exact⟨vs,g1,fun t v ht=>by simpa using g2 t v ht⟩
 obtain⟨vs,g1,g2⟩:=hlen;obtain⟨zs',e,g3⟩:=SU (H:=H) h1 ys vs (fun l=>l=zs) (fun b hb ro sz n f he=>I7 hb he) g1 (S5 (K:=fun l=>l=zs) h ho rfl);subst e;refine⟨ι,h1.below,h1.defers,fun t av ht=> ?_,h1.hp,h1.inj,h1.fresh,h1.gH,h1.gK⟩;obtain⟨v,q1,q2⟩:=g3.get t av ht;exact⟨v,g2 t v q1,dZ.Ai (gm.OH q2)⟩
end
def xb(s:St)(k:Key)(E:El):Option (Ob×St):=
 match yV s k with
 | .aE=>match k with
   | .t i=>some (.tt,⟨s.tm.set i (.own s.hp.length 0),bl s.hp s.hp.length 0 (.ah false E.sz 0 fun i=>E.e ((@al E.T E.wy).at' i))⟩)
   | .h b o=>gd (Nat.blt b s.hp.length) (some (.tt,⟨s.tm,bl (bl s.hp s.hp.length 0 (.ah false E.sz 0 fun i=>E.e ((@al E.T E.wy).at' i))) b o (.own s.hp.length 0)⟩))
   |_=>none
 | .own b' n=>match k with
   | .h b o=>match aj s.hp b' 0 with
     | .ah _ sz n' f=>gd (!(Nat.beq b' b)) (some (.e n n',⟨s.tm,bl (bm s.hp (eI s.hp [.own b' n])) b o (.arr sz n' f)⟩))
     |_=>none
   | .t i=>match aj s.hp b' 0 with
     | .ah _ sz n' f=>some (.e n n',⟨s.tm.set i (.arr sz n' f),bm s.hp (eI s.hp [.own b' n])⟩)
     |_=>none
   |_=>none
 |_=>none
def AZ:St→List (Key×El)→Option (Ob×St)
 |s,[]=>some (.tt,s)
 |s,q::r=>match xb s q.1 q.2 with
  |some p=>match AZ p.2 r with
   |some p'=>some (.and p.1 p'.1,p'.2)
   |none=>none
  |none=>none
theorem Le.ayv{m:Nat}{st:St}(i sz:Nat)(f:Nat→List AV)(hi:st.tm[i]? =some .aE):Le m st ⟨st.tm.set i (.own st.hp.length 0),bl st.hp st.hp.length 0 (.ah false sz 0 f)⟩:=fun S _ ι a w hs=>by
 obtain⟨h1,h2,h3⟩:=hs.Oz (b:=st.hp.length) (fun o=>ub (aCK _) o) (hs.OA (aCK _)) sz f;refine⟨_,h1.below,h1.defers,fun t av ht=> ?_,h1.hp,h1.inj,h1.fresh,h1.gH,h1.gK⟩;rw[aDK]at ht
 by_cases e:i=t
 ·subst e;rw[aCL rfl]at ht
  split at ht
  ·cases ht
   obtain⟨v,g1,g2⟩:=hs.tm i .aE hi;refine⟨v,g1,?_⟩;have hv:v= .slice none 0 0:=aiq (ι:=ι) (H:=st.hp) (F:=FZ S ι st.hp w) (w:=w) g2;subst hv;exact h3 (FZ S ι (bl st.hp st.hp.length 0 (.ah false sz 0 f)) w)
  ·cases ht
 ·rw[aCM e]at ht;exact h1.tm t av ht
theorem Le.ayu{m:Nat}{st:St}(b o sz:Nat)(f:Nat→List AV)(hi:aj st.hp b o= .aE)(hb:Nat.blt b st.hp.length=true):Le m st ⟨st.tm,bl (bl st.hp st.hp.length 0 (.ah false sz 0 f)) b o (.own st.hp.length 0)⟩:=fun S _ ι a w hs=>by
 obtain⟨h1,h2,h3⟩:=hs.Oz (b:=st.hp.length) (fun o=>ub (aCK _) o) (hs.OA (aCK _)) sz f;have db:b≠st.hp.length:=by
  have:=aC1 hb;omega
 have hg:aj (bl st.hp st.hp.length 0 (.ah false sz 0 f)) b o= .aE:=by rw[e_,aCM (fun e=>db e.1)];exact hi
 refine⟨_,h1.ajb (by rw[hg];simp) (by rw[hg];rfl) (by simp) rfl fun v hv=> ?_⟩;rw[hg]at hv;rw[aiq hv];exact h3 _
theorem Le.apF{m:Nat}{st:St}(b o b' n:Nat){ro:Bool}{sz n':Nat}{f:Nat→List AV}(hi:aj st.hp b o= .own b' n)(eA:aj st.hp b' 0= .ah ro sz n' f)(db:b'≠b)(hn:n=n'):Le m st ⟨st.tm,bl (bm st.hp (eI st.hp [.own b' n])) b o (.arr sz n' f)⟩:=fun S _ ι a w hs=>by
 obtain⟨h1,fQ⟩:=hs.freeze (H':=bm st.hp (eI st.hp [.own b' n])) (wK _) (rS _ _);have hg:aj (bm st.hp (eI st.hp [.own b' n])) b o= .own b' n:=by
  rcases wK (H:=st.hp) [.own b' n] b o with g|⟨rfl,O2,Po,n2,f2,g1,g2⟩
  ·rw[g];exact hi
  ·rw[hi]at g1;cases g1
 have zK:aj (bm st.hp (eI st.hp [.own b' n])) b' 0= .ah true sz n' f:=I7 (by simp [sd,pj]) eA;refine⟨_,h1.ajb (by rw[hg];simp) (by rw[hg];rfl) (by simp) rfl fun v hv=> ?_⟩;rw[hg]at hv;exact OL h1 zK hn hv
theorem Le.xw{m:Nat}{st:St}(i b' n:Nat){ro:Bool}{sz n':Nat}{f:Nat→List AV}(hi:st.tm[i]? =some (.own b' n))(eA:aj st.hp b' 0= .ah ro sz n' f)(hn:n=n'):Le m st ⟨st.tm.set i (.arr sz n' f),bm st.hp (eI st.hp [.own b' n])⟩:=fun S _ ι a w hs=>by
 obtain⟨h1,fQ⟩:=hs.freeze (H':=bm st.hp (eI st.hp [.own b' n])) (wK _) (rS _ _);have zK:aj (bm st.hp (eI st.hp [.own b' n])) b' 0= .ah true sz n' f:=I7 (by simp [sd,pj]) eA;refine⟨ι,h1.below,h1.defers,fun t av ht=> ?_,h1.hp,h1.inj,h1.fresh,h1.gH,h1.gK⟩;rw[aDK]at ht
 by_cases e:i=t
 ·subst e;rw[aCL rfl]at ht
  split at ht
  ·cases ht
   obtain⟨v,g1,g2⟩:=h1.tm i (.own b' n) hi;exact⟨v,g1,OL h1 zK hn g2⟩
  ·cases ht
 ·rw[aCM e]at ht;exact h1.tm t av ht
theorem R_{m:Nat}{st aX:St}{k:Key}{El:El}{ob:Ob}(h:xb st k El=some (ob,aX))(ho:ob.holds):Le m st aX:=by
 unfold xb at h
 split at h<;>try (cases h;done)
 ·rename_i e
  cases k<;>simp only at h<;>try (cases h;done)
  ·cases h
   rename_i i;refine Le.ayv i El.sz _ ?_;simp only[yV,List.getD]at e
   cases e2:st.tm[i]? with
   |none=>rw[e2]at e;cases e
   |some v=>rw[e2]at e;exact congrArg some e
  ·rw[cY]at h;obtain⟨h1,h⟩:=h
   cases h
   exact Le.ayu _ _ El.sz _ e h1
 ·rename_i b' n e
  cases k<;>simp only at h<;>try (cases h;done)
  ·split at h<;>try (cases h;done)
   rename_i i _ ro sz n' f eb
   cases h
   refine Le.xw _ _ _ ?_ eb ho;simp only[yV,List.getD]at e
   cases e2:st.tm[i]? with
   |none=>rw[e2]at e;cases e
   |some v=>rw[e2]at e;exact congrArg some e
  split at h<;>try (cases h;done)
  rename_i ro sz n' f eb;rw[cY]at h;obtain⟨h1,h⟩:=h
  cases h
  refine Le.apF _ _ _ _ e eb (fun e'=> ?_) ho;rw[e',aDp]at h1;cases h1
theorem JJ{m:Nat} : ∀{ks:List (Key×El)} {st aX:St} {ob:Ob},AZ st ks=some (ob,aX)→ob.holds→Le m st aX
 |[],st,aX,ob,h,_=>by cases h;exact Le.refl _
 |q::r,st,aX,ob,h,ho=>by
  simp only[AZ]at h
  split at h<;>try (cases h;done)
  rename_i p e
  split at h<;>try (cases h;done)
  rename_i p' e'
  cases h
  exact(R_ (ob:=p.1) (aX:=p.2) e ho.1).trans (JJ (ob:=p'.1) (aX:=p'.2) e' ho.2)
def OB(b:Nat):AV→Bool
 | .ptr c _=> !(Nat.beq c b)
 |_=>true
def i_(b b2:Nat):AV→AV
 | .ptr c o=>match Nat.beq c b2 with
   |true=> .undef
   |false=> .ptr c o
 | .fn f bp=>match bp.all (OB b2)with
   |true=> .fn f bp
   |false=> .undef
 | .own c k=>match Nat.beq c b with
   |true=> .own b2 k
   |false=>match Nat.beq c b2 with
    |true=> .undef
    |false=> .own c k
 | .fF c k i o=>match Nat.beq c b with
   |true=> .fF b2 k i o
   |false=>match Nat.beq c b2 with
    |true=> .undef
    |false=> .fF c k i o
 |x=>x
theorem axX{b b2:Nat}{c:AV}(h:i_ b b2 c= .gone):c= .gone:=by
 cases c<;>simp only[i_]at h<;>first|rfl|(cases h;done)|(split at h<;>first|(cases h;done)|(split at h<;>cases h))
def IF(b b2:Nat):AV→AV
 | .agg cs=> .agg (cs.map (i_ b b2))
 |x=>i_ b b2 x
def mvA(b b2:Nat):AV→AV
 | .cU vs=> .cU (vs.map (IF b b2))
 |x=>IF b b2 x
def ab7(H:Heap)(b:Nat):Bool:=
 match H.getD b []with
 |[]=>true
 |x::r=>match x with
  | .ah ro sz _ _=>ro&&(Nat.beq sz 0&&r.isEmpty)
  |_=>false
def A4(b m:Nat):List AV:=
 match Nat.blt b m with
 |true=>[dh]
 |false=>[]
def mvH(H:Heap)(m b b2:Nat)(x:AV):Heap:=setAt [] (setAt [] (H.map fun l=>l.map (i_ b b2)) b (A4 b m)) b2 [x]
def IG(m:Nat)(s:St)(b b2:Nat):Option St:=
 match s.hp.getD b []with
 |x::r=>match x with
  | .ah ro sz n f=>gd (Nat.ble m b2&&(!(Nat.beq b b2)&&(ab7 s.hp b2&&(r.isEmpty&& !(Nat.beq sz 0))))) (some ⟨s.tm.map (mvA b b2),mvH s.hp m b b2 (.ah ro sz n f)⟩)
  |_=>none
 |[]=>none
def wH(m:Nat):St→List (Key×Nat)→Option St
 |s,[]=>some s
 |s,q::r=>match yV s q.1 with
  | .own b _=>match Nat.beq b q.2 with
    |true=>wH m s r
    |false=>match IG m s b q.2 with
     |some s'=>wH m s' r
     |none=>none
  |_=>none
theorem Ou{b b2:Nat}{c:AV} :bW (i_ b b2 c)=bW c:=by
 cases c<;>first|rfl|skip
 all_goals
  simp only[i_]
  split<;>first|rfl|(split<;>rfl)
theorem atb{H:Heap}{g:AV→AV}(hg:g .undef= .undef)(b o:Nat):aj (H.map fun l=>l.map g) b o=g (aj H b o):=by
 unfold aj;have e:(H.map fun l=>l.map g).getD b []=(H.getD b []).map g:=by
  rw[List.getD,List.getD,aC4]
  cases H[b]? <;>rfl
 rw[e];generalize H.getD b []=l;rw[List.getD,List.getD,aC4]
 cases l[o]? with
 |none=>exact hg.symm
 |some x=>rfl
theorem Le.mv{m:Nat}{s s':St}{b b2:Nat}(h:IG m s b b2=some s'):Le m s s':=by
 unfold IG at h
 split at h<;>try (cases h;done)
 rename_i x r eb
 split at h<;>try (cases h;done)
 rename_i ro sz n f;rw[cY]at h;obtain⟨hc,h⟩:=h
 cases h
 simp only[aCN,aC_]at hc;obtain⟨hm,db,ua,hr,dw⟩:=hc;have hm:m≤b2:=aC1 hm;have db:b≠b2:=fun e=>by rw[e,aDp]at db;cases db
 have hr:r=[]:=by cases r with
  |nil=>rfl
  |cons=>cases hr
 subst hr;intro S hS ι a w hs;have fG:aj s.hp b 0= .ah ro sz n f:=by unfold aj;rw[eb];rfl
 have hbo: ∀o,o≠0→aj s.hp b o= .undef:=fun o ho=>by
  unfold aj;rw[eb]
  cases o with
  |zero=>exact absurd rfl ho
  |succ o=>rfl
 have hf2: ∀o,aj s.hp b2 o= .undef∨(o=0∧ ∃n2 f2,aj s.hp b2 0= .ah true 0 n2 f2):=fun o=>by
  unfold ab7 at ua;unfold aj
  split at ua
  ·rename_i e;rw[e];exact .inl rfl
  ·rename_i y q e
   split at ua<;>try (cases ua;done)
   rename_i O2 Po n2 f2;simp only[aCN]at ua;obtain⟨g1,g2,g3⟩:=ua;have g2:=aCS g2;subst g1 g2;rw[e]
   cases o with
   |zero=>exact .inr ⟨rfl,n2,f2,rfl⟩
   |succ o=>
    cases q with
    |nil=>exact .inl rfl
    |cons=>cases g3
 let aA:Nat→Option Nat:=fun c=>if c=b2 then ι b else if c=b then none else ι c
 have hnB:n≤dg:=by
  have hl:=hs.hp b 0;rw[fG]at hl;rcases hl.2 with hd|hd
  ·rw[hd.2.1]at dw;cases dw
  ·exact hd.1
 let H':Heap:=mvH s.hp m b b2 (.ah ro sz n f);have jk:aA b2=ι b:=aCL rfl;have tW:aA b=none:=by simp [aA,db]
 have jT: ∀c,c≠b→c≠b2→aA c=ι c:=fun c h1 h2=>by simp only[aA];rw[aCM h2,aCM h1]
 have MU: ∀o,aj H' b2 o=if o=0 then .ah ro sz n f else .undef:=fun o=>by
  show aj (setAt [] _ b2 _) b2 o=_;rw[At,aCL rfl]
  cases o<;>rfl
 have yX: ∀o,aj H' b o=(A4 b m).getD o .undef:=fun o=>by
  show aj (setAt [] _ b2 _) b o=_;rw[At,aCM db,At,aCL rfl]
 have ni: ∀c o,c≠b→c≠b2→aj H' c o=i_ b b2 (aj s.hp c o):=fun c o h1 h2=>by
  show aj (setAt [] _ b2 _) c o=_;rw[At,aCM h2,At,aCM h1,atb rfl]
 have as0: ∀o,aj H' b o= .undef∨(o=0∧b<m∧aj H' b 0=dh):=fun o=>by
  have e0:=yX 0;have e1:=yX o;unfold A4 at e0 e1
  cases VF:Nat.blt b m with
  |false=>rw[VF]at e1;rw[e1];exact .inl rfl
  |true=>
   rw[VF]at e0 e1
   cases o with
   |zero=>exact .inr ⟨rfl,aC1 VF,e0⟩
   |succ o=>rw[e1];exact .inl rfl
 have fZ: ∀c,c≠b→c≠b2→bW (aj H' c 0)=bW (aj s.hp c 0):=fun c h1 h2=>by rw[ni c 0 h1 h2,Ou]
 have ag0: ∀c,pw (i_ b b2 c)=true→pw c=true:=fun c=>by
  cases c<;>first|exact id|(intro _;rfl)
 have hF: ∀y,FZ S ι s.hp w y→FZ S aA H' w y:=fun y ⟨h1,h2,h3⟩=>⟨h1,h2,fun c hl hx=>by
  by_cases e2:c=b2
  ·subst e2;rw[jk]at hx;refine h3 b ?_ hx;have e0:aj H' c 0= .ah ro sz n f:=by rw[MU];rfl
   rcases hl with⟨_,g⟩|⟨g,_⟩
   ·rw[e0]at g;exact .inl ⟨by rw[fG];rfl,by rw[fG];exact g⟩
   ·rw[e0]at g;cases g
  ·by_cases e1:c=b
   ·subst e1;rw[tW]at hx;cases hx
   ·rw[jT c e1 e2]at hx;refine h3 c ?_ hx;rcases hl with⟨g1,g2⟩|⟨g1,o,g2⟩
    ·rw[ni c 0 e1 e2]at g1 g2;rw[Ou]at g1;exact .inl ⟨g1,ag0 _ g2⟩
    ·rw[ni c 0 e1 e2,Ou]at g1;rw[ni c o e1 e2]at g2;exact .inr ⟨g1,o,ag0 _ g2⟩⟩
 have MT: ∀{av:AV} {v:Value},aR w (FZ S ι s.hp w) av v→aR w (FZ S aA H' w) av v:=fun h=>h.mono hF fun _ _ _=>rfl;have hS2: ∀{c:AV} {v:Value},OB b2 c=true→jx ι s.hp w (FZ S ι s.hp w) c v→jx aA H' w (FZ S aA H' w) c v:=fun {c v} hn h=>by
  cases c<;>simp only[jx]at h ⊢ <;>first|exact MT h|skip
  rename_i c o;obtain⟨h1,x,h2,h3⟩:=h;have n2:c≠b2:=fun e=>by rw[e]at hn;simp only[OB,aDp]at hn;cases hn
  have n1:c≠b:=fun e=>by rw[e,fG]at h1;cases h1
  exact⟨by rw[fZ c n1 n2];exact h1,x,by rw[jT c n1 n2];exact h2,h3⟩
 have hC: ∀{c:AV} {v:Value},bV ι s.hp w (FZ S ι s.hp w) c v→bV aA H' w (FZ S aA H' w) (i_ b b2 c) v:=fun {c v} h=>by
  have h1:=h.one
  cases c<;>first|exact MT h|exact h1|exact h.elim|skip
  ·rename_i c k;simp only[i_];obtain⟨k0,iq,fe,n',f',k1,k2,k3⟩:=h
   cases e1:Nat.beq c b with
   |true=>
    have e1:=aCS e1;subst e1;rw[fG]at k1;cases k1;exact⟨k0,ro,sz,n,f,by rw[MU];rfl,k2,fun e=>by rw[jk];exact k3 e⟩
   |false=>
    cases e2:Nat.beq c b2 with
    |true=>exact k0
    |false=>
     have n1:c≠b:=fun e=>by rw[e,aDp]at e1;cases e1
     have n2:c≠b2:=fun e=>by rw[e,aDp]at e2;cases e2
     exact⟨k0,iq,fe,n',f',by rw[ni c 0 n1 n2,k1];rfl,k2,fun e=>by rw[jT c n1 n2];exact k3 e⟩
  ·rename_i c o;simp only[i_];obtain⟨k1,x,k2,k3⟩:=h
   cases e2:Nat.beq c b2 with
   |true=>exact h1
   |false=>
    have n2:c≠b2:=fun e=>by rw[e,aDp]at e2;cases e2
    have n1:c≠b:=fun e=>by rw[e,fG]at k1;cases k1
    exact⟨by rw[fZ c n1 n2];exact k1,x,by rw[jT c n1 n2];exact k2,k3⟩
  ·rename_i c k i o;simp only[i_];obtain⟨k0,iq,fe,n',f',k1,k2,k3⟩:=h
   cases e1:Nat.beq c b with
   |true=>
    have e1:=aCS e1;subst e1;rw[fG]at k1;cases k1;exact⟨k0,ro,sz,n,f,by rw[MU];rfl,k2,fun e=>by rw[jk];exact k3 e⟩
   |false=>
    cases e2:Nat.beq c b2 with
    |true=>exact k0
    |false=>
     have n1:c≠b:=fun e=>by rw[e,aDp]at e1;cases e1
     have n2:c≠b2:=fun e=>by rw[e,aDp]at e2;cases e2
     exact⟨k0,iq,fe,n',f',by rw[ni c 0 n1 n2,k1];rfl,k2,fun e=>by rw[jT c n1 n2];exact k3 e⟩
  ·rename_i g bp;simp only[i_]
   cases e2:bp.all (OB b2)with
   |false=>exact h1
   |true=>
    obtain⟨vs,k1,k2⟩:=h;refine⟨vs,k1,aT.mk k2.length fun i p q hp hq=> ?_⟩;obtain⟨q',g1,g2⟩:=k2.get i p hp;rw[hq]at g1;cases g1;exact hS2 (aCR.1 e2 p (aCV hp)) g2
 have eZ: ∀{cs:List AV} {vs:List Value},aT (bV ι s.hp w (FZ S ι s.hp w)) cs vs→aT (bV aA H' w (FZ S aA H' w)) (cs.map (i_ b b2)) vs:=by
  intro cs
  induction cs with
  |nil=>intro vs h;cases vs with
   |nil=>trivial
   |cons=>exact h.elim
  |cons c cs ih=>intro vs h;cases vs with
   |nil=>exact h.elim
   |cons v vs=>exact⟨hC h.1,ih h.2⟩
 have hB: ∀{c:AV} {v:Value},gm ι s.hp w (FZ S ι s.hp w) c v→gm aA H' w (FZ S aA H' w) (IF b b2 c) v:=fun {c v} h=>by
  by_cases VB: ∃cs,c= .agg cs
  ·obtain⟨cs,rfl⟩:=VB;obtain⟨vs,h1,h2⟩:=h;exact⟨vs,h1,eZ h2⟩
  ·have e1:IF b b2 c=i_ b b2 c:=by cases c<;>first|rfl|exact absurd ⟨_,rfl⟩ VB
   have h1:bV ι s.hp w (FZ S ι s.hp w) c v:=by cases c<;>first|exact h|exact absurd ⟨_,rfl⟩ VB|exact(show False from h).elim
   rw[e1];have h2:=hC h1;have h0:i_ b b2 c≠ .gone:=fun e=>by
    rw[axX e]at h;exact h
   generalize i_ b b2 c=c' at h2 h0
   cases c'<;>first|exact h2|exact h2.elim|exact absurd rfl h0
 refine⟨aA,hs.below,hs.defers,fun t av ht=> ?_,fun c o=> ?_,fun b1 b3 x h1 h3=> ?_,fun c x hx=> ?_,fun c x hx=> ?_,?_⟩
 ·simp only[aC4,aDo]at ht;obtain⟨jA,g0,rfl⟩:=ht;obtain⟨v,g1,g2⟩:=hs.tm t jA g0;refine⟨v,g1,?_⟩
  by_cases Wv: ∃vs,jA= .cU vs
  ·obtain⟨aa,rfl⟩:=Wv;obtain⟨vs,k1,k2⟩:=g2;refine⟨vs,k1,?_⟩;clear k1 g0;revert vs
   induction aa with
   |nil=>intro vs h;cases vs with
    |nil=>trivial
    |cons=>exact h.elim
   |cons c cs ih=>intro vs h;cases vs with
    |nil=>exact h.elim
    |cons v vs=>exact⟨hB h.1,ih vs h.2⟩
  ·by_cases hu:jA= .undef∨jA= .gone
   ·rcases hu with rfl|rfl
    ·trivial
    ·exact g2
   ·have e1:mvA b b2 jA=IF b b2 jA:=by cases jA<;>first|rfl|exact absurd ⟨_,rfl⟩ Wv
    have h1:gm ι s.hp w (FZ S ι s.hp w) jA v:=by
     cases jA<;>first|exact g2|exact absurd ⟨_,rfl⟩ Wv|exact absurd (.inl rfl) hu|exact absurd (.inr rfl) hu
    rw[e1];exact dZ.Ai (hB h1)
 ·show fc aA H' w (FZ S aA H' w) c o (aj H' c o)
  by_cases e2:c=b2
  ·subst e2;rw[MU]
   by_cases eo:o=0
   ·subst eo;rw[aCL rfl];have hl:=hs.hp b 0;rw[fG]at hl;obtain⟨_,hl⟩:=hl;refine⟨rfl,hl.imp (fun g=>⟨g.1,g.2.1,by rw[jk];exact g.2.2⟩) fun g=>⟨g.1,?_⟩⟩;rw[jk];exact g.2.imp id fun⟨x,C,T,k1,k2,k3⟩=>⟨x,C,T,k1,k2,fun i j hi hj=>by
     obtain⟨av,v,m1,m2,m3⟩:=k3 i j hi hj;exact⟨av,v,m1,m2,MT m3⟩⟩
   ·rw[aCM eo];trivial
  ·by_cases e1:c=b
   ·subst e1;rcases as0 o with g|⟨rfl,_,g⟩
    ·rw[g];trivial
    ·rw[g];exact⟨rfl,.inl ⟨rfl,rfl,tW⟩⟩
   ·have hl:=hs.hp c o;rw[ni c o e1 e2]
    by_cases jl:bW (aj s.hp c o)=true
    ·cases e:aj s.hp c o<;>rw[e]at jl hl<;>first|(cases jl;done)|skip
     simp only[i_];obtain⟨h0,hl⟩:=hl;refine⟨h0,hl.imp (fun g=>⟨g.1,g.2.1,by rw[jT c e1 e2];exact g.2.2⟩) fun g=>⟨g.1,?_⟩⟩;rw[jT c e1 e2];exact g.2.imp id fun⟨x,C,T,k1,k2,k3⟩=>⟨x,C,T,k1,k2,fun i j hi hj=>by
      obtain⟨av,v,m1,m2,m3⟩:=k3 i j hi hj;exact⟨av,v,m1,m2,MT m3⟩⟩
    ·by_cases hu:aj s.hp c o= .undef
     ·rw[hu];trivial
     ·have V6:bW (aj s.hp c o)=false:=by simpa using jl
      obtain⟨k0,x,v,k1,k2,k3,k4⟩:bW (aj s.hp c 0)=false∧ ∃x v,ι c=some x∧w.cell? ⟨x,o,none⟩=some v∧w.frozen? ⟨x,o,none⟩=false∧bV ι s.hp w (FZ S ι s.hp w) (aj s.hp c o) v:=by
       cases e:aj s.hp c o<;>rw[e]at hl hu V6<;>first|exact absurd rfl hu|(cases V6;done)|exact hl
      have k5:=hC k4;have k6:bW (aj H' c 0)=false:=by rw[fZ c e1 e2];exact k0
      have k7:aA c=some x:=by rw[jT c e1 e2];exact k1
      have k8:bW (i_ b b2 (aj s.hp c o))=false:=by rw[Ou];exact V6
      generalize i_ b b2 (aj s.hp c o)=c' at k5 k8
      cases c'<;>first|trivial|(cases k8;done)|exact⟨k6,x,v,k7,k2,k3,k5⟩
 ·have key: ∀c x,aA c=some x→ ∃c',ι c'=some x∧((c=b2∧c'=b)∨(c≠b2∧c≠b∧c'=c)):=fun c x hx=>by
   by_cases e2:c=b2
   ·subst e2;rw[jk]at hx;exact⟨b,hx,.inl ⟨rfl,rfl⟩⟩
   ·by_cases e1:c=b
    ·subst e1;rw[tW]at hx;cases hx
    ·rw[jT c e1 e2]at hx;exact⟨c,hx,.inr ⟨e2,e1,rfl⟩⟩
  obtain⟨c1,g1,q1⟩:=key b1 x h1;obtain⟨c3,g3,q3⟩:=key b3 x h3;have e:=hs.inj c1 c3 x g1 g3;rcases q1 with⟨rfl,rfl⟩|⟨a1,a2,rfl⟩<;>rcases q3 with⟨rfl,rfl⟩|⟨a3,a4,rfl⟩
  ·rfl
  ·exact absurd e.symm a4
  ·exact absurd e a2
  ·exact e
 ·by_cases e2:c=b2
  ·subst e2;rw[jk]at hx;exact hs.fresh b x hx
  ·by_cases e1:c=b
   ·subst e1;rw[tW]at hx;cases hx
   ·rw[jT c e1 e2]at hx;exact hs.fresh c x hx
 ·show c<H'.length;have agM:=(mJ ([]:List AV) [AV.ah ro sz n f] (setAt [] (s.hp.map fun l=>l.map (i_ b b2)) b (A4 b m)) b2);have HH:=(mJ ([]:List AV) (A4 b m) (s.hp.map fun l=>l.map (i_ b b2)) b)
  by_cases e2:c=b2
  ·rw[e2];exact agM.2
  ·by_cases e1:c=b
   ·subst e1;rw[tW]at hx;cases hx
   ·rw[jT c e1 e2]at hx;have:=hs.gH c x hx;refine aC0 ?_ (aCX HH.1 agM.1);simpa using this
 ·have hh:=hs.gK;have cI: ∀c,aj S.H0 c 0≠ .undef→c<m:=fun c hc=>by
   rcases aCY c S.H0.length with g|g
   ·omega
   ·exact absurd (ub g 0) hc
  refine⟨fun x hx=>hF x (hh.fz x hx),fun x o hx=>hh.cell x o hx,fun c x hx hk=> ?_,fun c I6 mM n0 f0 hk=> ?_⟩
  ·obtain⟨g1,g2⟩:=hh.box c x hx hk;have pW:c<m:=aC0 (S.qO c x hx) hS;have n2:c≠b2:=by omega
   have n1:c≠b:=fun e=>by rw[e,fG]at g2;cases g2
   exact⟨by rw[jT c n1 n2];exact g1,by rw[fZ c n1 n2];exact g2⟩
  ·obtain⟨iq,fe,n',f',g1,g2,g3⟩:=hh.arr c I6 mM n0 f0 hk;have pW:c<m:=cI c (by rw[hk];simp);have n2:c≠b2:=by omega
   by_cases n1:c=b
   ·subst n1;rw[fG]at g1;cases g1;refine⟨true,0,dg+1,fun _=>[],?_,by omega,fun e=>by omega⟩;rw[yX 0];unfold A4;rw[show Nat.blt c m=true from by simpa[aC9]using pW];rfl
   ·exact⟨iq,fe,n',f',by rw[ni c 0 n1 n2,g1];rfl,g2,fun e=>by rw[jT c n1 n2];exact g3 e⟩
theorem Ov{m:Nat} : ∀{l:List (Key×Nat)} {s s':St},wH m s l=some s'→Le m s s'
 |[],s,s',h=>by cases h;exact Le.refl _
 |q::r,s,s',h=>by
  simp only[wH]at h
  split at h<;>try (cases h;done)
  split at h
  ·exact Ov h
  ·split at h<;>try (cases h;done)
   rename_i s1 e1;exact(Le.mv e1).trans (Ov h)
def IA(s:St)(b:Nat):Option St:=
 match s.hp.getD b []with
 |x::r=>match x with
  | .ah ro sz n f=>match ro&&Nat.beq sz 0 with
    |true=>some s
    |false=>gd (r.isEmpty&& !(Nat.beq sz 0)) (some ⟨s.tm,bl s.hp b 0 dh⟩)
  |_=>none
 |[]=>none
theorem Le.kill{m:Nat}{s s':St}{b:Nat}(h:IA s b=some s'):Le m s s':=by
 unfold IA at h
 split at h<;>try (cases h;done)
 rename_i x r eb
 split at h<;>try (cases h;done)
 rename_i ro sz n f
 split at h
 ·cases h;exact Le.refl _
 rw[cY]at h;obtain⟨hc,h⟩:=h
 cases h
 simp only[aCN,aC_]at hc;obtain⟨hr,dw⟩:=hc;intro S hS ι a w hs;have fG:aj s.hp b 0= .ah ro sz n f:=by unfold aj;rw[eb];rfl
 have hbo: ∀o,o≠0→aj s.hp b o= .undef:=fun o ho=>by
  unfold aj;rw[eb]
  cases o with
  |zero=>exact absurd rfl ho
  |succ o=>
   cases r with
   |nil=>rfl
   |cons=>cases hr
 have hnB:n≤dg:=by
  have hl:=hs.hp b 0;rw[fG]at hl;rcases hl.2 with hd|hd
  ·rw[hd.2.1]at dw;cases dw
  ·exact hd.1
 let aA:Nat→Option Nat:=fun c=>if c=b then none else ι c
 let H':Heap:=bl s.hp b 0 dh;have tW:aA b=none:=aCL rfl;have jT: ∀c,c≠b→aA c=ι c:=fun c h=>aCM h;have yX:aj H' b 0=dh:=by show aj (bl _ _ _ _) b 0=_;rw[e_,aCL ⟨rfl,rfl⟩]
 have ni: ∀c o,(c≠b∨o≠0)→aj H' c o=aj s.hp c o:=fun c o h=>by
  show aj (bl _ _ _ _) c o=_;rw[e_,aCM (fun e=>h.elim (fun g=>g e.1) fun g=>g e.2)]
 have hF: ∀y,FZ S ι s.hp w y→FZ S aA H' w y:=fun y ⟨h1,h2,h3⟩=>⟨h1,h2,fun c hl hx=>by
  by_cases e:c=b
  ·subst e;rw[tW]at hx;cases hx
  ·rw[jT c e]at hx;exact h3 c (oG (fun o=>ni c o (.inl e)) hl) hx⟩
 have fQ:dV ι s.hp w (FZ S ι s.hp w) aA H' w (FZ S aA H' w):=by
  refine⟨hF,fun _ _ _=>rfl,fun c x hx hk=> ?_,fun c I6 mM n0 f0 hk=> ?_⟩
  ·have e:c≠b:=fun e=>by rw[e,fG]at hk;cases hk
   exact⟨by rw[jT c e];exact hx,by rw[ni c 0 (.inl e)];exact hk⟩
  ·by_cases e:c=b
   ·subst e;rw[fG]at hk;cases hk;exact⟨true,0,dg+1,fun _=>[],yX,by omega,fun e=>by omega⟩
   ·exact⟨I6,mM,n0,f0,by rw[ni c 0 (.inl e)];exact hk,aCK _,fun _=>⟨rfl,jT c e,fun x C T _ hC=>⟨C,hC,rfl⟩⟩⟩
 have iE: ∀c x,aA c=some x→c≠b∧ι c=some x:=fun c x hx=>by
  by_cases e:c=b
  ·subst e;rw[tW]at hx;cases hx
  ·exact⟨e,by rw[←jT c e];exact hx⟩
 refine⟨aA,hs.below,hs.defers,fun t av ht=> ?_,fun c o=> ?_,fun b1 b3 x h1 h3=>hs.inj b1 b3 x (iE _ _ h1).2 (iE _ _ h3).2,fun c x hx=>hs.fresh c x (iE _ _ hx).2,fun c x hx=>aC0 (hs.gH c x (iE _ _ hx).2) (wE s.hp b 0 dh).1,hs.gK.trans fQ⟩
 ·obtain⟨v,g1,g2⟩:=hs.tm t av ht;exact⟨v,g1,g2.step fQ⟩
 ·show fc aA H' w (FZ S aA H' w) c o (aj H' c o)
  by_cases e:c=b
  ·subst e
   by_cases eo:o=0
   ·subst eo;rw[yX];exact⟨rfl,.inl ⟨rfl,rfl,tW⟩⟩
   ·rw[ni c o (.inr eo),hbo o eo];trivial
  ·rw[ni c o (.inl e)];exact(hs.hp c o).step fQ (fun _=>jT c e) (fun _ _ _=>⟨rfl,rfl⟩) (fun _=>⟨jT c e,fun _ _=>rfl⟩)
inductive lS where
 |lY (k:Key) (E:El)
 |own (k:Key) (E:El) (b:Nat)
 |kill (b:Nat)
def E7(m:Nat)(s:St)(c:lS):Option (Ob×St):=
 match c with
 | .lY k E=>match yV s k with
   | .own .. =>xb s k E
   |_=>some (.tt,s)
 | .own k E b=>match yV s k with
   | .aE=>match xb s k E with
     |some p=>match wH m p.2 [(k,b)]with
      |some s'=>some (p.1,s')
      |none=>none
     |none=>none
   |_=>match wH m s [(k,b)]with
    |some s'=>some (.tt,s')
    |none=>none
 | .kill b=>match IA s b with
   |some s'=>some (.tt,s')
   |none=>none
def pE(m:Nat):St→List lS→Option (Ob×St)
 |s,[]=>some (.tt,s)
 |s,c::r=>match E7 m s c with
  |some p=>match pE m p.2 r with
   |some p'=>some (.and p.1 p'.1,p'.2)
   |none=>none
  |none=>none
theorem aoC{m:Nat}{s s':St}{c:lS}{o:Ob}(h:E7 m s c=some (o,s'))(ho:o.holds):Le m s s':=by
 unfold E7 at h
 split at h
 ·split at h
  ·exact R_ h ho
  ·cases h;exact Le.refl _
 ·split at h
  ·split at h<;>try (cases h;done)
   rename_i p ep
   split at h<;>try (cases h;done)
   rename_i s1 e1
   cases h
   exact(R_ (ob:=p.1) (aX:=p.2) ep ho).trans (Ov e1)
  ·split at h<;>try (cases h;done)
   rename_i s1 e1
   cases h
   exact Ov e1
 ·split at h<;>try (cases h;done)
  rename_i s1 e1
  cases h
  exact Le.kill e1
theorem awi{s s':St}{b:Nat}(h:IA s b=some s'):s'.tm.length=s.tm.length:=by
 unfold IA at h
 split at h<;>try (cases h;done)
 split at h<;>try (cases h;done)
 split at h
 ·cases h;rfl
 ·rw[cY]at h
  cases h.2;rfl
theorem JO{m:Nat} : ∀{l:List lS} {s s':St} {o:Ob},pE m s l=some (o,s')→o.holds→Le m s s'
 |[],s,s',o,h,_=>by cases h;exact Le.refl _
 |c::r,s,s',o,h,ho=>by
  simp only[pE]at h
  split at h<;>try (cases h;done)
  rename_i p e
  split at h<;>try (cases h;done)
  rename_i p' e'
  cases h
  exact(aoC (o:=p.1) (s':=p.2) e ho.1).trans (JO (o:=p'.1) (s':=p'.2) e' ho.2)
def pC(m:Nat)(s:St)(dr:List Key)(l:List lS):Option (Ob×St):=
 match dr with
 |[]=>pE m s l
 |k::r=>match im m (xn s (k::r))with
  |true=>match pE m (xn s (k::r)) l with
   |some p=>some (.and (kN s (xn s (k::r))) p.1,p.2)
   |none=>none
  |false=>none
theorem xc{m:Nat}{s s':St}{dr:List Key}{l:List lS}{o:Ob}(h:pC m s dr l=some (o,s'))(ho:o.holds):Le m s s':=by
 unfold pC at h
 split at h
 ·exact JO h ho
 ·split at h<;>try (cases h;done)
  rename_i ec
  split at h<;>try (cases h;done)
  rename_i p ep
  cases h
  exact(oL ho.1 ec).trans (JO (o:=p.1) (s':=p.2) ep ho.2)
theorem Y5: ∀{l:List AV} {i:Nat} {v:AV},(Au l i v).length=l.length
 |[],_,_=>rfl
 |_::_,0,_=>rfl
 |_::l,i+1,v=>by simp only[Au,aC7,Y5]
theorem azU{s:St}{k:Key}{v:AV} :(OP s k v).tm.length=s.tm.length:=by
 unfold OP
 split
 ·exact Y5
 ·split
  ·exact Y5
  ·rfl
 ·rfl
 ·rfl
theorem abF: ∀{ks:List Key} {s:St},(xn s ks).tm.length=s.tm.length
 |[],_=>rfl
 |k::ks,s=>by simp only[xn,abF,azU]
theorem axY{m:Nat}{s s':St}{b b2:Nat}(h:IG m s b b2=some s'):s'.tm.length=s.tm.length:=by
 unfold IG at h
 split at h<;>try (cases h;done)
 split at h<;>try (cases h;done)
 rw[cY]at h
 cases h.2
 simp
theorem Ow{m:Nat} : ∀{l:List (Key×Nat)} {s s':St},wH m s l=some s'→s'.tm.length=s.tm.length
 |[],s,s',h=>by cases h;rfl
 |q::r,s,s',h=>by
  simp only[wH]at h
  split at h<;>try (cases h;done)
  split at h
  ·exact Ow h
  ·split at h<;>try (cases h;done)
   rename_i s1 e1;rw[Ow h,axY e1]
theorem abo{s s':St}{k:Key}{E:El}{o:Ob}(h:xb s k E=some (o,s')):s'.tm.length=s.tm.length:=by
 unfold xb at h
 split at h<;>try (cases h;done)
 ·cases k<;>simp only at h<;>try (cases h;done)
  ·cases h;simp
  ·rw[cY]at h;cases h.2;rfl
 ·cases k<;>simp only at h<;>try (cases h;done)
  ·split at h<;>try (cases h;done)
   cases h;simp
  ·split at h<;>try (cases h;done)
   rw[cY]at h;cases h.2;rfl
theorem aoD{m:Nat}{s s':St}{c:lS}{o:Ob}(h:E7 m s c=some (o,s')):s'.tm.length=s.tm.length:=by
 unfold E7 at h
 split at h
 ·split at h
  ·exact abo h
  ·cases h;rfl
 ·split at h
  ·split at h<;>try (cases h;done)
   rename_i p ep
   split at h<;>try (cases h;done)
   rename_i s1 e1
   cases h
   rw[Ow e1,abo (o:=p.1) (s':=p.2) ep]
  ·split at h<;>try (cases h;done)
   rename_i s1 e1
   cases h
   exact Ow e1
 ·split at h<;>try (cases h;done)
  rename_i s1 e1
  cases h
  exact awi e1
theorem Sp{m:Nat} : ∀{l:List lS} {s s':St} {o:Ob},pE m s l=some (o,s')→s'.tm.length=s.tm.length
 |[],s,s',o,h=>by cases h;rfl
 |c::r,s,s',o,h=>by
  simp only[pE]at h
  split at h<;>try (cases h;done)
  rename_i p e
  split at h<;>try (cases h;done)
  rename_i p' e'
  cases h
  rw[Sp (o:=p'.1) (s':=p'.2) e',aoD (o:=p.1) (s':=p.2) e]
theorem abp{m:Nat}{s:St}{dr:List Key}{l:List lS}{p:Ob×St}(h:pC m s dr l=some p):p.2.tm.length=s.tm.length:=by
 obtain⟨o,s'⟩:=p;unfold pC at h
 split at h
 ·exact Sp h
 ·split at h<;>try (cases h;done)
  split at h<;>try (cases h;done)
  rename_i p ep
  cases h
  rw[Sp (o:=p.1) (s':=p.2) ep,abF]
noncomputable def Sl.w_{α:Type}(s:Sl α)(i:Nat)(z:α):Sl α:=⟨s.n,fun t=>bif Nat.blt t i then s.at' t else z⟩
def Sl.cut{α:Type}(s:Sl α)(i:Nat):Sl α:=⟨i,s.at'⟩
theorem Sl.aBU{α:Type}(s:Sl α)(i:Nat)(z:α):(s.w_ i z).n=s.n:=rfl
theorem Sl.aBY{α:Type}(s:Sl α)(i:Nat):(s.cut i).n=i:=rfl
def uF(o:Oper):Option (Nat×Nat):=
 match o.guard with
 |none=>match o.dst with
  |some d=>match o.op with
   | .move x=>match x with
     | .tmp s=>some (d,s)
     |_=>none
   |_=>none
  |none=>none
 |some _=>none
def JA(o:Oper):Option (Nat×Nat):=
 match o.guard with
 |none=>match o.dst with
  |some d=>match o.op with
   | .assign x=>match x with
     | .tmp s=>some (d,s)
     |_=>none
   |_=>none
  |none=>none
 |some _=>none
structure Jt where
 d:Nat
 T:TypeId
 x:Nat
 y:Nat
def Y9(o:Oper):Option Jt:=
 match o.guard with
 |none=>match o.dst with
  |some d=>match o.op with
   | .slice T x l h m=>match x,l,h,m with
     | .tmp x,some (.tmp y),none,none=>some ⟨d,T,x,y⟩
     |_,_,_,_=>none
   |_=>none
  |none=>none
 |some _=>none
def Y8(o:Oper):Option Jt:=
 match o.guard with
 |none=>match o.dst with
  |some d=>match o.op with
   | .slice T x l h m=>match x,l,h,m with
     | .tmp x,none,some (.tmp y),none=>some ⟨d,T,x,y⟩
     |_,_,_,_=>none
   |_=>none
  |none=>none
 |some _=>none
def R4(o:Oper):Option (Nat×TypeId):=
 match o.guard with
 |none=>match o.dst with
  |none=>match o.op with
   | .call c=>match c.callee with
     | .builtin b=>match b with
       | .clear=>match c.args.toList,c.argTypes.toList with
         |[.tmp z],[T]=>some (z,T)
         |_,_=>none
       |_=>none
     |_=>none
   |_=>none
  |some _=>none
 |some _=>none
theorem XF{o:Oper}{d s:Nat}(h:uF o=some (d,s)):o.guard=none∧o.dst=some d∧o.op= .move (.tmp s):=by
 unfold uF at h
 split at h<;>try (cases h;done)
 split at h<;>try (cases h;done)
 split at h<;>try (cases h;done)
 split at h<;>cases h
 exact⟨by assumption,by assumption,by assumption⟩
theorem aaS{o:Oper}{d s:Nat}(h:JA o=some (d,s)):o.guard=none∧o.dst=some d∧o.op= .assign (.tmp s):=by
 unfold JA at h
 split at h<;>try (cases h;done)
 split at h<;>try (cases h;done)
 split at h<;>try (cases h;done)
 split at h<;>cases h
 exact⟨by assumption,by assumption,by assumption⟩
theorem aAD{o:Oper}{p:Jt}(h:Y9 o=some p):o.guard=none∧o.dst=some p.d∧o.op= .slice p.T (.tmp p.x) (some (.tmp p.y)) none none:=by
 unfold Y9 at h
 split at h<;>try (cases h;done)
 split at h<;>try (cases h;done)
 split at h<;>try (cases h;done)
 split at h<;>cases h
 exact⟨by assumption,by assumption,by assumption⟩
theorem aAA{o:Oper}{p:Jt}(h:Y8 o=some p):o.guard=none∧o.dst=some p.d∧o.op= .slice p.T (.tmp p.x) none (some (.tmp p.y)) none:=by
 unfold Y8 at h
 split at h<;>try (cases h;done)
 split at h<;>try (cases h;done)
 split at h<;>try (cases h;done)
 split at h<;>cases h
 exact⟨by assumption,by assumption,by assumption⟩
theorem aog{o:Oper}{z:Nat}{T:TypeId}(h:R4 o=some (z,T)):o.guard=none∧o.dst=none∧ ∃c,o.op= .call c∧c.callee= .builtin .clear∧c.args= #[.tmp z]∧c.argTypes= #[T]:=by
 unfold R4 at h
 split at h<;>try (cases h;done)
 split at h<;>try (cases h;done)
 split at h<;>try (cases h;done)
 split at h<;>try (cases h;done)
 split at h<;>try (cases h;done)
 split at h<;>cases h
 rename_i c _ _ _ h1 _ _ h2 h3;exact⟨by assumption,by assumption,_,by assumption,h1,Array.toList_inj.1 h2,Array.toList_inj.1 h3⟩
def OJ(st:St)(E:El)(s i:Nat)(K:Nat→Nat→IntKind→Int→Nat→(Nat→List AV)→Option (Ob×St)):Option (Ob×St):=
 match st.tm.getD s .undef with
 | .own b k=>match st.tm.getD i .undef with
   | .int kk z=>match aj st.hp b 0 with
     | .ah ro sz n f=>gd (!ro&&Nat.beq sz E.sz) (match K b k kk z n f with
       |some q=>some (.and (.e k n) (.and (.p ((0:Int)≤z∧z<(n:Int))) (.and (E.canon f) q.1)),q.2)
       |none=>none)
     |_=>none
   |_=>none
 |_=>none
def JW(X:XE)(T:TypeId):Option (Ty×El):=
 match X.ty T with
 |some t=>match t.d with
  | .slice e aO _=>match X.el e with
    |some E=>match X.ty e with
     |some te=>gd (Nat.beq aO E.sz&&Nat.beq te.zero.length E.sz&&Nat.beq te.size E.sz) (some (te,E))
     |none=>none
    |none=>none
  |_=>none
 |none=>none
def X1:AV→Bool
 | .undef=>false
 |_=>true
noncomputable def R5(X:XE)(ops:List Oper)(st:St):Option (Ob×St):=
 match ops with
 |[o1,o2,o3,o4]=>match uF o1 with
  |some p1=>match uF o2 with
   |some p2=>match Y9 o3 with
    |some p3=>match R4 o4 with
     |some p4=>match JW X p3.T with
      |some q=>gd (Nat.beq p3.x p1.1&&Nat.beq p3.y p2.1&&Nat.beq p4.1 p3.d&&Nat.beq p4.2 p3.T&& !(Nat.beq p1.1 p2.1)&& !(Nat.beq p2.2 p1.1)&&Nat.blt p1.1 st.tm.length&&Nat.blt p2.1 st.tm.length&&Nat.blt p3.d st.tm.length&&q.1.zero.all X1)
       (OJ st q.2 p1.2 p2.2 fun b _ kk z n f=>some (.e (sV q.1.zero (q.2.e (q.2.d q.1.zero))) (q.2.e (q.2.d q.1.zero)),
        ⟨((st.tm.set p1.1 (.own b n)).set p2.1 (.int kk z)).set p3.d .undef,qC st.hp b b (.ah false q.2.sz n fun t=>q.2.e ((Sl.w_ (q.2.sl n f) z.toNat (q.2.d q.1.zero)).at' t))⟩))
      |none=>none
     |none=>none
    |none=>none
   |none=>none
  |none=>none
 |_=>none
noncomputable def Sn(X:XE)(ops:List Oper)(st:St):Option (Ob×St):=
 match ops with
 |[o1,o2,o3,o4]=>match uF o1 with
  |some p1=>match uF o2 with
   |some p2=>match Y8 o3 with
    |some p3=>match JA o4 with
     |some p4=>match JW X p3.T with
      |some q=>gd (Nat.beq p3.x p1.1&&Nat.beq p3.y p2.1&&Nat.beq p4.2 p3.d&& !(Nat.beq p1.1 p2.1)&& !(Nat.beq p2.2 p1.1)&&Nat.blt p1.1 st.tm.length&&Nat.blt p2.1 st.tm.length&&Nat.blt p3.d st.tm.length&&Nat.blt p4.1 st.tm.length)
       (OJ st q.2 p1.2 p2.2 fun b _ kk z n f=>some (.tt,
        ⟨(((st.tm.set p1.1 .undef).set p2.1 (.int kk z)).set p3.d (.own st.hp.length z.toNat)).set p4.1 (.own st.hp.length z.toNat),qC st.hp b st.hp.length (.ah false q.2.sz z.toNat fun t=>q.2.e ((Sl.cut (q.2.sl n f) z.toNat).at' t))⟩))
      |none=>none
     |none=>none
    |none=>none
   |none=>none
  |none=>none
 |_=>none
noncomputable def X6(X:XE)(ops:List Oper)(draw:Bool)(st:St):Option (Ob×St):=
 match draw with
 |true=>none
 |false=>match R5 X ops st with
  |some q=>some q
  |none=>Sn X ops st
section
variable {X:XE} {S:dF} {ι:Nat→Option Nat} {st:St} {a:Act} {w:World}
theorem Eb{P:Program}{ops:Array Oper}{Q:Exit→Act→World→Prop}{rest:List Oper}{o:Oper}(hg:o.guard=none)(h:o.wp P a w (wpList P ops Q rest) Q):wpList P ops Q (o::rest) a w:=by
 unfold wpList;rw[aCL (by simp [Region.wanted,hg])];exact .inl h
theorem aie{P:Program}{o:Oper}{d s:Nat}{next:Act→World→Prop}{Q:Exit→Act→World→Prop}(h:uF o=some (d,s))(hn:next (a.put (some d) (a.eval (.tmp s))) w):o.wp P a w next Q:=by
 obtain⟨_,h2,h3⟩:=XF h;refine de (v:=a.eval (.tmp s)) (w':=w) ?_ (by rw[h2];exact hn);simp [execOp,h3]
theorem anD{P:Program}{o:Oper}{d s:Nat}{next:Act→World→Prop}{Q:Exit→Act→World→Prop}(h:JA o=some (d,s))(hn:next (a.put (some d) (a.eval (.tmp s))) w):o.wp P a w next Q:=by
 obtain⟨_,h2,h3⟩:=aaS h;refine de (v:=a.eval (.tmp s)) (w':=w) ?_ (by rw[h2];exact hn);simp [execOp,h3]
theorem DW(d:Nat)(v:Value)(t:Nat):(a.put (some d) v).eval (.tmp t)=if t=d∧d<a.tmps.size then v else a.eval (.tmp t):=by
 simp only[Act.eval,Act.put]
 by_cases e:t=d
 ·subst e
  by_cases h:t<a.tmps.size
  ·simp [h]
  ·simp [h]
 ·simp only[e,false_and,aDn];rw[aEj,aEj,aEi (fun h=>e h.symm)]
theorem aiK{E:El}{s i:Nat}{K:Nat→Nat→IntKind→Int→Nat→(Nat→List AV)→Option (Ob×St)}{o:Ob}{s':St}(h:OJ st E s i K=some (o,s'))(ho:o.holds):
  ∃b k kk z n f o',st.tm.getD s .undef= .own b n∧st.tm.getD i .undef= .int kk z∧aj st.hp b 0= .ah false E.sz n f∧K b k kk z n f=some (o',s')∧0≤z∧z<(n:Int)∧(∀t,f t=E.e (E.d (f t)))∧o'.holds:=by
 unfold OJ at h
 split at h<;>try (cases h;done)
 rename_i b k e1
 split at h<;>try (cases h;done)
 rename_i kk z e2
 split at h<;>try (cases h;done)
 rename_i ro sz n f e3;rw[cY]at h;obtain⟨h1,h⟩:=h
 split at h<;>try (cases h;done)
 rename_i q eq
 cases h
 obtain⟨g1,g2,g3,g4⟩:=ho;have g1:k=n:=g1;subst g1;simp only[aCN,aC_]at h1;obtain⟨r1,r2⟩:=h1;have r2:=aCS r2;subst r1 r2;exact⟨b,_,kk,z,_,f,q.1,e1,e2,e3,eq,g2.1,g2.2,fun t=>congrFun g3 t,g4⟩
theorem abJ(hE:X.env.Ok){T:TypeId}{te:Ty}{E:El}(h:JW X T=some (te,E)):te.zero.length=E.sz∧ ∃e i z,X.P.underlying T=some (.slice e)∧X.P.info? e=some i∧i.size=E.sz∧i.zero=some z∧z.cells.size=E.sz∧aT lW te.zero z.cells.toList:=by
 unfold JW at h
 split at h<;>try (cases h;done)
 rename_i t et
 split at h<;>try (cases h;done)
 rename_i e aO eb ed
 split at h<;>try (cases h;done)
 rename_i E' eE
 split at h<;>try (cases h;done)
 rename_i te' ete;rw[cY]at h;obtain⟨h1,h⟩:=h
 cases h
 simp only[aCN]at h1;obtain⟨⟨r1,r2⟩,r3⟩:=h1;have r1:=aCS r1;have r2:=aCS r2;have r3:=aCS r3;have hT:=(hE.ty T t et).d;rw[ed]at hT;obtain⟨hu,i,eF,gR,_⟩:=hT;obtain⟨i',z,g1,g2,g3,g4,g5⟩:=(hE.ty e te ete).info;have hii:i'=i:=by
  have:X.P.info? e=some i':=g1;have h2:X.P.info? e=some i:=eF;rw[this]at h2;cases h2;rfl
 subst hii;exact⟨r2,e,i',z,hu,g1,by rw[g2,r3],g3,by rw[g4,r3],g5⟩
theorem abQ(h:aP S ι st a w){t:Nat}{av:AV}(e:st.tm.getD t .undef=av):VR S ι st.hp w av (a.eval (.tmp t)):=by
 have:=h.eval (.tmp t);simp only[aC]at this;rwa [e]at this
theorem ajU(h:aP S ι st a w){d1 d2 s i b n:Nat}{kk:IntKind}{z:Int}{x1:AV}{ops:Array Oper}{Q:Exit→Act→World→Prop}{o1 o2:Oper}{l:List Oper}
  (h1:uF o1=some (d1,s)) (h2:uF o2=some (d2,i)) (hd:d1≠d2) (hi:i≠d1) (hl1:d1<st.tm.length) (Nn:d2<st.tm.length) (e1:st.tm.getD s .undef= .own b n) (e2:st.tm.getD i .undef= .int kk z) (hx:x1= .undef∨x1= .own b n)
  (hk: ∀a',aP S ι ⟨(st.tm.set d1 x1).set d2 (.int kk z),st.hp⟩ a' w→CR S ι st.hp w (.own b n) (a'.eval (.tmp d1))→a'.eval (.tmp d2)= .int kk z→wpList X.P ops Q l a' w):wpList X.P ops Q (o1::o2::l) a w:=by
 have r1:=abQ h e1;have r2:=abQ h e2;have r2':=VR.int r2;refine Eb (XF h1).1 (aie h1 (Eb (XF h2).1 (aie h2 ?_)));have dw: ∀t,t<st.tm.length→t<a.tmps.size:=fun t ht=>by
  obtain⟨v,hv,_⟩:=h.tm t _ (aCP ht);exact(aDy.1 hv).1
 have ei:(a.put (some d1) (a.eval (.tmp s))).eval (.tmp i)= .int kk z:=by
  rw[DW,aCM (fun g=>hi g.1)];exact r2'
 have s1:aP S ι ⟨st.tm.set d1 x1,st.hp⟩ (a.put (some d1) (a.eval (.tmp s))) w:=by
  rcases hx with rfl|rfl
  ·exact aP.dst h (some d1) (av:= .undef) trivial
  ·exact aP.dst h (some d1) r1
 have s2:=aP.dst s1 (some d2) (av:= .int kk z) (v:= .int kk z) (VR.mkInt _ _);rw[ei];refine hk _ s2 ?_ ?_
 ·rw[DW,aCM (fun g=>hd g.1),DW,aCL ⟨rfl,dw _ hl1⟩];exact r1
 ·rw[DW,aCL ⟨rfl,by simp [Act.put];exact dw _ Nn⟩]
theorem ZH{E:El}{te:Ty}{z:Value}(hz:aT lW te.zero z.cells.toList)(o9:te.zero.all X1=true)(wk:kY te.zero (E.e (E.d te.zero)))(hl:te.zero.length=E.sz){j:Nat}(hj:j<E.sz)(w:World)(F:Nat→Prop):
  ∃av u,(E.e (E.d te.zero))[j]? =some av∧z.cells[j]? =some u∧aR w F av u:=by
 obtain⟨x,hx⟩: ∃x,te.zero[j]? =some x:=⟨_,aCP (by omega)⟩;obtain⟨v,h1,h2⟩:=hz.get j x hx;obtain⟨y,h3,h4⟩:=OF j x wk hx;have hxo:X1 x=true:=aCR.1 o9 x (aCV hx);refine⟨y,v,h3,by simpa using h1,XW h4 ?_⟩
 cases x<;>simp only[lW]at h2<;>first|exact h2.elim|(subst h2;constructor)|(obtain⟨rfl,hz⟩:=h2;exact aR.str _ (by omega))|(cases hxo;done)
theorem aBE{z:Array Value}{m t j:Nat}(ht:t<m)(hj:j<z.size):(Builtin.zeroCells z m).toList[t*z.size+j]? =z[j]? :=by
 have cI:=nv ht hj;simp only[Builtin.zeroCells,Array.toList_map,aC4,aEs];rw[Array.getElem?_range];rw[aCL cI];simp only[aDC];have:(t*z.size+j)%z.size=j:=by rw[Nat.add_comm,Nat.add_mul_mod_self_right,aEx hj]
 rw[this,getElem!_pos z j hj,aDu hj]
def Ju(X:XE)(ops:Array Oper)(st s':St):Prop:= ∀(S:dF) (ι:Nat→Option Nat) (a:Act) (w:World) (Q:Exit→Act→World→Prop),aP S ι st a w→(∀aA a' w',aP S aA s' a' w'→Q .normal a' w')→wpList X.P ops Q ops.toList a w
theorem Ju.wp{ops:Array Oper}{s':St}(h:Ju X ops st s')(id:Nat):WP X.env (.region id ops false) (fun e s=>e= .normal∧s=s') st:=fun S _ ι a w hs=>
 wp_region_list (h S ι a w _ hs fun aA a' w' dP=>⟨aA,s',dP,rfl,rfl⟩)
theorem aoi(hE:X.env.Ok){ops:Array Oper}{o:Ob}{s':St}(h:R5 X ops.toList st=some (o,s'))(ho:o.holds):Ju X ops st s':=by
 intro S ι a w Q hs hQ;unfold R5 at h
 split at h<;>try (cases h;done)
 rename_i o1 o2 o3 o4 Sy
 split at h<;>try (cases h;done)
 rename_i p1 Sz
 split at h<;>try (cases h;done)
 rename_i p2 SA
 split at h<;>try (cases h;done)
 rename_i p3 SB
 split at h<;>try (cases h;done)
 rename_i p4 JY
 split at h<;>try (cases h;done)
 rename_i q eq;obtain⟨te,E⟩:=q;rw[cY]at h;obtain⟨hb,h⟩:=h;simp only[aCN,aC_]at hb;obtain⟨⟨⟨⟨⟨⟨⟨⟨⟨b1,b2⟩,b3⟩,b4⟩,b5⟩,b6⟩,b7⟩,b8⟩,b9⟩,AR⟩:=hb;replace b1:=(aCS b1).symm;replace b2:=(aCS b2).symm;replace b3:=(aCS b3).symm;replace b4:=(aCS b4).symm;replace b5:=aEr b5;replace b6:=aEr b6;replace b7:p1.1<st.tm.length:=aC1 b7;replace b8:p2.1<st.tm.length:=aC1 b8;replace b9:p3.d<st.tm.length:=aC1 b9;obtain⟨d1,s⟩:=p1;obtain⟨d2,i⟩:=p2;obtain⟨zt,T4⟩:=p4;obtain⟨d3,T,x3,y3⟩:=p3;simp only at b1 b2 b3 b4 b5 b6 b7 b8 b9 AR h;subst b1 b2 b3 b4;obtain⟨b,k,kk,z,n,f,o',e1,e2,e3,hK,qb,Dx,VJ,NA⟩:=aiK h ho;simp only[aC3,aDL]at hK;obtain⟨rfl,rfl⟩:=hK;have wk:kY te.zero (E.e (E.d te.zero)):=JM NA;obtain⟨rU,e,inf,zv,hu,eF,gR,nm,pY,Df⟩:=abJ hE eq;rw[Sy];refine ajU (x1:= .own b n) hs Sz SA b5 b6 b7 b8 e1 e2 (.inr rfl) fun a' zL rR oz=> ?_;obtain⟨dK,V_⟩:=hs.I2 e3 rR;rcases V_ with⟨x,c,C,T',hx,hv,gL,hC,eZ,eB⟩|⟨h0,_⟩
 case inr=>omega
 obtain⟨UK,UT,UU⟩:=aAD SB;obtain⟨U6,yE,cc,g43,g44,g45,g46⟩:=aog JY;have hlo:(Instr.sliceBounds true n c (some (.int kk z)) none none).run X.P w= .ok (z.toNat,n,c) w:=by
  simp [Instr.sliceBounds,run_sliceBound w kk z n _ qb (by omega)]
 refine Eb UK (de (v:= .slice (some ⟨x,z.toNat*E.sz,none⟩) (n-z.toNat) (c-z.toNat)) (w':=w) ?_ ?_)
 ·have db: ¬c=z.toNat:=by omega
  simp [execOp,UU,hv,oz,Instr.sliceAt,aCU hu,Instr.slice,hlo,sizeOf,typeInfo,eF,gR,db,Addr.add];exact fun h=>h.symm
 rw[UT];have Dt:aP S ι ⟨((st.tm.set d1 (.own b n)).set d2 (.int kk z)).set d3 .undef,st.hp⟩ (a'.put (some d3) (.slice (some ⟨x,z.toNat*E.sz,none⟩) (n-z.toNat) (c-z.toNat))) w:=aP.dst zL (some d3) (av:= .undef) trivial;have VN:d3<a'.tmps.size:=by
  obtain⟨v,hv,_⟩:=zL.tm d3 _ (aCP (by simpa using b9));exact(aDy.1 hv).1
 have rK:(a'.put (some d3) (.slice (some ⟨x,z.toNat*E.sz,none⟩) (n-z.toNat) (c-z.toNat))).eval (.tmp d3)= .slice (some ⟨x,z.toNat*E.sz,none⟩) (n-z.toNat) (c-z.toNat):=by
  rw[DW,aCL ⟨rfl,VN⟩]
 generalize (a'.put (some d3) (.slice (some ⟨x,z.toNat*E.sz,none⟩) (n-z.toNat) (c-z.toNat)))=a3 at Dt rK;have uh:zv.cells.all (fun v=>v.oneCell')=true:=by
  apply Array.all_eq_true.2;intro j hj;obtain⟨av,u,_,q2,q3⟩:=ZH Df AR wk rU (j:=j) (by rw[←pY];exact hj) w (fun _=>True);rw[aDu hj]at q2
  cases q2
  exact q3.X2
 obtain⟨ag3,nu⟩:(Builtin.zeroCells zv.cells (n-z.toNat)).toList.length=(n-z.toNat)*E.sz∧ ∀v∈(Builtin.zeroCells zv.cells (n-z.toNat)).toList,v.oneCell'=true:=by
  refine⟨by simp [Builtin.zeroCells,pY],fun v hv=> ?_⟩;simp only[Builtin.zeroCells,Array.toList_map,aDx,Array.mem_toList_iff,Array.mem_range]at hv;obtain⟨t,ht,rfl⟩:=hv;have rN:0<zv.cells.size:=by
   rcases aDW zv.cells.size with e|e
   ·rw[e]at ht;simp at ht
   ·exact e
  have cI:=Nat.mod_lt t rN;rw[getElem!_pos zv.cells _ cI];exact Array.all_eq_true.1 uh _ cI
 have hmul:z.toNat*E.sz+(n-z.toNat)*E.sz=n*E.sz:=by rw[←aC6];congr 1;omega
 have agQ:n*E.sz≤C.size:=by rw[eZ];exact aC2 _ gL
 have asW:=ajp (P:=X.P) w T e o4.type zv hu (fun w=>by simp [zeroValue,typeInfo,eF,nm]) x (z.toNat*E.sz) (n-z.toNat) (c-z.toNat) (by omega) _ rfl nu (fun j hj=>by
  rw[ag3]at hj;rw[AW hC,aDu (by omega)];rfl) (fun j _=>Ft hC _)
 refine Eb U6 (de (v:= .tuple #[]) (w':=w.setCells x (z.toNat*E.sz) (Builtin.zeroCells zv.cells (n-z.toNat)).toList) ?_ ?_)
 ·simp [execOp,g43,resolve,g44,g45,g46,invoke,builtin,rK];rw[asW];rfl
 rw[yE];obtain⟨⟨C2,q1,q2,q3⟩,q4,q5,q6,q7,q8⟩:=rJ x (Builtin.zeroCells zv.cells (n-z.toNat)).toList (z.toNat*E.sz) w C T' (0,0) hC;generalize w.setCells x (z.toNat*E.sz) (Builtin.zeroCells zv.cells (n-z.toNat)).toList=w' at*
 have Sv:aj (⟨((st.tm.set d1 (.own b n)).set d2 (.int kk z)).set d3 .undef,st.hp⟩:St).hp b 0= .ah false E.sz n f:=e3;obtain⟨aA,Wl,_⟩:=aP.Ps (b:=b) (b2:=b) (f:=f) (f':=fun t=>E.e ((Sl.w_ (E.sl n f) z.toNat (E.d te.zero)).at' t)) (n':=n) (c:=c) (w':=w') (C':=C2) Dt Sv hx hC q6 q7 q8 q4 q5 q1 (by rw[q2];exact eZ) dK gL (fun p r hp hr=>by
  have hpr:=nv hp hr;rw[q3,ag3];show∃av u,(E.e (bif Nat.blt p z.toNat then E.d (f p)else E.d te.zero))[r]? =some av∧_
  by_cases fy:p<z.toNat
  ·have hb:Nat.blt p z.toNat=true:=by simpa[aC9]using fy
   have:=nv fy hr;rw[aCM (by omega),hb,aCJ,←VJ];exact eB p r hp hr
  ·have hb:Nat.blt p z.toNat=false:=by
    cases e:Nat.blt p z.toNat with
    |false=>rfl
    |true=>exact absurd (aC1 e) (by omega)
   have h1:z.toNat*E.sz≤p*E.sz:=aC2 _ (by omega);have h2:(p-z.toNat)*E.sz=p*E.sz-z.toNat*E.sz:=aD3 _ _ _;rw[aCL ⟨by omega,by omega,by omega⟩,hb,aCI];obtain⟨av,u,k1,k2,k3⟩:=ZH Df AR wk rU hr w' (FZ S ι st.hp w);refine⟨av,u,k1,?_,?_⟩
   ·have ht:p-z.toNat<n-z.toNat:=by omega
    have:=aBE (z:=zv.cells) ht (by rw[pY];exact hr);rw[pY]at this;rw[show p*E.sz+r-z.toNat*E.sz=(p-z.toNat)*E.sz+r by omega,this];exact k2
   ·obtain⟨av',u',k1',k2',k3'⟩:=ZH Df AR wk rU hr w (FZ S ι st.hp w);rw[k1]at k1';cases k1';rw[k2]at k2';cases k2';exact k3') (.inl ⟨rfl,.inr ⟨rfl,q2⟩⟩)
 exact hQ aA _ w' Wl
theorem aoB(hE:X.env.Ok){ops:Array Oper}{o:Ob}{s':St}(h:Sn X ops.toList st=some (o,s'))(ho:o.holds):Ju X ops st s':=by
 intro S ι a w Q hs hQ;unfold Sn at h
 split at h<;>try (cases h;done)
 rename_i o1 o2 o3 o4 Sy
 split at h<;>try (cases h;done)
 rename_i p1 Sz
 split at h<;>try (cases h;done)
 rename_i p2 SA
 split at h<;>try (cases h;done)
 rename_i p3 SB
 split at h<;>try (cases h;done)
 rename_i p4 JY
 split at h<;>try (cases h;done)
 rename_i q eq;obtain⟨te,E⟩:=q;rw[cY]at h;obtain⟨hb,h⟩:=h;simp only[aCN,aC_]at hb;obtain⟨⟨⟨⟨⟨⟨⟨⟨b1,b2⟩,b3⟩,b5⟩,b6⟩,b7⟩,b8⟩,b9⟩,AR⟩:=hb;replace b1:=(aCS b1).symm;replace b2:=(aCS b2).symm;replace b3:=(aCS b3).symm;replace b5:=aEr b5;replace b6:=aEr b6;replace b7:p1.1<st.tm.length:=aC1 b7;replace b8:p2.1<st.tm.length:=aC1 b8;replace b9:p3.d<st.tm.length:=aC1 b9;obtain⟨d1,s⟩:=p1;obtain⟨d2,i⟩:=p2;obtain⟨d4,zt⟩:=p4;obtain⟨d3,T,x3,y3⟩:=p3;simp only at b1 b2 b3 b5 b6 b7 b8 b9 AR h;subst b1 b2 b3;obtain⟨b,k,kk,z,n,f,o',e1,e2,e3,hK,qb,Dx,VJ,NA⟩:=aiK h ho;simp only[aC3,aDL]at hK;obtain⟨rfl,rfl⟩:=hK;obtain⟨rU,e,inf,zv,hu,eF,gR,nm,pY,Df⟩:=abJ hE eq;rw[Sy];refine ajU (x1:= .undef) hs Sz SA b5 b6 b7 b8 e1 e2 (.inl rfl) fun a' zL rR oz=> ?_;obtain⟨dK,V_⟩:=hs.I2 e3 rR;rcases V_ with⟨x,c,C,T',hx,hv,gL,hC,eZ,eB⟩|⟨h0,_⟩
 case inr=>omega
 obtain⟨UK,UT,UU⟩:=aAA SB;obtain⟨U6,yE,g43⟩:=aaS JY;have hhi:(Instr.sliceBounds true n c none (some (.int kk z)) none).run X.P w= .ok (0,z.toNat,c) w:=by
  simp [Instr.sliceBounds,run_sliceBound w kk z c _ qb (by omega)]
 have Sv:aj (⟨(st.tm.set d1 .undef).set d2 (.int kk z),st.hp⟩:St).hp b 0= .ah false E.sz n f:=e3;obtain⟨aA,Dt,hv3⟩:=aP.Ps (b:=b) (b2:=st.hp.length) (f:=f) (f':=fun t=>E.e ((Sl.cut (E.sl n f) z.toNat).at' t)) (n':=z.toNat) (c:=c) (w':=w) (C':=C) zL Sv hx hC rfl rfl rfl rfl (fun _ _=>rfl) hC eZ (by omega) (by omega) (fun p r hp hr=>by
  show∃av u,(E.e (E.d (f p)))[r]? =some av∧_;rw[←VJ];exact eB p r (by omega) hr) (.inr ⟨fun g=>by
   have:=hs.gH b x hx;omega,fun o=>ub (aCK _) o,hs.OA (aCK _)⟩)
 refine Eb UK (de (v:= .slice (some ⟨x,0,none⟩) z.toNat c) (w':=w) ?_ ?_)
 ·simp [execOp,UU,hv,oz,Instr.sliceAt,aCU hu,Instr.slice,hhi,sizeOf,typeInfo,eF,gR,Addr.add]
 rw[UT];have VN:d3<a'.tmps.size:=by
  obtain⟨v,hv,_⟩:=zL.tm d3 _ (aCP (by simpa using b9));exact(aDy.1 hv).1
 have Wl:=aP.dst Dt (some d3) (av:= .own st.hp.length z.toNat) (v:= .slice (some ⟨x,0,none⟩) z.toNat c) hv3;have rK:(a'.put (some d3) (.slice (some ⟨x,0,none⟩) z.toNat c)).eval (.tmp d3)= .slice (some ⟨x,0,none⟩) z.toNat c:=by
  rw[DW,aCL ⟨rfl,VN⟩]
 refine Eb U6 (anD JY ?_);rw[rK];exact hQ aA _ w (aP.dst Wl (some d4) (av:= .own st.hp.length z.toNat) hv3)
theorem ay7(hE:X.env.Ok){ops:Array Oper}{draw:Bool}{o:Ob}{s':St}(h:X6 X ops.toList draw st=some (o,s'))(ho:o.holds)(id:Nat):WP X.env (.region id ops draw) (fun e s=>e= .normal∧s=s') st:=by
 unfold X6 at h
 cases draw with
 |true=>cases h
 |false=>
  simp only at h
  split at h
  ·rename_i q eq
   cases h
   exact(aoi hE eq ho).wp id
  ·exact(aoB hE h ho).wp id
end
inductive Md where
 |pure
 |own (E:El)
 |heap
 |ma (fr:Bool) (dr:List Key) (l:List lS)
 |dY (fr:Bool) (dr:List Key) (l:List lS) (sf:List AV→St) (lf:St→List AV)
structure RS where
 md:Md
 rs:List ResultVar
 ks:List (Key×Kd)
 RB:St
def RS.kd(R:RS):List Kd:=R.ks.map (·.2)
def RS.st(R:RS)(vs:List AV):St:=
 match R.md with
 | .dY _ _ _ sf _=>sf vs
 |_=>Ad R.RB (R.ks.map (·.1)) vs
def OR(x y:AV):AV:=
 match y with
 | .arr sz _ g=>match x with
   | .aE=> .arr sz 0 g
   |x=>x
 | .undef=> .aE
 | .agg _=> .aE
 |_=>x
def DY:List AV→List AV→List AV
 |x::xs,y::ys=>OR x y::DY xs ys
 |[],_=>[]
 |x::xs,[]=>x::xs
def YH(x y:AV):AV:=
 match y with
 | .agg ds=>match x with
   | .agg cs=> .agg (DY cs ds)
   |x=>x
 |y=>OR x y
def Ap:List AV→List AV→List AV
 |x::xs,y::ys=>YH x y::Ap xs ys
 |[],_=>[]
 |x::xs,[]=>x::xs
theorem ai_{x y:AV}(h:OR x y=y):gX x y:=by
 cases y<;>simp only[OR]at h<;>try (cases h;done)
 case arr sz n g=>
  cases x<;>simp only[AV.arr.injEq,reduceCtorEq]at h
  ·exact h.2.1.symm
  ·obtain⟨rfl,rfl,rfl⟩:=h;exact⟨rfl,rfl,fun _ _=>rfl⟩
 all_goals (subst h;rfl)
theorem aja: ∀{xs ys:List AV},DY xs ys=ys→aT gX xs ys
 |[],[],_=>trivial
 |[],_::_,h=>by simp [DY]at h
 |_::_,[],h=>by simp [DY]at h
 |x::xs,y::ys,h=>by
  simp only[DY,aDm]at h;exact⟨ai_ h.1,aja h.2⟩
theorem az3{x y:AV}(h:YH x y=y):kJ x y:=by
 cases y<;>simp only[YH]at h
 case agg ds=>
  cases x<;>simp only[AV.agg.injEq,reduceCtorEq]at h
  exact aja h
 all_goals
  have:=ai_ h
  cases x<;>first|exact this|(simp [gX]at this;done)
theorem YI: ∀{xs ys:List AV},Ap xs ys=ys→aT kJ xs ys
 |[],[],_=>trivial
 |[],_::_,h=>by simp [Ap]at h
 |_::_,[],h=>by simp [Ap]at h
 |x::xs,y::ys,h=>by
  simp only[Ap,aDm]at h;exact⟨az3 h.1,YI h.2⟩
def YP(X:XE)(st:St)(r:ResultVar):Option V1:=
 match r with
 | .tmp t=>xw st.hp (st.tm.getD t .undef)
 | .cell t T=>jJ X T fun ty=>match loadT ty st.hp (st.tm.getD t .undef)with
   |some q=>match xw st.hp q.2 with
    |some q'=>some (.and q.1 q'.1,q'.2)
    |none=>none
   |none=>none
theorem aAb{X:XE}{st:St}{r:ResultVar}{o:Ob}{av:AV}{K:AV→Prop}(h:YP X st r=some (o,av))(ho:o.holds)(hK:K av):OZ X.env st r K:=by
 unfold YP at h;unfold OZ
 cases r with
 |tmp t=>exact S0 h ho hK
 |cell t T=>
  simp only at h ⊢;obtain⟨ty,h1,h2⟩:=kE h;refine kF h1 ?_
  split at h2<;>try (cases h2;done)
  rename_i q e
  split at h2<;>try (cases h2;done)
  rename_i q' e'
  cases h2
  exact Oh (o:=q.1) (av:=q.2) e ho.1 (S0 (o:=q'.1) (av:=q'.2) e' ho.2 hK)
def OY(X:XE)(st:St):List ResultVar→Option (Ob×List AV)
 |[]=>some (.tt,[])
 |r::rs=>match YP X st r with
  |some q=>match OY X st rs with
   |some q'=>some (.and q.1 q'.1,q.2::q'.2)
   |none=>none
  |none=>none
theorem aji{X:XE}{st:St} : ∀{rs:List ResultVar} {o:Ob} {vs:List AV} {K:List AV→Prop},OY X st rs=some (o,vs)→o.holds→K vs→Aq X.env st rs K
 |[],o,vs,K,h,ho,hK=>by cases h;exact hK
 |r::rs,o,vs,K,h,ho,hK=>by
  simp only[OY]at h
  split at h<;>try (cases h;done)
  rename_i q e
  split at h<;>try (cases h;done)
  rename_i q' e'
  cases h
  exact aAb (o:=q.1) (av:=q.2) e ho.1 (aji (o:=q'.1) (vs:=q'.2) e' ho.2 hK)
def Wh(X:XE)(st:St)(r:ResultVar):Option V1:=
 match r with
 | .tmp t=>cJ (st.tm.getD t .undef)
 | .cell t T=>jJ X T fun ty=>loadT ty st.hp (st.tm.getD t .undef)
theorem atn{X:XE}{st:St}{r:ResultVar}{o:Ob}{av:AV}{K:AV→Prop}(h:Wh X st r=some (o,av))(ho:o.holds)(hK:K av):Wg X.env st r K:=by
 unfold Wh at h;unfold Wg
 cases r with
 |tmp t=>cases h;exact hK
 |cell t T=>
  simp only at h ⊢;obtain⟨ty,h1,h2⟩:=kE h;exact kF h1 (Oh h2 ho hK)
def Ds(X:XE)(st:St):List ResultVar→Option (Ob×List AV)
 |[]=>some (.tt,[])
 |r::rs=>match Wh X st r with
  |some q=>match Ds X st rs with
   |some q'=>some (.and q.1 q'.1,q.2::q'.2)
   |none=>none
  |none=>none
theorem NC{X:XE}{st:St} : ∀{rs:List ResultVar} {o:Ob} {vs:List AV} {K:List AV→Prop},Ds X st rs=some (o,vs)→o.holds→K vs→wq X.env st rs K
 |[],o,vs,K,h,ho,hK=>by cases h;exact hK
 |r::rs,o,vs,K,h,ho,hK=>by
  simp only[Ds]at h
  split at h<;>try (cases h;done)
  rename_i q e
  split at h<;>try (cases h;done)
  rename_i q' e'
  cases h
  exact atn (o:=q.1) (av:=q.2) e ho.1 (NC (o:=q'.1) (vs:=q'.2) e' ho.2 hK)
def OK(E:El)(H:Heap)(x:AV):Option V1:=
 match x with
 | .own b k=>match aj H b 0 with
   | .ah ro sz n f=>gd (!ro&&Nat.beq sz E.sz) (some (.and (.e k n) (E.canon f),.ah false E.sz n fun i=>E.e ((E.sl n f).at' i)))
   |_=>none
 | .aE=>cJ (.ah false E.sz 0 fun i=>E.e ((@al E.T E.wy).at' i))
 |_=>none
theorem aiL{E:El}{H:Heap}{x:AV}{o:Ob}{av:AV}(h:OK E H x=some (o,av))(ho:o.holds): ∃n f,av= .ah false E.sz n f∧DT H E.sz n f x:=by
 unfold OK at h;unfold DT
 cases x<;>simp only[cJ]at h ⊢ <;>try (cases h;done)
 ·cases h;exact⟨0,_,rfl,rfl⟩
 ·split at h<;>try (cases h;done)
  rename_i e;rw[cY]at h;obtain⟨h1,h⟩:=h
  cases h
  (try simp only[e])
  exact⟨_,_,rfl,aD.2 ⟨h1,ho.1,rfl,fun i _=>congrFun ho.2 i⟩⟩
def YN(X:XE)(E:El)(st:St)(rs:List ResultVar):Option V1:=
 match rs with
 |[x]=>match x with
  | .tmp t=>OK E st.hp (st.tm.getD t .undef)
  | .cell t T=>jJ X T fun ty=>match loadT ty st.hp (st.tm.getD t .undef)with
    |some q=>match OK E st.hp q.2 with
     |some q'=>some (.and q.1 q'.1,q'.2)
     |none=>none
    |none=>none
 |_=>none
theorem az_{X:XE}{E:El}{st:St}{rs:List ResultVar}{o:Ob}{av:AV}(h:YN X E st rs=some (o,av))(ho:o.holds): ∃n f,av= .ah false E.sz n f∧D1 X.env st rs E.sz n f:=by
 unfold YN at h
 split at h<;>try (cases h;done)
 rename_i x;unfold D1
 cases x with
 |tmp t=>exact aiL h ho
 |cell t T=>
  simp only at h ⊢;obtain⟨ty,h1,h2⟩:=kE h
  split at h2<;>try (cases h2;done)
  rename_i q e
  split at h2<;>try (cases h2;done)
  rename_i q' e'
  cases h2
  obtain⟨n,f,h3,h4⟩:=aiL (o:=q'.1) (av:=q'.2) e' ho.2;exact⟨n,f,h3,kF h1 (Oh (o:=q.1) (av:=q.2) e ho.1 h4)⟩
theorem S4{H:Heap} : ∀{xs:List AV} {o:Ob} {ys:List AV},tf H xs=some (o,ys)→ys.length=xs.length
 |[],o,ys,h=>by cases h;rfl
 |x::r,o,ys,h=>by
  simp only[tf]at h
  split at h<;>try (cases h;done)
  split at h<;>try (cases h;done)
  rename_i q' e'
  cases h
  simp [S4 (o:=q'.1) (ys:=q'.2) e']
def sJ(X:XE)(R:RS)(s:St)(vs:List AV):Prop:=
 match R.md with
 | .pure=> ∀K:List AV→Prop,(∀ys,aT kJ ys (R.st vs).tm→K ys)→Aq X.env s R.rs K
 | .own E=> ∃n f,vs=[.ah false E.sz n f]∧D1 X.env s R.rs E.sz n f
 | .heap=> ∀K:List AV→Prop,(∀ys,ys.length=(R.st vs).tm.length→Le X.m ⟨ys,s.hp⟩ (R.st vs)→K ys)→wq X.env s R.rs K
 | .ma .. => ∀K:List AV→Prop,(∀ys,ys.length=(R.st vs).tm.length→Le X.m ⟨ys,s.hp⟩ (R.st vs)→K ys)→wq X.env s R.rs K
 | .dY .. => ∀K:List AV→Prop,(∀ys,ys.length=(R.st vs).tm.length→Le X.m ⟨ys,s.hp⟩ (R.st vs)→K ys)→wq X.env s R.rs K
def OX(fr:Bool)(H:Heap)(l:List AV):Option (Ob×St):=
 match fr with
 |true=>match tf H l with
  |some z=>some (z.1,⟨z.2,bm H (eI H l)⟩)
  |none=>none
 |false=>some (.tt,⟨l,H⟩)
theorem ajg{m:Nat}{fr:Bool}{H:Heap}{l:List AV}{o:Ob}{s:St}(h:OX fr H l=some (o,s))(ho:o.holds):Le m ⟨l,H⟩ s∧l.length=s.tm.length:=by
 unfold OX at h
 cases fr with
 |false=>cases h;exact⟨Le.refl _,rfl⟩
 |true=>
  simp only at h
  split at h<;>try (cases h;done)
  rename_i z ez
  cases h
  exact⟨Le.qQ (o:=z.1) (zs:=z.2) ez ho,(S4 (o:=z.1) (ys:=z.2) ez).symm⟩
def Ar(X:XE)(R:RS)(s:St):Option (Ob×List AV):=
 match R.md with
 | .pure=>match OY X s R.rs with
   |some q=>match qh R.ks ⟨q.2,[]⟩with
    |some vs=>some (.and q.1 (.e (Ap q.2 (R.st vs).tm) (R.st vs).tm),vs)
    |none=>none
   |none=>none
 | .own E=>match YN X E s R.rs with
   |some q=>match dB R.kd [q.2]with
    |some vs=>some (.and q.1 (.e vs [q.2]),vs)
    |none=>none
   |none=>none
 | .heap=>match Ds X s R.rs with
   |some q=>match tf s.hp q.2 with
    |some z=>match qh R.ks ⟨z.2,bm s.hp (eI s.hp q.2)⟩with
     |some vs=>gd (im X.m (R.st vs)) (some (.and q.1 (.and z.1 (kN ⟨z.2,bm s.hp (eI s.hp q.2)⟩ (R.st vs))),vs))
     |none=>none
    |none=>none
   |none=>none
 | .ma fr dr l=>match Ds X s R.rs with
   |some q=>match OX fr s.hp q.2 with
    |some z=>match pC X.m z.2 dr l with
     |some p=>match qh R.ks p.2 with
      |some vs=>gd (im X.m (R.st vs)) (some (.and q.1 (.and z.1 (.and p.1 (kN p.2 (R.st vs)))),vs))
      |none=>none
     |none=>none
    |none=>none
   |none=>none
 | .dY fr dr l _ lf=>match Ds X s R.rs with
   |some q=>match OX fr s.hp q.2 with
    |some z=>match pC X.m z.2 dr l with
     |some p=>match dB R.kd (lf p.2)with
      |some vs=>gd (im X.m (R.st vs)) (some (.and q.1 (.and z.1 (.and p.1 (kN p.2 (R.st vs)))),vs))
      |none=>none
     |none=>none
    |none=>none
   |none=>none
theorem YR{X:XE}{R:RS}{s:St}{o:Ob}{vs:List AV}(h:Ar X R s=some (o,vs))(ho:o.holds):sJ X R s vs∧ ∃xs,dB R.kd xs=some vs:=by
 unfold Ar at h;unfold sJ
 cases e:R.md<;>rw[e]at h<;>simp only at h ⊢
 ·split at h<;>try (cases h;done)
  rename_i q e1
  split at h<;>try (cases h;done)
  rename_i ws e2
  cases h
  exact⟨fun K hK=>aji (o:=q.1) (vs:=q.2) e1 ho.1 (hK _ (YI ho.2)),_,e2⟩
 ·split at h<;>try (cases h;done)
  rename_i q e1
  split at h<;>try (cases h;done)
  rename_i ws e2;simp only[aC3,aDL]at h;obtain⟨rfl,rfl⟩:=h;obtain⟨n,f,h1,h2⟩:=az_ (o:=q.1) (av:=q.2) e1 ho.1;have h3:ws=[q.2]:=ho.2;exact⟨⟨n,f,by rw[h3,h1],h2⟩,_,e2⟩
 ·split at h<;>try (cases h;done)
  rename_i q e1
  split at h<;>try (cases h;done)
  rename_i z ez
  split at h<;>try (cases h;done)
  rename_i ws e2;rw[cY]at h;obtain⟨hp,h⟩:=h
  cases h
  exact⟨fun K hK=>NC (o:=q.1) (vs:=q.2) e1 ho.1 (hK _ ((S4 (o:=z.1) (ys:=z.2) ez).symm.trans (Bg (DD (A2 ho.2.2)).1)) ((Le.qQ (o:=z.1) (zs:=z.2) ez ho.2.1).trans (oL ho.2.2 hp))),_,e2⟩
 ·split at h<;>try (cases h;done)
  rename_i q e1
  split at h<;>try (cases h;done)
  rename_i z ez
  split at h<;>try (cases h;done)
  rename_i p ep
  split at h<;>try (cases h;done)
  rename_i ws e2;rw[cY]at h;obtain⟨hp,h⟩:=h
  cases h
  obtain⟨z1,z2⟩:=ajg (m:=X.m) (o:=z.1) (s:=z.2) ez ho.2.1;exact⟨fun K hK=>NC (o:=q.1) (vs:=q.2) e1 ho.1 (hK _ (z2.trans ((abp ep).symm.trans (Bg (DD (A2 ho.2.2.2)).1))) ((z1.trans (xc (o:=p.1) (s':=p.2) ep ho.2.2.1)).trans (oL ho.2.2.2 hp))),_,e2⟩
 ·split at h<;>try (cases h;done)
  rename_i q e1
  split at h<;>try (cases h;done)
  rename_i z ez
  split at h<;>try (cases h;done)
  rename_i p ep
  split at h<;>try (cases h;done)
  rename_i ws e2;rw[cY]at h;obtain⟨hp,h⟩:=h
  cases h
  obtain⟨z1,z2⟩:=ajg (m:=X.m) (o:=z.1) (s:=z.2) ez ho.2.1;exact⟨fun K hK=>NC (o:=q.1) (vs:=q.2) e1 ho.1 (hK _ (z2.trans ((abp ep).symm.trans (Bg (DD (A2 ho.2.2.2)).1))) ((z1.trans (xc (o:=p.1) (s':=p.2) ep ho.2.2.1)).trans (oL ho.2.2.2 hp))),_,e2⟩
def sw(R:List Kd)(ex:Option Nat)(rt:Bool)(es:List (Key×Kd)):List Kd:=
 match ex with
 |some _=>match rt with
  |true=> .bool::(es.map (·.2)++R)
  |false=>es.map (·.2)
 |none=>match rt with
  |true=>R
  |false=>[]
structure dt (R:List Kd) where
 keep:Nat
 drop:List Key
 cv:List (Key×El)
 ks:List (Key×Kd)
 ex:Option Nat
 rt:Bool
 awh:Nat
 drop2:List Key
 es:List (Key×Kd)
 G:Nat→dp (ks.map (·.2))→dp (sw R ex rt es)
 m:Mk
 I:dp (ks.map (·.2))→Prop
 mu:dp (ks.map (·.2))→Nat
 post:Option (dp (sw R ex rt es)→Prop):=none
inductive Hn (R:List Kd):Type 1 where
 |z
 |s (l r:Hn R)
 |j (J:Jn) (l r:Hn R)
 |c (b:Bool) (h:Hn R)
 |lp (L:dt R) (h:Hn R)
 |zZ (L:dt R) (h:dp (L.ks.map (·.2))→Hn R)
 |l1 (h:Hn R)
 |un (n:Nat) (h:Hn R)
 |fz (i b:Nat) (h:Hn R)
 |cv (l:List (Key×El))
 |cw (dr:List Key) (l:List lS)
 |jc (J:Jn) (cv:List lS) (l r:Hn R)
 |ow
 |ck (st:St) (h:Hn R)
 |nw (L:List (Nat×Nat))
structure JH (R:List Kd):Type 1 where
 J:Jn
 cv:List lS
 l:Hn R
 r:Hn R
def Hn.jn{R:List Kd} :Hn R→Option (JH R)
 | .j J l r=>some ⟨J,[],l,r⟩
 | .jc J vv l r=>some ⟨J,vv,l,r⟩
 |_=>none
def On(m:Nat)(cv:List lS)(J:Jn)(t:T St):Option (Ob×St):=
 match cv with
 |[]=>meet m J t
 |c::r=>match t.sQ (fun s=>(pE m s (c::r)).isSome)with
  |true=>match meet m J (t.map fun s=>((pE m s (c::r)).getD (.tt,s)).2)with
   |some q=>some (.and (t.IT fun s=>((pE m s (c::r)).getD (.tt,s)).1) q.1,q.2)
   |none=>none
  |false=>none
theorem XC{m:Nat}{cv:List lS}{J:Jn}{t:T St}{o:Ob}{eQ:St}(h:On m cv J t=some (o,eQ))(ho:o.holds):Le m t.bq eQ:=by
 unfold On at h
 split at h
 ·exact ah_ h ho
 ·rename_i c r
  split at h<;>try (cases h;done)
  rename_i ea
  split at h<;>try (cases h;done)
  rename_i q eq
  cases h
  have h1:=T.AM ea;have h2:=T.OG ho.1;have h3:=ah_ (o:=q.1) (eQ:=q.2) eq ho.2;rw[T.mg]at h3
  cases e:pE m t.bq (c::r)with
  |none=>rw[e]at h1;cases h1
  |some p=>
   rw[e]at h2 h3;exact(JO (o:=p.1) (s':=p.2) e h2).trans h3
def Hn.l{R:List Kd} :Hn R→Hn R
 | .s l _=>l
 | .j _ l _=>l
 | .c _ h=>h
 |_=> .z
def Hn.r{R:List Kd} :Hn R→Hn R
 | .s _ r=>r
 | .j _ _ r=>r
 | .c _ h=>h
 |_=> .z
def qN(ks:List Kd):List AV:=ks.map fun k=>k.av k.mo
theorem Sr: ∀ks:List Kd,dB ks (qN ks)=some (qN ks)
 |[]=>rfl
 |k::ks=>by
  have h:=Sr ks;unfold qN at h;simp only[qN,aEh,dB,Kd.nrm,Kd.canon,h]
def ur:Lf→Bool
 | .nrm _=>true
 |_=>false
def T.kW:T Lf→Bool
 | .lf a=>ur a
 | .br _ l r=>match l.kW with
   |true=>true
   |false=>r.kW
def T.nL:T Lf→Nat
 | .lf a=>match ur a with
   |true=>1
   |false=>0
 | .br _ l r=>l.nL+r.nL
def T.pn:T Lf→Option St
 | .lf a=>match a with
   | .nrm s=>some s
   |_=>none
 | .br _ l r=>match l.pn with
   |some s=>some s
   |none=>r.pn
def T.wrap(t:T Lf)(o:Ob):Ob:=
 match t with
 | .lf _=>o
 | .br b l r=>match l.kW with
   |true=> .imp b true (l.wrap o)
   |false=> .imp b false (r.wrap o)
def T.subst(t:T Lf)(u:T Lf):T Lf:=
 match t with
 | .lf a=>match ur a with
   |true=>u
   |false=> .lf a
 | .br b l r=> .br b (l.subst u) (r.subst u)
theorem T.rH: ∀{t:T Lf} {s:St},t.bq= .nrm s→t.kW=true
 | .lf a,s,h=>by simp only[T.bq]at h;subst h;rfl
 | .br b l r,s,h=>by
   simp only[T.kW]
   cases b
   ·rw[T.rH (t:=r) h];split<;>rfl
   ·rw[T.rH (t:=l) h]
theorem T.E0: ∀{t:T Lf},t.nL=0→t.kW=false
 | .lf a,h=>by
   cases a<;>first|rfl|(simp [T.nL,ur]at h;done)
 | .br b l r,h=>by
   simp only[T.nL]at h;simp only[T.kW,T.E0 (t:=l) (by omega),T.E0 (t:=r) (by omega)]
theorem T.C5: ∀{t:T Lf},t.kW=true→0<t.nL
 | .lf a,h=>by simp only[T.kW]at h;simp [T.nL,h]
 | .br b l r,h=>by
   simp only[T.kW]at h;simp only[T.nL]
   split at h
   ·rename_i e;have:=T.C5 e;omega
   ·have:=T.C5 h;omega
theorem T.Zl: ∀{t:T Lf},t.kW=false→t.pn=none
 | .lf a,h=>by cases a<;>first|rfl|(simp [T.kW,ur]at h;done)
 | .br b l r,h=>by
   simp only[T.kW]at h
   split at h
   ·cases h
   ·rename_i e;simp only[T.pn,T.Zl (t:=l) (by simpa using e),T.Zl h]
theorem T.X3: ∀{t:T Lf} {s s':St},t.nL=1→t.bq= .nrm s→t.pn=some s'→s=s'
 | .lf a,s,s',_,h,h2=>by
   simp only[T.bq]at h;subst h;simp only[T.pn]at h2
   cases h2;rfl
 | .br b l r,s,s',hc,h,h2=>by
   simp only[T.nL]at hc;simp only[T.pn]at h2
   cases b
   ·have hr:=T.C5 (T.rH (t:=r) h);rw[T.Zl (t:=l) (T.E0 (by omega))]at h2;exact T.X3 (t:=r) (by omega) h h2
   ·have hl:=T.C5 (T.rH (t:=l) h)
    split at h2
    ·cases h2
     rename_i e;exact T.X3 (t:=l) (by omega) h e
    ·rename_i e;obtain⟨s2,h3⟩: ∃s2,l.pn=some s2:=by
      have:=T.rH (t:=l) h;clear h2 hc h hl;revert e;have key: ∀{t:T Lf},t.kW=true→ ∃s2,t.pn=some s2:=by
       intro t
       induction t with
       |lf a=>intro ht;cases a<;>first|exact⟨_,rfl⟩|(simp [T.kW,ur]at ht;done)
       |br b l r ihl ihr=>
        intro ht;simp only[T.kW]at ht;simp only[T.pn]
        split at ht
        ·rename_i e;obtain⟨s2,h⟩:=ihl e;rw[h];exact⟨_,rfl⟩
        ·cases h1:l.pn with
         |some q=>exact⟨q,rfl⟩
         |none=>exact ihr ht
      obtain⟨s2,h5⟩:=key this;intro e;rw[h5]at e;cases e
     rw[h3]at e;cases e
theorem T.ZB: ∀{t:T Lf} {s:St} {o:Ob},t.nL=1→t.bq= .nrm s→(t.wrap o).holds→o.holds
 | .lf a,s,o,_,_,h=>h
 | .br b l r,s,o,hc,hs,h=>by
   simp only[T.nL]at hc;simp only[T.wrap]at h
   cases b
   ·have hr:=T.C5 (T.rH (t:=r) hs);rw[T.E0 (t:=l) (by omega)]at h;exact T.ZB (t:=r) (by omega) hs (h rfl)
   ·have hl:=T.rH (t:=l) hs;rw[hl]at h;exact T.ZB (t:=l) (by have:=T.C5 hl;omega) hs (h rfl)
theorem T.Jc{u:T Lf} : ∀{t:T Lf} {s:St},t.bq= .nrm s→(t.subst u).bq=u.bq
 | .lf a,s,h=>by simp only[T.bq]at h;subst h;rfl
 | .br b l r,s,h=>by
   cases b
   ·exact T.Jc (t:=r) h
   ·exact T.Jc (t:=l) h
theorem T.Jb{u:T Lf} : ∀{t:T Lf},ur t.bq=false→(t.subst u).bq=t.bq
 | .lf a,h=>by simp only[T.bq]at h;simp only[T.subst,h,T.bq]
 | .br b l r,h=>by
   cases b
   ·exact T.Jb (t:=r) h
   ·exact T.Jb (t:=l) h
def IP:Lf→Option St
 | .nrm s=>some s
 |_=>none
def Iq:Lf→Option Lf
 | .nrm _=>none
 | .dead=>none
 |x=>some x
def NW:Lf→Option Bool
 | .nrm _=>some true
 | .dead=>none
 |_=>some false
def Il(id:Nat):Lf→Lf
 | .ext j s=>match Nat.beq j id with
   |true=> .nrm s
   |false=> .ext j s
 |x=>x
def Jz(a b:Option Prop):Option Prop:=
 match a with
 |none=>b
 |some p=>match b with
  |none=>some p
  |some q=>some (p∧q)
def rC(a:Option Prop)(o:Ob):Ob:=
 match a with
 |none=>o
 |some p=> .vX p o
section
variable {R:List Kd}
def dt.ends(L:dt R):Bool:=
 match L.ex with
 |some _=>true
 |none=>L.rt
def dt.b0(L:dt R)(c0:St):St:=EL L.keep L.drop c0
def dt.hd(L:dt R)(b0:St)(s:dp (L.ks.map (·.2))):St:=Ad b0 (L.ks.map (·.1)) (dp.cR (L.ks.map (·.2)) s)
def dt.eQ(L:dt R)(b0:St)(vs:List AV):St:=Ad (EL L.awh L.drop2 b0) (L.es.map (·.1)) vs
def dt.nx(L:dt R)(s:St):Option (dp (L.ks.map (·.2))):=
 match qh L.ks s with
 |some a=>su _ a
 |none=>none
def dt.out(L:dt R)(lf:Lf):Option (List AV):=
 match lf with
 | .ext _ s=>match qh L.es s with
   |some a=>match L.ex with
    |some _=>match L.rt with
     |true=>some (.bool false::(a++qN R))
     |false=>some a
    |none=>none
   |none=>none
 | .ret vs=>match L.rt with
   |true=>match L.ex with
    |some _=>some (.bool true::(qN (L.es.map (·.2))++vs))
    |none=>some vs
   |false=>none
 |_=>none
def dt.lv(L:dt R)(k:Nat)(lf:Lf):Option (dp (sw R L.ex L.rt L.es)):=
 match lf with
 | .nrm s=>match L.nx s with
   |some τ=>some (L.G k τ)
   |none=>none
 | .dead=>none
 |lf=>match L.out lf with
  |some a=>su _ a
  |none=>none
def dt.O0(L:dt R)(t:T Lf)(k:Nat):dp (sw R L.ex L.rt L.es):=
 match t.prune (L.lv k)with
 |some tv=>tv.kL L.m
 |none=>dp.mo _
def dt.O1(L:dt R)(t:T Lf)(k:Nat):Eo:=
 match t.prune (L.lv k)with
 |some tv=>tv.AY L.m
 |none=> .tt
def ajw(ex:Option Nat)(id:Nat):Bool:=
 match ex with
 |some i=>Nat.beq id i
 |none=>false
def dt.YD(L:dt R)(a:List AV):Ob:=
 match L.post with
 |some p=>match su (sw R L.ex L.rt L.es) a with
  |some τ=> .p (p τ)
  |none=> .p False
 |none=> .tt
def dt.zW(L:dt R)(b0:St)(s:dp (L.ks.map (·.2)))(lf:Lf):Ob:=
 match lf with
 | .nrm s'=>match L.nx s' with
   |some τ=> .and (kN s' (L.hd b0 τ)) (.p (L.I τ∧L.mu τ<L.mu s))
   |none=> .p False
 | .ext id s'=>match ajw L.ex id with
   |true=>match qh L.es s' with
    |some a=>match L.out (.ext id s')with
     |some w=> .and (kN s' (L.eQ b0 a)) (L.YD w)
     |none=> .p False
    |none=> .p False
   |false=> .p False
 | .ret vs=>match L.out (.ret vs)with
   |some _=> .tt
   |none=> .p False
 | .dead=> .tt
def agE(l:List AV):Bool:=
 match l with
 | .bool b::_=>b
 |_=>false
def dt.res(L:dt R)(b0:St)(R0:dp (sw R L.ex L.rt L.es)):T Lf:=
 match L.ex with
 |some id=>match L.rt with
  |true=> .br (agE (dp.cR _ R0)) (.lf (.ret ((dp.cR _ R0).drop (1+L.es.length)))) (.lf (.ext id (L.eQ b0 (((dp.cR _ R0).drop 1).take L.es.length))))
  |false=> .lf (.ext id (L.eQ b0 (dp.cR _ R0)))
 |none=>match L.rt with
  |true=> .lf (.ret (dp.cR _ R0))
  |false=> .lf .dead
def dt.fact(L:dt R)(R0:dp (sw R L.ex L.rt L.es)):Option Prop:=
 match L.post with
 |some p=>match L.rt with
  |true=>none
  |false=>some (p R0)
 |none=>none
end
def Hn.pre{R:List Kd}(m:Nat)(st:St):Hn R→Option (Ob×St)
 | .cw dr l=>pC m st dr l
 |_=>some (.tt,st)
theorem Hn.azP{R:List Kd}{m:Nat}{st s':St}{o:Ob} : ∀{h:Hn R},h.pre m st=some (o,s')→o.holds→Le m st s':=fun {h} e ho=>by
 unfold Hn.pre at e
 split at e
 ·exact xc e ho
 ·cases e;exact Le.refl _
noncomputable def I8{R:List Kd}(m:Nat)(f g:Hn R→St→jw)(h:Hn R)(st:St):jw:=
 match h.jn with
 |some z=>match(f z.l st).t.prune IP with
  |some tn=>match On m z.cv z.J tn with
   |some q=>match(f z.l st).t.prune Iq with
    |none=>⟨.and (f z.l st).o (rC (f z.l st).f (.and q.1 (g z.r q.2).o)),Jz (f z.l st).f (g z.r q.2).f,(g z.r q.2).t⟩
    |some tr=>match(f z.l st).t.prune NW with
     |some tb=>⟨.and (f z.l st).o (rC (f z.l st).f (.and q.1 (.and (.es fun _:Unit=>tb.AY z.J.pm) (.imp (tb.kL z.J.pm) true (g z.r q.2).o)))),(f z.l st).f,.br (tb.kL z.J.pm) (g z.r q.2).t tr⟩
     |none=> .bad
   |none=> .bad
  |none=> .bad
 |none=>match(f h.l st).t.nL with
  |0=>f h.l st
  |1=>match(f h.l st).t.pn with
   |some s=>⟨.and (f h.l st).o (rC (f h.l st).f ((f h.l st).t.wrap (g h.r s).o)),(match(f h.l st).t with
    | .lf _=>Jz (f h.l st).f (g h.r s).f
    |_=>(f h.l st).f),(f h.l st).t.subst (g h.r s).t⟩
   |none=> .bad
  |_=> .bad
noncomputable def gk{R:List Kd}(m:Nat)(g:Hn R→St→jw)(h:Hn R)(st:St):jw:=
 match h with
 | .ck aX h'=>match im m aX with
   |true=>⟨.and (kN st aX) (g h' aX).o,(g h' aX).f,(g h' aX).t⟩
   |false=> .bad
 |h=>g h st
noncomputable def Ji{R:List Kd}(m:Nat)(f:Hn R→St→jw):Nat→Hn R→St→jw
 |0,h,st=>match(f h st).t.kW with
  |true=> .bad
  |false=>f h st
 |n+1,h,st=>I8 m f (gk m (Ji m f n)) h st
noncomputable def exec(X:XE)(R:RS):Code→Hn R.kd→St→jw
 | .skip,h,st=>match h with
   | .cw dr l=>match pC X.m st dr l with
     |some p=>⟨p.1,none,.lf (.nrm p.2)⟩
     |none=> .bad
   |_=>⟨.tt,none,.lf (.nrm st)⟩
 | .label _,_,st=>⟨.tt,none,.lf (.nrm st)⟩
 | .region _ ops draw,h,st=>match h with
   | .fz i b h'=>match h'.pre X.m st with
     |none=> .bad
     |some p=>match p.2.tm.getD i .undef with
      | .ptr b' o=>match(Nat.beq b' b&&Nat.beq o 0)with
        |true=>match(p.2.hp.getD b []).all nK&&wF ⟨p.2.tm.set i (.ref (p.2.hp.getD b [])),setAt [] p.2.hp b []⟩&&im X.m ⟨p.2.tm.set i (.ref (p.2.hp.getD b [])),setAt [] p.2.hp b []⟩&&Nat.blt i p.2.tm.length with
         |true=>⟨.and p.1 (ky X ops draw ⟨p.2.tm.set i (.ref (p.2.hp.getD b [])),setAt [] p.2.hp b []⟩).o,none,(ky X ops draw ⟨p.2.tm.set i (.ref (p.2.hp.getD b [])),setAt [] p.2.hp b []⟩).t⟩
         |false=> .bad
        |false=> .bad
      |_=> .bad
   | .cv l=>match AZ st l with
     |some p=>⟨.and p.1 (ky X ops draw p.2).o,none,(ky X ops draw p.2).t⟩
     |none=> .bad
   | .cw dr l=>match pC X.m st dr l with
     |some p=>⟨.and p.1 (ky X ops draw p.2).o,none,(ky X ops draw p.2).t⟩
     |none=> .bad
   | .nw L=>match draw with
     |true=>uP X ops L st
     |false=> .bad
   | .ow=>match X6 X ops.toList draw st with
     |some p=>⟨p.1,none,.lf (.nrm p.2)⟩
     |none=> .bad
   |h=>match h.jn with
    |some z=>match(ky X ops draw st).t.prune IP with
     |some tn=>match On X.m z.cv z.J tn with
      |some q=>⟨.and (ky X ops draw st).o q.1,none,.lf (.nrm q.2)⟩
      |none=> .bad
     |none=> .bad
    |none=>ky X ops draw st
 | .exit id,h,st=>match h with
   | .cw dr l=>match pC X.m st dr l with
     |some p=>⟨p.1,none,.lf (.ext id p.2)⟩
     |none=> .bad
   |_=>⟨.tt,none,.lf (.ext id st)⟩
 | .ret,h,st=>match h with
   | .cw dr l=>match pC X.m st dr l with
     |some p=>match Ar X R p.2 with
      |some q=>⟨.and p.1 q.1,none,.lf (.ret q.2)⟩
      |none=> .bad
     |none=> .bad
   |_=>match Ar X R st with
    |some q=>⟨q.1,none,.lf (.ret q.2)⟩
    |none=> .bad
 | .block id x,h,st=>⟨(exec X R x h st).o,(exec X R x h st).f,(exec X R x h st).t.map (Il id)⟩
 | .cond c x y,h,st=>match aC st.tm c with
   | .lit b=>match b with
     |true=>exec X R x h.l st
     |false=>exec X R y h.r st
   | .bool b=>match h with
     | .c b' h'=>match b' with
       |true=>⟨.and (.e b true) (exec X R x h' st).o,(exec X R x h' st).f,(exec X R x h' st).t⟩
       |false=>⟨.and (.e b false) (exec X R y h' st).o,(exec X R y h' st).f,(exec X R y h' st).t⟩
     |h=>⟨.and (.imp b true (exec X R x h.l st).o) (.imp b false (exec X R y h.r st).o),none,.br b (exec X R x h.l st).t (exec X R y h.r st).t⟩
   |_=> .bad
 | .seq x y,h,st=>I8 X.m (exec X R x) (gk X.m (exec X R y)) h st
 | .loop x,h,st=>match h with
   | .l1 h'=>match(exec X R x h' st).t.kW with
     |true=> .bad
     |false=>exec X R x h' st
   | .un n h'=>Ji X.m (exec X R x) n h' st
   | .lp L h'=>match AZ st L.cv with
     |none=> .bad
     |some p=>match L.ends with
      |false=> .bad
      |true=>match L.nx p.2 with
       |none=> .bad
       |some s0=>⟨.and p.1 (.and (kN p.2 (L.hd (L.b0 p.2) s0)) (.and (.p (L.I s0)) (.and (.e (fun s=>im X.m (L.hd (L.b0 p.2) s)) fun _=>true) (.and (.e (fun v=>im X.m (L.eQ (L.b0 p.2) (dp.cR (L.es.map (·.2)) v))) fun _=>true)
         (.all (L.ks.map (·.2)) L.I fun s=> .and (exec X R x h' (L.hd (L.b0 p.2) s)).o (.and (rC (exec X R x h' (L.hd (L.b0 p.2) s)).f ((exec X R x h' (L.hd (L.b0 p.2) s)).t.Ah (L.zW (L.b0 p.2) s)))
           (.es fun k:Nat=> .and (.e (L.G (k+1) s) (L.O0 (exec X R x h' (L.hd (L.b0 p.2) s)).t k)) (L.O1 (exec X R x h' (L.hd (L.b0 p.2) s)).t k)))))))),
         L.fact (L.G (L.mu s0+1) s0),L.res (L.b0 p.2) (L.G (L.mu s0+1) s0)⟩
   | .zZ L h'=>match AZ st L.cv with
     |none=> .bad
     |some p=>match L.ends with
      |false=> .bad
      |true=>match L.nx p.2 with
       |none=> .bad
       |some s0=>⟨.and p.1 (.and (kN p.2 (L.hd (L.b0 p.2) s0)) (.and (.p (L.I s0)) (.and (.e (fun s=>im X.m (L.hd (L.b0 p.2) s)) fun _=>true) (.and (.e (fun v=>im X.m (L.eQ (L.b0 p.2) (dp.cR (L.es.map (·.2)) v))) fun _=>true)
         (.all (L.ks.map (·.2)) L.I fun s=> .and (exec X R x (h' s) (L.hd (L.b0 p.2) s)).o (.and (rC (exec X R x (h' s) (L.hd (L.b0 p.2) s)).f ((exec X R x (h' s) (L.hd (L.b0 p.2) s)).t.Ah (L.zW (L.b0 p.2) s)))
           (.es fun k:Nat=> .and (.e (L.G (k+1) s) (L.O0 (exec X R x (h' s) (L.hd (L.b0 p.2) s)).t k)) (L.O1 (exec X R x (h' s) (L.hd (L.b0 p.2) s)).t k)))))))),
         L.fact (L.G (L.mu s0+1) s0),L.res (L.b0 p.2) (L.G (L.mu s0+1) s0)⟩
   |_=> .bad
 |_,_,_=> .bad
section
def j5(X:XE)(R:RS)(lf:Lf)(e:Exit)(s:St):Prop:=
 match e with
 | .normal=>match lf with
   | .nrm s'=>Le X.m s s'
   |_=>False
 | .exit id=>match lf with
   | .ext id' s'=>id=id'∧Le X.m s s'
   |_=>False
 | .ret=>match lf with
   | .ret vs=>sJ X R s vs
   |_=>False
 |_=>False
theorem aw7{ks:List (Key×Kd)}{s:St}{a:List AV}(h:qh ks s=some a): ∃τ,su (ks.map (·.2)) a=some τ∧dp.cR (ks.map (·.2)) τ=a:=DQ h
theorem XS: ∀{ks js:List Kd} {aa bs xs ys:List AV},dB ks aa=some xs→dB js bs=some ys→dB (ks++js) (aa++bs)=some (xs++ys)
 |[],js,[],bs,xs,ys,h,k=>by cases h;exact k
 |[],_,_::_,_,_,_,h,_=>by cases h
 |_::_,_,[],_,_,_,h,_=>by cases h
 |k::ks,js,a::aa,bs,xs,ys,h,h2=>by
  simp only[dB]at h
  split at h<;>try (cases h;done)
  rename_i y e
  split at h<;>try (cases h;done)
  rename_i zs e2
  cases h
  have:=XS e2 h2;simp only[aEd,dB,e,this]
theorem wI: ∀{ks:List Kd} {aa xs:List AV},dB ks aa=some xs→xs.length=ks.length
 |[],[],xs,h=>by cases h;rfl
 |[],_::_,_,h=>by cases h
 |_::_,[],_,h=>by cases h
 |k::ks,a::aa,xs,h=>by
  simp only[dB]at h
  split at h<;>try (cases h;done)
  split at h<;>try (cases h;done)
  rename_i zs e2
  cases h
  simp [wI e2]
section
variable {R:List Kd}
theorem dt.aiJ{L:dt R}{lf:Lf}{w:List AV}(h:L.out lf=some w)(hr: ∀vs,lf= .ret vs→ ∃xs,dB R xs=some vs): ∃τ,su (sw R L.ex L.rt L.es) w=some τ∧dp.cR _ τ=w:=by
 unfold dt.out at h;unfold sw
 cases lf<;>simp only at h<;>try (cases h;done)
 ·rename_i id s
  split at h<;>try (cases h;done)
  rename_i a ea
  split at h<;>try (cases h;done)
  rename_i i ei
  cases SH:L.rt<;>rw[SH]at h<;>cases h
  ·simp only;exact DQ ea
  ·simp only;exact DQ (xs:= .bool false::(getAll s (L.es.map (·.1))++qN R)) (by
    have:=XS ea (Sr R);simp only[dB,Kd.nrm,Kd.rd,Vc.YK,Kd.av,this])
 ·rename_i vs;obtain⟨xs,hx⟩:=hr vs rfl
  cases SH:L.rt<;>rw[SH]at h<;>simp only at h<;>try (cases h;done)
  split at h
  ·cases h
   simp only;exact DQ (xs:= .bool true::(qN (L.es.map (·.2))++xs)) (by
    have:=XS (Sr (L.es.map (·.2))) hx;simp only[dB,Kd.nrm,Kd.rd,Vc.YK,Kd.av,this])
  ·cases h
   simp only;exact DQ hx
end
structure AJ (X:XE) (R:RS) (W:(Exit→St→Prop)→St→Prop) (st:St) (r:jw):Prop where
 wp:W (j5 X R r.t.bq) st
 f: ∀p,r.f=some p→p
 ret: ∀vs,r.t.bq= .ret vs→ ∃xs,dB R.kd xs=some vs
 live:r.t.bq≠ .dead
abbrev RP(X:XE)(R:RS)(c:Code)(st:St)(r:jw):Prop:=AJ X R (WP X.env c) st r
set_option maxHeartbeats 1000000
theorem agF(b:Bool)(l:List AV):agE (.bool b::l)=b:=rfl
theorem WP.ah3{X:XE}{R:RS}{x:Code}{st:St}(L:dt R.kd)(c0:St)(s0:dp (L.ks.map (·.2)))(body:dp (L.ks.map (·.2))→jw)(pX:L.ends=true)
  (hb: ∀s,(body s).o.holds→RP X R x (L.hd (L.b0 c0) s) (body s))
  (hle:Le X.m st (L.hd (L.b0 c0) s0)) (h0:L.I s0) (hp: ∀s,im X.m (L.hd (L.b0 c0) s)=true) (ma: ∀v,im X.m (L.eQ (L.b0 c0) (dp.cR (L.es.map (·.2)) v))=true)
  (l9: ∀s,L.I s→(body s).o.holds∧(rC (body s).f ((body s).t.Ah (L.zW (L.b0 c0) s))).holds∧ ∀k:Nat,L.G (k+1) s=L.O0 (body s).t k∧(L.O1 (body s).t k).holds)
  (o:Ob):RP X R (.loop x) st ⟨o,L.fact (L.G (L.mu s0+1) s0),L.res (L.b0 c0) (L.G (L.mu s0+1) s0)⟩:=by
 have ND: ∀s,L.I s→RP X R x (L.hd (L.b0 c0) s) (body s):=fun s hs=>hb s (l9 s hs).1;have V3: ∀s,L.I s→(L.zW (L.b0 c0) s (body s).t.bq).holds:=fun s hs=>by
  obtain⟨h1,h2,_⟩:=l9 s hs;have h3:=(hb s h1).f;unfold rC at h2
  cases e:(body s).f with
  |none=>rw[e]at h2;exact T.IU h2
  |some p=>rw[e]at h2;exact T.IU (h2 (h3 p e))
 have Wj: ∀s,L.I s→ ∀k τ,L.lv k (body s).t.bq=some τ→L.G (k+1) s=τ:=fun s hs k τ hτ=>by
  obtain⟨_,_,h3⟩:=l9 s hs;obtain⟨h4,h5⟩:=h3 k;rw[h4];obtain⟨tv,e1,e2⟩:=T.nB hτ;unfold dt.O0;unfold dt.O1 at h5;rw[e1]at h5 ⊢;simp only at h5 ⊢;rw[T.E2 h5,e2]
 have agP: ∀s,L.I s→ ∀s',(body s).t.bq= .nrm s'→ ∃τ,L.nx s'=some τ∧(kN s' (L.hd (L.b0 c0) τ)).holds∧L.I τ∧L.mu τ<L.mu s∧ ∀k,L.G (k+1) s=L.G k τ:=fun s hs s' el=>by
  have h1:=V3 s hs;rw[el]at h1;simp only[dt.zW]at h1
  split at h1
  ·rename_i τ en;exact⟨τ,en,h1.1,h1.2.1,h1.2.2,fun k=>Wj s hs k _ (by rw[el];simp only[dt.lv,en])⟩
  ·exact h1.elim
 have VS: ∀s,L.I s→ ∀id s',(body s).t.bq= .ext id s'→L.ex=some id∧ ∃a w τ,qh L.es s'=some a∧L.out (.ext id s')=some w∧su _ w=some τ∧dp.cR _ τ=w∧(kN s' (L.eQ (L.b0 c0) a)).holds∧(L.YD w).holds∧ ∀k,L.G (k+1) s=τ:=fun s hs id s' el=>by
  have h1:=V3 s hs;rw[el]at h1;simp only[dt.zW]at h1
  split at h1<;>try exact h1.elim
  rename_i JV
  split at h1<;>try exact h1.elim
  rename_i a ea
  split at h1<;>try exact h1.elim
  rename_i w ew;obtain⟨τ,t1,t2⟩:=dt.aiJ ew (fun vs e=>by cases e);refine⟨?_,a,w,τ,ea,ew,t1,t2,h1.1,h1.2,fun k=>Wj s hs k τ (by rw[el];simp only[dt.lv,ew,t1])⟩;unfold ajw at JV
  split at JV
  ·rename_i i e;rw[e,aCS JV]
  ·cases JV
 have Wi: ∀s,L.I s→ ∀vs,(body s).t.bq= .ret vs→L.rt=true∧ ∃w τ,L.out (.ret vs)=some w∧su _ w=some τ∧dp.cR _ τ=w∧ ∀k,L.G (k+1) s=τ:=fun s hs vs el=>by
  have h1:=V3 s hs;rw[el]at h1;simp only[dt.zW]at h1
  split at h1<;>try exact h1.elim
  rename_i w ew;obtain⟨τ,t1,t2⟩:=dt.aiJ ew (fun Zw e=>by cases e;exact(ND s hs).ret _ el);refine⟨?_,w,τ,ew,t1,t2,fun k=>Wj s hs k τ (by rw[el];simp only[dt.lv,ew,t1])⟩
  cases er:L.rt with
  |true=>rfl
  |false=>
   simp only[dt.out]at ew
   split at ew
   ·rename_i e';rw[er]at e';cases e'
   ·cases ew
 have jm: ∀(q:dp (sw R.kd L.ex L.rt L.es)→Prop),(∀s,L.I s→ ∀τ,(∀id s',(body s).t.bq= .ext id s'→L.G 1 s=τ→q τ)∧(∀vs,(body s).t.bq= .ret vs→L.G 1 s=τ→q τ))→ ∀(k:Nat) s,L.I s→L.mu s≤k→q (L.G (k+1) s):=fun q hq k=>by
  induction k using Nat.strongRecOn with
  |_ k ih=>
   intro s hs hk
   cases el:(body s).t.bq with
   |nrm s'=>
    obtain⟨τ,_,_,h3,h4,h5⟩:=agP s hs s' el;obtain⟨k',rfl⟩: ∃k',k=k'+1:=⟨k-1,by omega⟩;rw[h5];exact ih k' (by omega) τ h3 (by omega)
   |ext id s'=>
    obtain⟨_,a,w,τ,_,_,_,_,_,_,h7⟩:=VS s hs id s' el;rw[h7];exact(hq s hs τ).1 id s' el (h7 0)
   |ret vs=>
    obtain⟨_,w,τ,_,_,_,h7⟩:=Wi s hs vs el;rw[h7];exact(hq s hs τ).2 vs el (h7 0)
   |dead=>exact absurd el (ND s hs).live
 have agT: ∀s,L.I s→ ∀id s',(body s).t.bq= .ext id s'→ ∀k,∃a,(kN s' (L.eQ (L.b0 c0) a)).holds∧im X.m (L.eQ (L.b0 c0) a)=true∧(L.res (L.b0 c0) (L.G (k+1) s)).bq= .ext id (L.eQ (L.b0 c0) a):=fun s hs id s' el k=>by
  obtain⟨hex,a,w,τ,ea,ew,t1,t2,h5,_,h7⟩:=VS s hs id s' el;obtain⟨v,v1,v2⟩:=aw7 ea;have rM:=ma v;rw[v2]at rM;refine⟨a,h5,rM,?_⟩;rw[h7 k];simp only[dt.out,ea,hex]at ew;simp only[dt.res,t2]
  split
  ·rename_i i ei;rw[hex]at ei
   cases ei
   split
   ·rename_i er
    split at ew
    ·cases ew
     simp only[agF,T.bq];have hl:=wI ea;simp only[List.length_map]at hl;simp only[List.drop_one,List.tail_cons,←hl,List.take_left']
    ·rename_i Ff;rw[er]at Ff;cases Ff
   ·rename_i er
    split at ew
    ·rename_i Ff;rw[er]at Ff;cases Ff
    ·cases ew
     rfl
  ·rename_i ei;rw[hex]at ei
   cases ei
 have agV: ∀s,L.I s→ ∀vs,(body s).t.bq= .ret vs→ ∀k,(L.res (L.b0 c0) (L.G (k+1) s)).bq= .ret vs:=fun s hs vs el k=>by
  obtain⟨Wk,w,τ,ew,t1,t2,h7⟩:=Wi s hs vs el;rw[h7 k];simp only[dt.out,Wk]at ew;simp only[dt.res,t2]
  split
  ·rename_i i ei
   split at ew
   ·cases ew
    split
    ·simp only[agF,T.bq];have hl:(qN (L.es.map (·.2))).length=L.es.length:=by simp [qN]
     rw[Nat.add_comm,List.drop_succ_cons,←hl,List.drop_left]
    ·rename_i er;rw[Wk]at er;cases er
   ·rename_i e;rw[ei]at e;cases e
  ·rename_i ei
   split at ew
   ·rename_i e;rw[ei]at e;cases e
   ·cases ew
    split
    ·rfl
    ·rename_i er;rw[Wk]at er;cases er
 refine⟨?_,?_,?_,?_⟩
 ·refine WP.le hle (WP.loop (α:=dp (L.ks.map (·.2))×Nat) (fun p=>L.hd (L.b0 c0) p.1) (fun p=>L.I p.1∧L.mu p.1≤p.2∧L.G (p.2+1) p.1=L.G (L.mu s0+1) s0) (fun p=>L.mu p.1) (s0,L.mu s0) ⟨h0,aCK _,rfl⟩ (Le.refl _) fun p rL=> ?_);obtain⟨s,k⟩:=p;obtain⟨hI,hk,hG⟩:=rL;simp only at hI hk hG;refine(ND s hI).wp.mono fun e s1 kv=> ?_
  cases e<;>simp only[j5]at kv<;>try exact kv.elim
  ·
   split at kv<;>try exact kv.elim
   rename_i s' el;obtain⟨τ,h1,h2,h3,h4,h5⟩:=agP s hI s' el;obtain⟨k',rfl⟩: ∃k',k=k'+1:=⟨k-1,by omega⟩;have h6:L.mu τ≤k':=by omega
   have h7:L.G (k'+1) τ=L.G (L.mu s0+1) s0:=(h5 (k'+1)).symm.trans hG;exact⟨(τ,k'),⟨h3,h6,h7⟩,h4,kv.trans (oL h2 (hp τ))⟩
  ·
   split at kv<;>try exact kv.elim
   rename_i id' s' el;obtain⟨rfl,atd⟩:=kv;obtain⟨a,h1,h2,h3⟩:=agT s hI _ s' el k;rw[hG]at h3;show j5 X R (L.res (L.b0 c0) _).bq (.exit _) s1;rw[h3];exact⟨rfl,atd.trans (oL h1 h2)⟩
  ·
   split at kv<;>try exact kv.elim
   rename_i vs el;have h3:=agV s hI vs el k;rw[hG]at h3;show j5 X R (L.res (L.b0 c0) _).bq .ret s1;rw[h3];exact kv
 ·
  intro p Dp;simp only[dt.fact]at Dp
  split at Dp<;>try (cases Dp;done)
  rename_i q ep
  split at Dp<;>try (cases Dp;done)
  rename_i er
  cases Dp
  refine jm q (fun s hs τ=>⟨fun id s' el hg=> ?_,fun vs el _=> ?_⟩) _ s0 h0 (aCK _)
  ·obtain⟨_,a,w,τ',_,_,t1,_,_,h6,h7⟩:=VS s hs id s' el;rw[h7 0]at hg;subst hg;unfold dt.YD at h6;rw[ep]at h6;simp only[t1]at h6;exact h6
  ·have:=(Wi s hs vs el).1;rw[er]at this;cases this
 ·refine jm (fun τ=> ∀vs,(L.res (L.b0 c0) τ).bq= .ret vs→ ∃xs,dB R.kd xs=some vs) (fun s hs τ=>⟨fun id s' el hg vs hv=> ?_,fun vs el hg Zw hv=> ?_⟩) _ s0 h0 (aCK _)
  ·obtain⟨a,_,_,h3⟩:=agT s hs id s' el 0;rw[hg,hv]at h3
   cases h3
  ·have h3:=agV s hs vs el 0;rw[hg,hv]at h3
   cases h3
   exact(ND s hs).ret _ el
 ·simp only[dt.res]
  split
  ·split
   ·intro h;simp only[T.bq]at h
    split at h<;>cases h
   ·intro h;cases h
  ·split
   ·intro h;cases h
   ·rename_i ei _ er;unfold dt.ends at pX;rw[ei]at pX;simp only at pX;rw[er]at pX;cases pX
theorem IY{X:XE}{ops:Array Oper} : ∀(l:List Oper) (i:Nat) (st:St) (rs:List Rec) (o:Ob) (t:T RL),qp X ops l i st rs=some (o,t)→o.holds→t.bq≠none
 |[],i,st,rs,o,t,h,ho=>by cases h;intro h;cases h
 |p::l,i,st,rs,o,t,h,ho=>by
  simp only[qp,Ia]at h
  split at h<;>try (cases h;done)
  split at h
  ·exact IY l _ _ _ o t h ho
  ·split at h
   ·cases h;exact ho.elim
   split at h<;>try (cases h;done)
   split at h
   ·rename_i b eb
    split at h<;>try (cases h;done)
    rename_i q1 e1
    split at h<;>try (cases h;done)
    rename_i q2 e2
    cases h
    cases b
    ·exact IY l _ _ _ q2.1 q2.2 e2 (ho.2.2 rfl)
    ·exact IY l _ _ _ q1.1 q1.2 e1 (ho.2.1 rfl)
   ·split at h<;>try (cases h;done)
    rename_i q e1
    cases h
    exact IY l _ _ _ q.1 q.2 e1 ho.2
theorem IW{X:XE}{ops:Array Oper} : ∀(l:List Oper) (i:Nat) (st:St) (rs:List Rec) (o:Ob) (t:T RL),uK X ops l i st rs=some (o,t)→o.holds→t.bq≠none
 |[],i,st,rs,o,t,h,ho=>by cases h;intro h;cases h
 |p::l,i,st,rs,o,t,h,ho=>by
  simp only[uK,Ia]at h
  split at h<;>try (cases h;done)
  split at h
  ·exact IW l _ _ _ o t h ho
  ·split at h
   ·cases h;exact ho.elim
   split at h<;>try (cases h;done)
   split at h
   ·rename_i b eb
    split at h<;>try (cases h;done)
    rename_i q1 e1
    split at h<;>try (cases h;done)
    rename_i q2 e2
    cases h
    cases b
    ·exact IW l _ _ _ q2.1 q2.2 e2 (ho.2.2 rfl)
    ·exact IW l _ _ _ q1.1 q1.2 e1 (ho.2.1 rfl)
   ·split at h<;>try (cases h;done)
    rename_i q e1
    cases h
    exact IW l _ _ _ q.1 q.2 e1 ho.2
theorem ajc{X:XE}{ops:Array Oper}{draw:Bool}{st:St}(ho:(ky X ops draw st).o.holds): ∃s,(ky X ops draw st).t.bq= .nrm s:=by
 unfold ky at ho ⊢
 split at ho
 ·exact ho.elim
 ·rename_i q e;obtain⟨o,t⟩:=q;simp only[e];have key:o.holds→ ∃s,(t.map Of).bq= .nrm s:=fun ho=>by
   rw[T.mg]
   cases h:t.bq with
   |none=>exact absurd h (IY _ _ _ _ o t e ho)
   |some q=>exact⟨q.1,rfl⟩
  cases draw with
  |false=>exact key ho
  |true=>
   simp only at ho ⊢
   split at ho
   ·rename_i eb;simp only[eb];exact key ho
   ·exact ho.elim
theorem OW{X:XE}{R:RS}(hE:X.env.Ok){id:Nat}{ops:Array Oper}{draw:Bool}{st:St}(ho:(ky X ops draw st).o.holds):RP X R (.region id ops draw) st (ky X ops draw st):=by
 obtain⟨s,hs⟩:=ajc ho;refine⟨ajd hE ho fun s' h=> ?_,fun p hp=> ?_,fun vs h=> ?_,fun h=> ?_⟩
 ·rw[h];exact Le.refl _
 ·unfold ky at hp
  split at hp
  ·cases hp
  ·split at hp
   ·cases hp
   ·split at hp<;>cases hp
 ·rw[hs]at h;cases h
 ·rw[hs]at h;cases h
theorem az6{X:XE}{R:RS}(hE:X.env.Ok){id:Nat}{ops:Array Oper}{L:List (Nat×Nat)}{st:St}(ho:(uP X ops L st).o.holds):RP X R (.region id ops true) st (uP X ops L st):=by
 have hl: ∃s,(uP X ops L st).t.bq= .nrm s:=by
  unfold uP at ho ⊢
  split at ho
  ·exact ho.elim
  ·rename_i q e;obtain⟨o,t⟩:=q;simp only[e]at ho ⊢
   split at ho
   ·rename_i eb;simp only[eb];rw[T.mg]
    cases h:t.bq with
    |none=>exact absurd h (IW _ _ _ _ o t e ho.1)
    |some q=>exact⟨q.1,rfl⟩
   ·exact ho.elim
 obtain⟨s,hs⟩:=hl;refine⟨az5 hE ho fun s' h=> ?_,fun p hp=> ?_,fun vs h=> ?_,fun h=> ?_⟩
 ·rw[h];exact Le.refl _
 ·unfold uP at hp
  split at hp
  ·cases hp
  ·split at hp<;>cases hp
 ·rw[hs]at h;cases h
 ·rw[hs]at h;cases h
theorem ag6{id:Nat}{lf:Lf} :(∀vs,Il id lf= .ret vs→lf= .ret vs)∧(Il id lf= .dead→lf= .dead):=by
 cases lf<;>simp only[Il]
 ·exact⟨fun _ h=>(by cases h),fun h=>(by cases h)⟩
 ·split<;>exact⟨fun _ h=>(by cases h),fun h=>(by cases h)⟩
 ·exact⟨fun _ h=>h,fun h=>(by cases h)⟩
 ·exact⟨fun _ h=>(by cases h),fun h=>h⟩
theorem aaJ{a b:Option Prop}(ha: ∀p,a=some p→p)(hb: ∀p,b=some p→p): ∀p,Jz a b=some p→p:=by
 intro p h;unfold Jz at h
 split at h
 ·exact hb p h
 ·split at h
  ·cases h;exact ha _ rfl
  ·cases h;exact⟨ha _ rfl,hb _ rfl⟩
theorem MN{a:Option Prop}{o:Ob}(h:(rC a o).holds)(ha: ∀p,a=some p→p):o.holds:=by
 unfold rC at h
 split at h
 ·exact h
 ·exact h (ha _ rfl)
theorem Ph{X:XE}{R:RS}{W:(Exit→St→Prop)→St→Prop}{x:Code}{st:St}{r:jw}(h:RP X R x st r)(hn:ur r.t.bq=false):WP X.env x (iI (W (j5 X R r.t.bq)) (j5 X R r.t.bq)) st:=
 h.wp.mono fun e s hs=>by
  cases e<;>simp only[iI]<;>try exact hs
  simp only[j5]at hs
  split at hs
  ·rename_i s' el;rw[el]at hn;cases hn
  ·exact hs.elim
theorem Y3{X:XE}{R:RS}{W:(Exit→St→Prop)→St→Prop}(hle: ∀{Q st aX},Le X.m st aX→W Q aX→W Q st){x:Code}{st s eQ:St}{r:jw}{Q:Exit→St→Prop}(h:RP X R x st r)(hs:r.t.bq= .nrm s)(hm:Le X.m s eQ)(hy:W Q eQ):WP X.env x (iI (W Q) Q) st:=
 h.wp.mono fun e s1 h1=>by
  rw[hs]at h1
  cases e<;>simp only[j5,iI]at h1 ⊢ <;>try exact h1.elim
  exact hle (h1.trans hm) hy
theorem ajE{X:XE}{R:RS}{W:(Exit→St→Prop)→St→Prop}{x:Code}{f g:Hn R.kd→St→jw}(hle: ∀{Q st aX},Le X.m st aX→W Q aX→W Q st)(hf: ∀h st,(f h st).o.holds→RP X R x st (f h st))(hg: ∀h st,(g h st).o.holds→AJ X R W st (g h st))
  (h:Hn R.kd) (st:St) (ho:(I8 X.m f g h st).o.holds):AJ X R (fun Q st=>WP X.env x (iI (W Q) Q) st) st (I8 X.m f g h st):=by
 unfold I8 at ho ⊢
 split at ho
 ·rename_i z ez
  split at ho<;>try exact ho.elim
  rename_i tn en
  split at ho<;>try exact ho.elim
  rename_i q eq
  split at ho
  ·rename_i er;have hx:=hf z.l st ho.1;have rO:=MN ho.2 hx.f;have hy:=hg z.r q.2 rO.2;have hm:=XC (o:=q.1) (eQ:=q.2) eq rO.1;have h1:Iq (f z.l st).t.bq=none:=by
    cases h:Iq (f z.l st).t.bq with
    |none=>rfl
    |some v=>obtain⟨t',h2,_⟩:=T.nB h;rw[er]at h2;cases h2
   obtain⟨s,hs⟩: ∃s,(f z.l st).t.bq= .nrm s:=by
    cases h:(f z.l st).t.bq with
    |nrm s=>exact⟨s,rfl⟩
    |dead=>exact absurd h hx.live
    |_=>rw[h]at h1;cases h1
   have qa:tn.bq=s:=by
    obtain⟨t',h2,h3⟩:=T.nB (f:=IP) (t:=(f z.l st).t) (x:=s) (by rw[hs];rfl);rw[en]at h2;cases h2;exact h3
   exact⟨Y3 hle hx hs (qa▸hm) hy.wp,aaJ hx.f hy.f,hy.ret,hy.live⟩
  ·rename_i tr er
   split at ho<;>try exact ho.elim
   rename_i tb eb;have hx:=hf z.l st ho.1;have rO:=MN ho.2 hx.f;have hm:=XC (o:=q.1) (eQ:=q.2) eq rO.1;have hc:tb.kL z.J.pm=tb.bq:=T.E2 (rO.2.1 ());have hi:=rO.2.2
   cases h:(f z.l st).t.bq with
   |nrm s=>
    have qa:tn.bq=s:=by
     obtain⟨t',h2,h3⟩:=T.nB (f:=IP) (t:=(f z.l st).t) (x:=s) (by rw[h];rfl);rw[en]at h2;cases h2;exact h3
    have Du:tb.kL z.J.pm=true:=by
     obtain⟨t',h2,h3⟩:=T.nB (f:=NW) (t:=(f z.l st).t) (x:=true) (by rw[h];rfl);rw[eb]at h2;cases h2;exact hc.trans h3
    have hy:=hg z.r q.2 (hi Du);rw[Du];exact⟨Y3 hle hx h (qa▸hm) hy.wp,hx.f,hy.ret,hy.live⟩
   |dead=>exact absurd h hx.live
   |ext id s=>
    have Du:tb.kL z.J.pm=false:=by
     obtain⟨t',h2,h3⟩:=T.nB (f:=NW) (t:=(f z.l st).t) (x:=false) (by rw[h];rfl);rw[eb]at h2;cases h2;exact hc.trans h3
    have zN:tr.bq=(f z.l st).t.bq:=by
     obtain⟨t',h2,h3⟩:=T.nB (f:=Iq) (t:=(f z.l st).t) (x:= .ext id s) (by rw[h];rfl);rw[er]at h2;cases h2;rw[h3,h]
    rw[Du];refine⟨?_,hx.f,?_,?_⟩
    ·show WP _ x (iI (W (j5 X R tr.bq)) (j5 X R tr.bq)) _;rw[zN];exact Ph hx (by rw[h];rfl)
    ·show∀vs,tr.bq= .ret vs→_;rw[zN];exact hx.ret
    ·show tr.bq≠ .dead;rw[zN];exact hx.live
   |ret vs=>
    have Du:tb.kL z.J.pm=false:=by
     obtain⟨t',h2,h3⟩:=T.nB (f:=NW) (t:=(f z.l st).t) (x:=false) (by rw[h];rfl);rw[eb]at h2;cases h2;exact hc.trans h3
    have zN:tr.bq=(f z.l st).t.bq:=by
     obtain⟨t',h2,h3⟩:=T.nB (f:=Iq) (t:=(f z.l st).t) (x:= .ret vs) (by rw[h];rfl);rw[er]at h2;cases h2;rw[h3,h]
    rw[Du];refine⟨?_,hx.f,?_,?_⟩
    ·show WP _ x (iI (W (j5 X R tr.bq)) (j5 X R tr.bq)) _;rw[zN];exact Ph hx (by rw[h];rfl)
    ·show∀vs,tr.bq= .ret vs→_;rw[zN];exact hx.ret
    ·show tr.bq≠ .dead;rw[zN];exact hx.live
 ·rename_i h' db
  split at ho
  ·rename_i ec;have hx:=hf _ st ho;exact⟨Ph hx (by
    cases h:(f h.l st).t.bq with
    |nrm s=>have:=T.rH h;rw[T.E0 ec]at this;cases this
    |_=>rfl),hx.f,hx.ret,hx.live⟩
  ·rename_i ec
   split at ho<;>try exact ho.elim
   rename_i s es;have hx:=hf _ st ho.1;have rO:=MN ho.2 hx.f
   cases p8:(f h.l st).t.bq with
   |nrm s'=>
    have he:=T.X3 ec p8 es;subst he;have hy:=hg _ _ (T.ZB ec p8 rO);refine⟨?_,?_,?_,?_⟩
    ·simp only[T.Jc p8];exact Y3 hle hx p8 (Le.refl _) hy.wp
    ·split
     ·exact aaJ hx.f hy.f
     ·exact hx.f
    ·simp only[T.Jc p8];exact hy.ret
    ·simp only[T.Jc p8];exact hy.live
   |dead=>exact absurd p8 hx.live
   |_=>
    have hn:ur (f h.l st).t.bq=false:=by rw[p8];rfl
    refine⟨?_,?_,?_,?_⟩
    ·simp only[T.Jb hn];exact Ph hx hn
    ·split
     ·rename_i lf el;exfalso;rw[el]at ec p8;simp only[T.bq]at p8;subst p8
      cases ec
     ·exact hx.f
    ·simp only[T.Jb hn];exact hx.ret
    ·simp only[T.Jb hn];exact hx.live
  ·exact ho.elim
theorem ags{X:XE}{R:RS}{W:(Exit→St→Prop)→St→Prop}{g:Hn R.kd→St→jw}(hle: ∀{Q st aX},Le X.m st aX→W Q aX→W Q st)(hg: ∀h st,(g h st).o.holds→AJ X R W st (g h st)): ∀h st,(gk X.m g h st).o.holds→AJ X R W st (gk X.m g h st):=by
 intro h st ho;unfold gk at ho ⊢
 split at ho
 ·split at ho<;>try exact ho.elim
  rename_i hp;have hr:=hg _ _ ho.2;exact⟨hle (oL ho.1 hp) hr.wp,hr.f,hr.ret,hr.live⟩
 ·exact hg _ _ ho
theorem WP.ajj{E:Env}{x:Code}{Q:Exit→St→Prop}{st aX:St}(h:Le E.m st aX): ∀n,WP.As E x Q n aX→WP.As E x Q n st
 |0,k=>k
 |_+1,k=>WP.le h k
theorem aj4{X:XE}{R:RS}{x:Code}{f:Hn R.kd→St→jw}(hf: ∀h st,(f h st).o.holds→RP X R x st (f h st)): ∀(n:Nat) (h:Hn R.kd) (st:St),(Ji X.m f n h st).o.holds→AJ X R (fun Q st=>WP.As X.env x Q (n+1) st) st (Ji X.m f n h st)
 |0,h,st,ho=>by
  unfold Ji at ho ⊢
  split at ho
  ·exact ho.elim
  ·rename_i eN;have hr:=hf h st ho;refine⟨hr.wp.mono fun e s hs=> ?_,hr.f,hr.ret,hr.live⟩
   cases e<;>simp only[iI]<;>try exact hs
   simp only[j5]at hs
   split at hs
   ·rename_i s' el;rw[T.rH el]at eN;cases eN
   ·exact hs
 |n+1,h,st,ho=>ajE (W:=fun Q st=>WP.As X.env x Q (n+1) st) (fun h k=>WP.ajj h _ k) hf (ags (W:=fun Q st=>WP.As X.env x Q (n+1) st) (fun h k=>WP.ajj h _ k) (aj4 hf n)) h st ho
theorem Fh{X:XE}{R:RS}(hE:X.env.Ok): ∀(c:Code) (h:Hn R.kd) (st:St),(exec X R c h st).o.holds→RP X R c st (exec X R c h st):=by
 intro c
 induction c with
 |skip=>
  intro h st ho;simp only[exec]at ho ⊢
  split at ho
  ·split at ho<;>try exact ho.elim
   rename_i p ep;exact⟨WP.skip (xc (o:=p.1) (s':=p.2) ep ho),fun p hp=>(by cases hp),fun vs h=>(by cases h),fun h=>(by cases h)⟩
  ·exact⟨WP.skip (Le.refl _),fun p hp=>(by cases hp),fun vs h=>(by cases h),fun h=>(by cases h)⟩
 |label l=>
  intro h st ho;exact⟨WP.label (Le.refl _),fun p hp=>(by cases hp),fun vs h=>(by cases h),fun h=>(by cases h)⟩
 |exit id=>
  intro h st ho;simp only[exec]at ho ⊢
  split at ho
  ·split at ho<;>try exact ho.elim
   rename_i p ep;exact⟨WP.exit ⟨rfl,xc (o:=p.1) (s':=p.2) ep ho⟩,fun p hp=>(by cases hp),fun vs h=>(by cases h),fun h=>(by cases h)⟩
  ·exact⟨WP.exit ⟨rfl,Le.refl _⟩,fun p hp=>(by cases hp),fun vs h=>(by cases h),fun h=>(by cases h)⟩
 |ret=>
  intro h st ho;simp only[exec]at ho ⊢
  split at ho
  ·split at ho<;>try exact ho.elim
   rename_i p ep
   split at ho<;>try exact ho.elim
   rename_i q e;obtain⟨h1,h2⟩:=YR (o:=q.1) (vs:=q.2) e ho.2;exact⟨WP.le (xc (o:=p.1) (s':=p.2) ep ho.1) (WP.ret h1),fun p hp=>(by cases hp),fun vs h=>(by cases h;exact h2),fun h=>(by cases h)⟩
  ·split at ho<;>try exact ho.elim
   rename_i q e;obtain⟨h1,h2⟩:=YR (o:=q.1) (vs:=q.2) e ho;exact⟨WP.ret h1,fun p hp=>(by cases hp),fun vs h=>(by cases h;exact h2),fun h=>(by cases h)⟩
 |region id ops draw=>
  intro h st ho;simp only[exec]at ho ⊢
  split at ho
  ·split at ho<;>try exact ho.elim
   rename_i p ep
   split at ho<;>try exact ho.elim
   rename_i b' o' e0
   split at ho<;>try exact ho.elim
   rename_i e1
   split at ho<;>try exact ho.elim
   rename_i e3;simp only[aCN]at e1 e3;obtain⟨⟨⟨g1,g2⟩,g3⟩,g4⟩:=e3;have hb:=aCS e1.1;have NA:=aCS e1.2;subst hb NA;have hr:=OW (R:=R) (id:=id) hE ho.2;refine⟨WP.le (Hn.azP (o:=p.1) (s':=p.2) ep ho.1) (WP.apA _ _ _ ?_ rfl g1 g2 hr.wp g3),fun p hp=>(by cases hp),hr.ret,hr.live⟩;have hi:_<p.2.tm.length:=aC1 g4;rw[aCP hi];simp only[List.getD,aCP hi,aDk]at e0;rw[e0]
  ·rename_i l
   split at ho<;>try exact ho.elim
   rename_i p ep;have hr:=OW (R:=R) (id:=id) hE ho.2;refine⟨WP.le (JJ (ob:=p.1) (aX:=p.2) ep ho.1) hr.wp,fun p hp=>(by cases hp),hr.ret,hr.live⟩
  ·split at ho<;>try exact ho.elim
   rename_i p ep;have hr:=OW (R:=R) (id:=id) hE ho.2;refine⟨WP.le (xc (o:=p.1) (s':=p.2) ep ho.1) hr.wp,fun p hp=>(by cases hp),hr.ret,hr.live⟩
  ·split at ho<;>try exact ho.elim
   exact az6 hE ho
  ·split at ho<;>try exact ho.elim
   rename_i p ep;refine⟨(ay7 (o:=p.1) (s':=p.2) hE ep ho id).mono fun e s hs=> ?_,fun p hp=>(by cases hp),fun vs h=>(by cases h),fun h=>(by cases h)⟩;obtain⟨rfl,rfl⟩:=hs;exact Le.refl _
  ·split at ho
   ·rename_i z ez
    split at ho<;>try exact ho.elim
    rename_i tn en
    split at ho<;>try exact ho.elim
    rename_i q eq;obtain⟨s,hs⟩:=ajc ho.1;have hm:=XC (o:=q.1) (eQ:=q.2) eq ho.2;have qa:tn.bq=s:=by
     obtain⟨t',h2,h3⟩:=T.nB (f:=IP) (t:=(ky X ops draw st).t) (x:=s) (by rw[hs];rfl);rw[en]at h2;cases h2;exact h3
    refine⟨ajd hE ho.1 fun s' h=> ?_,fun p hp=>(by cases hp),fun vs h=>(by cases h),fun h=>(by cases h)⟩;rw[hs]at h
    cases h
    exact qa▸hm
   ·exact OW hE ho
 |block id x ih=>
  intro h st ho;simp only[exec]at ho ⊢;have hr:=ih h st ho;refine⟨WP.block (hr.wp.mono fun e s hs=> ?_),hr.f,fun vs hv=> ?_,fun hd=> ?_⟩
  ·simp only[T.mg];generalize (exec X R x h st).t.bq=lf at hs
   cases e with
   |normal=>
    simp only[j5]at hs
    cases lf<;>simp only at hs<;>first|exact hs.elim|exact hs
   |exit j=>
    simp only[j5]at hs
    cases lf<;>simp only at hs<;>try exact hs.elim
    obtain⟨rfl,hs⟩:=hs;simp only[EN,Il]
    cases ej:Nat.beq j id with
    |true=>rw[aCL (aCS ej)];exact hs
    |false=>
     rw[aCM (by intro e;rw[e,aDp]at ej;cases ej)];exact⟨rfl,hs⟩
   |ret=>
    simp only[j5]at hs
    cases lf<;>simp only at hs<;>first|exact hs.elim|exact hs
   |_=>exact hs.elim
  ·rw[T.mg]at hv;exact hr.ret vs (ag6.1 vs hv)
  ·rw[T.mg]at hd;exact hr.live (ag6.2 hd)
 |cond c x y rV rW=>
  intro h st ho;simp only[exec]at ho ⊢
  split at ho
  ·rename_i b eb
   cases b with
   |true=>
    have hr:=rV _ _ ho;refine⟨fun S hS ι a w hs=> ?_,hr.f,hr.ret,hr.live⟩;have hc:=hs.eval c;rw[eb]at hc;refine wp_cond hc.lit ?_;exact hr.wp S hS ι a w hs
   |false=>
    have hr:=rW _ _ ho;refine⟨fun S hS ι a w hs=> ?_,hr.f,hr.ret,hr.live⟩;have hc:=hs.eval c;rw[eb]at hc;refine wp_cond hc.lit ?_;exact hr.wp S hS ι a w hs
  ·rename_i b eb
   split at ho
   ·rename_i b' h'
    cases b' with
    |true=>
     have hr:=rV _ _ ho.2;have hb:b=true:=ho.1;exact⟨WP.cond eb (fun _=>hr.wp) (fun h=>by rw[hb]at h;cases h),hr.f,hr.ret,hr.live⟩
    |false=>
     have hr:=rW _ _ ho.2;have hb:b=false:=ho.1;exact⟨WP.cond eb (fun h=>by rw[hb]at h;cases h) (fun _=>hr.wp),hr.f,hr.ret,hr.live⟩
   ·cases b with
    |true=>
     have hr:=rV _ _ (ho.1 rfl);exact⟨WP.cond eb (fun _=>hr.wp) (fun h=>by cases h),fun p hp=>(by cases hp),hr.ret,hr.live⟩
    |false=>
     have hr:=rW _ _ (ho.2 rfl);exact⟨WP.cond eb (fun h=>by cases h) (fun _=>hr.wp),fun p hp=>(by cases hp),hr.ret,hr.live⟩
  ·exact ho.elim
 |seq x y rV rW=>
  intro h st ho;simp only[exec]at ho ⊢;have hr:=ajE (W:=WP X.env y) (fun h k=>WP.le h k) rV (ags (fun h k=>WP.le h k) rW) h st ho;exact⟨WP.seq hr.wp,hr.f,hr.ret,hr.live⟩
 |loop x ih=>
  intro h st ho;simp only[exec]at ho ⊢
  split at ho
  ·rename_i h'
   split at ho
   ·exact ho.elim
   ·rename_i eN;have hr:=ih h' st ho;refine⟨WP.axu (hr.wp.mono fun e s hs=> ?_),hr.f,hr.ret,hr.live⟩
    cases e<;>simp only[iI]<;>try exact hs
    simp only[j5]at hs
    split at hs
    ·rename_i s' el;rw[T.rH el]at eN;cases eN
    ·exact hs
  ·rename_i n h';have hr:=aj4 ih n h' st ho;exact⟨WP.rounds _ hr.wp,hr.f,hr.ret,hr.live⟩
  ·rename_i L h'
   split at ho
   ·exact ho.elim
   rename_i p ec
   split at ho
   ·exact ho.elim
   rename_i pX
   split at ho
   ·exact ho.elim
   rename_i s0 es;obtain⟨h0,h1,h2,h3,h4,h5⟩:=ho;have hp: ∀s,im X.m (L.hd (L.b0 p.2) s)=true:=fun s=>congrFun h3 s;have hr:=WP.ah3 (X:=X) (R:=R) (st:=p.2) L p.2 s0 (fun s=>exec X R x h' (L.hd (L.b0 p.2) s)) pX (fun s ho=>ih h' _ ho) (oL h1 (hp s0)) h2 hp (fun v=>congrFun h4 v)
    (fun s hs=>⟨(h5 s hs).1,(h5 s hs).2.1,fun k=>⟨((h5 s hs).2.2 k).1,((h5 s hs).2.2 k).2⟩⟩) .tt
   exact⟨WP.le (JJ (ob:=p.1) (aX:=p.2) ec h0) hr.wp,hr.f,hr.ret,hr.live⟩
  ·rename_i L h'
   split at ho
   ·exact ho.elim
   rename_i p ec
   split at ho
   ·exact ho.elim
   rename_i pX
   split at ho
   ·exact ho.elim
   rename_i s0 es;obtain⟨h0,h1,h2,h3,h4,h5⟩:=ho;have hp: ∀s,im X.m (L.hd (L.b0 p.2) s)=true:=fun s=>congrFun h3 s;have hr:=WP.ah3 (X:=X) (R:=R) (st:=p.2) L p.2 s0 (fun s=>exec X R x (h' s) (L.hd (L.b0 p.2) s)) pX (fun s ho=>ih (h' s) _ ho) (oL h1 (hp s0)) h2 hp (fun v=>congrFun h4 v)
    (fun s hs=>⟨(h5 s hs).1,(h5 s hs).2.1,fun k=>⟨((h5 s hs).2.2 k).1,((h5 s hs).2.2 k).2⟩⟩) .tt
   exact⟨WP.le (JJ (ob:=p.1) (aX:=p.2) ec h0) hr.wp,hr.f,hr.ret,hr.live⟩
  ·exact ho.elim
 |_=>exact fun h st ho=>ho.elim
end
end Go.Vc
