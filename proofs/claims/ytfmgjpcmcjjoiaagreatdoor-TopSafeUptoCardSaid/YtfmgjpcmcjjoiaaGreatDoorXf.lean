import Derived.Test.YtfmgjpcmcjjoiaaGreatDoorXe
import Derived.Test.YtfmgjpcmcjjoiaaGreatDoorRows
open Go.IntKind (i64 u64 u8)
open Int (toNat)
set_option maxRecDepth 100000
set_option maxHeartbeats 4000000
set_option linter.all false
noncomputable section
namespace Go.af
open Go Go.RowKit
section
variable {E:Env} {S:dM} {ops:Array Oper} {rs:List Rec} {cE:K} {iO:Nat→Option Nat}
theorem YM{b o:Nat} : ∀{cs:List J},cs.isEmpty=false→hC b cs o≠[]
 |[],h=>by cases h
 |_::_,_=>by simp [hC]
theorem aAi{au c:Nat}{r b:J}{a:bM}(h:th au r a fun av a=>av=b∧a=[]):th c r a fun av a=>av=b∧a=[]:=by
 cases r<;>simp only[th]at h ⊢ <;>first|exact h|exact absurd h.2 (by simp)
theorem arz{E:Env}{au:Nat}{H:Heap}{f:FuncId}{aa:List J}{n:J}(a:nh E H au f aa fun av t=>av=n∧t=[]):False:=by
 unfold nh at a;obtain⟨h,a⟩:=ay.1 a
 cases l:E.nj f (aa.map (kI (pos (dN H aa)))) ((dN H aa).map fun b=>(H.getD b []).map (fi (pos (dN H aa))))with
 |none=>rw[l]at a;exact a
 |some q=>
  obtain⟨v,rs,m⟩:=q;rw[l]at a;obtain⟨u,a⟩:=pw.1 a;obtain⟨i,_,p⟩:=ay.1 a;simp only[bL,iL]at h i;obtain⟨⟨_,k⟩,_⟩:=h;obtain⟨⟨⟨o,d⟩,_⟩,_⟩:=i
  cases m with
  |nil=>cases o
  |cons y m=>
   have r:y≠[]:=by
    cases g:dN H aa with
    |nil=>
     rw[g]at d;simp only[pB,yM,bL]at d;intro e;rw[e]at d;cases d.1
    |cons b L=>
     rw[g]at d k;have j:=ds.1 k b (by simp);simp only[bL]at j;obtain⟨_,z,w,s⟩:=FX j.1;simp only[pB,bL]at d;have:=dQ d.1;rw[s]at this;intro e;rw[e]at this;simp at this
   cases y with
   |nil=>exact r rfl
   |cons c y=>simp [rH,hC]at p
theorem al1{E:Env}{au C:Nat}{n:List J}{H:Heap}{e:Op}{p:J}(a:qN e=true)(h:hW E au n H e fun av o=>av=p∧o=[]):hW E C n H e fun av o=>av=p∧o=[]:=by
 cases e<;>simp only[qN]at a<;>try (cases a;done)
 case alloc T=>
  simp only[hW,dx]at h ⊢
  split at h
  ·simp only[ay,iL]at h;exact absurd h.2.2 (YM h.1)
  ·exact h.elim
 case box T x=>
  simp only[hW,ay,bL,iL]at h;exact absurd h.2.2 (YM h.1.2)
 case buildSlice T D F=>
  simp only[hW,dx]at h
  split at h
  ·unfold pZ at h
   split at h
   ·split at h
    ·obtain⟨_,h⟩:=ay.1 h;obtain⟨_,_,_,_,_,j⟩:=QH h;simp at j
    ·exact h.elim
   ·exact h.elim
  ·exact h.elim
 case makeSlice T l c=>
  simp only[hW,dx]at h
  split at h
  ·unfold qV at h
   split at h
   ·split at h
    ·split at h
     ·split at h
      ·obtain⟨_,_,_,j⟩:=ay.1 h
       cases j
      ·exact h.elim
     ·exact h.elim
    ·exact h.elim
   ·exact h.elim
  ·exact h.elim
 case call c=>
  simp only[hW]at h ⊢
  cases i:c.callee with
  |value f=>
   rw[i]at h;simp only at h ⊢;unfold y3 at h ⊢
   split at h
   ·rename_i g v hb
    cases q:xS E.ed g (c.args.toList.map (ax n)++v)with
    |true=>
     rw[q]at h;simp only at h;exact(arz h).elim
    |false=>
    rw[q]at h;simp only at h ⊢;obtain⟨w,h⟩:=ay.1 h;refine ay.2 ⟨w,?_⟩;unfold tT at h ⊢;refine Dc (fun y k=> ?_) h;revert k
    split
    ·intro k;obtain⟨z,A⟩:=pw.1 k;exact pw.2 ⟨z,aAi A⟩
    ·exact id
   ·exact h.elim
  |invoke r m=>rw[i]at a;cases a
  |builtin b=>
   rw[i]at h a
   cases b<;>simp only at a h ⊢ <;>try (cases a;done)
   split at h
   ·simp only[dx]at h
    split at h
    ·split at h
     ·obtain⟨_,h⟩:=ay.1 h;unfold nF at h
      split at h
      ·obtain⟨_,h⟩:=ay.1 h;have B: ∀{y:J} {K:Nat→(Nat→List J)→Prop},(∀m g,¬K m g)→ ∀{u:Bool} {s:Nat},¬mu H u s y K:=fun {y K} t u s d=>by
        cases y<;>simp only[mu]at d<;>first|exact d|exact t _ _ (ay.1 d).2|skip
        split at d
        ·exact t _ _ (ay.1 d).2.2
        ·exact d
       refine absurd h (B fun m g hh=> ?_)
       split at hh
       ·cases hh.2.2
       ·split at hh
        ·obtain⟨_,_,_,_,_,hh⟩:=ay.1 hh
         cases hh.2
        ·exact hh
       ·obtain⟨_,_,_,_,_,hh⟩:=ay.1 hh
        cases hh.2
       ·exact hh
      ·exact h.elim
     ·exact h.elim
    ·exact h.elim
   ·exact h.elim
structure Inv (S:dM) (ops:Array Oper) (z:List (Oper×Rec)) (cE:K) (iO:Nat→Option Nat) (listed:Array Bool) (a:Act) (w:World):Prop where
 size:listed.size=ops.size
 closed: ∀(j:Nat) o,ops[j]? =some o→listed.getD j false=true→ ∀e∈o.after,Region.binds .any e=true→listed.getD e.on false=true
 ahu: ∃ι,aP S ι (acc (fun i=>listed.getD i false) z 0 cE) a w∧ ∀b,ι b≠none→iO b≠none∨ ∃(i:Nat) (o:Oper) (r:Rec) (p:Nat),listed.getD i false=true∧z[i]? =some (o,r)∧writes r.ws b p
theorem TW{b p:Nat}{v:J} : ∀(a:bM) (H:Heap),B H b p=v→(∀c,(b,p,c)∈a→c=v)→B (bt H a) b p=v
 |[],_,h,_=>h
 |(f,j,c)::a,H,h,d=>by
  rw[bt];refine TW a _ ?_ fun g i=>d g (List.mem_cons_of_mem _ i);rw[eG]
  by_cases e:b=f∧p=j
  ·obtain⟨rfl,rfl⟩:=e;rw[bf ⟨rfl,rfl⟩];exact d c (List.mem_cons_self ..)
  ·rw[a7 e];exact h
theorem Cy{L:Nat→Bool}{b p:Nat}{v:J} : ∀(l:List (Oper×Rec)) (k:Nat) (st:K),B st.k b p=v→(∀o r,(o,r)∈l→ ∀c,(b,p,c)∈r.ws→c=v)→B (acc L l k st).k b p=v
 |[],_,_,h,_=>h
 |(o,r)::l,k,st,h,a=>by
  rw[acc];refine Cy l (k+1) _ ?_ fun e f d=>a e f (List.mem_cons_of_mem _ d)
  cases L k
  ·exact h
  ·exact TW r.ws st.k h (a o r (List.mem_cons_self ..))
theorem KG{l:Array Bool}{i:Nat}(h:i<l.size)(d a:Bool):l.getD i d=l.getD i a:=by simp [h]
theorem aBa(mb:E.dm){Q:Exit→Act→World→Prop}{j9:K}(arD:tH E ops ops.toList cE rs j9)(Z:yT cE.k ops rs)(adl: ∀b x,iO b=some x→b<cE.k.length)
  {D:Array Bool} {a:Act} {w:World} (M:Inv S ops (ops.toList.zip rs) cE iO D a w) {j:Nat} (fg:j∈Region.ready .any ops D) {next:Act→World→Prop}
  (eX: ∀a w,Inv S ops (ops.toList.zip rs) cE iO (D.setIfInBounds j true) a w→next a w):wpOp E.P ops Q j next a w:=by
 obtain⟨N,aq5,Z⟩:=Z;obtain⟨asJ,g,Ld,ac8⟩:=mem_ready.1 fg;obtain⟨hlen,_,arj⟩:=arD.at 0;have K7:j<ops.size:=(rh.1 Ld).1;have ar1:j<rs.length:=by rw[←hlen];simpa using K7
 obtain⟨d,asx⟩: ∃d,rs[j]? =some d:=⟨_,cI ar1⟩;have G:(ops.toList.zip rs)[j]? =some (g,d):=WV.2 ⟨by simpa using Ld,asx⟩;have Lf:=arj j g d G;rw[c1]at Lf;obtain⟨ι,Lm,T1⟩:=M.ahu;have Fs: ∀b p,N b p=true→ ∀o r,(o,r)∈ops.toList.zip rs→ ∀c,(b,p,c)∈r.ws→c=B cE.k b p:=fun b p s o r U c Y=>aq5 b p s r (List.of_mem_zip U).2 c Y;generalize hf:ops.toList.zip rs=z at*
 let L:Nat→Bool:=fun i=>D.getD i false;let T:Nat→Bool:=fun i=>decide (i<j);have O:L j=false:=by
  have:D.getD j false=D.getD j true:=KG (by rw[M.size];exact K7) _ _;show D.getD j false=false;rw[this];exact asJ
 have P: ∀(k:Nat) ok vq,z[k]? =some (ok,vq)→k≠j→L k=T k∨Xx (N) ops g d ok vq:=fun k ok vq f ar5=>by
  subst hf;exact aoe Z (L:=L) M.closed G f ar5 O ac8
 have TN: ∀t∈g.looksAt ops,(acc L z 0 cE).n[t]? =(acc T z 0 cE).n[t]? :=fun t h2=>by
  refine Hv z 0 cE cE rfl fun k o r f q=> ?_;rw[c1]
  by_cases e:k=j
  ·subst e;rw[O];simp [T]
  ·exact(P k o r f e).elim id fun m=>absurd h2 (m.look t q)
 have asS:rb ops g (acc L z 0 cE).n=some d.run:=by rw[aCn TN];exact Lf.wanted
 have hw:=WO Lm asS;let C:Nat→Bool:=fun i=>(D.setIfInBounds j true).getD i false;have R: ∀i,C i=if i=j then true else L i:=fun i=>by
  by_cases e:i=j
  ·subst e;simp [C,M.size,K7]
  ·rw[a7 e];exact getD_set_ne false (fun zh=>e zh.symm)
 have ac6:acc (fun i=>decide (i<j+1)) z 0 cE=g_ g d (acc T z 0 cE):=by
  have:=X_ z 0 j cE g d G;simpa[T]using this
 have fin: ∀(eb:Nat→Option Nat) (W:Act) (w':World),aP S eb (g_ g d (acc L z 0 cE)) W w'→(∀b,eb b≠none→ι b≠none∨ ∃p c,(b,p,c)∈d.ws)→next W w':=fun eb W w' oa A=>by
  refine eX W w' ⟨by simp [M.size],fun k ok f adw=> ?_,eb,?_,fun b A0=> ?_⟩
  ·intro e he ada
   by_cases Zz:k=j
   ·subst Zz;rw[Ld]at f;cases f;exact getD_set_true (ac8 e he ada)
   ·rw[getD_set_ne false (fun zh=>Zz zh.symm)]at adw;exact getD_set_true (M.closed k ok f adw e he ada)
  ·have asF:(acc C z 0 cE).n=(g_ g d (acc L z 0 cE)).n:=by
    apply vE;intro t
    by_cases nJ:g.dst=some t
    ·have u:(acc C z 0 cE).n[t]? =(acc (fun i=>decide (i<j+1)) z 0 cE).n[t]? :=by
      refine Hv z 0 cE cE rfl fun k o r f q=> ?_;rw[c1,R]
      by_cases e:k=j
      ·subst e;simp
      ·rw[a7 e];refine(P k o r f e).elim (fun h=> ?_) fun m=>absurd nJ (m.dst t q);rw[h];simp only[T]
       congr 1;exact propext ⟨fun h=>by omega,fun h=>by omega⟩
     rw[u,ac6];simp only[g_,CZ,nJ,kN];have nn:=(Cw (L:=T) z 0 cE).1;have aEc:=(Cw (L:=L) z 0 cE).1;rcases fk t cE.n.length with h|h
     ·rw[cI (by omega),cI (by omega)];rfl
     ·rw[eF (by omega),eF (by omega)]
    ·simp only[g_,CZ,nJ,mx];refine Hv z 0 cE cE rfl fun k o r f q=> ?_;rw[c1,R]
     by_cases e:k=j
     ·subst e;rw[G]at f;cases f;exact absurd q nJ
     ·rw[a7 e]
   have arX: ∀b p,B (acc C z 0 cE).k b p=B (g_ g d (acc L z 0 cE)).k b p:=fun b p=>by
    by_cases s:N b p=true
    ·have u:=Cy (L:=C) z 0 cE rfl (Fs b p s);have F:=Cy (L:=L) z 0 cE rfl (Fs b p s);rw[u];exact(TW d.ws _ F (Fs b p s g d (e0 G))).symm
    have s:N b p=false:=by simpa using s
    by_cases Ie:writes d.ws b p
    ·have u:B (acc C z 0 cE).k b p=B (acc (fun i=>decide (i<j+1)) z 0 cE).k b p:=by
      refine Cu z 0 cE cE rfl fun k o r f q=> ?_;rw[c1,R]
      by_cases e:k=j
      ·subst e;simp
      ·rw[a7 e];refine(P k o r f e).elim (fun h=> ?_) fun m=>absurd Ie (m.ws b p s q);rw[h];simp only[T]
       congr 1;exact propext ⟨fun h=>by omega,fun h=>by omega⟩
     rw[u,ac6];exact TU _ _ _ _ _ (.inl Ie)
    ·rw[show B (g_ g d (acc L z 0 cE)).k b p=B (acc L z 0 cE).k b p from Lp _ _ _ _ Ie];refine Cu z 0 cE cE rfl fun k o r f q=> ?_;rw[c1,R]
     by_cases e:k=j
     ·subst e;rw[G]at f;cases f;exact absurd q Ie
     ·rw[a7 e]
   have Fm:=Cw (L:=C) z 0 cE;show aP S eb ⟨(acc C z 0 cE).n,(acc C z 0 cE).k⟩ W w';rw[asF];refine aP.ext (H:=(g_ g d (acc L z 0 cE)).k) oa arX fun b x jC=> ?_;rcases A b (by rw[jC];simp)with h|⟨p,c,Y⟩
   ·rcases T1 b h with h|⟨i,o,r,p,u,F,X⟩
    ·cases e:iO b with
     |none=>exact absurd e h
     |some y=>exact gk (adl b y e) Fm.2.1
    ·refine Fm.2.2 i o r F ?_ b p X;rw[c1,R]
     by_cases e:i=j
     ·rw[bf e]
     ·rw[a7 e];exact u
   ·exact Fm.2.2 j g d G (by rw[c1,R,bf rfl]) b p ⟨c,Y⟩
  ·rcases A b A0 with h|⟨p,c,Y⟩
   ·rcases T1 b h with h|⟨i,o,r,p,u,F,X⟩
    ·exact .inl h
    ·exact .inr ⟨i,o,r,p,getD_set_true u,F,X⟩
   ·exact .inr ⟨j,g,d,p,by simp [M.size,K7],G,⟨c,Y⟩⟩
 unfold wpOp;rw[Ld];simp only;rw[hw]
 cases n_:d.run with
 |false=>
  obtain⟨u,F⟩:=Lf.no n_;rw[a7 (by simp)];refine fin ι _ w ?_ fun b A=> .inl A;have:=aP.dst Lm g.dst (av:= .gone) (v:=undef) rfl;simp only[g_,u,F,bt];exact this
 |true=>
  rw[bf rfl];left;obtain⟨⟨PE,u,ar_⟩,F,aqu,X⟩:=Lf.yes n_;have Fo:hW E d.au (acc L z 0 cE).n (acc L z 0 cE).k g.op (fun av I=>av=PE∧I=d.ws):=by
   refine al0 (n:=(acc T z 0 cE).n) (H:=(acc T z 0 cE).k) (fun x jC=>an7 fun t e=>TN t (by subst e;exact aw7 jC)) (fun l n9=> ?_) (fun b A=> ?_) u
   ·by_cases s:N l.1 l.2=true
    ·rw[Cy (L:=L) z 0 cE rfl (Fs _ _ s),Cy (L:=T) z 0 cE rfl (Fs _ _ s)]
    have s:N l.1 l.2=false:=by simpa using s
    refine Cu z 0 cE cE rfl fun k o r f q=> ?_;rw[c1]
    by_cases e:k=j
    ·subst e;rw[O];simp [T]
    ·exact(P k o r f e).elim id fun m=>absurd (by rw[F];exact n9) (m.rd l.1 l.2 s q)
   ·refine X8 z 0 cE cE rfl fun k o r f ⟨p,q⟩=> ?_;rw[c1]
    by_cases e:k=j
    ·subst e;rw[O];simp [T]
    ·exact(P k o r f e).elim id fun m=>absurd q (m.gw b (by rw[aqu];exact A) p)
  obtain⟨au,V,Fo,arS,Fa⟩: ∃(au:Nat) (V:Nat→Prop),hW E au (acc L z 0 cE).n (acc L z 0 cE).k g.op (fun av I=>av=PE∧I=d.ws)∧(qN g.op=true→V au∧ ∀b,V b→(∀p,B (acc L z 0 cE).k b p= .undef)∧ι b=none)∧
    ∀(av:J) (I:bM),(av=PE∧I=d.ws)→ ∀b p c,(b,p,c)∈I→au<b→V b:=by
   by_cases Lq:d.ws=[]∧qN g.op=true
   ·refine⟨(acc L z 0 cE).k.length,fun b=>b=(acc L z 0 cE).k.length,by rw[Lq.1]at Fo ⊢;exact al1 Lq.2 Fo,fun _=>⟨rfl,fun b A=> ?_⟩,fun av I h b p c U=>by rw[h.2,Lq.1]at U;cases U⟩;subst A;refine⟨fun p=>sJ (bC _) p,?_⟩
    cases e:ι (acc L z 0 cE).k.length with
    |none=>rfl
    |some x=>exact absurd (Lm.gn _ x e) (Nat.lt_irrefl _)
   refine⟨d.au,(· ∈s8 d),Fo,fun KS=>⟨by simp [s8],fun b KT=> ?_⟩,fun av I h b p c U A=>ax_ (by rw[←h.2];exact U) A⟩;have je:d.ws≠[]:=fun e=>Lq ⟨e,KS⟩;have sI:(acc T z 0 cE).k.length≤b:=dB X (ax9 KT);refine⟨fun p=> ?_,?_⟩
   ·have:B (acc L z 0 cE).k b p=B (acc T z 0 cE).k b p:=by
     refine Cu z 0 cE cE rfl fun k o r f q=> ?_;rw[c1]
     by_cases e:k=j
     ·subst e;rw[O];simp [T]
     ·exact(P k o r f e).elim id fun m=>absurd q (m.au KS je b KT p)
    rw[this];exact sJ sI p
   ·cases e:ι b with
    |none=>rfl
    |some x=>
     exfalso;rcases T1 b (by rw[e];simp)with h|⟨i,o,r,p,hZ,iB,fe⟩
     ·cases lW:iO b with
      |none=>exact h lW
      |some y=>
       have q1:=adl _ y lW;have fh:=(Cw (L:=T) z 0 cE).2.1;omega
     ·by_cases Zy:i=j
      ·subst Zy;rw[show L i=D.getD i false from rfl,hZ]at O;cases O
      ·rcases P i o r iB Zy with m|m
       ·rw[show L i=D.getD i false from rfl,hZ]at m;have sK:i<j:=by simpa[T]using m.symm
        subst hf;simp only[xR,bL]at Z;have b6:=Hz _ 0 Z.2 i j o r g d sK iB G;simp only[BG,bL,G6]at b6;have ac2:=b6.1;rw[KS]at ac2;exact F7 (ds.1 (by simpa using ac2) b KT) p (ps.2 fe)
       ·exact m.au KS je b KT p fe
  refine Yi mb Lm (au:=au) (nC:=V) arS Fa Fo fun eb av I v w' pd oa c3 A=> ?_
  ·obtain⟨rfl,rfl⟩:=pd;exact fin eb _ w' (aP.dst oa g.dst (ar_.rel c3)) A
theorem alZ(C:E.dm){Q:Exit→Act→World→Prop}{z:K}(u:tH E ops ops.toList cE rs z)(j:yT cE.k ops rs)(G: ∀b x,iO b=some x→b<cE.k.length)
  (T: ∀ι a w,aP S ι z a w→Q .normal a w): ∀(m:Nat) (c:Array Bool) (a:Act) (w:World),Inv S ops (ops.toList.zip rs) cE iO c a w→
  ((List.range ops.size).filter fun i=> !c.getD i false).length=m→wpAny E.P .any ops Q m c a w:=by
 intro m
 induction m with
 |zero=>
  intro c a w f g;have t: ∀i,i<ops.size→c.getD i false=true:=fun i d=>by
   cases e:c.getD i false with
   |true=>rfl
   |false=>
    have:i∈(List.range ops.size).filter fun i=> !c.getD i false:=by exact G5.2 ⟨tA.2 d,by simp only[e];rfl⟩
    rw[Ha.1 g]at this
    cases this
  refine⟨?_,?_⟩
  ·apply List.eq_nil_iff_forall_not_mem.2;intro i d;obtain⟨p,o,q,_⟩:=mem_ready.1 d;have l:i<ops.size:=(rh.1 q).1;have:=t i l;rw[KG (by rw[f.size];exact l) false true,p]at this
   cases this
  ·obtain⟨ι,V,_⟩:=f.ahu;obtain⟨n9,r,_⟩:=u.at 0;refine T ι a w ?_;rw[r];rwa [X9 (On:=fun _=>true) _ _ _ (fun i d=>by rw[c1];exact t i (by simp at d;omega))]at V
 |succ m X=>
  intro c a w f g;refine⟨fun U=> ?_,fun i d=> ?_⟩
  ·exfalso;have P:(List.range ops.size).filter (fun i=> !c.getD i false)≠[]:=fun e=>by rw[e]at g;simp at g
   have H: ∃i,i<ops.size∧c.getD i false=false:=by
    obtain⟨i,d⟩:=List.exists_mem_of_ne_nil _ P;simp at d;exact⟨i,d.1,by simp [d.2]⟩
   obtain⟨i,⟨v,I⟩,M⟩: ∃i,(i<ops.size∧c.getD i false=false)∧ ∀k,k<i→ ¬(k<ops.size∧c.getD k false=false):=by
    obtain⟨W,B⟩:=H
    induction W using Nat.strongRecOn with
    |_ n Y=>
     by_cases h: ∃k,k<n∧(k<ops.size∧c.getD k false=false)
     ·obtain⟨k,p,q⟩:=h;exact Y k p q
     ·exact⟨n,B,fun k s L=>h ⟨k,s,L⟩⟩
   have aDN:=j;obtain⟨N,_,j⟩:=j;simp only[xR,bL]at j;have R:ops[i]? =some ops[i]:=pH v;have y:i∈Region.ready .any ops c:=mem_ready.2 ⟨by rw[KG (by rw[f.size];exact v) true false];exact I,ops[i],R,fun e r F=>by
    have:=Yx ops.toList 0 j.1 i ops[i] (by simp) e r F;rw[c1]at this;have O:=M e.on this
    cases g:c.getD e.on false with
    |true=>rfl
    |false=>exact absurd ⟨by omega,g⟩ O⟩
   rw[U]at y
   cases y
  ·refine aBa C u j G f d fun A w' D=>X _ A w' D ?_;obtain⟨p,o,q,_⟩:=mem_ready.1 d;have l:i<ops.size:=(rh.1 q).1;have J:c.getD i false=false:=by rw[KG (by rw[f.size];exact l) false true];exact p
   have:=am_ ops.size (fun i=> !c.getD i false) (fun k=> !(c.setIfInBounds i true).getD k false) i l (by simp only[J];rfl) (by
    have:(c.setIfInBounds i true).getD i false=true:=by simp [f.size,l]
    simp only[this];rfl) (fun k s=>by simp only[getD_set_ne false (fun e=>s e.symm)])
   omega
theorem alW(d:E.dm){id:Nat}{Q:Exit→Act→World→Prop}{ι:Nat→Option Nat}{st:K}{a:Act}{w:World}{c:K→Prop}(h:aP S ι st a w)(p:Yb E ops st c)
  (q: ∀ι st a w,aP S ι st a w→c st→Q .normal a w):(Code.region id ops true).wp E.P Q a w:=by
 obtain⟨rs,t,m,f,k⟩:=Px _ _ _ _ _ p;simp only[List.reverse_nil,pK]at f;refine wp_region_any d.mixed ?_;have s:aP S ι st a w.drew:=(h.world (w':=w.drew) ⟨rfl,rfl,rfl,bC _,fun _ _=>rfl⟩).1;refine alZ d m f h.gn (fun ι a w r=>q ι t a w r k) ops.size (Array.replicate ops.size false) a w.drew ⟨by simp,fun j o u g=> ?_,ι,?_,fun b l=> .inl l⟩ ?_
 ·have:(Array.replicate ops.size false).getD j false=false:=by
   by_cases e:j<ops.size<;>simp [e]
  rw[this]at g;cases g
 ·rw[Ct _ _ _ (fun i _=>by by_cases e:i<ops.size<;>simp [e])];exact s
 ·have:((List.range ops.size).filter fun i=> !(Array.replicate ops.size false).getD i false)=List.range ops.size:=by
   apply List.filter_eq_self.2;intro i n;have:=tA.1 n;simp [this]
  rw[this];simp
end
def hN(next:K→Prop)(Q:Exit→K→Prop):Exit→K→Prop
 | .normal,st=>next st
 | .exit id,st=>Q (.exit id) st
 | .ret,st=>Q .ret st
 |_,_=>False
def CH(id:Nat)(Q:Exit→K→Prop):Exit→K→Prop
 | .normal,st=>Q .normal st
 | .exit j,st=>if j=id then Q .normal st else Q (.exit j) st
 | .ret,st=>Q .ret st
 |_,_=>False
def cg(m:Nat)(st b:K):Prop:= ∀(S:dM),S.tL.length≤m→ ∀(ι:Nat→Option Nat) (a:Act) (w:World),aP S ι st a w→ ∃an,aP S an b a w
theorem cg.refl{m:Nat}(st:K):cg m st st:=fun _ _ ι _ _ h=>⟨ι,h⟩
theorem cg.trans{m:Nat}{a b c:K}(h:cg m a b)(k:cg m b c):cg m a c:=fun S d ι x w f=>let⟨an,e⟩:=h S d ι x w f;k S d an x w e
def afg(m:Nat){α:Type}(Q:Exit→K→Prop)(b:α→K)(a:α→Nat)(x:α):Exit→K→Prop
 | .normal,st=> ∃y,a y<a x∧cg m st (b y)
 | .exit id,st=>Q (.exit id) st
 | .ret,st=>Q .ret st
 |_,_=>False
def aw9(m:Nat)(b:(Exit→K→Prop)→K→Prop)(Q:Exit→K→Prop)(st:K):Prop:=
 ∃(α:Type) (a:α→K) (c:α→Nat) (A:α),cg m st (a A)∧ ∀x,b (afg m Q a c x) (a x)
def lT(E:Env):Code→(Exit→K→Prop)→K→Prop
 | .skip,Q,st=>Q .normal st
 | .region _ ops a,Q,st=>match a with
   |true=>Yb E ops st (Q .normal)
   |false=>yZ E ops ops.toList 0 st (Q .normal)
 | .seq x y,Q,st=>lT E x (hN (lT E y Q) Q) st
 | .cond c x y,Q,st=>match ax st.n c with
   | .bool b=>(b=true→lT E x Q st)∧(b=false→lT E y Q st)
   | .lit b=>match b with
     |true=>lT E x Q st
     |false=>lT E y Q st
   |_=>False
 | .block id x,Q,st=>lT E x (CH id Q) st
 | .loop x,Q,st=>aw9 E.m (lT E x) Q st
 | .exit id,Q,st=>Q (.exit id) st
 | .ret,Q,st=>Q .ret st
 | .label _,Q,st=>Q .normal st
 |_,_,_=>False
section
variable {E:Env}
def X6(S:dM)(Q:Exit→K→Prop)(e:Exit)(a:Act)(w:World):Prop:= ∃ι st,aP S ι st a w∧Q e st
theorem al9(J:E.dm){S:dM}(L:S.tL.length≤E.m): ∀(c:Code) (Q:Exit→K→Prop) (ι:Nat→Option Nat) (st:K) (a:Act) (w:World),aP S ι st a w→lT E c Q st→c.wp E.P (X6 S Q) a w:=by
 intro c
 induction c with
 |skip=>exact fun Q ι st a w h d=>wp_skip ⟨ι,st,h,d⟩
 |region id ops P=>
  intro Q ι st a w h d
  cases P with
  |true=>exact alW J h d fun ι st a w g B=>⟨ι,st,g,B⟩
  |false=>exact wp_region_list (PA J _ _ ι st a w _ h d fun ι st a w g B=>⟨ι,st,g,B⟩)
 |seq x y s t=>
  intro Q ι st a w h d;refine wp_seq (pF (s _ ι st a w h d) fun e a w ⟨an,i,g,f⟩=> ?_)
  cases e<;>simp only[hN]at f<;>try exact f.elim
  ·exact t Q an i a w g f
  ·exact⟨an,i,g,f⟩
  ·exact⟨an,i,g,f⟩
 |cond c x y s t=>
  intro Q ι st a w h d;have C:=h.eval c;simp only[lT]at d
  cases e:ax st.n c<;>rw[e]at d C<;>simp only at d<;>try exact d.elim
  ·rename_i b;refine wp_cond C.bool ?_
   cases b
   ·exact t Q ι st a w h (d.2 rfl)
   ·exact s Q ι st a w h (d.1 rfl)
  ·rename_i b;refine wp_cond C.lit ?_
   cases b
   ·exact t Q ι st a w h d
   ·exact s Q ι st a w h d
 |block O x H=>
  intro Q ι st a w h d;refine wp_block (pF (H _ ι st a w h d) fun e a w ⟨an,i,g,f⟩=> ?_)
  cases e<;>simp only[CH]at f<;>try exact f.elim
  ·exact⟨an,i,g,f⟩
  ·rename_i j _;simp only[Exit.inBlock]
   by_cases I:j=O
   ·rw[bf I]at f ⊢;exact⟨an,i,g,f⟩
   ·rw[a7 I]at f ⊢;exact⟨an,i,g,f⟩
  ·exact⟨an,i,g,f⟩
 |loop x H=>
  intro Q ι st a w h d;obtain⟨α,N,u,A,D,V⟩:=d;obtain⟨iO,R⟩:=D S L ι a w h;let p:Act→World→Nat→Prop:=fun a w n=> ∃y ι,u y=n∧aP S ι (N y) a w;let r:Act→World→Nat:=fun a w=>Classical.epsilon fun n=>p a w n∧ ∀m,m<n→ ¬p a w m;have M: ∀a w n,p a w n→p a w (r a w)∧ ∀m,m<r a w→ ¬p a w m:=fun a w n F=>by
   have W: ∃n,p a w n∧ ∀m,m<n→ ¬p a w m:=by
    induction n using Nat.strongRecOn with
    |_ n Y=>
     by_cases h: ∃k,k<n∧p a w k
     ·obtain⟨k,T,v⟩:=h;exact Y k T v
     ·exact⟨n,F,fun m X q=>h ⟨m,X,q⟩⟩
   exact Classical.epsilon_spec W
  refine wp_loop (fun a w=> ∃n,p a w n) r ⟨_,A,iO,rfl,R⟩ fun a w ⟨n,F⟩=> ?_;obtain⟨⟨y,kO,Z,g⟩,_⟩:=M a w n F;refine pF (H _ kO (N y) a w g (V y)) fun e o w' ⟨an,i,G,f⟩=> ?_
  cases e<;>simp only[afg]at f<;>try exact f.elim
  ·obtain⟨z,hf,D⟩:=f;obtain⟨eb,v⟩:=D S L an o w' G;have q:p o w' (u z):=⟨z,eb,rfl,v⟩;refine⟨⟨_,q⟩,?_⟩;have U:=(M o w' _ q).2;have:r o w'≤u z:=by
    rcases fk (u z) (r o w')with h|h
    ·exact absurd q (U _ h)
    ·exact h
   omega
  ·exact⟨an,i,G,f⟩
  ·exact⟨an,i,G,f⟩
 |exit id=>exact fun Q ι st a w h d=>wp_exit ⟨ι,st,h,d⟩
 |ret=>exact fun Q ι st a w h d=>wp_ret ⟨ι,st,h,d⟩
 |label l=>exact fun Q ι st a w h d=>wp_label ⟨ι,st,h,d⟩
 |_=>exact fun Q ι st a w h d=>d.elim
def WP(E:Env)(c:Code)(Q:Exit→K→Prop)(st:K):Prop:= ∀(S:dM),S.tL.length≤E.m→ ∀(ι:Nat→Option Nat) (a:Act) (w:World),aP S ι st a w→c.wp E.P (X6 S Q) a w
theorem WP.U5(b:E.dm){c:Code}{Q:Exit→K→Prop}{st:K}(h:lT E c Q st):WP E c Q st:=fun _ d ι a w e=>al9 b d c Q ι st a w e h
theorem WP.mono{c:Code}{Q R:Exit→K→Prop}{st:K}(h:WP E c R st)(i: ∀e s,R e s→Q e s):WP E c Q st:=fun S g ι a w j=>pF (h S g ι a w j) fun e _ _ ⟨an,b,d,f⟩=>⟨an,b,d,i e b f⟩
theorem WP.le{c:Code}{Q:Exit→K→Prop}{st d:K}(f:cg E.m st d)(h:WP E c Q d):WP E c Q st:=fun S b ι a w g=>let⟨an,e⟩:=f S b ι a w g;h S b an a w e
theorem WP.seq{x y:Code}{Q:Exit→K→Prop}{st:K}(h:WP E x (hN (WP E y Q) Q) st):WP E (.seq x y) Q st:=fun S d ι a w c=>by
 refine wp_seq (pF (h S d ι a w c) fun e a w ⟨an,f,c,b⟩=> ?_)
 cases e<;>simp only[hN]at b<;>try exact b.elim
 ·exact b S d an a w c
 ·exact⟨an,f,c,b⟩
 ·exact⟨an,f,c,b⟩
theorem WP.cut{x y:Code}{Q:Exit→K→Prop}{st:K}(b:K)(h:WP E x (hN (fun s=>cg E.m s b) Q) st)(k:WP E y Q b):WP E (.seq x y) Q st:=
 WP.seq (h.mono fun e s a=>by cases e<;>simp only[hN]at a ⊢ <;>first|exact WP.le a k|exact a)
theorem WP.cond{c:Operand}{x y:Code}{Q:Exit→K→Prop}{st:K}{b:Bool}(f:ax st.n c= .bool b)(g:b=true→WP E x Q st)(i:b=false→WP E y Q st):WP E (.cond c x y) Q st:=fun S e ι a w d=>by
 have h:=d.eval c;rw[f]at h;refine wp_cond h.bool ?_
 cases b
 ·exact i rfl S e ι a w d
 ·exact g rfl S e ι a w d
theorem WP.block{id:Nat}{x:Code}{Q:Exit→K→Prop}{st:K}(h:WP E x (CH id Q) st):WP E (.block id x) Q st:=fun S g ι a w c=>by
 refine wp_block (pF (h S g ι a w c) fun e a w ⟨an,d,c,b⟩=> ?_)
 cases e<;>simp only[CH]at b<;>try exact b.elim
 ·exact⟨an,d,c,b⟩
 ·rename_i j _;simp only[Exit.inBlock]
  by_cases f:j=id
  ·rw[bf f]at b ⊢;exact⟨an,d,c,b⟩
  ·rw[a7 f]at b ⊢;exact⟨an,d,c,b⟩
 ·exact⟨an,d,c,b⟩
theorem WP.skip{Q:Exit→K→Prop}{st:K}(h:Q .normal st):WP E .skip Q st:=fun _ _ ι _ _ a=>wp_skip ⟨ι,st,a,h⟩
theorem WP.ret{Q:Exit→K→Prop}{st:K}(h:Q .ret st):WP E .ret Q st:=fun _ _ ι _ _ a=>wp_ret ⟨ι,st,a,h⟩
theorem WP.exit{id:Nat}{Q:Exit→K→Prop}{st:K}(h:Q (.exit id) st):WP E (.exit id) Q st:=fun _ _ ι _ _ a=>wp_exit ⟨ι,st,a,h⟩
theorem WP.label{l:_}{Q:Exit→K→Prop}{st:K}(h:Q .normal st):WP E (.label l) Q st:=fun _ _ ι _ _ a=>wp_label ⟨ι,st,a,h⟩
def Uz(m:Nat){α:Type}(Q:Exit→K→Prop)(b:α→K)(I:α→Prop)(a:α→Nat)(x:α):Exit→K→Prop
 | .normal,st=> ∃y,I y∧a y<a x∧cg m st (b y)
 | .exit id,st=>Q (.exit id) st
 | .ret,st=>Q .ret st
 |_,_=>False
def WP.yp(E:Env)(x:Code)(Q:Exit→K→Prop):Nat→K→Prop
 |0,_=>False
 |n+1,st=>WP E x (hN (WP.yp E x Q n) Q) st
theorem WP.rounds{x:Code}{Q:Exit→K→Prop}(n:Nat){st:K}(h:WP.yp E x Q n st):WP E (.loop x) Q st:=by
 intro S g ι a w i;refine wp_loop_rounds n ?_
 induction n generalizing st ι a w with
 |zero=>exact h.elim
 |succ n j=>
  refine pF (h S g ι a w i) fun e f w' ⟨an,d,c,b⟩=> ?_
  cases e<;>simp only[hN]at b<;>try exact b.elim
  ·exact j b an f w' c
  ·exact⟨an,d,c,b⟩
  ·exact⟨an,d,c,b⟩
theorem WP.loop{α:Type}{x:Code}{Q:Exit→K→Prop}{st:K}(i:α→K)(I:α→Prop)(g:α→Nat)(A:α)(B:I A)(o:cg E.m st (i A))(h: ∀t,I t→WP E x (Uz E.m Q i I g t) (i t)):WP E (.loop x) Q st:=by
 intro S l ι a w r;obtain⟨iO,C⟩:=o S l ι a w r;let p:Act→World→Nat→Prop:=fun a w n=> ∃y ι,I y∧g y=n∧aP S ι (i y) a w;let f:Act→World→Nat:=fun a w=>Classical.epsilon fun n=>p a w n∧ ∀m,m<n→ ¬p a w m;have u: ∀a w n,p a w n→p a w (f a w)∧ ∀m,m<f a w→ ¬p a w m:=fun a w n q=>by
  have H: ∃n,p a w n∧ ∀m,m<n→ ¬p a w m:=by
   induction n using Nat.strongRecOn with
   |_ n M=>
    by_cases h: ∃k,k<n∧p a w k
    ·obtain⟨k,D,j⟩:=h;exact M k D j
    ·exact⟨n,q,fun m J c=>h ⟨m,J,c⟩⟩
  exact Classical.epsilon_spec H
 refine wp_loop (fun a w=> ∃n,p a w n) f ⟨_,A,iO,B,rfl,C⟩ fun a w ⟨n,q⟩=> ?_;obtain⟨⟨y,kO,G,N,r⟩,_⟩:=u a w n q;refine pF (h y G S l kO a w r) fun e b w' ⟨an,v,s,d⟩=> ?_
 cases e<;>simp only[Uz]at d<;>try exact d.elim
 ·obtain⟨z,L,O,o⟩:=d;obtain⟨eb,j⟩:=o S l an b w' s;have c:p b w' (g z):=⟨z,eb,L,rfl,j⟩;refine⟨⟨_,c⟩,?_⟩;have F:=(u b w' _ c).2;have:f b w'≤g z:=by
   rcases fk (g z) (f b w')with h|h
   ·exact absurd c (F _ h)
   ·exact h
  omega
 ·exact⟨an,v,s,d⟩
 ·exact⟨an,v,s,d⟩
end
def ME(E:Env)(st:K)(r:ResultVar)(a:J→Prop):Prop:=
 match r with
 | .tmp t=>km st.k (st.n.getD t .undef) a
 | .cell t T=>dx E T fun b=>np b st.k (st.n.getD t .undef) fun av=>km st.k av a
def yn(E:Env)(st:K):List ResultVar→(List J→Prop)→Prop
 |[],a=>a []
 |x::r,a=>ME E st x fun y=>yn E st r fun b=>a (y::b)
def oo:List J→J
 |[x]=>x
 |a=> .c7 a
def gT:J→J→Prop
 | .arr b n f,.arr c a g=>b=c∧n=a∧ ∀i,i<n→f i=g i
 | .aA,.arr _ a _=>a=0
 |x,y=>x=y
def jN:J→J→Prop
 | .agg cs,.agg a=>aU gT cs a
 |x,y=>gT x y
def vs:J→J→Prop
 | .c7 aa,.c7 a=>aU jN aa a
 |x,y=>jN x y
def BE(H:Heap)(e n:Nat)(f:Nat→List J)(x:J):Prop:=
 match x with
 | .own b k=>match B H b 0 with
   | .ad d g a c=>c0 (!d&&Nat.beq g e) (k=a∧a=n∧ ∀i,i<n→c i=f i)
   |_=>False
 | .aA=>n=0
 |_=>False
def BR(E:Env)(st:K)(rs:List ResultVar)(a n:Nat)(f:Nat→List J):Prop:=
 match rs with
 |[x]=>match x with
  | .tmp t=>BE st.k a n f (st.n.getD t .undef)
  | .cell t T=>dx E T fun b=>np b st.k (st.n.getD t .undef) fun av=>BE st.k a n f av
 |_=>False
def aAp(E:Env)(rs:List ResultVar)(r:J)(st:K):Prop:=
 match r with
 | .ad _ a n f=>BR E st rs a n f
 |r=>yn E st rs fun b=>vs (oo b) r
def aAo(E:Env)(rs:List ResultVar)(r:J)(e:Exit)(st:K):Prop:=
 (match e with
  | .normal=>True
  | .ret=>True
  |_=>False)∧aAp E rs r st
section
variable {E:Env} {S:dM} {ι:Nat→Option Nat} {st:K} {a:Act} {w:World}
theorem gT.rel{F:Nat→Prop}{x y:J}{v:Value}(h:gT x y)(k:aR w F x v):aR w F y v:=by
 cases k with
 |arr d n f b o c g q G t r e l m=>
  cases y<;>simp only[gT]at h<;>try (cases h;done)
  obtain⟨rfl,rfl,h⟩:=h;exact .arr d n _ b o c g q G t r (fun i j z D=>by rw[←h i z];exact e i j z D) l m
 |nil d f=>
  cases y<;>simp only[gT]at h<;>try (cases h;done)
  obtain⟨rfl,rfl,h⟩:=h;exact .nil d _
 |mt d f a c=>
  cases y<;>simp only[gT]at h<;>try (cases h;done)
  obtain⟨rfl,rfl,h⟩:=h;exact .mt d _ a c
 |aA=>
  cases y<;>simp only[gT]at h<;>first|(cases h;done)|(subst h;exact .nil _ _)|exact .aA
 |int k n=>simp only[gT]at h;subst h;exact .int k n
 |bool b=>simp only[gT]at h;subst h;exact .bool b
 |jg=>simp only[gT]at h;subst h;exact .jg
 |jO d n f p c B C=>simp only[gT]at h;subst h;exact .jO d n f p c B C
 |lit b=>simp only[gT]at h;subst h;exact .lit b
 |str s t=>simp only[gT]at h;subst h;exact .str s t
 |ref cs b o g q r e l m=>simp only[gT]at h;subst h;exact .ref cs b o g q r e l m
 |fn f A q g u E e l m=>simp only[gT]at h;subst h;exact .fn f A q g u E e l m
theorem jN.rel{F:Nat→Prop}{x y:J}{v:Value}(h:jN x y)(k:fl w F x v):fl w F y v:=by
 cases x
 case agg cs=>
  cases y<;>simp only[jN,gT]at h<;>try (cases h;done)
  obtain⟨g,rfl,k⟩:=k;refine⟨g,rfl,aU.mk (h.length.symm.trans k.length) fun i p q a d=> ?_⟩;obtain⟨j,b,e⟩:=k.get i _ (cI (by rw[h.length];exact(hv.1 a).1));rw[d]at b;cases b;obtain⟨l,c,f⟩:=h.get i _ (cI (by rw[h.length];exact(hv.1 a).1));rw[a]at c;cases c;exact f.rel e
 case undef=>exact k.elim
 all_goals
  simp only[fl]at k
  cases y<;>first|(simp [jN,gT]at h;done)|(simp only[fl];exact(fun hh=>gT.rel hh k) h)
theorem vs.rel{F:Nat→Prop}{x y:J}{v:Value}(h:vs x y)(k:jL w F x v):jL w F y v:=by
 cases x
 case c7 aa=>
  cases y<;>simp only[vs,jN,gT]at h<;>try (cases h;done)
  obtain⟨g,rfl,k⟩:=k;refine⟨g,rfl,aU.mk (h.length.symm.trans k.length) fun i p q a d=> ?_⟩;obtain⟨j,b,e⟩:=k.get i _ (cI (by rw[h.length];exact(hv.1 a).1));rw[d]at b;cases b;obtain⟨l,c,f⟩:=h.get i _ (cI (by rw[h.length];exact(hv.1 a).1));rw[a]at c;cases c;exact f.rel e
 all_goals
  simp only[jL]at k
  cases y<;>first|(simp [vs,jN,gT]at h;done)|(simp only[jL];exact(fun hh=>jN.rel hh k) h)
def pz(P:Program)(w:World)(b:Array Value)(r:ResultVar)(v:Value):Prop:=
 (match r with
  | .tmp t=>(pure (b.getD t undef):Sem Value)
  | .cell a t=>(do loadVar t (←asAddr (b.getD a undef)))).run P w= .ok v w
theorem aAn(k:E.dm)(h:aP S ι st a w){r:ResultVar}{K:J→Prop}(b:ME E st r K): ∃y v,K y∧fl w (kR S w) y v∧pz E.P w a.tmps r v:=by
 cases r with
 |tmp t=>
  obtain⟨y,c,d⟩:=QC h (h.eval (.tmp t)) b;exact⟨y,_,c,d,rfl⟩
 |cell t T=>
  obtain⟨m,l,_,b⟩:=jI k b;obtain⟨p,av,u,c,d,f,g⟩:=LS l h (h.eval (.tmp t)) b;obtain⟨y,i,j⟩:=QC h f d;refine⟨y,u,i,j,?_⟩;have e:a.tmps.getD t undef= .pointer (some p):=c;simp only[pz];rw[Sem.run_bind,e];simp [asAddr,g]
theorem agU(e:E.dm)(h:aP S ι st a w): ∀(rs:List ResultVar) (K:List J→Prop),yn E st rs K→ ∃d c,K d∧aU (fl w (kR S w)) d c∧aU (pz E.P w a.tmps) rs c
 |[],K,b=>⟨[],[],b,trivial,trivial⟩
 |r::rs,K,b=>by
  obtain⟨y,v,b,f,g⟩:=aAn e h b;obtain⟨d,c,b,i,j⟩:=agU e h rs _ b;exact⟨y::d,v::c,b,⟨f,i⟩,g,j⟩
theorem V9{P:Program}{fn:Func}{tmps:Array Value}{cv:List Value}(h:aU (pz P w tmps) fn.results.toList cv):
  (results fn tmps).run P w= .ok (if h:cv.toArray.size=1 then cv.toArray[0]else .tuple cv.toArray) w:=by
 have e: ∀(rs:List ResultVar) (cv:List Value),aU (pz P w tmps) rs cv→Sem.run P (rs.mapM fun(r:ResultVar)=>match r with
  | .tmp t=>(pure (tmps.getD t undef):Sem Value)
  | .cell a t=>(do loadVar t (←asAddr (tmps.getD a undef)))) w=Result.ok cv w:=by
  intro rs
  induction rs with
  |nil=>intro cv h;cases cv;simp;exact h.elim
  |cons r rs d=>
   intro cv h
   cases cv with
   |nil=>exact h.elim
   |cons v cv=>
    have b:=h.1;have c:=d cv h.2;unfold pz at b;simp only[List.mapM_cons];rw[Sem.run_bind]
    cases r<;>simp only at b<;>rw[b]<;>simp only[Result.andThen]<;>rw[Sem.run_bind,c]<;>rfl
 unfold results;rw[Array.mapM_eq_mapM_toList];rw[Sem.run_bind];have:=e fn.results.toList cv h;simp only[Functor.map];rw[Sem.run_bind']
 erw [this]
 rfl
theorem af9(h:aP S ι st a w){G:Nat}(V: ∀b x,ι b=some x→G≤x){Y:Bool}{H n:Nat}{f:Nat→List J}{x:J}{v:Value}(E:bg S ι st.k w x v)(d:BE st.k H n f x):pW G w (kR S w) (.ad Y H n f) v:=by
 cases x<;>simp only[BE]at d<;>try exact d.elim
 ·subst d;have X:aR w (aK S ι st.k w) .aA v:=E
  cases X
  exact .inl ⟨rfl,rfl⟩
 ·rename_i b k
  cases e:B st.k b 0<;>rw[e]at d<;>simp only at d
  rename_i nt ka ev fB;obtain⟨t,rfl,rfl,T⟩:=ay.1 d;simp only[bL,iL]at t;obtain⟨rfl,m⟩:=t;have m:=dQ m;subst m;obtain⟨_,aAt,aBj,UM,f2,p,_,N⟩:=(show eg S ι st.k w (.own b k) v from E);rw[e]at p;cases p;rcases N rfl with⟨q,c,C,I,g,o,W,r,O⟩|⟨rfl,_,o⟩
  ·have l:=h.k b 0;rw[e]at l;obtain⟨_,z|⟨P,l|⟨Gu,Z,vM,D,s,Q⟩⟩⟩:=l
   ·rw[g]at z;cases z.2.2
   ·rw[g]at l;cases l.2
   ·rw[g]at D;cases D;rw[r]at s;cases s;refine .inr ⟨q,c,C,I,V b q g,(h.fresh b q g).2,o,W,P,r,O,fun i j A U=> ?_⟩;obtain⟨av,u,K,L,M⟩:=Q i j A U;refine⟨av,u,by rw[←T i A];exact K,L,M.mono (fun y F=>⟨Oj F,fun R=> ?_⟩) fun _ _ _=>rfl⟩;exact F.2.2 b (.inl ⟨by rw[e];rfl,by rw[e];rfl⟩) (by rw[R];exact g)
  ·exact .inl ⟨rfl,o⟩
theorem aAl(o:E.dm)(h:aP S ι st a w){x_:Nat}(nd:S.kL.heap.size≤w.heap.size)(e: ∀b x,ι b=some x→x_≤x){rs:List ResultVar}{r:Bool}{g n:Nat}{f:Nat→List J}(c:BR E st rs g n f):
  ∃d v,rs=[d]∧pz E.P w a.tmps d v∧pW x_ w (kR S w) (.ad r g n f) v:=by
 unfold BR at c
 split at c
 ·rename_i d
  cases d with
  |tmp t=>exact⟨_,_,rfl,rfl,af9 h e (h.eval (.tmp t)) c⟩
  |cell t T=>
   obtain⟨s,q,_,c⟩:=jI o c;obtain⟨p,av,u,i,k,l,m⟩:=LS q h (h.eval (.tmp t)) c;refine⟨_,u,rfl,?_,af9 h e l k⟩;have j:a.tmps.getD t undef= .pointer (some p):=i;simp only[pz];rw[Sem.run_bind,j];simp [asAddr,m]
 ·exact c.elim
theorem vp(I:E.dm){f:FuncId}{fn:Func}{c:Code}(Q:E.P.funcs[f]? =some fn)(A:fn.body=some c)(aa:List J)(r:J)
  (T:WP E c (aAo E fn.results.toList r) ⟨aa++List.replicate (fn.ntmps-aa.length) .undef,[]⟩):e1 E.P f aa r:=by
 intro w F q l K;let S:dM:=⟨F,w,l.lt,fun _=>False,fun _ h=>h.elim,fun _=>none,[],F,fun _ _ h=>(by cases h),l.u2⟩;have Z:=K.length;have W:aP S (fun _=>none) ⟨aa++List.replicate (fn.ntmps-aa.length) .undef,[]⟩ {tmps:=q.toArray++Array.replicate (fn.ntmps-q.toArray.size) undef,defers:=[]} w:=by
  refine⟨ia.refl _ _ _,rfl,fun t av i=> ?_,fun b o=> ?_,fun _ _ _ h=>(by cases h),fun _ _ h=>(by cases h),fun _ _ h=>(by cases h),⟨fun x h=>⟨.inl h,l.lt x h,fun b A=>(by simp)⟩,fun _ _ _=>rfl,fun _ _ h=>(by cases h),fun b L M n f h=>(by simp [S,B]at h)⟩⟩
  ·rcases fk t aa.length with h|h
   ·rw[tu h]at i;obtain⟨v,g,z⟩:=K.get t av i;refine⟨v,?_,eh.yf (fR.Mh (z.mono (fun x j=>⟨.inl j,l.lt x j,fun b A=>(by simp)⟩) fun _ _ _=>rfl))⟩;rw[pG (by simp;omega)];simpa using g
   ·rw[Ca h]at i;have X:t-aa.length<fn.ntmps-aa.length:=by
     rcases fk (t-aa.length) (fn.ntmps-aa.length)with s|s
     ·exact s
     ·rw[eF (by simpa using s)]at i;cases i
    rw[WW,bf X]at i
    cases i
    exact⟨undef,by rw[Array.getElem?_append_right (by simp;omega),Array.getElem?_replicate,bf (by simp;omega)],trivial⟩
  ·simp [B,eQ]
 refine calls_of_wp Q A (pF (T S (cf _) _ _ w W) fun e a w' ⟨ι,st,d,V⟩=> ?_);obtain⟨m,p⟩:=V
 by_cases C:b_ r=true
 ·obtain⟨L,M,n,f,rfl⟩:=LA C;obtain⟨aEt,v,N,O,aZ⟩:=aAl I d (nd:=d.below.size) (x_:=w.heap.size) (fun b x j=>(d.fresh b x j).1.resolve_right fun h=>h) p;have D:=V9 (w:=w') (fn:=fn) (tmps:=a.tmps) (cv:=[v]) (by rw[N];exact⟨O,trivial⟩);have G: ∃v,(results fn a.tmps).run E.P w'= .ok v w'∧ ∃k,Ending.returned v= .returned k∧pW w.heap.size w' (fun x=>F x∨(w.heap.size≤x∧x<w'.heap.size)) (.ad L M n f) k∧Below w.heap.size w w':=
   ⟨_,D,_,rfl,aZ,d.below.plain fun _ h=>h⟩
  cases e<;>simp only at m<;>first|exact⟨d.defers,G⟩|exact m.elim
 have p:yn E st fn.results.toList fun q=>vs (oo q) r:=by cases r<;>first|exact p|(exact absurd rfl C)
 obtain⟨H,us,U,g,z⟩:=agU I d _ _ p;have D:=V9 z;have P: ∀x,kR S w' x→(F x∨(w.heap.size≤x∧x<w'.heap.size)):=fun x j=>j;have Y:jL w' (kR S w') (oo H) (if h:us.toArray.size=1 then us.toArray[0]else .tuple us.toArray):=by
  match H,us,g with
  |[],[],_=>exact⟨[],rfl,trivial⟩
  |[y],[u],g=>
   have:=g.1;simp only[oo]
   cases y<;>first|exact this|exact False.elim this|(cases this)
  |y::vx::H,u::ahL::us,g=>
   rw[dif_neg (by simp)];exact⟨_,rfl,g⟩
 have R:=U.rel Y;have G: ∃v,(results fn a.tmps).run E.P w'= .ok v w'∧ ∃k,Ending.returned v= .returned k∧pW w.heap.size w' (fun x=>F x∨(w.heap.size≤x∧x<w'.heap.size)) r k∧Below w.heap.size w w':=
  ⟨_,D,_,rfl,by have:=R.mono P (fun _ _ _=>rfl);cases r<;>first|exact this|(exact absurd rfl C),d.below.plain fun _ h=>h⟩
 cases e<;>simp only at m<;>first|exact⟨d.defers,G⟩|exact m.elim
end
def B8:J→Value→Bool
 | .int k n,.int c d=>decide (k=c)&&n==d
 | .bool b,.bool a=>b==a
 | .str s,.string e=>s.data.toList==e.data.toList&&s.size==0
 | .aA,.slice none 0 0=>true
 | .jg,.pointer none=>true
 | .undef,.pointer _=>true
 | .undef,.func _ _ _=>true
 | .undef,.nilFunc=>true
 | .undef,.nilIface=>true
 |_,_=>false
def M6:List J→List Value→Bool
 |[],[]=>true
 |a::aa,v::b=>B8 a v&&M6 aa b
 |_,_=>false
def Mo:List (Nat×Nat)→List Field→Program→Bool
 |[],[],_=>true
 |(o,s)::r,f::a,P=>(f.offset==o&&s !=0&&(match P.info? f.type with|some i=>i.size==s|none=>false))&&Mo r a P
 |_,_,_=>false
def HV(P:Program)(t:bD)(d:TypeDesc):Bool:=
 match t.d,d with
 | .bool,.bool=>t.size==1
 | .string,.string=>t.size==1
 | .int k,.int g=>decide (k=g)&&t.size==1
 | .slice e b c,.slice a=>e==a&&t.size==1&&(match P.info? e with|some i=>i.size==b&&i.bytes==c&&(match i.zero with|some z=>z.cells.size==i.size|none=>false)|none=>false)
 | .pointer e,.pointer a=>e==a&&t.size==1
 | .struct j,.struct f=>Mo j f.toList P
 | .array n e b,.array h a=>n==h&&e==a&&(match P.info? e with|some i=>i.size==b|none=>false)
 | .other,.func .. =>t.size==1
 |_,_=>false
def B1(P:Program)(T:TypeId)(t:bD):Bool:=
 match P.info? T,P.underlying T with
 |some i,some d=>i.size==t.size&&(match i.zero with|some z=>z.cells.size==t.size&&M6 t.zero z.cells.toList|none=>false)&&HV P t d
 |_,_=>false
theorem aCz{a:J}{v:Value}(h:B8 a v=true):kW a v:=by
 cases a
 case str s=>
  cases v<;>simp only[B8]at h<;>try (cases h;done)
  rename_i c;simp only[bL,iM]at h;obtain⟨b,d⟩:=h;have:s=c:=by
   cases s;cases c
   simp only at b
   congr 1
   exact oy b
  subst this;exact⟨rfl,d⟩
 case jg=>
  cases v
  case pointer p=>cases p<;>simp_all [B8,kW]
  all_goals cases h
 case aA=>
  cases v
  case slice a n m=>cases a<;>cases n<;>cases m<;>simp_all [B8,kW]
  all_goals cases h
 all_goals
  cases v<;>simp [B8]at h<;>simp only[kW]<;>first|rfl|(obtain⟨rfl,rfl⟩:=h;rfl)|(subst h;rfl)|skip
theorem aii: ∀{aa:List J} {b:List Value},M6 aa b=true→aU kW aa b
 |[],[],_=>trivial
 |a::aa,v::b,h=>by
  simp only[M6,bL]at h;exact⟨aCz h.1,aii h.2⟩
 |[],_::_,h=>by cases h
 |_::_,[],h=>by cases h
theorem agp{P:Program} : ∀{j:List (Nat×Nat)} {c:List Field},Mo j c P=true→
  c.mapM (fun f=>(P.info? f.type).map fun i=>(f.offset,i.size))=some j∧ ∀(k b a:Nat),j[k]? =some (b,a)→ ∃f:Field,c[k]? =some f∧f.offset=b∧ ∃i,P.info? f.type=some i∧i.size=a∧a≠0
 |[],[],_=>⟨rfl,fun k b a h=>by simp at h⟩
 |(o,s)::r,f::c,h=>by
  simp only[Mo,bL]at h;obtain⟨⟨⟨n,p⟩,d⟩,q⟩:=h;obtain⟨t,u⟩:=agp q
  cases e:P.info? f.type with
  |none=>rw[e]at d;cases d
  |some i=>
   rw[e]at d;have l:f.offset=o:=by simpa using n
   have m:s≠0:=by simpa using p
   have aZ:i.size=s:=by simpa using d
   refine⟨by simp [List.mapM_cons,e,t,l,aZ],fun k b a g=> ?_⟩
   cases k with
   |zero=>simp at g;obtain⟨rfl,rfl⟩:=g;exact⟨f,rfl,l,i,e,aZ,m⟩
   |succ k=>exact u k b a (by simpa using g)
 |[],_::_,h=>by cases h
 |_::_,[],h=>by cases h
theorem aBH{P:Program}{T:TypeId}{t:bD}(h:B1 P T t=true)(A:t.cmp=true→Hl P T t.zero):gl P T t:=by
 unfold B1 at h
 cases q:P.info? T with
 |none=>rw[q]at h;cases h
 |some i=>
  cases c:P.underlying T with
  |none=>rw[q,c]at h;cases h
  |some d=>
   rw[q,c]at h;simp only[bL]at h;obtain⟨⟨x,g⟩,a⟩:=h
   cases m:i.zero with
   |none=>rw[m]at g;cases g
   |some z=>
    rw[m]at g;simp only[bL]at g;refine⟨⟨i,z,q,by simpa using x,m,by simpa using g.1,aii g.2⟩,⟨d,c,fun e=> ?_,fun e=> ?_⟩,?_,A⟩
    ·unfold HV at a
     cases o:t.d<;>rw[o]at e a<;>first|(cases e;done)|skip
     all_goals (cases d<;>simp only at a<;>first|(cases a;done)|rfl)
    ·unfold HV at a
     cases o:t.d<;>rw[o]at e a<;>first|(cases e;done)|skip
     all_goals
      cases d<;>simp only at a<;>first|(cases a;done)|(simp only[bL,iM,jJ]at a;simp_all)
    ·unfold HV at a
     cases o:t.d<;>rw[o]at a<;>simp only
     all_goals
      cases d<;>simp only at a<;>first|(cases a;done)|trivial|skip
     ·simp only[bL,jJ]at a;rw[a.1];exact c
     ·rename_i e u E s;simp only[bL,iM]at a;obtain⟨⟨rfl,_⟩,b⟩:=a
      cases p:P.info? e with
      |none=>rw[p]at b;cases b
      |some j=>
       rw[p]at b;simp only[bL,iM]at b;obtain⟨b,l⟩:=b
       cases r:j.zero with
       |none=>rw[r]at l;cases l
       |some G=>
        rw[r]at l;exact⟨c,j,rfl,b.1,b.2,by rw[r];rfl,fun z m=>by rw[r]at m;cases m;simpa using l⟩
     ·simp only[bL,iM]at a;rw[a.1];exact c
     ·obtain⟨l,y⟩:=agp a;exact⟨_,c,l,fun k C D B=>by obtain⟨f,v,w⟩:=y k C D B;exact⟨f,by simpa using v,w⟩⟩
     ·rename_i n e u F s;simp only[bL,iM]at a;obtain⟨⟨rfl,rfl⟩,b⟩:=a;refine⟨c,?_⟩
      cases p:P.info? e with
      |none=>rw[p]at b;cases b
      |some j=>
       rw[p]at b;exact⟨j,rfl,by simpa using b⟩
def yB(hr:List (Nat×bD))(T:TypeId):Option bD:=
 match hr with
 |[]=>none
 |(a,t)::r=>if T==a then some t else yB r T
theorem ahK{hr:List (Nat×bD)}{T:TypeId}{t:bD}(h:yB hr T=some t):(T,t)∈hr:=by
 induction hr with
 |nil=>cases h
 |cons x r b=>
  obtain⟨a,c⟩:=x;simp only[yB]at h
  split at h
  ·rename_i e;have:T=a:=by simpa using e
   cases h;rw[this];simp
  ·exact List.mem_cons_of_mem _ (b h)
abbrev Spec:=FuncId→List J→Option (Option Prop×J)
def Spec.dm(P:Program)(s:Spec):Prop:= ∀f a pre r,s f a=some (pre,r)→lg P f∧(nr pre True→e1 P f a r)
abbrev vH:=FuncId→List J→Heap→Option (Option Prop×List J×Heap)
def vH.dm(P:Program)(s:vH):Prop:= ∀f a H b rs H',s f a H=some (b,rs,H')→lg P f∧(nr b True→fm P f a H rs H')
theorem an3{P:Program}{hr:List (Nat×bD)}{s:Spec}{m:Nat}{a:vH}{e:FuncId→Bool}(d:P.follows .mixedOrders=true)(h:(hr.all fun x=>B1 P x.1 x.2)=true)(c: ∀x∈hr,x.2.cmp=true→Hl P x.1 x.2.zero)(eM:s.dm P)(gX:a.dm P):Env.dm ⟨P,yB hr,s,m,a,e⟩:=
 ⟨fun T t b=>aBH (ds.1 h (T,t) (ahK b)) (c (T,t) (ahK b)),d,eM,gX⟩
def mh:TypeDesc→Bool
 | .struct _=>true
 | .array _ _=>true
 |_=>false
def qX(b:Bool)(a:List Value):Value:=if b then .agg a.toArray else a.headD undef
def CR(P:Program)(c:TypeId→List J→Bool):List Field→Nat→List J→Bool
 |[],_,a=>a.isEmpty
 |f::d,b,a=>(f.name != "_")&&f.offset==b&&(match P.info? f.type,P.underlying f.type with
  |some i,some _=>decide (0<i.size)&&decide (i.size≤a.length)&&c f.type (a.take i.size)&&CR P c d (b+i.size) (a.drop i.size)
  |_,_=>false)
def rI(P:Program):Nat→TypeId→List J→Bool
 |0,_,_=>false
 |n+1,T,a=>match P.underlying T with
  |some (.int k)=>match a with
   |[.int c _]=>decide (k=c)
   |_=>false
  |some .bool=>match a with
   |[.bool _]=>true
   |_=>false
  |some .string=>match a with
   |[.str _]=>true
   |_=>false
  |some (.struct b)=> !P.stoodInHeld T&&CR P (rI P n) b.toList 0 a
  |_=>false
theorem wh: ∀{a cs:List J},hn a cs=true→a.length=cs.length
 |[],[],_=>rfl
 |_::_,_::_,h=>by simp only[hn,bL]at h;simp [wh h.2]
 |[],_::_,h=>by cases h
 |_::_,[],h=>by cases h
theorem Qr(n:Nat): ∀{a cs:List J},hn a cs=true→hn (a.take n) (cs.take n)=true∧hn (a.drop n) (cs.drop n)=true
 |[],[],h=>by simp [hn]
 |z::a,c::cs,h=>by
  simp only[hn,bL]at h
  cases n with
  |zero=>simp [hn,h]
  |succ n=>
   have:=Qr n h.2;simp [hn,h.1,this]
 |[],_::_,h=>by cases h
 |_::_,[],h=>by cases h
theorem ZF(n:Nat): ∀(cs a:List J),cs.length=a.length→iW cs a=(iW (cs.take n) (a.take n)&&iW (cs.drop n) (a.drop n))
 |[],[],_=>by simp [iW]
 |c::cs,d::a,h=>by
  cases n with
  |zero=>simp [iW]
  |succ n=>simp [iW,ZF n cs a (by simpa using h),Bool.and_assoc]
 |[],_::_,h=>by simp at h
 |_::_,[],h=>by simp at h
theorem aU.drop{α β:Type}{R:α→β→Prop} : ∀{aa:List α} {a:List β} (n:Nat),aU R aa a→aU R (aa.drop n) (a.drop n)
 |[],[],n,_=>by simp [aU]
 |_::_,_::_,0,h=>h
 |_::_,_::_,n+1,h=>aU.drop n h.2
 |[],_::_,_,h=>h.elim
 |_::_,[],_,h=>h.elim
section
variable {P:Program} {w:World}
theorem ag_{T:TypeId}{i:TypeInfo}{d:TypeDesc}(j:P.info? T=some i)(g:P.underlying T=some d)(c:mh d=false→i.size=1)(b:List Value)(a:Nat)(k:a+i.size≤b.length):
  (part T b.toArray a).run P w= .ok (qX (mh d) ((b.drop a).take i.size)) w:=by
 cases e:mh d with
 |true=>
  have:(isAgg T).run P w= .ok true w:=by cases d<;>simp [mh]at e<;>simp [isAgg,eY g]
  simp only[part,Sem.run_bind,this,Result.andThen_ok,kN,sizeOf,typeInfo,qX];simp [j]
 |false=>
  have:(isAgg T).run P w= .ok false w:=by cases d<;>simp [mh]at e<;>simp [isAgg,eY g]
  have c:=c e;have f:a<b.length:=by omega
  simp only[part,Sem.run_bind,this,Result.andThen_ok,qX,c];have h:(b.drop a).take 1=[b[a]]:=by rw[tx f];rfl
  simp [h,f]
def Xs(P:Program)(n:Nat)(T:TypeId)(e:List J):Prop:=
 ∀(d:Nat) (cs a:List J) (c us:List Value) (w:World) (b:TypeDesc),n≤d→P.underlying T=some b→hn e cs=true→hn e a=true→aU vK cs c→aU vK a us→
  (Op.equalIn d T (qX (mh b) c) (qX (mh b) us)).run P w= .ok (iW cs a) w
theorem am9{n:Nat}{T:TypeId}{b:List J}(h:rI P n T b=true){a:TypeDesc}(d:P.underlying T=some a)(c:mh a=false):b.length=1:=by
 cases n with
 |zero=>cases h
 |succ n=>
  simp only[rI,d]at h
  cases a<;>simp only at h<;>first|(cases h;done)|(cases c;done)|skip
  all_goals
   split at h<;>first|rfl|cases h
theorem ZG{n:Nat}(v: ∀(T:TypeId) (a:List J),rI P n T a=true→Xs P n T a){d:Nat}(s:n≤d)(j us:List Value)(cs b:List J)(r:aU vK cs j)(q:aU vK b us)(C:cs.length=b.length):
  ∀(k:List Field) (off:Nat) (a:List J) (w:World),CR P (rI P n) k off a=true→hn a (cs.drop off)=true→hn a (b.drop off)=true→
   (Op.eqFields d j.toArray us.toArray k).run P w= .ok (iW (cs.drop off) (b.drop off)) w
 |[],off,a,w,h,l,m=>by
  simp only[CR]at h;have G:a=[]:=by simpa using h
  subst G;have A:=(wh l).symm;have B:=(wh m).symm;rw[Ha.1 A,Ha.1 B];simp [Op.eqFields,iW]
 |f::k,off,a,w,h,l,m=>by
  simp only[CR,bL]at h;obtain⟨⟨o,p⟩,h⟩:=h;have p:f.offset=off:=by simpa using p
  have o:f.name≠ "_" :=by simpa using o
  cases g:P.info? f.type with
  |none=>rw[g]at h;simp at h
  |some i=>
   cases c:P.underlying f.type with
   |none=>rw[g,c]at h;simp at h
   |some z=>
    rw[g,c]at h;simp only[bL,jJ]at h;obtain⟨⟨⟨M,N⟩,u⟩,F⟩:=h;have H:=wh l;have I:=wh m;have Q:=r.length;have O:=q.length;simp only[rl]at H I;have t:mh z=false→i.size=1:=fun e=>by
     have:=am9 u c e;simp only[jj]at this;omega
    have K:=ag_ (w:=w) g c t j off (by omega);have L:=ag_ (w:=w) g c t us off (by omega);have x:=Qr i.size l;have y:=Qr i.size m;have D:=v f.type (a.take i.size) u d ((cs.drop off).take i.size) ((b.drop off).take i.size) ((j.drop off).take i.size) ((us.drop off).take i.size) w z s c x.1 y.1 (aU.take _ (aU.drop _ r)) (aU.take _ (aU.drop _ q));have E:=ZG v s j us cs b r q C k (off+i.size) (a.drop i.size) w F (by rw[←vD];exact x.2) (by rw[←vD];exact y.2);simp only[Op.eqFields,p];rw[bf o,Sem.run_bind,K,Result.andThen_ok,Sem.run_bind,L,Result.andThen_ok,Sem.run_bind,D,Result.andThen_ok];rw[ZF i.size (cs.drop off) (b.drop off) (by simp;omega),vD,vD]
    cases iW ((cs.drop off).take i.size) ((b.drop off).take i.size)with
    |false=>simp
    |true=>simp only[Bool.not_true,Bool.false_eq_true,mx,Bool.true_and];exact E
theorem YX: ∀(n:Nat) (T:TypeId) (j:List J),rI P n T j=true→Xs P n T j
 |0,_,_,h=>by cases h
 |n+1,T,j,h=>by
  intro d cs g i us w x y f a b e c;simp only[rI,f]at h;obtain⟨d,rfl⟩: ∃o,d=o+1:=⟨d-1,by omega⟩
  cases x<;>simp only at h<;>first|(cases h;done)|skip
  case bool=>
   split at h<;>first|(cases h;done)|skip
   match cs,g,i,us,a,b,e,c with
   |[.bool p],[.bool q],[v],[u],_,_,e,c=>rw[show v= .bool p from e.1,show u= .bool q from c.1];simp [qX,mh,run_equalIn_bool' w d T p q f,iW,Ib]
  case int k=>
   split at h<;>first|(cases h;done)|skip
   match cs,a with
   | .int _ _::_::_,a=>simp [hn]at a
   |[.int s p],a=>
   match g,b with
   | .int _ _::_::_,b=>simp [hn]at b
   |[.int t q],b=>
   match i,us,e,c with
   |[v],[u],e,c=>
    rw[show v= .int s p from e.1,show u= .int t q from c.1];simp [hn,Qq]at a b;rw[←a,←b];simp [qX,mh,run_equalIn_int w d T _ _ p q f,iW,Ib]
  case string=>
   split at h<;>first|(cases h;done)|skip
   match cs,g,i,us,a,b,e,c with
   |[.str p],[.str q],[v],[u],_,_,e,c=>rw[show v= .string p from e.1,show u= .string q from c.1];simp [qX,mh,run_equalIn_string w d T p q f,iW,Ib]
  case struct l=>
   simp only[bL,iL]at h;have m:P.fieldsOf T=l:=by simp [Program.fieldsOf,f]
   have:=run_equalIn_struct (P:=P) w d T i.toArray us.toArray (by rw[m];exact f) h.1;simp only[qX,mh,kN];rw[this,m];have r:cs.length=g.length:=(wh a).symm.trans (wh b);exact ZG (YX n) (by omega) i us cs g e c r l.toList 0 j w h.2 (by simpa using a) (by simpa using b)
theorem an6{T:TypeId}{c:List J}{n:Nat}(h:rI P n T c=true)(i:n≤10000)(a:(match P.underlying T with|some (.struct _)=>true|_=>false)=true)(g:P.eqGuardType P.depth T=false):Hl P T c:=by
 intro m x y cs d p us w j e f l k
 cases b:P.underlying T with
 |none=>rw[b]at a;cases a
 |some o=>
  rw[b]at a
  cases o<;>simp only at a<;>first|(cases a;done)|skip
  rename_i q;have:=YX n T c h 10000 cs d p us w _ i b e f l k;simp only[qX,mh,kN]at this;rw[Sem.run_bind,run_eqGuard_agg w m T x y _ _ g,Result.andThen_ok];rcases j with rfl|rfl
  ·rw[run_eql_struct,this];rfl
  ·rw[run_neq_struct,this];rfl
def HL(P:Program)(x:Nat×bD):Bool:= !x.2.cmp||(rI P 9 x.1 x.2.zero&&(match P.underlying x.1 with|some (.struct _)=>true|_=>false)&& !(P.eqGuardType P.depth x.1))
theorem ZD{P:Program}{hr:List (Nat×bD)}{s:Spec}{m:Nat}{a:vH}{f:FuncId→Bool}(e:P.follows .mixedOrders=true)(h:(hr.all fun x=>B1 P x.1 x.2)=true)(b:(hr.all fun x=>HL P x)=true)(g:s.dm P)(d:a.dm P):Env.dm ⟨P,yB hr,s,m,a,f⟩:=
 an3 e h (eM:=g) (gX:=d) fun x i c=>by
  have:=ds.1 b x i;simp only[HL,c,Bool.not_true,Bool.false_or,bL,iL]at this;exact an6 (n:=9) this.1.1 (by omega) this.1.2 this.2
end
def hY(x y:J):Prop:=
 match y with
 | .undef=>True
 | .bool c=>match x with
   | .bool b=>b=c
   | .lit b=>b=c
   |_=>False
 | .int k m=>match x with
   | .int a n=>c0 (decide (a=k)) (n=m)
   |_=>False
 | .str t=>match x with
   | .str s=>s=t
   |_=>False
 | .arr e n g=>match x with
   | .arr h d f=>c0 (decide (h=e)) (d=n∧ ∀i,i<n→f i=g i)
   | .aA=>n=0
   |_=>False
 |y=>x=y
def Ii:List J→List J→Prop
 |[],[]=>True
 |x::a,y::b=>hY x y∧Ii a b
 |_,_=>False
def wk(x y:J):Prop:=
 match y with
 | .agg a=>match x with
   | .agg cs=>Ii cs a
   |_=>False
 |y=>hY x y
def oO:List J→List J→Prop
 |[],[]=>True
 |x::a,y::b=>match y with
  | .undef=>oO a b
  |y=>wk x y∧oO a b
 |_,_=>False
def hD(x y:J):Prop:=
 match y with
 | .undef=>b_ x=false
 | .gone=>match x with
   | .undef=>False
   | .ad .. =>False
   |_=>True
 | .ad b d n g=>match x with
   | .ad c e a f=>c0 (decide (c=b)&&decide (e=d)) (a=n∧ ∀i,i<n→j6 (f i) (g i))
   |_=>False
 |y=>c0 (!(b_ x)) (hY x y)
def rN:List J→List J→Prop
 |a,[]=>c0 (a.all fun x=> !(b_ x)) True
 |x::a,y::b=>hD x y∧rN a b
 |[],_::_=>False
def zo:Heap→Heap→Prop
 |[],b=>c0 (b.all fun y=>y.isEmpty) True
 |x::a,y::b=>rN x y∧zo a b
 |x::a,[]=>c0 (x.all fun z=> !(b_ z)) (zo a [])
def zn:Heap→Heap→Prop
 |[],a=>c0 (a.all fun y=>y.isEmpty) True
 |x::b,y::a=>match y with
  |[]=>zn b a
  |z::c=>rN x (z::c)∧zn b a
 |_::_,[]=>True
def alive(H:Heap)(b:Nat):Bool:=
 match H.getD b []with
 |[]=>false
 |_::_=>true
def amQ(H:Heap):J→Bool
 | .ptr b _=>alive H b
 |x=>mD x
def Bk(H:Heap):J→Bool
 | .ptr b _=>alive H b
 | .own b _=>alive H b
 | .fp b _ _ _=>alive H b
 | .fn _ a=>a.all (amQ H)
 |_=>true
def LW(H:Heap):J→Bool
 | .agg cs=>cs.all (Bk H)
 | .c7 _=>false
 |av=>Bk H av
def vj(s:K):Bool:=s.n.all (LW s.k)&&s.k.all fun l=>l.all (Bk s.k)
def rq(s a:K):Prop:=oO s.n a.n∧zn s.k a.k∧vj a=true
def Cp(s a:K):Prop:=oO s.n a.n∧zo s.k a.k∧s.k.length≤a.k.length
section
variable {S:dM} {ι:Nat→Option Nat} {a:Act} {w:World} {F:Nat→Prop} {H:Heap}
theorem tX{x y:J}{v:Value}(h:hY x y)(k:b8 ι H w F x v):b8 ι H w F y v:=by
 cases y
 case undef=>exact k.one
 case bool c=>
  cases x<;>simp only[hY]at h<;>try exact h.elim
  ·subst h;exact k
  ·subst h;have k:aR w F (.lit _) v:=k
   cases k
   exact aR.bool _
 case int d m=>
  cases x<;>simp only[hY]at h<;>try exact h.elim
  rw[ay]at h;obtain⟨a,rfl⟩:=h;have:=al a;subst this;exact k
 case str t=>
  cases x<;>simp only[hY]at h<;>try exact h.elim
  subst h;exact k
 case arr e n g=>
  cases x<;>simp only[hY]at h<;>try exact h.elim
  ·subst h;have k:aR w F .aA v:=k
   cases k
   exact aR.nil _ _
  ·rw[ay]at h;obtain⟨a,rfl,b⟩:=h;have:=al a;subst this;exact gT.rel (x:= .arr _ _ _) (y:= .arr _ _ _) ⟨rfl,rfl,b⟩ k
 all_goals
  simp only[hY]at h;subst h;exact k
theorem ZQ: ∀{cs a:List J} {b:List Value},Ii cs a→aU (b8 ι H w F) cs b→aU (b8 ι H w F) a b
 |[],[],_,_,k=>k
 |_::_,_::_,_::_,h,k=>⟨tX h.1 k.1,ZQ h.2 k.2⟩
 |_::_,_::_,[],_,k=>k.elim
 |[],_::_,_,h,_=>h.elim
 |_::_,[],_,h,_=>h.elim
theorem aoi{x y:J}{v:Value}(h:hY x y)(b:y≠ .undef)(k:eh ι H w F x v):eh ι H w F y v:=by
 cases y
 case undef=>exact(b rfl).elim
 case bool c=>
  cases x<;>simp only[hY]at h<;>first|exact h.elim|exact tX (ι:=ι) (H:=H) (x:= .bool _) (y:= .bool c) h k|exact tX (ι:=ι) (H:=H) (x:= .lit _) (y:= .bool c) h k
 case int d m=>
  cases x<;>simp only[hY]at h<;>first|exact h.elim|exact tX (ι:=ι) (H:=H) (x:= .int _ _) (y:= .int d m) h k
 case str t=>
  cases x<;>simp only[hY]at h<;>first|exact h.elim|exact tX (ι:=ι) (H:=H) (x:= .str _) (y:= .str t) h k
 case arr a n g=>
  cases x<;>simp only[hY]at h<;>first|exact h.elim|exact tX (ι:=ι) (H:=H) (x:= .aA) (y:= .arr a n g) h k|exact tX (ι:=ι) (H:=H) (x:= .arr _ _ _) (y:= .arr a n g) h k
 all_goals
  simp only[hY]at h;subst h;exact k
theorem aoj{x y:J}{v:Value}(h:wk x y)(k:eh ι H w F x v):eh ι H w F y v:=by
 cases y
 case undef=>trivial
 case agg b=>
  cases x<;>simp only[wk]at h<;>try exact h.elim
  obtain⟨a,rfl,k⟩:=k;exact⟨a,rfl,ZQ h k⟩
 all_goals
  simp only[wk]at h;exact aoi h (by simp) k
theorem ZS: ∀{a b:List J} (t:Nat) (y:J),oO a b→b[t]? =some y→ ∃x,a[t]? =some x∧wk x y
 |[],[],_,_,_,h=>by simp at h
 |x::a,y::b,0,z,h,c=>by
  simp at c;subst c;refine⟨x,rfl,?_⟩;simp only[oO]at h
  split at h
  ·trivial
  ·exact h.1
 |x::a,y::b,t+1,z,h,c=>by
  have:oO a b:=by
   simp only[oO]at h
   split at h
   ·exact h
   ·exact h.2
  simpa using ZS t z this (by simpa using c)
 |[],_::_,_,_,h,_=>h.elim
 |_::_,[],_,_,h,_=>h.elim
theorem ZP: ∀{a b:List J} (o:Nat),rN a b→hD (a.getD o .undef) (b.getD o .undef)
 |a,[],o,h=>by
  cases a<;>simp only[rN]at h<;>simp only[List.getD_nil,hD]
  ·rfl
  ·rename_i x a;have c:=(ay.1 h).1
   cases e:(x::a)[o]? with
   |none=>simp [List.getD,e,b_]
   |some z=>
    have:=ds.1 c z (e0 e);simpa[List.getD,e]using this
 |x::a,y::b,0,h=>h.1
 |x::a,y::b,o+1,h=>by simpa using ZP o h.2
 |[],_::_,_,h=>h.elim
theorem rO: ∀{a cq:Heap} (b o:Nat),zo a cq→hD (B a b o) (B cq b o)
 |[],cq,b,o,h=>by
  have c:=(ay.1 h).1;have:B cq b o= .undef:=by
   unfold B
   cases e:cq[b]? with
   |none=>simp [List.getD,e]
   |some z=>
    have:=ds.1 c z (e0 e);have f:z=[]:=by simpa using this
    simp [List.getD,e,f]
  rw[this];simp [B,hD,b_]
 |x::a,y::cq,0,o,h=>by simpa[B]using ZP o h.1
 |x::a,y::cq,b+1,o,h=>by simpa[B]using rO b o h.2
 |x::a,[],0,o,h=>by
  have c:=(ay.1 h).1;have d:hD (x.getD o .undef) .undef:=by
   simp only[hD]
   cases e:x[o]? with
   |none=>simp [List.getD,e,b_]
   |some z=>
    have:=ds.1 c z (e0 e);simpa[List.getD,e]using this
  simpa[B]using d
 |x::a,[],b+1,o,h=>by
  have c:=rO (cq:=[]) b o (ay.1 h).2;simpa[B]using c
theorem Ih{x y:J}(h:hD x y):b_ x=b_ y:=by
 cases y
 case undef=>exact h
 case ad a b n g=>
  cases x<;>simp only[hD]at h<;>first|exact h.elim|rfl
 case gone=>cases x<;>first|rfl|exact(show False from h).elim
 all_goals
  simp only[hD]at h;have:=(ay.1 h).1;simp only[iL]at this;rw[this];rfl
theorem ZN{x y:J}(h:hY x y)(a:y≠ .undef):x≠ .undef:=by
 rintro rfl
 cases y<;>simp only[hY]at h<;>first|exact a rfl|exact h.elim|(cases h;done)|exact a h
theorem ZO{x y:J}(h:hD x y)(a:ot y=true):ot x=true:=by
 cases y
 case undef=>cases a
 case ad e f n g=>
  cases x<;>simp only[hD]at h<;>try exact h.elim
  rw[ay,bL]at h;have:=al h.1.1;subst this;exact a
 case gone=>cases x<;>first|rfl|exact(show False from h).elim
 all_goals
  simp only[hD]at h;obtain⟨b,c⟩:=ay.1 h;have d:=ZN c (by simp)
  cases x<;>first|rfl|(exact(d rfl).elim)|(cases b;done)
theorem Cp.aBf{st g:K}(h:Cp st g):ec ι st.k w (aK S ι st.k w) ι g.k w (aK S ι g.k w):=by
 refine⟨fun x ⟨a,d,k⟩=>⟨a,d,fun b j=>k b (j.imp (fun⟨c,i⟩=>⟨by rw[Ih (rO b 0 h.2.1)];exact c,ZO (rO b 0 h.2.1) i⟩) fun⟨c,o,p⟩=>⟨by rw[Ih (rO b 0 h.2.1)];exact c,o,ZO (rO b o h.2.1) p⟩)⟩,fun _ _ _=>rfl,fun b x q j=>⟨q,by rw[←Ih (rO b 0 h.2.1)];exact j⟩,fun b s t n f m=> ?_⟩;have a:=rO b 0 h.2.1;rw[m]at a;have d:=Ih a
 cases e:B g.k b 0<;>rw[e]at a d<;>first|(cases d;done)|skip
 simp only[hD]at a;rw[ay,bL]at a;obtain⟨⟨c,i⟩,rfl,r⟩:=a;have:=al i;subst this;exact⟨_,_,_,_,rfl,bC _,fun _=>⟨rfl,rfl,fun x C T _ l=>⟨C,l,rfl⟩⟩⟩
theorem Cp.le{m:Nat}{st c:K}(h:Cp st c):cg m st c:=by
 intro S _ ι a w k;have p:ec ι st.k w (aK S ι st.k w) ι c.k w (aK S ι c.k w):=h.aBf;refine⟨ι,k.below,k.defers,fun t av R=> ?_,fun b o=> ?_,k.inj,k.fresh,fun b x M=>gk (k.gn b x M) h.2.2,k.gr.trans p⟩
 ·obtain⟨x,U,Q⟩:=ZS t av h.1 R;obtain⟨v,d,f⟩:=k.n t x U;exact⟨v,d,aoj Q (f.step p)⟩
 ·have d:=rO b o h.2.1;have f:=k.k b o
  cases e:B c.k b o<;>rw[e]at d
  case undef=>trivial
  case ad Z b6 n g=>
   cases q:B st.k b o<;>rw[q]at d f<;>simp only[hD]at d<;>try exact d.elim
   rw[ay,bL]at d;obtain⟨⟨A,J⟩,rfl,L⟩:=d;have:=al J;subst this;obtain⟨r,I|⟨N,l⟩⟩:=f
   ·exact⟨r,.inl ⟨by have A:=al A;rw[←A];exact I.1,I.2⟩⟩
   refine⟨r,.inr ⟨N,?_⟩⟩;rcases l with l|⟨x,C,T,s,u,z⟩
   ·exact .inl l
   ·refine .inr ⟨x,C,T,s,u,fun i j H O=> ?_⟩;obtain⟨av,v,W,X,Y⟩:=z i j H O;obtain⟨y,V,P⟩:=Me j av (L i H) W;exact⟨y,v,V,X,U3 P (Y.mono p.hE p.cell)⟩
  case gone=>
   have f:eQ ι c.k w (aK S ι c.k w) b o (B st.k b o):=f.step p (fun _=>rfl) (fun _ _ _=>⟨rfl,rfl⟩) (fun _=>⟨rfl,fun _ _=>rfl⟩);have D:b_ (B c.k b 0)=false∧ ∃x v,ι b=some x∧w.cell? ⟨x,o,none⟩=some v∧w.frozen? ⟨x,o,none⟩=false∧b8 ι c.k w (aK S ι c.k w) (B st.k b o) v:=by
    cases q:B st.k b o<;>rw[q]at d f<;>first|exact(show False from d).elim|exact f
   obtain⟨E,x,v,s,u,z,F⟩:=D;exact⟨E,x,v,s,u,z,b8.one F⟩
  all_goals
   simp only[hD]at d;obtain⟨r,l⟩:=ay.1 d;have G:=ZN l (by simp);have f:eQ ι c.k w (aK S ι c.k w) b o (B st.k b o):=f.step p (fun _=>rfl) (fun _ _ _=>⟨rfl,rfl⟩) (fun _=>⟨rfl,fun _ _=>rfl⟩);have D:b_ (B c.k b 0)=false∧ ∃x v,ι b=some x∧w.cell? ⟨x,o,none⟩=some v∧w.frozen? ⟨x,o,none⟩=false∧b8 ι c.k w (aK S ι c.k w) (B st.k b o) v:=by
    cases q:B st.k b o<;>rw[q]at f r G<;>first|exact(G rfl).elim|(cases r;done)|exact f
   obtain⟨E,x,v,s,u,z,F⟩:=D;exact⟨E,x,v,s,u,z,tX l F⟩
theorem LV{an:Nat→Option Nat}{H1:Heap}{F':Nat→Prop}(l: ∀b,alive H b=true→an b=ι b)(j: ∀b,alive H b=true→ ∀o,B H b o=B H1 b o)(t: ∀x,F x→F' x){av:J}{v:Value}(e:Bk H av=true)(k:b8 ι H1 w F av v):b8 an H w F' av v:=by
 cases av
 case ptr b o=>
  obtain⟨d,x,a,g⟩:=k;exact⟨by rw[j b e];exact d,x,by rw[l b e];exact a,g⟩
 case own b c=>
  obtain⟨n,r,s,m,f,d,a,g⟩:=k;exact⟨n,r,s,m,f,by rw[j b e];exact d,a,by rw[l b e];exact g⟩
 case fp b c i o=>
  obtain⟨n,r,s,m,f,d,a,g⟩:=k;exact⟨n,r,s,m,f,by rw[j b e];exact d,a,by rw[l b e];exact g⟩
 case fn f I=>
  obtain⟨G,d,a⟩:=k;refine⟨G,d,aU.mk a.length fun i p q u E=> ?_⟩;obtain⟨K,y,z⟩:=a.get i p u;rw[E]at y;cases y;have h:=ds.1 e p (e0 u)
  cases p
  case ptr b o=>
   obtain⟨A,x,C,D⟩:=z;have h:alive H b=true:=h;exact⟨by rw[j b h];exact A,x,by rw[l b h];exact C,D⟩
  all_goals first|(cases h;done)|exact aR.mono t (fun _ _ _=>rfl) z
 case undef=>exact k
 case gone=>exact k
 case agg=>exact k.elim
 case c7=>exact k.elim
 case ad=>exact k.elim
 all_goals exact aR.mono t (fun _ _ _=>rfl) k
theorem afi{an:Nat→Option Nat}{H1:Heap}{F':Nat→Prop}(g: ∀b,alive H b=true→an b=ι b)(d: ∀b,alive H b=true→ ∀o,B H b o=B H1 b o)(c: ∀x,F x→F' x){av:J}{v:Value}(a:LW H av=true)(k:eh ι H1 w F av v):eh an H w F' av v:=by
 cases av
 case agg cs=>
  obtain⟨l,rfl,k⟩:=k;refine⟨l,rfl,aU.mk k.length fun i p q e h=> ?_⟩;obtain⟨m,f,j⟩:=k.get i p e;rw[h]at f;cases f;exact LV g d c (ds.1 a p (e0 e)) j
 case c7=>cases a
 case undef=>trivial
 case gone=>exact k
 all_goals
  simp only[LW]at a;exact(show b8 an H w F' _ v from LV (ι:=ι) (H1:=H1) (F:=F) g d c a (show b8 ι H1 w F _ v from k))
def hq(m:Nat)(st:K):Bool:=(List.range m).all fun b=>alive st.k b
theorem ec.cut{iO ι an:Nat→Option Nat}{a H1 H:Heap}{q w:World}{G F F':Nat→Prop}(h:ec iO a q G ι H1 w F)(p2: ∀b x,iO b=some x→b<a.length)(m: ∀b,b<a.length→alive H b=true)
  (p: ∀b,alive H b=true→an b=ι b) (l: ∀b,alive H b=true→ ∀o,B H b o=B H1 b o) (t: ∀x,F x→F' x):ec iO a q G an H w F':=by
 refine⟨fun x i=>t x (h.hE x i),h.cell,fun b x i d=> ?_,fun b v z n f d=> ?_⟩
 ·have c:=m b (p2 b x i);obtain⟨j,k⟩:=h.box b x i d;exact⟨by rw[p b c];exact j,by rw[l b c];exact k⟩
 ·have c:=m b (by
   rcases fk b a.length with g|g
   ·exact g
   ·rw[sJ g]at d;cases d)
  obtain⟨y,A,u,r,j,k,s⟩:=h.arr b v z n f d;exact⟨y,A,u,r,by rw[l b c];exact j,k,fun e=>by rw[p b c];exact s e⟩
theorem awJ{m:Nat}{u:List J}{H H1:Heap}(D:vj ⟨u,H⟩=true)(p: ∀b,alive H b=true→ ∀o,B H b o=B H1 b o)(Z:hq m ⟨u,H⟩=true):cg m ⟨u,H1⟩ ⟨u,H⟩:=by
 intro S sH ι a w g;simp only[vj,bL]at D;let an:Nat→Option Nat:=fun b=>if alive H b then ι b else none
 have k: ∀b,alive H b=true→an b=ι b:=fun b c=>bf c;have q: ∀b x,an b=some x→alive H b=true∧ι b=some x:=fun b x c=>by
  by_cases h:alive H b=true
  ·exact⟨h,by rw[←k b h];exact c⟩
  ·simp [an,h]at c
 have Y: ∀b,alive H b=true→b<H.length:=fun b c=>by
  rcases fk b H.length with h|h
  ·exact h
  ·simp [alive,List.getD,eF h]at c
 have TQ: ∀b o,alive H b=false→B H b o= .undef:=fun b o h=>by
  unfold alive at h;unfold B
  cases e:H.getD b []with
  |nil=>rfl
  |cons z rm=>rw[e]at h;cases h
 have s: ∀x,aK S ι H1 w x→aK S an H w x:=fun x ⟨r,d,U⟩=>⟨r,d,fun b c N=>U b (nv (fun o=>p b (q b x N).1 o) c) (q b x N).2⟩;refine⟨an,g.below,g.defers,fun t av M=> ?_,fun b o=> ?_,fun b O x r d=>g.inj b O x (q _ _ r).2 (q _ _ d).2,fun b x h=>g.fresh b x (q _ _ h).2,fun b x h=>Y b (q _ _ h).1,g.gr.cut S.p2 (fun b c=>ds.1 Z b (tA.2 (by omega))) k p s⟩
 ·obtain⟨v,r,d⟩:=g.n t av M;exact⟨v,r,afi k p s (ds.1 D.1 av (e0 M)) d⟩
 ·show eQ an H w (aK S an H w) b o (B H b o);have d:=g.k b o
  cases c:alive H b with
  |false=>rw[TQ b o c];trivial
  |true=>
   have X: ∀av,B H b o=av→av≠ .undef→Bk H av=true:=fun av e L=>by
    unfold B at e
    cases y:H[b]? with
    |none=>simp [List.getD,y]at e;exact absurd e.symm L
    |some l=>
     simp only[List.getD,y,kM]at e
     cases A:l[o]? with
     |none=>rw[A]at e;exact absurd e.symm L
     |some z=>
      rw[A]at e;simp only[kM]at e;subst e;exact ds.1 (ds.1 D.2 l (e0 y)) z (e0 A)
   have R:b_ (B H b 0)=b_ (B H1 b 0):=by rw[p b c 0]
   have d:eQ ι H1 w (aK S ι H1 w) b o (B H b o):=by rw[p b c o];exact d
   cases e:B H b o<;>rw[e]at d
   case undef=>trivial
   case ad ro b6 n f=>
    obtain⟨K,I|⟨P,Q⟩⟩:=d
    ·exact⟨K,.inl ⟨I.1,I.2.1,by rw[k b c];exact I.2.2⟩⟩
    refine⟨K,.inr ⟨P,?_⟩⟩;rw[k b c];exact Q.imp id fun⟨x,C,T,E,F,G⟩=>⟨x,C,T,E,F,fun i j V W=>by
     obtain⟨av,v,qS,qT,x4⟩:=G i j V W;exact⟨av,v,qS,qT,x4.mono s fun _ _ _=>rfl⟩⟩
   all_goals
    obtain⟨FM,x,v,E,F,G,xX⟩:=d;exact⟨by rw[R];exact FM,x,v,by rw[k b c];exact E,F,G,LV k p s (X _ e (by simp)) xX⟩
theorem aoh(x:J):hY x x:=by
 cases x<;>first|exact trivial|exact rfl|exact ay.2 ⟨bS rfl,rfl⟩|exact ay.2 ⟨bS rfl,rfl,fun _ _=>rfl⟩
theorem aok{x:J}(h:b_ x=false):hD x x:=by
 have a:=aoh x;have b:(!(b_ x))=true:=by rw[h];rfl
 unfold hD
 split
 ·exact h
 ·trivial
 ·cases h
 ·exact ay.2 ⟨b,a⟩
theorem aol(x:J):hD x x:=by
 cases a:b_ x with
 |false=>exact aok a
 |true=>
  obtain⟨b,c,n,f,rfl⟩:=LA a;exact ay.2 ⟨by simp,rfl,fun _ _=>yc _⟩
theorem Qu: ∀(a:List J),rN a a
 |[]=>ay.2 ⟨rfl,trivial⟩
 |x::a=>⟨aol x,Qu a⟩
def vy:Heap→Heap→Heap
 |[],b=>b
 |x::a,y::b=>(match y with|[]=>x|z::c=>z::c)::vy a b
 |x::a,[]=>x::a
theorem ZR: ∀(H:Heap),zo H H
 |[]=>ay.2 ⟨rfl,trivial⟩
 |x::a=>⟨Qu x,ZR a⟩
theorem WT: ∀{xs cq:Heap},zn xs cq→zo xs (vy xs cq)∧xs.length≤(vy xs cq).length
 |[],cq,h=>⟨h,cf _⟩
 |x::xs,[],h=>⟨ZR _,bC _⟩
 |x::xs,[]::cq,h=>by
  obtain⟨a,b⟩:=WT (xs:=xs) (cq:=cq) h;exact⟨⟨Qu x,a⟩,by simp [vy,b]⟩
 |x::xs,(z::c)::cq,h=>by
  obtain⟨a,b⟩:=WT (xs:=xs) (cq:=cq) h.2;exact⟨⟨h.1,a⟩,by simp [vy,b]⟩
theorem aik: ∀{xs cq:Heap} (b:Nat),alive cq b=true→ ∀o,B cq b o=B (vy xs cq) b o
 |[],cq,b,h,o=>rfl
 |x::xs,[],b,h,o=>by simp [alive]at h
 |x::xs,y::cq,0,h,o=>by
  cases y with
  |nil=>simp [alive]at h
  |cons z a=>rfl
 |x::xs,y::cq,b+1,h,o=>by
  have:=aik (xs:=xs) (cq:=cq) b (by simpa[alive]using h) o;simpa[B,vy]using this
theorem rq.le{m:Nat}{st a:K}(h:rq st a)(f:hq m a=true):cg m st a:=by
 obtain⟨c,d⟩:=WT h.2.1;have g:Cp st ⟨a.n,vy st.k a.k⟩:=⟨h.1,c,d⟩;exact g.le.trans (awJ h.2.2 (fun b e o=>aik b e o) f)
end
section
variable {E:Env} {x y:Code} {Q:Exit→K→Prop} {st:K}
theorem WP.step(c:E.dm)(a:K)(p:Prop)(e:lT E x (hN (fun s=>rq s a) Q) st=p)(h:p)(k:WP E y Q a)(d:hq E.m a=true:=by rfl):WP E (.seq x y) Q st:=
 WP.cut a ((WP.U5 c (Eq.mpr e h)).mono fun e s b=>by cases e<;>simp only[hN]at b ⊢ <;>first|exact rq.le b d|exact b) k
theorem WP.join(a:K)(h:WP E x (hN (fun s=>rq s a) Q) st)(k:WP E y Q a)(c:hq E.m a=true:=by rfl):WP E (.seq x y) Q st:=
 WP.cut a (h.mono fun e s b=>by cases e<;>simp only[hN]at b ⊢ <;>first|exact rq.le b c|exact b) k
theorem WP.aw8(h:WP E x (hN (fun _=>False) Q) st):WP E (.loop x) Q st:=
 WP.loop (α:=Unit) (fun _=>st) (fun _=>True) (fun _=>0) () trivial (cg.refl st) fun _ _=>h.mono fun e s a=>by
  cases e<;>simp only[hN,Uz]at a ⊢ <;>first|exact a.elim|exact a
theorem WP.CV{c:Operand}(b:Bool)(a:ax st.n c= .bool b)(d:b=true→WP E x Q st)(e:b=false→WP E y Q st):WP E (.cond c x y) Q st:=WP.cond a d e
theorem WP.pA(p:Prop)(e:Q .ret st=p)(h:p):WP E .ret Q st:=WP.ret (Eq.mpr e h)
theorem WP.GL(p:Prop)(e:Q .normal st=p)(h:p):WP E .skip Q st:=WP.skip (Eq.mpr e h)
end
abbrev tD:=List J→Option (Option Prop×J)
structure alJ (P:Program) (f:FuncId) (s:tD):Prop where
 vR:lg P f
 pure: ∀args pre r,s args=some (pre,r)→nr pre True→e1 P f args r
def GM:List (Nat×tD)→Spec
 |[]=>fun _ _=>none
 |(g,s)::r=>fun f aa=>match Nat.beq f g with
  |true=>match s aa with
   |some q=>some q
   |none=>GM r f aa
  |false=>GM r f aa
def Hs(P:Program):List (Nat×tD)→Prop
 |[]=>True
 |x::r=>alJ P x.1 x.2∧Hs P r
theorem Wv{P:Program} : ∀{l:List (Nat×tD)},Hs P l→Spec.dm P (GM l)
 |[],_=>fun f a c r h=>by cases h
 |(g,s)::l,b=>fun f a c r h=>by
  simp only[GM]at h
  split at h
  ·rename_i e;have:f=g:=dQ e;subst this
   cases d:s a with
   |some q=>
    rw[d]at h
    cases h
    exact⟨b.1.vR,b.1.pure a c r d⟩
   |none=>
    rw[d]at h;exact Wv b.2 f a c r h
  ·exact Wv b.2 f a c r h
abbrev yS:=List J→Heap→Option (Option Prop×List J×Heap)
structure alu (P:Program) (f:FuncId) (s:yS):Prop where
 vR:lg P f
 call: ∀args H pre rs H',s args H=some (pre,rs,H')→nr pre True→fm P f args H rs H'
def Fv:List (Nat×yS)→vH
 |[]=>fun _ _ _=>none
 |(g,s)::r=>fun f aa H=>match Nat.beq f g with
  |true=>match s aa H with
   |some q=>some q
   |none=>Fv r f aa H
  |false=>Fv r f aa H
def Ol(P:Program):List (Nat×yS)→Prop
 |[]=>True
 |x::r=>alu P x.1 x.2∧Ol P r
theorem TK{P:Program} : ∀{l:List (Nat×yS)},Ol P l→vH.dm P (Fv l)
 |[],_=>fun f a H c rs H' h=>by cases h
 |(g,s)::l,b=>fun f a H c rs H' h=>by
  simp only[Fv]at h
  split at h
  ·rename_i e;have:f=g:=dQ e;subst this
   cases d:s a H with
   |some q=>
    rw[d]at h
    cases h
    exact⟨b.1.vR,b.1.call a H c rs H' d⟩
   |none=>
    rw[d]at h;exact TK b.2 f a H c rs H' h
  ·exact TK b.2 f a H c rs H' h
section
variable {E:Env} {S:dM} {ι:Nat→Option Nat} {st:K} {a:Act} {w:World}
def TC(E:Env)(st:K)(r:ResultVar)(a:J→Prop):Prop:=
 match r with
 | .tmp t=>a (st.n.getD t .undef)
 | .cell t T=>dx E T fun b=>np b st.k (st.n.getD t .undef) fun av=>a av
def va(E:Env)(st:K):List ResultVar→(List J→Prop)→Prop
 |[],a=>a []
 |x::r,a=>TC E st x fun y=>va E st r fun b=>a (y::b)
theorem adL(j:E.dm)(h:aP S ι st a w): ∀(rs:List ResultVar) (K:List J→Prop),va E st rs K→ ∃c d,K c∧aU (bg S ι st.k w) c d∧aU (pz E.P w a.tmps) rs d
 |[],K,b=>⟨[],[],b,trivial,trivial⟩
 |r::rs,K,b=>by
  have m: ∃y v,va E st rs (fun c=>K (y::c))∧bg S ι st.k w y v∧pz E.P w a.tmps r v:=by
   cases r with
   |tmp t=>exact⟨_,_,b,h.eval (.tmp t),rfl⟩
   |cell t T=>
    obtain⟨n,l,_,b⟩:=jI j b;obtain⟨p,av,u,e,f,g,i⟩:=LS l h (h.eval (.tmp t)) b;refine⟨av,u,f,g,?_⟩;have k:a.tmps.getD t undef= .pointer (some p):=e;simp only[pz];rw[Sem.run_bind,k];simp [asAddr,i]
  obtain⟨y,v,b,e,f⟩:=m;obtain⟨c,d,b,g,i⟩:=adL j h rs _ b;exact⟨y::c,v::d,b,⟨e,g⟩,f,i⟩
theorem zp: ∀{a b:List J},oO a b→a.length=b.length
 |[],[],_=>rfl
 |[],_::_,h=>h.elim
 |_::_,[],h=>h.elim
 |x::a,y::b,h=>by
  have:oO a b:=by cases y<;>first|exact h|exact h.2
  simp [zp this]
end
end Go.af
namespace Go.af
open Go Go.ChangeShapes Go.RowKit Go.WideShapes
def tiled(P:Program):List Field→Nat→Nat→Bool
 |[],a,b=>a==b
 |f::c,a,b=>f.offset==a&&tiled P c (a+P.cellsOf f.type) b
def qZ(P:Program):Nat→TypeId→Bool
 |0,_=>false
 |n+1,t=>match P.underlying t with
  |some .bool=>true
  |some (.int _)=>true
  |some .string=>true
  |some (.slice e)=>qZ P n e&&P.cellsOf e !=0
  |some (.struct a)=>tiled P a.toList 0 (P.cellsOf t)&&a.toList.all fun f=>qZ P n f.type
  |_=>false
def Wo(c:TypeId→(List J→Prop)→Prop):List Field→(List J→Prop)→Prop
 |[],K=>K []
 |f::d,K=>c f.type fun a=>Wo c d fun b=>K (a++b)
structure Ch {H:Type} (iT:DataW H→Nat):Prop where
 str: ∀l:List UInt8,l.length≤iT (.lit (.string l))
 len: ∀e r:List (DataW H),e.length≤iT (.slice e r)
 elem: ∀e r:List (DataW H),∀d∈e,iT d≤iT (.slice e r)
 part: ∀e:List (DataW H),∀d∈e,iT d≤iT (.agg e)
def ln(P:Program):Nat→TypeId→List J
 |0,_=>[]
 |n+1,t=>match P.underlying t with
  |some .bool=>[.bool false]
  |some (.int k)=>[.int k 0]
  |some .string=>[.str ⟨#[]⟩]
  |some (.slice e)=>[.arr (P.cellsOf e) 0 fun _=>ln P n e]
  |some (.struct a)=>a.toList.flatMap fun f=>ln P n f.type
  |_=>[]
def kg(P:Program)(B:Nat):Nat→TypeId→(List J→Prop)→Prop
 |0,_,_=>False
 |n+1,t,K=>match P.underlying t with
  |some .bool=> ∀b,K [.bool b]
  |some (.int k)=> ∀x:Int,(Lit.int k x).wf=true→K [.int k x]
  |some .string=> ∀s:u,s.size≤B→K [.str s]
  |some (.slice e)=> ∀(m:Nat) (f:Nat→List J),m≤B→(∀i,m≤i→f i=ln P n e)→(∀i,i<m→ ∀a,kg P B n e a→a (f i))→K [.arr (P.cellsOf e) m f]
  |some (.struct c)=>Wo (kg P B n) c.toList K
  |_=>False
section
variable {H:Type} {enc:TypeId×Value→H} {P:Program} {w:World} {base:Nat} {spare:Nat→Bool} {held:Bool} {B:Nat} {iT:DataW H→Nat}
theorem alV{a:Addr}(h:a.spot=none)(i j:Nat):(a.add i).add j=⟨a.block,a.off+i+j,none⟩:=by
 obtain⟨b,o,s⟩:=a;simp only at h;subst h;unfold Addr.add
 by_cases c:i=0<;>by_cases d:j=0<;>simp [c,d,pL]
theorem af2{n:Nat}(o: ∀(t:TypeId) (cs:List Value) (i:Nat) (x:DataW H×List MemPlace),qZ P n t=true→iT x.1≤B→DataW.trod enc P w base spare held i t cs=some x→
   ∃d,aU (aR w fun y=>y<w.heap.size) d cs∧ ∀K,kg P B n t K→K d) {cs:List Value} : ∀(a:List Field) (c:Nat),tiled P a c cs.length=true→(a.all fun f=>qZ P n f.type)=true→
  (∀f∈a,∃i x,iT x.1≤B∧DataW.trod enc P w base spare held i f.type ((cs.drop f.offset).take (P.cellsOf f.type))=some x)→
  ∃d,aU (aR w fun y=>y<w.heap.size) d (cs.drop c)∧ ∀K,Wo (kg P B n) a K→K d
 |[],c,e,_,_=>by
  have:c=cs.length:=by simpa[tiled]using e
  subst this;exact⟨[],by simp [aU],fun K h=>h⟩
 |f::a,c,e,j,m=>by
  simp only[tiled,bL,iM]at e;simp only[yM,bL]at j;obtain⟨i,x,v,A⟩:=m f (by simp);obtain⟨k,l,q⟩:=o _ _ _ _ j.1 v A;obtain⟨p,r,s⟩:=af2 o a (c+P.cellsOf f.type) e.2 j.2 (fun g z=>m g (by simp [z]));rw[e.1]at l;refine⟨k++p,?_,fun K u=>s (fun b=>K (k++b)) (q _ u)⟩;have:=aU.append l r;rwa [←vD,ri]at this
theorem Va(M:B≤dj)(C:Ch iT): ∀(n:Nat) (t:TypeId) (cs:List Value) (F:Nat) (x:DataW H×List MemPlace),qZ P n t=true→iT x.1≤B→DataW.trod enc P w base spare held F t cs=some x→
  ∃p,aU (aR w fun y=>y<w.heap.size) p cs∧ ∀K,kg P B n t K→K p
 |0,t,cs,F,x,r,_,h=>by cases r
 |n+1,t,cs,F,x,r,N,h=>by
  unfold qZ at r
  cases q:P.underlying t with
  |none=>rw[q]at r;cases r
  |some d=>
   rw[q]at r
   cases d<;>simp only at r<;>try (cases r;done)
   case bool=>
    obtain⟨b,rfl,_⟩:=DataW.trod_bool q h;exact⟨[.bool b],⟨.bool b,trivial⟩,fun K c=>by unfold kg at c;rw[q]at c;exact c b⟩
   case int k=>
    obtain⟨y,rfl,_,sO⟩:=DataW.trod_int q h;exact⟨[.int k y],⟨.int k y,trivial⟩,fun K c=>by unfold kg at c;rw[q]at c;exact c y sO⟩
   case string=>
    obtain⟨s,rfl,rfl,_⟩:=DataW.trod_string q h;have V:s.size≤B:=by
     have:=C.str s.data.toList;rw[Array.length_toList]at this;exact dB this N
    exact⟨[.str s],⟨.str s (dB V M),trivial⟩,fun K c=>by unfold kg at c;rw[q]at c;exact c s V⟩
   case slice e=>
    simp only[bL,bne_iff_ne]at r;rcases DataW.trod_slice q h with⟨rfl,_⟩|⟨a,u,Z,T,Y,m,_,rfl,rfl,iF,n9,hm,Tk,R,_,_⟩
    ·exact⟨[.arr (P.cellsOf e) 0 fun _=>ln P n e],⟨.nil _ _,trivial⟩,fun K c=>by unfold kg at c;rw[q]at c;exact c 0 _ (cf _) (fun _ _=>rfl) fun i g=>absurd g (by omega)⟩
    ·have A:u≤B:=by
      have:=C.len (T.map (·.1)) (Y.map (·.1));rw[List.length_map,Tk]at this;exact dB this N
     have X: ∀i,i<u→ ∃p l,aU (aR w fun y=>y<w.heap.size) p l∧(∀K,kg P B n e K→K p)∧l.length=P.cellsOf e∧ ∀j,j<P.cellsOf e→w.cell? ((a.add (i*P.cellsOf e)).add j)=l[j]? :=fun i g=>by
      have z:=R i g;rw[cI (by omega)]at z
      cases I:w.cells? base (a.add (i*P.cellsOf e)) (P.cellsOf e)with
      |none=>rw[I]at z;cases z
      |some l=>
       rw[I]at z;obtain⟨p,Q,e4⟩:=Va M C n e l m _ r.1 (dB (C.elem (T.map (·.1)) (Y.map (·.1)) _ (List.mem_map_of_mem (oz _))) N) z;obtain⟨_,AW,KI⟩:=World.cells?_some I;exact⟨p,l,Q,e4,AW,KI⟩
     by_cases eW:u=0
     ·subst eW;exact⟨[.arr (P.cellsOf e) 0 fun _=>ln P n e],⟨.mt _ _ _ _,trivial⟩,fun K c=>by unfold kg at c;rw[q]at c;exact c 0 _ (cf _) (fun _ _=>rfl) fun i g=>absurd g (by omega)⟩
     ·have W:a.spot=none∧a.block<w.heap.size:=by
       obtain⟨_,l,_,_,A,I⟩:=X 0 (by omega);have:=I 0 (by omega);rw[cI (by omega)]at this;simp only[Nat.zero_mul,Addr.add,kN]at this;unfold World.cell? at this
       cases hh:w.heap[a.block]? with
       |none=>rw[hh]at this;cases this
       |some lH=>
        refine⟨?_,(rh.1 hh).1⟩;rw[hh]at this
        cases lH<;>simp only at this<;>try (cases this;done)
        split at this
        ·cases this
        ·rename_i A9;simpa using A9
      obtain⟨b,o,s⟩:=a;simp only at W;obtain⟨rfl,ars⟩:=W;have S: ∀i,∃p:List J,i<u→ ∃l,aU (aR w fun y=>y<w.heap.size) p l∧(∀K,kg P B n e K→K p)∧l.length=P.cellsOf e∧ ∀j,j<P.cellsOf e→w.cell? ⟨b,o+i*P.cellsOf e+j,none⟩=l[j]? :=fun i=>by
       by_cases g:i<u
       ·obtain⟨p,l,v,iB,L,G⟩:=X i g;exact⟨p,fun _=>⟨l,v,iB,L,fun j E=>by rw[←G j E,alV rfl]⟩⟩
       ·exact⟨[],fun h=>absurd h g⟩
      let f:Nat→List J:=fun i=>if i<u then Classical.choose (S i)else ln P n e
      have arQ: ∀i,i<u→f i=Classical.choose (S i):=fun i g=>bf g;have D: ∀i,i<u→ ∃l,aU (aR w fun y=>y<w.heap.size) (f i) l∧(∀K,kg P B n e K→K (f i))∧l.length=P.cellsOf e∧ ∀j,j<P.cellsOf e→w.cell? ⟨b,o+i*P.cellsOf e+j,none⟩=l[j]? :=fun i g=>by rw[arQ i g];exact Classical.choose_spec (S i) g
      refine⟨[.arr (P.cellsOf e) u f],⟨.arr (P.cellsOf e) u f b o Z (fun i j=>(f i).getD j .undef) (fun i j=>(w.cell? ⟨b,o+i*P.cellsOf e+j,none⟩).getD undef) n9 (dB A M) (fun _=>ars) ?_ ?_ ?_,trivial⟩,?_⟩
      ·intro i j g E;obtain⟨l,v,_,L,_⟩:=D i g;have A:=v.length;rw[List.getD,cI (by omega)];rfl
      ·intro i j g E;obtain⟨l,v,_,L,G⟩:=D i g;rw[G j E,cI (by omega)];rfl
      ·intro i j g E;obtain⟨l,v,_,L,G⟩:=D i g;have A:=v.length;obtain⟨b6,jS,fJ⟩:=v.get j ((f i)[j]'(by omega)) (cI _);rw[G j E,jS,List.getD,cI (by omega)];exact fJ
      ·intro K c;unfold kg at c;rw[q]at c;exact c u f A (fun i g=>a7 (by omega)) fun i g=>(D i g).choose_spec.2.1
   case struct O=>
    simp only[bL]at r;obtain⟨xs,m,_,rfl,A,aD6,R⟩:=DataW.trod_struct q h;obtain⟨p,z,Q⟩:=af2 (n:=n) (fun t cs F x=>Va M C n t cs F x) (cs:=cs) O.toList 0 (by rw[A];exact r.1) r.2 fun f D=>by
     obtain⟨i,g⟩:=ov D;have U:O[i]? =some f:=by simpa using g
     have aDM:i<O.size:=(rh.1 U).1;have:=R i f U;rw[cI (by omega)]at this;exact⟨_,_,dB (C.part (xs.map (·.1)) _ (List.mem_map_of_mem (oz _))) N,this⟩
    exact⟨p,by simpa using z,fun K c=>Q K (by unfold kg at c;rw[q]at c;exact c)⟩
def GU(P:Program)(t:TypeId)(cs:List J):J:=
 match P.underlying t with
 |some (.struct _)=> .agg cs
 |_=>cs.headD .undef
def MQ(P:Program)(B n:Nat):List TypeId→(List J→Prop)→Prop
 |[],K=>K []
 |t::c,K=>kg P B n t fun a=>MQ P B n c fun b=>K (GU P t a::b)
theorem ayQ(x:B≤dj)(z:Ch iT){n:Nat}{r:Reach}{p:Nat}{t:TypeId}{v:Value}{d:DataW H}{C:List MemPlace}(g:qZ P n t=true)(j:Value.okWide P w r p t v)(A:iT d≤B)(h:DataW.Trod enc P w base spare held t v d C):
  ∃f,fl w (fun y=>y<w.heap.size) (GU P t f) v∧ ∀K,kg P B n t K→K f:=by
 obtain⟨q,h⟩:=h;obtain⟨f,c,s⟩:=Va x z n t _ q _ g A h;refine⟨f,?_,s⟩
 cases n with
 |zero=>cases g
 |succ n=>
  unfold qZ at g;unfold GU
  cases i:P.underlying t with
  |none=>rw[i]at g;cases g
  |some d=>
   rw[i]at g
   cases d<;>simp only at g<;>try (cases g;done)
   case struct D=>
    obtain⟨cs,rfl,_⟩:=okWide_struct i j;exact⟨cs.toList,by simp,by simpa[Value.cells]using c⟩
   case bool=>
    obtain⟨b,rfl⟩:=okWide_bool i j
    match f,c with
    |[av],c=>cases c.1<;>first|exact aR.bool b|exact aR.lit b
   case int k=>
    obtain⟨b,rfl⟩:=okWide_int i j
    match f,c with
    |[av],c=>cases c.1;exact aR.int k b
   case string=>
    obtain⟨b,rfl⟩:=okWide_string i j
    match f,c with
    |[av],c=>cases c.1;exact aR.str b (by assumption)
   case slice e=>
    obtain⟨a,o,l,rfl⟩:=okWide_slice i j
    match f,c with
    |[av],c=>
     have m:aR w (fun y=>y<w.heap.size) av (.slice a o l):=c.1;have u:fl w (fun y=>y<w.heap.size) av (.slice a o l):=by
      cases av<;>first|exact m|(cases m;done)
     exact u
theorem af1(g:B≤dj)(i:Ch iT){n:Nat}{r:Reach}{o:Nat} : ∀(a:List TypeId) (c:List Value) (b:List (DataW H)) (m:List MemPlace),(a.all (qZ P n))=true→(∀(j:Nat) t v,a[j]? =some t→c[j]? =some v→Value.okWide P w r o t v)→(∀d∈b,iT d≤B)→
  DataW.TrodAll enc P w base spare held a c b m→ ∃aa,aU (fl w fun y=>y<w.heap.size) aa c∧(∀K,MQ P B n a K→K aa)∧b.length=a.length
 |[],[],[],_,_,_,_,_=>⟨[],trivial,fun _ h=>h,rfl⟩
 |t::a,v::c,d::b,m,e,l,k,h=>by
  obtain⟨p,q,x,z,_⟩:=h;simp only[yM,bL]at e;obtain⟨f,A,C⟩:=ayQ g i e.1 (l 0 t v rfl rfl) (k d (by simp)) x;obtain⟨aa,D,E,F⟩:=af1 g i a c b q e.2 (fun j M N J L=>l (j+1) M N (by simpa using J) (by simpa using L)) (fun u I=>k u (by simp [I])) z;exact⟨GU P t f::aa,⟨A,D⟩,fun K G=>E (fun s=>K (GU P t f::s)) (C _ G),by simp [F]⟩
 |[],[],_::_,_,_,_,_,h=>h.elim
 |[],_::_,_,_,_,_,_,h=>by cases h
 |_::_,[],_,_,_,_,_,h=>by cases h
 |_::_,_::_,[],_,_,_,_,h=>by cases h
theorem ahI(j:laidOutB P=true){W i:World}{m:Nat→Bool} : ∀(c:List TypeId) (g:List Value) (e:List (DataW H)) (b:List MemPlace),(c.all fun t=>P.readableRec t&&decide (t<P.types.size))=true→
  DataW.TrodAll enc P W 0 (fun _=>true) true c g e b→(∀p∈b,W.sameAt i p)→(∀p∈b,m p.block=true)→DataW.TrodAll enc P i 0 m true c g e b
 |[],[],[],_,_,h,_,_=>h
 |t::c,v::g,d::e,b,f,h,k,l=>by
  obtain⟨p,q,n,o,rfl⟩:=h;simp only[yM,bL,jJ]at f;exact⟨p,q,WideElems.Trod_stays j f.1.1 f.1.2 n (fun x a=>k x (by simp [a])) (fun x a=>l x (by simp [a])),ahI j c g e q f.2 o (fun x a=>k x (by simp [a])) (fun x a=>l x (by simp [a])),rfl⟩
 |[],[],_::_,_,_,h,_,_=>h.elim
 |[],_::_,_,_,_,h,_,_=>by cases h
 |_::_,[],_,_,_,h,_,_=>by cases h
 |_::_,_::_,[],_,_,h,_,_=>by cases h
theorem azF{f:Func}{s:ChangeSpec}{l A C z:Bool}{W d:World}{i:Array Value}{v:Value}{e g:List (DataW H)}{before gF BM:List MemPlace}
  (k:DataW.Whole enc P f.params.toList s.vars l W i.toList e g before)
  (w: ∀(b:Nat) (c:Nat→Bool) (D:Bool),DataW.TrodAll enc P d b c D f.resultTypes.toList (v.resultList f.resultTypes.size) (s.fn H (e++g)).results [])
  (m: ∀c:Nat→Bool,(∀p∈before,c p.block=true)→DataW.TrodAll enc P d 0 c true f.params.toList i.toList (s.fn H (e++g)).args gF)
  (x: ∀c:Nat→Bool,(∀p∈before,c p.block=true)→DataW.TrodVars enc P d c s.vars (s.fn H (e++g)).vars BM)
  (h:before=gF++BM) (n:Below W.heap.size W d)
  (F: ∀(j:Nat) (t:TypeId) (r:Value),f.resultTypes[j]? =some t→(v.resultList f.resultTypes.size)[j]? =some r→Value.okWide P d .any 0 t r):
  s.post enc P f l A C z W i v d:=by
 have q: ∀p∈before,p.block<W.heap.size:=fun p a=>k.lt p a;have u: ∀p∈before,(fun b=>decide (b<W.heap.size)) p.block=true:=fun p a=>by simpa using q p a
 refine⟨e,g,before,[],gF,BM,k,w _ _ _,m _ u,x _ u,World.keptBut_mono (fun p a=>⟨a,?_⟩) (n.frame (· ∈before)),fun _=> ?_⟩
 ·rw[h,g8]at a;exact Or.inr a
 ·obtain⟨_,_,_,_,_,G,E⟩:=k;refine⟨F,_,_,([]++gF)++BM,⟨[]++gF,BM,trodAll_append (m _ (fun _ _=>rfl)) (w _ _ _),x _ (fun _ _=>rfl),rfl,?_,?_⟩,?_⟩
  ·intro b y a;have o:MemPlace.cell b y∈before:=by rw[h];simpa using a
   rw[n.frozen (q _ o)];exact G b y o
  ·intro B;have:=E B;rw[h]at this;simpa using this
  ·intro p a _;rw[h];simpa using a
theorem awG(O:B≤dj)(S:Ch iT){f:FuncId}{fn:Func}{s:ChangeSpec}{o L R K:Bool}{n fu:Nat}{bc:List TypeId}(k:fn.params.toList=bc)
  (V:laidOutB P=true) (Y:(bc.all (qZ P n))=true) (asv:(bc.all fun t=>P.readableRec t&&decide (t<P.types.size))=true)
  (F:fn.resultTypes= #[fu]) (E:P.underlying fu=some .bool) (I:s.vars=[])
  (i: ∀a:List (DataW H),a.length=bc.length→s.fn H a={results:=[.lit (.bool true)],args:=a})
  (Z:MQ P B n bc fun aa=>e1 P f aa (.bool true)):
  ∀(W:World) (base:Nat) (args:Array Value) (a u:List (DataW H)) (r:List MemPlace),
   (∀(j:Nat) t v,fn.params[j]? =some t→args[j]? =some v→Value.okWide P W .any base t v)→
   DataW.Whole enc P fn.params.toList s.vars o W args.toList a u r→(∀d∈a,iT d≤B)→Cn W (fun y=>y<W.heap.size)→
   Calls P f args W fun e b=> ∃v,e= .returned v∧s.post enc P fn o L R K W args v b:=by
 intro W base args a u r asK A T Q;have C:=A;obtain⟨p,q,g,z,rfl,aDI,Fq⟩:=A;rw[I]at z;obtain⟨rfl,rfl⟩:=trodVars_none z;rw[k]at g;obtain⟨aa,M,N,c⟩:=af1 O S bc args.toList a p Y (fun j t v G l=>asK j t v (by rw[←k]at G;simpa using G) (by simpa using l)) T g;have w:=N _ Z W (fun y=>y<W.heap.size) args.toList Q M;rw[show args.toList.toArray=args by simp]at w;refine w.mono fun e b ⟨v,U,h,D⟩=> ?_;refine⟨v,U,?_⟩;have l:v= .bool true:=by
  have h:aR b _ (.bool true) v:=h
  cases h;rfl
 subst l;have X:=C.lt;refine azF (gF:=p) (BM:=[]) C (fun b6 J dD=> ?_) (fun J A9=> ?_) (fun J _=> ?_) rfl D (ok_one F rfl (okWide_bool_mk E true))
 ·rw[F,h_,i a c];exact⟨[],[],shut_bool E true,rfl,rfl⟩
 ·rw[h_,i a c,k];refine ahI V bc args.toList a p asv g (fun x m=>D.same (X x (by simp [m]))) fun x m=>A9 x (by simp [m])
 ·rw[I,h_,i a c];rfl
end
end Go.af
namespace Go.af
open Go Go.RowKit
structure G (α:Type) where
 n:Nat
 at':Nat→α
instance{α:Type}[Inhabited α]:Inhabited (G α):=⟨⟨0,fun _=>default⟩⟩
def aI{α:Type}(a:Nat)(enc:α→List J)(s:G α):J:= .arr a s.n fun i=>enc (s.at' i)
inductive fI:J→Prop
 |int (k:IntKind) (n:Int):fI (.int k n)
 |bool (b:Bool):fI (.bool b)
 |lit (b:Bool):fI (.lit b)
 |str (s:ByteArray) (h:s.size≤dj):fI (.str s)
 |aA:fI .aA
 |jg:fI .jg
 |jO (M n:Nat) (f:Nat→List J):fI (.jO M n f)
 |arr (M n:Nat) (f:Nat→List J) (h:n≤dj) (g:Nat→Nat→J) (eM: ∀i j,i<n→j<M→(f i)[j]? =some (g i j)) (gX: ∀i j,i<n→j<M→fI (g i j)):fI (.arr M n f)
 |ref (cs:List J):fI (.ref cs)
 |fn (f:FuncId) (iU:List J):fI (.fn f iU)
theorem aR.mH{w:World}{F:Nat→Prop}{av:J}{v:Value}(h:aR w F av v):fI av:=by
 induction h with
 |int k n=>exact .int k n
 |bool b=>exact .bool b
 |lit b=>exact .lit b
 |str s l=>exact .str s l
 |aA=>exact .aA
 |jg=>exact .jg
 |jO e n f=>exact .jO e n f
 |nil e f=>exact .arr e 0 f (cf _) (fun _ _=> .undef) (fun i j d=>absurd d (en _)) (fun i j d=>absurd d (en _))
 |mt e f a c=>exact .arr e 0 f (cf _) (fun _ _=> .undef) (fun i j d=>absurd d (en _)) (fun i j d=>absurd d (en _))
 |arr e n f b o c g y x l u p r t q=>exact .arr e n f l g p q
 |ref cs=>exact .ref cs
 |fn f m=>exact .fn f m
def Ip:List J→Prop
 |[]=>True
 |x::a=>fI x∧Ip a
def ZT:J→Prop
 | .agg cs=>Ip cs
 |x=>fI x
def Im:List J→Prop
 |[]=>True
 |x::a=>ZT x∧Im a
theorem ZW{w:World}{F:Nat→Prop} : ∀{cs:List J} {a:List Value},aU (aR w F) cs a→Ip cs
 |[],[],_=>trivial
 |_::_,_::_,h=>⟨h.1.mH,ZW h.2⟩
 |[],_::_,h=>h.elim
 |_::_,[],h=>h.elim
theorem aor{w:World}{F:Nat→Prop}{x:J}{v:Value}(h:fl w F x v):ZT x:=by
 cases x
 case agg cs=>obtain⟨a,_,h⟩:=h;exact ZW h
 case undef=>exact h.elim
 all_goals exact aR.mH h
theorem ZU{w:World}{F:Nat→Prop} : ∀{a:List J} {b:List Value},aU (fl w F) a b→Im a
 |[],[],_=>trivial
 |_::_,_::_,h=>⟨aor h.1,ZU h.2⟩
 |[],_::_,h=>h.elim
 |_::_,[],h=>h.elim
theorem e1.mH{P:Program}{f:FuncId}{a:List J}{r:J}(h:Im a→e1 P f a r):e1 P f a r:=fun w F d c b=>h (ZU b) w F d c b
theorem fI.len{α:Type}{a:Nat}{enc:α→List J}{s:G α}(h:fI (aI a enc s)):s.n≤dj:=by
 unfold aI at h
 cases h;assumption
theorem fI.at{α:Type}{c:Nat}{enc:α→List J}{s:G α}(h:fI (aI c enc s)){i j:Nat}{x:J}(a:i<s.n)(b:j<c)(f:(enc (s.at' i))[j]? =some x):fI x:=by
 unfold aI at h
 cases h with
 |arr _ _ _ _ g d e=>
  have:=d i j a b;rw[f]at this
  cases this
  exact e i j a b
theorem fI.size{s:ByteArray}(h:fI (.str s)):s.size≤dj:=by cases h;assumption
theorem e1.ah3{P:Program}{f:FuncId}{b k:List J}{r:J}(h:e1 P f k r)(a:aU jN b k):e1 P f b r:=fun w F p n e=>
 h w F p n (aU.mk (a.length.symm.trans e.length) fun i y v j o=>by
   have g:i<b.length:=by rw[a.length];exact(hv.1 j).1
   obtain⟨s,c,l⟩:=a.get i _ (cI g);rw[j]at c;cases c;obtain⟨q,d,m⟩:=e.get i _ (cI g);rw[o]at d;cases d;exact l.rel m)
def sS(a:Nat):J→Bool
 | .arr s _ _=>Nat.beq s a
 | .aA=>true
 |_=>false
def h6{α:Type}[Inhabited α](dec:List J→α):J→G α
 | .arr _ n f=>⟨n,fun i=>dec (f i)⟩
 |_=>⟨0,fun _=>default⟩
def afV{α:Type}(enc:α→List J)(dec:List J→α):J→Prop
 | .arr _ n f=> ∀i,i<n→f i=enc (dec (f i))
 |_=>True
theorem aAX{α:Type}[Inhabited α]{b:Nat}{enc:α→List J}{dec:List J→α}{x:J}(a:sS b x=true)(c:afV enc dec x):gT x (aI b enc (h6 dec x)):=by
 cases x<;>simp only[sS]at a<;>first|(cases a;done)|skip
 ·exact rfl
 ·exact⟨dQ a,rfl,c⟩
def D{α:Type}[Inhabited α]:G α:=⟨0,fun _=>default⟩
theorem aAY{α:Type}[Inhabited α]{b:Nat}{enc:α→List J}{dec:List J→α}{x:J}(a:sS b x=true)(c:afV enc dec x):jN x (aI b enc (h6 dec x)):=by
 have h:=aAX a c
 cases x<;>simp only[sS]at a<;>first|(cases a;done)|exact h
theorem alQ{k:IntKind}{n:Int} :jN (.int k n) (.int k n):=rfl
theorem avW{α β:Type}{R:α→β→Prop} :aU R [] []:=trivial
theorem nn{α β:Type}{R:α→β→Prop}{a:α}{b:β}{l:List α}{m:List β}(h:R a b)(t:aU R l m):aU R (a::l) (b::m):=⟨h,t⟩
theorem wrap64{x:Int}(a: -9223372036854775808≤x)(b:x≤9223372036854775807):i64.wrap x=x:=by
 rw[IntKind.wrap_i64];omega
theorem _root_.Go.E(x:Int)(a: -9223372036854775808≤x:=by omega)(b:x≤9223372036854775807:=by omega):i64.wrap x=x:=wrap64 a b
end Go.af
namespace Go.Proofs.YtfmgjpcmcjjoiaaGreatDoor
open Go Go.RowKit Go.af
theorem PN{H:Type}{d:DataW H}{l:List (DataW H)}(h:d∈l):Rows.uptoBulk d≤Rows.uptoBulkAll l:=by
 induction l with
 |nil=>cases h
 |cons x r a=>
  simp only[Rows.uptoBulkAll]
  cases hS.1 h with
  |inl e=>subst e;omega
  |inr e=>have:=a e;omega
theorem amt{H:Type}(d:DataW H):1≤Rows.uptoBulk d:=by
 cases d with
 |lit l=>cases l<;>simp [Rows.uptoBulk]
 |nil=>simp [Rows.uptoBulk]
 |ptr d=>simp [Rows.uptoBulk]
 |slice a spare=>simp [Rows.uptoBulk]
 |agg c=>simp [Rows.uptoBulk]
 |iface t d=>simp [Rows.uptoBulk]
 |map b=>simp [Rows.uptoBulk]
 |held h=>simp [Rows.uptoBulk]
theorem amr{H:Type}(l:List (DataW H)):l.length≤Rows.uptoBulkAll l:=by
 induction l with
 |nil=>simp [Rows.uptoBulkAll]
 |cons x r a=>have:=amt x;simp only[Rows.uptoBulkAll,dr];omega
theorem ams(H:Type):Ch (Rows.uptoBulk (H:=H)):=by
 refine⟨fun l=> ?_,fun e r=> ?_,fun e r d a=> ?_,fun e d a=> ?_⟩
 ·simp [Rows.uptoBulk]
 ·have:=amr e;simp only[Rows.uptoBulk];omega
 ·have:=PN a;simp only[Rows.uptoBulk];omega
 ·have:=PN a;simp only[Rows.uptoBulk];omega
theorem amu{H:Type}{l:List (DataW H)}(b:Rows.uptoSmall H l=true): ∀d∈l,Rows.uptoBulk d≤1048576:=fun d a=>by
 have h:Rows.uptoBulkAll l≤1048576:=al b;have:=PN a;omega
end Go.Proofs.YtfmgjpcmcjjoiaaGreatDoor
namespace Go.af
open Go Go.RowKit
section
variable {S:dM} {ι:Nat→Option Nat} {st:K} {a:Act} {w:World}
theorem aP.agO(h:aP S ι st a w){b o:Nat}{av:J}(A:B st.k b o≠ .undef)(k:b_ (B st.k b o)=false)(G:av≠ .undef)(D:b_ av=false)
  (L: ∀v,b8 ι st.k w (aK S ι st.k w) (B st.k b o) v→b8 ι st.k w (aK S ι st.k w) av v):aP S ι ⟨st.n,bs st.k b o av⟩ a w:=by
 have j: ∀c d,B (bs st.k b o av) c d=if c=b∧d=o then av else B st.k c d:=fun c d=>eG _ _ _ _ _ _
 have s:=(h.k b o).ax5 A k;have m: ∀c,b_ (B (bs st.k b o av) c 0)=b_ (B st.k c 0):=fun c=>by
  rw[j]
  by_cases e:c=b∧0=o
  ·rw[bf e,D,e.1,s]
  ·rw[a7 e]
 have p:ec ι st.k w (aK S ι st.k w) ι (bs st.k b o av) w (aK S ι (bs st.k b o av) w):=by
  refine⟨fun y ⟨q,r,E⟩=>⟨q,r,fun c H=>E c ?_⟩,fun _ _ _=>rfl,fun c z N l=>⟨N,by rw[m];exact l⟩,fun c V W n f l=> ?_⟩
  ·rcases H with⟨g,i⟩|⟨g,d,i⟩
   ·rw[m]at g;refine .inl ⟨g,?_⟩;rw[j]at i
    by_cases e:c=b∧0=o
    ·rw[bf e]at i;rw[e.1,s]at g;cases g
    ·rw[a7 e]at i;exact i
   ·rw[m]at g;rw[j]at i
    by_cases e:c=b∧d=o
    ·refine .inr ⟨g,o,?_⟩;rw[e.1];exact ah5 A k
    ·rw[a7 e]at i;exact .inr ⟨g,d,i⟩
  ·have e: ¬(c=b∧0=o):=fun e=>by rw[e.1,e.2]at l;rw[l]at k;cases k
   exact⟨V,_,n,f,by rw[j,a7 e];exact l,bC _,fun _=>⟨rfl,rfl,fun x C T _ F=>⟨C,F,rfl⟩⟩⟩
 refine⟨h.below,h.defers,fun t u K=> ?_,fun c d=> ?_,h.inj,h.fresh,fun c y M=>gk (h.gn _ _ M) (lE _ _ _ _).1,h.gr.trans p⟩
 ·obtain⟨v,q,r⟩:=h.n t u K;exact⟨v,q,r.step p⟩
 ·show eQ _ _ _ _ _ _ (B (bs st.k b o av) c d);rw[j]
  by_cases e:c=b∧d=o
  ·obtain⟨rfl,rfl⟩:=e;rw[bf ⟨rfl,rfl⟩];obtain⟨x,v,O,P,Q,R⟩:=(h.k c d).box A k;have U:=(L v R).step p;have I:b_ (B (bs st.k c d av) c 0)=false:=by rw[m];exact s
   cases av<;>first|exact absurd rfl G|(cases D;done)|exact⟨I,x,v,O,P,Q,U⟩
  ·rw[a7 e];exact(h.k c d).step p (fun _=>rfl) (fun _ _ _=>⟨rfl,rfl⟩) (fun _=>⟨rfl,fun _ _=>rfl⟩)
theorem afM{H:Heap}{F:Nat→Prop}{v:Value}(h:b8 ι H w F .aA v):v= .slice none 0 0:=by
 have a:aR w F .aA v:=h
 cases a;rfl
end
section
variable {α:Type}
def G.app(s t:G α):G α:=⟨s.n+t.n,fun i=>bif Nat.blt i s.n then s.at' i else t.at' (i-s.n)⟩
def G.lit[Inhabited α](l:List α):G α:=⟨l.length,fun i=>l.getD i default⟩
def G.part(s:G α)(l h:Int):G α:=⟨(h-l).toNat,fun i=>s.at' (l.toNat+i)⟩
def G.ofStr(s:u):G Int:=⟨s.size,fun i=>((s.data.toList.getD i 0).toNat:Int)⟩
def G.toStr(s:G Int):u:=bytesOf s.n fun i=>[.int .u8 (s.at' i)]
theorem G.oH(s t:G α):(s.app t).n=s.n+t.n:=rfl
theorem G.mj[Inhabited α](l:List α):(G.lit l).n=l.length:=rfl
theorem G.tc(s:G α)(l h:Int):(s.part l h).n=(h-l).toNat:=rfl
theorem Bv[Inhabited α]:(D:G α).n=0:=rfl
theorem Ym{e:α→List J}{s t:G α}{n m:Nat}{f g:Nat→List J}(j:n=s.n)(d:m=t.n)(b: ∀i,i<n→f i=e (s.at' i))(c: ∀i,i<m→g i=e (t.at' i)): ∀i,i<n+m→hB n f g i=e ((s.app t).at' i):=fun i k=>by
 subst j d;simp only[hB,G.app]
 cases h:Nat.blt i s.n with
 |true=>exact b i (gL h)
 |false=>
  refine c _ ?_;have: ¬i<s.n:=fun a=>by rw[show Nat.blt i s.n=true by rw[hj];exact a]at h;cases h
  omega
theorem aw3[Inhabited α](e:α→List J)(l:List α): ∀i,i<l.length→(l.map e).getD i []=e ((G.lit l).at' i):=fun i a=>by
 simp only[G.lit,List.getD,gN,cI a,rj,kM]
end
end Go.af
