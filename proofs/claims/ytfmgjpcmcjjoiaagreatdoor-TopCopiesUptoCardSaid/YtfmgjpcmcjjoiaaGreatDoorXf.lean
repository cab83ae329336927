/- Part of a proof: the executor and its soundness. -/
import Derived.Test.YtfmgjpcmcjjoiaaGreatDoorXe
import Derived.Test.YtfmgjpcmcjjoiaaGreatDoorRows
open Go.IntKind (i64 u64 u8)
open Int (toNat)
set_option maxRecDepth 100000
set_option maxHeartbeats 4000000
set_option linter.all false
noncomputable section
namespace Go.ah
open Go Go.RowKit
section
variable {E:Env} {S:dR} {ops:Array Oper} {rs:List Rec} {cH:D} {i_:Nat→Option Nat}
theorem Xs{b o:Nat} : ∀{cs:List J},cs.isEmpty=false→hL b cs o≠[]
 |[],h=>by cases h
 |_::_,_=>by simp [hL]
theorem aA_{aA c:Nat}{r b:J}{a:bX}(h:sU aA r a fun ab a=>ab=b∧a=[]):sU c r a fun ab a=>ab=b∧a=[]:=by
 cases r<;>simp only[sU]at h ⊢ <;>first|exact h|exact absurd h.2 (by simp)
theorem asu{E:Env}{aA:Nat}{H:Heap}{f:FuncId}{aa:List J}{n:J}(a:np E H aA f aa fun ab t=>ab=n∧t=[]):False:=by
 unfold np at a;obtain⟨h,a⟩:=aD.1 a
 cases l:E.nr f (aa.map (kP (pos (dS H aa)))) ((dS H aa).map fun b=>(H.getD b []).map (ff (pos (dS H aa))))with
 |none=>rw[l]at a;exact a
 |some q=>
  obtain⟨v,rs,m⟩:=q;rw[l]at a;obtain⟨u,a⟩:=pt.1 a;obtain⟨i,_,p⟩:=aD.1 a;simp only[bY,iX]at h i;obtain⟨⟨_,k⟩,_⟩:=h;obtain⟨⟨⟨o,d⟩,_⟩,_⟩:=i
  cases m with
  |nil=>cases o
  |cons y m=>
   have r:y≠[]:=by
    cases g:dS H aa with
    |nil=>
     rw[g]at d;simp only[pz,yH,bY]at d;intro e;rw[e]at d;cases d.1
    |cons b L=>
     rw[g]at d k;have j:=dw.1 k b (by simp);simp only[bY]at j;obtain⟨_,z,w,s⟩:=Fm j.1;simp only[pz,bY]at d;have:=dX d.1;rw[s]at this;intro e;rw[e]at this;simp at this
   cases y with
   |nil=>exact r rfl
   |cons c y=>simp [rF,hL]at p
theorem amJ{E:Env}{aA C:Nat}{n:List J}{H:Heap}{e:Op}{p:J}(a:qH e=true)(h:h2 E aA n H e fun ab o=>ab=p∧o=[]):h2 E C n H e fun ab o=>ab=p∧o=[]:=by
 cases e<;>simp only[qH]at a<;>try (cases a;done)
 case alloc T=>
  simp only[h2,dz]at h ⊢
  split at h
  ·simp only[aD,iX]at h;exact absurd h.2.2 (Xs h.1)
  ·exact h.elim
 case box T x=>
  simp only[h2,aD,bY,iX]at h;exact absurd h.2.2 (Xs h.1.2)
 case buildSlice T D F=>
  simp only[h2,dz]at h
  split at h
  ·unfold pW at h
   split at h
   ·split at h
    ·obtain⟨_,h⟩:=aD.1 h;obtain⟨_,_,_,_,_,j⟩:=PH h;simp at j
    ·exact h.elim
   ·exact h.elim
  ·exact h.elim
 case makeSlice T l c=>
  simp only[h2,dz]at h
  split at h
  ·unfold qO at h
   split at h
   ·split at h
    ·split at h
     ·split at h
      ·obtain⟨_,_,_,j⟩:=aD.1 h
       cases j
      ·exact h.elim
     ·exact h.elim
    ·exact h.elim
   ·exact h.elim
  ·exact h.elim
 case call c=>
  simp only[h2]at h ⊢
  cases i:c.callee with
  |value f=>
   rw[i]at h;simp only at h ⊢;unfold yY at h ⊢
   split at h
   ·rename_i g v hi
    cases q:xB E.eh g (c.args.toList.map (aC n)++v)with
    |true=>
     rw[q]at h;simp only at h;exact(asu h).elim
    |false=>
    rw[q]at h;simp only at h ⊢;obtain⟨w,h⟩:=aD.1 h;refine aD.2 ⟨w,?_⟩;unfold tr at h ⊢;refine CK (fun y k=> ?_) h;revert k
    split
    ·intro k;obtain⟨z,A⟩:=pt.1 k;exact pt.2 ⟨z,aA_ A⟩
    ·exact id
   ·exact h.elim
  |invoke r m=>rw[i]at a;cases a
  |builtin b=>
   rw[i]at h a
   cases b<;>simp only at a h ⊢ <;>try (cases a;done)
   split at h
   ·simp only[dz]at h
    split at h
    ·split at h
     ·obtain⟨_,h⟩:=aD.1 h;unfold nR at h
      split at h
      ·obtain⟨_,h⟩:=aD.1 h;have B: ∀{y:J} {K:Nat→(Nat→List J)→Prop},(∀m g,¬K m g)→ ∀{u:Bool} {s:Nat},¬mM H u s y K:=fun {y K} t u s d=>by
        cases y<;>simp only[mM]at d<;>first|exact d|exact t _ _ (aD.1 d).2|skip
        split at d
        ·exact t _ _ (aD.1 d).2.2
        ·exact d
       refine absurd h (B fun m g aZ=> ?_)
       split at aZ
       ·cases aZ.2.2
       ·split at aZ
        ·obtain⟨_,_,_,_,_,aZ⟩:=aD.1 aZ
         cases aZ.2
        ·exact aZ
       ·obtain⟨_,_,_,_,_,aZ⟩:=aD.1 aZ
        cases aZ.2
       ·exact aZ
      ·exact h.elim
     ·exact h.elim
    ·exact h.elim
   ·exact h.elim
structure Inv (S:dR) (ops:Array Oper) (z:List (Oper×Rec)) (cH:D) (i_:Nat→Option Nat) (listed:Array Bool) (a:Act) (w:World):Prop where
 size:listed.size=ops.size
 closed: ∀(j:Nat) o,ops[j]? =some o→listed.getD j false=true→ ∀e∈o.after,Region.binds .any e=true→listed.getD e.on false=true
 ahQ: ∃ι,aU S ι (acc (fun i=>listed.getD i false) z 0 cH) a w∧ ∀b,ι b≠none→i_ b≠none∨ ∃(i:Nat) (o:Oper) (r:Rec) (p:Nat),listed.getD i false=true∧z[i]? =some (o,r)∧writes r.ws b p
theorem SJ{b p:Nat}{v:J} : ∀(a:bX) (H:Heap),I H b p=v→(∀c,(b,p,c)∈a→c=v)→I (bt H a) b p=v
 |[],_,h,_=>h
 |(f,j,c)::a,H,h,d=>by
  rw[bt];refine SJ a _ ?_ fun g i=>d g (List.mem_cons_of_mem _ i);rw[eK]
  by_cases e:b=f∧p=j
  ·obtain⟨rfl,rfl⟩:=e;rw[bF ⟨rfl,rfl⟩];exact d c (List.mem_cons_self ..)
  ·rw[bH e];exact h
theorem BZ{L:Nat→Bool}{b p:Nat}{v:J} : ∀(l:List (Oper×Rec)) (k:Nat) (st:D),I st.k b p=v→(∀o r,(o,r)∈l→ ∀c,(b,p,c)∈r.ws→c=v)→I (acc L l k st).k b p=v
 |[],_,_,h,_=>h
 |(o,r)::l,k,st,h,a=>by
  rw[acc];refine BZ l (k+1) _ ?_ fun e f d=>a e f (List.mem_cons_of_mem _ d)
  cases L k
  ·exact h
  ·exact SJ r.ws st.k h (a o r (List.mem_cons_self ..))
theorem JT{l:Array Bool}{i:Nat}(h:i<l.size)(d a:Bool):l.getD i d=l.getD i a:=by simp [h]
theorem aBZ(mB:E.dq){Q:Exit→Act→World→Prop}{kg:D}(asy:tf E ops ops.toList cH rs kg)(Z:yP cH.k ops rs)(adN: ∀b x,i_ b=some x→b<cH.k.length)
  {C:Array Bool} {a:Act} {w:World} (M:Inv S ops (ops.toList.zip rs) cH i_ C a w) {j:Nat} (fe:j∈Region.ready .any ops C) {next:Act→World→Prop}
  (e8: ∀a w,Inv S ops (ops.toList.zip rs) cH i_ (C.setIfInBounds j true) a w→next a w):wpOp E.P ops Q j next a w:=by
 obtain⟨N,ar1,Z⟩:=Z;obtain⟨atD,g,Kw,adB⟩:=mem_ready.1 fe;obtain⟨hlen,_,ase⟩:=asy.at 0;have Ks:j<ops.size:=(q9.1 Kw).1;have asW:j<rs.length:=by rw[←hlen];simpa using Ks
 obtain⟨d,atr⟩: ∃d,rs[j]? =some d:=⟨_,cT asW⟩;have G:(ops.toList.zip rs)[j]? =some (g,d):=Vz.2 ⟨by simpa using Kw,atr⟩;have Ky:=ase j g d G;rw[cN]at Ky;obtain⟨ι,KD,SO⟩:=M.ahQ;have EN: ∀b p,N b p=true→ ∀o r,(o,r)∈ops.toList.zip rs→ ∀c,(b,p,c)∈r.ws→c=I cH.k b p:=fun b p s o r U c Y=>ar1 b p s r (List.of_mem_zip U).2 c Y;generalize hE:ops.toList.zip rs=z at*
 let L:Nat→Bool:=fun i=>C.getD i false;let T:Nat→Bool:=fun i=>decide (i<j);have O:L j=false:=by
  have:C.getD j false=C.getD j true:=JT (by rw[M.size];exact Ks) _ _;show C.getD j false=false;rw[this];exact atD
 have P: ∀(k:Nat) ok uW,z[k]? =some (ok,uW)→k≠j→L k=T k∨VQ (N) ops g d ok uW:=fun k ok uW f as0=>by
  subst hE;exact aoR Z (L:=L) M.closed G f as0 O adB
 have SA: ∀t∈g.looksAt ops,(acc L z 0 cH).n[t]? =(acc T z 0 cH).n[t]? :=fun t ia=>by
  refine GH z 0 cH cH rfl fun k o r f q=> ?_;rw[cN]
  by_cases e:k=j
  ·subst e;rw[O];simp [T]
  ·exact(P k o r f e).elim id fun m=>absurd ia (m.look t q)
 have atM:q6 ops g (acc L z 0 cH).n=some d.run:=by rw[aDC SA];exact Ky.wanted
 have hw:=Vt KD atM;let B:Nat→Bool:=fun i=>(C.setIfInBounds j true).getD i false;have R: ∀i,B i=if i=j then true else L i:=fun i=>by
  by_cases e:i=j
  ·subst e;simp [B,M.size,Ks]
  ·rw[bH e];exact getD_set_ne false (fun zh=>e zh.symm)
 have adz:acc (fun i=>decide (i<j+1)) z 0 cH=hh g d (acc T z 0 cH):=by
  have:=Wx z 0 j cH g d G;simpa[T]using this
 have fin: ∀(ef:Nat→Option Nat) (W:Act) (ag:World),aU S ef (hh g d (acc L z 0 cH)) W ag→(∀b,ef b≠none→ι b≠none∨ ∃p c,(b,p,c)∈d.ws)→next W ag:=fun ef W ag oo A=>by
  refine e8 W ag ⟨by simp [M.size],fun k ok f adZ=> ?_,ef,?_,fun b AD=> ?_⟩
  ·intro e he adE
   by_cases Yi:k=j
   ·subst Yi;rw[Kw]at f;cases f;exact getD_set_true (adB e he adE)
   ·rw[getD_set_ne false (fun zh=>Yi zh.symm)]at adZ;exact getD_set_true (M.closed k ok f adZ e he adE)
  ·have atz:(acc B z 0 cH).n=(hh g d (acc L z 0 cH)).n:=by
    apply yG;intro t
    by_cases nW:g.dst=some t
    ·have u:(acc B z 0 cH).n[t]? =(acc (fun i=>decide (i<j+1)) z 0 cH).n[t]? :=by
      refine GH z 0 cH cH rfl fun k o r f q=> ?_;rw[cN,R]
      by_cases e:k=j
      ·subst e;simp
      ·rw[bH e];refine(P k o r f e).elim (fun h=> ?_) fun m=>absurd nW (m.dst t q);rw[h];simp only[T]
       congr 1;exact propext ⟨fun h=>by omega,fun h=>by omega⟩
     rw[u,adz];simp only[hh,Cz,nW,kT];have fo:=(BY (L:=T) z 0 cH).1;have aFo:=(BY (L:=L) z 0 cH).1;rcases fh t cH.n.length with h|h
     ·rw[cT (by omega),cT (by omega)];rfl
     ·rw[e0 (by omega),e0 (by omega)]
    ·simp only[hh,Cz,nW,mP];refine GH z 0 cH cH rfl fun k o r f q=> ?_;rw[cN,R]
     by_cases e:k=j
     ·subst e;rw[G]at f;cases f;exact absurd q nW
     ·rw[bH e]
   have asS: ∀b p,I (acc B z 0 cH).k b p=I (hh g d (acc L z 0 cH)).k b p:=fun b p=>by
    by_cases s:N b p=true
    ·have u:=BZ (L:=B) z 0 cH rfl (EN b p s);have F:=BZ (L:=L) z 0 cH rfl (EN b p s);rw[u];exact(SJ d.ws _ F (EN b p s g d (e4 G))).symm
    have s:N b p=false:=by simpa using s
    by_cases Hi:writes d.ws b p
    ·have u:I (acc B z 0 cH).k b p=I (acc (fun i=>decide (i<j+1)) z 0 cH).k b p:=by
      refine BX z 0 cH cH rfl fun k o r f q=> ?_;rw[cN,R]
      by_cases e:k=j
      ·subst e;simp
      ·rw[bH e];refine(P k o r f e).elim (fun h=> ?_) fun m=>absurd Hi (m.ws b p s q);rw[h];simp only[T]
       congr 1;exact propext ⟨fun h=>by omega,fun h=>by omega⟩
     rw[u,adz];exact SH _ _ _ _ _ (.inl Hi)
    ·rw[show I (hh g d (acc L z 0 cH)).k b p=I (acc L z 0 cH).k b p from KG _ _ _ _ Hi];refine BX z 0 cH cH rfl fun k o r f q=> ?_;rw[cN,R]
     by_cases e:k=j
     ·subst e;rw[G]at f;cases f;exact absurd q Hi
     ·rw[bH e]
   have EK:=BY (L:=B) z 0 cH;show aU S ef ⟨(acc B z 0 cH).n,(acc B z 0 cH).k⟩ W ag;rw[atz];refine aU.ext (H:=(hh g d (acc L z 0 cH)).k) oo asS fun b x kb=> ?_;rcases A b (by rw[kb];simp)with h|⟨p,c,Y⟩
   ·rcases SO b h with h|⟨i,o,r,p,u,F,X⟩
    ·cases e:i_ b with
     |none=>exact absurd e h
     |some y=>exact gG (adN b y e) EK.2.1
    ·refine EK.2.2 i o r F ?_ b p X;rw[cN,R]
     by_cases e:i=j
     ·rw[bF e]
     ·rw[bH e];exact u
   ·exact EK.2.2 j g d G (by rw[cN,R,bF rfl]) b p ⟨c,Y⟩
  ·rcases A b AD with h|⟨p,c,Y⟩
   ·rcases SO b h with h|⟨i,o,r,p,u,F,X⟩
    ·exact .inl h
    ·exact .inr ⟨i,o,r,p,getD_set_true u,F,X⟩
   ·exact .inr ⟨j,g,d,p,by simp [M.size,Ks],G,⟨c,Y⟩⟩
 unfold wpOp;rw[Kw];simp only;rw[hw]
 cases om:d.run with
 |false=>
  obtain⟨u,F⟩:=Ky.no om;rw[bH (by simp)];refine fin ι _ w ?_ fun b A=> .inl A;have:=aU.dst KD g.dst (ab:= .gone) (v:=undef) rfl;simp only[hh,u,F,bt];exact this
 |true=>
  rw[bF rfl];left;obtain⟨⟨OB,u,as5⟩,F,arp,X⟩:=Ky.yes om;have EL:h2 E d.aA (acc L z 0 cH).n (acc L z 0 cH).k g.op (fun ab K=>ab=OB∧K=d.ws):=by
   refine amI (n:=(acc T z 0 cH).n) (H:=(acc T z 0 cH).k) (fun x kb=>aoJ fun t e=>SA t (by subst e;exact axZ kb)) (fun l oj=> ?_) (fun b A=> ?_) u
   ·by_cases s:N l.1 l.2=true
    ·rw[BZ (L:=L) z 0 cH rfl (EN _ _ s),BZ (L:=T) z 0 cH rfl (EN _ _ s)]
    have s:N l.1 l.2=false:=by simpa using s
    refine BX z 0 cH cH rfl fun k o r f q=> ?_;rw[cN]
    by_cases e:k=j
    ·subst e;rw[O];simp [T]
    ·exact(P k o r f e).elim id fun m=>absurd (by rw[F];exact oj) (m.rd l.1 l.2 s q)
   ·refine Wv z 0 cH cH rfl fun k o r f ⟨p,q⟩=> ?_;rw[cN]
    by_cases e:k=j
    ·subst e;rw[O];simp [T]
    ·exact(P k o r f e).elim id fun m=>absurd q (m.g8 b (by rw[arp];exact A) p)
  obtain⟨aA,V,EL,asN,EB⟩: ∃(aA:Nat) (V:Nat→Prop),h2 E aA (acc L z 0 cH).n (acc L z 0 cH).k g.op (fun ab K=>ab=OB∧K=d.ws)∧(qH g.op=true→V aA∧ ∀b,V b→(∀p,I (acc L z 0 cH).k b p= .undef)∧ι b=none)∧
    ∀(ab:J) (K:bX),(ab=OB∧K=d.ws)→ ∀b p c,(b,p,c)∈K→aA<b→V b:=by
   by_cases KH:d.ws=[]∧qH g.op=true
   ·refine⟨(acc L z 0 cH).k.length,fun b=>b=(acc L z 0 cH).k.length,by rw[KH.1]at EL ⊢;exact amJ KH.2 EL,fun _=>⟨rfl,fun b A=> ?_⟩,fun ab K h b p c U=>by rw[h.2,KH.1]at U;cases U⟩;subst A;refine⟨fun p=>so (bx _) p,?_⟩
    cases e:ι (acc L z 0 cH).k.length with
    |none=>rfl
    |some x=>exact absurd (KD.gw _ x e) (Nat.lt_irrefl _)
   refine⟨d.aA,(· ∈sM d),EL,fun J8=>⟨by simp [sM],fun b J9=> ?_⟩,fun ab K h b p c U A=>ayY (by rw[←h.2];exact U) A⟩;have jn:d.ws≠[]:=fun e=>KH ⟨e,J8⟩;have sn:(acc T z 0 cH).k.length≤b:=fg X (ayX J9);refine⟨fun p=> ?_,?_⟩
   ·have:I (acc L z 0 cH).k b p=I (acc T z 0 cH).k b p:=by
     refine BX z 0 cH cH rfl fun k o r f q=> ?_;rw[cN]
     by_cases e:k=j
     ·subst e;rw[O];simp [T]
     ·exact(P k o r f e).elim id fun m=>absurd q (m.aA J8 jn b J9 p)
    rw[this];exact so sn p
   ·cases e:ι b with
    |none=>rfl
    |some x=>
     exfalso;rcases SO b (by rw[e];simp)with h|⟨i,o,r,p,h5,iK,fb⟩
     ·cases mf:i_ b with
      |none=>exact h mf
      |some y=>
       have q1:=adN _ y mf;have fp:=(BY (L:=T) z 0 cH).2.1;omega
     ·by_cases Yh:i=j
      ·subst Yh;rw[show L i=C.getD i false from rfl,h5]at O;cases O
      ·rcases P i o r iK Yh with m|m
       ·rw[show L i=C.getD i false from rfl,h5]at m;have sq:i<j:=by simpa[T]using m.symm
        subst hE;simp only[xA,bY]at Z;have cP:=GJ _ 0 Z.2 i j o r g d sq iK G;simp only[Bd,bY,Gg]at cP;have adv:=cP.1;rw[J8]at adv;exact Fx (dw.1 (by simpa using adv) b J9) p (po.2 fb)
       ·exact m.aA J8 jn b J9 p fb
  refine WI mB KD (aA:=aA) (nN:=V) asN EB EL fun ef ab K v ag pb oo c4 A=> ?_
  ·obtain⟨rfl,rfl⟩:=pb;exact fin ef _ ag (aU.dst oo g.dst (as5.rel c4)) A
theorem amH(C:E.dq){Q:Exit→Act→World→Prop}{z:D}(u:tf E ops ops.toList cH rs z)(j:yP cH.k ops rs)(H: ∀b x,i_ b=some x→b<cH.k.length)
  (T: ∀ι a w,aU S ι z a w→Q .normal a w): ∀(m:Nat) (c:Array Bool) (a:Act) (w:World),Inv S ops (ops.toList.zip rs) cH i_ c a w→
  ((List.range ops.size).filter fun i=> !c.getD i false).length=m→wpAny E.P .any ops Q m c a w:=by
 intro m
 induction m with
 |zero=>
  intro c a w f g;have t: ∀i,i<ops.size→c.getD i false=true:=fun i d=>by
   cases e:c.getD i false with
   |true=>rfl
   |false=>
    have:i∈(List.range ops.size).filter fun i=> !c.getD i false:=by exact Gf.2 ⟨vg.2 d,by simp only[e];rfl⟩
    rw[Gl.1 g]at this
    cases this
  refine⟨?_,?_⟩
  ·apply List.eq_nil_iff_forall_not_mem.2;intro i d;obtain⟨p,o,q,_⟩:=mem_ready.1 d;have l:i<ops.size:=(q9.1 q).1;have:=t i l;rw[JT (by rw[f.size];exact l) false true,p]at this
   cases this
  ·obtain⟨ι,V,_⟩:=f.ahQ;obtain⟨oj,r,_⟩:=u.at 0;refine T ι a w ?_;rw[r];rwa [Ww (NA:=fun _=>true) _ _ _ (fun i d=>by rw[cN];exact t i (by simp at d;omega))]at V
 |succ m X=>
  intro c a w f g;refine⟨fun U=> ?_,fun i d=> ?_⟩
  ·exfalso;have P:(List.range ops.size).filter (fun i=> !c.getD i false)≠[]:=fun e=>by rw[e]at g;simp at g
   have I: ∃i,i<ops.size∧c.getD i false=false:=by
    obtain⟨i,d⟩:=List.exists_mem_of_ne_nil _ P;simp at d;exact⟨i,d.1,by simp [d.2]⟩
   obtain⟨i,⟨v,J⟩,M⟩: ∃i,(i<ops.size∧c.getD i false=false)∧ ∀k,k<i→ ¬(k<ops.size∧c.getD k false=false):=by
    obtain⟨W,B⟩:=I
    induction W using Nat.strongRecOn with
    |_ n Y=>
     by_cases h: ∃k,k<n∧(k<ops.size∧c.getD k false=false)
     ·obtain⟨k,p,q⟩:=h;exact Y k p q
     ·exact⟨n,B,fun k s L=>h ⟨k,s,L⟩⟩
   have aEZ:=j;obtain⟨N,_,j⟩:=j;simp only[xA,bY]at j;have R:ops[i]? =some ops[i]:=pG v;have y:i∈Region.ready .any ops c:=mem_ready.2 ⟨by rw[JT (by rw[f.size];exact v) true false];exact J,ops[i],R,fun e r G=>by
    have:=WW ops.toList 0 j.1 i ops[i] (by simp) e r G;rw[cN]at this;have O:=M e.on this
    cases g:c.getD e.on false with
    |true=>rfl
    |false=>exact absurd ⟨by omega,g⟩ O⟩
   rw[U]at y
   cases y
  ·refine aBZ C u j H f d fun A ag F=>X _ A ag F ?_;obtain⟨p,o,q,_⟩:=mem_ready.1 d;have l:i<ops.size:=(q9.1 q).1;have K:c.getD i false=false:=by rw[JT (by rw[f.size];exact l) false true];exact p
   have:=anC ops.size (fun i=> !c.getD i false) (fun k=> !(c.setIfInBounds i true).getD k false) i l (by simp only[K];rfl) (by
    have:(c.setIfInBounds i true).getD i false=true:=by simp [f.size,l]
    simp only[this];rfl) (fun k s=>by simp only[getD_set_ne false (fun e=>s e.symm)])
   omega
theorem amE(c:E.dq){id:Nat}{Q:Exit→Act→World→Prop}{ι:Nat→Option Nat}{st:D}{a:Act}{w:World}{K:D→Prop}(h:aU S ι st a w)(n:Wz E ops st K)
  (p: ∀ι st a w,aU S ι st a w→K st→Q .normal a w):(Code.region id ops true).wp E.P Q a w:=by
 obtain⟨rs,s,l,d,g⟩:=Ov _ _ _ _ _ n;simp only[List.reverse_nil,re]at d;refine wp_region_any c.mixed ?_;have r:aU S ι st a w.drew:=(h.world (ag:=w.drew) ⟨rfl,rfl,rfl,bx _,fun _ _=>rfl⟩).1;refine amH c l d h.gw (fun ι a w q=>p ι s a w q g) ops.size (Array.replicate ops.size false) a w.drew ⟨by simp,fun j o t f=> ?_,ι,?_,fun b k=> .inl k⟩ ?_
 ·have:(Array.replicate ops.size false).getD j false=false:=by
   by_cases e:j<ops.size<;>simp [e]
  rw[this]at f;cases f
 ·rw[BW _ _ _ (fun i _=>by by_cases e:i<ops.size<;>simp [e])];exact r
 ·have:((List.range ops.size).filter fun i=> !(Array.replicate ops.size false).getD i false)=List.range ops.size:=by
   apply List.filter_eq_self.2;intro i m;have:=vg.1 m;simp [this]
  rw[this];simp
end
def hT(next:D→Prop)(Q:Exit→D→Prop):Exit→D→Prop
 | .normal,st=>next st
 | .exit id,st=>Q (.exit id) st
 | .ret,st=>Q .ret st
 |_,_=>False
def B7(id:Nat)(Q:Exit→D→Prop):Exit→D→Prop
 | .normal,st=>Q .normal st
 | .exit j,st=>if j=id then Q .normal st else Q (.exit j) st
 | .ret,st=>Q .ret st
 |_,_=>False
def cp(m:Nat)(st b:D):Prop:= ∀(S:dR),S.ti.length≤m→ ∀(ι:Nat→Option Nat) (a:Act) (w:World),aU S ι st a w→ ∃ay,aU S ay b a w
theorem cp.refl{m:Nat}(st:D):cp m st st:=fun _ _ ι _ _ h=>⟨ι,h⟩
theorem cp.trans{m:Nat}{a b c:D}(h:cp m a b)(k:cp m b c):cp m a c:=fun S d ι x w f=>let⟨ay,e⟩:=h S d ι x w f;k S d ay x w e
def afM(m:Nat){α:Type}(Q:Exit→D→Prop)(b:α→D)(a:α→Nat)(x:α):Exit→D→Prop
 | .normal,st=> ∃y,a y<a x∧cp m st (b y)
 | .exit id,st=>Q (.exit id) st
 | .ret,st=>Q .ret st
 |_,_=>False
def ax1(m:Nat)(b:(Exit→D→Prop)→D→Prop)(Q:Exit→D→Prop)(st:D):Prop:=
 ∃(α:Type) (a:α→D) (c:α→Nat) (d:α),cp m st (a d)∧ ∀x,b (afM m Q a c x) (a x)
def ma(E:Env):Code→(Exit→D→Prop)→D→Prop
 | .skip,Q,st=>Q .normal st
 | .region _ ops a,Q,st=>match a with
   |true=>Wz E ops st (Q .normal)
   |false=>yV E ops ops.toList 0 st (Q .normal)
 | .seq x y,Q,st=>ma E x (hT (ma E y Q) Q) st
 | .cond c x y,Q,st=>match aC st.n c with
   | .bool b=>(b=true→ma E x Q st)∧(b=false→ma E y Q st)
   | .lit b=>match b with
     |true=>ma E x Q st
     |false=>ma E y Q st
   |_=>False
 | .block id x,Q,st=>ma E x (B7 id Q) st
 | .loop x,Q,st=>ax1 E.m (ma E x) Q st
 | .exit id,Q,st=>Q (.exit id) st
 | .ret,Q,st=>Q .ret st
 | .label _,Q,st=>Q .normal st
 |_,_,_=>False
section
variable {E:Env}
def Wp(S:dR)(Q:Exit→D→Prop)(e:Exit)(a:Act)(w:World):Prop:= ∃ι st,aU S ι st a w∧Q e st
theorem amT(K:E.dq){S:dR}(L:S.ti.length≤E.m): ∀(c:Code) (Q:Exit→D→Prop) (ι:Nat→Option Nat) (st:D) (a:Act) (w:World),aU S ι st a w→ma E c Q st→c.wp E.P (Wp S Q) a w:=by
 intro c
 induction c with
 |skip=>exact fun Q ι st a w h f=>wp_skip ⟨ι,st,h,f⟩
 |region id ops P=>
  intro Q ι st a w h f
  cases P with
  |true=>exact amE K h f fun ι st a w i B=>⟨ι,st,i,B⟩
  |false=>exact wp_region_list (Ox K _ _ ι st a w _ h f fun ι st a w i B=>⟨ι,st,i,B⟩)
 |seq x y t u=>
  intro Q ι st a w h f;refine wp_seq (pE (t _ ι st a w h f) fun e a w ⟨ay,o,i,g⟩=> ?_)
  cases e<;>simp only[hT]at g<;>try exact g.elim
  ·exact u Q ay o a w i g
  ·exact⟨ay,o,i,g⟩
  ·exact⟨ay,o,i,g⟩
 |cond c x y t u=>
  intro Q ι st a w h f;have C:=h.eval c;simp only[ma]at f
  cases e:aC st.n c<;>rw[e]at f C<;>simp only at f<;>try exact f.elim
  ·rename_i b;refine wp_cond C.bool ?_
   cases b
   ·exact u Q ι st a w h (f.2 rfl)
   ·exact t Q ι st a w h (f.1 rfl)
  ·rename_i b;refine wp_cond C.lit ?_
   cases b
   ·exact u Q ι st a w h f
   ·exact t Q ι st a w h f
 |block O x I=>
  intro Q ι st a w h f;refine wp_block (pE (I _ ι st a w h f) fun e a w ⟨ay,o,i,g⟩=> ?_)
  cases e<;>simp only[B7]at g<;>try exact g.elim
  ·exact⟨ay,o,i,g⟩
  ·rename_i j _;simp only[Exit.inBlock]
   by_cases J:j=O
   ·rw[bF J]at g ⊢;exact⟨ay,o,i,g⟩
   ·rw[bH J]at g ⊢;exact⟨ay,o,i,g⟩
  ·exact⟨ay,o,i,g⟩
 |loop x I=>
  intro Q ι st a w h f;obtain⟨α,N,v,d,F,V⟩:=f;obtain⟨i_,R⟩:=F S L ι a w h;let p:Act→World→Nat→Prop:=fun a w n=> ∃y ι,v y=n∧aU S ι (N y) a w;let s:Act→World→Nat:=fun a w=>Classical.epsilon fun n=>p a w n∧ ∀m,m<n→ ¬p a w m;have M: ∀a w n,p a w n→p a w (s a w)∧ ∀m,m<s a w→ ¬p a w m:=fun a w n G=>by
   have W: ∃n,p a w n∧ ∀m,m<n→ ¬p a w m:=by
    induction n using Nat.strongRecOn with
    |_ n Y=>
     by_cases h: ∃k,k<n∧p a w k
     ·obtain⟨k,T,A⟩:=h;exact Y k T A
     ·exact⟨n,G,fun m X r=>h ⟨m,X,r⟩⟩
   exact Classical.epsilon_spec W
  refine wp_loop (fun a w=> ∃n,p a w n) s ⟨_,d,i_,rfl,R⟩ fun a w ⟨n,G⟩=> ?_;obtain⟨⟨y,kU,Z,i⟩,_⟩:=M a w n G;refine pE (I _ kU (N y) a w i (V y)) fun e q ag ⟨ay,o,H,g⟩=> ?_
  cases e<;>simp only[afM]at g<;>try exact g.elim
  ·obtain⟨z,hE,F⟩:=g;obtain⟨ef,A⟩:=F S L ay q ag H;have r:p q ag (v z):=⟨z,ef,rfl,A⟩;refine⟨⟨_,r⟩,?_⟩;have U:=(M q ag _ r).2;have:s q ag≤v z:=by
    rcases fh (v z) (s q ag)with h|h
    ·exact absurd r (U _ h)
    ·exact h
   omega
  ·exact⟨ay,o,H,g⟩
  ·exact⟨ay,o,H,g⟩
 |exit id=>exact fun Q ι st a w h f=>wp_exit ⟨ι,st,h,f⟩
 |ret=>exact fun Q ι st a w h f=>wp_ret ⟨ι,st,h,f⟩
 |label l=>exact fun Q ι st a w h f=>wp_label ⟨ι,st,h,f⟩
 |_=>exact fun Q ι st a w h f=>f.elim
def WP(E:Env)(c:Code)(Q:Exit→D→Prop)(st:D):Prop:= ∀(S:dR),S.ti.length≤E.m→ ∀(ι:Nat→Option Nat) (a:Act) (w:World),aU S ι st a w→c.wp E.P (Wp S Q) a w
theorem WP.TR(b:E.dq){c:Code}{Q:Exit→D→Prop}{st:D}(h:ma E c Q st):WP E c Q st:=fun _ d ι a w e=>amT b d c Q ι st a w e h
theorem WP.mono{c:Code}{Q R:Exit→D→Prop}{st:D}(h:WP E c R st)(i: ∀e s,R e s→Q e s):WP E c Q st:=fun S g ι a w j=>pE (h S g ι a w j) fun e _ _ ⟨ay,b,d,f⟩=>⟨ay,b,d,i e b f⟩
theorem WP.le{c:Code}{Q:Exit→D→Prop}{st d:D}(f:cp E.m st d)(h:WP E c Q d):WP E c Q st:=fun S b ι a w g=>let⟨ay,e⟩:=f S b ι a w g;h S b ay a w e
theorem WP.seq{x y:Code}{Q:Exit→D→Prop}{st:D}(h:WP E x (hT (WP E y Q) Q) st):WP E (.seq x y) Q st:=fun S d ι a w c=>by
 refine wp_seq (pE (h S d ι a w c) fun e a w ⟨ay,f,c,b⟩=> ?_)
 cases e<;>simp only[hT]at b<;>try exact b.elim
 ·exact b S d ay a w c
 ·exact⟨ay,f,c,b⟩
 ·exact⟨ay,f,c,b⟩
theorem WP.cut{x y:Code}{Q:Exit→D→Prop}{st:D}(b:D)(h:WP E x (hT (fun s=>cp E.m s b) Q) st)(k:WP E y Q b):WP E (.seq x y) Q st:=
 WP.seq (h.mono fun e s a=>by cases e<;>simp only[hT]at a ⊢ <;>first|exact WP.le a k|exact a)
theorem WP.cond{c:Operand}{x y:Code}{Q:Exit→D→Prop}{st:D}{b:Bool}(f:aC st.n c= .bool b)(g:b=true→WP E x Q st)(i:b=false→WP E y Q st):WP E (.cond c x y) Q st:=fun S e ι a w d=>by
 have h:=d.eval c;rw[f]at h;refine wp_cond h.bool ?_
 cases b
 ·exact i rfl S e ι a w d
 ·exact g rfl S e ι a w d
theorem WP.block{id:Nat}{x:Code}{Q:Exit→D→Prop}{st:D}(h:WP E x (B7 id Q) st):WP E (.block id x) Q st:=fun S g ι a w c=>by
 refine wp_block (pE (h S g ι a w c) fun e a w ⟨ay,d,c,b⟩=> ?_)
 cases e<;>simp only[B7]at b<;>try exact b.elim
 ·exact⟨ay,d,c,b⟩
 ·rename_i j _;simp only[Exit.inBlock]
  by_cases f:j=id
  ·rw[bF f]at b ⊢;exact⟨ay,d,c,b⟩
  ·rw[bH f]at b ⊢;exact⟨ay,d,c,b⟩
 ·exact⟨ay,d,c,b⟩
theorem WP.skip{Q:Exit→D→Prop}{st:D}(h:Q .normal st):WP E .skip Q st:=fun _ _ ι _ _ a=>wp_skip ⟨ι,st,a,h⟩
theorem WP.ret{Q:Exit→D→Prop}{st:D}(h:Q .ret st):WP E .ret Q st:=fun _ _ ι _ _ a=>wp_ret ⟨ι,st,a,h⟩
theorem WP.exit{id:Nat}{Q:Exit→D→Prop}{st:D}(h:Q (.exit id) st):WP E (.exit id) Q st:=fun _ _ ι _ _ a=>wp_exit ⟨ι,st,a,h⟩
theorem WP.label{l:_}{Q:Exit→D→Prop}{st:D}(h:Q .normal st):WP E (.label l) Q st:=fun _ _ ι _ _ a=>wp_label ⟨ι,st,a,h⟩
def Tr(m:Nat){α:Type}(Q:Exit→D→Prop)(b:α→D)(I:α→Prop)(a:α→Nat)(x:α):Exit→D→Prop
 | .normal,st=> ∃y,I y∧a y<a x∧cp m st (b y)
 | .exit id,st=>Q (.exit id) st
 | .ret,st=>Q .ret st
 |_,_=>False
def WP.ym(E:Env)(x:Code)(Q:Exit→D→Prop):Nat→D→Prop
 |0,_=>False
 |n+1,st=>WP E x (hT (WP.ym E x Q n) Q) st
theorem WP.rounds{x:Code}{Q:Exit→D→Prop}(n:Nat){st:D}(h:WP.ym E x Q n st):WP E (.loop x) Q st:=by
 intro S g ι a w i;refine wp_loop_rounds n ?_
 induction n generalizing st ι a w with
 |zero=>exact h.elim
 |succ n j=>
  refine pE (h S g ι a w i) fun e f ag ⟨ay,d,c,b⟩=> ?_
  cases e<;>simp only[hT]at b<;>try exact b.elim
  ·exact j b ay f ag c
  ·exact⟨ay,d,c,b⟩
  ·exact⟨ay,d,c,b⟩
theorem WP.loop{α:Type}{x:Code}{Q:Exit→D→Prop}{st:D}(j:α→D)(I:α→Prop)(i:α→Nat)(d:α)(B:I d)(q:cp E.m st (j d))(h: ∀u,I u→WP E x (Tr E.m Q j I i u) (j u)):WP E (.loop x) Q st:=by
 intro S o ι a w s;obtain⟨i_,C⟩:=q S o ι a w s;let p:Act→World→Nat→Prop:=fun a w n=> ∃y ι,I y∧i y=n∧aU S ι (j y) a w;let g:Act→World→Nat:=fun a w=>Classical.epsilon fun n=>p a w n∧ ∀m,m<n→ ¬p a w m;have v: ∀a w n,p a w n→p a w (g a w)∧ ∀m,m<g a w→ ¬p a w m:=fun a w n r=>by
  have J: ∃n,p a w n∧ ∀m,m<n→ ¬p a w m:=by
   induction n using Nat.strongRecOn with
   |_ n M=>
    by_cases h: ∃k,k<n∧p a w k
    ·obtain⟨k,F,l⟩:=h;exact M k F l
    ·exact⟨n,r,fun m K c=>h ⟨m,K,c⟩⟩
  exact Classical.epsilon_spec J
 refine wp_loop (fun a w=> ∃n,p a w n) g ⟨_,d,i_,B,rfl,C⟩ fun a w ⟨n,r⟩=> ?_;obtain⟨⟨y,kU,H,N,s⟩,_⟩:=v a w n r;refine pE (h y H S o kU a w s) fun e b ag ⟨ay,A,t,f⟩=> ?_
 cases e<;>simp only[Tr]at f<;>try exact f.elim
 ·obtain⟨z,L,O,q⟩:=f;obtain⟨ef,l⟩:=q S o ay b ag t;have c:p b ag (i z):=⟨z,ef,L,rfl,l⟩;refine⟨⟨_,c⟩,?_⟩;have G:=(v b ag _ c).2;have:g b ag≤i z:=by
   rcases fh (i z) (g b ag)with h|h
   ·exact absurd c (G _ h)
   ·exact h
  omega
 ·exact⟨ay,A,t,f⟩
 ·exact⟨ay,A,t,f⟩
end
def LZ(E:Env)(st:D)(r:ResultVar)(K:J→Prop):Prop:=
 match r with
 | .tmp t=>ku st.k (st.n.getD t .undef) K
 | .cell t T=>dz E T fun a=>nx a st.k (st.n.getD t .undef) fun ab=>ku st.k ab K
def yk(E:Env)(st:D):List ResultVar→(List J→Prop)→Prop
 |[],K=>K []
 |x::r,K=>LZ E st x fun y=>yk E st r fun a=>K (y::a)
def oC:List J→J
 |[x]=>x
 |a=> .c9 a
def g0:J→J→Prop
 | .arr b n f,.arr c a g=>b=c∧n=a∧ ∀i,i<n→f i=g i
 | .aE,.arr _ a _=>a=0
 |x,y=>x=y
def jT:J→J→Prop
 | .agg cs,.agg a=>aY g0 cs a
 |x,y=>g0 x y
def u1:J→J→Prop
 | .c9 aa,.c9 a=>aY jT aa a
 |x,y=>jT x y
def Bb(H:Heap)(e n:Nat)(f:Nat→List J)(x:J):Prop:=
 match x with
 | .own b k=>match I H b 0 with
   | .ae d g a c=>c2 (!d&&Nat.beq g e) (k=a∧a=n∧ ∀i,i<n→c i=f i)
   |_=>False
 | .aE=>n=0
 |_=>False
def Bp(E:Env)(st:D)(rs:List ResultVar)(a n:Nat)(f:Nat→List J):Prop:=
 match rs with
 |[x]=>match x with
  | .tmp t=>Bb st.k a n f (st.n.getD t .undef)
  | .cell t T=>dz E T fun b=>nx b st.k (st.n.getD t .undef) fun ab=>Bb st.k a n f ab
 |_=>False
def aBg(E:Env)(rs:List ResultVar)(r:J)(st:D):Prop:=
 match r with
 | .ae _ a n f=>Bp E st rs a n f
 |r=>yk E st rs fun b=>u1 (oC b) r
def aBf(E:Env)(rs:List ResultVar)(r:J)(e:Exit)(st:D):Prop:=
 (match e with
  | .normal=>True
  | .ret=>True
  |_=>False)∧aBg E rs r st
section
variable {E:Env} {S:dR} {ι:Nat→Option Nat} {st:D} {a:Act} {w:World}
theorem g0.rel{F:Nat→Prop}{x y:J}{v:Value}(h:g0 x y)(k:aR w F x v):aR w F y v:=by
 cases k with
 |arr d n f b o c g q G t r e l m=>
  cases y<;>simp only[g0]at h<;>try (cases h;done)
  obtain⟨rfl,rfl,h⟩:=h;exact .arr d n _ b o c g q G t r (fun i j z D=>by rw[←h i z];exact e i j z D) l m
 |nil d f=>
  cases y<;>simp only[g0]at h<;>try (cases h;done)
  obtain⟨rfl,rfl,h⟩:=h;exact .nil d _
 |mt d f a c=>
  cases y<;>simp only[g0]at h<;>try (cases h;done)
  obtain⟨rfl,rfl,h⟩:=h;exact .mt d _ a c
 |aE=>
  cases y<;>simp only[g0]at h<;>first|(cases h;done)|(subst h;exact .nil _ _)|exact .aE
 |int k n=>simp only[g0]at h;subst h;exact .int k n
 |bool b=>simp only[g0]at h;subst h;exact .bool b
 |jq=>simp only[g0]at h;subst h;exact .jq
 |jV d n f p c B C=>simp only[g0]at h;subst h;exact .jV d n f p c B C
 |lit b=>simp only[g0]at h;subst h;exact .lit b
 |str s t=>simp only[g0]at h;subst h;exact .str s t
 |ref cs b o g q r e l m=>simp only[g0]at h;subst h;exact .ref cs b o g q r e l m
 |fn f A q g u E e l m=>simp only[g0]at h;subst h;exact .fn f A q g u E e l m
theorem jT.rel{F:Nat→Prop}{x y:J}{v:Value}(h:jT x y)(k:fi w F x v):fi w F y v:=by
 cases x
 case agg cs=>
  cases y<;>simp only[jT,g0]at h<;>try (cases h;done)
  obtain⟨g,rfl,k⟩:=k;refine⟨g,rfl,aY.mk (h.length.symm.trans k.length) fun i p q a d=> ?_⟩;obtain⟨j,b,e⟩:=k.get i _ (cT (by rw[h.length];exact(iW.1 a).1));rw[d]at b;cases b;obtain⟨l,c,f⟩:=h.get i _ (cT (by rw[h.length];exact(iW.1 a).1));rw[a]at c;cases c;exact f.rel e
 case undef=>exact k.elim
 all_goals
  simp only[fi]at k
  cases y<;>first|(simp [jT,g0]at h;done)|(simp only[fi];exact(fun aZ=>g0.rel aZ k) h)
theorem u1.rel{F:Nat→Prop}{x y:J}{v:Value}(h:u1 x y)(k:jS w F x v):jS w F y v:=by
 cases x
 case c9 aa=>
  cases y<;>simp only[u1,jT,g0]at h<;>try (cases h;done)
  obtain⟨g,rfl,k⟩:=k;refine⟨g,rfl,aY.mk (h.length.symm.trans k.length) fun i p q a d=> ?_⟩;obtain⟨j,b,e⟩:=k.get i _ (cT (by rw[h.length];exact(iW.1 a).1));rw[d]at b;cases b;obtain⟨l,c,f⟩:=h.get i _ (cT (by rw[h.length];exact(iW.1 a).1));rw[a]at c;cases c;exact f.rel e
 all_goals
  simp only[jS]at k
  cases y<;>first|(simp [u1,jT,g0]at h;done)|(simp only[jS];exact(fun aZ=>jT.rel aZ k) h)
def px(P:Program)(w:World)(b:Array Value)(r:ResultVar)(v:Value):Prop:=
 (match r with
  | .tmp t=>(pure (b.getD t undef):Sem Value)
  | .cell a t=>(do loadVar t (←asAddr (b.getD a undef)))).run P w= .ok v w
theorem aBe(k:E.dq)(h:aU S ι st a w){r:ResultVar}{K:J→Prop}(b:LZ E st r K): ∃y v,K y∧fi w (kY S w) y v∧px E.P w a.tmps r v:=by
 cases r with
 |tmp t=>
  obtain⟨y,c,d⟩:=PC h (h.eval (.tmp t)) b;exact⟨y,_,c,d,rfl⟩
 |cell t T=>
  obtain⟨m,l,_,b⟩:=jO k b;obtain⟨p,ab,u,c,d,f,g⟩:=K8 l h (h.eval (.tmp t)) b;obtain⟨y,i,j⟩:=PC h f d;refine⟨y,u,i,j,?_⟩;have e:a.tmps.getD t undef= .pointer (some p):=c;simp only[px];rw[Sem.run_bind,e];simp [asAddr,g]
theorem ahl(e:E.dq)(h:aU S ι st a w): ∀(rs:List ResultVar) (K:List J→Prop),yk E st rs K→ ∃d c,K d∧aY (fi w (kY S w)) d c∧aY (px E.P w a.tmps) rs c
 |[],K,b=>⟨[],[],b,trivial,trivial⟩
 |r::rs,K,b=>by
  obtain⟨y,v,b,f,g⟩:=aBe e h b;obtain⟨d,c,b,i,j⟩:=ahl e h rs _ b;exact⟨y::d,v::c,b,⟨f,i⟩,g,j⟩
theorem UM{P:Program}{fn:Func}{tmps:Array Value}{cv:List Value}(h:aY (px P w tmps) fn.results.toList cv):
  (results fn tmps).run P w= .ok (if h:cv.toArray.size=1 then cv.toArray[0]else .tuple cv.toArray) w:=by
 have e: ∀(rs:List ResultVar) (cv:List Value),aY (px P w tmps) rs cv→Sem.run P (rs.mapM fun(r:ResultVar)=>match r with
  | .tmp t=>(pure (tmps.getD t undef):Sem Value)
  | .cell a t=>(do loadVar t (←asAddr (tmps.getD a undef)))) w=Result.ok cv w:=by
  intro rs
  induction rs with
  |nil=>intro cv h;cases cv;simp;exact h.elim
  |cons r rs d=>
   intro cv h
   cases cv with
   |nil=>exact h.elim
   |cons v cv=>
    have b:=h.1;have c:=d cv h.2;unfold px at b;simp only[List.mapM_cons];rw[Sem.run_bind]
    cases r<;>simp only at b<;>rw[b]<;>simp only[Result.andThen]<;>rw[Sem.run_bind,c]<;>rfl
 unfold results;rw[Array.mapM_eq_mapM_toList];rw[Sem.run_bind];have:=e fn.results.toList cv h;simp only[Functor.map];rw[Sem.run_bind']
 erw [this]
 rfl
theorem agC(h:aU S ι st a w){F:Nat}(V: ∀b x,ι b=some x→F≤x){Y:Bool}{G n:Nat}{f:Nat→List J}{x:J}{v:Value}(D:bk S ι st.k w x v)(d:Bb st.k G n f x):pR F w (kY S w) (.ae Y G n f) v:=by
 cases x<;>simp only[Bb]at d<;>try exact d.elim
 ·subst d;have X:aR w (aM S ι st.k w) .aE v:=D
  cases X
  exact .inl ⟨rfl,rfl⟩
 ·rename_i b k
  cases e:I st.k b 0<;>rw[e]at d<;>simp only at d
  rename_i nE ki eu fB;obtain⟨t,rfl,rfl,T⟩:=aD.1 d;simp only[bY,iX]at t;obtain⟨rfl,m⟩:=t;have m:=dX m;subst m;obtain⟨_,aBj,aB9,TC,f2,p,_,N⟩:=(show ej S ι st.k w (.own b k) v from D);rw[e]at p;cases p;rcases N rfl with⟨q,c,C,H,g,o,W,r,O⟩|⟨rfl,_,o⟩
  ·have l:=h.k b 0;rw[e]at l;obtain⟨_,z|⟨P,l|⟨FW,Z,vl,B,s,Q⟩⟩⟩:=l
   ·rw[g]at z;cases z.2.2
   ·rw[g]at l;cases l.2
   ·rw[g]at B;cases B;rw[r]at s;cases s;refine .inr ⟨q,c,C,H,V b q g,(h.fresh b q g).2,o,W,P,r,O,fun i j A U=> ?_⟩;obtain⟨ab,u,K,L,M⟩:=Q i j A U;refine⟨ab,u,by rw[←T i A];exact K,L,M.mono (fun y E=>⟨Nv E,fun R=> ?_⟩) fun _ _ _=>rfl⟩;exact E.2.2 b (.inl ⟨by rw[e];rfl,by rw[e];rfl⟩) (by rw[R];exact g)
  ·exact .inl ⟨rfl,o⟩
theorem aBc(o:E.dq)(h:aU S ι st a w){x7:Nat}(nk:S.kS.heap.size≤w.heap.size)(e: ∀b x,ι b=some x→x7≤x){rs:List ResultVar}{r:Bool}{g n:Nat}{f:Nat→List J}(c:Bp E st rs g n f):
  ∃d v,rs=[d]∧px E.P w a.tmps d v∧pR x7 w (kY S w) (.ae r g n f) v:=by
 unfold Bp at c
 split at c
 ·rename_i d
  cases d with
  |tmp t=>exact⟨_,_,rfl,rfl,agC h e (h.eval (.tmp t)) c⟩
  |cell t T=>
   obtain⟨s,q,_,c⟩:=jO o c;obtain⟨p,ab,u,i,k,l,m⟩:=K8 q h (h.eval (.tmp t)) c;refine⟨_,u,rfl,?_,agC h e l k⟩;have j:a.tmps.getD t undef= .pointer (some p):=i;simp only[px];rw[Sem.run_bind,j];simp [asAddr,m]
 ·exact c.elim
theorem uV(H:E.dq){f:FuncId}{fn:Func}{c:Code}(Q:E.P.funcs[f]? =some fn)(A:fn.body=some c)(aa:List J)(r:J)
  (T:WP E c (aBf E fn.results.toList r) ⟨aa++List.replicate (fn.ntmps-aa.length) .undef,[]⟩):cY E.P f aa r:=by
 intro w F q l K;let S:dR:=⟨F,w,l.lt,fun _=>False,fun _ h=>h.elim,fun _=>none,[],F,fun _ _ h=>(by cases h),l.ux⟩;have Z:=K.length;have W:aU S (fun _=>none) ⟨aa++List.replicate (fn.ntmps-aa.length) .undef,[]⟩ {tmps:=q.toArray++Array.replicate (fn.ntmps-q.toArray.size) undef,defers:=[]} w:=by
  refine⟨il.refl _ _ _,rfl,fun t ab i=> ?_,fun b o=> ?_,fun _ _ _ h=>(by cases h),fun _ _ h=>(by cases h),fun _ _ h=>(by cases h),⟨fun x h=>⟨.inl h,l.lt x h,fun b A=>(by simp)⟩,fun _ _ _=>rfl,fun _ _ h=>(by cases h),fun b L M n f h=>(by simp [S,I]at h)⟩⟩
  ·rcases fh t aa.length with h|h
   ·rw[s7 h]at i;obtain⟨v,g,z⟩:=K.get t ab i;refine⟨v,?_,ek.yc (fX.LF (z.mono (fun x j=>⟨.inl j,l.lt x j,fun b A=>(by simp)⟩) fun _ _ _=>rfl))⟩;rw[pF (by simp;omega)];simpa using g
   ·rw[BG h]at i;have X:t-aa.length<fn.ntmps-aa.length:=by
     rcases fh (t-aa.length) (fn.ntmps-aa.length)with s|s
     ·exact s
     ·rw[e0 (by simpa using s)]at i;cases i
    rw[VA,bF X]at i
    cases i
    exact⟨undef,by rw[Array.getElem?_append_right (by simp;omega),Array.getElem?_replicate,bF (by simp;omega)],trivial⟩
  ·simp [I,eQ]
 refine calls_of_wp Q A (pE (T S (cA _) _ _ w W) fun e a ag ⟨ι,st,d,V⟩=> ?_);obtain⟨m,p⟩:=V
 by_cases B:ch r=true
 ·obtain⟨L,M,n,f,rfl⟩:=KP B;obtain⟨aFy,v,N,O,bl⟩:=aBc H d (nk:=d.below.size) (x7:=w.heap.size) (fun b x j=>(d.fresh b x j).1.resolve_right fun h=>h) p;have C:=UM (w:=ag) (fn:=fn) (tmps:=a.tmps) (cv:=[v]) (by rw[N];exact⟨O,trivial⟩);have D: ∃v,(results fn a.tmps).run E.P ag= .ok v ag∧ ∃k,Ending.returned v= .returned k∧pR w.heap.size ag (fun x=>F x∨(w.heap.size≤x∧x<ag.heap.size)) (.ae L M n f) k∧Below w.heap.size w ag:=
   ⟨_,C,_,rfl,bl,d.below.plain fun _ h=>h⟩
  cases e<;>simp only at m<;>first|exact⟨d.defers,D⟩|exact m.elim
 have p:yk E st fn.results.toList fun q=>u1 (oC q) r:=by cases r<;>first|exact p|(exact absurd rfl B)
 obtain⟨G,us,U,g,z⟩:=ahl H d _ _ p;have C:=UM z;have P: ∀x,kY S ag x→(F x∨(w.heap.size≤x∧x<ag.heap.size)):=fun x j=>j;have Y:jS ag (kY S ag) (oC G) (if h:us.toArray.size=1 then us.toArray[0]else .tuple us.toArray):=by
  match G,us,g with
  |[],[],_=>exact⟨[],rfl,trivial⟩
  |[y],[u],g=>
   have:=g.1;simp only[oC]
   cases y<;>first|exact this|exact False.elim this|(cases this)
  |y::u_::G,u::ah6::us,g=>
   rw[dif_neg (by simp)];exact⟨_,rfl,g⟩
 have R:=U.rel Y;have D: ∃v,(results fn a.tmps).run E.P ag= .ok v ag∧ ∃k,Ending.returned v= .returned k∧pR w.heap.size ag (fun x=>F x∨(w.heap.size≤x∧x<ag.heap.size)) r k∧Below w.heap.size w ag:=
  ⟨_,C,_,rfl,by have:=R.mono P (fun _ _ _=>rfl);cases r<;>first|exact this|(exact absurd rfl B),d.below.plain fun _ h=>h⟩
 cases e<;>simp only at m<;>first|exact⟨d.defers,D⟩|exact m.elim
end
def BD:J→Value→Bool
 | .int k n,.int c d=>decide (k=c)&&n==d
 | .bool b,.bool a=>b==a
 | .str s,.string e=>s.data.toList==e.data.toList&&s.size==0
 | .aE,.slice none 0 0=>true
 | .jq,.pointer none=>true
 | .undef,.pointer _=>true
 | .undef,.func _ _ _=>true
 | .undef,.nilFunc=>true
 | .undef,.nilIface=>true
 |_,_=>false
def Mm:List J→List Value→Bool
 |[],[]=>true
 |a::aa,v::b=>BD a v&&Mm aa b
 |_,_=>false
def LM:List (Nat×Nat)→List Field→Program→Bool
 |[],[],_=>true
 |(o,s)::r,f::a,P=>(f.offset==o&&s !=0&&(match P.info? f.type with|some i=>i.size==s|none=>false))&&LM r a P
 |_,_,_=>false
def G7(P:Program)(t:bB)(d:TypeDesc):Bool:=
 match t.d,d with
 | .bool,.bool=>t.size==1
 | .string,.string=>t.size==1
 | .int k,.int g=>decide (k=g)&&t.size==1
 | .slice e b c,.slice a=>e==a&&t.size==1&&(match P.info? e with|some i=>i.size==b&&i.bytes==c&&(match i.zero with|some z=>z.cells.size==i.size|none=>false)|none=>false)
 | .pointer e,.pointer a=>e==a&&t.size==1
 | .struct j,.struct f=>LM j f.toList P
 | .array n e b,.array h a=>n==h&&e==a&&(match P.info? e with|some i=>i.size==b|none=>false)
 | .other,.func .. =>t.size==1
 |_,_=>false
def BA(P:Program)(T:TypeId)(t:bB):Bool:=
 match P.info? T,P.underlying T with
 |some i,some d=>i.size==t.size&&(match i.zero with|some z=>z.cells.size==t.size&&Mm t.zero z.cells.toList|none=>false)&&G7 P t d
 |_,_=>false
theorem aDK{a:J}{v:Value}(h:BD a v=true):k1 a v:=by
 cases a
 case str s=>
  cases v<;>simp only[BD]at h<;>try (cases h;done)
  rename_i c;simp only[bY,ri]at h;obtain⟨b,d⟩:=h;have:s=c:=by
   cases s;cases c
   simp only at b
   congr 1
   exact oG b
  subst this;exact⟨rfl,d⟩
 case jq=>
  cases v
  case pointer p=>cases p<;>simp_all [BD,k1]
  all_goals cases h
 case aE=>
  cases v
  case slice a n m=>cases a<;>cases n<;>cases m<;>simp_all [BD,k1]
  all_goals cases h
 all_goals
  cases v<;>simp [BD]at h<;>simp only[k1]<;>first|rfl|(obtain⟨rfl,rfl⟩:=h;rfl)|(subst h;rfl)|skip
theorem aiy: ∀{aa:List J} {b:List Value},Mm aa b=true→aY k1 aa b
 |[],[],_=>trivial
 |a::aa,v::b,h=>by
  simp only[Mm,bY]at h;exact⟨aDK h.1,aiy h.2⟩
 |[],_::_,h=>by cases h
 |_::_,[],h=>by cases h
theorem agW{P:Program} : ∀{j:List (Nat×Nat)} {c:List Field},LM j c P=true→
  c.mapM (fun f=>(P.info? f.type).map fun i=>(f.offset,i.size))=some j∧ ∀(k b a:Nat),j[k]? =some (b,a)→ ∃f:Field,c[k]? =some f∧f.offset=b∧ ∃i,P.info? f.type=some i∧i.size=a∧a≠0
 |[],[],_=>⟨rfl,fun k b a h=>by simp at h⟩
 |(o,s)::r,f::c,h=>by
  simp only[LM,bY]at h;obtain⟨⟨⟨n,p⟩,d⟩,q⟩:=h;obtain⟨t,u⟩:=agW q
  cases e:P.info? f.type with
  |none=>rw[e]at d;cases d
  |some i=>
   rw[e]at d;have l:f.offset=o:=by simpa using n
   have m:s≠0:=by simpa using p
   have bl:i.size=s:=by simpa using d
   refine⟨by simp [List.mapM_cons,e,t,l,bl],fun k b a g=> ?_⟩
   cases k with
   |zero=>simp at g;obtain⟨rfl,rfl⟩:=g;exact⟨f,rfl,l,i,e,bl,m⟩
   |succ k=>exact u k b a (by simpa using g)
 |[],_::_,h=>by cases h
 |_::_,[],h=>by cases h
theorem aCT{P:Program}{T:TypeId}{t:bB}(h:BA P T t=true)(A:t.cmp=true→Gv P T t.zero):gu P T t:=by
 unfold BA at h
 cases q:P.info? T with
 |none=>rw[q]at h;cases h
 |some i=>
  cases c:P.underlying T with
  |none=>rw[q,c]at h;cases h
  |some d=>
   rw[q,c]at h;simp only[bY]at h;obtain⟨⟨x,g⟩,a⟩:=h
   cases m:i.zero with
   |none=>rw[m]at g;cases g
   |some z=>
    rw[m]at g;simp only[bY]at g;refine⟨⟨i,z,q,by simpa using x,m,by simpa using g.1,aiy g.2⟩,⟨d,c,fun e=> ?_,fun e=> ?_⟩,?_,A⟩
    ·unfold G7 at a
     cases o:t.d<;>rw[o]at e a<;>first|(cases e;done)|skip
     all_goals (cases d<;>simp only at a<;>first|(cases a;done)|rfl)
    ·unfold G7 at a
     cases o:t.d<;>rw[o]at e a<;>first|(cases e;done)|skip
     all_goals
      cases d<;>simp only at a<;>first|(cases a;done)|(simp only[bY,ri,jP]at a;simp_all)
    ·unfold G7 at a
     cases o:t.d<;>rw[o]at a<;>simp only
     all_goals
      cases d<;>simp only at a<;>first|(cases a;done)|trivial|skip
     ·simp only[bY,jP]at a;rw[a.1];exact c
     ·rename_i e u E s;simp only[bY,ri]at a;obtain⟨⟨rfl,_⟩,b⟩:=a
      cases p:P.info? e with
      |none=>rw[p]at b;cases b
      |some j=>
       rw[p]at b;simp only[bY,ri]at b;obtain⟨b,l⟩:=b
       cases r:j.zero with
       |none=>rw[r]at l;cases l
       |some G=>
        rw[r]at l;exact⟨c,j,rfl,b.1,b.2,by rw[r];rfl,fun z m=>by rw[r]at m;cases m;simpa using l⟩
     ·simp only[bY,ri]at a;rw[a.1];exact c
     ·obtain⟨l,y⟩:=agW a;exact⟨_,c,l,fun k C D B=>by obtain⟨f,v,w⟩:=y k C D B;exact⟨f,by simpa using v,w⟩⟩
     ·rename_i n e u F s;simp only[bY,ri]at a;obtain⟨⟨rfl,rfl⟩,b⟩:=a;refine⟨c,?_⟩
      cases p:P.info? e with
      |none=>rw[p]at b;cases b
      |some j=>
       rw[p]at b;exact⟨j,rfl,by simpa using b⟩
def yx(hG:List (Nat×bB))(T:TypeId):Option bB:=
 match hG with
 |[]=>none
 |(a,t)::r=>if T==a then some t else yx r T
theorem ah5{hG:List (Nat×bB)}{T:TypeId}{t:bB}(h:yx hG T=some t):(T,t)∈hG:=by
 induction hG with
 |nil=>cases h
 |cons x r b=>
  obtain⟨a,c⟩:=x;simp only[yx]at h
  split at h
  ·rename_i e;have:T=a:=by simpa using e
   cases h;rw[this];simp
  ·exact List.mem_cons_of_mem _ (b h)
abbrev Spec:=FuncId→List J→Option (Option Prop×J)
def Spec.dq(P:Program)(s:Spec):Prop:= ∀f a pre r,s f a=some (pre,r)→lC P f∧(nC pre True→cY P f a r)
abbrev vi:=FuncId→List J→Heap→Option (Option Prop×List J×Heap)
def vi.dq(P:Program)(s:vi):Prop:= ∀f a H b rs al,s f a H=some (b,rs,al)→lC P f∧(nC b True→fj P f a H rs al)
theorem aoD{P:Program}{hG:List (Nat×bB)}{s:Spec}{m:Nat}{a:vi}{e:FuncId→Bool}(d:P.follows .mixedOrders=true)(h:(hG.all fun x=>BA P x.1 x.2)=true)(c: ∀x∈hG,x.2.cmp=true→Gv P x.1 x.2.zero)(iC:s.dq P)(g3:a.dq P):Env.dq ⟨P,yx hG,s,m,a,e⟩:=
 ⟨fun T t b=>aCT (dw.1 h (T,t) (ah5 b)) (c (T,t) (ah5 b)),d,iC,g3⟩
def mG:TypeDesc→Bool
 | .struct _=>true
 | .array _ _=>true
 |_=>false
def qT(b:Bool)(a:List Value):Value:=if b then .agg a.toArray else a.headD undef
def Cf(P:Program)(c:TypeId→List J→Bool):List Field→Nat→List J→Bool
 |[],_,a=>a.isEmpty
 |f::d,b,a=>(f.name != "_")&&f.offset==b&&(match P.info? f.type,P.underlying f.type with
  |some i,some _=>decide (0<i.size)&&decide (i.size≤a.length)&&c f.type (a.take i.size)&&Cf P c d (b+i.size) (a.drop i.size)
  |_,_=>false)
def rH(P:Program):Nat→TypeId→List J→Bool
 |0,_,_=>false
 |n+1,T,a=>match P.underlying T with
  |some (.int k)=>match a with
   |[.int c _]=>decide (k=c)
   |_=>false
  |some .bool=>match a with
   |[.bool _]=>true
   |_=>false
  |some .string=>match a with
   |[.str _]=>true
   |_=>false
  |some (.struct b)=> !P.stoodInHeld T&&Cf P (rH P n) b.toList 0 a
  |_=>false
theorem vL: ∀{a cs:List J},hy a cs=true→a.length=cs.length
 |[],[],_=>rfl
 |_::_,_::_,h=>by simp only[hy,bY]at h;simp [vL h.2]
 |[],_::_,h=>by cases h
 |_::_,[],h=>by cases h
theorem Pp(n:Nat): ∀{a cs:List J},hy a cs=true→hy (a.take n) (cs.take n)=true∧hy (a.drop n) (cs.drop n)=true
 |[],[],h=>by simp [hy]
 |z::a,c::cs,h=>by
  simp only[hy,bY]at h
  cases n with
  |zero=>simp [hy,h]
  |succ n=>
   have:=Pp n h.2;simp [hy,h.1,this]
 |[],_::_,h=>by cases h
 |_::_,[],h=>by cases h
theorem Yo(n:Nat): ∀(cs a:List J),cs.length=a.length→jh cs a=(jh (cs.take n) (a.take n)&&jh (cs.drop n) (a.drop n))
 |[],[],_=>by simp [jh]
 |c::cs,d::a,h=>by
  cases n with
  |zero=>simp [jh]
  |succ n=>simp [jh,Yo n cs a (by simpa using h),Bool.and_assoc]
 |[],_::_,h=>by simp at h
 |_::_,[],h=>by simp at h
theorem aY.drop{α β:Type}{R:α→β→Prop} : ∀{aa:List α} {a:List β} (n:Nat),aY R aa a→aY R (aa.drop n) (a.drop n)
 |[],[],n,_=>by simp [aY]
 |_::_,_::_,0,h=>h
 |_::_,_::_,n+1,h=>aY.drop n h.2
 |[],_::_,_,h=>h.elim
 |_::_,[],_,h=>h.elim
section
variable {P:Program} {w:World}
theorem ahx{T:TypeId}{i:TypeInfo}{d:TypeDesc}(j:P.info? T=some i)(g:P.underlying T=some d)(c:mG d=false→i.size=1)(b:List Value)(a:Nat)(k:a+i.size≤b.length):
  (part T b.toArray a).run P w= .ok (qT (mG d) ((b.drop a).take i.size)) w:=by
 cases e:mG d with
 |true=>
  have:(isAgg T).run P w= .ok true w:=by cases d<;>simp [mG]at e<;>simp [isAgg,e3 g]
  simp only[part,Sem.run_bind,this,Result.andThen_ok,kT,sizeOf,typeInfo,qT];simp [j]
 |false=>
  have:(isAgg T).run P w= .ok false w:=by cases d<;>simp [mG]at e<;>simp [isAgg,e3 g]
  have c:=c e;have f:a<b.length:=by omega
  simp only[part,Sem.run_bind,this,Result.andThen_ok,qT,c];have h:(b.drop a).take 1=[b[a]]:=by rw[Gk f];rfl
  simp [h,f]
def kl(P:Program)(n:Nat)(T:TypeId)(e:List J):Prop:=
 ∀(d:Nat) (cs a:List J) (c us:List Value) (w:World) (b:TypeDesc),n≤d→P.underlying T=some b→hy e cs=true→hy e a=true→aY vk cs c→aY vk a us→
  (Op.equalIn d T (qT (mG b) c) (qT (mG b) us)).run P w= .ok (jh cs a) w
theorem anB{n:Nat}{T:TypeId}{b:List J}(h:rH P n T b=true){a:TypeDesc}(d:P.underlying T=some a)(c:mG a=false):b.length=1:=by
 cases n with
 |zero=>cases h
 |succ n=>
  simp only[rH,d]at h
  cases a<;>simp only at h<;>first|(cases h;done)|(cases c;done)|skip
  all_goals
   split at h<;>first|rfl|cases h
theorem Yp{n:Nat}(v: ∀(T:TypeId) (a:List J),rH P n T a=true→kl P n T a){d:Nat}(s:n≤d)(j us:List Value)(cs b:List J)(r:aY vk cs j)(q:aY vk b us)(C:cs.length=b.length):
  ∀(k:List Field) (off:Nat) (a:List J) (w:World),Cf P (rH P n) k off a=true→hy a (cs.drop off)=true→hy a (b.drop off)=true→
   (Op.eqFields d j.toArray us.toArray k).run P w= .ok (jh (cs.drop off) (b.drop off)) w
 |[],off,a,w,h,l,m=>by
  simp only[Cf]at h;have G:a=[]:=by simpa using h
  subst G;have A:=(vL l).symm;have B:=(vL m).symm;rw[Gl.1 A,Gl.1 B];simp [Op.eqFields,jh]
 |f::k,off,a,w,h,l,m=>by
  simp only[Cf,bY]at h;obtain⟨⟨o,p⟩,h⟩:=h;have p:f.offset=off:=by simpa using p
  have o:f.name≠ "_" :=by simpa using o
  cases g:P.info? f.type with
  |none=>rw[g]at h;simp at h
  |some i=>
   cases c:P.underlying f.type with
   |none=>rw[g,c]at h;simp at h
   |some z=>
    rw[g,c]at h;simp only[bY,jP]at h;obtain⟨⟨⟨M,N⟩,u⟩,F⟩:=h;have H:=vL l;have I:=vL m;have Q:=r.length;have O:=q.length;simp only[rj]at H I;have t:mG z=false→i.size=1:=fun e=>by
     have:=anB u c e;simp only[nJ]at this;omega
    have K:=ahx (w:=w) g c t j off (by omega);have L:=ahx (w:=w) g c t us off (by omega);have x:=Pp i.size l;have y:=Pp i.size m;have D:=v f.type (a.take i.size) u d ((cs.drop off).take i.size) ((b.drop off).take i.size) ((j.drop off).take i.size) ((us.drop off).take i.size) w z s c x.1 y.1 (aY.take _ (aY.drop _ r)) (aY.take _ (aY.drop _ q));have E:=Yp v s j us cs b r q C k (off+i.size) (a.drop i.size) w F (by rw[←vh];exact x.2) (by rw[←vh];exact y.2);simp only[Op.eqFields,p];rw[bF o,Sem.run_bind,K,Result.andThen_ok,Sem.run_bind,L,Result.andThen_ok,Sem.run_bind,D,Result.andThen_ok];rw[Yo i.size (cs.drop off) (b.drop off) (by simp;omega),vh,vh]
    cases jh ((cs.drop off).take i.size) ((b.drop off).take i.size)with
    |false=>simp
    |true=>simp only[Bool.not_true,Bool.false_eq_true,mP,Bool.true_and];exact E
theorem XC: ∀(n:Nat) (T:TypeId) (j:List J),rH P n T j=true→kl P n T j
 |0,_,_,h=>by cases h
 |n+1,T,j,h=>by
  intro d cs g i us w x y f a b e c;simp only[rH,f]at h;obtain⟨d,rfl⟩: ∃o,d=o+1:=⟨d-1,by omega⟩
  cases x<;>simp only at h<;>first|(cases h;done)|skip
  case bool=>
   split at h<;>first|(cases h;done)|skip
   match cs,g,i,us,a,b,e,c with
   |[.bool p],[.bool q],[v],[u],_,_,e,c=>rw[show v= .bool p from e.1,show u= .bool q from c.1];simp [qT,mG,run_equalIn_bool' w d T p q f,jh,He]
  case int k=>
   split at h<;>first|(cases h;done)|skip
   match cs,a with
   | .int _ _::_::_,a=>simp [hy]at a
   |[.int s p],a=>
   match g,b with
   | .int _ _::_::_,b=>simp [hy]at b
   |[.int t q],b=>
   match i,us,e,c with
   |[v],[u],e,c=>
    rw[show v= .int s p from e.1,show u= .int t q from c.1];simp [hy,Po]at a b;rw[←a,←b];simp [qT,mG,run_equalIn_int w d T _ _ p q f,jh,He]
  case string=>
   split at h<;>first|(cases h;done)|skip
   match cs,g,i,us,a,b,e,c with
   |[.str p],[.str q],[v],[u],_,_,e,c=>rw[show v= .string p from e.1,show u= .string q from c.1];simp [qT,mG,run_equalIn_string w d T p q f,jh,He]
  case struct l=>
   simp only[bY,iX]at h;have m:P.fieldsOf T=l:=by simp [Program.fieldsOf,f]
   have:=run_equalIn_struct (P:=P) w d T i.toArray us.toArray (by rw[m];exact f) h.1;simp only[qT,mG,kT];rw[this,m];have r:cs.length=g.length:=(vL a).symm.trans (vL b);exact Yp (XC n) (by omega) i us cs g e c r l.toList 0 j w h.2 (by simpa using a) (by simpa using b)
theorem aoG{T:TypeId}{c:List J}{n:Nat}(h:rH P n T c=true)(i:n≤10000)(a:(match P.underlying T with|some (.struct _)=>true|_=>false)=true)(g:P.eqGuardType P.depth T=false):Gv P T c:=by
 intro m x y cs d p us w j e f l k
 cases b:P.underlying T with
 |none=>rw[b]at a;cases a
 |some o=>
  rw[b]at a
  cases o<;>simp only at a<;>first|(cases a;done)|skip
  rename_i q;have:=XC n T c h 10000 cs d p us w _ i b e f l k;simp only[qT,mG,kT]at this;rw[Sem.run_bind,run_eqGuard_agg w m T x y _ _ g,Result.andThen_ok];rcases j with rfl|rfl
  ·rw[run_eql_struct,this];rfl
  ·rw[run_neq_struct,this];rfl
def GY(P:Program)(x:Nat×bB):Bool:= !x.2.cmp||(rH P 9 x.1 x.2.zero&&(match P.underlying x.1 with|some (.struct _)=>true|_=>false)&& !(P.eqGuardType P.depth x.1))
theorem Ym{P:Program}{hG:List (Nat×bB)}{s:Spec}{m:Nat}{a:vi}{f:FuncId→Bool}(e:P.follows .mixedOrders=true)(h:(hG.all fun x=>BA P x.1 x.2)=true)(b:(hG.all fun x=>GY P x)=true)(g:s.dq P)(d:a.dq P):Env.dq ⟨P,yx hG,s,m,a,f⟩:=
 aoD e h (iC:=g) (g3:=d) fun x i c=>by
  have:=dw.1 b x i;simp only[GY,c,Bool.not_true,Bool.false_or,bY,iX]at this;exact aoG (n:=9) this.1.1 (by omega) this.1.2 this.2
end
def h4(x y:J):Prop:=
 match y with
 | .undef=>True
 | .bool c=>match x with
   | .bool b=>b=c
   | .lit b=>b=c
   |_=>False
 | .int k m=>match x with
   | .int a n=>c2 (decide (a=k)) (n=m)
   |_=>False
 | .str t=>match x with
   | .str s=>s=t
   |_=>False
 | .arr e n g=>match x with
   | .arr h d f=>c2 (decide (h=e)) (d=n∧ ∀i,i<n→f i=g i)
   | .aE=>n=0
   |_=>False
 |y=>x=y
def Hl:List J→List J→Prop
 |[],[]=>True
 |x::a,y::b=>h4 x y∧Hl a b
 |_,_=>False
def vP(x y:J):Prop:=
 match y with
 | .agg a=>match x with
   | .agg cs=>Hl cs a
   |_=>False
 |y=>h4 x y
def oZ:List J→List J→Prop
 |[],[]=>True
 |x::a,y::b=>match y with
  | .undef=>oZ a b
  |y=>vP x y∧oZ a b
 |_,_=>False
def hM(x y:J):Prop:=
 match y with
 | .undef=>ch x=false
 | .gone=>match x with
   | .undef=>False
   | .ae .. =>False
   |_=>True
 | .ae b d n g=>match x with
   | .ae c e a f=>c2 (decide (c=b)&&decide (e=d)) (a=n∧ ∀i,i<n→kc (f i) (g i))
   |_=>False
 |y=>c2 (!(ch x)) (h4 x y)
def rL:List J→List J→Prop
 |a,[]=>c2 (a.all fun x=> !(ch x)) True
 |x::a,y::b=>hM x y∧rL a b
 |[],_::_=>False
def zm:Heap→Heap→Prop
 |[],b=>c2 (b.all fun y=>y.isEmpty) True
 |x::a,y::b=>rL x y∧zm a b
 |x::a,[]=>c2 (x.all fun z=> !(ch z)) (zm a [])
def zl:Heap→Heap→Prop
 |[],a=>c2 (a.all fun y=>y.isEmpty) True
 |x::b,y::a=>match y with
  |[]=>zl b a
  |z::c=>rL x (z::c)∧zl b a
 |_::_,[]=>True
def alive(H:Heap)(b:Nat):Bool:=
 match H.getD b []with
 |[]=>false
 |_::_=>true
def ank(H:Heap):J→Bool
 | .ptr b _=>alive H b
 |x=>mW x
def AY(H:Heap):J→Bool
 | .ptr b _=>alive H b
 | .own b _=>alive H b
 | .fl b _ _ _=>alive H b
 | .fn _ a=>a.all (ank H)
 |_=>true
def Ld(H:Heap):J→Bool
 | .agg cs=>cs.all (AY H)
 | .c9 _=>false
 |ab=>AY H ab
def uP(s:D):Bool:=s.n.all (Ld s.k)&&s.k.all fun l=>l.all (AY s.k)
def rp(s a:D):Prop:=oZ s.n a.n∧zl s.k a.k∧uP a=true
def BT(s a:D):Prop:=oZ s.n a.n∧zm s.k a.k∧s.k.length≤a.k.length
section
variable {S:dR} {ι:Nat→Option Nat} {a:Act} {w:World} {F:Nat→Prop} {H:Heap}
theorem tx{x y:J}{v:Value}(h:h4 x y)(k:cf ι H w F x v):cf ι H w F y v:=by
 cases y
 case undef=>exact k.one
 case bool c=>
  cases x<;>simp only[h4]at h<;>try exact h.elim
  ·subst h;exact k
  ·subst h;have k:aR w F (.lit _) v:=k
   cases k
   exact aR.bool _
 case int d m=>
  cases x<;>simp only[h4]at h<;>try exact h.elim
  rw[aD]at h;obtain⟨a,rfl⟩:=h;have:=aq a;subst this;exact k
 case str t=>
  cases x<;>simp only[h4]at h<;>try exact h.elim
  subst h;exact k
 case arr e n g=>
  cases x<;>simp only[h4]at h<;>try exact h.elim
  ·subst h;have k:aR w F .aE v:=k
   cases k
   exact aR.nil _ _
  ·rw[aD]at h;obtain⟨a,rfl,b⟩:=h;have:=aq a;subst this;exact g0.rel (x:= .arr _ _ _) (y:= .arr _ _ _) ⟨rfl,rfl,b⟩ k
 all_goals
  simp only[h4]at h;subst h;exact k
theorem YA: ∀{cs a:List J} {b:List Value},Hl cs a→aY (cf ι H w F) cs b→aY (cf ι H w F) a b
 |[],[],_,_,k=>k
 |_::_,_::_,_::_,h,k=>⟨tx h.1 k.1,YA h.2 k.2⟩
 |_::_,_::_,[],_,k=>k.elim
 |[],_::_,_,h,_=>h.elim
 |_::_,[],_,h,_=>h.elim
theorem aoV{x y:J}{v:Value}(h:h4 x y)(b:y≠ .undef)(k:ek ι H w F x v):ek ι H w F y v:=by
 cases y
 case undef=>exact(b rfl).elim
 case bool c=>
  cases x<;>simp only[h4]at h<;>first|exact h.elim|exact tx (ι:=ι) (H:=H) (x:= .bool _) (y:= .bool c) h k|exact tx (ι:=ι) (H:=H) (x:= .lit _) (y:= .bool c) h k
 case int d m=>
  cases x<;>simp only[h4]at h<;>first|exact h.elim|exact tx (ι:=ι) (H:=H) (x:= .int _ _) (y:= .int d m) h k
 case str t=>
  cases x<;>simp only[h4]at h<;>first|exact h.elim|exact tx (ι:=ι) (H:=H) (x:= .str _) (y:= .str t) h k
 case arr a n g=>
  cases x<;>simp only[h4]at h<;>first|exact h.elim|exact tx (ι:=ι) (H:=H) (x:= .aE) (y:= .arr a n g) h k|exact tx (ι:=ι) (H:=H) (x:= .arr _ _ _) (y:= .arr a n g) h k
 all_goals
  simp only[h4]at h;subst h;exact k
theorem aoW{x y:J}{v:Value}(h:vP x y)(k:ek ι H w F x v):ek ι H w F y v:=by
 cases y
 case undef=>trivial
 case agg b=>
  cases x<;>simp only[vP]at h<;>try exact h.elim
  obtain⟨a,rfl,k⟩:=k;exact⟨a,rfl,YA h k⟩
 all_goals
  simp only[vP]at h;exact aoV h (by simp) k
theorem YC: ∀{a b:List J} (t:Nat) (y:J),oZ a b→b[t]? =some y→ ∃x,a[t]? =some x∧vP x y
 |[],[],_,_,_,h=>by simp at h
 |x::a,y::b,0,z,h,c=>by
  simp at c;subst c;refine⟨x,rfl,?_⟩;simp only[oZ]at h
  split at h
  ·trivial
  ·exact h.1
 |x::a,y::b,t+1,z,h,c=>by
  have:oZ a b:=by
   simp only[oZ]at h
   split at h
   ·exact h
   ·exact h.2
  simpa using YC t z this (by simpa using c)
 |[],_::_,_,_,h,_=>h.elim
 |_::_,[],_,_,h,_=>h.elim
theorem Yz: ∀{a b:List J} (o:Nat),rL a b→hM (a.getD o .undef) (b.getD o .undef)
 |a,[],o,h=>by
  cases a<;>simp only[rL]at h<;>simp only[List.getD_nil,hM]
  ·rfl
  ·rename_i x a;have c:=(aD.1 h).1
   cases e:(x::a)[o]? with
   |none=>simp [List.getD,e,ch]
   |some z=>
    have:=dw.1 c z (e4 e);simpa[List.getD,e]using this
 |x::a,y::b,0,h=>h.1
 |x::a,y::b,o+1,h=>by simpa using Yz o h.2
 |[],_::_,_,h=>h.elim
theorem rM: ∀{a cu:Heap} (b o:Nat),zm a cu→hM (I a b o) (I cu b o)
 |[],cu,b,o,h=>by
  have c:=(aD.1 h).1;have:I cu b o= .undef:=by
   unfold I
   cases e:cu[b]? with
   |none=>simp [List.getD,e]
   |some z=>
    have:=dw.1 c z (e4 e);have f:z=[]:=by simpa using this
    simp [List.getD,e,f]
  rw[this];simp [I,hM,ch]
 |x::a,y::cu,0,o,h=>by simpa[I]using Yz o h.1
 |x::a,y::cu,b+1,o,h=>by simpa[I]using rM b o h.2
 |x::a,[],0,o,h=>by
  have c:=(aD.1 h).1;have d:hM (x.getD o .undef) .undef:=by
   simp only[hM]
   cases e:x[o]? with
   |none=>simp [List.getD,e,ch]
   |some z=>
    have:=dw.1 c z (e4 e);simpa[List.getD,e]using this
  simpa[I]using d
 |x::a,[],b+1,o,h=>by
  have c:=rM (cu:=[]) b o (aD.1 h).2;simpa[I]using c
theorem Hk{x y:J}(h:hM x y):ch x=ch y:=by
 cases y
 case undef=>exact h
 case ae a b n g=>
  cases x<;>simp only[hM]at h<;>first|exact h.elim|rfl
 case gone=>cases x<;>first|rfl|exact(show False from h).elim
 all_goals
  simp only[hM]at h;have:=(aD.1 h).1;simp only[iX]at this;rw[this];rfl
theorem Yx{x y:J}(h:h4 x y)(a:y≠ .undef):x≠ .undef:=by
 rintro rfl
 cases y<;>simp only[h4]at h<;>first|exact a rfl|exact h.elim|(cases h;done)|exact a h
theorem Yy{x y:J}(h:hM x y)(a:oE y=true):oE x=true:=by
 cases y
 case undef=>cases a
 case ae e f n g=>
  cases x<;>simp only[hM]at h<;>try exact h.elim
  rw[aD,bY]at h;have:=aq h.1.1;subst this;exact a
 case gone=>cases x<;>first|rfl|exact(show False from h).elim
 all_goals
  simp only[hM]at h;obtain⟨b,c⟩:=aD.1 h;have d:=Yx c (by simp)
  cases x<;>first|rfl|(exact(d rfl).elim)|(cases b;done)
theorem BT.aB4{st g:D}(h:BT st g):eg ι st.k w (aM S ι st.k w) ι g.k w (aM S ι g.k w):=by
 refine⟨fun x ⟨a,d,k⟩=>⟨a,d,fun b j=>k b (j.imp (fun⟨c,i⟩=>⟨by rw[Hk (rM b 0 h.2.1)];exact c,Yy (rM b 0 h.2.1) i⟩) fun⟨c,o,p⟩=>⟨by rw[Hk (rM b 0 h.2.1)];exact c,o,Yy (rM b o h.2.1) p⟩)⟩,fun _ _ _=>rfl,fun b x q j=>⟨q,by rw[←Hk (rM b 0 h.2.1)];exact j⟩,fun b s t n f m=> ?_⟩;have a:=rM b 0 h.2.1;rw[m]at a;have d:=Hk a
 cases e:I g.k b 0<;>rw[e]at a d<;>first|(cases d;done)|skip
 simp only[hM]at a;rw[aD,bY]at a;obtain⟨⟨c,i⟩,rfl,r⟩:=a;have:=aq i;subst this;exact⟨_,_,_,_,rfl,bx _,fun _=>⟨rfl,rfl,fun x C T _ l=>⟨C,l,rfl⟩⟩⟩
theorem BT.le{m:Nat}{st c:D}(h:BT st c):cp m st c:=by
 intro S _ ι a w k;have p:eg ι st.k w (aM S ι st.k w) ι c.k w (aM S ι c.k w):=h.aB4;refine⟨ι,k.below,k.defers,fun t ab R=> ?_,fun b o=> ?_,k.inj,k.fresh,fun b x M=>gG (k.gw b x M) h.2.2,k.gB.trans p⟩
 ·obtain⟨x,U,Q⟩:=YC t ab h.1 R;obtain⟨v,d,f⟩:=k.n t x U;exact⟨v,d,aoW Q (f.step p)⟩
 ·have d:=rM b o h.2.1;have f:=k.k b o
  cases e:I c.k b o<;>rw[e]at d
  case undef=>trivial
  case ae Z cP n g=>
   cases q:I st.k b o<;>rw[q]at d f<;>simp only[hM]at d<;>try exact d.elim
   rw[aD,bY]at d;obtain⟨⟨A,K⟩,rfl,L⟩:=d;have:=aq K;subst this;obtain⟨r,J|⟨N,l⟩⟩:=f
   ·exact⟨r,.inl ⟨by have A:=aq A;rw[←A];exact J.1,J.2⟩⟩
   refine⟨r,.inr ⟨N,?_⟩⟩;rcases l with l|⟨x,C,T,s,u,z⟩
   ·exact .inl l
   ·refine .inr ⟨x,C,T,s,u,fun i j H O=> ?_⟩;obtain⟨ab,v,W,X,Y⟩:=z i j H O;obtain⟨y,V,P⟩:=LB j ab (L i H) W;exact⟨y,v,V,X,TP P (Y.mono p.hN p.cell)⟩
  case gone=>
   have f:eQ ι c.k w (aM S ι c.k w) b o (I st.k b o):=f.step p (fun _=>rfl) (fun _ _ _=>⟨rfl,rfl⟩) (fun _=>⟨rfl,fun _ _=>rfl⟩);have B:ch (I c.k b 0)=false∧ ∃x v,ι b=some x∧w.cell? ⟨x,o,none⟩=some v∧w.frozen? ⟨x,o,none⟩=false∧cf ι c.k w (aM S ι c.k w) (I st.k b o) v:=by
    cases q:I st.k b o<;>rw[q]at d f<;>first|exact(show False from d).elim|exact f
   obtain⟨E,x,v,s,u,z,F⟩:=B;exact⟨E,x,v,s,u,z,cf.one F⟩
  all_goals
   simp only[hM]at d;obtain⟨r,l⟩:=aD.1 d;have G:=Yx l (by simp);have f:eQ ι c.k w (aM S ι c.k w) b o (I st.k b o):=f.step p (fun _=>rfl) (fun _ _ _=>⟨rfl,rfl⟩) (fun _=>⟨rfl,fun _ _=>rfl⟩);have B:ch (I c.k b 0)=false∧ ∃x v,ι b=some x∧w.cell? ⟨x,o,none⟩=some v∧w.frozen? ⟨x,o,none⟩=false∧cf ι c.k w (aM S ι c.k w) (I st.k b o) v:=by
    cases q:I st.k b o<;>rw[q]at f r G<;>first|exact(G rfl).elim|(cases r;done)|exact f
   obtain⟨E,x,v,s,u,z,F⟩:=B;exact⟨E,x,v,s,u,z,tx l F⟩
theorem K_{ay:Nat→Option Nat}{H1:Heap}{dO:Nat→Prop}(l: ∀b,alive H b=true→ay b=ι b)(j: ∀b,alive H b=true→ ∀o,I H b o=I H1 b o)(t: ∀x,F x→dO x){ab:J}{v:Value}(e:AY H ab=true)(k:cf ι H1 w F ab v):cf ay H w dO ab v:=by
 cases ab
 case ptr b o=>
  obtain⟨d,x,a,g⟩:=k;exact⟨by rw[j b e];exact d,x,by rw[l b e];exact a,g⟩
 case own b c=>
  obtain⟨n,r,s,m,f,d,a,g⟩:=k;exact⟨n,r,s,m,f,by rw[j b e];exact d,a,by rw[l b e];exact g⟩
 case fl b c i o=>
  obtain⟨n,r,s,m,f,d,a,g⟩:=k;exact⟨n,r,s,m,f,by rw[j b e];exact d,a,by rw[l b e];exact g⟩
 case fn f G=>
  obtain⟨E,d,a⟩:=k;refine⟨E,d,aY.mk a.length fun i p q u D=> ?_⟩;obtain⟨K,y,z⟩:=a.get i p u;rw[D]at y;cases y;have h:=dw.1 e p (e4 u)
  cases p
  case ptr b o=>
   obtain⟨A,x,B,C⟩:=z;have h:alive H b=true:=h;exact⟨by rw[j b h];exact A,x,by rw[l b h];exact B,C⟩
  all_goals first|(cases h;done)|exact aR.mono t (fun _ _ _=>rfl) z
 case undef=>exact k
 case gone=>exact k
 case agg=>exact k.elim
 case c9=>exact k.elim
 case ae=>exact k.elim
 all_goals exact aR.mono t (fun _ _ _=>rfl) k
theorem afP{ay:Nat→Option Nat}{H1:Heap}{dO:Nat→Prop}(g: ∀b,alive H b=true→ay b=ι b)(d: ∀b,alive H b=true→ ∀o,I H b o=I H1 b o)(c: ∀x,F x→dO x){ab:J}{v:Value}(a:Ld H ab=true)(k:ek ι H1 w F ab v):ek ay H w dO ab v:=by
 cases ab
 case agg cs=>
  obtain⟨l,rfl,k⟩:=k;refine⟨l,rfl,aY.mk k.length fun i p q e h=> ?_⟩;obtain⟨m,f,j⟩:=k.get i p e;rw[h]at f;cases f;exact K_ g d c (dw.1 a p (e4 e)) j
 case c9=>cases a
 case undef=>trivial
 case gone=>exact k
 all_goals
  simp only[Ld]at a;exact(show cf ay H w dO _ v from K_ (ι:=ι) (H1:=H1) (F:=F) g d c a (show cf ι H1 w F _ v from k))
def hF(m:Nat)(st:D):Bool:=(List.range m).all fun b=>alive st.k b
theorem eg.cut{i_ ι ay:Nat→Option Nat}{a H1 H:Heap}{q w:World}{G F dO:Nat→Prop}(h:eg i_ a q G ι H1 w F)(pZ: ∀b x,i_ b=some x→b<a.length)(m: ∀b,b<a.length→alive H b=true)
  (p: ∀b,alive H b=true→ay b=ι b) (l: ∀b,alive H b=true→ ∀o,I H b o=I H1 b o) (t: ∀x,F x→dO x):eg i_ a q G ay H w dO:=by
 refine⟨fun x i=>t x (h.hN x i),h.cell,fun b x i d=> ?_,fun b v z n f d=> ?_⟩
 ·have c:=m b (pZ b x i);obtain⟨j,k⟩:=h.box b x i d;exact⟨by rw[p b c];exact j,by rw[l b c];exact k⟩
 ·have c:=m b (by
   rcases fh b a.length with g|g
   ·exact g
   ·rw[so g]at d;cases d)
  obtain⟨y,A,u,r,j,k,s⟩:=h.arr b v z n f d;exact⟨y,A,u,r,by rw[l b c];exact j,k,fun e=>by rw[p b c];exact s e⟩
theorem axA{m:Nat}{u:List J}{H H1:Heap}(B:uP ⟨u,H⟩=true)(p: ∀b,alive H b=true→ ∀o,I H b o=I H1 b o)(Z:hF m ⟨u,H⟩=true):cp m ⟨u,H1⟩ ⟨u,H⟩:=by
 intro S sm ι a w g;simp only[uP,bY]at B;let ay:Nat→Option Nat:=fun b=>if alive H b then ι b else none
 have k: ∀b,alive H b=true→ay b=ι b:=fun b c=>bF c;have q: ∀b x,ay b=some x→alive H b=true∧ι b=some x:=fun b x c=>by
  by_cases h:alive H b=true
  ·exact⟨h,by rw[←k b h];exact c⟩
  ·simp [ay,h]at c
 have Y: ∀b,alive H b=true→b<H.length:=fun b c=>by
  rcases fh b H.length with h|h
  ·exact h
  ·simp [alive,List.getD,e0 h]at c
 have SD: ∀b o,alive H b=false→I H b o= .undef:=fun b o h=>by
  unfold alive at h;unfold I
  cases e:H.getD b []with
  |nil=>rfl
  |cons z rl=>rw[e]at h;cases h
 have s: ∀x,aM S ι H1 w x→aM S ay H w x:=fun x ⟨r,d,U⟩=>⟨r,d,fun b c N=>U b (nG (fun o=>p b (q b x N).1 o) c) (q b x N).2⟩;refine⟨ay,g.below,g.defers,fun t ab M=> ?_,fun b o=> ?_,fun b O x r d=>g.inj b O x (q _ _ r).2 (q _ _ d).2,fun b x h=>g.fresh b x (q _ _ h).2,fun b x h=>Y b (q _ _ h).1,g.gB.cut S.pZ (fun b c=>dw.1 Z b (vg.2 (by omega))) k p s⟩
 ·obtain⟨v,r,d⟩:=g.n t ab M;exact⟨v,r,afP k p s (dw.1 B.1 ab (e4 M)) d⟩
 ·show eQ ay H w (aM S ay H w) b o (I H b o);have d:=g.k b o
  cases c:alive H b with
  |false=>rw[SD b o c];trivial
  |true=>
   have X: ∀ab,I H b o=ab→ab≠ .undef→AY H ab=true:=fun ab e L=>by
    unfold I at e
    cases y:H[b]? with
    |none=>simp [List.getD,y]at e;exact absurd e.symm L
    |some l=>
     simp only[List.getD,y,ly]at e
     cases A:l[o]? with
     |none=>rw[A]at e;exact absurd e.symm L
     |some z=>
      rw[A]at e;simp only[ly]at e;subst e;exact dw.1 (dw.1 B.2 l (e4 y)) z (e4 A)
   have R:ch (I H b 0)=ch (I H1 b 0):=by rw[p b c 0]
   have d:eQ ι H1 w (aM S ι H1 w) b o (I H b o):=by rw[p b c o];exact d
   cases e:I H b o<;>rw[e]at d
   case undef=>trivial
   case ae ro cP n f=>
    obtain⟨K,G|⟨P,Q⟩⟩:=d
    ·exact⟨K,.inl ⟨G.1,G.2.1,by rw[k b c];exact G.2.2⟩⟩
    refine⟨K,.inr ⟨P,?_⟩⟩;rw[k b c];exact Q.imp id fun⟨x,C,T,D,E,F⟩=>⟨x,C,T,D,E,fun i j V W=>by
     obtain⟨ab,v,qM,qN,x1⟩:=F i j V W;exact⟨ab,v,qM,qN,x1.mono s fun _ _ _=>rfl⟩⟩
   all_goals
    obtain⟨E8,x,v,D,E,F,Fe⟩:=d;exact⟨by rw[R];exact E8,x,v,by rw[k b c];exact D,E,F,K_ k p s (X _ e (by simp)) Fe⟩
theorem aoU(x:J):h4 x x:=by
 cases x<;>first|exact trivial|exact rfl|exact aD.2 ⟨bT rfl,rfl⟩|exact aD.2 ⟨bT rfl,rfl,fun _ _=>rfl⟩
theorem aoX{x:J}(h:ch x=false):hM x x:=by
 have a:=aoU x;have b:(!(ch x))=true:=by rw[h];rfl
 unfold hM
 split
 ·exact h
 ·trivial
 ·cases h
 ·exact aD.2 ⟨b,a⟩
theorem aoY(x:J):hM x x:=by
 cases a:ch x with
 |false=>exact aoX a
 |true=>
  obtain⟨b,c,n,f,rfl⟩:=KP a;exact aD.2 ⟨by simp,rfl,fun _ _=>x_ _⟩
theorem Pt: ∀(a:List J),rL a a
 |[]=>aD.2 ⟨rfl,trivial⟩
 |x::a=>⟨aoY x,Pt a⟩
def va:Heap→Heap→Heap
 |[],b=>b
 |x::a,y::b=>(match y with|[]=>x|z::c=>z::c)::va a b
 |x::a,[]=>x::a
theorem YB: ∀(H:Heap),zm H H
 |[]=>aD.2 ⟨rfl,trivial⟩
 |x::a=>⟨Pt x,YB a⟩
theorem Vx: ∀{xs cu:Heap},zl xs cu→zm xs (va xs cu)∧xs.length≤(va xs cu).length
 |[],cu,h=>⟨h,cA _⟩
 |x::xs,[],h=>⟨YB _,bx _⟩
 |x::xs,[]::cu,h=>by
  obtain⟨a,b⟩:=Vx (xs:=xs) (cu:=cu) h;exact⟨⟨Pt x,a⟩,by simp [va,b]⟩
 |x::xs,(z::c)::cu,h=>by
  obtain⟨a,b⟩:=Vx (xs:=xs) (cu:=cu) h.2;exact⟨⟨h.1,a⟩,by simp [va,b]⟩
theorem aiA: ∀{xs cu:Heap} (b:Nat),alive cu b=true→ ∀o,I cu b o=I (va xs cu) b o
 |[],cu,b,h,o=>rfl
 |x::xs,[],b,h,o=>by simp [alive]at h
 |x::xs,y::cu,0,h,o=>by
  cases y with
  |nil=>simp [alive]at h
  |cons z a=>rfl
 |x::xs,y::cu,b+1,h,o=>by
  have:=aiA (xs:=xs) (cu:=cu) b (by simpa[alive]using h) o;simpa[I,va]using this
theorem rp.le{m:Nat}{st a:D}(h:rp st a)(f:hF m a=true):cp m st a:=by
 obtain⟨c,d⟩:=Vx h.2.1;have g:BT st ⟨a.n,va st.k a.k⟩:=⟨h.1,c,d⟩;exact g.le.trans (axA h.2.2 (fun b e o=>aiA b e o) f)
end
section
variable {E:Env} {x y:Code} {Q:Exit→D→Prop} {st:D}
theorem WP.step(c:E.dq)(a:D)(p:Prop)(e:ma E x (hT (fun s=>rp s a) Q) st=p)(h:p)(k:WP E y Q a)(d:hF E.m a=true:=by rfl):WP E (.seq x y) Q st:=
 WP.cut a ((WP.TR c (Eq.mpr e h)).mono fun e s b=>by cases e<;>simp only[hT]at b ⊢ <;>first|exact rp.le b d|exact b) k
theorem WP.join(a:D)(h:WP E x (hT (fun s=>rp s a) Q) st)(k:WP E y Q a)(c:hF E.m a=true:=by rfl):WP E (.seq x y) Q st:=
 WP.cut a (h.mono fun e s b=>by cases e<;>simp only[hT]at b ⊢ <;>first|exact rp.le b c|exact b) k
theorem WP.ax0(h:WP E x (hT (fun _=>False) Q) st):WP E (.loop x) Q st:=
 WP.loop (α:=Unit) (fun _=>st) (fun _=>True) (fun _=>0) () trivial (cp.refl st) fun _ _=>h.mono fun e s a=>by
  cases e<;>simp only[hT,Tr]at a ⊢ <;>first|exact a.elim|exact a
theorem WP.Cn{c:Operand}(b:Bool)(a:aC st.n c= .bool b)(d:b=true→WP E x Q st)(e:b=false→WP E y Q st):WP E (.cond c x y) Q st:=WP.cond a d e
theorem WP.py(p:Prop)(e:Q .ret st=p)(h:p):WP E .ret Q st:=WP.ret (Eq.mpr e h)
theorem WP.F4(p:Prop)(e:Q .normal st=p)(h:p):WP E .skip Q st:=WP.skip (Eq.mpr e h)
end
abbrev tc:=List J→Option (Option Prop×J)
structure amk (P:Program) (f:FuncId) (s:tc):Prop where
 vs:lC P f
 pure: ∀args pre r,s args=some (pre,r)→nC pre True→cY P f args r
def F5:List (Nat×tc)→Spec
 |[]=>fun _ _=>none
 |(g,s)::r=>fun f aa=>match Nat.beq f g with
  |true=>match s aa with
   |some q=>some q
   |none=>F5 r f aa
  |false=>F5 r f aa
def GD(P:Program):List (Nat×tc)→Prop
 |[]=>True
 |x::r=>amk P x.1 x.2∧GD P r
theorem U7{P:Program} : ∀{l:List (Nat×tc)},GD P l→Spec.dq P (F5 l)
 |[],_=>fun f a c r h=>by cases h
 |(g,s)::l,b=>fun f a c r h=>by
  simp only[F5]at h
  split at h
  ·rename_i e;have:f=g:=dX e;subst this
   cases d:s a with
   |some q=>
    rw[d]at h
    cases h
    exact⟨b.1.vs,b.1.pure a c r d⟩
   |none=>
    rw[d]at h;exact U7 b.2 f a c r h
  ·exact U7 b.2 f a c r h
abbrev yO:=List J→Heap→Option (Option Prop×List J×Heap)
structure al5 (P:Program) (f:FuncId) (s:yO):Prop where
 vs:lC P f
 call: ∀args H pre rs al,s args H=some (pre,rs,al)→nC pre True→fj P f args H rs al
def ER:List (Nat×yO)→vi
 |[]=>fun _ _ _=>none
 |(g,s)::r=>fun f aa H=>match Nat.beq f g with
  |true=>match s aa H with
   |some q=>some q
   |none=>ER r f aa H
  |false=>ER r f aa H
def Nw(P:Program):List (Nat×yO)→Prop
 |[]=>True
 |x::r=>al5 P x.1 x.2∧Nw P r
theorem Sx{P:Program} : ∀{l:List (Nat×yO)},Nw P l→vi.dq P (ER l)
 |[],_=>fun f a H c rs al h=>by cases h
 |(g,s)::l,b=>fun f a H c rs al h=>by
  simp only[ER]at h
  split at h
  ·rename_i e;have:f=g:=dX e;subst this
   cases d:s a H with
   |some q=>
    rw[d]at h
    cases h
    exact⟨b.1.vs,b.1.call a H c rs al d⟩
   |none=>
    rw[d]at h;exact Sx b.2 f a H c rs al h
  ·exact Sx b.2 f a H c rs al h
section
variable {E:Env} {S:dR} {ι:Nat→Option Nat} {st:D} {a:Act} {w:World}
def Sp(E:Env)(st:D)(r:ResultVar)(K:J→Prop):Prop:=
 match r with
 | .tmp t=>K (st.n.getD t .undef)
 | .cell t T=>dz E T fun a=>nx a st.k (st.n.getD t .undef) fun ab=>K ab
def uF(E:Env)(st:D):List ResultVar→(List J→Prop)→Prop
 |[],K=>K []
 |x::r,K=>Sp E st x fun y=>uF E st r fun a=>K (y::a)
theorem aed(j:E.dq)(h:aU S ι st a w): ∀(rs:List ResultVar) (K:List J→Prop),uF E st rs K→ ∃c d,K c∧aY (bk S ι st.k w) c d∧aY (px E.P w a.tmps) rs d
 |[],K,b=>⟨[],[],b,trivial,trivial⟩
 |r::rs,K,b=>by
  have m: ∃y v,uF E st rs (fun c=>K (y::c))∧bk S ι st.k w y v∧px E.P w a.tmps r v:=by
   cases r with
   |tmp t=>exact⟨_,_,b,h.eval (.tmp t),rfl⟩
   |cell t T=>
    obtain⟨n,l,_,b⟩:=jO j b;obtain⟨p,ab,u,e,f,g,i⟩:=K8 l h (h.eval (.tmp t)) b;refine⟨ab,u,f,g,?_⟩;have k:a.tmps.getD t undef= .pointer (some p):=e;simp only[px];rw[Sem.run_bind,k];simp [asAddr,i]
  obtain⟨y,v,b,e,f⟩:=m;obtain⟨c,d,b,g,i⟩:=aed j h rs _ b;exact⟨y::c,v::d,b,⟨e,g⟩,f,i⟩
theorem zn: ∀{a b:List J},oZ a b→a.length=b.length
 |[],[],_=>rfl
 |[],_::_,h=>h.elim
 |_::_,[],h=>h.elim
 |x::a,y::b,h=>by
  have:oZ a b:=by cases y<;>first|exact h|exact h.2
  simp [zn this]
end
end Go.ah
namespace Go.ah
open Go Go.ChangeShapes Go.RowKit Go.WideShapes
def tiled(P:Program):List Field→Nat→Nat→Bool
 |[],a,b=>a==b
 |f::c,a,b=>f.offset==a&&tiled P c (a+P.cellsOf f.type) b
def qV(P:Program):Nat→TypeId→Bool
 |0,_=>false
 |n+1,t=>match P.underlying t with
  |some .bool=>true
  |some (.int _)=>true
  |some .string=>true
  |some (.slice e)=>qV P n e&&P.cellsOf e !=0
  |some (.struct a)=>tiled P a.toList 0 (P.cellsOf t)&&a.toList.all fun f=>qV P n f.type
  |_=>false
def U1(c:TypeId→(List J→Prop)→Prop):List Field→(List J→Prop)→Prop
 |[],K=>K []
 |f::d,K=>c f.type fun a=>U1 c d fun b=>K (a++b)
structure BO {H:Type} (fx:DataW H→Nat):Prop where
 str: ∀l:List UInt8,l.length≤fx (.lit (.string l))
 len: ∀e r:List (DataW H),e.length≤fx (.slice e r)
 elem: ∀e r:List (DataW H),∀d∈e,fx d≤fx (.slice e r)
 part: ∀e:List (DataW H),∀d∈e,fx d≤fx (.agg e)
def lF(P:Program):Nat→TypeId→List J
 |0,_=>[]
 |n+1,t=>match P.underlying t with
  |some .bool=>[.bool false]
  |some (.int k)=>[.int k 0]
  |some .string=>[.str ⟨#[]⟩]
  |some (.slice e)=>[.arr (P.cellsOf e) 0 fun _=>lF P n e]
  |some (.struct a)=>a.toList.flatMap fun f=>lF P n f.type
  |_=>[]
def kn(P:Program)(B:Nat):Nat→TypeId→(List J→Prop)→Prop
 |0,_,_=>False
 |n+1,t,K=>match P.underlying t with
  |some .bool=> ∀b,K [.bool b]
  |some (.int k)=> ∀x:Int,(Lit.int k x).wf=true→K [.int k x]
  |some .string=> ∀s:z,s.size≤B→K [.str s]
  |some (.slice e)=> ∀(m:Nat) (f:Nat→List J),m≤B→(∀i,m≤i→f i=lF P n e)→(∀i,i<m→ ∀a,kn P B n e a→a (f i))→K [.arr (P.cellsOf e) m f]
  |some (.struct c)=>U1 (kn P B n) c.toList K
  |_=>False
section
variable {H:Type} {enc:TypeId×Value→H} {P:Program} {w:World} {base:Nat} {spare:Nat→Bool} {held:Bool} {B:Nat} {fx:DataW H→Nat}
theorem amD{a:Addr}(h:a.spot=none)(i j:Nat):(a.add i).add j=⟨a.block,a.off+i+j,none⟩:=by
 obtain⟨b,o,s⟩:=a;simp only at h;subst h;unfold Addr.add
 by_cases c:i=0<;>by_cases d:j=0<;>simp [c,d,rh]
theorem agv{n:Nat}(o: ∀(t:TypeId) (cs:List Value) (i:Nat) (x:DataW H×List MemPlace),qV P n t=true→fx x.1≤B→DataW.trod enc P w base spare held i t cs=some x→
   ∃d,aY (aR w fun y=>y<w.heap.size) d cs∧ ∀K,kn P B n t K→K d) {cs:List Value} : ∀(a:List Field) (c:Nat),tiled P a c cs.length=true→(a.all fun f=>qV P n f.type)=true→
  (∀f∈a,∃i x,fx x.1≤B∧DataW.trod enc P w base spare held i f.type ((cs.drop f.offset).take (P.cellsOf f.type))=some x)→
  ∃d,aY (aR w fun y=>y<w.heap.size) d (cs.drop c)∧ ∀K,U1 (kn P B n) a K→K d
 |[],c,e,_,_=>by
  have:c=cs.length:=by simpa[tiled]using e
  subst this;exact⟨[],by simp [aY],fun K h=>h⟩
 |f::a,c,e,j,m=>by
  simp only[tiled,bY,ri]at e;simp only[yH,bY]at j;obtain⟨i,x,v,A⟩:=m f (by simp);obtain⟨k,l,q⟩:=o _ _ _ _ j.1 v A;obtain⟨p,r,s⟩:=agv o a (c+P.cellsOf f.type) e.2 j.2 (fun g z=>m g (by simp [z]));rw[e.1]at l;refine⟨k++p,?_,fun K u=>s (fun b=>K (k++b)) (q _ u)⟩;have:=aY.append l r;rwa [←vh,q_]at this
theorem TX(M:B≤dm)(C:BO fx): ∀(n:Nat) (t:TypeId) (cs:List Value) (F:Nat) (x:DataW H×List MemPlace),qV P n t=true→fx x.1≤B→DataW.trod enc P w base spare held F t cs=some x→
  ∃p,aY (aR w fun y=>y<w.heap.size) p cs∧ ∀K,kn P B n t K→K p
 |0,t,cs,F,x,r,_,h=>by cases r
 |n+1,t,cs,F,x,r,N,h=>by
  unfold qV at r
  cases q:P.underlying t with
  |none=>rw[q]at r;cases r
  |some d=>
   rw[q]at r
   cases d<;>simp only at r<;>try (cases r;done)
   case bool=>
    obtain⟨b,rfl,_⟩:=DataW.trod_bool q h;exact⟨[.bool b],⟨.bool b,trivial⟩,fun K c=>by unfold kn at c;rw[q]at c;exact c b⟩
   case int k=>
    obtain⟨y,rfl,_,sv⟩:=DataW.trod_int q h;exact⟨[.int k y],⟨.int k y,trivial⟩,fun K c=>by unfold kn at c;rw[q]at c;exact c y sv⟩
   case string=>
    obtain⟨s,rfl,rfl,_⟩:=DataW.trod_string q h;have V:s.size≤B:=by
     have:=C.str s.data.toList;rw[Array.length_toList]at this;exact fg this N
    exact⟨[.str s],⟨.str s (fg V M),trivial⟩,fun K c=>by unfold kn at c;rw[q]at c;exact c s V⟩
   case slice e=>
    simp only[bY,bne_iff_ne]at r;rcases DataW.trod_slice q h with⟨rfl,_⟩|⟨a,u,Z,T,Y,m,_,rfl,rfl,iP,oj,hm,R3,R,_,_⟩
    ·exact⟨[.arr (P.cellsOf e) 0 fun _=>lF P n e],⟨.nil _ _,trivial⟩,fun K c=>by unfold kn at c;rw[q]at c;exact c 0 _ (cA _) (fun _ _=>rfl) fun i g=>absurd g (by omega)⟩
    ·have A:u≤B:=by
      have:=C.len (T.map (·.1)) (Y.map (·.1));rw[List.length_map,R3]at this;exact fg this N
     have X: ∀i,i<u→ ∃p l,aY (aR w fun y=>y<w.heap.size) p l∧(∀K,kn P B n e K→K p)∧l.length=P.cellsOf e∧ ∀j,j<P.cellsOf e→w.cell? ((a.add (i*P.cellsOf e)).add j)=l[j]? :=fun i g=>by
      have z:=R i g;rw[cT (by omega)]at z
      cases I:w.cells? base (a.add (i*P.cellsOf e)) (P.cellsOf e)with
      |none=>rw[I]at z;cases z
      |some l=>
       rw[I]at z;obtain⟨p,Q,e5⟩:=TX M C n e l m _ r.1 (fg (C.elem (T.map (·.1)) (Y.map (·.1)) _ (List.mem_map_of_mem (vf _))) N) z;obtain⟨_,Ay,JV⟩:=World.cells?_some I;exact⟨p,l,Q,e5,Ay,JV⟩
     by_cases jH:u=0
     ·subst jH;exact⟨[.arr (P.cellsOf e) 0 fun _=>lF P n e],⟨.mt _ _ _ _,trivial⟩,fun K c=>by unfold kn at c;rw[q]at c;exact c 0 _ (cA _) (fun _ _=>rfl) fun i g=>absurd g (by omega)⟩
     ·have W:a.spot=none∧a.block<w.heap.size:=by
       obtain⟨_,l,_,_,A,I⟩:=X 0 (by omega);have:=I 0 (by omega);rw[cT (by omega)]at this;simp only[Nat.zero_mul,Addr.add,kT]at this;unfold World.cell? at this
       cases aZ:w.heap[a.block]? with
       |none=>rw[aZ]at this;cases this
       |some l4=>
        refine⟨?_,(q9.1 aZ).1⟩;rw[aZ]at this
        cases l4<;>simp only at this<;>try (cases this;done)
        split at this
        ·cases this
        ·rename_i AM;simpa using AM
      obtain⟨b,o,s⟩:=a;simp only at W;obtain⟨rfl,asm⟩:=W;have S: ∀i,∃p:List J,i<u→ ∃l,aY (aR w fun y=>y<w.heap.size) p l∧(∀K,kn P B n e K→K p)∧l.length=P.cellsOf e∧ ∀j,j<P.cellsOf e→w.cell? ⟨b,o+i*P.cellsOf e+j,none⟩=l[j]? :=fun i=>by
       by_cases g:i<u
       ·obtain⟨p,l,v,iK,L,G⟩:=X i g;exact⟨p,fun _=>⟨l,v,iK,L,fun j E=>by rw[←G j E,amD rfl]⟩⟩
       ·exact⟨[],fun h=>absurd h g⟩
      let f:Nat→List J:=fun i=>if i<u then Classical.choose (S i)else lF P n e
      have asL: ∀i,i<u→f i=Classical.choose (S i):=fun i g=>bF g;have D: ∀i,i<u→ ∃l,aY (aR w fun y=>y<w.heap.size) (f i) l∧(∀K,kn P B n e K→K (f i))∧l.length=P.cellsOf e∧ ∀j,j<P.cellsOf e→w.cell? ⟨b,o+i*P.cellsOf e+j,none⟩=l[j]? :=fun i g=>by rw[asL i g];exact Classical.choose_spec (S i) g
      refine⟨[.arr (P.cellsOf e) u f],⟨.arr (P.cellsOf e) u f b o Z (fun i j=>(f i).getD j .undef) (fun i j=>(w.cell? ⟨b,o+i*P.cellsOf e+j,none⟩).getD undef) oj (fg A M) (fun _=>asm) ?_ ?_ ?_,trivial⟩,?_⟩
      ·intro i j g E;obtain⟨l,v,_,L,_⟩:=D i g;have A:=v.length;rw[List.getD,cT (by omega)];rfl
      ·intro i j g E;obtain⟨l,v,_,L,G⟩:=D i g;rw[G j E,cT (by omega)];rfl
      ·intro i j g E;obtain⟨l,v,_,L,G⟩:=D i g;have A:=v.length;obtain⟨cP,jg,fL⟩:=v.get j ((f i)[j]'(by omega)) (cT _);rw[G j E,jg,List.getD,cT (by omega)];exact fL
      ·intro K c;unfold kn at c;rw[q]at c;exact c u f A (fun i g=>bH (by omega)) fun i g=>(D i g).choose_spec.2.1
   case struct O=>
    simp only[bY]at r;obtain⟨xs,m,_,rfl,A,aFh,R⟩:=DataW.trod_struct q h;obtain⟨p,z,Q⟩:=agv (n:=n) (fun t cs F x=>TX M C n t cs F x) (cs:=cs) O.toList 0 (by rw[A];exact r.1) r.2 fun f D=>by
     obtain⟨i,g⟩:=pI D;have U:O[i]? =some f:=by simpa using g
     have aEY:i<O.size:=(q9.1 U).1;have:=R i f U;rw[cT (by omega)]at this;exact⟨_,_,fg (C.part (xs.map (·.1)) _ (List.mem_map_of_mem (vf _))) N,this⟩
    exact⟨p,by simpa using z,fun K c=>Q K (by unfold kn at c;rw[q]at c;exact c)⟩
def F9(P:Program)(t:TypeId)(cs:List J):J:=
 match P.underlying t with
 |some (.struct _)=> .agg cs
 |_=>cs.headD .undef
def q2(P:Program)(B n:Nat):List TypeId→(List J→Prop)→Prop
 |[],K=>K []
 |t::c,K=>kn P B n t fun a=>q2 P B n c fun b=>K (F9 P t a::b)
theorem azz(x:B≤dm)(z:BO fx){n:Nat}{r:Reach}{p:Nat}{t:TypeId}{v:Value}{d:DataW H}{C:List MemPlace}(g:qV P n t=true)(j:Value.okWide P w r p t v)(A:fx d≤B)(h:DataW.Trod enc P w base spare held t v d C):
  ∃f,fi w (fun y=>y<w.heap.size) (F9 P t f) v∧ ∀K,kn P B n t K→K f:=by
 obtain⟨q,h⟩:=h;obtain⟨f,c,s⟩:=TX x z n t _ q _ g A h;refine⟨f,?_,s⟩
 cases n with
 |zero=>cases g
 |succ n=>
  unfold qV at g;unfold F9
  cases i:P.underlying t with
  |none=>rw[i]at g;cases g
  |some d=>
   rw[i]at g
   cases d<;>simp only at g<;>try (cases g;done)
   case struct D=>
    obtain⟨cs,rfl,_⟩:=okWide_struct i j;exact⟨cs.toList,by simp,by simpa[Value.cells]using c⟩
   case bool=>
    obtain⟨b,rfl⟩:=okWide_bool i j
    match f,c with
    |[ab],c=>cases c.1<;>first|exact aR.bool b|exact aR.lit b
   case int k=>
    obtain⟨b,rfl⟩:=okWide_int i j
    match f,c with
    |[ab],c=>cases c.1;exact aR.int k b
   case string=>
    obtain⟨b,rfl⟩:=okWide_string i j
    match f,c with
    |[ab],c=>cases c.1;exact aR.str b (by assumption)
   case slice e=>
    obtain⟨a,o,l,rfl⟩:=okWide_slice i j
    match f,c with
    |[ab],c=>
     have m:aR w (fun y=>y<w.heap.size) ab (.slice a o l):=c.1;have u:fi w (fun y=>y<w.heap.size) ab (.slice a o l):=by
      cases ab<;>first|exact m|(cases m;done)
     exact u
theorem agu(g:B≤dm)(i:BO fx){n:Nat}{r:Reach}{o:Nat} : ∀(a:List TypeId) (c:List Value) (b:List (DataW H)) (m:List MemPlace),(a.all (qV P n))=true→(∀(j:Nat) t v,a[j]? =some t→c[j]? =some v→Value.okWide P w r o t v)→(∀d∈b,fx d≤B)→
  DataW.TrodAll enc P w base spare held a c b m→ ∃aa,aY (fi w fun y=>y<w.heap.size) aa c∧(∀K,q2 P B n a K→K aa)∧b.length=a.length
 |[],[],[],_,_,_,_,_=>⟨[],trivial,fun _ h=>h,rfl⟩
 |t::a,v::c,d::b,m,e,l,k,h=>by
  obtain⟨p,q,x,z,_⟩:=h;simp only[yH,bY]at e;obtain⟨f,A,C⟩:=azz g i e.1 (l 0 t v rfl rfl) (k d (by simp)) x;obtain⟨aa,D,E,F⟩:=agu g i a c b q e.2 (fun j M N J L=>l (j+1) M N (by simpa using J) (by simpa using L)) (fun u I=>k u (by simp [I])) z;exact⟨F9 P t f::aa,⟨A,D⟩,fun K G=>E (fun s=>K (F9 P t f::s)) (C _ G),by simp [F]⟩
 |[],[],_::_,_,_,_,_,h=>h.elim
 |[],_::_,_,_,_,_,_,h=>by cases h
 |_::_,[],_,_,_,_,_,h=>by cases h
 |_::_,_::_,[],_,_,_,_,h=>by cases h
theorem ah3(j:laidOutB P=true){W i:World}{m:Nat→Bool} : ∀(c:List TypeId) (g:List Value) (e:List (DataW H)) (b:List MemPlace),(c.all fun t=>P.readableRec t&&decide (t<P.types.size))=true→
  DataW.TrodAll enc P W 0 (fun _=>true) true c g e b→(∀p∈b,W.sameAt i p)→(∀p∈b,m p.block=true)→DataW.TrodAll enc P i 0 m true c g e b
 |[],[],[],_,_,h,_,_=>h
 |t::c,v::g,d::e,b,f,h,k,l=>by
  obtain⟨p,q,n,o,rfl⟩:=h;simp only[yH,bY,jP]at f;exact⟨p,q,WideElems.Trod_stays j f.1.1 f.1.2 n (fun x a=>k x (by simp [a])) (fun x a=>l x (by simp [a])),ah3 j c g e q f.2 o (fun x a=>k x (by simp [a])) (fun x a=>l x (by simp [a])),rfl⟩
 |[],[],_::_,_,_,h,_,_=>h.elim
 |[],_::_,_,_,_,h,_,_=>by cases h
 |_::_,[],_,_,_,h,_,_=>by cases h
 |_::_,_::_,[],_,_,h,_,_=>by cases h
theorem aAt{f:Func}{s:ChangeSpec}{l A C z:Bool}{W d:World}{i:Array Value}{v:Value}{e g:List (DataW H)}{before Bc Bj:List MemPlace}
  (k:DataW.Whole enc P f.params.toList s.vars l W i.toList e g before)
  (w: ∀(b:Nat) (c:Nat→Bool) (D:Bool),DataW.TrodAll enc P d b c D f.resultTypes.toList (v.resultList f.resultTypes.size) (s.fn H (e++g)).results [])
  (m: ∀c:Nat→Bool,(∀p∈before,c p.block=true)→DataW.TrodAll enc P d 0 c true f.params.toList i.toList (s.fn H (e++g)).args Bc)
  (x: ∀c:Nat→Bool,(∀p∈before,c p.block=true)→DataW.TrodVars enc P d c s.vars (s.fn H (e++g)).vars Bj)
  (h:before=Bc++Bj) (n:Below W.heap.size W d)
  (F: ∀(j:Nat) (t:TypeId) (r:Value),f.resultTypes[j]? =some t→(v.resultList f.resultTypes.size)[j]? =some r→Value.okWide P d .any 0 t r):
  s.post enc P f l A C z W i v d:=by
 have q: ∀p∈before,p.block<W.heap.size:=fun p a=>k.lt p a;have u: ∀p∈before,(fun b=>decide (b<W.heap.size)) p.block=true:=fun p a=>by simpa using q p a
 refine⟨e,g,before,[],Bc,Bj,k,w _ _ _,m _ u,x _ u,World.keptBut_mono (fun p a=>⟨a,?_⟩) (n.frame (· ∈before)),fun _=> ?_⟩
 ·rw[h,hq]at a;exact Or.inr a
 ·obtain⟨_,_,_,_,_,G,E⟩:=k;refine⟨F,_,_,([]++Bc)++Bj,⟨[]++Bc,Bj,trodAll_append (m _ (fun _ _=>rfl)) (w _ _ _),x _ (fun _ _=>rfl),rfl,?_,?_⟩,?_⟩
  ·intro b y a;have o:MemPlace.cell b y∈before:=by rw[h];simpa using a
   rw[n.frozen (q _ o)];exact G b y o
  ·intro B;have:=E B;rw[h]at this;simpa using this
  ·intro p a _;rw[h];simpa using a
theorem xW(O:B≤dm)(S:BO fx){f:FuncId}{fn:Func}{s:ChangeSpec}{o L R K:Bool}{n eV:Nat}{bh:List TypeId}(k:fn.params.toList=bh)
  (V:laidOutB P=true) (Y:(bh.all (qV P n))=true) (atp:(bh.all fun t=>P.readableRec t&&decide (t<P.types.size))=true)
  (F:fn.resultTypes= #[eV]) (E:P.underlying eV=some .bool) (I:s.vars=[])
  (i: ∀a:List (DataW H),a.length=bh.length→s.fn H a={results:=[.lit (.bool true)],args:=a})
  (Z:q2 P B n bh fun aa=>cY P f aa (.bool true)):
  ∀(W:World) (base:Nat) (args:Array Value) (a u:List (DataW H)) (r:List MemPlace),
   (∀(j:Nat) t v,fn.params[j]? =some t→args[j]? =some v→Value.okWide P W .any base t v)→
   DataW.Whole enc P fn.params.toList s.vars o W args.toList a u r→(∀d∈a,fx d≤B)→oL W (fun y=>y<W.heap.size)→
   Calls P f args W fun e b=> ∃v,e= .returned v∧s.post enc P fn o L R K W args v b:=by
 intro W base args a u r atE A T Q;have C:=A;obtain⟨p,q,g,z,rfl,aEU,EM⟩:=A;rw[I]at z;obtain⟨rfl,rfl⟩:=trodVars_none z;rw[k]at g;obtain⟨aa,M,N,c⟩:=agu O S bh args.toList a p Y (fun j t v G l=>atE j t v (by rw[←k]at G;simpa using G) (by simpa using l)) T g;have w:=N _ Z W (fun y=>y<W.heap.size) args.toList Q M;rw[show args.toList.toArray=args by simp]at w;refine w.mono fun e b ⟨v,U,h,D⟩=> ?_;refine⟨v,U,?_⟩;have l:v= .bool true:=by
  have h:aR b _ (.bool true) v:=h
  cases h;rfl
 subst l;have X:=C.lt;refine aAt (Bc:=p) (Bj:=[]) C (fun cP J dK=> ?_) (fun J AM=> ?_) (fun J _=> ?_) rfl D (ok_one F rfl (okWide_bool_mk E true))
 ·rw[F,lz,i a c];exact⟨[],[],shut_bool E true,rfl,rfl⟩
 ·rw[lz,i a c,k];refine ah3 V bh args.toList a p atp g (fun x m=>D.same (X x (by simp [m]))) fun x m=>AM x (by simp [m])
 ·rw[I,lz,i a c];rfl
end
end Go.ah
namespace Go.ah
open Go Go.RowKit
structure A (α:Type) where
 n:Nat
 at':Nat→α
instance{α:Type}[Inhabited α]:Inhabited (A α):=⟨⟨0,fun _=>default⟩⟩
def aH{α:Type}(a:Nat)(enc:α→List J)(s:A α):J:= .arr a s.n fun i=>enc (s.at' i)
inductive ft:J→Prop
 |int (k:IntKind) (n:Int):ft (.int k n)
 |bool (b:Bool):ft (.bool b)
 |lit (b:Bool):ft (.lit b)
 |str (s:ByteArray) (h:s.size≤dm):ft (.str s)
 |aE:ft .aE
 |jq:ft .jq
 |jV (M n:Nat) (f:Nat→List J):ft (.jV M n f)
 |arr (M n:Nat) (f:Nat→List J) (h:n≤dm) (g:Nat→Nat→J) (iC: ∀i j,i<n→j<M→(f i)[j]? =some (g i j)) (g3: ∀i j,i<n→j<M→ft (g i j)):ft (.arr M n f)
 |ref (cs:List J):ft (.ref cs)
 |fn (f:FuncId) (jf:List J):ft (.fn f jf)
theorem aR.jz{w:World}{F:Nat→Prop}{ab:J}{v:Value}(h:aR w F ab v):ft ab:=by
 induction h with
 |int k n=>exact .int k n
 |bool b=>exact .bool b
 |lit b=>exact .lit b
 |str s l=>exact .str s l
 |aE=>exact .aE
 |jq=>exact .jq
 |jV e n f=>exact .jV e n f
 |nil e f=>exact .arr e 0 f (cA _) (fun _ _=> .undef) (fun i j d=>absurd d (eH _)) (fun i j d=>absurd d (eH _))
 |mt e f a c=>exact .arr e 0 f (cA _) (fun _ _=> .undef) (fun i j d=>absurd d (eH _)) (fun i j d=>absurd d (eH _))
 |arr e n f b o c g y x l u p r t q=>exact .arr e n f l g p q
 |ref cs=>exact .ref cs
 |fn f m=>exact .fn f m
def Ho:List J→Prop
 |[]=>True
 |x::a=>ft x∧Ho a
def YD:J→Prop
 | .agg cs=>Ho cs
 |x=>ft x
def Hn:List J→Prop
 |[]=>True
 |x::a=>YD x∧Hn a
theorem YG{w:World}{F:Nat→Prop} : ∀{cs:List J} {a:List Value},aY (aR w F) cs a→Ho cs
 |[],[],_=>trivial
 |_::_,_::_,h=>⟨h.1.jz,YG h.2⟩
 |[],_::_,h=>h.elim
 |_::_,[],h=>h.elim
theorem ao4{w:World}{F:Nat→Prop}{x:J}{v:Value}(h:fi w F x v):YD x:=by
 cases x
 case agg cs=>obtain⟨a,_,h⟩:=h;exact YG h
 case undef=>exact h.elim
 all_goals exact aR.jz h
theorem YE{w:World}{F:Nat→Prop} : ∀{a:List J} {b:List Value},aY (fi w F) a b→Hn a
 |[],[],_=>trivial
 |_::_,_::_,h=>⟨ao4 h.1,YE h.2⟩
 |[],_::_,h=>h.elim
 |_::_,[],h=>h.elim
theorem cY.jz{P:Program}{f:FuncId}{a:List J}{r:J}(h:Hn a→cY P f a r):cY P f a r:=fun w F d c b=>h (YE b) w F d c b
theorem ft.len{α:Type}{a:Nat}{enc:α→List J}{s:A α}(h:ft (aH a enc s)):s.n≤dm:=by
 unfold aH at h
 cases h;assumption
theorem ft.at{α:Type}{c:Nat}{enc:α→List J}{s:A α}(h:ft (aH c enc s)){i j:Nat}{x:J}(a:i<s.n)(b:j<c)(f:(enc (s.at' i))[j]? =some x):ft x:=by
 unfold aH at h
 cases h with
 |arr _ _ _ _ g d e=>
  have:=d i j a b;rw[f]at this
  cases this
  exact e i j a b
theorem ft.size{s:ByteArray}(h:ft (.str s)):s.size≤dm:=by cases h;assumption
theorem cY.u9{P:Program}{f:FuncId}{b k:List J}{r:J}(h:cY P f k r)(a:aY jT b k):cY P f b r:=fun w F p n e=>
 h w F p n (aY.mk (a.length.symm.trans e.length) fun i y v j o=>by
   have g:i<b.length:=by rw[a.length];exact(iW.1 j).1
   obtain⟨s,c,l⟩:=a.get i _ (cT g);rw[j]at c;cases c;obtain⟨q,d,m⟩:=e.get i _ (cT g);rw[o]at d;cases d;exact l.rel m)
def sz(a:Nat):J→Bool
 | .arr s _ _=>Nat.beq s a
 | .aE=>true
 |_=>false
def cD{α:Type}[Inhabited α](a:List J→α):J→A α
 | .arr _ n f=>⟨n,fun i=>a (f i)⟩
 |_=>⟨0,fun _=>default⟩
def ago{α:Type}(enc:α→List J)(a:List J→α):J→Prop
 | .arr _ n f=> ∀i,i<n→f i=enc (a (f i))
 |_=>True
theorem aBJ{α:Type}[Inhabited α]{c:Nat}{enc:α→List J}{b:List J→α}{x:J}(a:sz c x=true)(d:ago enc b x):g0 x (aH c enc (cD b x)):=by
 cases x<;>simp only[sz]at a<;>first|(cases a;done)|skip
 ·exact rfl
 ·exact⟨dX a,rfl,d⟩
def L{α:Type}[Inhabited α]:A α:=⟨0,fun _=>default⟩
theorem u0{α:Type}[Inhabited α]{c:Nat}{enc:α→List J}{b:List J→α}{x:J}(a:sz c x=true)(d:ago enc b x):jT x (aH c enc (cD b x)):=by
 have h:=aBJ a d
 cases x<;>simp only[sz]at a<;>first|(cases a;done)|exact h
theorem rB{k:IntKind}{n:Int} :jT (.int k n) (.int k n):=rfl
theorem xV{α β:Type}{R:α→β→Prop} :aY R [] []:=trivial
theorem fo{α β:Type}{R:α→β→Prop}{a:α}{b:β}{l:List α}{m:List β}(h:R a b)(t:aY R l m):aY R (a::l) (b::m):=⟨h,t⟩
theorem wrap64{x:Int}(a: -9223372036854775808≤x)(b:x≤9223372036854775807):i64.wrap x=x:=by
 rw[IntKind.wrap_i64];omega
theorem _root_.Go.N(x:Int)(a: -9223372036854775808≤x:=by omega)(b:x≤9223372036854775807:=by omega):i64.wrap x=x:=wrap64 a b
end Go.ah
namespace Go.Proofs.YtfmgjpcmcjjoiaaGreatDoor
open Go Go.RowKit Go.ah
theorem OJ{H:Type}{d:DataW H}{l:List (DataW H)}(h:d∈l):Rows.uptoBulk d≤Rows.uptoBulkAll l:=by
 induction l with
 |nil=>cases h
 |cons x r a=>
  simp only[Rows.uptoBulkAll]
  cases hf.1 h with
  |inl e=>subst e;omega
  |inr e=>have:=a e;omega
theorem anb{H:Type}(d:DataW H):1≤Rows.uptoBulk d:=by
 cases d with
 |lit l=>cases l<;>simp [Rows.uptoBulk]
 |nil=>simp [Rows.uptoBulk]
 |ptr d=>simp [Rows.uptoBulk]
 |slice a spare=>simp [Rows.uptoBulk]
 |agg c=>simp [Rows.uptoBulk]
 |iface t d=>simp [Rows.uptoBulk]
 |map b=>simp [Rows.uptoBulk]
 |held h=>simp [Rows.uptoBulk]
theorem ana{H:Type}(l:List (DataW H)):l.length≤Rows.uptoBulkAll l:=by
 induction l with
 |nil=>simp [Rows.uptoBulkAll]
 |cons x r a=>have:=anb x;simp only[Rows.uptoBulkAll,fr];omega
theorem vp(H:Type):BO (Rows.uptoBulk (H:=H)):=by
 refine⟨fun l=> ?_,fun e r=> ?_,fun e r d a=> ?_,fun e d a=> ?_⟩
 ·simp [Rows.uptoBulk]
 ·have:=ana e;simp only[Rows.uptoBulk];omega
 ·have:=OJ a;simp only[Rows.uptoBulk];omega
 ·have:=OJ a;simp only[Rows.uptoBulk];omega
theorem vq{H:Type}{l:List (DataW H)}(b:Rows.uptoSmall H l=true): ∀d∈l,Rows.uptoBulk d≤1048576:=fun d a=>by
 have h:Rows.uptoBulkAll l≤1048576:=aq b;have:=OJ a;omega
end Go.Proofs.YtfmgjpcmcjjoiaaGreatDoor
namespace Go.ah
open Go Go.RowKit
section
variable {S:dR} {ι:Nat→Option Nat} {st:D} {a:Act} {w:World}
theorem aU.ahg(h:aU S ι st a w){b o:Nat}{ab:J}(A:I st.k b o≠ .undef)(k:ch (I st.k b o)=false)(F:ab≠ .undef)(B:ch ab=false)
  (L: ∀v,cf ι st.k w (aM S ι st.k w) (I st.k b o) v→cf ι st.k w (aM S ι st.k w) ab v):aU S ι ⟨st.n,bs st.k b o ab⟩ a w:=by
 have j: ∀c d,I (bs st.k b o ab) c d=if c=b∧d=o then ab else I st.k c d:=fun c d=>eK _ _ _ _ _ _
 have s:=(h.k b o).ayV A k;have m: ∀c,ch (I (bs st.k b o ab) c 0)=ch (I st.k c 0):=fun c=>by
  rw[j]
  by_cases e:c=b∧0=o
  ·rw[bF e,B,e.1,s]
  ·rw[bH e]
 have p:eg ι st.k w (aM S ι st.k w) ι (bs st.k b o ab) w (aM S ι (bs st.k b o ab) w):=by
  refine⟨fun y ⟨q,r,D⟩=>⟨q,r,fun c G=>D c ?_⟩,fun _ _ _=>rfl,fun c z N l=>⟨N,by rw[m];exact l⟩,fun c V W n f l=> ?_⟩
  ·rcases G with⟨g,i⟩|⟨g,d,i⟩
   ·rw[m]at g;refine .inl ⟨g,?_⟩;rw[j]at i
    by_cases e:c=b∧0=o
    ·rw[bF e]at i;rw[e.1,s]at g;cases g
    ·rw[bH e]at i;exact i
   ·rw[m]at g;rw[j]at i
    by_cases e:c=b∧d=o
    ·refine .inr ⟨g,o,?_⟩;rw[e.1];exact aio A k
    ·rw[bH e]at i;exact .inr ⟨g,d,i⟩
  ·have e: ¬(c=b∧0=o):=fun e=>by rw[e.1,e.2]at l;rw[l]at k;cases k
   exact⟨V,_,n,f,by rw[j,bH e];exact l,bx _,fun _=>⟨rfl,rfl,fun x C T _ E=>⟨C,E,rfl⟩⟩⟩
 refine⟨h.below,h.defers,fun t u K=> ?_,fun c d=> ?_,h.inj,h.fresh,fun c y M=>gG (h.gw _ _ M) (l1 _ _ _ _).1,h.gB.trans p⟩
 ·obtain⟨v,q,r⟩:=h.n t u K;exact⟨v,q,r.step p⟩
 ·show eQ _ _ _ _ _ _ (I (bs st.k b o ab) c d);rw[j]
  by_cases e:c=b∧d=o
  ·obtain⟨rfl,rfl⟩:=e;rw[bF ⟨rfl,rfl⟩];obtain⟨x,v,O,P,Q,R⟩:=(h.k c d).box A k;have U:=(L v R).step p;have H:ch (I (bs st.k c d ab) c 0)=false:=by rw[m];exact s
   cases ab<;>first|exact absurd rfl F|(cases B;done)|exact⟨H,x,v,O,P,Q,U⟩
  ·rw[bH e];exact(h.k c d).step p (fun _=>rfl) (fun _ _ _=>⟨rfl,rfl⟩) (fun _=>⟨rfl,fun _ _=>rfl⟩)
theorem age{H:Heap}{F:Nat→Prop}{v:Value}(h:cf ι H w F .aE v):v= .slice none 0 0:=by
 have a:aR w F .aE v:=h
 cases a;rfl
end
section
variable {α:Type}
def A.app(s t:A α):A α:=⟨s.n+t.n,fun i=>bif Nat.blt i s.n then s.at' i else t.at' (i-s.n)⟩
def A.lit[Inhabited α](l:List α):A α:=⟨l.length,fun i=>l.getD i default⟩
def A.part(s:A α)(l h:Int):A α:=⟨(h-l).toNat,fun i=>s.at' (l.toNat+i)⟩
def A.ofStr(s:z):A Int:=⟨s.size,fun i=>((s.data.toList.getD i 0).toNat:Int)⟩
def A.toStr(s:A Int):z:=bytesOf s.n fun i=>[.int .u8 (s.at' i)]
theorem A.jd(s t:A α):(s.app t).n=s.n+t.n:=rfl
theorem A.ic[Inhabited α](l:List α):(A.lit l).n=l.length:=rfl
theorem A.ll(s:A α)(l h:Int):(s.part l h).n=(h-l).toNat:=rfl
theorem l3[Inhabited α]:(L:A α).n=0:=rfl
theorem WL{e:α→List J}{s t:A α}{n m:Nat}{f g:Nat→List J}(j:n=s.n)(d:m=t.n)(b: ∀i,i<n→f i=e (s.at' i))(c: ∀i,i<m→g i=e (t.at' i)): ∀i,i<n+m→hJ n f g i=e ((s.app t).at' i):=fun i k=>by
 subst j d;simp only[hJ,A.app]
 cases h:Nat.blt i s.n with
 |true=>exact b i (gW h)
 |false=>
  refine c _ ?_;have: ¬i<s.n:=fun a=>by rw[show Nat.blt i s.n=true by rw[fU];exact a]at h;cases h
  omega
theorem axV[Inhabited α](e:α→List J)(l:List α): ∀i,i<l.length→(l.map e).getD i []=e ((A.lit l).at' i):=fun i a=>by
 simp only[A.lit,List.getD,fq,cT a,rb,ly]
end
end Go.ah
