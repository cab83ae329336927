import Derived.Test.YtadmdaokcgjdiaaGreatDoorXe
import Derived.Test.YtadmdaokcgjdiaaGreatDoorRows
open Go.IntKind (i64 u64 u8)
open Int (toNat)
set_option maxRecDepth 100000
set_option maxHeartbeats 4000000
set_option linter.all false
noncomputable section
namespace Go.af
open Go Go.RowKit
section
variable {E:Env} {S:eb} {ops:Array Oper} {rs:List Rec} {cS:O} {jq:Nat->Option Nat}
def aaP{b o:Nat} : ∀{cs:List J},cs.isEmpty=false->h3 b cs o≠[]
 |[],h=>by cases h
 |_::_,_=>by simp [h3]
def aCU{aC c:Nat}{r b:J}{a:b5}(h:uC aC r a λav a=>av=b/\a=[]):uC c r a λav a=>av=b/\a=[]:=by
 cases r<;>simp only[uC]at h |- <;>first|exact h|exact absurd h.2 (by simp)
def at3{E:Env}{aC:Nat}{H:Heap}{f:FuncId}{aa:List J}{n:J}(a:og E H aC f aa λav t=>av=n/\t=[]):False:=by
 unfold og at a;obtain⟨h,a⟩:=aF.1 a
 cases l:E.oi f (aa.map (lj (pos (ec H aa)))) ((ec H aa).map λb=>(H.getD b []).map (fH (pos (ec H aa))))with
 |none=>rw[l]at a;exact a
 |some q=>
  obtain⟨v,rs,m⟩:=q;rw[l]at a;obtain⟨u,a⟩:=qy.1 a;obtain⟨i,_,p⟩:=aF.1 a;simp only[b4,jn]at h i;obtain⟨⟨_,k⟩,_⟩:=h;obtain⟨⟨⟨o,d⟩,_⟩,_⟩:=i
  cases m with
  |nil=>cases o
  |cons y m=>
   have r:y≠[]:=by
    cases g:ec H aa with
    |nil=>
     rw[g]at d;simp only[qD,z1,b4]at d;intro e;rw[e]at d;cases d.1
    |cons b L=>
     rw[g]at d k;have j:=dK.1 k b (by simp);simp only[b4]at j;obtain⟨_,z,w,s⟩:=Hv j.1;simp only[qD,b4]at d;have:=eg d.1;rw[s]at this;intro e;rw[e]at this;simp at this
   cases y with
   |nil=>exact r rfl
   |cons c y=>simp [sM,h3]at p
def aob{E:Env}{aC C:Nat}{n:List J}{H:Heap}{e:Op}{p:J}(a:r0 e=true)(h:iw E aC n H e λav o=>av=p/\o=[]):iw E C n H e λav o=>av=p/\o=[]:=by
 cases e<;>simp only[r0]at a<;>try (cases a;done)
 case alloc T=>
  simp only[iw,dM]at h |-
  split at h
  .simp only[aF,jn]at h;exact absurd h.2.2 (aaP h.1)
  .exact h.elim
 case box T x=>
  simp only[iw,aF,b4,jn]at h;exact absurd h.2.2 (aaP h.1.2)
 case buildSlice T D F=>
  simp only[iw,dM]at h
  split at h
  .unfold q5 at h
   split at h
   .split at h
    .obtain⟨_,h⟩:=aF.1 h;obtain⟨_,_,_,_,_,j⟩:=Se h;simp at j
    .exact h.elim
   .exact h.elim
  .exact h.elim
 case makeSlice T l c=>
  simp only[iw,dM]at h
  split at h
  .unfold r7 at h
   split at h
   .split at h
    .split at h
     .split at h
      .obtain⟨_,_,_,j⟩:=aF.1 h
       cases j
      .exact h.elim
     .exact h.elim
    .exact h.elim
   .exact h.elim
  .exact h.elim
 case call c=>
  simp only[iw]at h |-
  cases i:c.callee with
  |value f=>
   rw[i]at h;simp only at h |-;unfold Ap at h |-
   split at h
   .rename_i g v hD
    cases q:y7 E.eA g (c.args.toList.map (aE n)++v)with
    |true=>
     rw[q]at h;simp only at h;exact(at3 h).elim
    |false=>
    rw[q]at h;simp only at h |-;obtain⟨w,h⟩:=aF.1 h;refine aF.2 ⟨w,?_⟩;unfold va at h |-;refine EA (λy k=> ?_) h;revert k
    split
    .intro k;obtain⟨z,A⟩:=qy.1 k;exact qy.2 ⟨z,aCU A⟩
    .exact id
   .exact h.elim
  |invoke r m=>rw[i]at a;cases a
  |builtin b=>
   rw[i]at h a
   cases b<;>simp only at a h |- <;>try (cases a;done)
   split at h
   .simp only[dM]at h
    split at h
    .split at h
     .obtain⟨_,h⟩:=aF.1 h;unfold oI at h
      split at h
      .obtain⟨_,h⟩:=aF.1 h;have B: ∀{y:J} {K:Nat->(Nat->List J)->Prop},(∀m g,¬K m g)-> ∀{u:Bool} {s:Nat},¬nk H u s y K:=λ{y K} t u s d=>by
        cases y<;>simp only[nk]at d<;>first|exact d|exact t _ _ (aF.1 d).2|skip
        split at d
        .exact t _ _ (aF.1 d).2.2
        .exact d
       refine absurd h (B λm g hh=> ?_)
       split at hh
       .cases hh.2.2
       .split at hh
        .obtain⟨_,_,_,_,_,hh⟩:=aF.1 hh
         cases hh.2
        .exact hh
       .obtain⟨_,_,_,_,_,hh⟩:=aF.1 hh
        cases hh.2
       .exact hh
      .exact h.elim
     .exact h.elim
    .exact h.elim
   .exact h.elim
structure Inv (S:eb) (ops:Array Oper) (z:List (Oper×Rec)) (cS:O) (jq:Nat->Option Nat) (listed:Array Bool) (a:Act) (w:World):Prop where
 size:listed.size=ops.size
 closed: ∀(j:Nat) o,ops[j]? =some o->listed.getD j false=true-> ∀e∈o.after,Region.binds .any e=true->listed.getD e.on false=true
 ajr: ∃ι,aY S ι (acc (λi=>listed.getD i false) z 0 cS) a w/\ ∀b,ι b≠none->jq b≠none\/ ∃(i:Nat) (o:Oper) (r:Rec) (p:Nat),listed.getD i false=true/\z[i]? =some (o,r)/\writes r.ws b p
def VL{b p:Nat}{v:J} : ∀(a:b5) (H:Heap),I H b p=v->(∀c,(b,p,c)∈a->c=v)->I (bJ H a) b p=v
 |[],_,h,_=>h
 |(b',i,c)::a,H,h,d=>by
  rw[bJ];refine VL a _ ?_ λf g=>d f (List.mem_cons_of_mem _ g);rw[eZ]
  by_cases e:b=b'/\p=i
  .obtain⟨rfl,rfl⟩:=e;rw[a5 ⟨rfl,rfl⟩];exact d c (List.mem_cons_self ..)
  .rw[aS e];exact h
def DV{L:Nat->Bool}{b p:Nat}{v:J} : ∀(l:List (Oper×Rec)) (k:Nat) (st:O),I st.k b p=v->(∀o r,(o,r)∈l-> ∀c,(b,p,c)∈r.ws->c=v)->I (acc L l k st).k b p=v
 |[],_,_,h,_=>h
 |(o,r)::l,k,st,h,a=>by
  rw[acc];refine DV l (k+1) _ ?_ λe f d=>a e f (List.mem_cons_of_mem _ d)
  cases L k
  .exact h
  .exact VL r.ws st.k h (a o r (List.mem_cons_self ..))
def Mi{l:Array Bool}{i:Nat}(h:i<l.size)(d a:Bool):l.getD i d=l.getD i a:=by simp [h]
def aDL(m4:E.dE){Q:Exit->Act->World->Prop}{kD:O}(at7:uX E ops ops.toList cS rs kD)(Z:Aa cS.k ops rs)(afl: ∀b x,jq b=some x->b<cS.k.length)
  {B:Array Bool} {a:Act} {w:World} (K:Inv S ops (ops.toList.zip rs) cS jq B a w) {j:Nat} (fX:j∈Region.ready .any ops B) {next:Act->World->Prop}
  (fP: ∀a w,Inv S ops (ops.toList.zip rs) cS jq (B.setIfInBounds j true) a w->next a w):wpOp E.P ops Q j next a w:=by
 obtain⟨N,atA,Z⟩:=Z;obtain⟨avg,g,MJ,ae_⟩:=mem_ready.1 fX;obtain⟨hlen,_,atO⟩:=at7.at 0;have MF:j<ops.size:=(so.1 MJ).1;have auz:j<rs.length:=by rw[<-hlen];simpa using MF
 obtain⟨d,au5⟩: ∃d,rs[j]? =some d:=⟨_,cM auz⟩;have F:(ops.toList.zip rs)[j]? =some (g,d):=Y_.2 ⟨by simpa using MJ,au5⟩;have ML:=atO j g d F;rw[db]at ML;obtain⟨ι,MR,VQ⟩:=K.ajr;have G0: ∀b p,N b p=true-> ∀o r,(o,r)∈ops.toList.zip rs-> ∀c,(b,p,c)∈r.ws->c=I cS.k b p:=λb p q o r U c Y=>atA b p q r (List.of_mem_zip U).2 c Y;generalize hG:ops.toList.zip rs=z at*
 let L:Nat->Bool:=λi=>B.getD i false;let T:Nat->Bool:=λi=>decide (i<j);have M:L j=false:=by
  have:B.getD j false=B.getD j true:=Mi (by rw[K.size];exact MF) _ _;show B.getD j false=false;rw[this];exact avg
 have P: ∀(k:Nat) ok wK,z[k]? =some (ok,wK)->k≠j->L k=T k\/Zv (N) ops g d ok wK:=λk ok wK f auD=>by
  subst hG;exact aqo Z (L:=L) K.closed F f auD M ae_
 have VD: ∀t∈g.looksAt ops,(acc L z 0 cS).D[t]? =(acc T z 0 cS).D[t]? :=λt iC=>by
  refine Ja z 0 cS cS rfl λk o r f n=> ?_;rw[db]
  by_cases e:k=j
  .subst e;rw[M];simp [T]
  .exact(P k o r f e).elim id λm=>absurd iC (m.look t n)
 have avq:sl ops g (acc L z 0 cS).D=some d.run:=by rw[aES VD];exact ML.wanted
 have hw:=Y5 MR avq;let A:Nat->Bool:=λi=>(B.setIfInBounds j true).getD i false;have R: ∀i,A i=if i=j then true else L i:=λi=>by
  by_cases e:i=j
  .subst e;simp [A,K.size,MF]
  .rw[aS e];exact getD_set_ne false (λAH=>e AH.symm)
 have ae8:acc (λi=>decide (i<j+1)) z 0 cS=hB g d (acc T z 0 cS):=by
  have:=aad z 0 j cS g d F;simpa[T]using this
 have fin: ∀(ev:Nat->Option Nat) (W:Act) (w':World),aY S ev (hB g d (acc L z 0 cS)) W w'->(∀b,ev b≠none->ι b≠none\/ ∃p c,(b,p,c)∈d.ws)->next W w':=λev W w' pe u=>by
  refine fP W w' ⟨by simp [K.size],λk ok f afx=> ?_,ev,?_,λb Cl=> ?_⟩
  .intro e he afc
   by_cases abC:k=j
   .subst abC;rw[MJ]at f;cases f;exact getD_set_true (ae_ e he afc)
   .rw[getD_set_ne false (λAH=>abC AH.symm)]at afx;exact getD_set_true (K.closed k ok f afx e he afc)
  .have avc:(acc A z 0 cS).D=(hB g d (acc L z 0 cS)).D:=by
    apply w0;intro t
    by_cases oO:g.dst=some t
    .have s:(acc A z 0 cS).D[t]? =(acc (λi=>decide (i<j+1)) z 0 cS).D[t]? :=by
      refine Ja z 0 cS cS rfl λk o r f n=> ?_;rw[db,R]
      by_cases e:k=j
      .subst e;simp
      .rw[aS e];refine(P k o r f e).elim (λh=> ?_) λm=>absurd oO (m.dst t n);rw[h];simp only[T]
       congr 1;exact propext ⟨λh=>by omega,λh=>by omega⟩
     rw[s,ae8];simp only[hB,Em,oO,lp];have m_:=(DU (L:=T) z 0 cS).1;have aGN:=(DU (L:=L) z 0 cS).1;rcases fE t cS.D.length with h|h
     .rw[cM Ω,cM Ω];rfl
     .rw[eX Ω,eX Ω]
    .simp only[hB,Em,oO,np];refine Ja z 0 cS cS rfl λk o r f n=> ?_;rw[db,R]
     by_cases e:k=j
     .subst e;rw[F]at f;cases f;exact absurd n oO
     .rw[aS e]
   have auu: ∀b p,I (acc A z 0 cS).k b p=I (hB g d (acc L z 0 cS)).k b p:=λb p=>by
    by_cases q:N b p=true
    .have s:=DV (L:=A) z 0 cS rfl (G0 b p q);have C:=DV (L:=L) z 0 cS rfl (G0 b p q);rw[s];exact(VL d.ws _ C (G0 b p q g d (ft F))).symm
    have q:N b p=false:=by simpa using q
    by_cases JM:writes d.ws b p
    .have s:I (acc A z 0 cS).k b p=I (acc (λi=>decide (i<j+1)) z 0 cS).k b p:=by
      refine DT z 0 cS cS rfl λk o r f n=> ?_;rw[db,R]
      by_cases e:k=j
      .subst e;simp
      .rw[aS e];refine(P k o r f e).elim (λh=> ?_) λm=>absurd JM (m.ws b p q n);rw[h];simp only[T]
       congr 1;exact propext ⟨λh=>by omega,λh=>by omega⟩
     rw[s,ae8];exact VJ _ _ _ _ _ (.inl JM)
    .rw[show I (hB g d (acc L z 0 cS)).k b p=I (acc L z 0 cS).k b p from MU _ _ _ _ JM];refine DT z 0 cS cS rfl λk o r f n=> ?_;rw[db,R]
     by_cases e:k=j
     .subst e;rw[F]at f;cases f;exact absurd n JM
     .rw[aS e]
   have GV:=DU (L:=A) z 0 cS;show aY S ev ⟨(acc A z 0 cS).D,(acc A z 0 cS).k⟩ W w';rw[avc];refine aY.ext (H:=(hB g d (acc L z 0 cS)).k) pe auu λb x j0=> ?_;rcases u b (by rw[j0];simp)with h|⟨p,c,Y⟩
   .rcases VQ b h with h|⟨i,o,r,p,s,C,X⟩
    .cases e:jq b with
     |none=>exact absurd e h
     |some y=>exact gR (afl b y e) GV.2.1
    .refine GV.2.2 i o r C ?_ b p X;rw[db,R]
     by_cases e:i=j
     .rw[a5 e]
     .rw[aS e];exact s
   .exact GV.2.2 j g d F (by rw[db,R,a5 rfl]) b p ⟨c,Y⟩
  .rcases u b Cl with h|⟨p,c,Y⟩
   .rcases VQ b h with h|⟨i,o,r,p,s,C,X⟩
    .exact .inl h
    .exact .inr ⟨i,o,r,p,getD_set_true s,C,X⟩
   .exact .inr ⟨j,g,d,p,by simp [K.size,MF],F,⟨c,Y⟩⟩
 unfold wpOp;rw[MJ];simp only;rw[hw]
 cases pd:d.run with
 |false=>
  obtain⟨s,C⟩:=ML.no pd;rw[aS (by simp)];refine fin ι _ w ?_ λb u=> .inl u;have:=aY.dst MR g.dst (av:= .gone) (v:=undef) rfl;simp only[hB,s,C,bJ];exact this
 |true=>
  rw[a5 rfl];left;obtain⟨⟨Q8,s,auI⟩,C,as0,X⟩:=ML.yes pd;have GX:iw E d.aC (acc L z 0 cS).D (acc L z 0 cS).k g.op (λav G=>av=Q8/\G=d.ws):=by
   refine aoa (D:=(acc T z 0 cS).D) (H:=(acc T z 0 cS).k) (λx j0=>aqg λt e=>VD t (by subst e;exact azH j0)) (λl pc=> ?_) (λb u=> ?_) s
   .by_cases q:N l.1 l.2=true
    .rw[DV (L:=L) z 0 cS rfl (G0 _ _ q),DV (L:=T) z 0 cS rfl (G0 _ _ q)]
    have q:N l.1 l.2=false:=by simpa using q
    refine DT z 0 cS cS rfl λk o r f n=> ?_;rw[db]
    by_cases e:k=j
    .subst e;rw[M];simp [T]
    .exact(P k o r f e).elim id λm=>absurd (by rw[C];exact pc) (m.rd l.1 l.2 q n)
   .refine aab z 0 cS cS rfl λk o r f ⟨p,n⟩=> ?_;rw[db]
    by_cases e:k=j
    .subst e;rw[M];simp [T]
    .exact(P k o r f e).elim id λm=>absurd n (m.f_ b (by rw[as0];exact u) p)
  obtain⟨aC,V,GX,aup,GI⟩: ∃(aC:Nat) (V:Nat->Prop),iw E aC (acc L z 0 cS).D (acc L z 0 cS).k g.op (λav G=>av=Q8/\G=d.ws)/\(r0 g.op=true->V aC/\ ∀b,V b->(∀p,I (acc L z 0 cS).k b p= .undef)/\ι b=none)/\
    ∀(av:J) (G:b5),(av=Q8/\G=d.ws)-> ∀b p c,(b,p,c)∈G->aC<b->V b:=by
   by_cases MV:d.ws=[]/\r0 g.op=true
   .refine⟨(acc L z 0 cS).k.length,λb=>b=(acc L z 0 cS).k.length,by rw[MV.1]at GX |-;exact aob MV.2 GX,λ_=>⟨rfl,λb u=> ?_⟩,λav G h b p c U=>by rw[h.2,MV.1]at U;cases U⟩;subst u;refine⟨λp=>tQ (bN _) p,?_⟩
    cases e:ι (acc L z 0 cS).k.length with
    |none=>rfl
    |some x=>exact absurd (MR.gT _ x e) (Nat.lt_irrefl _)
   refine⟨d.aC,(· ∈um d),GX,λMu=>⟨by simp [um],λb Mv=> ?_⟩,λav G h b p c U u=>aAN (by rw[<-h.2];exact U) u⟩;have jG:d.ws≠[]:=λe=>MV ⟨e,Mu⟩;have tP:(acc T z 0 cS).k.length<=b:=dP X (aAM Mv);refine⟨λp=> ?_,?_⟩
   .have:I (acc L z 0 cS).k b p=I (acc T z 0 cS).k b p:=by
     refine DT z 0 cS cS rfl λk o r f n=> ?_;rw[db]
     by_cases e:k=j
     .subst e;rw[M];simp [T]
     .exact(P k o r f e).elim id λm=>absurd n (m.aC Mu jG b Mv p)
    rw[this];exact tQ tP p
   .cases e:ι b with
    |none=>rfl
    |some x=>
     exfalso;rcases VQ b (by rw[e];simp)with h|⟨i,o,r,p,jc,jg,fG⟩
     .cases mO:jq b with
      |none=>exact h mO
      |some y=>
       have q1:=afl _ y mO;have fQ:=(DU (L:=T) z 0 cS).2.1;omega
     .by_cases abB:i=j
      .subst abB;rw[show L i=B.getD i false from rfl,jc]at M;cases M
      .rcases P i o r jg abB with m|m
       .rw[show L i=B.getD i false from rfl,jc]at m;have tR:i<j:=by simpa[T]using m.symm
        subst hG;simp only[y6,b4]at Z;have cx:=Jd _ 0 Z.2 i j o r g d tR jg F;simp only[CZ,b4,IJ]at cx;have ae4:=cx.1;rw[Mu]at ae4;exact HI (dK.1 (by simpa using ae4) b Mv) p (qv.2 fG)
       .exact m.aC Mu jG b Mv p fG
  refine aal m4 MR (aC:=aC) (oF:=V) aup GI GX λev av G v w' qj pe dh u=> ?_
  .obtain⟨rfl,rfl⟩:=qj;exact fin ev _ w' (aY.dst pe g.dst (auI.rel dh)) u
def an_(C:E.dE){Q:Exit->Act->World->Prop}{z:O}(u:uX E ops ops.toList cS rs z)(j:Aa cS.k ops rs)(G: ∀b x,jq b=some x->b<cS.k.length)
  (T: ∀ι a w,aY S ι z a w->Q .normal a w): ∀(m:Nat) (c:Array Bool) (a:Act) (w:World),Inv S ops (ops.toList.zip rs) cS jq c a w->
  ((List.range ops.size).filter λi=> !c.getD i false).length=m->wpAny E.P .any ops Q m c a w:=by
 intro m
 induction m with
 |zero=>
  intro c a w f g;have t: ∀i,i<ops.size->c.getD i false=true:=λi d=>by
   cases e:c.getD i false with
   |true=>rfl
   |false=>
    have:i∈(List.range ops.size).filter λi=> !c.getD i false:=by exact II.2 ⟨uR.2 d,by simp only[e];rfl⟩
    rw[IP.1 g]at this
    cases this
  refine⟨?_,?_⟩
  .apply List.eq_nil_iff_forall_not_mem.2;intro i d;obtain⟨p,o,q,_⟩:=mem_ready.1 d;have l:i<ops.size:=(so.1 q).1;have:=t i l;rw[Mi (by rw[f.size];exact l) false true,p]at this
   cases this
  .obtain⟨ι,V,_⟩:=f.ajr;obtain⟨pc,r,_⟩:=u.at 0;refine T ι a w ?_;rw[r];rwa [aac (P4:=λ_=>true) _ _ _ (λi d=>by rw[db];exact t i (by simp at d;omega))]at V
 |succ m X=>
  intro c a w f g;refine⟨λU=> ?_,λi d=> ?_⟩
  .exfalso;have P:(List.range ops.size).filter (λi=> !c.getD i false)≠[]:=λe=>by rw[e]at g;simp at g
   have H: ∃i,i<ops.size/\c.getD i false=false:=by
    obtain⟨i,d⟩:=List.exists_mem_of_ne_nil _ P;simp at d;exact⟨i,d.1,by simp [d.2]⟩
   obtain⟨i,⟨v,I⟩,L⟩: ∃i,(i<ops.size/\c.getD i false=false)/\ ∀k,k<i-> ¬(k<ops.size/\c.getD k false=false):=by
    obtain⟨W,B⟩:=H
    induction W using Nat.strongRecOn with
    |_ n Y=>
     by_cases h: ∃k,k<n/\(k<ops.size/\c.getD k false=false)
     .obtain⟨k,p,q⟩:=h;exact Y k p q
     .exact⟨n,B,λk s K=>h ⟨k,s,K⟩⟩
   have aGm:=j;obtain⟨N,_,j⟩:=j;simp only[y6,b4]at j;have R:ops[i]? =some ops[i]:=qK v;have y:i∈Region.ready .any ops c:=mem_ready.2 ⟨by rw[Mi (by rw[f.size];exact v) true false];exact I,ops[i],R,λe r F=>by
    have:=aay ops.toList 0 j.1 i ops[i] (by simp) e r F;rw[db]at this;have M:=L e.on this
    cases g:c.getD e.on false with
    |true=>rfl
    |false=>exact absurd ⟨Ω,g⟩ M⟩
   rw[U]at y
   cases y
  .refine aDL C u j G f d λA w' D=>X _ A w' D ?_;obtain⟨p,o,q,_⟩:=mem_ready.1 d;have l:i<ops.size:=(so.1 q).1;have J:c.getD i false=false:=by rw[Mi (by rw[f.size];exact l) false true];exact p
   have:=apj ops.size (λi=> !c.getD i false) (λk=> !(c.setIfInBounds i true).getD k false) i l (by simp only[J];rfl) (by
    have:(c.setIfInBounds i true).getD i false=true:=by simp [f.size,l]
    simp only[this];rfl) (λk s=>by simp only[getD_set_ne false (λe=>s e.symm)])
   omega
def an7(c:E.dE){id:Nat}{Q:Exit->Act->World->Prop}{ι:Nat->Option Nat}{st:O}{a:Act}{w:World}{K:O->Prop}(h:aY S ι st a w)(n:aae E ops st K)
  (p: ∀ι st a w,aY S ι st a w->K st->Q .normal a w):(Code.region id ops true).wp E.P Q a w:=by
 obtain⟨rs,s,l,d,g⟩:=Q1 _ _ _ _ _ n;simp only[List.reverse_nil,qP]at d;refine wp_region_any c.mixed ?_;have r:aY S ι st a w.drew:=(h.world (w':=w.drew) ⟨rfl,rfl,rfl,bN _,λ_ _=>rfl⟩).1;refine an_ c l d h.gT (λι a w q=>p ι s a w q g) ops.size (Array.replicate ops.size false) a w.drew ⟨by simp,λj o t f=> ?_,ι,?_,λb k=> .inl k⟩ ?_
 .have:(Array.replicate ops.size false).getD j false=false:=by
   by_cases e:j<ops.size<;>simp [e]
  rw[this]at f;cases f
 .rw[DS _ _ _ (λi _=>by by_cases e:i<ops.size<;>simp [e])];exact r
 .have:((List.range ops.size).filter λi=> !(Array.replicate ops.size false).getD i false)=List.range ops.size:=by
   apply List.filter_eq_self.2;intro i m;have:=uR.1 m;simp [this]
  rw[this];simp
end
def ic(next:O->Prop)(Q:Exit->O->Prop):Exit->O->Prop
 | .normal,st=>next st
 | .exit id,st=>Q (.exit id) st
 | .ret,st=>Q .ret st
 |_,_=>False
def D5(id:Nat)(Q:Exit->O->Prop):Exit->O->Prop
 | .normal,st=>Q .normal st
 | .exit j,st=>if j=id then Q .normal st else Q (.exit j) st
 | .ret,st=>Q .ret st
 |_,_=>False
def cz(m:Nat)(st b:O):Prop:= ∀(S:eb),S.u0.length<=m-> ∀(ι:Nat->Option Nat) (a:Act) (w:World),aY S ι st a w-> ∃az,aY S az b a w
def cz.refl{m:Nat}(st:O):cz m st st:=λ_ _ ι _ _ h=>⟨ι,h⟩
def cz.trans{m:Nat}{a b c:O}(h:cz m a b)(k:cz m b c):cz m a c:=λS d ι x w f=>let⟨az,e⟩:=h S d ι x w f;k S d az x w e
def ahj(m:Nat){α:Type}(Q:Exit->O->Prop)(b:α->O)(a:α->Nat)(x:α):Exit->O->Prop
 | .normal,st=> ∃y,a y<a x/\cz m st (b y)
 | .exit id,st=>Q (.exit id) st
 | .ret,st=>Q .ret st
 |_,_=>False
def azJ(m:Nat)(b:(Exit->O->Prop)->O->Prop)(Q:Exit->O->Prop)(st:O):Prop:=
 ∃(α:Type) (a:α->O) (c:α->Nat) (A:α),cz m st (a A)/\ ∀x,b (ahj m Q a c x) (a x)
def mJ(E:Env):Code->(Exit->O->Prop)->O->Prop
 | .skip,Q,st=>Q .normal st
 | .region _ ops a,Q,st=>match a with
   |true=>aae E ops st (Q .normal)
   |false=>Ai E ops ops.toList 0 st (Q .normal)
 | .seq x y,Q,st=>mJ E x (ic (mJ E y Q) Q) st
 | .cond c x y,Q,st=>match aE st.D c with
   | .bool b=>(b=true->mJ E x Q st)/\(b=false->mJ E y Q st)
   | .lit b=>match b with
     |true=>mJ E x Q st
     |false=>mJ E y Q st
   |_=>False
 | .block id x,Q,st=>mJ E x (D5 id Q) st
 | .loop x,Q,st=>azJ E.m (mJ E x) Q st
 | .exit id,Q,st=>Q (.exit id) st
 | .ret,Q,st=>Q .ret st
 | .label _,Q,st=>Q .normal st
 |_,_,_=>False
section
variable {E:Env}
def Z_(S:eb)(Q:Exit->O->Prop)(e:Exit)(a:Act)(w:World):Prop:= ∃ι st,aY S ι st a w/\Q e st
def aok(J:E.dE){S:eb}(K:S.u0.length<=E.m): ∀(c:Code) (Q:Exit->O->Prop) (ι:Nat->Option Nat) (st:O) (a:Act) (w:World),aY S ι st a w->mJ E c Q st->c.wp E.P (Z_ S Q) a w:=by
 intro c
 induction c with
 |skip=>exact λQ ι st a w h d=>wp_skip ⟨ι,st,h,d⟩
 |region id ops P=>
  intro Q ι st a w h d
  cases P with
  |true=>exact an7 J h d λι st a w g B=>⟨ι,st,g,B⟩
  |false=>exact wp_region_list (Q4 J _ _ ι st a w _ h d λι st a w g B=>⟨ι,st,g,B⟩)
 |seq x y s t=>
  intro Q ι st a w h d;refine wp_seq (qI (s _ ι st a w h d) λe a w ⟨az,i,g,f⟩=> ?_)
  cases e<;>simp only[ic]at f<;>try exact f.elim
  .exact t Q az i a w g f
  .exact⟨az,i,g,f⟩
  .exact⟨az,i,g,f⟩
 |cond c x y s t=>
  intro Q ι st a w h d;have C:=h.eval c;simp only[mJ]at d
  cases e:aE st.D c<;>rw[e]at d C<;>simp only at d<;>try exact d.elim
  .rename_i b;refine wp_cond C.bool ?_
   cases b
   .exact t Q ι st a w h (d.2 rfl)
   .exact s Q ι st a w h (d.1 rfl)
  .rename_i b;refine wp_cond C.lit ?_
   cases b
   .exact t Q ι st a w h d
   .exact s Q ι st a w h d
 |block N x H=>
  intro Q ι st a w h d;refine wp_block (qI (H _ ι st a w h d) λe a w ⟨az,i,g,f⟩=> ?_)
  cases e<;>simp only[D5]at f<;>try exact f.elim
  .exact⟨az,i,g,f⟩
  .rename_i j _;simp only[Exit.inBlock]
   by_cases I:j=N
   .rw[a5 I]at f |-;exact⟨az,i,g,f⟩
   .rw[aS I]at f |-;exact⟨az,i,g,f⟩
  .exact⟨az,i,g,f⟩
 |loop x H=>
  intro Q ι st a w h d;obtain⟨α,M,u,A,D,V⟩:=d;obtain⟨jq,R⟩:=D S K ι a w h;let p:Act->World->Nat->Prop:=λa w n=> ∃y ι,u y=n/\aY S ι (M y) a w;let r:Act->World->Nat:=λa w=>Classical.epsilon λn=>p a w n/\ ∀m,m<n-> ¬p a w m;have L: ∀a w n,p a w n->p a w (r a w)/\ ∀m,m<r a w-> ¬p a w m:=λa w n F=>by
   have W: ∃n,p a w n/\ ∀m,m<n-> ¬p a w m:=by
    induction n using Nat.strongRecOn with
    |_ n Y=>
     by_cases h: ∃k,k<n/\p a w k
     .obtain⟨k,T,v⟩:=h;exact Y k T v
     .exact⟨n,F,λm X q=>h ⟨m,X,q⟩⟩
   exact Classical.epsilon_spec W
  refine wp_loop (λa w=> ∃n,p a w n) r ⟨_,A,jq,rfl,R⟩ λa w ⟨n,F⟩=> ?_;obtain⟨⟨y,lq,Z,g⟩,_⟩:=L a w n F;refine qI (H _ lq (M y) a w g (V y)) λe o w' ⟨az,i,G,f⟩=> ?_
  cases e<;>simp only[ahj]at f<;>try exact f.elim
  .obtain⟨z,hG,D⟩:=f;obtain⟨ev,v⟩:=D S K az o w' G;have q:p o w' (u z):=⟨z,ev,rfl,v⟩;refine⟨⟨_,q⟩,?_⟩;have U:=(L o w' _ q).2;have:r o w'<=u z:=by
    rcases fE (u z) (r o w')with h|h
    .exact absurd q (U _ h)
    .exact h
   omega
  .exact⟨az,i,G,f⟩
  .exact⟨az,i,G,f⟩
 |exit id=>exact λQ ι st a w h d=>wp_exit ⟨ι,st,h,d⟩
 |ret=>exact λQ ι st a w h d=>wp_ret ⟨ι,st,h,d⟩
 |label l=>exact λQ ι st a w h d=>wp_label ⟨ι,st,h,d⟩
 |_=>exact λQ ι st a w h d=>d.elim
def WP(E:Env)(c:Code)(Q:Exit->O->Prop)(st:O):Prop:= ∀(S:eb),S.u0.length<=E.m-> ∀(ι:Nat->Option Nat) (a:Act) (w:World),aY S ι st a w->c.wp E.P (Z_ S Q) a w
def WP.WX(b:E.dE){c:Code}{Q:Exit->O->Prop}{st:O}(h:mJ E c Q st):WP E c Q st:=λ_ d ι a w e=>aok b d c Q ι st a w e h
def WP.mono{c:Code}{Q R:Exit->O->Prop}{st:O}(h:WP E c R st)(i: ∀e s,R e s->Q e s):WP E c Q st:=λS g ι a w j=>qI (h S g ι a w j) λe _ _ ⟨az,b,d,f⟩=>⟨az,b,d,i e b f⟩
def WP.le{c:Code}{Q:Exit->O->Prop}{st d:O}(f:cz E.m st d)(h:WP E c Q d):WP E c Q st:=λS b ι a w g=>let⟨az,e⟩:=f S b ι a w g;h S b az a w e
def WP.seq{x y:Code}{Q:Exit->O->Prop}{st:O}(h:WP E x (ic (WP E y Q) Q) st):WP E (.seq x y) Q st:=λS d ι a w c=>by
 refine wp_seq (qI (h S d ι a w c) λe a w ⟨az,f,c,b⟩=> ?_)
 cases e<;>simp only[ic]at b<;>try exact b.elim
 .exact b S d az a w c
 .exact⟨az,f,c,b⟩
 .exact⟨az,f,c,b⟩
def WP.cut{x y:Code}{Q:Exit->O->Prop}{st:O}(b:O)(h:WP E x (ic (λs=>cz E.m s b) Q) st)(k:WP E y Q b):WP E (.seq x y) Q st:=
 WP.seq (h.mono λe s a=>by cases e<;>simp only[ic]at a |- <;>first|exact WP.le a k|exact a)
def WP.cond{c:Operand}{x y:Code}{Q:Exit->O->Prop}{st:O}{b:Bool}(f:aE st.D c= .bool b)(g:b=true->WP E x Q st)(i:b=false->WP E y Q st):WP E (.cond c x y) Q st:=λS e ι a w d=>by
 have h:=d.eval c;rw[f]at h;refine wp_cond h.bool ?_
 cases b
 .exact i rfl S e ι a w d
 .exact g rfl S e ι a w d
def WP.block{id:Nat}{x:Code}{Q:Exit->O->Prop}{st:O}(h:WP E x (D5 id Q) st):WP E (.block id x) Q st:=λS g ι a w c=>by
 refine wp_block (qI (h S g ι a w c) λe a w ⟨az,d,c,b⟩=> ?_)
 cases e<;>simp only[D5]at b<;>try exact b.elim
 .exact⟨az,d,c,b⟩
 .rename_i j _;simp only[Exit.inBlock]
  by_cases f:j=id
  .rw[a5 f]at b |-;exact⟨az,d,c,b⟩
  .rw[aS f]at b |-;exact⟨az,d,c,b⟩
 .exact⟨az,d,c,b⟩
def WP.skip{Q:Exit->O->Prop}{st:O}(h:Q .normal st):WP E .skip Q st:=λ_ _ ι _ _ a=>wp_skip ⟨ι,st,a,h⟩
def WP.ret{Q:Exit->O->Prop}{st:O}(h:Q .ret st):WP E .ret Q st:=λ_ _ ι _ _ a=>wp_ret ⟨ι,st,a,h⟩
def WP.exit{id:Nat}{Q:Exit->O->Prop}{st:O}(h:Q (.exit id) st):WP E (.exit id) Q st:=λ_ _ ι _ _ a=>wp_exit ⟨ι,st,a,h⟩
def WP.label{l:_}{Q:Exit->O->Prop}{st:O}(h:Q .normal st):WP E (.label l) Q st:=λ_ _ ι _ _ a=>wp_label ⟨ι,st,a,h⟩
def Wn(m:Nat){α:Type}(Q:Exit->O->Prop)(b:α->O)(I:α->Prop)(a:α->Nat)(x:α):Exit->O->Prop
 | .normal,st=> ∃y,I y/\a y<a x/\cz m st (b y)
 | .exit id,st=>Q (.exit id) st
 | .ret,st=>Q .ret st
 |_,_=>False
def WP.zF(E:Env)(x:Code)(Q:Exit->O->Prop):Nat->O->Prop
 |0,_=>False
 |n+1,st=>WP E x (ic (WP.zF E x Q n) Q) st
def WP.rounds{x:Code}{Q:Exit->O->Prop}(n:Nat){st:O}(h:WP.zF E x Q n st):WP E (.loop x) Q st:=by
 intro S g ι a w i;refine wp_loop_rounds n ?_
 induction n generalizing st ι a w with
 |zero=>exact h.elim
 |succ n j=>
  refine qI (h S g ι a w i) λe f w' ⟨az,d,c,b⟩=> ?_
  cases e<;>simp only[ic]at b<;>try exact b.elim
  .exact j b az f w' c
  .exact⟨az,d,c,b⟩
  .exact⟨az,d,c,b⟩
def WP.loop{α:Type}{x:Code}{Q:Exit->O->Prop}{st:O}(i:α->O)(I:α->Prop)(g:α->Nat)(A:α)(B:I A)(o:cz E.m st (i A))(h: ∀t,I t->WP E x (Wn E.m Q i I g t) (i t)):WP E (.loop x) Q st:=by
 intro S l ι a w r;obtain⟨jq,C⟩:=o S l ι a w r;let p:Act->World->Nat->Prop:=λa w n=> ∃y ι,I y/\g y=n/\aY S ι (i y) a w;let f:Act->World->Nat:=λa w=>Classical.epsilon λn=>p a w n/\ ∀m,m<n-> ¬p a w m;have u: ∀a w n,p a w n->p a w (f a w)/\ ∀m,m<f a w-> ¬p a w m:=λa w n q=>by
  have H: ∃n,p a w n/\ ∀m,m<n-> ¬p a w m:=by
   induction n using Nat.strongRecOn with
   |_ n L=>
    by_cases h: ∃k,k<n/\p a w k
    .obtain⟨k,D,j⟩:=h;exact L k D j
    .exact⟨n,q,λm J c=>h ⟨m,J,c⟩⟩
  exact Classical.epsilon_spec H
 refine wp_loop (λa w=> ∃n,p a w n) f ⟨_,A,jq,B,rfl,C⟩ λa w ⟨n,q⟩=> ?_;obtain⟨⟨y,lq,G,M,r⟩,_⟩:=u a w n q;refine qI (h y G S l lq a w r) λe b w' ⟨az,v,s,d⟩=> ?_
 cases e<;>simp only[Wn]at d<;>try exact d.elim
 .obtain⟨z,K,N,o⟩:=d;obtain⟨ev,j⟩:=o S l az b w' s;have c:p b w' (g z):=⟨z,ev,K,rfl,j⟩;refine⟨⟨_,c⟩,?_⟩;have F:=(u b w' _ c).2;have:f b w'<=g z:=by
   rcases fE (g z) (f b w')with h|h
   .exact absurd c (F _ h)
   .exact h
  omega
 .exact⟨az,v,s,d⟩
 .exact⟨az,v,s,d⟩
end
def Oo(E:Env)(st:O)(r:ResultVar)(K:J->Prop):Prop:=
 match r with
 | .tmp t=>kR st.k (st.D.getD t .undef) K
 | .cell t T=>dM E T λa=>oq a st.k (st.D.getD t .undef) λav=>kR st.k av K
def zD(E:Env)(st:O):List ResultVar->(List J->Prop)->Prop
 |[],K=>K []
 |x::r,K=>Oo E st x λy=>zD E st r λa=>K (y::a)
def pr:List J->J
 |[x]=>x
 |a=> .dp a
def hg:J->J->Prop
 | .arr b n f,.arr c a g=>b=c/\n=a/\ ∀i,i<n->f i=g i
 | .aG,.arr _ a _=>a=0
 |x,y=>x=y
def kd:J->J->Prop
 | .agg cs,.agg a=>a6 hg cs a
 |x,y=>hg x y
def wM:J->J->Prop
 | .dp aa,.dp a=>a6 kd aa a
 |x,y=>kd x y
def CX(H:Heap)(e n:Nat)(f:Nat->List J)(x:J):Prop:=
 match x with
 | .own b k=>match I H b 0 with
   | .ad d g a c=>de (!d&&Nat.beq g e) (k=a/\a=n/\ ∀i,i<n->c i=f i)
   |_=>False
 | .aG=>n=0
 |_=>False
def C_(E:Env)(st:O)(rs:List ResultVar)(a n:Nat)(f:Nat->List J):Prop:=
 match rs with
 |[x]=>match x with
  | .tmp t=>CX st.k a n f (st.D.getD t .undef)
  | .cell t T=>dM E T λb=>oq b st.k (st.D.getD t .undef) λav=>CX st.k a n f av
 |_=>False
def aC1(E:Env)(rs:List ResultVar)(r:J)(st:O):Prop:=
 match r with
 | .ad _ a n f=>C_ E st rs a n f
 |r=>zD E st rs λb=>wM (pr b) r
def aC0(E:Env)(rs:List ResultVar)(r:J)(e:Exit)(st:O):Prop:=
 (match e with
  | .normal=>True
  | .ret=>True
  |_=>False)/\aC1 E rs r st
section
variable {E:Env} {S:eb} {ι:Nat->Option Nat} {st:O} {a:Act} {w:World}
def hg.rel{F:Nat->Prop}{x y:J}{v:Value}(h:hg x y)(k:a1 w F x v):a1 w F y v:=by
 cases k with
 |arr d n f b o c g q G t r e l m=>
  cases y<;>simp only[hg]at h<;>try (cases h;done)
  obtain⟨rfl,rfl,h⟩:=h;exact .arr d n _ b o c g q G t r (λi j z D=>by rw[<-h i z];exact e i j z D) l m
 |nil d f=>
  cases y<;>simp only[hg]at h<;>try (cases h;done)
  obtain⟨rfl,rfl,h⟩:=h;exact .nil d _
 |mt d f a c=>
  cases y<;>simp only[hg]at h<;>try (cases h;done)
  obtain⟨rfl,rfl,h⟩:=h;exact .mt d _ a c
 |aG=>
  cases y<;>simp only[hg]at h<;>first|(cases h;done)|(subst h;exact .nil _ _)|exact .aG
 |int k n=>simp only[hg]at h;subst h;exact .int k n
 |bool b=>simp only[hg]at h;subst h;exact .bool b
 |jJ=>simp only[hg]at h;subst h;exact .jJ
 |ke d n f p c B C=>simp only[hg]at h;subst h;exact .ke d n f p c B C
 |lit b=>simp only[hg]at h;subst h;exact .lit b
 |str s t=>simp only[hg]at h;subst h;exact .str s t
 |ref cs b o g q r e l m=>simp only[hg]at h;subst h;exact .ref cs b o g q r e l m
 |fn f A q g u E e l m=>simp only[hg]at h;subst h;exact .fn f A q g u E e l m
def kd.rel{F:Nat->Prop}{x y:J}{v:Value}(h:kd x y)(k:fK w F x v):fK w F y v:=by
 cases x
 case agg cs=>
  cases y<;>simp only[kd,hg]at h<;>try (cases h;done)
  obtain⟨g,rfl,k⟩:=k;refine⟨g,rfl,a6.mk (h.length.symm.trans k.length) λi p q a d=> ?_⟩;obtain⟨j,b,e⟩:=k.get i _ (cM (by rw[h.length];exact(il.1 a).1));rw[d]at b;cases b;obtain⟨l,c,f⟩:=h.get i _ (cM (by rw[h.length];exact(il.1 a).1));rw[a]at c;cases c;exact f.rel e
 case undef=>exact k.elim
 all_goals
  simp only[fK]at k
  cases y<;>first|(simp [kd,hg]at h;done)|(simp only[fK];exact(λhh=>hg.rel hh k) h)
def wM.rel{F:Nat->Prop}{x y:J}{v:Value}(h:wM x y)(k:kb w F x v):kb w F y v:=by
 cases x
 case dp aa=>
  cases y<;>simp only[wM,kd,hg]at h<;>try (cases h;done)
  obtain⟨g,rfl,k⟩:=k;refine⟨g,rfl,a6.mk (h.length.symm.trans k.length) λi p q a d=> ?_⟩;obtain⟨j,b,e⟩:=k.get i _ (cM (by rw[h.length];exact(il.1 a).1));rw[d]at b;cases b;obtain⟨l,c,f⟩:=h.get i _ (cM (by rw[h.length];exact(il.1 a).1));rw[a]at c;cases c;exact f.rel e
 all_goals
  simp only[kb]at k
  cases y<;>first|(simp [wM,kd,hg]at h;done)|(simp only[kb];exact(λhh=>kd.rel hh k) h)
def qB(P:Program)(w:World)(b:Array Value)(r:ResultVar)(v:Value):Prop:=
 (match r with
  | .tmp t=>(pure (b.getD t undef):Sem Value)
  | .cell a t=>(do loadVar t (<-asAddr (b.getD a undef)))).run P w= .ok v w
def aCZ(k:E.dE)(h:aY S ι st a w){r:ResultVar}{K:J->Prop}(b:Oo E st r K): ∃y v,K y/\fK w (lu S w) y v/\qB E.P w a.tmps r v:=by
 cases r with
 |tmp t=>
  obtain⟨y,c,d⟩:=R6 h (h.eval (.tmp t)) b;exact⟨y,_,c,d,rfl⟩
 |cell t T=>
  obtain⟨m,l,_,b⟩:=j6 k b;obtain⟨p,av,u,c,d,f,g⟩:=NB l h (h.eval (.tmp t)) b;obtain⟨y,i,j⟩:=R6 h f d;refine⟨y,u,i,j,?_⟩;have e:a.tmps.getD t undef= .pointer (some p):=c;simp only[qB];rw[Sem.run_bind,e];simp [asAddr,g]
def aiR(e:E.dE)(h:aY S ι st a w): ∀(rs:List ResultVar) (K:List J->Prop),zD E st rs K-> ∃d c,K d/\a6 (fK w (lu S w)) d c/\a6 (qB E.P w a.tmps) rs c
 |[],K,b=>⟨[],[],b,trivial,trivial⟩
 |r::rs,K,b=>by
  obtain⟨y,v,b,f,g⟩:=aCZ e h b;obtain⟨d,c,b,i,j⟩:=aiR e h rs _ b;exact⟨y::d,v::c,b,⟨f,i⟩,g,j⟩
def Yl{P:Program}{fn:Func}{tmps:Array Value}{cI:List Value}(h:a6 (qB P w tmps) fn.results.toList cI):
  (results fn tmps).run P w= .ok (if h:cI.toArray.size=1 then cI.toArray[0]else .tuple cI.toArray) w:=by
 have e: ∀(rs:List ResultVar) (cI:List Value),a6 (qB P w tmps) rs cI->Sem.run P (rs.mapM λ(r:ResultVar)=>match r with
  | .tmp t=>(pure (tmps.getD t undef):Sem Value)
  | .cell a t=>(do loadVar t (<-asAddr (tmps.getD a undef)))) w=Result.ok cI w:=by
  intro rs
  induction rs with
  |nil=>intro cI h;cases cI;simp;exact h.elim
  |cons r rs d=>
   intro cI h
   cases cI with
   |nil=>exact h.elim
   |cons v cI=>
    have b:=h.1;have c:=d cI h.2;unfold qB at b;simp only[List.mapM_cons];rw[Sem.run_bind]
    cases r<;>simp only at b<;>rw[b]<;>simp only[Result.andThen]<;>rw[Sem.run_bind,c]<;>rfl
 unfold results;rw[Array.mapM_eq_mapM_toList];rw[Sem.run_bind];have:=e fn.results.toList cI h;simp only[Functor.map];rw[Sem.run_bind']
 erw [this]
 rfl
def aib(h:aY S ι st a w){F:Nat}(V: ∀b x,ι b=some x->F<=x){Y:Bool}{G n:Nat}{f:Nat->List J}{x:J}{v:Value}(D:bz S ι st.k w x v)(d:CX st.k G n f x):q0 F w (lu S w) (.ad Y G n f) v:=by
 cases x<;>simp only[CX]at d<;>try exact d.elim
 .subst d;have X:a1 w (aT S ι st.k w) .aG v:=D
  cases X
  exact .inl ⟨rfl,rfl⟩
 .rename_i b k
  cases e:I st.k b 0<;>rw[e]at d<;>simp only at d
  rename_i ow kG n' fW;obtain⟨t,rfl,rfl,T⟩:=aF.1 d;simp only[b4,jn]at t;obtain⟨rfl,m⟩:=t;have m:=eg m;subst m;obtain⟨_,aC5,aDW,NR,f2,p,_,N⟩:=(show eE S ι st.k w (.own b k) v from D);rw[e]at p;cases p;rcases N rfl with⟨q,c,C,H,g,o,W,r,O⟩|⟨rfl,_,o⟩
  .have l:=h.k b 0;rw[e]at l;obtain⟨_,z|⟨P,l|⟨Ia,Z,w7,B,s,Q⟩⟩⟩:=l
   .rw[g]at z;cases z.2.2
   .rw[g]at l;cases l.2
   .rw[g]at B;cases B;rw[r]at s;cases s;refine .inr ⟨q,c,C,H,V b q g,(h.fresh b q g).2,o,W,P,r,O,λi j A U=> ?_⟩;obtain⟨av,u,K,L,M⟩:=Q i j A U;refine⟨av,u,by rw[<-T i A];exact K,L,M.mono (λy E=>⟨P1 E,λR=> ?_⟩) λ_ _ _=>rfl⟩;exact E.2.2 b (.inl ⟨by rw[e];rfl,by rw[e];rfl⟩) (by rw[R];exact g)
  .exact .inl ⟨rfl,o⟩
def aCX(o:E.dE)(h:aY S ι st a w){wC:Nat}(oc:S.kI.heap.size<=w.heap.size)(e: ∀b x,ι b=some x->wC<=x){rs:List ResultVar}{r:Bool}{g n:Nat}{f:Nat->List J}(c:C_ E st rs g n f):
  ∃d v,rs=[d]/\qB E.P w a.tmps d v/\q0 wC w (lu S w) (.ad r g n f) v:=by
 unfold C_ at c
 split at c
 .rename_i d
  cases d with
  |tmp t=>exact⟨_,_,rfl,rfl,aib h e (h.eval (.tmp t)) c⟩
  |cell t T=>
   obtain⟨s,q,_,c⟩:=j6 o c;obtain⟨p,av,u,i,k,l,m⟩:=NB q h (h.eval (.tmp t)) c;refine⟨_,u,rfl,?_,aib h e l k⟩;have j:a.tmps.getD t undef= .pointer (some p):=i;simp only[qB];rw[Sem.run_bind,j];simp [asAddr,m]
 .exact c.elim
def wG(H:E.dE){f:FuncId}{fn:Func}{c:Code}(Q:E.P.funcs[f]? =some fn)(A:fn.body=some c)(aa:List J)(r:J)
  (T:WP E c (aC0 E fn.results.toList r) ⟨aa++List.replicate (fn.ntmps-aa.length) .undef,[]⟩):fo E.P f aa r:=by
 intro w F q l K;let S:eb:=⟨F,w,l.lt,λ_=>False,λ_ h=>h.elim,λ_=>none,[],F,λ_ _ h=>(by cases h),l.v7⟩;have Z:=K.length;have W:aY S (λ_=>none) ⟨aa++List.replicate (fn.ntmps-aa.length) .undef,[]⟩ {tmps:=q.toArray++Array.replicate (fn.ntmps-q.toArray.size) undef,defers:=[]} w:=by
  refine⟨iM.refl _ _ _,rfl,λt av i=> ?_,λb o=> ?_,λ_ _ _ h=>(by cases h),λ_ _ h=>(by cases h),λ_ _ h=>(by cases h),⟨λx h=>⟨.inl h,l.lt x h,λb A=>(by simp)⟩,λ_ _ _=>rfl,λ_ _ h=>(by cases h),λb L M n f h=>(by simp [S,I]at h)⟩⟩
  .rcases fE t aa.length with h|h
   .rw[uO h]at i;obtain⟨v,g,z⟩:=K.get t av i;refine⟨v,?_,eF.zu (gw.N3 (z.mono (λx j=>⟨.inl j,l.lt x j,λb A=>(by simp)⟩) λ_ _ _=>rfl))⟩;rw[qJ (by simp;omega)];simpa using g
   .rw[zW h]at i;have X:t-aa.length<fn.ntmps-aa.length:=by
     rcases fE (t-aa.length) (fn.ntmps-aa.length)with s|s
     .exact s
     .rw[eX (by simpa using s)]at i;cases i
    rw[Za,a5 X]at i
    cases i
    exact⟨undef,by rw[Array.getElem?_append_right (by simp;omega),Array.getElem?_replicate,a5 (by simp;omega)],trivial⟩
  .simp [I,e9]
 refine calls_of_wp Q A (qI (T S (cp _) _ _ w W) λe a w' ⟨ι,st,d,V⟩=> ?_);obtain⟨m,p⟩:=V
 by_cases B:cr r=true
 .obtain⟨L,M,n,f,rfl⟩:=M4 B;obtain⟨aG1,v,N,O,bk⟩:=aCX H d (oc:=d.below.size) (wC:=w.heap.size) (λb x j=>(d.fresh b x j).1.resolve_right λh=>h) p;have C:=Yl (w:=w') (fn:=fn) (tmps:=a.tmps) (cI:=[v]) (by rw[N];exact⟨O,trivial⟩);have D: ∃v,(results fn a.tmps).run E.P w'= .ok v w'/\ ∃k,Ending.returned v= .returned k/\q0 w.heap.size w' (λx=>F x\/(w.heap.size<=x/\x<w'.heap.size)) (.ad L M n f) k/\Below w.heap.size w w':=
   ⟨_,C,_,rfl,bk,d.below.plain λ_ h=>h⟩
  cases e<;>simp only at m<;>first|exact⟨d.defers,D⟩|exact m.elim
 have p:zD E st fn.results.toList λq=>wM (pr q) r:=by cases r<;>first|exact p|(exact absurd rfl B)
 obtain⟨G,us,U,g,z⟩:=aiR H d _ _ p;have C:=Yl z;have P: ∀x,lu S w' x->(F x\/(w.heap.size<=x/\x<w'.heap.size)):=λx j=>j;have Y:kb w' (lu S w') (pr G) (if h:us.toArray.size=1 then us.toArray[0]else .tuple us.toArray):=by
  match G,us,g with
  |[],[],_=>exact⟨[],rfl,trivial⟩
  |[y],[u],g=>
   have:=g.1;simp only[pr]
   cases y<;>first|exact this|exact False.elim this|(cases this)
  |y::wS::G,u::ajO::us,g=>
   rw[dif_neg (by simp)];exact⟨_,rfl,g⟩
 have R:=U.rel Y;have D: ∃v,(results fn a.tmps).run E.P w'= .ok v w'/\ ∃k,Ending.returned v= .returned k/\q0 w.heap.size w' (λx=>F x\/(w.heap.size<=x/\x<w'.heap.size)) r k/\Below w.heap.size w w':=
  ⟨_,C,_,rfl,by have:=R.mono P (λ_ _ _=>rfl);cases r<;>first|exact this|(exact absurd rfl B),d.below.plain λ_ h=>h⟩
 cases e<;>simp only at m<;>first|exact⟨d.defers,D⟩|exact m.elim
end
def Dv:J->Value->Bool
 | .int k n,.int a c=>decide (k=a)&&n==c
 | .bool b,.bool b'=>b==b'
 | .str s,.string d=>s.data.toList==d.data.toList&&s.size==0
 | .aG,.slice none 0 0=>true
 | .jJ,.pointer none=>true
 | .undef,.pointer _=>true
 | .undef,.func _ _ _=>true
 | .undef,.nilFunc=>true
 | .undef,.nilIface=>true
 |_,_=>false
def OT:List J->List Value->Bool
 |[],[]=>true
 |a::aa,v::b=>Dv a v&&OT aa b
 |_,_=>false
def N_:List (Nat×Nat)->List Field->Program->Bool
 |[],[],_=>true
 |(o,s)::r,f::a,P=>(f.offset==o&&s !=0&&(match P.info? f.type with|some i=>i.size==s|none=>false))&&N_ r a P
 |_,_,_=>false
def Jz(P:Program)(t:bS)(d:TypeDesc):Bool:=
 match t.d,d with
 | .bool,.bool=>t.size==1
 | .string,.string=>t.size==1
 | .int k,.int g=>decide (k=g)&&t.size==1
 | .slice e b c,.slice a=>e==a&&t.size==1&&(match P.info? e with|some i=>i.size==b&&i.bytes==c&&(match i.zero with|some z=>z.cells.size==i.size|none=>false)|none=>false)
 | .pointer e,.pointer a=>e==a&&t.size==1
 | .struct j,.struct f=>N_ j f.toList P
 | .array n e b,.array h a=>n==h&&e==a&&(match P.info? e with|some i=>i.size==b|none=>false)
 | .other,.func .. =>t.size==1
 |_,_=>false
def Dj(P:Program)(T:TypeId)(t:bS):Bool:=
 match P.info? T,P.underlying T with
 |some i,some d=>i.size==t.size&&(match i.zero with|some z=>z.cells.size==t.size&&OT t.zero z.cells.toList|none=>false)&&Jz P t d
 |_,_=>false
def aE_{a:J}{v:Value}(h:Dv a v=true):ly a v:=by
 cases a
 case str s=>
  cases v<;>simp only[Dv]at h<;>try (cases h;done)
  rename_i c;simp only[b4,iK]at h;obtain⟨b,d⟩:=h;have:s=c:=by
   cases s;cases c
   simp only at b
   congr 1
   exact py b
  subst this;exact⟨rfl,d⟩
 case jJ=>
  cases v
  case pointer p=>cases p<;>simp_all [Dv,ly]
  all_goals cases h
 case aG=>
  cases v
  case slice a n m=>cases a<;>cases n<;>cases m<;>simp_all [Dv,ly]
  all_goals cases h
 all_goals
  cases v<;>simp [Dv]at h<;>simp only[ly]<;>first|rfl|(obtain⟨rfl,rfl⟩:=h;rfl)|(subst h;rfl)|skip
def aki: ∀{aa:List J} {b:List Value},OT aa b=true->a6 ly aa b
 |[],[],_=>trivial
 |a::aa,v::b,h=>by
  simp only[OT,b4]at h;exact⟨aE_ h.1,aki h.2⟩
 |[],_::_,h=>by cases h
 |_::_,[],h=>by cases h
def air{P:Program} : ∀{j:List (Nat×Nat)} {c:List Field},N_ j c P=true->
  c.mapM (λf=>(P.info? f.type).map λi=>(f.offset,i.size))=some j/\ ∀(k b a:Nat),j[k]? =some (b,a)-> ∃f:Field,c[k]? =some f/\f.offset=b/\ ∃i,P.info? f.type=some i/\i.size=a/\a≠0
 |[],[],_=>⟨rfl,λk b a h=>by simp at h⟩
 |(o,s)::r,f::c,h=>by
  simp only[N_,b4]at h;obtain⟨⟨⟨n,p⟩,d⟩,q⟩:=h;obtain⟨t,u⟩:=air q
  cases e:P.info? f.type with
  |none=>rw[e]at d;cases d
  |some i=>
   rw[e]at d;have l:f.offset=o:=by simpa using n
   have m:s≠0:=by simpa using p
   have bk:i.size=s:=by simpa using d
   refine⟨by simp [List.mapM_cons,e,t,l,bk],λk b a g=> ?_⟩
   cases k with
   |zero=>simp at g;obtain⟨rfl,rfl⟩:=g;exact⟨f,rfl,l,i,e,bk,m⟩
   |succ k=>exact u k b a (by simpa using g)
 |[],_::_,h=>by cases h
 |_::_,[],h=>by cases h
def aEk{P:Program}{T:TypeId}{t:bS}(h:Dj P T t=true)(A:t.cmp=true->IZ P T t.zero):gS P T t:=by
 unfold Dj at h
 cases q:P.info? T with
 |none=>rw[q]at h;cases h
 |some i=>
  cases c:P.underlying T with
  |none=>rw[q,c]at h;cases h
  |some d=>
   rw[q,c]at h;simp only[b4]at h;obtain⟨⟨x,g⟩,a⟩:=h
   cases m:i.zero with
   |none=>rw[m]at g;cases g
   |some z=>
    rw[m]at g;simp only[b4]at g;refine⟨⟨i,z,q,by simpa using x,m,by simpa using g.1,aki g.2⟩,⟨d,c,λe=> ?_,λe=> ?_⟩,?_,A⟩
    .unfold Jz at a
     cases o:t.d<;>rw[o]at e a<;>first|(cases e;done)|skip
     all_goals (cases d<;>simp only at a<;>first|(cases a;done)|rfl)
    .unfold Jz at a
     cases o:t.d<;>rw[o]at e a<;>first|(cases e;done)|skip
     all_goals
      cases d<;>simp only at a<;>first|(cases a;done)|(simp only[b4,iK,j7]at a;simp_all)
    .unfold Jz at a
     cases o:t.d<;>rw[o]at a<;>simp only
     all_goals
      cases d<;>simp only at a<;>first|(cases a;done)|trivial|skip
     .simp only[b4,j7]at a;rw[a.1];exact c
     .rename_i e u E s;simp only[b4,iK]at a;obtain⟨⟨rfl,_⟩,b⟩:=a
      cases p:P.info? e with
      |none=>rw[p]at b;cases b
      |some j=>
       rw[p]at b;simp only[b4,iK]at b;obtain⟨b,l⟩:=b
       cases r:j.zero with
       |none=>rw[r]at l;cases l
       |some G=>
        rw[r]at l;exact⟨c,j,rfl,b.1,b.2,by rw[r];rfl,λz m=>by rw[r]at m;cases m;simpa using l⟩
     .simp only[b4,iK]at a;rw[a.1];exact c
     .obtain⟨l,y⟩:=air a;exact⟨_,c,l,λk C D B=>by obtain⟨f,v,w⟩:=y k C D B;exact⟨f,by simpa using v,w⟩⟩
     .rename_i n e u F s;simp only[b4,iK]at a;obtain⟨⟨rfl,rfl⟩,b⟩:=a;refine⟨c,?_⟩
      cases p:P.info? e with
      |none=>rw[p]at b;cases b
      |some j=>
       rw[p]at b;exact⟨j,rfl,by simpa using b⟩
def zP(hW:List (Nat×bS))(T:TypeId):Option bS:=
 match hW with
 |[]=>none
 |(a,t)::r=>if T==a then some t else zP r T
def ajN{hW:List (Nat×bS)}{T:TypeId}{t:bS}(h:zP hW T=some t):(T,t)∈hW:=by
 induction hW with
 |nil=>cases h
 |cons x r b=>
  obtain⟨a,t'⟩:=x;simp only[zP]at h
  split at h
  .rename_i e;have:T=a:=by simpa using e
   cases h;rw[this];simp
  .exact List.mem_cons_of_mem _ (b h)
abbrev Spec:=FuncId->List J->Option (Option Prop×J)
def Spec.dE(P:Program)(s:Spec):Prop:= ∀f a pre r,s f a=some (pre,r)->l1 P f/\(ou pre True->fo P f a r)
abbrev w3:=FuncId->List J->Heap->Option (Option Prop×List J×Heap)
def w3.dE(P:Program)(s:w3):Prop:= ∀f a H b rs H',s f a H=some (b,rs,H')->l1 P f/\(ou b True->fL P f a H rs H')
def aqc{P:Program}{hW:List (Nat×bS)}{s:Spec}{m:Nat}{a:w3}{e:FuncId->Bool}(d:P.follows .mixedOrders=true)(h:(hW.all λx=>Dj P x.1 x.2)=true)(c: ∀x∈hW,x.2.cmp=true->IZ P x.1 x.2.zero)(e5:s.dE P)(hl:a.dE P):Env.dE ⟨P,zP hW,s,m,a,e⟩:=
 ⟨λT t b=>aEk (dK.1 h (T,t) (ajN b)) (c (T,t) (ajN b)),d,e5,hl⟩
def m9:TypeDesc->Bool
 | .struct _=>true
 | .array _ _=>true
 |_=>false
def r9(b:Bool)(a:List Value):Value:=if b then .agg a.toArray else a.headD undef
def Ee(P:Program)(c:TypeId->List J->Bool):List Field->Nat->List J->Bool
 |[],_,a=>a.isEmpty
 |f::d,b,a=>(f.name != "_")&&f.offset==b&&(match P.info? f.type,P.underlying f.type with
  |some i,some _=>decide (0<i.size)&&decide (i.size<=a.length)&&c f.type (a.take i.size)&&Ee P c d (b+i.size) (a.drop i.size)
  |_,_=>false)
def sN(P:Program):Nat->TypeId->List J->Bool
 |0,_,_=>false
 |n+1,T,a=>match P.underlying T with
  |some (.int k)=>match a with
   |[.int c _]=>decide (k=c)
   |_=>false
  |some .bool=>match a with
   |[.bool _]=>true
   |_=>false
  |some .string=>match a with
   |[.str _]=>true
   |_=>false
  |some (.struct b)=> !P.stoodInHeld T&&Ee P (sN P n) b.toList 0 a
  |_=>false
def xt: ∀{a cs:List J},hN a cs=true->a.length=cs.length
 |[],[],_=>rfl
 |_::_,_::_,h=>by simp only[hN,b4]at h;simp [xt h.2]
 |[],_::_,h=>by cases h
 |_::_,[],h=>by cases h
def RV(n:Nat): ∀{a cs:List J},hN a cs=true->hN (a.take n) (cs.take n)=true/\hN (a.drop n) (cs.drop n)=true
 |[],[],h=>by simp [hN]
 |z::a,c::cs,h=>by
  simp only[hN,b4]at h
  cases n with
  |zero=>simp [hN,h]
  |succ n=>
   have:=RV n h.2;simp [hN,h.1,this]
 |[],_::_,h=>by cases h
 |_::_,[],h=>by cases h
def abI(n:Nat): ∀(cs a:List J),cs.length=a.length->jy cs a=(jy (cs.take n) (a.take n)&&jy (cs.drop n) (a.drop n))
 |[],[],_=>by simp [jy]
 |c::cs,d::a,h=>by
  cases n with
  |zero=>simp [jy]
  |succ n=>simp [jy,abI n cs a (by simpa using h),Bool.and_assoc]
 |[],_::_,h=>by simp at h
 |_::_,[],h=>by simp at h
def a6.drop{α β:Type}{R:α->β->Prop} : ∀{aa:List α} {a:List β} (n:Nat),a6 R aa a->a6 R (aa.drop n) (a.drop n)
 |[],[],n,_=>by simp [a6]
 |_::_,_::_,0,h=>h
 |_::_,_::_,n+1,h=>a6.drop n h.2
 |[],_::_,_,h=>h.elim
 |_::_,[],_,h=>h.elim
section
variable {P:Program} {w:World}
def ai7{T:TypeId}{i:TypeInfo}{d:TypeDesc}(j:P.info? T=some i)(g:P.underlying T=some d)(c:m9 d=false->i.size=1)(b:List Value)(a:Nat)(k:a+i.size<=b.length):
  (part T b.toArray a).run P w= .ok (r9 (m9 d) ((b.drop a).take i.size)) w:=by
 cases e:m9 d with
 |true=>
  have:(isAgg T).run P w= .ok true w:=by cases d<;>simp [m9]at e<;>simp [isAgg,fr g]
  simp only[part,Sem.run_bind,this,Result.andThen_ok,lp,sizeOf,typeInfo,r9];simp [j]
 |false=>
  have:(isAgg T).run P w= .ok false w:=by cases d<;>simp [m9]at e<;>simp [isAgg,fr g]
  have c:=c e;have f:a<b.length:=by omega
  simp only[part,Sem.run_bind,this,Result.andThen_ok,r9,c];have h:(b.drop a).take 1=[b[a]]:=by rw[qR f];rfl
  simp [h,f]
def Zr(P:Program)(n:Nat)(T:TypeId)(e:List J):Prop:=
 ∀(d:Nat) (cs a:List J) (c us:List Value) (w:World) (b:TypeDesc),n<=d->P.underlying T=some b->hN e cs=true->hN e a=true->a6 w5 cs c->a6 w5 a us->
  (Op.equalIn d T (r9 (m9 b) c) (r9 (m9 b) us)).run P w= .ok (jy cs a) w
def api{n:Nat}{T:TypeId}{b:List J}(h:sN P n T b=true){a:TypeDesc}(d:P.underlying T=some a)(c:m9 a=false):b.length=1:=by
 cases n with
 |zero=>cases h
 |succ n=>
  simp only[sN,d]at h
  cases a<;>simp only at h<;>first|(cases h;done)|(cases c;done)|skip
  all_goals
   split at h<;>first|rfl|cases h
def abJ{n:Nat}(v: ∀(T:TypeId) (a:List J),sN P n T a=true->Zr P n T a){d:Nat}(s:n<=d)(j us:List Value)(cs b:List J)(r:a6 w5 cs j)(q:a6 w5 b us)(C:cs.length=b.length):
  ∀(k:List Field) (off:Nat) (a:List J) (w:World),Ee P (sN P n) k off a=true->hN a (cs.drop off)=true->hN a (b.drop off)=true->
   (Op.eqFields d j.toArray us.toArray k).run P w= .ok (jy (cs.drop off) (b.drop off)) w
 |[],off,a,w,h,l,m=>by
  simp only[Ee]at h;have G:a=[]:=by simpa using h
  subst G;have A:=(xt l).symm;have B:=(xt m).symm;rw[IP.1 A,IP.1 B];simp [Op.eqFields,jy]
 |f::k,off,a,w,h,l,m=>by
  simp only[Ee,b4]at h;obtain⟨⟨o,p⟩,h⟩:=h;have p:f.offset=off:=by simpa using p
  have o:f.name≠ "_" :=by simpa using o
  cases g:P.info? f.type with
  |none=>rw[g]at h;simp at h
  |some i=>
   cases c:P.underlying f.type with
   |none=>rw[g,c]at h;simp at h
   |some z=>
    rw[g,c]at h;simp only[b4,j7]at h;obtain⟨⟨⟨M,N⟩,u⟩,F⟩:=h;have H:=xt l;have I:=xt m;have Q:=r.length;have O:=q.length;simp only[pB]at H I;have t:m9 z=false->i.size=1:=λe=>by
     have:=api u c e;simp only[iJ]at this;omega
    have K:=ai7 (w:=w) g c t j off Ω;have L:=ai7 (w:=w) g c t us off Ω;have x:=RV i.size l;have y:=RV i.size m;have D:=v f.type (a.take i.size) u d ((cs.drop off).take i.size) ((b.drop off).take i.size) ((j.drop off).take i.size) ((us.drop off).take i.size) w z s c x.1 y.1 (a6.take _ (a6.drop _ r)) (a6.take _ (a6.drop _ q));have E:=abJ v s j us cs b r q C k (off+i.size) (a.drop i.size) w F (by rw[<-wZ];exact x.2) (by rw[<-wZ];exact y.2);simp only[Op.eqFields,p];rw[a5 o,Sem.run_bind,K,Result.andThen_ok,Sem.run_bind,L,Result.andThen_ok,Sem.run_bind,D,Result.andThen_ok];rw[abI i.size (cs.drop off) (b.drop off) (by simp;omega),wZ,wZ]
    cases jy ((cs.drop off).take i.size) ((b.drop off).take i.size)with
    |false=>simp
    |true=>simp only[Bool.not_true,Bool.false_eq_true,np,Bool.true_and];exact E
def aa1: ∀(n:Nat) (T:TypeId) (j:List J),sN P n T j=true->Zr P n T j
 |0,_,_,h=>by cases h
 |n+1,T,j,h=>by
  intro d cs g i us w x y f a b e c;simp only[sN,f]at h;obtain⟨d,rfl⟩: ∃o,d=o+1:=⟨d-1,Ω⟩
  cases x<;>simp only at h<;>first|(cases h;done)|skip
  case bool=>
   split at h<;>first|(cases h;done)|skip
   match cs,g,i,us,a,b,e,c with
   |[.bool p],[.bool q],[v],[u],_,_,e,c=>rw[show v= .bool p from e.1,show u= .bool q from c.1];simp [r9,m9,run_equalIn_bool' w d T p q f,jy,JK]
  case int k=>
   split at h<;>first|(cases h;done)|skip
   match cs,a with
   | .int _ _::_::_,a=>simp [hN]at a
   |[.int s p],a=>
   match g,b with
   | .int _ _::_::_,b=>simp [hN]at b
   |[.int t q],b=>
   match i,us,e,c with
   |[v],[u],e,c=>
    rw[show v= .int s p from e.1,show u= .int t q from c.1];simp [hN,RU]at a b;rw[<-a,<-b];simp [r9,m9,run_equalIn_int w d T _ _ p q f,jy,JK]
  case string=>
   split at h<;>first|(cases h;done)|skip
   match cs,g,i,us,a,b,e,c with
   |[.str p],[.str q],[v],[u],_,_,e,c=>rw[show v= .string p from e.1,show u= .string q from c.1];simp [r9,m9,run_equalIn_string w d T p q f,jy,JK]
  case struct l=>
   simp only[b4,jn]at h;have m:P.fieldsOf T=l:=by simp [Program.fieldsOf,f]
   have:=run_equalIn_struct (P:=P) w d T i.toArray us.toArray (by rw[m];exact f) h.1;simp only[r9,m9,lp];rw[this,m];have r:cs.length=g.length:=(xt a).symm.trans (xt b);exact abJ (aa1 n) Ω i us cs g e c r l.toList 0 j w h.2 (by simpa using a) (by simpa using b)
def aqf{T:TypeId}{c:List J}{n:Nat}(h:sN P n T c=true)(i:n<=10000)(a:(match P.underlying T with|some (.struct _)=>true|_=>false)=true)(g:P.eqGuardType P.depth T=false):IZ P T c:=by
 intro m x y cs d p us w j e f l k
 cases b:P.underlying T with
 |none=>rw[b]at a;cases a
 |some o=>
  rw[b]at a
  cases o<;>simp only at a<;>first|(cases a;done)|skip
  rename_i q;have:=aa1 n T c h 10000 cs d p us w _ i b e f l k;simp only[r9,m9,lp]at this;rw[Sem.run_bind,run_eqGuard_agg w m T x y _ _ g,Result.andThen_ok];rcases j with rfl|rfl
  .rw[run_eql_struct,this];rfl
  .rw[run_neq_struct,this];rfl
def Jq(P:Program)(x:Nat×bS):Bool:= !x.2.cmp||(sN P 9 x.1 x.2.zero&&(match P.underlying x.1 with|some (.struct _)=>true|_=>false)&& !(P.eqGuardType P.depth x.1))
def abG{P:Program}{hW:List (Nat×bS)}{s:Spec}{m:Nat}{a:w3}{f:FuncId->Bool}(e:P.follows .mixedOrders=true)(h:(hW.all λx=>Dj P x.1 x.2)=true)(b:(hW.all λx=>Jq P x)=true)(g:s.dE P)(d:a.dE P):Env.dE ⟨P,zP hW,s,m,a,f⟩:=
 aqc e h (e5:=g) (hl:=d) λx i c=>by
  have:=dK.1 b x i;simp only[Jq,c,Bool.not_true,Bool.false_or,b4,jn]at this;exact aqf (n:=9) this.1.1 Ω this.1.2 this.2
end
def iz(x y:J):Prop:=
 match y with
 | .undef=>True
 | .bool c=>match x with
   | .bool b=>b=c
   | .lit b=>b=c
   |_=>False
 | .int k m=>match x with
   | .int a n=>de (decide (a=k)) (n=m)
   |_=>False
 | .str t=>match x with
   | .str s=>s=t
   |_=>False
 | .arr e n g=>match x with
   | .arr h d f=>de (decide (h=e)) (d=n/\ ∀i,i<n->f i=g i)
   | .aG=>n=0
   |_=>False
 |y=>x=y
def JP:List J->List J->Prop
 |[],[]=>True
 |x::a,y::b=>iz x y/\JP a b
 |_,_=>False
def xw(x y:J):Prop:=
 match y with
 | .agg a=>match x with
   | .agg cs=>JP cs a
   |_=>False
 |y=>iz x y
def pN:List J->List J->Prop
 |[],[]=>True
 |x::a,y::b=>match y with
  | .undef=>pN a b
  |y=>xw x y/\pN a b
 |_,_=>False
def h4(x y:J):Prop:=
 match y with
 | .undef=>cr x=false
 | .gone=>match x with
   | .undef=>False
   | .ad .. =>False
   |_=>True
 | .ad b d n g=>match x with
   | .ad c e a f=>de (decide (c=b)&&decide (e=d)) (a=n/\ ∀i,i<n->kA (f i) (g i))
   |_=>False
 |y=>de (!(cr x)) (iz x y)
def sT:List J->List J->Prop
 |a,[]=>de (a.all λx=> !(cr x)) True
 |x::a,y::b=>h4 x y/\sT a b
 |[],_::_=>False
def AO:Heap->Heap->Prop
 |[],b=>de (b.all λy=>y.isEmpty) True
 |x::a,y::b=>sT x y/\AO a b
 |x::a,[]=>de (x.all λz=> !(cr z)) (AO a [])
def AN:Heap->Heap->Prop
 |[],a=>de (a.all λy=>y.isEmpty) True
 |x::b,y::a=>match y with
  |[]=>AN b a
  |z::c=>sT x (z::c)/\AN b a
 |_::_,[]=>True
def alive(H:Heap)(b:Nat):Bool:=
 match H.getD b []with
 |[]=>false
 |_::_=>true
def ao1(H:Heap):J->Bool
 | .ptr b _=>alive H b
 |x=>ny x
def CI(H:Heap):J->Bool
 | .ptr b _=>alive H b
 | .own b _=>alive H b
 | .fN b _ _ _=>alive H b
 | .fn _ a=>a.all (ao1 H)
 |_=>true
def NF(H:Heap):J->Bool
 | .agg cs=>cs.all (CI H)
 | .dp _=>false
 |av=>CI H av
def wy(s:O):Bool:=s.D.all (NF s.k)&&s.k.all λl=>l.all (CI s.k)
def sx(s a:O):Prop:=pN s.D a.D/\AN s.k a.k/\wy a=true
def DN(s a:O):Prop:=pN s.D a.D/\AO s.k a.k/\s.k.length<=a.k.length
section
variable {S:eb} {ι:Nat->Option Nat} {a:Act} {w:World} {F:Nat->Prop} {H:Heap}
def ve{x y:J}{v:Value}(h:iz x y)(k:cq ι H w F x v):cq ι H w F y v:=by
 cases y
 case undef=>exact k.one
 case bool c=>
  cases x<;>simp only[iz]at h<;>try exact h.elim
  .subst h;exact k
  .subst h;have k:a1 w F (.lit _) v:=k
   cases k
   exact a1.bool _
 case int d m=>
  cases x<;>simp only[iz]at h<;>try exact h.elim
  rw[aF]at h;obtain⟨a,rfl⟩:=h;have:=an a;subst this;exact k
 case str t=>
  cases x<;>simp only[iz]at h<;>try exact h.elim
  subst h;exact k
 case arr e n g=>
  cases x<;>simp only[iz]at h<;>try exact h.elim
  .subst h;have k:a1 w F .aG v:=k
   cases k
   exact a1.nil _ _
  .rw[aF]at h;obtain⟨a,rfl,b⟩:=h;have:=an a;subst this;exact hg.rel (x:= .arr _ _ _) (y:= .arr _ _ _) ⟨rfl,rfl,b⟩ k
 all_goals
  simp only[iz]at h;subst h;exact k
def abT: ∀{cs a:List J} {b:List Value},JP cs a->a6 (cq ι H w F) cs b->a6 (cq ι H w F) a b
 |[],[],_,_,k=>k
 |_::_,_::_,_::_,h,k=>⟨ve h.1 k.1,abT h.2 k.2⟩
 |_::_,_::_,[],_,k=>k.elim
 |[],_::_,_,h,_=>h.elim
 |_::_,[],_,h,_=>h.elim
def aqs{x y:J}{v:Value}(h:iz x y)(b:y≠ .undef)(k:eF ι H w F x v):eF ι H w F y v:=by
 cases y
 case undef=>exact(b rfl).elim
 case bool c=>
  cases x<;>simp only[iz]at h<;>first|exact h.elim|exact ve (ι:=ι) (H:=H) (x:= .bool _) (y:= .bool c) h k|exact ve (ι:=ι) (H:=H) (x:= .lit _) (y:= .bool c) h k
 case int d m=>
  cases x<;>simp only[iz]at h<;>first|exact h.elim|exact ve (ι:=ι) (H:=H) (x:= .int _ _) (y:= .int d m) h k
 case str t=>
  cases x<;>simp only[iz]at h<;>first|exact h.elim|exact ve (ι:=ι) (H:=H) (x:= .str _) (y:= .str t) h k
 case arr a n g=>
  cases x<;>simp only[iz]at h<;>first|exact h.elim|exact ve (ι:=ι) (H:=H) (x:= .aG) (y:= .arr a n g) h k|exact ve (ι:=ι) (H:=H) (x:= .arr _ _ _) (y:= .arr a n g) h k
 all_goals
  simp only[iz]at h;subst h;exact k
def aqt{x y:J}{v:Value}(h:xw x y)(k:eF ι H w F x v):eF ι H w F y v:=by
 cases y
 case undef=>trivial
 case agg b=>
  cases x<;>simp only[xw]at h<;>try exact h.elim
  obtain⟨a,rfl,k⟩:=k;exact⟨a,rfl,abT h k⟩
 all_goals
  simp only[xw]at h;exact aqs h (by simp) k
def abV: ∀{a b:List J} (t:Nat) (y:J),pN a b->b[t]? =some y-> ∃x,a[t]? =some x/\xw x y
 |[],[],_,_,_,h=>by simp at h
 |x::a,y::b,0,z,h,c=>by
  simp at c;subst c;refine⟨x,rfl,?_⟩;simp only[pN]at h
  split at h
  .trivial
  .exact h.1
 |x::a,y::b,t+1,z,h,c=>by
  have:pN a b:=by
   simp only[pN]at h
   split at h
   .exact h
   .exact h.2
  simpa using abV t z this (by simpa using c)
 |[],_::_,_,_,h,_=>h.elim
 |_::_,[],_,_,h,_=>h.elim
def abS: ∀{a b:List J} (o:Nat),sT a b->h4 (a.getD o .undef) (b.getD o .undef)
 |a,[],o,h=>by
  cases a<;>simp only[sT]at h<;>simp only[List.getD_nil,h4]
  .rfl
  .rename_i x a;have c:=(aF.1 h).1
   cases e:(x::a)[o]? with
   |none=>simp [List.getD,e,cr]
   |some z=>
    have:=dK.1 c z (ft e);simpa[List.getD,e]using this
 |x::a,y::b,0,h=>h.1
 |x::a,y::b,o+1,h=>by simpa using abS o h.2
 |[],_::_,_,h=>h.elim
def sU: ∀{a cG:Heap} (b o:Nat),AO a cG->h4 (I a b o) (I cG b o)
 |[],cG,b,o,h=>by
  have c:=(aF.1 h).1;have:I cG b o= .undef:=by
   unfold I
   cases e:cG[b]? with
   |none=>simp [List.getD,e]
   |some z=>
    have:=dK.1 c z (ft e);have f:z=[]:=by simpa using this
    simp [List.getD,e,f]
  rw[this];simp [I,h4,cr]
 |x::a,y::cG,0,o,h=>by simpa[I]using abS o h.1
 |x::a,y::cG,b+1,o,h=>by simpa[I]using sU b o h.2
 |x::a,[],0,o,h=>by
  have c:=(aF.1 h).1;have d:h4 (x.getD o .undef) .undef:=by
   simp only[h4]
   cases e:x[o]? with
   |none=>simp [List.getD,e,cr]
   |some z=>
    have:=dK.1 c z (ft e);simpa[List.getD,e]using this
  simpa[I]using d
 |x::a,[],b+1,o,h=>by
  have c:=sU (cG:=[]) b o (aF.1 h).2;simpa[I]using c
def JO{x y:J}(h:h4 x y):cr x=cr y:=by
 cases y
 case undef=>exact h
 case ad a b n g=>
  cases x<;>simp only[h4]at h<;>first|exact h.elim|rfl
 case gone=>cases x<;>first|rfl|exact(show False from h).elim
 all_goals
  simp only[h4]at h;have:=(aF.1 h).1;simp only[jn]at this;rw[this];rfl
def abQ{x y:J}(h:iz x y)(a:y≠ .undef):x≠ .undef:=by
 rintro rfl
 cases y<;>simp only[iz]at h<;>first|exact a rfl|exact h.elim|(cases h;done)|exact a h
def abR{x y:J}(h:h4 x y)(a:pt y=true):pt x=true:=by
 cases y
 case undef=>cases a
 case ad e f n g=>
  cases x<;>simp only[h4]at h<;>try exact h.elim
  rw[aF,b4]at h;have:=an h.1.1;subst this;exact a
 case gone=>cases x<;>first|rfl|exact(show False from h).elim
 all_goals
  simp only[h4]at h;obtain⟨b,c⟩:=aF.1 h;have d:=abQ c (by simp)
  cases x<;>first|rfl|(exact(d rfl).elim)|(cases b;done)
def DN.aDQ{st g:O}(h:DN st g):ey ι st.k w (aT S ι st.k w) ι g.k w (aT S ι g.k w):=by
 refine⟨λx ⟨a,d,k⟩=>⟨a,d,λb j=>k b (j.imp (λ⟨c,i⟩=>⟨by rw[JO (sU b 0 h.2.1)];exact c,abR (sU b 0 h.2.1) i⟩) λ⟨c,o,p⟩=>⟨by rw[JO (sU b 0 h.2.1)];exact c,o,abR (sU b o h.2.1) p⟩)⟩,λ_ _ _=>rfl,λb x q j=>⟨q,by rw[<-JO (sU b 0 h.2.1)];exact j⟩,λb s t n f m=> ?_⟩;have a:=sU b 0 h.2.1;rw[m]at a;have d:=JO a
 cases e:I g.k b 0<;>rw[e]at a d<;>first|(cases d;done)|skip
 simp only[h4]at a;rw[aF,b4]at a;obtain⟨⟨c,i⟩,rfl,r⟩:=a;have:=an i;subst this;exact⟨_,_,_,_,rfl,bN _,λ_=>⟨rfl,rfl,λx C T _ l=>⟨C,l,rfl⟩⟩⟩
def DN.le{m:Nat}{st c:O}(h:DN st c):cz m st c:=by
 intro S _ ι a w k;have p:ey ι st.k w (aT S ι st.k w) ι c.k w (aT S ι c.k w):=h.aDQ;refine⟨ι,k.below,k.defers,λt av R=> ?_,λb o=> ?_,k.inj,k.fresh,λb x L=>gR (k.gT b x L) h.2.2,k.gW.trans p⟩
 .obtain⟨x,U,Q⟩:=abV t av h.1 R;obtain⟨v,d,f⟩:=k.D t x U;exact⟨v,d,aqt Q (f.step p)⟩
 .have d:=sU b o h.2.1;have f:=k.k b o
  cases e:I c.k b o<;>rw[e]at d
  case undef=>trivial
  case ad Z cx n g=>
   cases q:I st.k b o<;>rw[q]at d f<;>simp only[h4]at d<;>try exact d.elim
   rw[aF,b4]at d;obtain⟨⟨A,J⟩,rfl,K⟩:=d;have:=an J;subst this;obtain⟨r,H|⟨M,l⟩⟩:=f
   .exact⟨r,.inl ⟨by have A:=an A;rw[<-A];exact H.1,H.2⟩⟩
   refine⟨r,.inr ⟨M,?_⟩⟩;rcases l with l|⟨x,C,T,s,u,z⟩
   .exact .inl l
   .refine .inr ⟨x,C,T,s,u,λi j G N=> ?_⟩;obtain⟨av,v,W,X,Y⟩:=z i j G N;obtain⟨y,V,P⟩:=N0 j av (K i G) W;exact⟨y,v,V,X,WV P (Y.mono p.h5 p.cell)⟩
  case gone=>
   have f:e9 ι c.k w (aT S ι c.k w) b o (I st.k b o):=f.step p (λ_=>rfl) (λ_ _ _=>⟨rfl,rfl⟩) (λ_=>⟨rfl,λ_ _=>rfl⟩);have B:cr (I c.k b 0)=false/\ ∃x v,ι b=some x/\w.cell? ⟨x,o,none⟩=some v/\w.frozen? ⟨x,o,none⟩=false/\cq ι c.k w (aT S ι c.k w) (I st.k b o) v:=by
    cases q:I st.k b o<;>rw[q]at d f<;>first|exact(show False from d).elim|exact f
   obtain⟨D,x,v,s,u,z,E⟩:=B;exact⟨D,x,v,s,u,z,cq.one E⟩
  all_goals
   simp only[h4]at d;obtain⟨r,l⟩:=aF.1 d;have F:=abQ l (by simp);have f:e9 ι c.k w (aT S ι c.k w) b o (I st.k b o):=f.step p (λ_=>rfl) (λ_ _ _=>⟨rfl,rfl⟩) (λ_=>⟨rfl,λ_ _=>rfl⟩);have B:cr (I c.k b 0)=false/\ ∃x v,ι b=some x/\w.cell? ⟨x,o,none⟩=some v/\w.frozen? ⟨x,o,none⟩=false/\cq ι c.k w (aT S ι c.k w) (I st.k b o) v:=by
    cases q:I st.k b o<;>rw[q]at f r F<;>first|exact(F rfl).elim|(cases r;done)|exact f
   obtain⟨D,x,v,s,u,z,E⟩:=B;exact⟨D,x,v,s,u,z,ve l E⟩
def ND{az:Nat->Option Nat}{H1:Heap}{F':Nat->Prop}(l: ∀b,alive H b=true->az b=ι b)(j: ∀b,alive H b=true-> ∀o,I H b o=I H1 b o)(t: ∀x,F x->F' x){av:J}{v:Value}(e:CI H av=true)(k:cq ι H1 w F av v):cq az H w F' av v:=by
 cases av
 case ptr b o=>
  obtain⟨d,x,a,g⟩:=k;exact⟨by rw[j b e];exact d,x,by rw[l b e];exact a,g⟩
 case own b c=>
  obtain⟨n,r,s,m,f,d,a,g⟩:=k;exact⟨n,r,s,m,f,by rw[j b e];exact d,a,by rw[l b e];exact g⟩
 case fN b c i o=>
  obtain⟨n,r,s,m,f,d,a,g⟩:=k;exact⟨n,r,s,m,f,by rw[j b e];exact d,a,by rw[l b e];exact g⟩
 case fn f G=>
  obtain⟨E,d,a⟩:=k;refine⟨E,d,a6.mk a.length λi p q u D=> ?_⟩;obtain⟨K,y,z⟩:=a.get i p u;rw[D]at y;cases y;have h:=dK.1 e p (ft u)
  cases p
  case ptr b o=>
   obtain⟨A,x,B,C⟩:=z;have h:alive H b=true:=h;exact⟨by rw[j b h];exact A,x,by rw[l b h];exact B,C⟩
  all_goals first|(cases h;done)|exact a1.mono t (λ_ _ _=>rfl) z
 case undef=>exact k
 case gone=>exact k
 case agg=>exact k.elim
 case dp=>exact k.elim
 case ad=>exact k.elim
 all_goals exact a1.mono t (λ_ _ _=>rfl) k
def ahl{az:Nat->Option Nat}{H1:Heap}{F':Nat->Prop}(g: ∀b,alive H b=true->az b=ι b)(d: ∀b,alive H b=true-> ∀o,I H b o=I H1 b o)(c: ∀x,F x->F' x){av:J}{v:Value}(a:NF H av=true)(k:eF ι H1 w F av v):eF az H w F' av v:=by
 cases av
 case agg cs=>
  obtain⟨l,rfl,k⟩:=k;refine⟨l,rfl,a6.mk k.length λi p q e h=> ?_⟩;obtain⟨m,f,j⟩:=k.get i p e;rw[h]at f;cases f;exact ND g d c (dK.1 a p (ft e)) j
 case dp=>cases a
 case undef=>trivial
 case gone=>exact k
 all_goals
  simp only[NF]at a;exact(show cq az H w F' _ v from ND (ι:=ι) (H1:=H1) (F:=F) g d c a (show cq ι H1 w F _ v from k))
def hV(m:Nat)(st:O):Bool:=(List.range m).all λb=>alive st.k b
def ey.cut{jq ι az:Nat->Option Nat}{a H1 H:Heap}{q w:World}{G F F':Nat->Prop}(h:ey jq a q G ι H1 w F)(q8: ∀b x,jq b=some x->b<a.length)(m: ∀b,b<a.length->alive H b=true)
  (p: ∀b,alive H b=true->az b=ι b) (l: ∀b,alive H b=true-> ∀o,I H b o=I H1 b o) (t: ∀x,F x->F' x):ey jq a q G az H w F':=by
 refine⟨λx i=>t x (h.h5 x i),h.cell,λb x i d=> ?_,λb v z n f d=> ?_⟩
 .have c:=m b (q8 b x i);obtain⟨j,k⟩:=h.box b x i d;exact⟨by rw[p b c];exact j,by rw[l b c];exact k⟩
 .have c:=m b (by
   rcases fE b a.length with g|g
   .exact g
   .rw[tQ g]at d;cases d)
  obtain⟨y,A,u,r,j,k,s⟩:=h.arr b v z n f d;exact⟨y,A,u,r,by rw[l b c];exact j,k,λe=>by rw[p b c];exact s e⟩
def azi{m:Nat}{u:List J}{H H1:Heap}(B:wy ⟨u,H⟩=true)(p: ∀b,alive H b=true-> ∀o,I H b o=I H1 b o)(Y:hV m ⟨u,H⟩=true):cz m ⟨u,H1⟩ ⟨u,H⟩:=by
 intro S tO ι a w g;simp only[wy,b4]at B;let az:Nat->Option Nat:=λb=>if alive H b then ι b else none
 have k: ∀b,alive H b=true->az b=ι b:=λb c=>a5 c;have q: ∀b x,az b=some x->alive H b=true/\ι b=some x:=λb x c=>by
  by_cases h:alive H b=true
  .exact⟨h,by rw[<-k b h];exact c⟩
  .simp [az,h]at c
 have X: ∀b,alive H b=true->b<H.length:=λb c=>by
  rcases fE b H.length with h|h
  .exact h
  .simp [alive,List.getD,eX h]at c
 have Z: ∀b o,alive H b=false->I H b o= .undef:=λb o h=>by
  unfold alive at h;unfold I
  cases e:H.getD b []with
  |nil=>rfl
  |cons z su=>rw[e]at h;cases h
 have s: ∀x,aT S ι H1 w x->aT S az H w x:=λx ⟨r,d,R⟩=>⟨r,d,λb c N=>R b (oy (λo=>p b (q b x N).1 o) c) (q b x N).2⟩;refine⟨az,g.below,g.defers,λt av M=> ?_,λb o=> ?_,λb b' x r d=>g.inj b b' x (q _ _ r).2 (q _ _ d).2,λb x h=>g.fresh b x (q _ _ h).2,λb x h=>X b (q _ _ h).1,g.gW.cut S.q8 (λb c=>dK.1 Y b (uR.2 Ω)) k p s⟩
 .obtain⟨v,r,d⟩:=g.D t av M;exact⟨v,r,ahl k p s (dK.1 B.1 av (ft M)) d⟩
 .show e9 az H w (aT S az H w) b o (I H b o);have d:=g.k b o
  cases c:alive H b with
  |false=>rw[Z b o c];trivial
  |true=>
   have W: ∀av,I H b o=av->av≠ .undef->CI H av=true:=λav e L=>by
    unfold I at e
    cases y:H[b]? with
    |none=>simp [List.getD,y]at e;exact absurd e.symm L
    |some l=>
     simp only[List.getD,y,lY]at e
     cases A:l[o]? with
     |none=>rw[A]at e;exact absurd e.symm L
     |some z=>
      rw[A]at e;simp only[lY]at e;subst e;exact dK.1 (dK.1 B.2 l (ft y)) z (ft A)
   have Q:cr (I H b 0)=cr (I H1 b 0):=by rw[p b c 0]
   have d:e9 ι H1 w (aT S ι H1 w) b o (I H b o):=by rw[p b c o];exact d
   cases e:I H b o<;>rw[e]at d
   case undef=>trivial
   case ad ro cx n f=>
    obtain⟨K,G|⟨O,P⟩⟩:=d
    .exact⟨K,.inl ⟨G.1,G.2.1,by rw[k b c];exact G.2.2⟩⟩
    refine⟨K,.inr ⟨O,?_⟩⟩;rw[k b c];exact P.imp id λ⟨x,C,T,D,E,F⟩=>⟨x,C,T,D,E,λi j U V=>by
     obtain⟨av,v,r5,r6,zh⟩:=F i j U V;exact⟨av,v,r5,r6,zh.mono s λ_ _ _=>rfl⟩⟩
   all_goals
    obtain⟨Hj,x,v,D,E,F,Ho⟩:=d;exact⟨by rw[Q];exact Hj,x,v,by rw[k b c];exact D,E,F,ND k p s (W _ e (by simp)) Ho⟩
def aqr(x:J):iz x x:=by
 cases x<;>first|exact trivial|exact rfl|exact aF.2 ⟨bM rfl,rfl⟩|exact aF.2 ⟨bM rfl,rfl,λ_ _=>rfl⟩
def aqu{x:J}(h:cr x=false):h4 x x:=by
 have a:=aqr x;have b:(!(cr x))=true:=by rw[h];rfl
 unfold h4
 split
 .exact h
 .trivial
 .cases h
 .exact aF.2 ⟨b,a⟩
def aqv(x:J):h4 x x:=by
 cases a:cr x with
 |false=>exact aqu a
 |true=>
  obtain⟨b,c,n,f,rfl⟩:=M4 a;exact aF.2 ⟨by simp,rfl,λ_ _=>zr _⟩
def RY: ∀(a:List J),sT a a
 |[]=>aF.2 ⟨rfl,trivial⟩
 |x::a=>⟨aqv x,RY a⟩
def wT:Heap->Heap->Heap
 |[],b=>b
 |x::a,y::b=>(match y with|[]=>x|z::c=>z::c)::wT a b
 |x::a,[]=>x::a
def abU: ∀(H:Heap),AO H H
 |[]=>aF.2 ⟨rfl,trivial⟩
 |x::a=>⟨RY x,abU a⟩
def Y9: ∀{xs cG:Heap},AN xs cG->AO xs (wT xs cG)/\xs.length<=(wT xs cG).length
 |[],cG,h=>⟨h,cp _⟩
 |x::xs,[],h=>⟨abU _,bN _⟩
 |x::xs,[]::cG,h=>by
  obtain⟨a,b⟩:=Y9 (xs:=xs) (cG:=cG) h;exact⟨⟨RY x,a⟩,by simp [wT,b]⟩
 |x::xs,(z::c)::cG,h=>by
  obtain⟨a,b⟩:=Y9 (xs:=xs) (cG:=cG) h.2;exact⟨⟨h.1,a⟩,by simp [wT,b]⟩
def akk: ∀{xs cG:Heap} (b:Nat),alive cG b=true-> ∀o,I cG b o=I (wT xs cG) b o
 |[],cG,b,h,o=>rfl
 |x::xs,[],b,h,o=>by simp [alive]at h
 |x::xs,y::cG,0,h,o=>by
  cases y with
  |nil=>simp [alive]at h
  |cons z a=>rfl
 |x::xs,y::cG,b+1,h,o=>by
  have:=akk (xs:=xs) (cG:=cG) b (by simpa[alive]using h) o;simpa[I,wT]using this
def sx.le{m:Nat}{st a:O}(h:sx st a)(f:hV m a=true):cz m st a:=by
 obtain⟨c,d⟩:=Y9 h.2.1;have g:DN st ⟨a.D,wT st.k a.k⟩:=⟨h.1,c,d⟩;exact g.le.trans (azi h.2.2 (λb e o=>akk b e o) f)
end
section
variable {E:Env} {x y:Code} {Q:Exit->O->Prop} {st:O}
def WP.step(c:E.dE)(a:O)(p:Prop)(e:mJ E x (ic (λs=>sx s a) Q) st=p)(h:p)(k:WP E y Q a)(d:hV E.m a=true:=by rfl):WP E (.seq x y) Q st:=
 WP.cut a ((WP.WX c (Eq.mpr e h)).mono λe s b=>by cases e<;>simp only[ic]at b |- <;>first|exact sx.le b d|exact b) k
def WP.join(a:O)(h:WP E x (ic (λs=>sx s a) Q) st)(k:WP E y Q a)(c:hV E.m a=true:=by rfl):WP E (.seq x y) Q st:=
 WP.cut a (h.mono λe s b=>by cases e<;>simp only[ic]at b |- <;>first|exact sx.le b c|exact b) k
def WP.azI(h:WP E x (ic (λ_=>False) Q) st):WP E (.loop x) Q st:=
 WP.loop (α:=Unit) (λ_=>st) (λ_=>True) (λ_=>0) () trivial (cz.refl st) λ_ _=>h.mono λe s a=>by
  cases e<;>simp only[ic,Wn]at a |- <;>first|exact a.elim|exact a
def WP.Ei{c:Operand}(b:Bool)(a:aE st.D c= .bool b)(d:b=true->WP E x Q st)(e:b=false->WP E y Q st):WP E (.cond c x y) Q st:=WP.cond a d e
def WP.qC(p:Prop)(e:Q .ret st=p)(h:p):WP E .ret Q st:=WP.ret (Eq.mpr e h)
def WP.It(p:Prop)(e:Q .normal st=p)(h:p):WP E .skip Q st:=WP.skip (Eq.mpr e h)
end
abbrev uU:=List J->Option (Option Prop×J)
structure anU (P:Program) (f:FuncId) (s:uU):Prop where
 xa:l1 P f
 pure: ∀args pre r,s args=some (pre,r)->ou pre True->fo P f args r
def Iu:List (Nat×uU)->Spec
 |[]=>λ_ _=>none
 |(g,s)::r=>λf aa=>match Nat.beq f g with
  |true=>match s aa with
   |some q=>some q
   |none=>Iu r f aa
  |false=>Iu r f aa
def I7(P:Program):List (Nat×uU)->Prop
 |[]=>True
 |x::r=>anU P x.1 x.2/\I7 P r
def YI{P:Program} : ∀{l:List (Nat×uU)},I7 P l->Spec.dE P (Iu l)
 |[],_=>λf a c r h=>by cases h
 |(g,s)::l,b=>λf a c r h=>by
  simp only[Iu]at h
  split at h
  .rename_i e;have:f=g:=eg e;subst this
   cases d:s a with
   |some q=>
    rw[d]at h
    cases h
    exact⟨b.1.xa,b.1.pure a c r d⟩
   |none=>
    rw[d]at h;exact YI b.2 f a c r h
  .exact YI b.2 f a c r h
abbrev z_:=List J->Heap->Option (Option Prop×List J×Heap)
structure anF (P:Program) (f:FuncId) (s:z_):Prop where
 xa:l1 P f
 call: ∀args H pre rs H',s args H=some (pre,rs,H')->ou pre True->fL P f args H rs H'
def G3:List (Nat×z_)->w3
 |[]=>λ_ _ _=>none
 |(g,s)::r=>λf aa H=>match Nat.beq f g with
  |true=>match s aa H with
   |some q=>some q
   |none=>G3 r f aa H
  |false=>G3 r f aa H
def P2(P:Program):List (Nat×z_)->Prop
 |[]=>True
 |x::r=>anF P x.1 x.2/\P2 P r
def VA{P:Program} : ∀{l:List (Nat×z_)},P2 P l->w3.dE P (G3 l)
 |[],_=>λf a H c rs H' h=>by cases h
 |(g,s)::l,b=>λf a H c rs H' h=>by
  simp only[G3]at h
  split at h
  .rename_i e;have:f=g:=eg e;subst this
   cases d:s a H with
   |some q=>
    rw[d]at h
    cases h
    exact⟨b.1.xa,b.1.call a H c rs H' d⟩
   |none=>
    rw[d]at h;exact VA b.2 f a H c rs H' h
  .exact VA b.2 f a H c rs H' h
section
variable {E:Env} {S:eb} {ι:Nat->Option Nat} {st:O} {a:Act} {w:World}
def Vs(E:Env)(st:O)(r:ResultVar)(K:J->Prop):Prop:=
 match r with
 | .tmp t=>K (st.D.getD t .undef)
 | .cell t T=>dM E T λa=>oq a st.k (st.D.getD t .undef) λav=>K av
def wi(E:Env)(st:O):List ResultVar->(List J->Prop)->Prop
 |[],K=>K []
 |x::r,K=>Vs E st x λy=>wi E st r λa=>K (y::a)
def afM(j:E.dE)(h:aY S ι st a w): ∀(rs:List ResultVar) (K:List J->Prop),wi E st rs K-> ∃c d,K c/\a6 (bz S ι st.k w) c d/\a6 (qB E.P w a.tmps) rs d
 |[],K,b=>⟨[],[],b,trivial,trivial⟩
 |r::rs,K,b=>by
  have m: ∃y v,wi E st rs (λc=>K (y::c))/\bz S ι st.k w y v/\qB E.P w a.tmps r v:=by
   cases r with
   |tmp t=>exact⟨_,_,b,h.eval (.tmp t),rfl⟩
   |cell t T=>
    obtain⟨n,l,_,b⟩:=j6 j b;obtain⟨p,av,u,e,f,g,i⟩:=NB l h (h.eval (.tmp t)) b;refine⟨av,u,f,g,?_⟩;have k:a.tmps.getD t undef= .pointer (some p):=e;simp only[qB];rw[Sem.run_bind,k];simp [asAddr,i]
  obtain⟨y,v,b,e,f⟩:=m;obtain⟨c,d,b,g,i⟩:=afM j h rs _ b;exact⟨y::c,v::d,b,⟨e,g⟩,f,i⟩
def AP: ∀{a b:List J},pN a b->a.length=b.length
 |[],[],_=>rfl
 |[],_::_,h=>h.elim
 |_::_,[],h=>h.elim
 |x::a,y::b,h=>by
  have:pN a b:=by cases y<;>first|exact h|exact h.2
  simp [AP this]
end
end Go.af
namespace Go.af
open Go Go.ChangeShapes Go.RowKit Go.WideShapes
def tiled(P:Program):List Field->Nat->Nat->Bool
 |[],a,b=>a==b
 |f::c,a,b=>f.offset==a&&tiled P c (a+P.cellsOf f.type) b
def sa(P:Program):Nat->TypeId->Bool
 |0,_=>false
 |n+1,t=>match P.underlying t with
  |some .bool=>true
  |some (.int _)=>true
  |some .string=>true
  |some (.slice e)=>sa P n e&&P.cellsOf e !=0
  |some (.struct a)=>tiled P a.toList 0 (P.cellsOf t)&&a.toList.all λf=>sa P n f.type
  |_=>false
def YB(c:TypeId->(List J->Prop)->Prop):List Field->(List J->Prop)->Prop
 |[],K=>K []
 |f::d,K=>c f.type λa=>YB c d λb=>K (a++b)
structure DG {H:Type} (jw:DataW H->Nat):Prop where
 str: ∀l:List UInt8,l.length<=jw (.lit (.string l))
 len: ∀e r:List (DataW H),e.length<=jw (.slice e r)
 elem: ∀e r:List (DataW H),∀d∈e,jw d<=jw (.slice e r)
 part: ∀e:List (DataW H),∀d∈e,jw d<=jw (.agg e)
def l7(P:Program):Nat->TypeId->List J
 |0,_=>[]
 |n+1,t=>match P.underlying t with
  |some .bool=>[.bool false]
  |some (.int k)=>[.int k 0]
  |some .string=>[.str ⟨#[]⟩]
  |some (.slice e)=>[.arr (P.cellsOf e) 0 λ_=>l7 P n e]
  |some (.struct a)=>a.toList.flatMap λf=>l7 P n f.type
  |_=>[]
def kN(P:Program)(B:Nat):Nat->TypeId->(List J->Prop)->Prop
 |0,_,_=>False
 |n+1,t,K=>match P.underlying t with
  |some .bool=> ∀b,K [.bool b]
  |some (.int k)=> ∀x:Int,(Lit.int k x).wf=true->K [.int k x]
  |some .string=> ∀s:u,s.size<=B->K [.str s]
  |some (.slice e)=> ∀(m:Nat) (f:Nat->List J),m<=B->(∀i,m<=i->f i=l7 P n e)->(∀i,i<m-> ∀a,kN P B n e a->a (f i))->K [.arr (P.cellsOf e) m f]
  |some (.struct c)=>YB (kN P B n) c.toList K
  |_=>False
section
variable {H:Type} {enc:TypeId×Value->H} {P:Program} {w:World} {base:Nat} {spare:Nat->Bool} {held:Bool} {B:Nat} {jw:DataW H->Nat}
theorem an6{a:Addr}(h:a.spot=none)(i j:Nat):(a.add i).add j=⟨a.block,a.off+i+j,none⟩:=by
 obtain⟨b,o,s⟩:=a;simp only at h;subst h;unfold Addr.add
 by_cases c:i=0<;>by_cases d:j=0<;>simp [c,d,qQ]
theorem ah5{n:Nat}(o: ∀(t:TypeId) (cs:List Value) (i:Nat) (x:DataW H×List MemPlace),sa P n t=true->jw x.1<=B->DataW.trod enc P w base spare held i t cs=some x->
   ∃d,a6 (a1 w λy=>y<w.heap.size) d cs/\ ∀K,kN P B n t K->K d) {cs:List Value} : ∀(a:List Field) (c:Nat),tiled P a c cs.length=true->(a.all λf=>sa P n f.type)=true->
  (∀f∈a,∃i x,jw x.1<=B/\DataW.trod enc P w base spare held i f.type ((cs.drop f.offset).take (P.cellsOf f.type))=some x)->
  ∃d,a6 (a1 w λy=>y<w.heap.size) d (cs.drop c)/\ ∀K,YB (kN P B n) a K->K d
 |[],c,e,_,_=>by
  have:c=cs.length:=by simpa[tiled]using e
  subst this;exact⟨[],by simp [a6],λK h=>h⟩
 |f::a,c,e,j,m=>by
  simp only[tiled,b4,iK]at e;simp only[z1,b4]at j;obtain⟨i,x,v,A⟩:=m f (by simp);obtain⟨k,l,q⟩:=o _ _ _ _ j.1 v A;obtain⟨p,r,s⟩:=ah5 o a (c+P.cellsOf f.type) e.2 j.2 (λg z=>m g (by simp [z]));rw[e.1]at l;refine⟨k++p,?_,λK u=>s (λb=>K (k++b)) (q _ u)⟩;have:=a6.append l r;rwa [<-wZ,qL]at this
theorem Xn(M:B<=dz)(C:DG jw): ∀(n:Nat) (t:TypeId) (cs:List Value) (F:Nat) (x:DataW H×List MemPlace),sa P n t=true->jw x.1<=B->DataW.trod enc P w base spare held F t cs=some x->
  ∃p,a6 (a1 w λy=>y<w.heap.size) p cs/\ ∀K,kN P B n t K->K p
 |0,t,cs,F,x,r,_,h=>by cases r
 |n+1,t,cs,F,x,r,N,h=>by
  unfold sa at r
  cases q:P.underlying t with
  |none=>rw[q]at r;cases r
  |some d=>
   rw[q]at r
   cases d<;>simp only at r<;>try (cases r;done)
   case bool=>
    obtain⟨b,rfl,_⟩:=DataW.trod_bool q h;exact⟨[.bool b],⟨.bool b,trivial⟩,λK c=>by unfold kN at c;rw[q]at c;exact c b⟩
   case int k=>
    obtain⟨y,rfl,_,tU⟩:=DataW.trod_int q h;exact⟨[.int k y],⟨.int k y,trivial⟩,λK c=>by unfold kN at c;rw[q]at c;exact c y tU⟩
   case string=>
    obtain⟨s,rfl,rfl,_⟩:=DataW.trod_string q h;have V:s.size<=B:=by
     have:=C.str s.data.toList;rw[Array.length_toList]at this;exact dP this N
    exact⟨[.str s],⟨.str s (dP V M),trivial⟩,λK c=>by unfold kN at c;rw[q]at c;exact c s V⟩
   case slice e=>
    simp only[b4,bne_iff_ne]at r;rcases DataW.trod_slice q h with⟨rfl,_⟩|⟨a,u,Z,T,Y,m,_,rfl,rfl,jh,pc,hm,Vb,R,_,_⟩
    .exact⟨[.arr (P.cellsOf e) 0 λ_=>l7 P n e],⟨.nil _ _,trivial⟩,λK c=>by unfold kN at c;rw[q]at c;exact c 0 _ (cp _) (λ_ _=>rfl) λi g=>absurd g Ω⟩
    .have A:u<=B:=by
      have:=C.len (T.map (·.1)) (Y.map (·.1));rw[List.length_map,Vb]at this;exact dP this N
     have X: ∀i,i<u-> ∃p l,a6 (a1 w λy=>y<w.heap.size) p l/\(∀K,kN P B n e K->K p)/\l.length=P.cellsOf e/\ ∀j,j<P.cellsOf e->w.cell? ((a.add (i*P.cellsOf e)).add j)=l[j]? :=λi g=>by
      have z:=R i g;rw[cM Ω]at z
      cases I:w.cells? base (a.add (i*P.cellsOf e)) (P.cellsOf e)with
      |none=>rw[I]at z;cases z
      |some l=>
       rw[I]at z;obtain⟨p,Q,fe⟩:=Xn M C n e l m _ r.1 (dP (C.elem (T.map (·.1)) (Y.map (·.1)) _ (List.mem_map_of_mem (j8 _))) N) z;obtain⟨_,yQ,Mk⟩:=World.cells?_some I;exact⟨p,l,Q,fe,yQ,Mk⟩
     by_cases fq:u=0
     .subst fq;exact⟨[.arr (P.cellsOf e) 0 λ_=>l7 P n e],⟨.mt _ _ _ _,trivial⟩,λK c=>by unfold kN at c;rw[q]at c;exact c 0 _ (cp _) (λ_ _=>rfl) λi g=>absurd g Ω⟩
     .have W:a.spot=none/\a.block<w.heap.size:=by
       obtain⟨_,l,_,_,A,I⟩:=X 0 Ω;have:=I 0 Ω;rw[cM Ω]at this;simp only[Nat.zero_mul,Addr.add,lp]at this;unfold World.cell? at this
       cases hh:w.heap[a.block]? with
       |none=>rw[hh]at this;cases this
       |some mx=>
        refine⟨?_,(so.1 hh).1⟩;rw[hh]at this
        cases mx<;>simp only at this<;>try (cases this;done)
        split at this
        .cases this
        .rename_i Cu;simpa using Cu
      obtain⟨b,o,s⟩:=a;simp only at W;obtain⟨rfl,atW⟩:=W;have S: ∀i,∃p:List J,i<u-> ∃l,a6 (a1 w λy=>y<w.heap.size) p l/\(∀K,kN P B n e K->K p)/\l.length=P.cellsOf e/\ ∀j,j<P.cellsOf e->w.cell? ⟨b,o+i*P.cellsOf e+j,none⟩=l[j]? :=λi=>by
       by_cases g:i<u
       .obtain⟨p,l,v,jg,L,G⟩:=X i g;exact⟨p,λ_=>⟨l,v,jg,L,λj E=>by rw[<-G j E,an6 rfl]⟩⟩
       .exact⟨[],λh=>absurd h g⟩
      let f:Nat->List J:=λi=>if i<u then Classical.choose (S i)else l7 P n e
      have aun: ∀i,i<u->f i=Classical.choose (S i):=λi g=>a5 g;have D: ∀i,i<u-> ∃l,a6 (a1 w λy=>y<w.heap.size) (f i) l/\(∀K,kN P B n e K->K (f i))/\l.length=P.cellsOf e/\ ∀j,j<P.cellsOf e->w.cell? ⟨b,o+i*P.cellsOf e+j,none⟩=l[j]? :=λi g=>by rw[aun i g];exact Classical.choose_spec (S i) g
      refine⟨[.arr (P.cellsOf e) u f],⟨.arr (P.cellsOf e) u f b o Z (λi j=>(f i).getD j .undef) (λi j=>(w.cell? ⟨b,o+i*P.cellsOf e+j,none⟩).getD undef) pc (dP A M) (λ_=>atW) ?_ ?_ ?_,trivial⟩,?_⟩
      .intro i j g E;obtain⟨l,v,_,L,_⟩:=D i g;have A:=v.length;rw[List.getD,cM Ω];rfl
      .intro i j g E;obtain⟨l,v,_,L,G⟩:=D i g;rw[G j E,cM Ω];rfl
      .intro i j g E;obtain⟨l,v,_,L,G⟩:=D i g;have A:=v.length;obtain⟨cx,ki,hC⟩:=v.get j ((f i)[j]' Ω) (cM _);rw[G j E,ki,List.getD,cM Ω];exact hC
      .intro K c;unfold kN at c;rw[q]at c;exact c u f A (λi g=>aS Ω) λi g=>(D i g).choose_spec.2.1
   case struct O=>
    simp only[b4]at r;obtain⟨xs,m,_,rfl,A,aGG,R⟩:=DataW.trod_struct q h;obtain⟨p,z,Q⟩:=ah5 (n:=n) (λt cs F x=>Xn M C n t cs F x) (cs:=cs) O.toList 0 (by rw[A];exact r.1) r.2 λf D=>by
     obtain⟨i,g⟩:=qN D;have U:O[i]? =some f:=by simpa using g
     have aGl:i<O.size:=(so.1 U).1;have:=R i f U;rw[cM Ω]at this;exact⟨_,_,dP (C.part (xs.map (·.1)) _ (List.mem_map_of_mem (j8 _))) N,this⟩
    exact⟨p,by simpa using z,λK c=>Q K (by unfold kN at c;rw[q]at c;exact c)⟩
def Iz(P:Program)(t:TypeId)(cs:List J):J:=
 match P.underlying t with
 |some (.struct _)=> .agg cs
 |_=>cs.headD .undef
def OF(P:Program)(B n:Nat):List TypeId->(List J->Prop)->Prop
 |[],K=>K []
 |t::c,K=>kN P B n t λa=>OF P B n c λb=>K (Iz P t a::b)
theorem aBu(x:B<=dz)(z:DG jw){n:Nat}{r:Reach}{p:Nat}{t:TypeId}{v:Value}{d:DataW H}{C:List MemPlace}(g:sa P n t=true)(j:Value.okWide P w r p t v)(A:jw d<=B)(h:DataW.Trod enc P w base spare held t v d C):
  ∃f,fK w (λy=>y<w.heap.size) (Iz P t f) v/\ ∀K,kN P B n t K->K f:=by
 obtain⟨q,h⟩:=h;obtain⟨f,c,s⟩:=Xn x z n t _ q _ g A h;refine⟨f,?_,s⟩
 cases n with
 |zero=>cases g
 |succ n=>
  unfold sa at g;unfold Iz
  cases i:P.underlying t with
  |none=>rw[i]at g;cases g
  |some d=>
   rw[i]at g
   cases d<;>simp only at g<;>try (cases g;done)
   case struct D=>
    obtain⟨cs,rfl,_⟩:=okWide_struct i j;exact⟨cs.toList,by simp,by simpa[Value.cells]using c⟩
   case bool=>
    obtain⟨b,rfl⟩:=okWide_bool i j
    match f,c with
    |[av],c=>cases c.1<;>first|exact a1.bool b|exact a1.lit b
   case int k=>
    obtain⟨b,rfl⟩:=okWide_int i j
    match f,c with
    |[av],c=>cases c.1;exact a1.int k b
   case string=>
    obtain⟨b,rfl⟩:=okWide_string i j
    match f,c with
    |[av],c=>cases c.1;exact a1.str b Ψ
   case slice e=>
    obtain⟨a,o,l,rfl⟩:=okWide_slice i j
    match f,c with
    |[av],c=>
     have m:a1 w (λy=>y<w.heap.size) av (.slice a o l):=c.1;have u:fK w (λy=>y<w.heap.size) av (.slice a o l):=by
      cases av<;>first|exact m|(cases m;done)
     exact u
theorem ah4(g:B<=dz)(i:DG jw){n:Nat}{r:Reach}{o:Nat} : ∀(a:List TypeId) (c:List Value) (b:List (DataW H)) (m:List MemPlace),(a.all (sa P n))=true->(∀(j:Nat) t v,a[j]? =some t->c[j]? =some v->Value.okWide P w r o t v)->(∀d∈b,jw d<=B)->
  DataW.TrodAll enc P w base spare held a c b m-> ∃aa,a6 (fK w λy=>y<w.heap.size) aa c/\(∀K,OF P B n a K->K aa)/\b.length=a.length
 |[],[],[],_,_,_,_,_=>⟨[],trivial,λ_ h=>h,rfl⟩
 |t::a,v::c,d::b,m,e,l,k,h=>by
  obtain⟨p,q,x,z,_⟩:=h;simp only[z1,b4]at e;obtain⟨f,A,C⟩:=aBu g i e.1 (l 0 t v rfl rfl) (k d (by simp)) x;obtain⟨aa,D,E,F⟩:=ah4 g i a c b q e.2 (λj t' M J L=>l (j+1) t' M (by simpa using J) (by simpa using L)) (λu I=>k u (by simp [I])) z;exact⟨Iz P t f::aa,⟨A,D⟩,λK G=>E (λs=>K (Iz P t f::s)) (C _ G),by simp [F]⟩
 |[],[],_::_,_,_,_,_,h=>h.elim
 |[],_::_,_,_,_,_,_,h=>by cases h
 |_::_,[],_,_,_,_,_,h=>by cases h
 |_::_,_::_,[],_,_,_,_,h=>by cases h
theorem ajL(j:laidOutB P=true){W i:World}{m:Nat->Bool} : ∀(c:List TypeId) (g:List Value) (e:List (DataW H)) (b:List MemPlace),(c.all λt=>P.readableRec t&&decide (t<P.types.size))=true->
  DataW.TrodAll enc P W 0 (λ_=>true) true c g e b->(∀p∈b,W.sameAt i p)->(∀p∈b,m p.block=true)->DataW.TrodAll enc P i 0 m true c g e b
 |[],[],[],_,_,h,_,_=>h
 |t::c,v::g,d::e,b,f,h,k,l=>by
  obtain⟨p,q,n,o,rfl⟩:=h;simp only[z1,b4,j7]at f;exact⟨p,q,WideElems.Trod_stays j f.1.1 f.1.2 n (λx a=>k x (by simp [a])) (λx a=>l x (by simp [a])),ajL j c g e q f.2 o (λx a=>k x (by simp [a])) (λx a=>l x (by simp [a])),rfl⟩
 |[],[],_::_,_,_,h,_,_=>h.elim
 |[],_::_,_,_,_,h,_,_=>by cases h
 |_::_,[],_,_,_,h,_,_=>by cases h
 |_::_,_::_,[],_,_,h,_,_=>by cases h
theorem aCm{f:Func}{s:ChangeSpec}{l A C z:Bool}{W d:World}{i:Array Value}{v:Value}{e g:List (DataW H)}{before g5 C5:List MemPlace}
  (k:DataW.Whole enc P f.params.toList s.vars l W i.toList e g before)
  (w: ∀(b:Nat) (c:Nat->Bool) (D:Bool),DataW.TrodAll enc P d b c D f.resultTypes.toList (v.resultList f.resultTypes.size) (s.fn H (e++g)).results [])
  (m: ∀c:Nat->Bool,(∀p∈before,c p.block=true)->DataW.TrodAll enc P d 0 c true f.params.toList i.toList (s.fn H (e++g)).args g5)
  (x: ∀c:Nat->Bool,(∀p∈before,c p.block=true)->DataW.TrodVars enc P d c s.vars (s.fn H (e++g)).vars C5)
  (h:before=g5++C5) (n:Below W.heap.size W d)
  (F: ∀(j:Nat) (t:TypeId) (r:Value),f.resultTypes[j]? =some t->(v.resultList f.resultTypes.size)[j]? =some r->Value.okWide P d .any 0 t r):
  s.post enc P f l A C z W i v d:=by
 have q: ∀p∈before,p.block<W.heap.size:=λp a=>k.lt p a;have u: ∀p∈before,(λb=>decide (b<W.heap.size)) p.block=true:=λp a=>by simpa using q p a
 refine⟨e,g,before,[],g5,C5,k,w _ _ _,m _ u,x _ u,World.keptBut_mono (λp a=>⟨a,?_⟩) (n.frame (· ∈before)),λ_=> ?_⟩
 .rw[h,gj]at a;exact Or.inr a
 .obtain⟨_,_,_,_,_,G,E⟩:=k;refine⟨F,_,_,([]++g5)++C5,⟨[]++g5,C5,trodAll_append (m _ (λ_ _=>rfl)) (w _ _ _),x _ (λ_ _=>rfl),rfl,?_,?_⟩,?_⟩
  .intro b y a;have o:MemPlace.cell b y∈before:=by rw[h];simpa using a
   rw[n.frozen (q _ o)];exact G b y o
  .intro B;have:=E B;rw[h]at this;simpa using this
  .intro p a _;rw[h];simpa using a
theorem azf(O:B<=dz)(S:DG jw){f:FuncId}{fn:Func}{s:ChangeSpec}{o L R K:Bool}{n ga:Nat}{br:List TypeId}(k:fn.params.toList=br)
  (V:laidOutB P=true) (Y:(br.all (sa P n))=true) (au3:(br.all λt=>P.readableRec t&&decide (t<P.types.size))=true)
  (F:fn.resultTypes= #[ga]) (E:P.underlying ga=some .bool) (I:s.vars=[])
  (i: ∀a:List (DataW H),a.length=br.length->s.fn H a={results:=[.lit (.bool true)],args:=a})
  (Z:OF P B n br λaa=>fo P f aa (.bool true)):
  ∀(W:World) (base:Nat) (args:Array Value) (a u:List (DataW H)) (r:List MemPlace),
   (∀(j:Nat) t v,fn.params[j]? =some t->args[j]? =some v->Value.okWide P W .any base t v)->
   DataW.Whole enc P fn.params.toList s.vars o W args.toList a u r->(∀d∈a,jw d<=B)->DJ W (λy=>y<W.heap.size)->
   Calls P f args W λe b=> ∃v,e= .returned v/\s.post enc P fn o L R K W args v b:=by
 intro W base args a u r avi A T Q;have C:=A;obtain⟨p,q,g,z,rfl,aGh,GZ⟩:=A;rw[I]at z;obtain⟨rfl,rfl⟩:=trodVars_none z;rw[k]at g;obtain⟨aa,M,N,c⟩:=ah4 O S br args.toList a p Y (λj t v G l=>avi j t v (by rw[<-k]at G;simpa using G) (by simpa using l)) T g;have w:=N _ Z W (λy=>y<W.heap.size) args.toList Q M;rw[show args.toList.toArray=args by simp]at w;refine w.mono λe b ⟨v,U,h,D⟩=> ?_;refine⟨v,U,?_⟩;have l:v= .bool true:=by
  have h:a1 b _ (.bool true) v:=h
  cases h;rfl
 subst l;have X:=C.lt;refine aCm (g5:=p) (C5:=[]) C (λcx J dQ=> ?_) (λJ Cu=> ?_) (λJ _=> ?_) rfl D (ok_one F rfl (okWide_bool_mk E true))
 .rw[F,im,i a c];exact⟨[],[],shut_bool E true,rfl,rfl⟩
 .rw[im,i a c,k];refine ajL V br args.toList a p au3 g (λx m=>D.same (X x (by simp [m]))) λx m=>Cu x (by simp [m])
 .rw[I,im,i a c];rfl
end
end Go.af
namespace Go.af
open Go Go.RowKit
structure G (α:Type) where
 n:Nat
 at':Nat->α
instance{α:Type}[Inhabited α]:Inhabited (G α):=⟨⟨0,λ_=>default⟩⟩
def aP{α:Type}(a:Nat)(enc:α->List J)(s:G α):J:= .arr a s.n λi=>enc (s.at' i)
inductive gk:J->Prop
 |int (k:IntKind) (n:Int):gk (.int k n)
 |bool (b:Bool):gk (.bool b)
 |lit (b:Bool):gk (.lit b)
 |str (s:ByteArray) (h:s.size<=dz):gk (.str s)
 |aG:gk .aG
 |jJ:gk .jJ
 |ke (V n:Nat) (f:Nat->List J):gk (.ke V n f)
 |arr (V n:Nat) (f:Nat->List J) (h:n<=dz) (g:Nat->Nat->J) (e5: ∀i j,i<n->j<V->(f i)[j]? =some (g i j)) (hl: ∀i j,i<n->j<V->gk (g i j)):gk (.arr V n f)
 |ref (cs:List J):gk (.ref cs)
 |fn (f:FuncId) (jx:List J):gk (.fn f jx)
def a1.nD{w:World}{F:Nat->Prop}{av:J}{v:Value}(h:a1 w F av v):gk av:=by
 induction h with
 |int k n=>exact .int k n
 |bool b=>exact .bool b
 |lit b=>exact .lit b
 |str s l=>exact .str s l
 |aG=>exact .aG
 |jJ=>exact .jJ
 |ke e n f=>exact .ke e n f
 |nil e f=>exact .arr e 0 f (cp _) (λ_ _=> .undef) (λi j d=>absurd d (eD _)) (λi j d=>absurd d (eD _))
 |mt e f a c=>exact .arr e 0 f (cp _) (λ_ _=> .undef) (λi j d=>absurd d (eD _)) (λi j d=>absurd d (eD _))
 |arr e n f b o c g y x l u p r t q=>exact .arr e n f l g p q
 |ref cs=>exact .ref cs
 |fn f m=>exact .fn f m
def JS:List J->Prop
 |[]=>True
 |x::a=>gk x/\JS a
def abW:J->Prop
 | .agg cs=>JS cs
 |x=>gk x
def JR:List J->Prop
 |[]=>True
 |x::a=>abW x/\JR a
def abZ{w:World}{F:Nat->Prop} : ∀{cs:List J} {a:List Value},a6 (a1 w F) cs a->JS cs
 |[],[],_=>trivial
 |_::_,_::_,h=>⟨h.1.nD,abZ h.2⟩
 |[],_::_,h=>h.elim
 |_::_,[],h=>h.elim
def aqB{w:World}{F:Nat->Prop}{x:J}{v:Value}(h:fK w F x v):abW x:=by
 cases x
 case agg cs=>obtain⟨a,_,h⟩:=h;exact abZ h
 case undef=>exact h.elim
 all_goals exact a1.nD h
def abX{w:World}{F:Nat->Prop} : ∀{a:List J} {b:List Value},a6 (fK w F) a b->JR a
 |[],[],_=>trivial
 |_::_,_::_,h=>⟨aqB h.1,abX h.2⟩
 |[],_::_,h=>h.elim
 |_::_,[],h=>h.elim
def fo.nD{P:Program}{f:FuncId}{a:List J}{r:J}(h:JR a->fo P f a r):fo P f a r:=λw F d c b=>h (abX b) w F d c b
def gk.len{α:Type}{a:Nat}{enc:α->List J}{s:G α}(h:gk (aP a enc s)):s.n<=dz:=by
 unfold aP at h
 cases h;assumption
def gk.at{α:Type}{c:Nat}{enc:α->List J}{s:G α}(h:gk (aP c enc s)){i j:Nat}{x:J}(a:i<s.n)(b:j<c)(f:(enc (s.at' i))[j]? =some x):gk x:=by
 unfold aP at h
 cases h with
 |arr _ _ _ _ g d e=>
  have:=d i j a b;rw[f]at this
  cases this
  exact e i j a b
def gk.size{s:ByteArray}(h:gk (.str s)):s.size<=dz:=by cases h;assumption
def fo.aj3{P:Program}{f:FuncId}{b k:List J}{r:J}(h:fo P f k r)(a:a6 kd b k):fo P f b r:=λw F p n e=>
 h w F p n (a6.mk (a.length.symm.trans e.length) λi y v j o=>by
   have g:i<b.length:=by rw[a.length];exact(il.1 j).1
   obtain⟨s,c,l⟩:=a.get i _ (cM g);rw[j]at c;cases c;obtain⟨q,d,m⟩:=e.get i _ (cM g);rw[o]at d;cases d;exact l.rel m)
def tY(a:Nat):J->Bool
 | .arr s _ _=>Nat.beq s a
 | .aG=>true
 |_=>false
def iF{α:Type}[Inhabited α](dec:List J->α):J->G α
 | .arr _ n f=>⟨n,λi=>dec (f i)⟩
 |_=>⟨0,λ_=>default⟩
def ahZ{α:Type}(enc:α->List J)(dec:List J->α):J->Prop
 | .arr _ n f=> ∀i,i<n->f i=enc (dec (f i))
 |_=>True
def aDy{α:Type}[Inhabited α]{b:Nat}{enc:α->List J}{dec:List J->α}{x:J}(a:tY b x=true)(c:ahZ enc dec x):hg x (aP b enc (iF dec x)):=by
 cases x<;>simp only[tY]at a<;>first|(cases a;done)|skip
 .exact rfl
 .exact⟨eg a,rfl,c⟩
def B{α:Type}[Inhabited α]:G α:=⟨0,λ_=>default⟩
def aDz{α:Type}[Inhabited α]{b:Nat}{enc:α->List J}{dec:List J->α}{x:J}(a:tY b x=true)(c:ahZ enc dec x):kd x (aP b enc (iF dec x)):=by
 have h:=aDy a c
 cases x<;>simp only[tY]at a<;>first|(cases a;done)|exact h
def an1{k:IntKind}{n:Int} :kd (.int k n) (.int k n):=rfl
def ayv{α β:Type}{R:α->β->Prop} :a6 R [] []:=trivial
def m_{α β:Type}{R:α->β->Prop}{a:α}{b:β}{l:List α}{m:List β}(h:R a b)(t:a6 R l m):a6 R (a::l) (b::m):=⟨h,t⟩
def wrap64{x:Int}(a: -9223372036854775808<=x)(b:x<=9223372036854775807):i64 x=x:=by
 rw[IntKind.wrap_i64];omega
def _root_.Go.E(x:Int)(a: -9223372036854775808<=x:=by omega)(b:x<=9223372036854775807:=by omega):i64 x=x:=wrap64 a b
end Go.af
namespace Go.Proofs.YtadmdaokcgjdiaaGreatDoor
open Go Go.RowKit Go.af
def Rg{H:Type}{d:DataW H}{l:List (DataW H)}(h:d∈l):Rows.uptoBulk d<=Rows.uptoBulkAll l:=by
 induction l with
 |nil=>cases h
 |cons x r a=>
  simp only[Rows.uptoBulkAll]
  cases iI.1 h with
  |inl e=>subst e;omega
  |inr e=>have:=a e;omega
def aoD{H:Type}(d:DataW H):1<=Rows.uptoBulk d:=by
 cases d with
 |lit l=>cases l<;>simp [Rows.uptoBulk]
 |nil=>simp [Rows.uptoBulk]
 |ptr d=>simp [Rows.uptoBulk]
 |slice a spare=>simp [Rows.uptoBulk]
 |agg c=>simp [Rows.uptoBulk]
 |iface t d=>simp [Rows.uptoBulk]
 |map b=>simp [Rows.uptoBulk]
 |held h=>simp [Rows.uptoBulk]
def aoB{H:Type}(l:List (DataW H)):l.length<=Rows.uptoBulkAll l:=by
 induction l with
 |nil=>simp [Rows.uptoBulkAll]
 |cons x r a=>have:=aoD x;simp only[Rows.uptoBulkAll,dy];omega
def aoC(H:Type):DG (Rows.uptoBulk (H:=H)):=by
 refine⟨λl=> ?_,λe r=> ?_,λe r d a=> ?_,λe d a=> ?_⟩
 .simp [Rows.uptoBulk]
 .have:=aoB e;simp only[Rows.uptoBulk];omega
 .have:=Rg a;simp only[Rows.uptoBulk];omega
 .have:=Rg a;simp only[Rows.uptoBulk];omega
def aoE{H:Type}{l:List (DataW H)}(b:Rows.uptoSmall H l=true): ∀d∈l,Rows.uptoBulk d<=1048576:=λd a=>by
 have h:Rows.uptoBulkAll l<=1048576:=an b;have:=Rg a;omega
end Go.Proofs.YtadmdaokcgjdiaaGreatDoor
namespace Go.af
open Go Go.RowKit
section
variable {S:eb} {ι:Nat->Option Nat} {st:O} {a:Act} {w:World}
def aY.aiL(h:aY S ι st a w){b o:Nat}{av:J}(s:I st.k b o≠ .undef)(j:cr (I st.k b o)=false)(E:av≠ .undef)(A:cr av=false)
  (K: ∀v,cq ι st.k w (aT S ι st.k w) (I st.k b o) v->cq ι st.k w (aT S ι st.k w) av v):aY S ι ⟨st.D,bI st.k b o av⟩ a w:=by
 have i: ∀b' c,I (bI st.k b o av) b' c=if b'=b/\c=o then av else I st.k b' c:=λb' c=>eZ _ _ _ _ _ _
 have r:=(h.k b o).aAK s j;have l: ∀b',cr (I (bI st.k b o av) b' 0)=cr (I st.k b' 0):=λb'=>by
  rw[i]
  by_cases e:b'=b/\0=o
  .rw[a5 e,A,e.1,r]
  .rw[aS e]
 have m:ey ι st.k w (aT S ι st.k w) ι (bI st.k b o av) w (aT S ι (bI st.k b o av) w):=by
  refine⟨λy ⟨p,q,B⟩=>⟨p,q,λb' F=>B b' ?_⟩,λ_ _ _=>rfl,λb' z M k=>⟨M,by rw[l];exact k⟩,λb' U V n f k=> ?_⟩
  .rcases F with⟨d,g⟩|⟨d,c,g⟩
   .rw[l]at d;refine .inl ⟨d,?_⟩;rw[i]at g
    by_cases e:b'=b/\0=o
    .rw[a5 e]at g;rw[e.1,r]at d;cases d
    .rw[aS e]at g;exact g
   .rw[l]at d;rw[i]at g
    by_cases e:b'=b/\c=o
    .refine .inr ⟨d,o,?_⟩;rw[e.1];exact aj6 s j
    .rw[aS e]at g;exact .inr ⟨d,c,g⟩
  .have e: ¬(b'=b/\0=o):=λe=>by rw[e.1,e.2]at k;rw[k]at j;cases j
   exact⟨U,_,n,f,by rw[i,aS e];exact k,bN _,λ_=>⟨rfl,rfl,λx C T _ D=>⟨C,D,rfl⟩⟩⟩
 refine⟨h.below,h.defers,λt u H=> ?_,λb' c=> ?_,h.inj,h.fresh,λb' y L=>gR (h.gT _ _ L) (mq _ _ _ _).1,h.gW.trans m⟩
 .obtain⟨v,p,q⟩:=h.D t u H;exact⟨v,p,q.step m⟩
 .show e9 _ _ _ _ _ _ (I (bI st.k b o av) b' c);rw[i]
  by_cases e:b'=b/\c=o
  .obtain⟨rfl,rfl⟩:=e;rw[a5 ⟨rfl,rfl⟩];obtain⟨x,v,N,O,P,Q⟩:=(h.k b' c).box s j;have R:=(K v Q).step m;have G:cr (I (bI st.k b' c av) b' 0)=false:=by rw[l];exact r
   cases av<;>first|exact absurd rfl E|(cases A;done)|exact⟨G,x,v,N,O,P,R⟩
  .rw[aS e];exact(h.k b' c).step m (λ_=>rfl) (λ_ _ _=>⟨rfl,rfl⟩) (λ_=>⟨rfl,λ_ _=>rfl⟩)
def ahQ{H:Heap}{F:Nat->Prop}{v:Value}(h:cq ι H w F .aG v):v= .slice none 0 0:=by
 have a:a1 w F .aG v:=h
 cases a;rfl
end
section
variable {α:Type}
def G.app(s t:G α):G α:=⟨s.n+t.n,λi=>bif Nat.blt i s.n then s.at' i else t.at' (i-s.n)⟩
def G.lit[Inhabited α](l:List α):G α:=⟨l.length,λi=>l.getD i default⟩
def G.part(s:G α)(l h:Int):G α:=⟨(h-l).toNat,λi=>s.at' (l.toNat+i)⟩
def G.ofStr(s:u):G Int:=⟨s.size,λi=>((s.data.toList.getD i 0).toNat:Int)⟩
def G.toStr(s:G Int):u:=bytesOf s.n λi=>[.int .u8 (s.at' i)]
def G.pI(s t:G α):(s.app t).n=s.n+t.n:=rfl
def G.na[Inhabited α](l:List α):(G.lit l).n=l.length:=rfl
def G.uw(s:G α)(l h:Int):(s.part l h).n=(h-l).toNat:=rfl
def CP[Inhabited α]:(B:G α).n=0:=rfl
def aao{e:α->List J}{s t:G α}{n m:Nat}{f g:Nat->List J}(j:n=s.n)(d:m=t.n)(b: ∀i,i<n->f i=e (s.at' i))(c: ∀i,i<m->g i=e (t.at' i)): ∀i,i<n+m->h2 n f g i=e ((s.app t).at' i):=λi k=>by
 subst j d;simp only[h2,G.app]
 cases h:Nat.blt i s.n with
 |true=>exact b i (g8 h)
 |false=>
  refine c _ ?_;have: ¬i<s.n:=λa=>by rw[show Nat.blt i s.n=true by rw[iY];exact a]at h;cases h
  omega
def azC[Inhabited α](e:α->List J)(l:List α): ∀i,i<l.length->(l.map e).getD i []=e ((G.lit l).at' i):=λi a=>by
 simp only[G.lit,List.getD,g_,cM a,sr,lY]
end
end Go.af
