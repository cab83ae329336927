/- rostrum/rostrumtop.TopFlow: it answers true, as the document says, for every input whose bulk is at most 1048576; the card ties what client.nothing holds. -/
import Derived.Test.YtfmgjpcmcjjoiaaGreatDoorXc
import Derived.Test.YtfmgjpcmcjjoiaaGreatDoorYf
import Derived.Deep.DeepHandedRow
import Derived.Lib.LaidTab
import Derived.Test.YtfmgjpcmcjjoiaaGreatDoorCards
import Derived.Test.YtfmgjpcmcjjoiaaGreatDoorTie
open Go.IntKind (i64 u64 u8)
open Int (toNat)
set_option maxRecDepth 100000
set_option maxHeartbeats 4000000
set_option linter.all false
noncomputable section
namespace Go.Proofs.YtfmgjpcmcjjoiaaGreatDoor
open Go Go.RowKit Go.Vc
section
variable {ms:aF} {nd:Nd} {kt:Sl bI} {kl:Sl aS} (ka Oc:Sl aF)
def IE(r r':sI):Prop:=XN r=XN r'∧ktQ r=ktQ r'∧klQ r=klQ r'
theorem aE7(n:Nd)(k:Sl aF)(t:Sl bI)(l:Sl aS):XN (D9 n k t l)=n:=rfl
theorem aE5(n:Nd)(k:Sl aF)(t:Sl bI)(l:Sl aS):ktQ (D9 n k t l)=t:=rfl
theorem aE4(n:Nd)(k:Sl aF)(t:Sl bI)(l:Sl aS):klQ (D9 n k t l)=l:=rfl
theorem aE1(n:Nd)(t:Sl bI)(l:Sl aS):IE (D9 n ka t l) (D9 n Oc t l):=by
 unfold IE;rw[aE7,aE7,aE5,aE5,aE4,aE4];exact⟨rfl,rfl,rfl⟩
theorem aEP(r:sI):IE r r:=⟨rfl,rfl,rfl⟩
theorem aE3: ∀(k:Nat) (v:Int),(vM nd ka kt kl k v).1=(vM nd Oc kt kl k v).1∧IE (vM nd ka kt kl k v).2 (vM nd Oc kt kl k v).2
 |0,_=>by
  rw[vM,vM];exact⟨rfl,aEP _⟩
 |k+1,v=>by
  rw[vM,vM]
  cases decide (v>nd.co)<;>simp only[aCJ,aCI]
  ·exact⟨trivial,aEP _⟩
  ·cases yp nd v<;>simp only[aCJ,aCI]
   ·exact aE3 k _
   ·exact⟨trivial,aE1 ka Oc _ _ _⟩
theorem aFk:tM nd ka kt kl=tM nd Oc kt kl∧yo nd ka kt kl=yo nd Oc kt kl∧yn nd ka kt kl=yn nd Oc kt kl:=by
 obtain⟨h1,h2,h3,h4⟩:=aE3 (nd:=nd) (kt:=kt) (kl:=kl) ka Oc ((toNat ((cy nd)-nd.co))+1) (cy nd);unfold tM yo yn rq;rw[h1,h2,h3,h4];exact⟨rfl,rfl,rfl⟩
theorem aE2: ∀(k:Nat) (v:Int) (a:Sl Int) (b:Int),((rf ms nd ka kt kl k v a b).1=(rf ms nd Oc kt kl k v a b).1∧(rf ms nd ka kt kl k v a b).2.1=(rf ms nd Oc kt kl k v a b).2.1∧(rf ms nd ka kt kl k v a b).2.2.1=(rf ms nd Oc kt kl k v a b).2.2.1)∧IE (rf ms nd ka kt kl k v a b).2.2.2 (rf ms nd Oc kt kl k v a b).2.2.2
 |0,_,_,_=>by
  rw[rf,rf];exact⟨⟨rfl,rfl,rfl⟩,aEP _⟩
 |k+1,v,a,b=>by
  rw[rf,rf];generalize decide (v≤_)=c
  cases c<;>simp only[aCJ,aCI]
  ·exact⟨⟨trivial,trivial,trivial⟩,aEP _⟩
  ·generalize lB _ _=d
   cases d<;>simp only[Bool.not_true,Bool.not_false,aCJ,aCI]
   ·exact⟨⟨trivial,trivial,trivial⟩,aE1 ka Oc _ _ _⟩
   ·exact aE2 k _ _ _
theorem aFi:xU ms nd ka kt kl=xU ms nd Oc kt kl∧GG ms nd ka kt kl=GG ms nd Oc kt kl∧GF ms nd ka kt kl=GF ms nd Oc kt kl:=by
 obtain⟨⟨h1,h2,h3⟩,h4,h5,h6⟩:=aE2 (ms:=ms) (nd:=nd) (kt:=kt) (kl:=kl) ka Oc ((toNat ((i64.wrap ((bZ nd.lb nd.lt nd.li ms.c4 ms.c5 ms.c8)+((bT nd.lb nd.lt nd.li ms.c4 ms.c5 ms.c8).n:Int)))+1- (d_ nd.lb nd.lt nd.li ms.c4 ms.c5 ms.c8)))+1) (d_ nd.lb nd.lt nd.li ms.c4 ms.c5 ms.c8) nd.td nd.ts;have e: ∀k:Sl aF,o5 ms nd k kt kl=rf ms nd k kt kl ((toNat ((i64.wrap ((bZ nd.lb nd.lt nd.li ms.c4 ms.c5 ms.c8)+((bT nd.lb nd.lt nd.li ms.c4 ms.c5 ms.c8).n:Int)))+1- (d_ nd.lb nd.lt nd.li ms.c4 ms.c5 ms.c8)))+1) (d_ nd.lb nd.lt nd.li ms.c4 ms.c5 ms.c8) nd.td nd.ts:=fun _=>rfl;rw[←e,←e]at h1 h2 h3 h4 h5 h6;have k3:rl ms nd ka kt kl=rl ms nd Oc kt kl:=by unfold rl LO;rw[h1]
 have k4:LP ms nd ka kt kl=LP ms nd Oc kt kl:=by unfold LP UB arl;rw[h2,h3]
 unfold xU GG GF;rw[k3,k4,h4,h5,h6];exact⟨rfl,rfl,rfl⟩
theorem aFj:xW ms nd ka kt kl=xW ms nd Oc kt kl∧GR ms nd ka kt kl=GR ms nd Oc kt kl∧GQ ms nd ka kt kl=GQ ms nd Oc kt kl:=by
 unfold xW GR GQ UC UF UE;obtain⟨h1,h2,h3⟩:=aFk (nd:=GU (toNat ms.c0) ms nd) (kt:=kt) (kl:=kl) ka Oc;rw[h1,h2,h3];exact⟨rfl,rfl,rfl⟩
theorem aFh{i j:Nat} :vE i j ms nd ka kt kl=vE i j ms nd Oc kt kl∧B_ i j ms nd ka kt kl=B_ i j ms nd Oc kt kl∧B9 i j ms nd ka kt kl=B9 i j ms nd Oc kt kl:=by
 have h (m:aF) (n:Nd):=aFi (ms:=m) (nd:=n) (kt:=kt) (kl:=kl) ka Oc;have k (m:aF) (n:Nd):=aFj (ms:=m) (nd:=n) (kt:=kt) (kl:=kl) ka Oc;unfold vE B_ B9;rw[(h _ _).1,(h _ _).2.1,(h _ _).2.2,(k _ _).1,(k _ _).2.1,(k _ _).2.2];exact⟨rfl,rfl,rfl⟩
end
def upA(C:Cr)(D:Sl aF):Cr:={C with ax:=D}
theorem aFv(C:Cr)(D:Sl aF)(i:Nat)(n:Nd)(ka:Sl aF)(kt:Sl bI)(kl:Sl aS):(upA C D).put i n ka kt kl=upA (C.put i n C.ax kt kl) ka:=by
 match i with
 |0=>rfl
 |1=>rfl
 |i+2=>rfl
theorem aFG{C:Cr}{ms:aF}(D:Sl aF)(hn: ∀i,bM (C.nd i))(hm:ie ms):nG (upA C D) ms=upA (nG C ms) D:=by
 have h1:=hm.fr;have h2:=hm.to;unfold nG Oy;generalize hi:toNat ms.c1=i;generalize hj:toNat ms.c0=j;have hni:(upA C D).nd i=C.nd i:=aEG C D i;have e:=aFh (ms:=ms) (nd:=C.nd i) (kt:=C.told) (kl:=C.aY) (i:=i) (j:=j) D C.ax;have a1:=(atV (i:=i) (j:=j) (ms:=ms) (ka:=D) (kt:=C.told) (kl:=C.aY) (hn i) hm (by omega) (by omega)).a;have a2:=(atV (i:=i) (j:=j) (ms:=ms) (ka:=C.ax) (kt:=C.told) (kl:=C.aY) (hn i) hm (by omega) (by omega)).a;rw[hni,aFv];show upA (C.put i (vE i j ms (C.nd i) D C.told C.aY) C.ax (B_ i j ms (C.nd i) D C.told C.aY) (B9 i j ms (C.nd i) D C.told C.aY)) (B8 i j ms (C.nd i) D C.told C.aY)=_;rw[a1,a2,e.1,e.2.1,e.2.2]
def aEE(C:Cr)(l:List aF):Cr:=l.foldl nG C
structure aEQ (k:Nat) (X:Cr):Prop where
 j: ∀i,bM (X.nd i)
 w: ∀i,(X.nd i).ws.n≤k
theorem aFf{k:Nat}{X:Cr}(h:aEQ k X){ms:aF}(hm:ie ms):aEQ k (nG X ms):=⟨(Zx h.j hm).j,aj7 h.j hm h.w⟩
theorem aEY{ka:Sl aF}(hn:ka.n≤300): ∀(m fu v:Nat) (X:Cr),v+m=ka.n→m≤fu→bR (B5 ka (fu+1) (v:Int) X)=aEE X (ka.B.drop v)
 |0,fu,v,X,hm,hf=>by
  rw[B5,cq (show¬(v:Int)<(ka.n:Int) by omega),aCI,Si,List.drop_eq_nil_of_le (by rw[eJ];omega)];rfl
 |m+1,fu,v,X,hm,hf=>by
  obtain⟨fu,rfl⟩: ∃q,fu=q+1:=⟨fu-1,by omega⟩;rw[B5,cx (show(v:Int)<(ka.n:Int) by omega),aCJ,aq _,akp (by omega)];exact aEY hn m fu (v+1) _ (by omega) (by omega)
theorem aEX{k:Nat}{C:Cr}(h:iN k C):Gk C.ax C=aEE (upA C al) C.ax.B:=by
 have q:=aEY h.an C.ax.n (toNat ((C.ax.n:Int)- (0:Int))) 0 (upA C al) (by omega) (by omega);rw[List.drop_zero]at q;exact q
def aEJ(C:Cr):Nat→Cr
 |0=>C
 |k+1=>aEI (aEJ C k) 0
theorem aFg{s:Sl aF}{k:Nat}{l:List aF}(h:s.B=l.drop k)(hk:k<l.length):s.at' 0=l[k]∧(Sl.del s 0 1).B=l.drop (k+1)∧s.n=l.length-k:=by
 have hn:s.n=l.length-k:=by rw[←eJ,h,aEc]
 refine⟨?_,?_,hn⟩
 ·have:=qE s (i:=0) (by omega);rw[h,aDv,aDl,aCP hk]at this;exact(aDZ this).symm
 ·apply aD_;intro i
  by_cases c:i<s.n-1
  ·rw[qE _ (show i<(Sl.del s 0 1).n from c),aDv];have:=qE s (i:=i+1) (by omega);rw[h,aDv]at this;rw[show k+1+i=k+(i+1) by omega,this];rfl
  ·rw[aCW (by rw[eJ];show s.n- (1-0)≤i;omega),aCW (by rw[aEc];omega)]
theorem aFc{k0:Nat}{C:Cr}(h:iN k0 C): ∀k,k≤C.ax.n→ ∃D:Sl aF,aEJ C k=upA (aEE (upA C al) (C.ax.B.take k)) D∧D.B=C.ax.B.drop k∧aEQ k0 (aEE (upA C al) (C.ax.B.take k))
 |0,_=>let z6:=upA C al;⟨C.ax,rfl,rfl,⟨fun i=>by show bM (z6.nd i);rw[show z6.nd i=C.nd i from aEG C al i];exact h.j i,fun i=>by show(z6.nd i).ws.n≤k0;rw[show z6.nd i=C.nd i from aEG C al i];exact h.wn i⟩⟩
 |k+1,hk=>by
  obtain⟨D,e,hD,hJ⟩:=aFc h k (by omega);have hl:k<C.ax.B.length:=by rw[eJ];omega
  obtain⟨d1,d2,d3⟩:=aFg hD hl;have hm:ie (C.ax.B[k]):=by
   have g:=qE C.ax (i:=k) (by omega);rw[aCP hl]at g;rw[aDZ g];exact h.aw _ (by omega)
  have hc:aEE (upA C al) (C.ax.B.take (k+1))=nG (aEE (upA C al) (C.ax.B.take k)) (C.ax.B[k]):=by
   unfold aEE;rw[List.take_add_one,aCP hl,List.foldl_append];rfl
  refine⟨Sl.del D 0 1,?_,d2,by rw[hc];exact aFf hJ hm⟩;show aEI (aEJ C k) 0=_;rw[e,hc,←aFG _ hJ.j hm];unfold aEI;rw[show(upA (aEE (upA C al) (C.ax.B.take k)) D).ax=D from rfl,show toNat 0=0 from rfl,d1];rfl
theorem aFN{k0:Nat}{C:Cr}(h:iN k0 C):views (Gk C.ax C)=views (aEJ C C.ax.n)∧(Gk C.ax C).told=(aEJ C C.ax.n).told∧(aEJ C C.ax.n).ax.n=0:=by
 obtain⟨D,e,hD,hJ⟩:=aFc h C.ax.n (aCK _);have hf:=aEX h;have ht:C.ax.B.take C.ax.n=C.ax.B:=by rw[←eJ C.ax];exact List.take_length ..
 rw[ht]at e;have hn:D.n=0:=by rw[←eJ,hD,aEc,eJ];omega
 rw[e,hf];exact⟨rfl,rfl,hn⟩
section
variable(x0:Sl jg)
def aCF(ak:Int):Bool:=(bif(decide (ak<(Cu (gY x0 80))))then(decide (ak<300))else false)
def aFO(x0:Sl jg):Nat→Sl aK→Int→Sl aK
 |0,_,_=>default
 |k+1,af,ak=>(bif(aCF x0 ak)then(aFO x0 k (m_ af (Sl.lit ([(⟨6,0,0,0,0,0,⟨#[]⟩,⟨#[]⟩,⟨#[]⟩,0⟩:aK)]:List aK))) (i64.wrap (ak+1)))else af)
def Lh:Sl aK:=aFO x0 ((toNat (300-0))+1) (gY x0 80) 0
theorem aFR{x0:Sl jg}(h:ve x0): ∀(m fu j:Nat) (s:Sl aK),j+m=(iR (gY x0 80).B).ax.n→m≤fu→lg s→s.n≤80+j→iR s.B=aEJ (iR (gY x0 80).B) j→
  lg (aFO x0 (fu+1) s (j:Int))∧iR (aFO x0 (fu+1) s (j:Int)).B=aEJ (iR (gY x0 80).B) (iR (gY x0 80).B).ax.n
 |0,fu,j,s,hj,_,ok,_,hc=>by
  have e:aCF x0 (j:Int)=false:=by
   unfold aCF;rw[(aEU h).1,cq (by omega)];rfl
  rw[aFO,e,aCI];refine⟨ok,?_⟩;rw[hc,show j=(iR (gY x0 80).B).ax.n by omega]
 |m+1,fu,j,s,hj,hf,ok,hn,hc=>by
  obtain⟨q,rfl⟩: ∃q,fu=q+1:=⟨fu-1,by omega⟩;have hJ:=abt (ay4 h).1;have an:=hJ.an;have e:aCF x0 (j:Int)=true:=by
   unfold aCF;rw[(aEU h).1,cx (by omega),cx (by omega)];rfl
  rw[aFO,e,aCJ,aq _];obtain⟨D,eD,hD,_⟩:=aFc hJ j (by omega);have hz:0<(aEJ (iR (gY x0 80).B) j).ax.n:=by
   rw[eD];show 0<D.n;rw[←eJ D,hD,aEc,eJ];omega
  have r:=aFR h m q (j+1) (m_ s (Sl.lit ([(⟨6,0,0,0,0,0,⟨#[]⟩,⟨#[]⟩,⟨#[]⟩,0⟩:aK)]:List aK))) (by omega) (by omega) (ay5 ok (by omega) (aET (by omega))) (by rw[aE6];show s.n+1≤_;omega) (by
   rw[aoy,hc,aFb (a:=⟨6,0,0,0,0,0,⟨#[]⟩,⟨#[]⟩,⟨#[]⟩,0⟩) rfl (aCT 0) hz];show aEI _ ((0:Int).tmod _)=aEI _ 0;rw[Int.zero_tmod])
  exact r
theorem aFQ{k:Nat} : ∀(l:List aF) (X:Cr),aEQ k X→(∀m∈l,ie m)→(aEE X l).ax=X.ax
 |[],_,_,_=>rfl
 |m::l,X,h,hm=>by
  have h1:=hm m List.mem_cons_self;show(aEE (nG X m) l).ax=_;rw[aFQ l _ (aFf h h1) fun x hx=>hm x (List.mem_cons_of_mem _ hx)];exact(Zx h.j h1).a
theorem aFX{k:Nat}{C:Cr}(h:iN k C):(Gk C.ax C).ax.n=0:=by
 rw[aEX h];obtain⟨_,_,_,hJ⟩:=aFc h 0 (aCQ _);have hJ:aEQ k (upA C al):=hJ;rw[aFQ C.ax.B _ hJ]
 ·rfl
 ·intro m hm;obtain⟨i,hi⟩:=aDJ hm;have hl:i<C.ax.n:=by
   rw[←eJ C.ax];exact(aDc.1 hi).1
  rw[qE C.ax hl]at hi;rw[←aDZ hi];exact h.aw i hl
theorem aFS{x0:Sl jg}(h:ve x0):lg (gY x0 80)∧lg (m_ (gY x0 80) (Sl.lit ([(⟨12,0,0,0,0,0,⟨#[]⟩,⟨#[]⟩,⟨#[]⟩,0⟩:aK)]:List aK)))∧lg (Lh x0)∧
  views (iR (m_ (gY x0 80) (Sl.lit ([(⟨12,0,0,0,0,0,⟨#[]⟩,⟨#[]⟩,⟨#[]⟩,0⟩:aK)]:List aK))).B)=views (iR (Lh x0).B)∧
  (iR (m_ (gY x0 80) (Sl.lit ([(⟨12,0,0,0,0,0,⟨#[]⟩,⟨#[]⟩,⟨#[]⟩,0⟩:aK)]:List aK))).B).told=(iR (Lh x0).B).told∧
  (iR (m_ (gY x0 80) (Sl.lit ([(⟨12,0,0,0,0,0,⟨#[]⟩,⟨#[]⟩,⟨#[]⟩,0⟩:aK)]:List aK))).B).ax.n=0∧(iR (Lh x0).B).ax.n=0:=by
 obtain⟨hA,hn⟩:=ay4 h;have hJ:=abt hA;have an:=hJ.an;obtain⟨r1,r2⟩:=aFR h (iR (gY x0 80).B).ax.n 300 0 (gY x0 80) (by omega) an hA (by omega) rfl;have hr:Lh x0=aFO x0 (300+1) (gY x0 80) ((0:Nat):Int):=rfl;rw[←hr]at r1 r2;obtain⟨f1,f2,f3⟩:=aFN hJ;refine⟨hA,ay5 hA (by omega) aFV,r1,?_⟩;rw[aoy,aF4 (a:=⟨12,0,0,0,0,0,⟨#[]⟩,⟨#[]⟩,⟨#[]⟩,0⟩) rfl,r2];exact⟨f1,f2,aFX hJ,f3⟩
theorem aFW{x0:Sl jg}(h:ve x0):wV (vO (m_ (gY x0 80) (Sl.lit ([(⟨12,0,0,0,0,0,⟨#[]⟩,⟨#[]⟩,⟨#[]⟩,0⟩:aK)]:List aK)))) (vO (Lh x0)):=by
 obtain⟨_,hB,hC,hv,_⟩:=aFS h;exact ao6 hB hC hv
def aFT:Bool:=(bif(yz (gY x0 80))then(bif(yz (m_ (gY x0 80) (Sl.lit ([(⟨12,0,0,0,0,0,⟨#[]⟩,⟨#[]⟩,⟨#[]⟩,0⟩:aK)]:List aK))))then(bif(yz (Lh x0))then(bif((Cu (m_ (gY x0 80) (Sl.lit ([(⟨12,0,0,0,0,0,⟨#[]⟩,⟨#[]⟩,⟨#[]⟩,0⟩:aK)]:List aK))))==0)then(bif((Cu (Lh x0))==0)then(bif true then(((L5 (m_ (gY x0 80) (Sl.lit ([(⟨12,0,0,0,0,0,⟨#[]⟩,⟨#[]⟩,⟨#[]⟩,0⟩:aK)]:List aK)))).n:Int)==((L5 (Lh x0)).n:Int))else false)else false)else false)else false)else false)else false)
def aFP:Bool:=(aFT x0)
def aFU:Fq:=⟨[.v (.sl PH)],fun x0=>⟨⟨some (ve x0),.bool (aFP x0)⟩⟩⟩
theorem aF0:Jl 9 aFU:=
 fun x0 n0 _ hp=>bj ⟨.pure,[.tmp 2],[(.t 0,kB)],⟨[U],[]⟩⟩ (.ai (.ai (.ai (.ai (.j ⟨108,[],[],[],.f⟩ (.ai (.lp ⟨252,[],[(.t 6,mR)],[(.t 6,.sl mR),(.t 7,kI)],some 0,false,108,[.b 1],[(.t 6,.sl mR)],fun k (s:Sl aK×Int)=>aFO x0 k s.1 s.2,.f,fun(s:Sl aK×Int)=>((0≤s.2∧s.2≤300)∧(s.1.n:Int)≤100+s.2),fun(s:Sl aK×Int)=>(toNat (300-s.2)),none⟩ (.s (.j ⟨166723836,[],[(.t 24,kB),(.t 27,kB)],[],.f⟩ .z .z) (.ai (.cv [(.t 6,mR)]))))) (.ai (.ai (.j ⟨4,[.b 0,.b 1,.b 2,.b 3,.b 4],[(.t 2,kB)],[],.f⟩ .z .z)))))))) (let za:=gY x0 80;let z6:=m_ za (Sl.lit ([(⟨12,0,0,0,0,0,⟨#[]⟩,⟨#[]⟩,⟨#[]⟩,0⟩:aK)]:List aK));((((0≤(0:Int)∧(0:Int)≤300)∧(za.n:Int)≤100+(0:Int)))∧(∀(af:Sl aK) (ak:Int),let z8:=i64.wrap (ak+1);((0≤ak∧ak≤300)∧(af.n:Int)≤100+ak)→(((aCF x0 ak)=true→((af.n:Int)+1≤549755813888))∧((aCF x0 ak)=true→(((0≤z8∧z8≤300)∧(((m_ af (Sl.lit ([(⟨6,0,0,0,0,0,⟨#[]⟩,⟨#[]⟩,⟨#[]⟩,0⟩:aK)]:List aK))).n:Nat):Int)≤100+z8)∧(toNat (300-z8))<(toNat (300-ak)))))))∧(((za.n:Int)+1≤549755813888)∧((yz za)=true→((yz z6)=true→((yz (Lh x0))=true→(((Cu z6)==0)=true→(((Cu (Lh x0))==0)=true→(wV (vO z6) (vO (Lh x0)))))))))) (bU (aH av2 (aH av3 (aH av4 (aH av6 aQ))))) Tryz.func9 (⟨⟨(by have:=ayk x0 80;omega),(fun af ak dX=>⟨(fun h2=>(by have:=h2;(try simp [aCF]at this);omega)),(fun h3=>(by have:=h3;(try simp [aCF]at this);have:(Sl.lit ([(⟨6,0,0,0,0,0,⟨#[]⟩,⟨#[]⟩,⟨#[]⟩,0⟩:aK)]:List aK)).n=1:=rfl;have:=aE6 af (Sl.lit ([(⟨6,0,0,0,0,0,⟨#[]⟩,⟨#[]⟩,⟨#[]⟩,0⟩:aK)]:List aK));(try simp only[Sl.pz,Sl.nA,Sl.An,Sl.ajf,Sl.aj5,Sl.aBU,Sl.aBY,DN,aC7,aDf]);first|omega|(have:=aq (ak+1);omega)))⟩)⟩,⟨(by have:=ayk x0 80;omega),(fun h4=>(fun h5=>(fun h6=>(fun h7=>(fun h8=>(aFW hp))))))⟩⟩)
end
theorem aFZ(x0:Sl jg)(_:Canon x0)(_:x0.n≤1048576)(h:ve x0):aFP x0=true:=by
 obtain⟨hA,hB,hC,_,ht,ha,hz⟩:=aFS h;unfold aFP aFT;rw[ai6 hA,ai6 hB,ai6 hC,ai7 hB,ai7 hC,ai8 hB,ai8 hC,ha,hz,ht];simp
end Go.Proofs.YtfmgjpcmcjjoiaaGreatDoor
namespace Go.Proofs.YtfmgjpcmcjjoiaaGreatDoor
open Go Go.ChangeAt Go.ChangeShapes Go.RowKit Go.Vc Go.WideShapes
theorem Vn:Tryz.prog.globalNamed "rostrum/client.nothing" =some 0:=by kernel_rfl
theorem ar3:(Tryz.prog.globals[0]?).map (·.type)=some 34:=by kernel_rfl
theorem ayw{W:World}(h:laidMetH Tryz.prog [("rostrum/client.nothing",Rows.laid_rostrum_client_nothing)] W):W.var? Tryz.prog "rostrum/client.nothing" =some #[.int .i64 22,.string ⟨#[]⟩,.string ⟨#[]⟩,.string ⟨#[]⟩,.int .i64 0]:=by
 have h:laidMet Tryz.prog [("rostrum/client.nothing",Rows.laid_rostrum_client_nothing)] W:=h
 obtain⟨ps,⟨g',t',cs,fuel,p,q,hg',Wr,atx,hd,_,_⟩,_⟩:=h;obtain rfl:=aDZ (Vn.symm.trans hg');obtain rfl:=aDZ (ar3.symm.trans Wr);obtain⟨xs,m,_,hx,hlen,hxl,pS⟩:=DataW.trod_struct Tryz.underlying34 hd;have pc:=congrArg Prod.fst hx;simp only[Rows.laid_rostrum_client_nothing,DataW.agg.injEq]at pc;have hc:Tryz.prog.cellsOf 34=5:=by kernel_rfl
 rw[hc]at hlen;have key: ∀(i:Nat) (f:Field) (x:DataW Unit),(Tryz.prog.underlying 34).map (fun d=>match d with| .struct fs=>fs[i]? |_=>none)=some (some f)→(xs.map (·.1))[i]? =some x→ ∃y,DataW.trod (fun _=>()) Tryz.prog W 0 (fun _=>true) false m f.type ((cs.toList.drop f.offset).take (Tryz.prog.cellsOf f.type))=some y∧y.1=x:=by
  intro i f x hf hx;rw[Tryz.underlying34]at hf;have hf:=aDZ hf;have:=pS i f hf;rw[aC4,aDo]at hx;obtain⟨y,hy,rfl⟩:=hx;exact⟨y,this.trans hy,rfl⟩
 have c1:Tryz.prog.cellsOf 3=1:=by kernel_rfl
 have c2:Tryz.prog.cellsOf 9=1:=by kernel_rfl
 have int: ∀(i:Nat) (f:Field) (n:Int),f.type=3→f.offset=i→(Tryz.prog.underlying 34).map (fun d=>match d with| .struct fs=>fs[i]? |_=>none)=some (some f)→(xs.map (·.1))[i]? =some (.lit (.int .i64 n))→cs.toList[i]? =some (.int .i64 n):=by
  intro i f n e1 e2 hf hx;obtain⟨y,hy,wu⟩:=key i f _ hf hx;rw[e1,e2,c1]at hy;obtain⟨z,hz,rfl,_⟩:=DataW.trod_int (show Tryz.prog.underlying 3=some (.int .i64) by kernel_rfl) hy;simp only[DataW.lit.injEq,Lit.int.injEq,true_and]at wu;subst wu;have:=congrArg (·[0]?) hz;simpa[aEv,aDv]using this
 have str: ∀(i:Nat) (f:Field),f.type=9→f.offset=i→(Tryz.prog.underlying 34).map (fun d=>match d with| .struct fs=>fs[i]? |_=>none)=some (some f)→(xs.map (·.1))[i]? =some (.lit (.string []))→cs.toList[i]? =some (.string ⟨#[]⟩):=by
  intro i f e1 e2 hf hx;obtain⟨y,hy,wu⟩:=key i f _ hf hx;rw[e1,e2,c2]at hy;obtain⟨z,hz,rfl,_⟩:=DataW.trod_string (show Tryz.prog.underlying 9=some .string by kernel_rfl) hy;simp only[DataW.lit.injEq,Lit.string.injEq]at wu;have qb:z=⟨#[]⟩:=by
   obtain⟨⟨l⟩⟩:=z;simp only at wu;subst wu;rfl
  subst qb;have:=congrArg (·[0]?) hz;simpa[aEv,aDv]using this
 have x0:=int 0 _ 22 rfl rfl (by rw[Tryz.underlying34];rfl) (by rw[←pc];rfl);have x1:=str 1 _ rfl rfl (by rw[Tryz.underlying34];rfl) (by rw[←pc];rfl);have x2:=str 2 _ rfl rfl (by rw[Tryz.underlying34];rfl) (by rw[←pc];rfl);have x3:=str 3 _ rfl rfl (by rw[Tryz.underlying34];rfl) (by rw[←pc];rfl);have x4:=int 4 _ 0 rfl rfl (by rw[Tryz.underlying34];rfl) (by rw[←pc];rfl);rw[atx];obtain⟨l⟩:=cs;simp only at hlen x0 x1 x2 x3 x4
 match l,hlen with
 |[a,b,c,d,e],_=>
  simp at x0 x1 x2 x3 x4;subst x0 x1 x2 x3 x4;rfl
theorem ayx{W:World}(h:laidMetH Tryz.prog [("rostrum/client.nothing",Rows.laid_rostrum_client_nothing)] W):Ee W (fun y=>y<W.heap.size):=by
 have hv:=ayw h;refine⟨fun _ h=>h,fun g=> ?_⟩
 cases g with
 |succ g=>exact .inl rfl
 |zero=>
  refine .inr ?_;have hc:=fun i=>World.var?_cell Vn hv i;have cI:0<W.heap.size:=by
   have h0:=hc 0;rcases aDW W.heap.size with e|e
   ·have:W.heap[0]? =none:=aEz (by omega);unfold World.var? at hv;rw[Vn]at hv;simp only[Option.bind_some,this]at hv
    cases hv
   ·exact e
  refine aR.ref _ 0 0 (fun j=>([.int .i64 22,.str ⟨#[]⟩,.str ⟨#[]⟩,.str ⟨#[]⟩,.int .i64 0]:List AV).getD j .undef) (fun j=>([.int .i64 22,.string ⟨#[]⟩,.string ⟨#[]⟩,.string ⟨#[]⟩,.int .i64 0]:List Value).getD j undef) cI ?_ ?_ ?_
  ·intro j hj;have hj:j<5:=hj
   match j,hj with
   |0,_=>rfl
   |1,_=>rfl
   |2,_=>rfl
   |3,_=>rfl
   |4,_=>rfl
  ·intro j hj;have hj:j<5:=hj;rw[aCO,hc j]
   match j,hj with
   |0,_=>rfl
   |1,_=>rfl
   |2,_=>rfl
   |3,_=>rfl
   |4,_=>rfl
  ·intro j hj;have hj:j<5:=hj
   match j,hj with
   |0,_=>exact .int _ _
   |1,_=>exact .str _ (aCQ _)
   |2,_=>exact .str _ (aCQ _)
   |3,_=>exact .str _ (aCQ _)
   |4,_=>exact .int _ _
theorem aF1:Pj Tryz.prog 1048576 12 [22] fun xs=>fk Tryz.prog 9 xs (.bool true):=by
 refine Eq.mpr (β:= ∀(m0:Nat) (f0:Nat→List AV),m0≤1048576→(∀i,m0≤i→f0 i=[.int .i64 0,.int .i64 0,.int .i64 0,.int .i64 0,.int .i64 0,.int .i64 0,.int .i64 0,.str ⟨#[]⟩])→(∀i,i<m0→ ∀K:List AV→Prop,(∀x0:Int,(Lit.int .i64 x0).wf=true→ ∀x1:Int,(Lit.int .i64 x1).wf=true→ ∀x2:Int,(Lit.int .i64 x2).wf=true→ ∀x3:Int,(Lit.int .i64 x3).wf=true→ ∀x4:Int,(Lit.int .i64 x4).wf=true→ ∀x5:Int,(Lit.int .i64 x5).wf=true→ ∀x6:Int,(Lit.int .i64 x6).wf=true→ ∀x7:ByteArray,x7.size≤1048576→K [.int .i64 x0,.int .i64 x1,.int .i64 x2,.int .i64 x3,.int .i64 x4,.int .i64 x5,.int .i64 x6,.str x7])→K (f0 i))→fk Tryz.prog 9 [.arr 8 m0 f0] (.bool true)) (by kernel_rfl) ?_;intro m0 f0 HN hd0 M6;have q0: ∀i,i<m0→f0 i=A9 (nM (f0 i)):=fun i hi=>M6 i hi (fun l=>l=A9 (nM l)) (fun _ _ _ _ _ _ _ _ _ _ _ _ _ _ _ _=>rfl);have e0: ∀i,i<m0→f0 i=A9 (nM (f0 i)):=fun i hi=>q0 i hi;have c0:Canon (ja nM (.arr 8 m0 f0)):=fun i hi=>by
  show nM (f0 i)=default;rw[hd0 i hi];rfl
 have z0:ve (ja nM (.arr 8 m0 f0)):=⟨(by show m0≤_;omega),fun j hj=>by
  exact M6 j hj (fun l=>Qu (nM l)) (fun x0 r0 x1 r1 x2 r2 x3 r3 x4 r4 x5 r5 x6 r6 x7 r7=>⟨AB r0,AB r1,AB r2,AB r3,AB r6⟩)⟩
 have h0:fk Tryz.prog 9 [aL 8 A9 (ja nM (.arr 8 m0 f0))] (.bool (aFP (ja nM (.arr 8 m0 f0)))):=fk.nO fun hf=>aF0 (ja nM (.arr 8 m0 f0)) (by show _≤_;simp only[ja];omega) hf.1 z0;have h:=h0.aj9 (l1 (aAC rfl e0) l0);rw[aFZ (ja nM (.arr 8 m0 f0)) c0 HN z0]at h;exact h
def Xq(os:Os):World:=
 {World.holding Tryz.prog os ⟨#[],#[],[]⟩with heap:=(World.holding Tryz.prog os ⟨#[],#[],[]⟩).heap.modify 0 fun
   | .cells _ t frozen=> .cells #[.int .i64 22,.string ⟨#[]⟩,.string ⟨#[]⟩,.string ⟨#[]⟩,.int .i64 0] t frozen
   |o=>o}
theorem aw1(os:Os):laidMet Tryz.prog Rows.topFlowUptoRow.laid ((Xq os).forCall (fun _ _=>0) ⟨#[],#[.slice none 0 0],[]⟩).memory:=
 laidMet_of_run' 8 (by kernel_rfl) (by kernel_rfl)
theorem aw5(os:Os){H:Type}(enc:TypeId×Value→H): ∃places,DataW.whole enc Tryz.prog ((Xq os).forCall (fun _ _=>0) ⟨#[],#[.slice none 0 0],[]⟩).memory Tryz.f9.params.toList Rows.topFlowSpec.vars false (#[.slice none 0 0]:Array Value).toList 8=some ([.nil],[],places):=
 ⟨[],by kernel_rfl⟩
theorem aF2(os:Os)(started:os.Started)(H:Type)(enc:TypeId×Value→H)(F:Stop.Interp):
  ReturnsInHanded {} Tryz.checked os 9 .any ((Rows.OpenSpec.upto Rows.topFlowSpec).preRow enc Tryz.prog Tryz.f9 Rows.topFlowUptoRow.domain false Rows.topFlowUptoRow.laid) (((Rows.OpenSpec.upto Rows.topFlowSpec).at F).post enc Tryz.prog Tryz.f9 false true false false):=by
 obtain⟨places,hx⟩:=aw5 os enc;refine returnsInHanded_of_row (C:=Tryz.checked) (s:=Rows.OpenSpec.upto Rows.topFlowSpec) Tryz.own started (by kernel_rfl) Tryz.func9
  (witness_row_at (enc:=enc) (C:=Tryz.checked) false (Xq os) #[.slice none 0 0] rfl (by kernel_rfl) (by kernel_rfl) (by kernel_rfl)
   (OpenSpec.preRow_of_cond 8 hx (by kernel_rfl) (fun k hk=>by cases hk;kernel_rfl) (by kernel_rfl) (aw1 os))) ?_
 intro W base args ds gs before nt hW _ M3 _ hL _ _;exact aw3 (P:=Tryz.prog) (fn:=Tryz.f9) (s:=Rows.topFlowSpec) (n:=12) (B:=1048576) (jN:=Rows.uptoBulk) (tb:=4) (ts:=[22]) (by decide) (anX H) rfl jf2 (by kernel_rfl) (by kernel_rfl) rfl (by kernel_rfl) rfl (fun ds h=>by
  match ds,h with
  |[d],_=>rfl) aF1 W base args ds gs before nt hW (fun d hd=>anZ (M3 _ rfl) d (by simp [hd])) (ayx hL)
theorem aFY:joinedFacts Tryz.prog 9 Tryz.f9 Rows.topFlowSpec Rows.topFlowUptoRow=true:=
 aug (by kernel_rfl) jf2 jf3 (by kernel_rfl) (by kernel_rfl) rfl jf7 rfl jf9 (by kernel_rfl) (by kernel_rfl) (by kernel_rfl) (by kernel_rfl) (by kernel_rfl) (by kernel_rfl) (by kernel_rfl) (by kernel_rfl) (by kernel_rfl)
  (by kernel_rfl) (by kernel_rfl) (by kernel_rfl) (by kernel_rfl) (by rw[aua];rfl) rfl aub auc (by rw[aud];rfl) (by rw[aue];rfl) (by kernel_rfl) (by kernel_rfl) (by kernel_rfl) (by kernel_rfl)
theorem aF3:Rows.TopFlowUptoSaid:=
 OpenClaim.holds_of_cond 9 Tryz.f9 rfl rfl rfl rfl rfl rfl rfl ⟨rfl,rfl,rfl,rfl,rfl⟩ rfl rfl rfl rfl rfl (by kernel_rfl) Tryz.func9 aFY
  (ay (by kernel_rfl)) (by unfold Func.isWrapper;first|(rw[aCL (by decide+kernel)];kernel_rfl)|(rw[aCM (by decide+kernel)];exact⟨rfl,rfl⟩))
  (fun os started H enc _ F=>by rw[OpenClaim.pre_eq_preRow];exact aF2 os started H enc F)
theorem aw4(f:FuncId)(fn:Func)(hf:Tryz.pinned.checked.prog.funcNamed "rostrum/rostrumtop.TopFlow" =some f)(wg:Tryz.pinned.checked.prog.funcs[f]? =some fn):
  false=Tryz.pinned.checked.prog.looks []∧ ∀(j:Nat) t,fn.params[j]? =some t→Tryz.pinned.checked.prog.wantsStandIn t=false:=by
 obtain rfl:f=9:=aDZ ((show Tryz.prog.funcNamed "rostrum/rostrumtop.TopFlow" =some 9 by kernel_rfl).symm.trans hf)|>.symm
 obtain rfl:fn=Tryz.f9:=(aDZ (Tryz.func9.symm.trans wg)).symm;refine⟨by kernel_rfl,fun j t ht=> ?_⟩;have hm:t∈Tryz.f9.params.toList:=by have:=Array.mem_of_getElem? ht;simpa using this
 have hm:t∈([22]:List Nat):=hm;simp only[aDa,aEb,or_false]at hm;rcases hm with rfl
 ·exact(show Tryz.prog.wantsStandIn 22=false by kernel_rfl)
theorem topFlow_holds:Rows.TopFlowUptoCardSaid:=
 Claim7.holds_tied_plain_at .later [] _ _ _ _ aF3 (fun _ h=>by cases h) (by kernel_rfl) (fun _ h=>by cases h) topFlowUpto_row_tie rfl ⟨rfl,rfl⟩ (by kernel_rfl) rfl aw4 (by kernel_rfl)
end Go.Proofs.YtfmgjpcmcjjoiaaGreatDoor
