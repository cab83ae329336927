/- rostrum/rostrumtop.TopTwice: it answers true, as the document says, for every input whose bulk is at most 1048576; the card ties what client.nothing holds. -/
import Derived.Test.YtfmgjpcmcjjoiaaGreatDoorXc
import Derived.Test.YtfmgjpcmcjjoiaaGreatDoorYe
import Derived.Deep.DeepHandedRow
import Derived.Lib.LaidTab
import Derived.Test.YtfmgjpcmcjjoiaaGreatDoorCards
import Derived.Test.YtfmgjpcmcjjoiaaGreatDoorTie
open Go.IntKind (i64 u64 u8)
open Int (toNat)
set_option maxRecDepth 100000
set_option maxHeartbeats 4000000
set_option linter.all false
noncomputable section
namespace Go.Proofs.YtfmgjpcmcjjoiaaGreatDoor
open Go Go.RowKit Go.ah
section
variable {ms:O} {Z:H} {B:A a7} {G:A aJ} (E b9:A O)
def BS(r a:oN):Prop:=uT r=uT a∧Fj r=Fj a∧Fi r=Fi a
theorem agb(n:H)(k:A O)(t:A a7)(l:A aJ):uT (l6 n k t l)=n:=rfl
theorem afr(n:H)(k:A O)(t:A a7)(l:A aJ):Fj (l6 n k t l)=t:=rfl
theorem afq(n:H)(k:A O)(t:A a7)(l:A aJ):Fi (l6 n k t l)=l:=rfl
theorem aeq(n:H)(t:A a7)(l:A aJ):BS (l6 n E t l) (l6 n b9 t l):=by
 unfold BS;rw[agb,agb,afr,afr,afq,afq];exact⟨rfl,rfl,rfl⟩
theorem KL(r:oN):BS r r:=⟨rfl,rfl,rfl⟩
theorem aes: ∀(k:Nat) (v:Int),(g1 Z E B G k v).1=(g1 Z b9 B G k v).1∧BS (g1 Z E B G k v).2 (g1 Z b9 B G k v).2
 |0,_=>by
  rw[g1,g1];exact⟨rfl,KL _⟩
 |k+1,v=>by
  rw[g1,g1]
  cases decide (v>Z.co)<;>simp only[aN,aQ]
  ·exact⟨trivial,KL _⟩
  ·cases mv Z v<;>simp only[aN,aQ]
   ·exact aes k _
   ·exact⟨trivial,aeq E b9 _ _ _⟩
theorem atY:hB Z E B G=hB Z b9 B G∧jE Z E B G=jE Z b9 B G∧qp Z E B G=qp Z b9 B G:=by
 obtain⟨a,b,c,d⟩:=aes (Z:=Z) (B:=B) (G:=G) E b9 ((toNat ((ck Z)-Z.co))+1) (ck Z);unfold hB jE qp mw;rw[a,b,c,d];exact⟨rfl,rfl,rfl⟩
theorem aer: ∀(k:Nat) (v:Int) (a:A Int) (b:Int),((eT ms Z E B G k v a b).1=(eT ms Z b9 B G k v a b).1∧(eT ms Z E B G k v a b).2.1=(eT ms Z b9 B G k v a b).2.1∧(eT ms Z E B G k v a b).2.2.1=(eT ms Z b9 B G k v a b).2.2.1)∧BS (eT ms Z E B G k v a b).2.2.2 (eT ms Z b9 B G k v a b).2.2.2
 |0,_,_,_=>by
  rw[eT,eT];exact⟨⟨rfl,rfl,rfl⟩,KL _⟩
 |k+1,v,a,b=>by
  rw[eT,eT];generalize decide (v≤_)=c
  cases c<;>simp only[aN,aQ]
  ·exact⟨⟨trivial,trivial,trivial⟩,KL _⟩
  ·generalize gN _ _=d
   cases d<;>simp only[Bool.not_true,Bool.not_false,aN,aQ]
   ·exact⟨⟨trivial,trivial,trivial⟩,aeq E b9 _ _ _⟩
   ·exact aer k _ _ _
theorem atW:ga ms Z E B G=ga ms Z b9 B G∧iA ms Z E B G=iA ms Z b9 B G∧tY ms Z E B G=tY ms Z b9 B G:=by
 obtain⟨⟨a,b,c⟩,d,f,g⟩:=aer (ms:=ms) (Z:=Z) (B:=B) (G:=G) E b9 ((toNat ((i64.wrap ((b6 Z.l Z.lt Z.li ms.p ms.v ms.i)+((b2 Z.l Z.lt Z.li ms.p ms.v ms.i).n:Int)))+1- (c7 Z.l Z.lt Z.li ms.p ms.v ms.i)))+1) (c7 Z.l Z.lt Z.li ms.p ms.v ms.i) Z.bd Z.bh;have e: ∀k:A O,j7 ms Z k B G=eT ms Z k B G ((toNat ((i64.wrap ((b6 Z.l Z.lt Z.li ms.p ms.v ms.i)+((b2 Z.l Z.lt Z.li ms.p ms.v ms.i).n:Int)))+1- (c7 Z.l Z.lt Z.li ms.p ms.v ms.i)))+1) (c7 Z.l Z.lt Z.li ms.p ms.v ms.i) Z.bd Z.bh:=fun _=>rfl;rw[←e,←e]at a b c d f g;have h:hA ms Z E B G=hA ms Z b9 B G:=by unfold hA tZ;rw[a]
 have i:mr ms Z E B G=mr ms Z b9 B G:=by unfold mr D2 Q1;rw[b,c]
 unfold ga iA tY;rw[h,i,d,f,g];exact⟨rfl,rfl,rfl⟩
theorem atX:od ms Z E B G=od ms Z b9 B G∧qm ms Z E B G=qm ms Z b9 B G∧ud ms Z E B G=ud ms Z b9 B G:=by
 unfold od qm ud j8 ng IU;obtain⟨a,b,c⟩:=atY (Z:=lS (toNat ms.j) ms Z) (B:=B) (G:=G) E b9;rw[a,b,c];exact⟨rfl,rfl,rfl⟩
theorem atV{i j:Nat} :iy i j ms Z E B G=iy i j ms Z b9 B G∧jj i j ms Z E B G=jj i j ms Z b9 B G∧qh i j ms Z E B G=qh i j ms Z b9 B G:=by
 have h (m:O) (n:H):=atW (ms:=m) (Z:=n) (B:=B) (G:=G) E b9;have k (m:O) (n:H):=atX (ms:=m) (Z:=n) (B:=B) (G:=G) E b9;unfold iy jj qh;rw[(h _ _).1,(h _ _).2.1,(h _ _).2.2,(k _ _).1,(k _ _).2.1,(k _ _).2.2];exact⟨rfl,rfl,rfl⟩
end
def hH(C:ak)(D:A O):ak:={C with s:=D}
theorem aAN(C:ak)(D:A O)(i:Nat)(n:H)(E:A O)(B:A a7)(G:A aJ):(hH C D).put i n E B G=hH (C.put i n C.s B G) E:=by
 match i with
 |0=>rfl
 |1=>rfl
 |i+2=>rfl
theorem aii{C:ak}{ms:O}(D:A O)(b: ∀i,bW (C.Z i))(a:fu ms):e2 (hH C D) ms=hH (e2 C ms) D:=by
 have g:=a.p0;have h:=a.to;unfold e2 ow;generalize k:toNat ms.ai=i;generalize l:toNat ms.j=j;have f:(hH C D).Z i=C.Z i:=ox C D i;have e:=atV (ms:=ms) (Z:=C.Z i) (B:=C.told) (G:=C.a2) (i:=i) (j:=j) D C.s;have c:=(SW (i:=i) (j:=j) (ms:=ms) (E:=D) (B:=C.told) (G:=C.a2) (b i) a (by omega) (by omega)).a;have d:=(SW (i:=i) (j:=j) (ms:=ms) (E:=C.s) (B:=C.told) (G:=C.a2) (b i) a (by omega) (by omega)).a;rw[f,aAN];show hH (C.put i (iy i j ms (C.Z i) D C.told C.a2) C.s (jj i j ms (C.Z i) D C.told C.a2) (qh i j ms (C.Z i) D C.told C.a2)) (wC i j ms (C.Z i) D C.told C.a2)=_;rw[c,d,e.1,e.2.1,e.2.2]
def nT(C:ak)(l:List O):ak:=l.foldl e2 C
structure BP (k:Nat) (X:ak):Prop where
 j: ∀i,bW (X.Z i)
 w: ∀i,(X.Z i).ws.n≤k
theorem XE{k:Nat}{X:ak}(h:BP k X){ms:O}(a:fu ms):BP k (e2 X ms):=⟨(yz h.j a).j,Vq h.j a h.w⟩
theorem YL{E:A O}(d:E.n≤300): ∀(m a v:Nat) (X:ak),v+m=E.n→m≤a→bc (r7 E (a+1) (v:Int) X)=nT X (E.B.drop v)
 |0,a,v,X,c,b=>by
  rw[r7,bI (show¬(v:Int)<(E.n:Int) by omega),aQ,G2,List.drop_eq_nil_of_le (by rw[dt];omega)];rfl
 |m+1,a,v,X,c,b=>by
  obtain⟨a,rfl⟩: ∃q,a=q+1:=⟨a-1,by omega⟩;rw[r7,bT (show(v:Int)<(E.n:Int) by omega),aN,N _,VE (by omega)];exact YL d m a (v+1) _ (by omega) (by omega)
theorem Hs{k:Nat}{C:ak}(h:fs k C):n_ C.s C=nT (hH C L) C.s.B:=by
 have q:=YL h.jU C.s.n (toNat ((C.s.n:Int)- (0:Int))) 0 (hH C L) (by omega) (by omega);rw[List.drop_zero]at q;exact q
def mN(C:ak):Nat→ak
 |0=>C
 |k+1=>u2 (mN C k) 0
theorem an4{s:A O}{k:Nat}{l:List O}(h:s.B=l.drop k)(a:k<l.length):s.at' 0=l[k]∧(A.del s 0 1).B=l.drop (k+1)∧s.n=l.length-k:=by
 have b:s.n=l.length-k:=by rw[←dt,h,rj]
 refine⟨?_,?_,b⟩
 ·have:=kV s (i:=0) (by omega);rw[h,ht,lA,cT a]at this;exact(eG this).symm
 ·apply yG;intro i
  by_cases c:i<s.n-1
  ·rw[kV _ (show i<(A.del s 0 1).n from c),ht];have:=kV s (i:=i+1) (by omega);rw[h,ht]at this;rw[show k+1+i=k+(i+1) by omega,this];rfl
  ·rw[e0 (by rw[dt];show s.n- (1-0)≤i;omega),e0 (by rw[rj];omega)]
theorem Me{c:Nat}{C:ak}(h:fs c C): ∀k,k≤C.s.n→ ∃D:A O,mN C k=hH (nT (hH C L) (C.s.B.take k)) D∧D.B=C.s.B.drop k∧BP c (nT (hH C L) (C.s.B.take k))
 |0,_=>let a:=hH C L;⟨C.s,rfl,rfl,⟨fun i=>by show bW (a.Z i);rw[show a.Z i=C.Z i from ox C L i];exact h.j i,fun i=>by show(a.Z i).ws.n≤c;rw[show a.Z i=C.Z i from ox C L i];exact h.wn i⟩⟩
 |k+1,o=>by
  obtain⟨D,e,n,d⟩:=Me h k (by omega);have b:k<C.s.B.length:=by rw[dt];omega
  obtain⟨l,m,d3⟩:=an4 n b;have j:fu (C.s.B[k]):=by
   have g:=kV C.s (i:=k) (by omega);rw[cT b]at g;rw[eG g];exact h.tn _ (by omega)
  have f:nT (hH C L) (C.s.B.take (k+1))=e2 (nT (hH C L) (C.s.B.take k)) (C.s.B[k]):=by
   unfold nT;rw[List.take_add_one,cT b,List.foldl_append];rfl
  refine⟨A.del D 0 1,?_,m,by rw[f];exact XE d j⟩;show u2 (mN C k) 0=_;rw[e,f,←aii _ d.j j];unfold u2;rw[show(hH (nT (hH C L) (C.s.B.take k)) D).s=D from rfl,show toNat 0=0 from rfl,l];rfl
theorem ao_{f:Nat}{C:ak}(h:fs f C):views (n_ C.s C)=views (mN C C.s.n)∧(n_ C.s C).told=(mN C C.s.n).told∧(mN C C.s.n).s.n=0:=by
 obtain⟨D,e,a,g⟩:=Me h C.s.n (bx _);have b:=Hs h;have d:C.s.B.take C.s.n=C.s.B:=by rw[←dt C.s];exact List.take_length ..
 rw[d]at e;have c:D.n=0:=by rw[←dt,a,rj,dt];omega
 rw[e,b];exact⟨rfl,rfl,c⟩
def gH(v:dg)(n:H):Prop:=n.up=false∧eF n=v
theorem aAM(C:ak)(a:Nat)(n:H)(E:A O)(B:A a7)(G:A aJ)(i:Nat):(C.put a n E B G).Z i=C.Z i∨((C.put a n E B G).Z i=n∧C.Z a=C.Z i):=by
 match a,i with
 |0,0=>exact .inr ⟨rfl,rfl⟩
 |0,1=>exact .inl rfl
 |0,i+2=>exact .inl rfl
 |1,0=>exact .inl rfl
 |1,1=>exact .inr ⟨rfl,rfl⟩
 |1,i+2=>exact .inl rfl
 |a+2,0=>exact .inl rfl
 |a+2,1=>exact .inl rfl
 |a+2,i+2=>exact .inr ⟨rfl,rfl⟩
theorem tu{v:dg}{C:ak}{a i:Nat}{n:H}{E:A O}{B:A a7}{G:A aJ}(h:gH v (C.Z i))(b:gH v (C.Z a)→gH v n):gH v ((C.put a n E B G).Z i):=by
 rcases aAM C a n E B G i with e|⟨e,f⟩
 ·rw[e];exact h
 ·rw[e];exact b (by rw[f];exact h)
theorem Ct{v:dg}{c:Bool}{a b:H}(d:c=false)(h:gH v b):gH v (H.bif c a b):=by
 rw[H.bV,d];exact h
theorem X3{v:dg}{C:ak}{ms:O}{i:Nat}(h:gH v (C.Z i)):gH v ((e2 C ms).Z i):=by
 unfold e2 ow;refine tu h fun k=> ?_;unfold iy;rw[H.bV,k.1];exact k
theorem X4{v:dg}{i:Nat} : ∀(l:List O) {C:ak},gH v (C.Z i)→gH v ((nT C l).Z i)
 |[],_,h=>h
 |m::l,_,h=>X4 l (X3 h)
theorem an9{k:Nat}{v:dg}{C:ak}{ac:F}{i:Nat}(a:fs k C)(h:gH v (C.Z i))(b:ac.j≠10):gH v ((cw C ac).Z i):=by
 unfold cw;refine eo (P:=fun X=>gH v (X.Z i)) (fun _=> ?_) fun _=>eo (P:=fun X=>gH v (X.Z i)) (fun _=>tu h fun k=>Ct k.1 k) fun _=>eo (P:=fun X=>gH v (X.Z i)) (fun _=>tu h fun k=>Ct k.1 k) fun _=>eo (P:=fun X=>gH v (X.Z i)) (fun _=>tu h fun k=>Ct k.1 k) fun _=>eo (P:=fun X=>gH v (X.Z i)) (fun _=> ?_) fun _=>eo (P:=fun X=>gH v (X.Z i)) (fun _=> ?_) fun _=>eo (P:=fun X=>gH v (X.Z i)) (fun _=> ?_) fun _=>eo (P:=fun X=>gH v (X.Z i)) (fun _=> ?_) fun _=>eo (P:=fun X=>gH v (X.Z i)) (fun _=>tu h fun k=>Ct k.1 k) fun _=>eo (P:=fun X=>gH v (X.Z i)) (fun e=>absurd (eq_of_beq e) b) fun _=>eo (P:=fun X=>gH v (X.Z i)) (fun _=>tu h fun k=>Ct k.1 k) fun _=> ?_
 ·refine tu h fun k=> ?_;unfold DO r8;rw[H.bV,k.1];exact k
 ·rw[Lq,Bv];exact tu h fun k=>⟨k.1,k.2⟩
 ·refine eo (P:=fun X=>gH v (X.Z i)) (fun _=> ?_) fun _=>h;refine X3 ?_;rw[show(zX ac C.s C).Z i=C.Z i from ox C _ i];exact h
 ·refine eo (P:=fun X=>gH v (X.Z i)) (fun _=> ?_) fun _=>h;rw[show(Iw ac C.s C).Z i=C.Z i from ox C _ i];exact h
 ·refine eo (P:=fun X=>gH v (X.Z i)) (fun _=> ?_) fun _=>h;rw[show(Ix ac C.s C).Z i=C.Z i from ox C _ i];exact h
 ·rw[show n_ C.s C=_ from Hs a];refine X4 _ ?_;rw[show(hH C L).Z i=C.Z i from ox C _ i];exact h
def cd(i j:Nat)(ms:O):O:=⟨(j:Int),(i:Int),ms.K,ms.an,ms.p,ms.v,ms.ax,ms.aF,ms.i,ms.aP,ms.cG,ms.cZ,ms.cJ,ms.dh,ms.b1⟩
def eJ(i j:Nat)(ms:O)(s:H)(E:A O)(B:A a7)(G:A aJ):H:=
 H.bif (ms.K==1) (wH (cd i j ms) s) (H.bif (ms.K==2) (H.bif (cond (s.ro==1) (ms.an==(i64.wrap (s.aX+1))) false) (H.bif (hj (H.fP j s)) (lR (H.fP j s)) (H.fP j s)) s)
  (H.bif (decide (ms.an<s.aX)) (H.bif (ms.K !=8) (qk (j:Int) s) s) (H.bif (ms.K==3) (k_ (cd i j ms) s) (H.bif (ms.K==4) (H.bif (s.ro==2) (H.bif (hj (H.fP j s)) (tX (H.fP j s)) (H.fP j s)) s)
   (H.bif (ms.K==5) (ga (cd i j ms) (gM s) E B G) (H.bif (ms.K==7) (gz (cd i j ms) (gM s)) (H.bif (ms.K==6) (H.bif (s.ro==3) (od (cd i j ms) s E B G) s) s)))))))
def gx(i j:Nat)(ms:O)(s:H)(E:A O)(B:A a7)(G:A aJ):A a7:=
 bif(ms.K==1)then B else bif(ms.K==2)then B else bif(decide (ms.an<s.aX))then B else bif(ms.K==3)then B else bif(ms.K==4)then B else
  bif(ms.K==5)then(iA (cd i j ms) (gM s) E B G)else bif(ms.K==7)then B else bif(ms.K==6)then(cond (s.ro==3) (qm (cd i j ms) s E B G) B)else B
section
variable {i j:Nat} {ms:O} {Z s:H} {E:A O} {B:A a7} {G:A aJ}
theorem Cm:iy i j ms Z E B G=H.bif (!Z.up) Z (H.bif (lO ms Z) (eJ i j ms (eN ms Z) E B G) (f_ ms.an (-1) Z)):=rfl
theorem GZ:jj i j ms Z E B G=bif !Z.up then B else bif lO ms Z then gx i j ms (eN ms Z) E B G else B:=by
 unfold jj gx;simp only[Bool.cond_self];rfl
theorem Tv{a b:Int}(h:lQ a b Z=false):f_ a b Z=Z:=by
 unfold lQ at h;unfold f_ QW ab4
 cases e:gN (⟨1,a,b,0,0,0,false,0,0,0,⟨#[]⟩,⟨#[]⟩,⟨#[]⟩,0,0,0,0,(L:A aj),0,(L:A aG)⟩:b7) Z with
 |true=>rw[e]at h;cases h
 |false=>
  have d:=e;unfold gN at d;have k: ∀c:Bool,(cond c false true)=false→c=true:=fun c=>by cases c<;>simp
  have c:=k _ d;unfold h_ Ed Q8;simp only[Bool.not_false,aN];rw[c];rfl
theorem afT{a b:Int}(h:lQ a b Z=true):(f_ a b Z).aX=a:=by
 unfold lQ at h;unfold f_ QW
 cases e:gN (⟨1,a,b,0,0,0,false,0,0,0,⟨#[]⟩,⟨#[]⟩,⟨#[]⟩,0,0,0,0,(L:A aj),0,(L:A aG)⟩:b7) Z with
 |true=>rfl
 |false=>rw[e]at h;cases h
theorem Vd(j:Nat)(n:H):(H.fP j n).aX=n.aX∧(H.fP j n).ro=n.ro∧(H.fP j n).up=n.up∧eF (H.fP j n)=eF n∧H.fP j (H.fP j n)=H.fP j n:=by
 match j with
 |0=>exact⟨rfl,rfl,rfl,rfl,rfl⟩
 |1=>exact⟨rfl,rfl,rfl,rfl,rfl⟩
 |_+2=>exact⟨rfl,rfl,rfl,rfl,rfl⟩
theorem Cu(h:ms.K=1):eJ i j ms s E B G=wH (cd i j ms) s∧gx i j ms s E B G=B:=by
 simp [eJ,gx,h,H.bV]
theorem Cw(h:ms.K=2):eJ i j ms s E B G=H.bif (cond (s.ro==1) (ms.an==(i64.wrap (s.aX+1))) false) (H.bif (hj (H.fP j s)) (lR (H.fP j s)) (H.fP j s)) s∧gx i j ms s E B G=B:=by
 simp [eJ,gx,h,H.bV]
theorem Yb(c:ms.K≠1)(d:ms.K≠2)(h:ms.an<s.aX):eJ i j ms s E B G=H.bif (ms.K !=8) (qk (j:Int) s) s∧gx i j ms s E B G=B:=by
 have a:=ik.2 c;have b:=ik.2 d;simp [eJ,gx,a,b,h,H.bV]
theorem ze(h:ms.K=3)(a: ¬ms.an<s.aX):eJ i j ms s E B G=k_ (cd i j ms) s∧gx i j ms s E B G=B:=by
 simp [eJ,gx,h,a,H.bV]
theorem O7(h:ms.K=4)(a: ¬ms.an<s.aX):eJ i j ms s E B G=H.bif (s.ro==2) (H.bif (hj (H.fP j s)) (tX (H.fP j s)) (H.fP j s)) s∧gx i j ms s E B G=B:=by
 simp [eJ,gx,h,a,H.bV]
theorem zf(h:ms.K=5)(a: ¬ms.an<s.aX):eJ i j ms s E B G=ga (cd i j ms) (gM s) E B G∧gx i j ms s E B G=iA (cd i j ms) (gM s) E B G:=by
 simp [eJ,gx,h,a,H.bV]
theorem zg(h:ms.K=7)(a: ¬ms.an<s.aX):eJ i j ms s E B G=gz (cd i j ms) (gM s)∧gx i j ms s E B G=B:=by
 simp [eJ,gx,h,a,H.bV]
theorem Cy(h:ms.K=6)(a: ¬ms.an<s.aX):eJ i j ms s E B G=H.bif (s.ro==3) (od (cd i j ms) s E B G) s∧gx i j ms s E B G=bif(s.ro==3)then(qm (cd i j ms) s E B G)else B:=by
 simp [eJ,gx,h,a,H.bV]
theorem aoa(f:ms.K≠1)(g:ms.K≠2)(h:ms.K≠3)(k:ms.K≠4)(l:ms.K≠5)(m:ms.K≠6)(n:ms.K≠7)(o: ¬ms.an<s.aX):eJ i j ms s E B G=s∧gx i j ms s E B G=B:=by
 have a:=ik.2 f;have b:=ik.2 g;have bl:=ik.2 h;have c:=ik.2 k;have cQ:=ik.2 l;have d:=ik.2 m;have e:=ik.2 n;simp [eJ,gx,a,b,bl,c,cQ,d,e,o,H.bV]
theorem aBW(n:H):lR n=n∨(lR n).ro=2:=by
 unfold lR
 cases e:tW n with
 |false=>exact .inr (by rw[H.bV];rfl)
 |true=>
  refine .inl ?_;rw[H.bV,aN];unfold tW at e;unfold DX QZ ab6 IE ab7
  cases c:(n.aX==1048576)with
  |true=>rfl
  |false=>
   rw[c,aQ]at e;have m:=Tv (Z:=n) (a:=i64.wrap (n.aX+1)) (b:=n.bm) (by simpa using e);simp only[aQ];rw[m]
theorem amX(M:O)(n:H):DZ M n=n.aX:=by
 have k:(f_ n.aX M.j n).aX=n.aX:=by
  cases e:lQ n.aX M.j n with
  |true=>exact afT e
  |false=>rw[Tv e]
 unfold DZ;rw[k];simp only[Bool.cond_self]
theorem WX(M:O)(n:H):eF (k_ M n)=eF n∧(k_ M n).aX=n.aX:=by
 unfold k_;have k:=amX M n;have v:eF (wI M n)=eF n∧(wI M n).aX=n.aX:=by
  refine⟨?_,k⟩;show eF {n with aX:=DZ M n,dH:=(ab8 M n),bd:=(IF M n),bh:=(ab9 M n)} =_;rw[k];rfl
 rw[H.bV]
 cases D0 M n
 ·exact v
 ·exact v
theorem adR{n:H}(h:n.ro≠2):gM n=n:=by
 unfold gM IG ab_;rw[show(n.ro==2)=false from by simpa using h];rfl
theorem R2(n:H):(gM n).ro≠2:=by
 show IG n≠2;unfold IG
 cases e:(n.ro==2)with
 |true=>simp
 |false=>simpa using e
theorem aA4{rc:b7}{n:H}(h:gN rc n=false):h_ rc n=n:=by
 unfold gN at h;have k: ∀c:Bool,(cond c false true)=false→c=true:=fun c=>by cases c<;>simp
 have c:=k _ h;unfold h_ Ed Q8;rw[c];rfl
def nQ(i j:Nat)(ms:O)(s:H)(E:A O)(B:A a7)(G:A aJ):Prop:=
 (∀b9 a,eF (eJ i j ms (eJ i j ms s E B G) b9 (gx i j ms s E B G) a)=eF (eJ i j ms s E B G)∧gx i j ms (eJ i j ms s E B G) b9 (gx i j ms s E B G) a=gx i j ms s E B G)∧
  (ms.K≠1→ms.K≠2→(eJ i j ms s E B G).aX=s.aX)∧(eJ i j ms s E B G).up=s.up
theorem aCK(h:ms.K=1):nQ i j ms s E B G:=by
 refine⟨fun b9 b=> ?_,fun a=>absurd h a,?_⟩
 ·rw[(Cu h).1,(Cu h).2,(Cu h).1,(Cu h).2];exact⟨rfl,rfl⟩
 ·rw[(Cu h).1];rfl
theorem aBX(n:H):(lR n).up=n.up:=by
 unfold lR;rw[H.bV]
 cases tW n<;>rfl
theorem aCL(h:ms.K=2):nQ i j ms s E B G:=by
 obtain⟨a,b,d,l,f⟩:=Vd j s;refine⟨fun b9 k=> ?_,fun _ g=>absurd h g,?_⟩
 ·rw[(Cw h).1,(Cw h).2,(Cw h).1,(Cw h).2];refine⟨?_,rfl⟩
  cases c:(cond (s.ro==1) (ms.an==(i64.wrap (s.aX+1))) false)with
  |false=>
   simp only[H.bV,aQ];rw[c,aQ]
  |true=>
   cases m:hj (H.fP j s)with
   |false=>
    simp only[H.bV,aN,aQ];rw[a,b,c,f,m];rfl
   |true=>
    simp only[H.bV,aN];rcases aBW (H.fP j s)with e|e
    ·rw[e,a,b,c,f,m,aN,aN,e]
    ·rw[e,show((2:Int)==1)=false from rfl,aQ,aQ]
 ·rw[(Cw h).1];simp only[H.bV]
  cases (cond (s.ro==1) (ms.an==(i64.wrap (s.aX+1))) false)
  ·rfl
  ·cases hj (H.fP j s)
   ·exact d
   ·exact(aBX _).trans d
theorem aCS(a:ms.K≠1)(b:ms.K≠2)(h:ms.an<s.aX):nQ i j ms s E B G:=by
 have e:(eJ i j ms s E B G).aX=s.aX∧eF (eJ i j ms s E B G)=eF s∧(eJ i j ms s E B G).up=s.up:=by
  rw[(Yb a b h).1,H.bV]
  cases ms.K !=8<;>exact⟨rfl,rfl,rfl⟩
 refine⟨fun b9 c=> ?_,fun _ _=>e.1,e.2.2⟩;have d:=Yb (i:=i) (j:=j) (E:=b9) (B:=gx i j ms s E B G) (G:=c) a b (show ms.an<(eJ i j ms s E B G).aX by rw[e.1];exact h);rw[d.1,d.2,H.bV];refine⟨?_,rfl⟩
 cases ms.K !=8<;>rfl
theorem aCM(h:ms.K=3)(a: ¬ms.an<s.aX):nQ i j ms s E B G:=by
 have v:=WX (cd i j ms) s;have u:(k_ (cd i j ms) s).up=s.up:=by
  unfold k_;rw[H.bV]
  cases D0 (cd i j ms) s<;>rfl
 refine⟨fun b9 c=> ?_,fun _ _=> ?_,?_⟩
 ·rw[(ze h a).1,(ze h a).2];have b: ¬ms.an<(k_ (cd i j ms) s).aX:=by rw[v.2];exact a
  rw[(ze h b).1,(ze h b).2];exact⟨(WX _ _).1,rfl⟩
 ·rw[(ze h a).1];exact v.2
 ·rw[(ze h a).1];exact u
theorem aCN(h:ms.K=4)(a: ¬ms.an<s.aX):nQ i j ms s E B G:=by
 obtain⟨b,k,f,n,l⟩:=Vd j s;have e:(eJ i j ms s E B G).aX=s.aX∧(eJ i j ms s E B G).up=s.up:=by
  rw[(O7 h a).1,H.bV,H.bV]
  cases s.ro==2
  ·exact⟨rfl,rfl⟩
  ·cases hj (H.fP j s)
   ·exact⟨b,f⟩
   ·exact⟨b,f⟩
 refine⟨fun b9 g=> ?_,fun _ _=>e.1,e.2⟩;have d:=O7 (i:=i) (j:=j) (E:=b9) (B:=gx i j ms s E B G) (G:=g) h (show¬ms.an<(eJ i j ms s E B G).aX by rw[e.1];exact a);rw[d.1,d.2];refine⟨?_,rfl⟩;rw[(O7 h a).1]
 cases c:s.ro==2 with
 |false=>
  simp only[H.bV,aQ];rw[c,aQ]
 |true=>
  cases m:hj (H.fP j s)with
  |false=>
   simp only[H.bV,aN,aQ];rw[k,c,l,m];rfl
  |true=>
   simp only[H.bV,aN];rw[show(tX (H.fP j s)).ro=3 from rfl,show((3:Int)==2)=false from rfl,aQ]
theorem aCJ(a:ms.K≠1)(b:ms.K≠2)(c:ms.K≠3)(e:ms.K≠4)(f:ms.K≠5)(g:ms.K≠6)(h:ms.K≠7)(k: ¬ms.an<s.aX):nQ i j ms s E B G:=by
 have d:=fun E B G=>aoa (i:=i) (j:=j) (E:=E) (B:=B) (G:=G) a b c e f g h k;unfold nQ;simp only[(d _ _ _).1,(d _ _ _).2];exact⟨fun _ _=>⟨trivial,trivial⟩,fun _ _=>trivial,trivial⟩
theorem aCQ(h:ms.K=7)(b: ¬ms.an<s.aX):nQ i j ms s E B G:=by
 have p: ∀n:H,n.ro≠2→((gz (cd i j ms) n).aX=n.aX∧(gz (cd i j ms) n).up=n.up∧(gz (cd i j ms) n).ro=n.ro)∧eF (gz (cd i j ms) (gz (cd i j ms) n))=eF (gz (cd i j ms) n):=by
  intro n q
  by_cases c:ms.aP>n.co
  ·have d:decide ((cd i j ms).aP>n.co)=true:=bT c
   cases r:gN (⟨3,0,0,0,0,0,false,0,0,0,⟨#[]⟩,⟨#[]⟩,⟨#[]⟩,0,(cd i j ms).aP,(cd i j ms).cG,(cd i j ms).cZ,(cd i j ms).cJ,(cd i j ms).dh,(cd i j ms).b1⟩:b7) n with
   |false=>
    have e:gz (cd i j ms) n=n:=by
     unfold gz wK;rw[d,aN,r,H.bV];exact aA4 r
    rw[e,e];exact⟨⟨rfl,rfl,rfl⟩,rfl⟩
   |true=>
    have e:gz (cd i j ms) n=ed (cd i j ms).j (⟨0,0,6,n.aX,(cd i j ms).aP,0,true,0,(L:A aI),0,0,0,(L:A aj),0,(L:A aG)⟩:O) (oc (cd i j ms) n):=by
     unfold gz wK;rw[d,aN,r,H.bV];rfl
    have a:(gz (cd i j ms) n).co=ms.aP:=by
     rw[e];show ql (cd i j ms) n=_;unfold ql;rw[d,aN];rfl
    refine⟨by rw[e];exact⟨rfl,rfl,rfl⟩,?_⟩;generalize gz (cd i j ms) n=x at a ⊢;have k:decide ((cd i j ms).aP>x.co)=false:=by
     rw[a];exact bI (yD _)
    unfold gz wK;rw[k,aQ,H.bV,aN];unfold oc t_ IM ub uc IN IP IQ IS IT IH II IJ IK ql ua IL;rw[k];rfl
  ·have k:decide ((cd i j ms).aP>n.co)=false:=bI c;have e:gz (cd i j ms) n=ed (cd i j ms).j (⟨0,0,6,n.aX,(cd i j ms).aP,0,true,0,(L:A aI),0,0,0,(L:A aj),0,(L:A aG)⟩:O) n:=by
    unfold gz wK;rw[k,aQ,H.bV,aN];unfold oc t_ IM ub uc IN IP IQ IS IT IH II IJ IK ql ua IL;rw[k];rfl
   refine⟨by rw[e];exact⟨rfl,rfl,rfl⟩,?_⟩;have a:(gz (cd i j ms) n).co=n.co:=by rw[e];rfl
   generalize gz (cd i j ms) n=x at a ⊢;have k:decide ((cd i j ms).aP>x.co)=false:=by rw[a];exact k
   unfold gz wK;rw[k,aQ,H.bV,aN];unfold oc t_ IM ub uc IN IP IQ IS IT IH II IJ IK ql ua IL;rw[k];rfl
 obtain⟨⟨f,l,m⟩,o⟩:=p (gM s) (R2 s);refine⟨fun b9 t=> ?_,fun _ _=> ?_,?_⟩
 ·rw[(zg h b).1,(zg h b).2];have g: ¬ms.an<(gz (cd i j ms) (gM s)).aX:=by rw[f];exact b
  rw[(zg h g).1,(zg h g).2,adR (by rw[m];exact R2 s)];exact⟨o,rfl⟩
 ·rw[(zg h b).1,f];rfl
 ·rw[(zg h b).1,l];rfl
end
section
theorem pp(a:A Int)(f l h:Int):A.part (A.part a 0 f) l h=A.part a l h:=by
 show(⟨(h-l).toNat,fun i=>a.at' ((0:Int).toNat+(l.toNat+i))⟩:A Int)=⟨(h-l).toNat,fun i=>a.at' (l.toNat+i)⟩
 congr 1
 funext i
 rw[show(0:Int).toNat+(l.toNat+i)=l.toNat+i by omega]
theorem FU(a:A Int){f:Int}(h:0≤f):(((A.part a 0 f).n:Nat):Int)=f:=by
 show(((f-0).toNat:Nat):Int)=f;omega
theorem azA{a:A Int}{b:Int}(c:0≤b)(d:b≤(a.n:Int))(e:a.n≤400000):p8 a b=false:=by
 unfold p8;rw[bI (by omega),bI (by omega),bI (by omega)];rfl
theorem qQ{a:A Int}{b:Int}(c:0≤b)(d:b≤(a.n:Int))(e:a.n≤400000):bn a b=a∧jC a b=b∧gy a b=true:=by
 have m:=azA c d e;unfold bn jC gy;rw[m];exact⟨rfl,rfl,rfl⟩
theorem TY{a:A Int}{f:Int}(b:0≤f)(c:f≤400000):bn (A.part a 0 f) f=A.part a 0 f∧jC (A.part a 0 f) f=f∧gy (A.part a 0 f) f=true:=by
 have:=FU a b;exact qQ b (by omega) (by omega)
theorem aB0{a:A Int}{v:Int}(o:A b7)(b:0≤v)(c:v≤400000)(q:Nat):h6 (A.part a 0 v) v (q+1) v o=(v,o):=by
 have:=FU a b;rw[h6,(TY b c).1,N (v+3),bI (by omega),aQ]
theorem ahf{a:A Int}{b:Int}(j:0≤b)(m:b≤(a.n:Int))(n:a.n≤400000)(x:aO a): ∀(k:Nat) (v:Int) (o:A b7),0≤v→v≤(a.n:Int)→toNat ((a.n:Int)-v)<k→
  v≤(h6 a b k v o).1∧(h6 a b k v o).1≤(a.n:Int)∧ ∀c,toNat ((h6 a b k v o).1-v)<c→h6 (A.part a 0 (h6 a b k v o).1) (h6 a b k v o).1 c v o=h6 a b k v o
 |0,_,_,_,_,y=>absurd y (eH _)
 |k+1,v,o,G,H,y=>by
  have stop: ∀r:Int×A b7,r=(v,o)→v≤r.1∧r.1≤(a.n:Int)∧ ∀c,toNat (r.1-v)<c→h6 (A.part a 0 r.1) r.1 c v o=r:=by
   intro r e;rw[e];refine⟨dp _,H,fun c F=> ?_⟩;obtain⟨q,rfl⟩: ∃q,c=q+1:=⟨c-1,by omega⟩;exact aB0 o G (by omega) q
  have E: ∀l h,aO (A.part a l h):=fun l h i=>x _;have Q:=Uz (A.part a v ((a.n:Int))) (E _ _)
  by_cases p:v+3≤(a.n:Int)
  ·by_cases K:v+3+ea (A.part a v ((a.n:Int)))>(a.n:Int)
   ·refine stop _ ?_;rw[h6,(qQ j m n).1,N (v+3),bT p,aN,N (v+3+_),bT K,aN]
   ·cases u:Hz (A.part a (v+3) (v+3+ea (A.part a v ((a.n:Int)))))with
    |false=>
     refine stop _ ?_;rw[h6,(qQ j m n).1,N (v+3),bT p,aN,N (v+3+_),bI K,aQ,u];rfl
    |true=>
     have hX:=N (3+ea (A.part a v ((a.n:Int))));have O:=N (v+(3+ea (A.part a v ((a.n:Int)))));obtain⟨s,e⟩: ∃s,∀(d:A Int) (g:Int),bn d g=a∨(∃f,bn d g=A.part a 0 f)→v+3≤((bn d g).n:Int)→ ¬v+3+ea (A.part a v ((a.n:Int)))>((bn d g).n:Int)→ ∀q,h6 d g (q+1) v o=h6 d g q (v+(3+ea (A.part a v ((a.n:Int))))) s:=by
      refine⟨?w,?h⟩
      case h=>
      intro d g I B C q;have M: ∀l h,A.part (bn d g) l h=A.part a l h:=by
       intro l h;rcases I with e|⟨f,e⟩
       ·rw[e]
       ·rw[e,pp]
      rw[h6];simp only[M];rw[show ea (A.part a v (((bn d g).n:Nat):Int))=ea (A.part a v ((a.n:Int)))from rfl];rw[N (v+3),bT B,aN,N (v+3+_),bI C,aQ,u,hX,O];rfl
     have D:=e a b (.inl (qQ j m n).1) (by rw[(qQ j m n).1];exact p) (by rw[(qQ j m n).1];exact K) k;have z:=ahf j m n x k (v+(3+ea (A.part a v ((a.n:Int))))) s (by omega) (by omega) (by omega);rw[D];generalize h6 a b k (v+(3+ea (A.part a v ((a.n:Int))))) s=r at z ⊢;obtain⟨P,J,L⟩:=z;refine⟨by omega,J,fun c F=> ?_⟩;obtain⟨q,rfl⟩: ∃q,c=q+1:=⟨c-1,by omega⟩;have t:=(TY (a:=a) (f:=r.1) (by omega) (by omega)).1;have:=FU a (f:=r.1) (by omega);rw[e (A.part a 0 r.1) r.1 (.inr ⟨_,t⟩) (by rw[t];omega) (by rw[t];omega) q];exact L q (by omega)
  ·refine stop _ ?_;rw[h6,(qQ j m n).1,N (v+3),bI p,aQ]
def Full(d:A Int)(s:Int):Prop:=s=(d.n:Int)∧d.n≤400000∧aO d
theorem anQ{d:A Int}{s x:Int}(j:aO d):Full (fO d s x) (gO d s x):=by
 unfold fO gO
 cases m:p8 d s with
 |true=>
  have e:gy d s=false:=by unfold gy;rw[m];rfl
  rw[e];exact⟨rfl,cA _,fun i=>⟨dp (0:Int),(by decide:(0:Int)≤255)⟩⟩
 |false=>
  have a:=m;unfold p8 at a;have k:0≤s∧s≤(d.n:Int)∧d.n≤400000:=by
   by_cases b:s<0
   ·rw[bT b]at a;cases a
   by_cases c:s>(d.n:Int)
   ·rw[bI b,bT c]at a;cases a
   by_cases h:(d.n:Int)>400000
   ·rw[bI b,bI c,bT h]at a;cases a
   omega
  obtain⟨l,n,kd⟩:=qQ k.1 k.2.1 k.2.2;rw[l,n,kd]
  by_cases g:x<0
  ·rw[bT g];exact⟨rfl,cA _,fun i=>⟨dp (0:Int),(by decide:(0:Int)≤255)⟩⟩
  rw[bI g];simp only[Bool.not_true,aQ];have i:=lY x (i64.wrap ((d.n:Int)-s));rw[N ((d.n:Int)-s)]at i ⊢;generalize eU x ((d.n:Int)-s)=z at i ⊢;rw[N (s+z)];have:=FU d (f:=s+z) (by omega);exact⟨by omega,by omega,fun i=>j _⟩
theorem anR{d:A Int}{s x:Int}(h:Full d s)(e:A.part d 0 s=d)(l:0≤x):fO d s x=d∧gO d s x=s:=by
 obtain⟨j,c,k⟩:=h;obtain⟨f,g,kd⟩:=qQ (a:=d) (b:=s) (by omega) (by omega) c;unfold fO gO;rw[f,g,kd,bI (by omega)];simp only[Bool.not_true,aQ];have i:=lY x (i64.wrap ((d.n:Int)-s));rw[N ((d.n:Int)-s)]at i ⊢;generalize eU x ((d.n:Int)-s)=z at i ⊢;rw[N (s+z),show s+z=s by omega];exact⟨e,rfl⟩
theorem aA5{d:A Int}{s:Int}(h:Full d s):Full (jB d s) (k5 d s)∧A.part (jB d s) 0 (k5 d s)=jB d s∧
  gL (jB d s) (k5 d s)=gL d s∧jB (jB d s) (k5 d s)=jB d s∧k5 (jB d s) (k5 d s)=k5 d s:=by
 obtain⟨x,g,j⟩:=h;obtain⟨k,v,kd⟩:=qQ (a:=d) (b:=s) (by omega) (by omega) g;have l:=ahf (a:=d) (b:=s) (by omega) (by omega) g j (toNat ((d.n:Int)-0)+1) 0 L (dp _) (by omega) (by omega);have t:k6 d s=h6 d s (toNat ((d.n:Int)-0)+1) 0 L:=by unfold k6;rw[k]
 rw[←t]at l;have o:gL d s=(k6 d s).2:=by unfold gL;rw[kd];rfl
 have p:jB d s=A.part d 0 (k6 d s).1:=by unfold jB;rw[kd,k];rfl
 have q:k5 d s=(k6 d s).1:=by
  unfold k5;rw[kd,v];have:=lY s (k6 d s).1;show eU s (k6 d s).1=_;omega
 rw[o,p,q];generalize k6 d s=r at l ⊢;obtain⟨fo,y,u⟩:=l;have n:=FU d fo;obtain⟨m,w,e⟩:=TY (a:=d) (f:=r.1) fo (by omega);have c:k6 (A.part d 0 r.1) r.1=r:=by
  unfold k6;rw[m];exact u _ (by omega)
 refine⟨⟨n.symm,by omega,fun i=>j _⟩,pp d _ _ _,?_,?_,?_⟩
 ·unfold gL;rw[e,c];rfl
 ·unfold jB;rw[e,m,c];exact pp d _ _ _
 ·unfold k5;rw[e,w,c];have:=lY r.1 r.1;show eU r.1 r.1=r.1;omega
end
def OZ(r:A b7)(t:A Int)(s:Int)(Z:H):H:={Z with bm:=(wj Z.bm),up:=QO,ro:=wA,aX:=(DI (PM r)),dH:=(DJ (PN r)),l:=(DK (tz r)),lt:=(DL (PQ r)),li:=(DM (vU r)),c8:=(DN (p2 r)),gR:=(Dv (PO r)),gS:=(Dw (CM r)),fG:=(Dx (CN r)),gT:=(Dy (CO r)),fF:=(Dz (CP r)),eO:=(DA (CM r)),eC:=(DB (CN r)),et:=(DC (CO r)),eD:=(DD (CP r)),co:=(DE (p2 r)),v0:=wk,v1:=wm,v2:=wo,eb:=wq,dF:=wu,dW:=wv,g6:=wx,q1:=wy,fp:=wz,ws:=(L:A hI),bd:=t,bh:=s,bS:=(L:A O)}
theorem XO(x:Int)(n:H):lT x n=OZ (gL (fO n.bd n.bh x) (gO n.bd n.bh x)) (jB (fO n.bd n.bh x) (gO n.bd n.bh x)) (k5 (fO n.bd n.bh x) (gO n.bd n.bh x)) n:=rfl
def fw(n:H):Prop:=n.up=false→ ∀y,0≤y→lT y n=n
theorem anS{n:H}(e:aO n.bd)(x:Int){y:Int}(g:0≤y):lT y (lT x n)=lT x n:=by
 have f:=anQ (d:=n.bd) (s:=n.bh) (x:=x) e;rw[XO x n];generalize fO n.bd n.bh x=a at f ⊢;generalize gO n.bd n.bh x=b at f ⊢;obtain⟨F,P,h,i,j⟩:=aA5 f;obtain⟨c,K⟩:=anR F P g;rw[XO y];rw[show(OZ (gL a b) (jB a b) (k5 a b) n).bd=jB a b from rfl,show(OZ (gL a b) (jB a b) (k5 a b) n).bh=k5 a b from rfl,c,K,h,i,j];rfl
theorem aAw{n:H}(a:aO n.bd)(x:Int):fw (lT x n):=fun _ _ b=>anS a x b
theorem ps{n:H}(h:n.up=true):fw n:=fun k=>by rw[h]at k;cases k
theorem aAv{n m:H}(h:fw n)(a:n.up=true→fw m):fw (H.bif n.up m n):=by
 rw[H.bV]
 cases u:n.up with
 |false=>exact h
 |true=>exact a u
theorem agV(M:O)(n:H)(E:A O)(B:A a7)(G:A aJ): ∀(k:Nat) (v:Int) (a:A Int) (b:Int),(eT M n E B G k v a b).1=true→(uT (eT M n E B G k v a b).2.2.2).up=n.up
 |0,_,_,_,h=>by
  rw[eT]at h
  cases h
 |k+1,v,a,b,h=>by
  rw[eT]at h ⊢;generalize decide (v≤_)=c at h ⊢
  cases c with
  |false=>cases h
  |true=>
   generalize gN _ _=d at h ⊢
   cases d with
   |false=>rfl
   |true=>exact agV M n E B G k _ _ _ h
theorem aC5(M:O)(n:H)(E:A O)(B:A a7)(G:A aJ):(ga M n E B G).up=n.up:=by
 unfold ga;simp only[H.bV]
 cases fc n.l n.lt n.li M.p M.v M.i !=0
 ·cases gd n.l n.lt n.li M.p M.v M.i
  ·rfl
  ·cases q:hA M n E B G
   ·refine agV M n E B G _ _ _ _ ?_;unfold hA tZ j7 at q;revert q
    cases decide (c7 n.l n.lt n.li M.p M.v M.i>0)
    ·intro h;cases h
    ·generalize (eT M n E B G _ _ _ _).1=z
     cases z
     ·intro h;cases h
     ·intro _;rfl
   ·rfl
 ·rfl
theorem WE(Z:H)(E:A O)(B:A a7)(G:A aJ): ∀(k:Nat) (v:Int),(g1 Z E B G k v).1=true→(uT (g1 Z E B G k v).2).up=Z.up
 |0,_,h=>by
  rw[g1]at h
  cases h
 |k+1,v,h=>by
  rw[g1]at h ⊢;generalize decide (v>Z.co)=c at h ⊢
  cases c with
  |false=>cases h
  |true=>
   generalize mv Z v=d at h ⊢
   cases d with
   |true=>rfl
   |false=>exact WE Z E B G k _ h
theorem aC6(j:Nat)(M:O)(n:H)(E:A O)(B:A a7)(G:A aJ):(j8 j M n E B G).up=n.up:=by
 have a:(lS j M n).up=n.up:=by
  unfold lS
  match j with
  |0=>rfl
  |1=>rfl
  |_+2=>rfl
 have b:(IV j M n).up=n.up:=by
  unfold IV
  match j with
  |0=>rfl
  |1=>rfl
  |_+2=>rfl
 unfold j8;rw[H.bV]
 cases M.ax
 ·exact b
 ·rw[aN,←a];unfold hB;rw[H.bV]
  cases q:(mw (lS j M n) E B G).1
  ·rfl
  ·exact WE _ E B G _ _ q
theorem aC7{i j:Nat}{ms:O}{s:H}{E:A O}{B:A a7}{G:A aJ} :(eJ i j ms s E B G).up=s.up:=by
 unfold eJ;simp only[H.bV];have v:=(Vd j s).2.2.1
 cases ms.K==1
 ·cases ms.K==2
  ·cases decide (ms.an<s.aX)
   ·cases ms.K==3
    ·cases ms.K==4
     ·cases ms.K==5
      ·cases ms.K==7
       ·cases ms.K==6
        ·rfl
        ·cases s.ro==3
         ·rfl
         ·exact aC6 j _ s E B G
       ·unfold gz;rw[H.bV]
        cases wK (cd i j ms) (gM s)<;>rfl
      ·exact aC5 _ _ E B G
     ·cases s.ro==2
      ·rfl
      ·cases hj (H.fP j s)
       ·exact v
       ·exact v
    ·unfold k_;rw[H.bV]
     cases D0 (cd i j ms) s<;>rfl
   ·cases ms.K !=8<;>rfl
  ·cases (cond (s.ro==1) (ms.an==i64.wrap (s.aX+1)) false)
   ·rfl
   ·cases hj (H.fP j s)
    ·exact v
    ·refine Eq.trans ?_ v;unfold lR;rw[H.bV]
     cases tW (H.fP j s)<;>rfl
 ·rfl
theorem agY{C:ak}{ms:O}(h: ∀i,fw (C.Z i)): ∀i,fw ((e2 C ms).Z i):=by
 unfold e2 ow;generalize toNat ms.ai=a;generalize toNat ms.j=j;refine nD (P:=fw) h a ?_ _ _ _;rw[Cm]
 cases u:(C.Z a).up with
 |false=>rw[H.bV];exact h a
 |true=>
  refine ps ?_;rw[H.bV,H.bV];show(cond (lO ms (C.Z a)) (eJ a j ms (eN ms (C.Z a)) C.s C.told C.a2) (f_ ms.an (-1) (C.Z a))).up=true
  cases lO ms (C.Z a)
  ·exact u
  ·exact aC7.trans u
theorem agZ: ∀(l:List O) {C:ak},(∀i,fw (C.Z i))→ ∀i,fw ((nT C l).Z i)
 |[],_,h=>h
 |_::l,_,h=>agZ l (agY h)
theorem aAu{n:H}(a:aO n.bd)(ac:F)(h:n.up=true):fw (ob ac n):=by
 unfold ob;simp only[H.bV]
 cases ac.j==2
 ·cases ac.j==3
  ·cases ac.j==4
   ·cases ac.j==9
    ·cases ac.j==11
     ·exact ps h
     ·refine ps ?_;show(r9 n).up=true;unfold r9;simp only[H.bV]
      cases n.co==n.l
      ·generalize gN _ n=z
       cases z<;>exact h
      ·exact h
    ·exact aAw a ac.K
   ·exact ps h
  ·cases n.ro==3<;>exact ps h
 ·cases Iz n<;>exact ps h
theorem agX{k:Nat}{C:ak}{ac:F}(d:fs k C)(h: ∀i,fw (C.Z i)): ∀i,fw ((cw C ac).Z i):=by
 have u8: ∀i,aO (C.Z i).bd:=fun i=>(d.Z i).u8;have b: ∀(a:Nat) (c:F),fw (H.bif (C.Z a).up (ob c (C.Z a)) (C.Z a)):=fun a c=>aAv (h a) fun u=>aAu (u8 a) c u;unfold cw;refine eo (P:=fun X=> ∀i,fw (X.Z i)) (fun _=> ?_) fun _=>eo (P:=fun X=> ∀i,fw (X.Z i)) (fun _=>nD h _ (b _ _) _ _ _) fun _=>eo (P:=fun X=> ∀i,fw (X.Z i)) (fun _=>nD h _ (b _ _) _ _ _) fun _=>eo (P:=fun X=> ∀i,fw (X.Z i)) (fun _=>nD h _ (b _ _) _ _ _) fun _=>eo (P:=fun X=> ∀i,fw (X.Z i)) (fun _=> ?_) fun _=>eo (P:=fun X=> ∀i,fw (X.Z i)) (fun _=> ?_) fun _=>eo (P:=fun X=> ∀i,fw (X.Z i)) (fun _=> ?_) fun _=>eo (P:=fun X=> ∀i,fw (X.Z i)) (fun _=> ?_) fun _=>eo (P:=fun X=> ∀i,fw (X.Z i)) (fun _=>nD h _ (b _ _) _ _ _) fun _=>eo (P:=fun X=> ∀i,fw (X.Z i)) (fun _=> ?_) fun _=>eo (P:=fun X=> ∀i,fw (X.Z i)) (fun _=>nD h _ (b _ _) _ _ _) fun _=> ?_
 ·refine nD h _ ?_ _ _ _;have q:=h (toNat ac.ai);generalize C.Z (toNat ac.ai)=n at q ⊢;unfold DO r8;rw[H.bV]
  cases u:n.up with
  |false=>exact q
  |true=>
   refine ps ?_;simp only[H.bV,Bool.not_true,aQ]
   cases n.ro !=3
   ·generalize (!(qj _ n))=z
    cases z<;>exact u
   ·exact u
 ·rw[Lq,Bv];refine nD h _ ?_ _ _ _;intro u y e;have q:=h (toNat ac.ai) u y e;exact congrArg (fun m:H=>{m with bU:=eU (i64.wrap ((C.Z (toNat ac.ai)).bU+ac.K)) 1073741824}) q
 ·refine eo (P:=fun X=> ∀i,fw (X.Z i)) (fun _=> ?_) fun _=>h;refine agY fun i=> ?_;rw[show(zX ac C.s C).Z i=C.Z i from ox C _ i];exact h i
 ·refine eo (P:=fun X=> ∀i,fw (X.Z i)) (fun _=>fun i=> ?_) fun _=>h;rw[show(Iw ac C.s C).Z i=C.Z i from ox C _ i];exact h i
 ·refine eo (P:=fun X=> ∀i,fw (X.Z i)) (fun _=>fun i=> ?_) fun _=>h;rw[show(Ix ac C.s C).Z i=C.Z i from ox C _ i];exact h i
 ·rw[Ft,Bv];exact nD h _ (ps rfl) _ _ _
 ·rw[show n_ C.s C=_ from Hs d];refine agZ _ fun i=> ?_;rw[show(hH C L).Z i=C.Z i from ox C _ i];exact h i
theorem azy{l:List F}(h: ∀a∈l,e6 a)(c:l.length≤3000):ew (A.lit l):=by
 refine⟨c,fun q b=>h _ ?_⟩;have b:q<l.length:=b;show l.getD q default∈l;rw[Gn,cT b,ly];exact vf b
theorem ag0{l:List F}(h: ∀a∈l,e6 a)(e:l.length≤3000): ∀m,m≤l.length→ ∀i,fw ((cg (l.take m)).Z i)
 |0,_=>by
  rw[List.take_zero];intro i;show fw (r6.Z i)
  match i with
  |0=>exact ps rfl
  |1=>exact ps rfl
  |_+2=>exact ps rfl
 |m+1,g=>by
  have d:m<l.length:=by omega
  rw[List.take_add_one,cT d,Cp];have f:=azy (l:=l.take m) (fun a c=>h a (List.mem_of_mem_take c)) (by rw[nJ];omega);have b:=oV f;rw[oJ]at b;exact agX b (ag0 h e m (by omega))
theorem anW{b:A F}(h:ew b): ∀i,fw ((cg b.B).Z i):=by
 have k:=ag0 (l:=b.B) (fun a e=> ?_) (by rw[dt];exact h.1) b.B.length (bx _)
 ·rw[List.take_length]at k;exact k
 ·obtain⟨i,c⟩:=pI e;have d:i<b.n:=by
   rw[←dt b];exact(iW.1 c).1
  rw[kV b d]at c;rw[←eG c];exact h.2 i d
theorem aij{C:ak}{a:F}(h:a.j=9):cw C a=x8 (toNat a.ai) C a:=by
 unfold cw;simp only[h,ak.bV];rfl
theorem aDz{C:ak}{a:F}(h:a.j=10):cw C a=Ft (toNat a.ai) C a:=by
 unfold cw;simp only[h,ak.bV];rfl
theorem Uw(C:ak){i:Nat}(a:i<3)(n:H)(E:A O)(B:A a7)(G:A aJ):(C.put i n E B G).Z i=n:=by
 match i,a with
 |0,_=>rfl
 |1,_=>rfl
 |2,_=>rfl
theorem ag5(C:ak){i:Nat}(c:i<3)(n m:H)(E b9:A O)(B b:A a7)(G a:A aJ):(C.put i n E B G).put i m b9 b a=C.put i m b9 b a:=by
 match i,c with
 |0,_=>rfl
 |1,_=>rfl
 |2,_=>rfl
theorem XP{i:Nat}{C:ak}{a:F} :x8 i C a=C.put i (H.bif (C.Z i).up (lT a.K (C.Z i)) (C.Z i)) C.s C.told C.a2:=by
 unfold x8 o6 qf
 congr 1
 cases (C.Z i).up<;>rfl
theorem anT(x:Int)(n:H):lT x {n with up:=true} =lT x n:=rfl
theorem yw{k:Nat}{C:ak}(m:fs k C)(n: ∀i,fw (C.Z i)){i:Nat}(d:i<3){a b c:F}(g:a.j=9∧toNat a.ai=i)(h:b.j=10∧toNat b.ai=i)(j:c.j=9∧toNat c.ai=i)(o:0≤c.K):
  cw (cw (cw (cw C a) b) c) b=cw (cw C a) b∧((cw (cw C a) b).Z i).up=true:=by
 have q:=agX (ac:=a) m n i;have X:((cw C a).Z i).up=false:=by
  rw[aij g.1,g.2,XP,Uw C d,H.bV]
  cases u:(C.Z i).up
  ·exact u
  ·rfl
 generalize cw C a=D at q X ⊢;have st: ∀E:ak,cw E b=E.put i {E.Z i with up:=true} E.s E.told E.a2:=by
  intro E;rw[aDz h.1,h.2];unfold Ft;rw[Bv];rfl
 rw[st D];have l:(D.put i {D.Z i with up:=true} D.s D.told D.a2).Z i={D.Z i with up:=true} :=Uw D d _ _ _ _;have e:=yg D i {D.Z i with up:=true} D.s D.told D.a2;refine⟨?_,by rw[l]⟩;rw[aij j.1,j.2,XP,l,e.1,e.2.1,e.2.2];rw[show H.bif ({D.Z i with up:=true} :H).up (lT c.K {D.Z i with up:=true}) {D.Z i with up:=true} =D.Z i from by
  rw[H.bV];exact(anT c.K (D.Z i)).trans (q X c.K o)]
 rw[ag5 D d,st,Uw D d,ag5 D d];have f:=yg D i (D.Z i) D.s D.told D.a2;rw[f.1,f.2.1,f.2.2]
section
variable {d:A dE} {g u h:Int}
theorem Wr{i p:Int}(a:0≤i∧i<3)(b:0≤p∧p≤400000):e6 ⟨9,i,p,0,0,0,⟨#[]⟩,⟨#[]⟩,⟨#[]⟩,0⟩:=hD (k:=9) (n:=i) (p:=p) (by decide) (fun _=>a) (fun z=>by cases z) (fun _=>b) (fun z=>by cases z)
theorem Ws{i:Int}(a:0≤i∧i<3):e6 ⟨10,i,0,0,0,0,⟨#[]⟩,⟨#[]⟩,⟨#[]⟩,0⟩:=hD (k:=10) (n:=i) (p:=0) (by decide) (fun _=>a) (fun z=>by cases z) (fun z=>by cases z) (fun _=>rfl)
abbrev cs(i x:Int):A F:=A.lit ([(⟨9,i,x,0,0,0,⟨#[]⟩,⟨#[]⟩,⟨#[]⟩,0⟩:F),(⟨10,i,0,0,0,0,⟨#[]⟩,⟨#[]⟩,⟨#[]⟩,0⟩:F)]:List F)
theorem agr{c:A F}(h:ew c)(i:c.n<2998){a b:F}(f:e6 a)(g:e6 b):ew (bq c (A.lit ([a,b]:List F))):=by
 refine⟨by show c.n+2≤3000;omega,?_⟩;intro q d;have d:q<c.n+2:=d;show e6 (cond (Nat.blt q c.n) (c.at' q) (([a,b]:List F).getD (q-c.n) default))
 cases e:Nat.blt q c.n with
 |true=>exact h.2 q (by rw[fU]at e;exact e)
 |false=>
  have: ¬q<c.n:=fun aZ=>by
   rw[show Nat.blt q c.n=true by rw[fU];exact aZ]at e
   cases e
  rw[aQ];obtain z|z:q-c.n=0∨q-c.n=1:=by omega
  ·rw[z];exact f
  ·rw[z];exact g
theorem XQ(c:A F)(a b:F):cg (bq c (A.lit ([a,b]:List F))).B=cw (cw (cg c.B) a) b:=by
 unfold bq;rw[oI,oJ,Cp];rfl
theorem Vk(l:dJ d)(m:dD g)(n:dD u)(o:dD h):ew (bq (az d 80) (cs (C g 3) (C u 900)))∧ew (bq (bq (az d 80) (cs (C g 3) (C u 900))) (cs (C g 3) (C h 900)))∧
  cg (bq (bq (az d 80) (cs (C g 3) (C u 900))) (cs (C g 3) (C h 900))).B=cg (bq (az d 80) (cs (C g 3) (C u 900))).B∧
  ((cg (bq (az d 80) (cs (C g 3) (C u 900))).B).Z (toNat (C g 3))).up=true:=by
 obtain⟨f,s⟩:=nA l;have e:0≤C g 3∧C g 3<3:=iT m (by decide);have q:0≤C u 900∧C u 900<900:=iT n (by decide);have j:0≤C h 900∧C h 900<900:=iT o (by decide);generalize C g 3=i at e ⊢;generalize C u 900=x at q ⊢;generalize C h 900=y at j ⊢;have k:=agr f (by omega) (Wr e (p:=x) (by omega)) (Ws e);have r:=agr k (by rw[kL];show(az d 80).n+2<2998;omega) (Wr e (p:=y) (by omega)) (Ws e);refine⟨k,r,?_⟩;rw[XQ,XQ];exact yw (a:=⟨9,i,x,0,0,0,⟨#[]⟩,⟨#[]⟩,⟨#[]⟩,0⟩) (b:=⟨10,i,0,0,0,0,⟨#[]⟩,⟨#[]⟩,⟨#[]⟩,0⟩) (c:=⟨9,i,y,0,0,0,⟨#[]⟩,⟨#[]⟩,⟨#[]⟩,0⟩) (oV f) (anW f) (by omega) ⟨rfl,rfl⟩ ⟨rfl,rfl⟩ ⟨rfl,rfl⟩ j.1
theorem aDb(C:ak){i:Nat}(a:i<3):((views C).at' i).j=(C.Z i).up:=by
 match i,a with
 |0,_=>rfl
 |1,_=>rfl
 |2,_=>rfl
theorem xC(h:dJ d)(a:dD g)(b:dD u):(0≤C g 3∧C g 3<3)∧(fN (bq (az d 80) (A.lit ([(⟨9,(C g 3),(C u 900),0,0,0,⟨#[]⟩,⟨#[]⟩,⟨#[]⟩,0⟩:F),(⟨10,(C g 3),0,0,0,0,⟨#[]⟩,⟨#[]⟩,⟨#[]⟩,0⟩:F)]:List F)))).n=3:=by
 have e:0≤C g 3∧C g 3<3:=iT a (by decide);obtain⟨c,_⟩:=Vk h a b b;rw[LP c];exact⟨e,rfl⟩
theorem vM(a:dJ d)(b:dD g)(c:dD u)(e:dD h):kl (fN (bq (az d 80) (cs (C g 3) (C u 900)))) (fN (bq (bq (az d 80) (cs (C g 3) (C u 900))) (cs (C g 3) (C h 900)))):=by
 obtain⟨f,i,j,_⟩:=Vk a b c e;exact zi f i (by rw[j])
end
section
variable(d:A dE)(g:Int)(u:Int)(h:Int)
def acv:Bool:=(cond (fm (bq (az d 80) (A.lit ([(⟨9,(C g 3),(C u 900),0,0,0,⟨#[]⟩,⟨#[]⟩,⟨#[]⟩,0⟩:F),(⟨10,(C g 3),0,0,0,0,⟨#[]⟩,⟨#[]⟩,⟨#[]⟩,0⟩:F)]:List F)))) (cond (fm (bq (bq (az d 80) (A.lit ([(⟨9,(C g 3),(C u 900),0,0,0,⟨#[]⟩,⟨#[]⟩,⟨#[]⟩,0⟩:F),(⟨10,(C g 3),0,0,0,0,⟨#[]⟩,⟨#[]⟩,⟨#[]⟩,0⟩:F)]:List F))) (A.lit ([(⟨9,(C g 3),(C h 900),0,0,0,⟨#[]⟩,⟨#[]⟩,⟨#[]⟩,0⟩:F),(⟨10,(C g 3),0,0,0,0,⟨#[]⟩,⟨#[]⟩,⟨#[]⟩,0⟩:F)]:List F)))) (cond true (cond ((bM (bq (az d 80) (A.lit ([(⟨9,(C g 3),(C u 900),0,0,0,⟨#[]⟩,⟨#[]⟩,⟨#[]⟩,0⟩:F),(⟨10,(C g 3),0,0,0,0,⟨#[]⟩,⟨#[]⟩,⟨#[]⟩,0⟩:F)]:List F))))==(bM (bq (bq (az d 80) (A.lit ([(⟨9,(C g 3),(C u 900),0,0,0,⟨#[]⟩,⟨#[]⟩,⟨#[]⟩,0⟩:F),(⟨10,(C g 3),0,0,0,0,⟨#[]⟩,⟨#[]⟩,⟨#[]⟩,0⟩:F)]:List F))) (A.lit ([(⟨9,(C g 3),(C h 900),0,0,0,⟨#[]⟩,⟨#[]⟩,⟨#[]⟩,0⟩:F),(⟨10,(C g 3),0,0,0,0,⟨#[]⟩,⟨#[]⟩,⟨#[]⟩,0⟩:F)]:List F))))) ((fN (bq (az d 80) (A.lit ([(⟨9,(C g 3),(C u 900),0,0,0,⟨#[]⟩,⟨#[]⟩,⟨#[]⟩,0⟩:F),(⟨10,(C g 3),0,0,0,0,⟨#[]⟩,⟨#[]⟩,⟨#[]⟩,0⟩:F)]:List F)))).at' (toNat (C g 3))).j false) false) false) false)
def I9:Bool:=(acv d g u h)
def alb:a6:=⟨[.v (.af pK),.v a,.v a,.v a],fun d (g:Int) (u:Int) (h:Int)=>⟨⟨some (dJ d∧dD g∧dD u∧dD h),.bool (I9 d g u h)⟩⟩⟩
theorem aAh:oF 5 alb:=
 fun d p _ (g:Int) (u:Int) (h:Int) l=>bf ⟨.pure,[.tmp 8],[(.t 0,y)],⟨[U],[]⟩⟩ (.ad (.ad (.ad (.ad (.ad (.j ⟨256,[.b 0,.b 1,.b 2,.b 3,.b 4,.b 5,.b 6],[(.t 8,y)],[],.f⟩ .z .z)))))) (let i:=C g 3;let f:=bq (az d 80) (A.lit ([(⟨9,i,(C u 900),0,0,0,⟨#[]⟩,⟨#[]⟩,⟨#[]⟩,0⟩:F),(⟨10,i,0,0,0,0,⟨#[]⟩,⟨#[]⟩,⟨#[]⟩,0⟩:F)]:List F));let j:=bq f (A.lit ([(⟨9,i,(C h 900),0,0,0,⟨#[]⟩,⟨#[]⟩,⟨#[]⟩,0⟩:F),(⟨10,i,0,0,0,0,⟨#[]⟩,⟨#[]⟩,⟨#[]⟩,0⟩:F)]:List F));(0<(3:Int))∧(((0<(900:Int))∧((((az d 80).n:Nat):Int)+2≤549755813888))∧(((0<(900:Int))∧((f.n:Int)+2≤549755813888))∧((fm f)=true→((fm j)=true→((kl (fN f) (fN j))∧(true=true→(((bM f)==(bM j))=true→((0:Int)≤i∧i<(((fN f).n:Nat):Int)))))))))) (b4 (aw AS (aw xS (aw xT (aw uL (aw AT aT)))))) Tryz.func5 (have⟨a,b,c,e⟩:=l;⟨(by have:=xC a b c;have:=vM a b c e;omega),⟨⟨(by have:=xC a b c;have:=vM a b c e;omega),(by have:=xC a b c;have:=vM a b c e;have:=gE d 80;omega)⟩,⟨⟨(by have:=xC a b c;have:=vM a b c e;omega),(by have:=xC a b c;have:=vM a b c e;have:(A.lit ([(⟨9,(C g 3),(C u 900),0,0,0,⟨#[]⟩,⟨#[]⟩,⟨#[]⟩,0⟩:F),(⟨10,(C g 3),0,0,0,0,⟨#[]⟩,⟨#[]⟩,⟨#[]⟩,0⟩:F)]:List F)).n=2:=rfl;have:=kL (az d 80) (A.lit ([(⟨9,(C g 3),(C u 900),0,0,0,⟨#[]⟩,⟨#[]⟩,⟨#[]⟩,0⟩:F),(⟨10,(C g 3),0,0,0,0,⟨#[]⟩,⟨#[]⟩,⟨#[]⟩,0⟩:F)]:List F));have:=gE d 80;(try simp only[A.jd,A.ic,A.ll,A.pw,A.pD,A.rG,A.oW,l3,fr,hs]);omega)⟩,(fun m=>(fun n=>⟨(by have:=xC a b c;have:=vM a b c e;repeat first|assumption|apply sW|apply uZ|apply uY|apply k3|apply k4|apply lu|apply kt|apply lZ|apply iE|apply kJ|apply lo|apply ln|apply kO|apply kD|apply kE|apply gF|apply lq|apply me|apply ig|apply hp|apply ju|apply And.intro),(fun o=>(fun k=>(by have:=eq_of_beq k;have:=xC a b c;have:=vM a b c e;have:(A.lit ([(⟨9,(C g 3),(C u 900),0,0,0,⟨#[]⟩,⟨#[]⟩,⟨#[]⟩,0⟩:F),(⟨10,(C g 3),0,0,0,0,⟨#[]⟩,⟨#[]⟩,⟨#[]⟩,0⟩:F)]:List F)).n=2:=rfl;have:=kL (az d 80) (A.lit ([(⟨9,(C g 3),(C u 900),0,0,0,⟨#[]⟩,⟨#[]⟩,⟨#[]⟩,0⟩:F),(⟨10,(C g 3),0,0,0,0,⟨#[]⟩,⟨#[]⟩,⟨#[]⟩,0⟩:F)]:List F));have:=gE d 80;(try simp only[A.jd,A.ic,A.ll,A.pw,A.pD,A.rG,A.oW,l3,fr,hs]);omega)))⟩))⟩⟩⟩)
end
theorem axt(d:A dE)(g u h:Int)(_:Canon d)(_:d.n≤1048576)(j:dJ d)(c:dD g)(k:dD u)(l:dD h):I9 d g u h=true:=by
 obtain⟨a,e,n,m⟩:=Vk j c k l;have o:0≤C g 3∧C g 3<3:=iT c (by decide);have f:=mK a;have b:=mK e;rw[n,←f]at b;have v:=aDb (cg (bq (az d 80) (cs (C g 3) (C u 900))).B) (i:=toNat (C g 3)) (by omega);rw[←LP a,m]at v;unfold I9 acv;rw[kN a,kN e,b,v];simp
end Go.Proofs.YtfmgjpcmcjjoiaaGreatDoor
namespace Go.Proofs.YtfmgjpcmcjjoiaaGreatDoor
open Go Go.ChangeAt Go.ChangeShapes Go.RowKit Go.WideShapes Go.ah
theorem g2:Tryz.prog.globalNamed "rostrum/client.nothing" =some 0:=by kernel_rfl
theorem nj:(Tryz.prog.globals[0]?).map (·.type)=some 34:=by kernel_rfl
theorem ny{W:World}(C:laidMetH Tryz.prog [("rostrum/client.nothing",Rows.laid_rostrum_client_nothing)] W):W.var? Tryz.prog "rostrum/client.nothing" =some #[.int .i64 22,.string ⟨#[]⟩,.string ⟨#[]⟩,.string ⟨#[]⟩,.int .i64 0]:=by
 have C:laidMet Tryz.prog [("rostrum/client.nothing",Rows.laid_rostrum_client_nothing)] W:=C
 obtain⟨V,⟨T,X,cs,S,p,q,O,P,Q,N,_,_⟩,_⟩:=C;obtain rfl:=eG (g2.symm.trans O);obtain rfl:=eG (nj.symm.trans P);obtain⟨G,m,_,k,D,U,L⟩:=DataW.trod_struct Tryz.underlying34 N;have t:=congrArg Prod.fst k;simp only[Rows.laid_rostrum_client_nothing,DataW.agg.injEq]at t;have M:Tryz.prog.cellsOf 34=5:=by kernel_rfl
 rw[M]at D;have I: ∀(i:Nat) (f:Field) (x:DataW Unit),(Tryz.prog.underlying 34).map (fun s=>match s with| .struct w=>w[i]? |_=>none)=some (some f)→(G.map (·.1))[i]? =some x→ ∃y,DataW.trod (fun _=>()) Tryz.prog W 0 (fun _=>true) false m f.type ((cs.toList.drop f.offset).take (Tryz.prog.cellsOf f.type))=some y∧y.1=x:=by
  intro i f x j k;rw[Tryz.underlying34]at j;have j:=eG j;have:=L i f j;rw[fq,jQ]at k;obtain⟨y,o,rfl⟩:=k;exact⟨y,this.trans o,rfl⟩
 have J:Tryz.prog.cellsOf 3=1:=by kernel_rfl
 have K:Tryz.prog.cellsOf 9=1:=by kernel_rfl
 have H: ∀(i:Nat) (f:Field) (n:Int),f.type=3→f.offset=i→(Tryz.prog.underlying 34).map (fun s=>match s with| .struct w=>w[i]? |_=>none)=some (some f)→(G.map (·.1))[i]? =some (.lit (.int .i64 n))→cs.toList[i]? =some (.int .i64 n):=by
  intro i f n A B j k;obtain⟨y,o,v⟩:=I i f _ j k;rw[A,B,J]at o;obtain⟨z,E,rfl,_⟩:=DataW.trod_int (show Tryz.prog.underlying 3=some (.int .i64) by kernel_rfl) o;simp only[DataW.lit.injEq,Lit.int.injEq,true_and]at v;subst v;have:=congrArg (·[0]?) E;simpa[lv,ht]using this
 have F: ∀(i:Nat) (f:Field),f.type=9→f.offset=i→(Tryz.prog.underlying 34).map (fun s=>match s with| .struct w=>w[i]? |_=>none)=some (some f)→(G.map (·.1))[i]? =some (.lit (.string []))→cs.toList[i]? =some (.string ⟨#[]⟩):=by
  intro i f A B j k;obtain⟨y,o,v⟩:=I i f _ j k;rw[A,B,K]at o;obtain⟨z,E,rfl,_⟩:=DataW.trod_string (show Tryz.prog.underlying 9=some .string by kernel_rfl) o;simp only[DataW.lit.injEq,Lit.string.injEq]at v;have R:z=⟨#[]⟩:=by
   obtain⟨⟨l⟩⟩:=z;simp only at v;subst v;rfl
  subst R;have:=congrArg (·[0]?) E;simpa[lv,ht]using this
 have d:=H 0 _ 22 rfl rfl (by rw[Tryz.underlying34];rfl) (by rw[←t];rfl);have g:=F 1 _ rfl rfl (by rw[Tryz.underlying34];rfl) (by rw[←t];rfl);have u:=F 2 _ rfl rfl (by rw[Tryz.underlying34];rfl) (by rw[←t];rfl);have h:=F 3 _ rfl rfl (by rw[Tryz.underlying34];rfl) (by rw[←t];rfl);have r:=H 4 _ 0 rfl rfl (by rw[Tryz.underlying34];rfl) (by rw[←t];rfl);rw[Q];obtain⟨l⟩:=cs;simp only at D d g u h r
 match l,D with
 |[a,b,c,s,e],_=>
  simp at d g u h r;subst d g u h r;rfl
theorem nz{W:World}(h:laidMetH Tryz.prog [("rostrum/client.nothing",Rows.laid_rostrum_client_nothing)] W):oL W (fun y=>y<W.heap.size):=by
 have b:=ny h;refine⟨fun _ h=>h,fun g=> ?_⟩
 cases g with
 |succ g=>exact .inl rfl
 |zero=>
  refine .inr ?_;have c:=fun i=>World.var?_cell g2 b i;have d:0<W.heap.size:=by
   have f:=c 0;rcases nL W.heap.size with e|e
   ·have:W.heap[0]? =none:=rk (by omega);unfold World.var? at b;rw[g2]at b;simp only[Option.bind_some,this]at b
    cases b
   ·exact e
  refine aR.ref _ 0 0 (fun j=>([.int .i64 22,.str ⟨#[]⟩,.str ⟨#[]⟩,.str ⟨#[]⟩,.int .i64 0]:List J).getD j .undef) (fun j=>([.int .i64 22,.string ⟨#[]⟩,.string ⟨#[]⟩,.string ⟨#[]⟩,.int .i64 0]:List Value).getD j undef) d ?_ ?_ ?_
  ·intro j a;have a:j<5:=a
   match j,a with
   |0,_=>rfl
   |1,_=>rfl
   |2,_=>rfl
   |3,_=>rfl
   |4,_=>rfl
  ·intro j a;have a:j<5:=a;rw[cN,c j]
   match j,a with
   |0,_=>rfl
   |1,_=>rfl
   |2,_=>rfl
   |3,_=>rfl
   |4,_=>rfl
  ·intro j a;have a:j<5:=a
   match j,a with
   |0,_=>exact .int _ _
   |1,_=>exact .str _ (cA _)
   |2,_=>exact .str _ (cA _)
   |3,_=>exact .str _ (cA _)
   |4,_=>exact .int _ _
theorem aAA:q2 Tryz.prog 1048576 12 [22,3,3,3] fun G=>cY Tryz.prog 5 G (.bool true):=by
 refine Eq.mpr (β:= ∀(b:Nat) (a:Nat→List J),b≤1048576→(∀i,b≤i→a i=[.int .i64 0,.int .i64 0,.int .i64 0,.int .i64 0,.int .i64 0,.int .i64 0,.int .i64 0,.str ⟨#[]⟩])→(∀i,i<b→ ∀K:List J→Prop,(∀d:Int,(Lit.int .i64 d).wf=true→ ∀g:Int,(Lit.int .i64 g).wf=true→ ∀u:Int,(Lit.int .i64 u).wf=true→ ∀h:Int,(Lit.int .i64 h).wf=true→ ∀r:Int,(Lit.int .i64 r).wf=true→ ∀o:Int,(Lit.int .i64 o).wf=true→ ∀q:Int,(Lit.int .i64 q).wf=true→ ∀t:ByteArray,t.size≤1048576→K [.int .i64 d,.int .i64 g,.int .i64 u,.int .i64 h,.int .i64 r,.int .i64 o,.int .i64 q,.str t])→K (a i))→ ∀g:Int,(Lit.int .i64 g).wf=true→ ∀u:Int,(Lit.int .i64 u).wf=true→ ∀h:Int,(Lit.int .i64 h).wf=true→cY Tryz.prog 5 [.arr 8 b a,.int .i64 g,.int .i64 u,.int .i64 h] (.bool true)) (by kernel_rfl) ?_;intro b a A x n g e u f h k;have hX:=de e;have E:=de f;have F:=de k;have B: ∀i,i<b→a i=e_ (bZ (a i)):=fun i c=>n i c (fun l=>l=e_ (bZ l)) (fun _ _ _ _ _ _ _ _ _ _ _ _ _ _ _ _=>rfl);have v: ∀i,i<b→a i=e_ (bZ (a i)):=fun i c=>B i c;have s:Canon (cD bZ (.arr 8 b a)):=fun i c=>by
  show bZ (a i)=default;rw[x i c];rfl
 have p:dJ (cD bZ (.arr 8 b a)):=⟨(by show b≤_;omega),fun j z=>by
  exact n j z (fun l=>pM (bZ l)) (fun d C g e u f h k r H o I q D t L=>⟨de C,de e,de f,de k,de D⟩)⟩
 have w:cY Tryz.prog 5 [aH 8 e_ (cD bZ (.arr 8 b a)),.int .i64 g,.int .i64 u,.int .i64 h] (.bool (I9 (cD bZ (.arr 8 b a)) g u h)):=cY.jz fun y=>aAh (cD bZ (.arr 8 b a)) (by show _≤_;simp only[cD];omega) y.1 g u h ⟨p,hX,E,F⟩;have m:=w.u9 (fo (u0 rfl v) (fo rB (fo rB (fo rB xV))));rw[axt (cD bZ (.arr 8 b a)) g u h s A p (de e) (de f) (de k)]at m;exact m
def g4(a:Os):World:=
 {World.holding Tryz.prog a ⟨#[],#[],[]⟩with heap:=(World.holding Tryz.prog a ⟨#[],#[],[]⟩).heap.modify 0 fun
   | .cells _ t frozen=> .cells #[.int .i64 22,.string ⟨#[]⟩,.string ⟨#[]⟩,.string ⟨#[]⟩,.int .i64 0] t frozen
   |o=>o}
theorem nu(a:Os):laidMet Tryz.prog Rows.topTwiceUptoRow.laid ((g4 a).forCall (fun _ _=>0) ⟨#[],#[.slice none 0 0,.int .i64 0,.int .i64 0,.int .i64 0],[]⟩).memory:=
 laidMet_of_run' 8 (by kernel_rfl) (by kernel_rfl)
theorem nw(a:Os){H:Type}(enc:TypeId×Value→H): ∃b,DataW.whole enc Tryz.prog ((g4 a).forCall (fun _ _=>0) ⟨#[],#[.slice none 0 0,.int .i64 0,.int .i64 0,.int .i64 0],[]⟩).memory Tryz.f5.params.toList Rows.topTwiceSpec.vars false (#[.slice none 0 0,.int .i64 0,.int .i64 0,.int .i64 0]:Array Value).toList 8=some ([.nil,.lit (.int .i64 0),.lit (.int .i64 0),.lit (.int .i64 0)],[],b):=
 ⟨[],by kernel_rfl⟩
theorem aCG(a:Os)(q:a.Started)(H:Type)(enc:TypeId×Value→H)(F:Stop.Interp):
  ReturnsInHanded {} Tryz.checked a 5 .any ((Rows.OpenSpec.upto Rows.topTwiceSpec).preRow enc Tryz.prog Tryz.f5 Rows.topTwiceUptoRow.domain false Rows.topTwiceUptoRow.laid) (((Rows.OpenSpec.upto Rows.topTwiceSpec).at F).post enc Tryz.prog Tryz.f5 false true false false):=by
 obtain⟨v,p⟩:=nw a enc;refine returnsInHanded_of_row (C:=Tryz.checked) (s:=Rows.OpenSpec.upto Rows.topTwiceSpec) Tryz.own q (by kernel_rfl) Tryz.func5
  (witness_row_at (enc:=enc) (C:=Tryz.checked) false (g4 a) #[.slice none 0 0,.int .i64 0,.int .i64 0,.int .i64 0] rfl (by kernel_rfl) (by kernel_rfl) (by kernel_rfl)
   (OpenSpec.preRow_of_cond 8 p (by kernel_rfl) (fun k m=>by cases m;kernel_rfl) (by kernel_rfl) (nu a))) ?_
 intro W base c b f e o i _ j _ g _ _;exact xW (P:=Tryz.prog) (fn:=Tryz.f5) (s:=Rows.topTwiceSpec) (n:=12) (B:=1048576) (fx:=Rows.uptoBulk) (eV:=4) (bh:=[22,3,3,3]) (by decide) (vp H) rfl mH (by kernel_rfl) (by kernel_rfl) rfl (by kernel_rfl) rfl (fun b h=>by
  match b,h with
  |[r,t,d3,u],_=>rfl) aAA W base c b f e o i (fun d l=>vq (j _ rfl) d (by simp [l])) (nz g)
theorem auy:joinedFacts Tryz.prog 5 Tryz.f5 Rows.topTwiceSpec Rows.topTwiceUptoRow=true:=
 xM (by kernel_rfl) mH xJ (by kernel_rfl) (by kernel_rfl) rfl xK rfl xL (by kernel_rfl) (by kernel_rfl) (by kernel_rfl) (by kernel_rfl) (by kernel_rfl) (by kernel_rfl) (by kernel_rfl) (by kernel_rfl) (by kernel_rfl)
  (by kernel_rfl) (by kernel_rfl) (by kernel_rfl) (by kernel_rfl) (by rw[xE];rfl) rfl xF xG (by rw[xH];rfl) (by rw[xI];rfl) (by kernel_rfl) (by kernel_rfl) (by kernel_rfl) (by kernel_rfl)
theorem aCH:Rows.TopTwiceUptoSaid:=
 OpenClaim.holds_of_cond 5 Tryz.f5 rfl rfl rfl rfl rfl rfl rfl ⟨rfl,rfl,rfl,rfl,rfl⟩ rfl rfl rfl rfl rfl (by kernel_rfl) Tryz.func5 auy
  (aq (by kernel_rfl)) (by unfold Func.isWrapper;first|(rw[bF (by decide+kernel)];kernel_rfl)|(rw[bH (by decide+kernel)];exact⟨rfl,rfl⟩))
  (fun a b H enc _ F=>by rw[OpenClaim.pre_eq_preRow];exact aCG a b H enc F)
theorem nv(f:FuncId)(b:Func)(c:Tryz.pinned.checked.prog.funcNamed "rostrum/rostrumtop.TopTwice" =some f)(d:Tryz.pinned.checked.prog.funcs[f]? =some b):
  false=Tryz.pinned.checked.prog.looks []∧ ∀(j:Nat) t,b.params[j]? =some t→Tryz.pinned.checked.prog.wantsStandIn t=false:=by
 obtain rfl:f=5:=eG ((show Tryz.prog.funcNamed "rostrum/rostrumtop.TopTwice" =some 5 by kernel_rfl).symm.trans c)|>.symm
 obtain rfl:b=Tryz.f5:=(eG (Tryz.func5.symm.trans d)).symm;refine⟨by kernel_rfl,fun j t e=> ?_⟩;have a:t∈Tryz.f5.params.toList:=by have:=Array.mem_of_getElem? e;simpa using this
 have a:t∈([22,3,3,3]:List Nat):=a;simp only[hf,oH,or_false]at a;rcases a with rfl|rfl|rfl|rfl
 ·exact(show Tryz.prog.wantsStandIn 22=false by kernel_rfl)
 ·exact(show Tryz.prog.wantsStandIn 3=false by kernel_rfl)
 ·exact(show Tryz.prog.wantsStandIn 3=false by kernel_rfl)
 ·exact(show Tryz.prog.wantsStandIn 3=false by kernel_rfl)
theorem topTwice_holds:Rows.TopTwiceUptoCardSaid:=
 Claim7.holds_tied_plain_at .later [] _ _ _ _ aCH (fun _ h=>by cases h) (by kernel_rfl) (fun _ h=>by cases h) topTwiceUpto_row_tie rfl ⟨rfl,rfl⟩ (by kernel_rfl) rfl nv (by kernel_rfl)
end Go.Proofs.YtfmgjpcmcjjoiaaGreatDoor
