/- rostrum/rostrumtop.TopCopies: it answers true, as the document says, for every input whose bulk is at most 1048576; the card ties what client.nothing holds. -/
import Derived.Test.YtfmgjpcmcjjoiaaGreatDoorXc
import Derived.Test.YtfmgjpcmcjjoiaaGreatDoorYe
import Derived.Deep.DeepHandedRow
import Derived.Lib.LaidTab
import Derived.Test.YtfmgjpcmcjjoiaaGreatDoorCards
import Derived.Test.YtfmgjpcmcjjoiaaGreatDoorTie
open Go.IntKind (i64 u64 u8)
open Int (toNat)
set_option maxRecDepth 100000
set_option maxHeartbeats 4000000
set_option linter.all false
noncomputable section
namespace Go.Proofs.YtfmgjpcmcjjoiaaGreatDoor
open Go Go.RowKit Go.ah
section
variable {ms:O} {Z:H} {B:A a7} {G:A aJ} (E b9:A O)
def BS(r a:oN):Prop:=uT r=uT a∧Fj r=Fj a∧Fi r=Fi a
theorem agb(n:H)(k:A O)(t:A a7)(l:A aJ):uT (l6 n k t l)=n:=rfl
theorem afr(n:H)(k:A O)(t:A a7)(l:A aJ):Fj (l6 n k t l)=t:=rfl
theorem afq(n:H)(k:A O)(t:A a7)(l:A aJ):Fi (l6 n k t l)=l:=rfl
theorem aeq(n:H)(t:A a7)(l:A aJ):BS (l6 n E t l) (l6 n b9 t l):=by
 unfold BS;rw[agb,agb,afr,afr,afq,afq];exact⟨rfl,rfl,rfl⟩
theorem KL(r:oN):BS r r:=⟨rfl,rfl,rfl⟩
theorem aes: ∀(k:Nat) (v:Int),(g1 Z E B G k v).1=(g1 Z b9 B G k v).1∧BS (g1 Z E B G k v).2 (g1 Z b9 B G k v).2
 |0,_=>by
  rw[g1,g1];exact⟨rfl,KL _⟩
 |k+1,v=>by
  rw[g1,g1]
  cases decide (v>Z.co)<;>simp only[aN,aQ]
  ·exact⟨trivial,KL _⟩
  ·cases mv Z v<;>simp only[aN,aQ]
   ·exact aes k _
   ·exact⟨trivial,aeq E b9 _ _ _⟩
theorem atY:hB Z E B G=hB Z b9 B G∧jE Z E B G=jE Z b9 B G∧qp Z E B G=qp Z b9 B G:=by
 obtain⟨a,b,c,d⟩:=aes (Z:=Z) (B:=B) (G:=G) E b9 ((toNat ((ck Z)-Z.co))+1) (ck Z);unfold hB jE qp mw;rw[a,b,c,d];exact⟨rfl,rfl,rfl⟩
theorem aer: ∀(k:Nat) (v:Int) (a:A Int) (b:Int),((eT ms Z E B G k v a b).1=(eT ms Z b9 B G k v a b).1∧(eT ms Z E B G k v a b).2.1=(eT ms Z b9 B G k v a b).2.1∧(eT ms Z E B G k v a b).2.2.1=(eT ms Z b9 B G k v a b).2.2.1)∧BS (eT ms Z E B G k v a b).2.2.2 (eT ms Z b9 B G k v a b).2.2.2
 |0,_,_,_=>by
  rw[eT,eT];exact⟨⟨rfl,rfl,rfl⟩,KL _⟩
 |k+1,v,a,b=>by
  rw[eT,eT];generalize decide (v≤_)=c
  cases c<;>simp only[aN,aQ]
  ·exact⟨⟨trivial,trivial,trivial⟩,KL _⟩
  ·generalize gN _ _=d
   cases d<;>simp only[Bool.not_true,Bool.not_false,aN,aQ]
   ·exact⟨⟨trivial,trivial,trivial⟩,aeq E b9 _ _ _⟩
   ·exact aer k _ _ _
theorem atW:ga ms Z E B G=ga ms Z b9 B G∧iA ms Z E B G=iA ms Z b9 B G∧tY ms Z E B G=tY ms Z b9 B G:=by
 obtain⟨⟨a,b,c⟩,d,f,g⟩:=aer (ms:=ms) (Z:=Z) (B:=B) (G:=G) E b9 ((toNat ((i64.wrap ((b6 Z.l Z.lt Z.li ms.p ms.v ms.i)+((b2 Z.l Z.lt Z.li ms.p ms.v ms.i).n:Int)))+1- (c7 Z.l Z.lt Z.li ms.p ms.v ms.i)))+1) (c7 Z.l Z.lt Z.li ms.p ms.v ms.i) Z.bd Z.bh;have e: ∀k:A O,j7 ms Z k B G=eT ms Z k B G ((toNat ((i64.wrap ((b6 Z.l Z.lt Z.li ms.p ms.v ms.i)+((b2 Z.l Z.lt Z.li ms.p ms.v ms.i).n:Int)))+1- (c7 Z.l Z.lt Z.li ms.p ms.v ms.i)))+1) (c7 Z.l Z.lt Z.li ms.p ms.v ms.i) Z.bd Z.bh:=fun _=>rfl;rw[←e,←e]at a b c d f g;have h:hA ms Z E B G=hA ms Z b9 B G:=by unfold hA tZ;rw[a]
 have i:mr ms Z E B G=mr ms Z b9 B G:=by unfold mr D2 Q1;rw[b,c]
 unfold ga iA tY;rw[h,i,d,f,g];exact⟨rfl,rfl,rfl⟩
theorem atX:od ms Z E B G=od ms Z b9 B G∧qm ms Z E B G=qm ms Z b9 B G∧ud ms Z E B G=ud ms Z b9 B G:=by
 unfold od qm ud j8 ng IU;obtain⟨a,b,c⟩:=atY (Z:=lS (toNat ms.j) ms Z) (B:=B) (G:=G) E b9;rw[a,b,c];exact⟨rfl,rfl,rfl⟩
theorem atV{i j:Nat} :iy i j ms Z E B G=iy i j ms Z b9 B G∧jj i j ms Z E B G=jj i j ms Z b9 B G∧qh i j ms Z E B G=qh i j ms Z b9 B G:=by
 have h (m:O) (n:H):=atW (ms:=m) (Z:=n) (B:=B) (G:=G) E b9;have k (m:O) (n:H):=atX (ms:=m) (Z:=n) (B:=B) (G:=G) E b9;unfold iy jj qh;rw[(h _ _).1,(h _ _).2.1,(h _ _).2.2,(k _ _).1,(k _ _).2.1,(k _ _).2.2];exact⟨rfl,rfl,rfl⟩
end
def hH(C:ak)(D:A O):ak:={C with s:=D}
theorem aAN(C:ak)(D:A O)(i:Nat)(n:H)(E:A O)(B:A a7)(G:A aJ):(hH C D).put i n E B G=hH (C.put i n C.s B G) E:=by
 match i with
 |0=>rfl
 |1=>rfl
 |i+2=>rfl
theorem aii{C:ak}{ms:O}(D:A O)(b: ∀i,bW (C.Z i))(a:fu ms):e2 (hH C D) ms=hH (e2 C ms) D:=by
 have g:=a.p0;have h:=a.to;unfold e2 ow;generalize k:toNat ms.ai=i;generalize l:toNat ms.j=j;have f:(hH C D).Z i=C.Z i:=ox C D i;have e:=atV (ms:=ms) (Z:=C.Z i) (B:=C.told) (G:=C.a2) (i:=i) (j:=j) D C.s;have c:=(SW (i:=i) (j:=j) (ms:=ms) (E:=D) (B:=C.told) (G:=C.a2) (b i) a (by omega) (by omega)).a;have d:=(SW (i:=i) (j:=j) (ms:=ms) (E:=C.s) (B:=C.told) (G:=C.a2) (b i) a (by omega) (by omega)).a;rw[f,aAN];show hH (C.put i (iy i j ms (C.Z i) D C.told C.a2) C.s (jj i j ms (C.Z i) D C.told C.a2) (qh i j ms (C.Z i) D C.told C.a2)) (wC i j ms (C.Z i) D C.told C.a2)=_;rw[c,d,e.1,e.2.1,e.2.2]
def nT(C:ak)(l:List O):ak:=l.foldl e2 C
structure BP (k:Nat) (X:ak):Prop where
 j: ∀i,bW (X.Z i)
 w: ∀i,(X.Z i).ws.n≤k
theorem XE{k:Nat}{X:ak}(h:BP k X){ms:O}(a:fu ms):BP k (e2 X ms):=⟨(yz h.j a).j,Vq h.j a h.w⟩
theorem YL{E:A O}(d:E.n≤300): ∀(m a v:Nat) (X:ak),v+m=E.n→m≤a→bc (r7 E (a+1) (v:Int) X)=nT X (E.B.drop v)
 |0,a,v,X,c,b=>by
  rw[r7,bI (show¬(v:Int)<(E.n:Int) by omega),aQ,G2,List.drop_eq_nil_of_le (by rw[dt];omega)];rfl
 |m+1,a,v,X,c,b=>by
  obtain⟨a,rfl⟩: ∃q,a=q+1:=⟨a-1,by omega⟩;rw[r7,bT (show(v:Int)<(E.n:Int) by omega),aN,N _,VE (by omega)];exact YL d m a (v+1) _ (by omega) (by omega)
theorem Hs{k:Nat}{C:ak}(h:fs k C):n_ C.s C=nT (hH C L) C.s.B:=by
 have q:=YL h.jU C.s.n (toNat ((C.s.n:Int)- (0:Int))) 0 (hH C L) (by omega) (by omega);rw[List.drop_zero]at q;exact q
def mN(C:ak):Nat→ak
 |0=>C
 |k+1=>u2 (mN C k) 0
theorem an4{s:A O}{k:Nat}{l:List O}(h:s.B=l.drop k)(a:k<l.length):s.at' 0=l[k]∧(A.del s 0 1).B=l.drop (k+1)∧s.n=l.length-k:=by
 have b:s.n=l.length-k:=by rw[←dt,h,rj]
 refine⟨?_,?_,b⟩
 ·have:=kV s (i:=0) (by omega);rw[h,ht,lA,cT a]at this;exact(eG this).symm
 ·apply yG;intro i
  by_cases c:i<s.n-1
  ·rw[kV _ (show i<(A.del s 0 1).n from c),ht];have:=kV s (i:=i+1) (by omega);rw[h,ht]at this;rw[show k+1+i=k+(i+1) by omega,this];rfl
  ·rw[e0 (by rw[dt];show s.n- (1-0)≤i;omega),e0 (by rw[rj];omega)]
theorem Me{c:Nat}{C:ak}(h:fs c C): ∀k,k≤C.s.n→ ∃D:A O,mN C k=hH (nT (hH C L) (C.s.B.take k)) D∧D.B=C.s.B.drop k∧BP c (nT (hH C L) (C.s.B.take k))
 |0,_=>let a:=hH C L;⟨C.s,rfl,rfl,⟨fun i=>by show bW (a.Z i);rw[show a.Z i=C.Z i from ox C L i];exact h.j i,fun i=>by show(a.Z i).ws.n≤c;rw[show a.Z i=C.Z i from ox C L i];exact h.wn i⟩⟩
 |k+1,o=>by
  obtain⟨D,e,n,d⟩:=Me h k (by omega);have b:k<C.s.B.length:=by rw[dt];omega
  obtain⟨l,m,d3⟩:=an4 n b;have j:fu (C.s.B[k]):=by
   have g:=kV C.s (i:=k) (by omega);rw[cT b]at g;rw[eG g];exact h.tn _ (by omega)
  have f:nT (hH C L) (C.s.B.take (k+1))=e2 (nT (hH C L) (C.s.B.take k)) (C.s.B[k]):=by
   unfold nT;rw[List.take_add_one,cT b,List.foldl_append];rfl
  refine⟨A.del D 0 1,?_,m,by rw[f];exact XE d j⟩;show u2 (mN C k) 0=_;rw[e,f,←aii _ d.j j];unfold u2;rw[show(hH (nT (hH C L) (C.s.B.take k)) D).s=D from rfl,show toNat 0=0 from rfl,l];rfl
theorem ao_{f:Nat}{C:ak}(h:fs f C):views (n_ C.s C)=views (mN C C.s.n)∧(n_ C.s C).told=(mN C C.s.n).told∧(mN C C.s.n).s.n=0:=by
 obtain⟨D,e,a,g⟩:=Me h C.s.n (bx _);have b:=Hs h;have d:C.s.B.take C.s.n=C.s.B:=by rw[←dt C.s];exact List.take_length ..
 rw[d]at e;have c:D.n=0:=by rw[←dt,a,rj,dt];omega
 rw[e,b];exact⟨rfl,rfl,c⟩
def gH(v:dg)(n:H):Prop:=n.up=false∧eF n=v
theorem aAM(C:ak)(a:Nat)(n:H)(E:A O)(B:A a7)(G:A aJ)(i:Nat):(C.put a n E B G).Z i=C.Z i∨((C.put a n E B G).Z i=n∧C.Z a=C.Z i):=by
 match a,i with
 |0,0=>exact .inr ⟨rfl,rfl⟩
 |0,1=>exact .inl rfl
 |0,i+2=>exact .inl rfl
 |1,0=>exact .inl rfl
 |1,1=>exact .inr ⟨rfl,rfl⟩
 |1,i+2=>exact .inl rfl
 |a+2,0=>exact .inl rfl
 |a+2,1=>exact .inl rfl
 |a+2,i+2=>exact .inr ⟨rfl,rfl⟩
theorem tu{v:dg}{C:ak}{a i:Nat}{n:H}{E:A O}{B:A a7}{G:A aJ}(h:gH v (C.Z i))(b:gH v (C.Z a)→gH v n):gH v ((C.put a n E B G).Z i):=by
 rcases aAM C a n E B G i with e|⟨e,f⟩
 ·rw[e];exact h
 ·rw[e];exact b (by rw[f];exact h)
theorem Ct{v:dg}{c:Bool}{a b:H}(d:c=false)(h:gH v b):gH v (H.bif c a b):=by
 rw[H.bV,d];exact h
theorem X3{v:dg}{C:ak}{ms:O}{i:Nat}(h:gH v (C.Z i)):gH v ((e2 C ms).Z i):=by
 unfold e2 ow;refine tu h fun k=> ?_;unfold iy;rw[H.bV,k.1];exact k
theorem X4{v:dg}{i:Nat} : ∀(l:List O) {C:ak},gH v (C.Z i)→gH v ((nT C l).Z i)
 |[],_,h=>h
 |m::l,_,h=>X4 l (X3 h)
theorem an9{k:Nat}{v:dg}{C:ak}{ac:F}{i:Nat}(a:fs k C)(h:gH v (C.Z i))(b:ac.j≠10):gH v ((cw C ac).Z i):=by
 unfold cw;refine eo (P:=fun X=>gH v (X.Z i)) (fun _=> ?_) fun _=>eo (P:=fun X=>gH v (X.Z i)) (fun _=>tu h fun k=>Ct k.1 k) fun _=>eo (P:=fun X=>gH v (X.Z i)) (fun _=>tu h fun k=>Ct k.1 k) fun _=>eo (P:=fun X=>gH v (X.Z i)) (fun _=>tu h fun k=>Ct k.1 k) fun _=>eo (P:=fun X=>gH v (X.Z i)) (fun _=> ?_) fun _=>eo (P:=fun X=>gH v (X.Z i)) (fun _=> ?_) fun _=>eo (P:=fun X=>gH v (X.Z i)) (fun _=> ?_) fun _=>eo (P:=fun X=>gH v (X.Z i)) (fun _=> ?_) fun _=>eo (P:=fun X=>gH v (X.Z i)) (fun _=>tu h fun k=>Ct k.1 k) fun _=>eo (P:=fun X=>gH v (X.Z i)) (fun e=>absurd (eq_of_beq e) b) fun _=>eo (P:=fun X=>gH v (X.Z i)) (fun _=>tu h fun k=>Ct k.1 k) fun _=> ?_
 ·refine tu h fun k=> ?_;unfold DO r8;rw[H.bV,k.1];exact k
 ·rw[Lq,Bv];exact tu h fun k=>⟨k.1,k.2⟩
 ·refine eo (P:=fun X=>gH v (X.Z i)) (fun _=> ?_) fun _=>h;refine X3 ?_;rw[show(zX ac C.s C).Z i=C.Z i from ox C _ i];exact h
 ·refine eo (P:=fun X=>gH v (X.Z i)) (fun _=> ?_) fun _=>h;rw[show(Iw ac C.s C).Z i=C.Z i from ox C _ i];exact h
 ·refine eo (P:=fun X=>gH v (X.Z i)) (fun _=> ?_) fun _=>h;rw[show(Ix ac C.s C).Z i=C.Z i from ox C _ i];exact h
 ·rw[show n_ C.s C=_ from Hs a];refine X4 _ ?_;rw[show(hH C L).Z i=C.Z i from ox C _ i];exact h
def cd(i j:Nat)(ms:O):O:=⟨(j:Int),(i:Int),ms.K,ms.an,ms.p,ms.v,ms.ax,ms.aF,ms.i,ms.aP,ms.cG,ms.cZ,ms.cJ,ms.dh,ms.b1⟩
def eJ(i j:Nat)(ms:O)(s:H)(E:A O)(B:A a7)(G:A aJ):H:=
 H.bif (ms.K==1) (wH (cd i j ms) s) (H.bif (ms.K==2) (H.bif (cond (s.ro==1) (ms.an==(i64.wrap (s.aX+1))) false) (H.bif (hj (H.fP j s)) (lR (H.fP j s)) (H.fP j s)) s)
  (H.bif (decide (ms.an<s.aX)) (H.bif (ms.K !=8) (qk (j:Int) s) s) (H.bif (ms.K==3) (k_ (cd i j ms) s) (H.bif (ms.K==4) (H.bif (s.ro==2) (H.bif (hj (H.fP j s)) (tX (H.fP j s)) (H.fP j s)) s)
   (H.bif (ms.K==5) (ga (cd i j ms) (gM s) E B G) (H.bif (ms.K==7) (gz (cd i j ms) (gM s)) (H.bif (ms.K==6) (H.bif (s.ro==3) (od (cd i j ms) s E B G) s) s)))))))
def gx(i j:Nat)(ms:O)(s:H)(E:A O)(B:A a7)(G:A aJ):A a7:=
 bif(ms.K==1)then B else bif(ms.K==2)then B else bif(decide (ms.an<s.aX))then B else bif(ms.K==3)then B else bif(ms.K==4)then B else
  bif(ms.K==5)then(iA (cd i j ms) (gM s) E B G)else bif(ms.K==7)then B else bif(ms.K==6)then(cond (s.ro==3) (qm (cd i j ms) s E B G) B)else B
section
variable {i j:Nat} {ms:O} {Z s:H} {E:A O} {B:A a7} {G:A aJ}
theorem Cm:iy i j ms Z E B G=H.bif (!Z.up) Z (H.bif (lO ms Z) (eJ i j ms (eN ms Z) E B G) (f_ ms.an (-1) Z)):=rfl
theorem GZ:jj i j ms Z E B G=bif !Z.up then B else bif lO ms Z then gx i j ms (eN ms Z) E B G else B:=by
 unfold jj gx;simp only[Bool.cond_self];rfl
theorem Tv{a b:Int}(h:lQ a b Z=false):f_ a b Z=Z:=by
 unfold lQ at h;unfold f_ QW ab4
 cases e:gN (⟨1,a,b,0,0,0,false,0,0,0,⟨#[]⟩,⟨#[]⟩,⟨#[]⟩,0,0,0,0,(L:A aj),0,(L:A aG)⟩:b7) Z with
 |true=>rw[e]at h;cases h
 |false=>
  have d:=e;unfold gN at d;have k: ∀c:Bool,(cond c false true)=false→c=true:=fun c=>by cases c<;>simp
  have c:=k _ d;unfold h_ Ed Q8;simp only[Bool.not_false,aN];rw[c];rfl
theorem afT{a b:Int}(h:lQ a b Z=true):(f_ a b Z).aX=a:=by
 unfold lQ at h;unfold f_ QW
 cases e:gN (⟨1,a,b,0,0,0,false,0,0,0,⟨#[]⟩,⟨#[]⟩,⟨#[]⟩,0,0,0,0,(L:A aj),0,(L:A aG)⟩:b7) Z with
 |true=>rfl
 |false=>rw[e]at h;cases h
theorem Vd(j:Nat)(n:H):(H.fP j n).aX=n.aX∧(H.fP j n).ro=n.ro∧(H.fP j n).up=n.up∧eF (H.fP j n)=eF n∧H.fP j (H.fP j n)=H.fP j n:=by
 match j with
 |0=>exact⟨rfl,rfl,rfl,rfl,rfl⟩
 |1=>exact⟨rfl,rfl,rfl,rfl,rfl⟩
 |_+2=>exact⟨rfl,rfl,rfl,rfl,rfl⟩
theorem Cu(h:ms.K=1):eJ i j ms s E B G=wH (cd i j ms) s∧gx i j ms s E B G=B:=by
 simp [eJ,gx,h,H.bV]
theorem Cw(h:ms.K=2):eJ i j ms s E B G=H.bif (cond (s.ro==1) (ms.an==(i64.wrap (s.aX+1))) false) (H.bif (hj (H.fP j s)) (lR (H.fP j s)) (H.fP j s)) s∧gx i j ms s E B G=B:=by
 simp [eJ,gx,h,H.bV]
theorem Yb(c:ms.K≠1)(d:ms.K≠2)(h:ms.an<s.aX):eJ i j ms s E B G=H.bif (ms.K !=8) (qk (j:Int) s) s∧gx i j ms s E B G=B:=by
 have a:=ik.2 c;have b:=ik.2 d;simp [eJ,gx,a,b,h,H.bV]
theorem ze(h:ms.K=3)(a: ¬ms.an<s.aX):eJ i j ms s E B G=k_ (cd i j ms) s∧gx i j ms s E B G=B:=by
 simp [eJ,gx,h,a,H.bV]
theorem O7(h:ms.K=4)(a: ¬ms.an<s.aX):eJ i j ms s E B G=H.bif (s.ro==2) (H.bif (hj (H.fP j s)) (tX (H.fP j s)) (H.fP j s)) s∧gx i j ms s E B G=B:=by
 simp [eJ,gx,h,a,H.bV]
theorem zf(h:ms.K=5)(a: ¬ms.an<s.aX):eJ i j ms s E B G=ga (cd i j ms) (gM s) E B G∧gx i j ms s E B G=iA (cd i j ms) (gM s) E B G:=by
 simp [eJ,gx,h,a,H.bV]
theorem zg(h:ms.K=7)(a: ¬ms.an<s.aX):eJ i j ms s E B G=gz (cd i j ms) (gM s)∧gx i j ms s E B G=B:=by
 simp [eJ,gx,h,a,H.bV]
theorem Cy(h:ms.K=6)(a: ¬ms.an<s.aX):eJ i j ms s E B G=H.bif (s.ro==3) (od (cd i j ms) s E B G) s∧gx i j ms s E B G=bif(s.ro==3)then(qm (cd i j ms) s E B G)else B:=by
 simp [eJ,gx,h,a,H.bV]
theorem aoa(f:ms.K≠1)(g:ms.K≠2)(h:ms.K≠3)(k:ms.K≠4)(l:ms.K≠5)(m:ms.K≠6)(n:ms.K≠7)(o: ¬ms.an<s.aX):eJ i j ms s E B G=s∧gx i j ms s E B G=B:=by
 have a:=ik.2 f;have b:=ik.2 g;have bl:=ik.2 h;have c:=ik.2 k;have cQ:=ik.2 l;have d:=ik.2 m;have e:=ik.2 n;simp [eJ,gx,a,b,bl,c,cQ,d,e,o,H.bV]
theorem aBW(n:H):lR n=n∨(lR n).ro=2:=by
 unfold lR
 cases e:tW n with
 |false=>exact .inr (by rw[H.bV];rfl)
 |true=>
  refine .inl ?_;rw[H.bV,aN];unfold tW at e;unfold DX QZ ab6 IE ab7
  cases c:(n.aX==1048576)with
  |true=>rfl
  |false=>
   rw[c,aQ]at e;have m:=Tv (Z:=n) (a:=i64.wrap (n.aX+1)) (b:=n.bm) (by simpa using e);simp only[aQ];rw[m]
theorem amX(M:O)(n:H):DZ M n=n.aX:=by
 have k:(f_ n.aX M.j n).aX=n.aX:=by
  cases e:lQ n.aX M.j n with
  |true=>exact afT e
  |false=>rw[Tv e]
 unfold DZ;rw[k];simp only[Bool.cond_self]
theorem WX(M:O)(n:H):eF (k_ M n)=eF n∧(k_ M n).aX=n.aX:=by
 unfold k_;have k:=amX M n;have v:eF (wI M n)=eF n∧(wI M n).aX=n.aX:=by
  refine⟨?_,k⟩;show eF {n with aX:=DZ M n,dH:=(ab8 M n),bd:=(IF M n),bh:=(ab9 M n)} =_;rw[k];rfl
 rw[H.bV]
 cases D0 M n
 ·exact v
 ·exact v
theorem adR{n:H}(h:n.ro≠2):gM n=n:=by
 unfold gM IG ab_;rw[show(n.ro==2)=false from by simpa using h];rfl
theorem R2(n:H):(gM n).ro≠2:=by
 show IG n≠2;unfold IG
 cases e:(n.ro==2)with
 |true=>simp
 |false=>simpa using e
theorem aA4{rc:b7}{n:H}(h:gN rc n=false):h_ rc n=n:=by
 unfold gN at h;have k: ∀c:Bool,(cond c false true)=false→c=true:=fun c=>by cases c<;>simp
 have c:=k _ h;unfold h_ Ed Q8;rw[c];rfl
def nQ(i j:Nat)(ms:O)(s:H)(E:A O)(B:A a7)(G:A aJ):Prop:=
 (∀b9 a,eF (eJ i j ms (eJ i j ms s E B G) b9 (gx i j ms s E B G) a)=eF (eJ i j ms s E B G)∧gx i j ms (eJ i j ms s E B G) b9 (gx i j ms s E B G) a=gx i j ms s E B G)∧
  (ms.K≠1→ms.K≠2→(eJ i j ms s E B G).aX=s.aX)∧(eJ i j ms s E B G).up=s.up
theorem aCK(h:ms.K=1):nQ i j ms s E B G:=by
 refine⟨fun b9 b=> ?_,fun a=>absurd h a,?_⟩
 ·rw[(Cu h).1,(Cu h).2,(Cu h).1,(Cu h).2];exact⟨rfl,rfl⟩
 ·rw[(Cu h).1];rfl
theorem aBX(n:H):(lR n).up=n.up:=by
 unfold lR;rw[H.bV]
 cases tW n<;>rfl
theorem aCL(h:ms.K=2):nQ i j ms s E B G:=by
 obtain⟨a,b,d,l,f⟩:=Vd j s;refine⟨fun b9 k=> ?_,fun _ g=>absurd h g,?_⟩
 ·rw[(Cw h).1,(Cw h).2,(Cw h).1,(Cw h).2];refine⟨?_,rfl⟩
  cases c:(cond (s.ro==1) (ms.an==(i64.wrap (s.aX+1))) false)with
  |false=>
   simp only[H.bV,aQ];rw[c,aQ]
  |true=>
   cases m:hj (H.fP j s)with
   |false=>
    simp only[H.bV,aN,aQ];rw[a,b,c,f,m];rfl
   |true=>
    simp only[H.bV,aN];rcases aBW (H.fP j s)with e|e
    ·rw[e,a,b,c,f,m,aN,aN,e]
    ·rw[e,show((2:Int)==1)=false from rfl,aQ,aQ]
 ·rw[(Cw h).1];simp only[H.bV]
  cases (cond (s.ro==1) (ms.an==(i64.wrap (s.aX+1))) false)
  ·rfl
  ·cases hj (H.fP j s)
   ·exact d
   ·exact(aBX _).trans d
theorem aCS(a:ms.K≠1)(b:ms.K≠2)(h:ms.an<s.aX):nQ i j ms s E B G:=by
 have e:(eJ i j ms s E B G).aX=s.aX∧eF (eJ i j ms s E B G)=eF s∧(eJ i j ms s E B G).up=s.up:=by
  rw[(Yb a b h).1,H.bV]
  cases ms.K !=8<;>exact⟨rfl,rfl,rfl⟩
 refine⟨fun b9 c=> ?_,fun _ _=>e.1,e.2.2⟩;have d:=Yb (i:=i) (j:=j) (E:=b9) (B:=gx i j ms s E B G) (G:=c) a b (show ms.an<(eJ i j ms s E B G).aX by rw[e.1];exact h);rw[d.1,d.2,H.bV];refine⟨?_,rfl⟩
 cases ms.K !=8<;>rfl
theorem aCM(h:ms.K=3)(a: ¬ms.an<s.aX):nQ i j ms s E B G:=by
 have v:=WX (cd i j ms) s;have u:(k_ (cd i j ms) s).up=s.up:=by
  unfold k_;rw[H.bV]
  cases D0 (cd i j ms) s<;>rfl
 refine⟨fun b9 c=> ?_,fun _ _=> ?_,?_⟩
 ·rw[(ze h a).1,(ze h a).2];have b: ¬ms.an<(k_ (cd i j ms) s).aX:=by rw[v.2];exact a
  rw[(ze h b).1,(ze h b).2];exact⟨(WX _ _).1,rfl⟩
 ·rw[(ze h a).1];exact v.2
 ·rw[(ze h a).1];exact u
theorem aCN(h:ms.K=4)(a: ¬ms.an<s.aX):nQ i j ms s E B G:=by
 obtain⟨b,k,f,n,l⟩:=Vd j s;have e:(eJ i j ms s E B G).aX=s.aX∧(eJ i j ms s E B G).up=s.up:=by
  rw[(O7 h a).1,H.bV,H.bV]
  cases s.ro==2
  ·exact⟨rfl,rfl⟩
  ·cases hj (H.fP j s)
   ·exact⟨b,f⟩
   ·exact⟨b,f⟩
 refine⟨fun b9 g=> ?_,fun _ _=>e.1,e.2⟩;have d:=O7 (i:=i) (j:=j) (E:=b9) (B:=gx i j ms s E B G) (G:=g) h (show¬ms.an<(eJ i j ms s E B G).aX by rw[e.1];exact a);rw[d.1,d.2];refine⟨?_,rfl⟩;rw[(O7 h a).1]
 cases c:s.ro==2 with
 |false=>
  simp only[H.bV,aQ];rw[c,aQ]
 |true=>
  cases m:hj (H.fP j s)with
  |false=>
   simp only[H.bV,aN,aQ];rw[k,c,l,m];rfl
  |true=>
   simp only[H.bV,aN];rw[show(tX (H.fP j s)).ro=3 from rfl,show((3:Int)==2)=false from rfl,aQ]
theorem aCJ(a:ms.K≠1)(b:ms.K≠2)(c:ms.K≠3)(e:ms.K≠4)(f:ms.K≠5)(g:ms.K≠6)(h:ms.K≠7)(k: ¬ms.an<s.aX):nQ i j ms s E B G:=by
 have d:=fun E B G=>aoa (i:=i) (j:=j) (E:=E) (B:=B) (G:=G) a b c e f g h k;unfold nQ;simp only[(d _ _ _).1,(d _ _ _).2];exact⟨fun _ _=>⟨trivial,trivial⟩,fun _ _=>trivial,trivial⟩
theorem aCQ(h:ms.K=7)(b: ¬ms.an<s.aX):nQ i j ms s E B G:=by
 have p: ∀n:H,n.ro≠2→((gz (cd i j ms) n).aX=n.aX∧(gz (cd i j ms) n).up=n.up∧(gz (cd i j ms) n).ro=n.ro)∧eF (gz (cd i j ms) (gz (cd i j ms) n))=eF (gz (cd i j ms) n):=by
  intro n q
  by_cases c:ms.aP>n.co
  ·have d:decide ((cd i j ms).aP>n.co)=true:=bT c
   cases r:gN (⟨3,0,0,0,0,0,false,0,0,0,⟨#[]⟩,⟨#[]⟩,⟨#[]⟩,0,(cd i j ms).aP,(cd i j ms).cG,(cd i j ms).cZ,(cd i j ms).cJ,(cd i j ms).dh,(cd i j ms).b1⟩:b7) n with
   |false=>
    have e:gz (cd i j ms) n=n:=by
     unfold gz wK;rw[d,aN,r,H.bV];exact aA4 r
    rw[e,e];exact⟨⟨rfl,rfl,rfl⟩,rfl⟩
   |true=>
    have e:gz (cd i j ms) n=ed (cd i j ms).j (⟨0,0,6,n.aX,(cd i j ms).aP,0,true,0,(L:A aI),0,0,0,(L:A aj),0,(L:A aG)⟩:O) (oc (cd i j ms) n):=by
     unfold gz wK;rw[d,aN,r,H.bV];rfl
    have a:(gz (cd i j ms) n).co=ms.aP:=by
     rw[e];show ql (cd i j ms) n=_;unfold ql;rw[d,aN];rfl
    refine⟨by rw[e];exact⟨rfl,rfl,rfl⟩,?_⟩;generalize gz (cd i j ms) n=x at a ⊢;have k:decide ((cd i j ms).aP>x.co)=false:=by
     rw[a];exact bI (yD _)
    unfold gz wK;rw[k,aQ,H.bV,aN];unfold oc t_ IM ub uc IN IP IQ IS IT IH II IJ IK ql ua IL;rw[k];rfl
  ·have k:decide ((cd i j ms).aP>n.co)=false:=bI c;have e:gz (cd i j ms) n=ed (cd i j ms).j (⟨0,0,6,n.aX,(cd i j ms).aP,0,true,0,(L:A aI),0,0,0,(L:A aj),0,(L:A aG)⟩:O) n:=by
    unfold gz wK;rw[k,aQ,H.bV,aN];unfold oc t_ IM ub uc IN IP IQ IS IT IH II IJ IK ql ua IL;rw[k];rfl
   refine⟨by rw[e];exact⟨rfl,rfl,rfl⟩,?_⟩;have a:(gz (cd i j ms) n).co=n.co:=by rw[e];rfl
   generalize gz (cd i j ms) n=x at a ⊢;have k:decide ((cd i j ms).aP>x.co)=false:=by rw[a];exact k
   unfold gz wK;rw[k,aQ,H.bV,aN];unfold oc t_ IM ub uc IN IP IQ IS IT IH II IJ IK ql ua IL;rw[k];rfl
 obtain⟨⟨f,l,m⟩,o⟩:=p (gM s) (R2 s);refine⟨fun b9 t=> ?_,fun _ _=> ?_,?_⟩
 ·rw[(zg h b).1,(zg h b).2];have g: ¬ms.an<(gz (cd i j ms) (gM s)).aX:=by rw[f];exact b
  rw[(zg h g).1,(zg h g).2,adR (by rw[m];exact R2 s)];exact⟨o,rfl⟩
 ·rw[(zg h b).1,f];rfl
 ·rw[(zg h b).1,l];rfl
end
section
variable {i j:Nat} {ms:O} {Z s:H} {E:A O} {B:A a7} {G:A aJ}
theorem X7(d:Int)(Z:H)(g:d≤1048576): ∀(k:Nat) (a:Int) (b:A aj) (c:Int) (e:A aG) (v:Int) (s:A a7),0≤v→v≤1048576→toNat (d-v)<k→
  d≤(lV d Z k a b c e v s).2.2.2.2.1∧((lV d Z k a b c e v s).2.2.2.2.1=v∨(lV d Z k a b c e v s).2.2.2.2.1≤d)
 |0,_,_,_,_,_,_,_,_,f=>absurd f (eH _)
 |k+1,a,b,c,e,v,s,h,i,f=>by
  rw[lV]
  by_cases q:v<d
  ·rw[bT q,aN,N (v+1)];have r:=X7 d Z g k (I2 Z a b c e v) (I3 Z a b c e v) (I4 Z a b c e v) (I5 Z a b c e v) (v+1) (Ee Z a b c e v s).2.1 (by omega) (by omega) (by omega);exact⟨r.1,by omega⟩
  ·rw[bI q,aQ];exact⟨by show d≤v;omega,.inl rfl⟩
theorem X6{d:Int}(h:0≤Z.co∧Z.co≤1048576)(a:d≤1048576):d≤(iB d Z B).co∧((iB d Z B).co=Z.co∨(iB d Z B).co≤d):=
 X7 d Z a (toNat (d-Z.co)+1) Z.eO Z.eC Z.et Z.eD Z.co B h.1 h.2 (Nat.lt_succ_self _)
theorem X8{d:Int}(h:d≤Z.co):iB d Z B=Z∧mu d Z B=B:=by
 have e:oe d Z B=(Z.eO,Z.eC,Z.et,Z.eD,Z.co,B):=by
  unfold oe;rw[lV,bI (by omega)];rfl
 unfold iB mu;rw[e];exact⟨rfl,rfl⟩
theorem WC(E:A O)(B:A a7)(G:A aJ)(c:0≤Z.co∧Z.co≤1048576): ∀(k:Nat) (v:Int),v≤1048576→toNat (v-Z.co)<k→(∀u,Z.co<u→u≤v→mv Z u=false)→(g1 Z E B G k v).1=false
 |0,_,_,a,_=>absurd a (eH _)
 |k+1,v,e,a,h=>by
  rw[g1]
  by_cases q:v>Z.co
  ·rw[bT q,aN,h v q (dp _),aQ,N (v-1)];exact WC E B G c k (v-1) (by omega) (by omega) fun u b d=>h u b (by omega)
  ·rw[bI q,aQ]
theorem WD(E:A O)(B:A a7)(G:A aJ)(h:0≤Z.co∧Z.co≤1048576): ∀(k:Nat) (v:Int),v≤1048576→toNat (v-Z.co)<k→
  (∀u,Z.co<u→u≤v→mv Z u=false)∨ ∃w,Z.co<w∧w≤v∧(∀u,w<u→u≤v→mv Z u=false)∧g1 Z E B G k v=(true,(l6 (iB w Z B) E (mu w Z B) G))
 |0,_,_,c=>absurd c (eH _)
 |k+1,v,j,c=>by
  by_cases q:v>Z.co
  ·cases m:mv Z v with
   |true=>
    refine .inr ⟨v,q,dp _,fun u a b=>absurd a (by omega),?_⟩;rw[g1,bT q,aN,m,aN]
   |false=>
    have e:g1 Z E B G (k+1) v=g1 Z E B G k (v-1):=by
     rw[g1,bT q,aN,m,aQ,N (v-1)]
    rcases WD E B G h k (v-1) (by omega) (by omega)with r|⟨w,a,b,f,g⟩
    ·refine .inl fun u a b=> ?_
     by_cases z:u=v
     ·rw[z];exact m
     ·exact r u a (by omega)
    ·refine .inr ⟨w,a,by omega,fun u d i=> ?_,by rw[e];exact g⟩
     by_cases z:u=v
     ·rw[z];exact m
     ·exact f u d (by omega)
  ·exact .inl fun u a b=>absurd a (by omega)
theorem Ow{v:Int}(a:0≤Z.co∧Z.co≤1048576)(b:ck Z≤1048576)(h: ∀u,Z.co<u→u≤ck Z→mv Z u=false):hB Z E B G=Z∧jE Z E B G=B:=by
 have e:(mw Z E B G).1=false:=WC E B G a _ _ b (Nat.lt_succ_self _) h;unfold hB jE;rw[e,H.bV];exact⟨rfl,rfl⟩
theorem amF(a:0≤Z.co∧Z.co≤1048576)(b:ck Z≤1048576)(b9:A O)(h:A aJ):
  (∃w,hB Z E B G=iB w Z B)∧hB (hB Z E B G) b9 (jE Z E B G) h=hB Z E B G∧jE (hB Z E B G) b9 (jE Z E B G) h=jE Z E B G:=by
 rcases WD (Z:=Z) E B G a (toNat (ck Z-Z.co)+1) (ck Z) b (Nat.lt_succ_self _)with r|⟨w,n,o,k,l⟩
 ·obtain⟨c,f⟩:=Ow (E:=E) (B:=B) (G:=G) (v:=0) a b r;rw[c,f];exact⟨⟨Z.co,(X8 (dp _)).1.symm⟩,Ow (v:=0) a b r⟩
 ·have e:mw Z E B G=(true,(l6 (iB w Z B) E (mu w Z B) G)):=l;have c:hB Z E B G=iB w Z B:=by
   unfold hB;rw[e,H.bV];rfl
  have f:jE Z E B G=mu w Z B:=by
   unfold jE;rw[e];rfl
  obtain⟨m,K⟩:=X6 (Z:=Z) (B:=B) (d:=w) a (by omega);have i:(iB w Z B).co=w:=by omega
  rw[c,f];refine⟨⟨w,rfl⟩,Ow (v:=0) (by omega) b fun u g j=> ?_⟩;rw[i]at g;exact k u g j
theorem aBR(j:Nat)(x y:Int)(n:H):H.xk j (H.oA j x y n)=x∧H.sk j (H.oA j x y n)=y∧(H.oA j x y n).aX=n.aX∧(H.oA j x y n).ro=n.ro∧(H.oA j x y n).up=n.up∧(H.oA j x y n).co=n.co∧(H.oA j x y n).l=n.l∧(H.oA j x y n).lt=n.lt∧(H.oA j x y n).li=n.li:=by
 match j with
 |0=>exact⟨rfl,rfl,rfl,rfl,rfl,rfl,rfl,rfl,rfl⟩
 |1=>exact⟨rfl,rfl,rfl,rfl,rfl,rfl,rfl,rfl,rfl⟩
 |_+2=>exact⟨rfl,rfl,rfl,rfl,rfl,rfl,rfl,rfl,rfl⟩
theorem aBS(j:Nat)(n:H):H.oA j (H.xk j n) (H.sk j n) n=n:=by
 match j with
 |0=>rfl
 |1=>rfl
 |_+2=>rfl
theorem G_(j:Nat)(w:Int)(n:H)(B:A a7):H.xk j (iB w n B)=H.xk j n∧H.sk j (iB w n B)=H.sk j n:=by
 match j with
 |0=>exact⟨rfl,rfl⟩
 |1=>exact⟨rfl,rfl⟩
 |_+2=>exact⟨rfl,rfl⟩
theorem ahR(j:Nat)(x:Int)(n:H):eF (H.sp j x n)=eF n∧(H.sp j x n).aX=n.aX∧(H.sp j x n).ro=n.ro∧(H.sp j x n).up=n.up:=by
 match j with
 |0=>exact⟨rfl,rfl,rfl,rfl⟩
 |1=>exact⟨rfl,rfl,rfl,rfl⟩
 |_+2=>exact⟨rfl,rfl,rfl,rfl⟩
theorem aet(a b:Int):imax (imax a b) b=imax a b:=by
 have h:=AP a b;have k:=AP (imax a b) b;omega
theorem aCP(h:ms.K=6)(l: ¬ms.an<s.aX)(N:0≤s.l∧s.l+(s.li.n:Int)≤1048576)(F:0≤s.co∧s.co≤1048576):nQ i j ms s E B G:=by
 cases c:s.ro==3 with
 |false=>
  have d:=fun E B G=>Cy (i:=i) (j:=j) (E:=E) (B:=B) (G:=G) h l;unfold nQ;simp only[(d _ _ _).1,(d _ _ _).2,c,H.bV,aQ];exact⟨fun _ _=>⟨trivial,trivial⟩,fun _ _=>trivial,trivial⟩
 |true=>
  have D:eJ i j ms s E B G=j8 j (cd i j ms) s E B G∧gx i j ms s E B G=ng j (cd i j ms) s E B G:=by
   rw[(Cy h l).1,(Cy h l).2,c,H.bV];exact⟨rfl,rfl⟩
  have g:(∀b9 b,eF (j8 j (cd i j ms) (j8 j (cd i j ms) s E B G) b9 (ng j (cd i j ms) s E B G) b)=eF (j8 j (cd i j ms) s E B G)∧
    ng j (cd i j ms) (j8 j (cd i j ms) s E B G) b9 (ng j (cd i j ms) s E B G) b=ng j (cd i j ms) s E B G)∧
    (j8 j (cd i j ms) s E B G).aX=s.aX∧(j8 j (cd i j ms) s E B G).ro=s.ro∧(j8 j (cd i j ms) s E B G).up=s.up:=by
   cases y:(cd i j ms).ax with
   |false=>
    have e: ∀(n:H) E B G,j8 j (cd i j ms) n E B G=IV j (cd i j ms) n∧ng j (cd i j ms) n E B G=B:=by
     intro n E B G;unfold j8 ng;rw[y,H.bV];exact⟨rfl,rfl⟩
    simp only[(e _ _ _ _).1,(e _ _ _ _).2];obtain⟨o,k,q,r⟩:=ahR j (i64.wrap ((imax (H.sk j s) (cd i j ms).p)+1)) s;exact⟨fun _ _=>⟨(ahR j _ _).1,trivial⟩,k,q,r⟩
   |true=>
    have e: ∀(n:H) E B G,j8 j (cd i j ms) n E B G=hB (lS j (cd i j ms) n) E B G∧ng j (cd i j ms) n E B G=jE (lS j (cd i j ms) n) E B G:=by
     intro n E B G;unfold j8 ng;rw[y,H.bV];exact⟨rfl,rfl⟩
    simp only[(e _ _ _ _).1,(e _ _ _ _).2];have f:=aBR j (imax (H.xk j s) (i64.wrap ((cd i j ms).p+1))) (imax (H.sk j s) (cd i j ms).p) s;have z:lS j (cd i j ms) s=H.oA j (imax (H.xk j s) (i64.wrap ((cd i j ms).p+1))) (imax (H.sk j s) (cd i j ms).p) s:=rfl;rw[←z]at f;generalize lS j (cd i j ms) s=a at f ⊢;obtain⟨o,k,q,r,A,C,u,M,v⟩:=f;have J:=(B2 a (by rw[u,v];omega)).2;rw[u,v]at J;have I:0≤a.co∧a.co≤1048576:=by rw[C];exact F
    have t:=fun b9 b=>amF (Z:=a) (E:=E) (B:=B) (G:=G) I (by omega) b9 b;obtain⟨w,m⟩:=(t E G).1;have L:lS j (cd i j ms) (hB a E B G)=hB a E B G:=by
     rw[m];unfold lS;rw[(G_ j w a B).1,(G_ j w a B).2,o,k,aet,aet];have p:=aBS j (iB w a B);rw[(G_ j w a B).1,(G_ j w a B).2,o,k]at p;exact p
    refine⟨fun b9 b=> ?_,?_,?_,?_⟩
    ·rw[L,(t b9 b).2.1,(t b9 b).2.2];exact⟨rfl,rfl⟩
    ·rw[m];exact q
    ·rw[m];exact r
    ·rw[m];exact A
  refine⟨fun b9 b=> ?_,fun _ _=>by rw[D.1];exact g.2.1,by rw[D.1];exact g.2.2.2⟩;have x: ¬ms.an<(eJ i j ms s E B G).aX:=by rw[D.1,g.2.1];exact l
  have K:((eJ i j ms s E B G).ro==3)=true:=by rw[D.1,g.2.2.1];exact c
  rw[(Cy h x).1,(Cy h x).2,K,H.bV,aN,aN,D.1,D.2];exact g.1 b9 b
end
section
variable {d g:Int} {u:A aI} {h r:Int} {o:A aI}
def iq(d:Int)(u:A aI)(h:Int)(o:A aI)(w:Int):A aI:=A.app (A.part u 0 (cc d h o-d+w)) (A.part (ds d h o) w (((ds d h o).n:Nat):Int))
theorem af2(q:0≤d∧d≤1048576)(y:u.n≤200)(t:d≤cc d h o∧cc d h o≤d+(u.n:Int))(s:(ds d h o).n≤200):
  ∀(k:Nat) (v:Int),0≤v→v≤((ds d h o).n:Int)→toNat (((ds d h o).n:Int)-v)<k→cc d h o-d+v≤(u.n:Int)→
   (j9 d g u h o k v).1=false∨((j9 d g u h o k v).1=true∧(j9 d g u h o k v).2.2.2.2.2.2≠0)∨
    ∃w,v≤w∧w<((ds d h o).n:Int)∧(∀a,v≤a→a<w→lW d u h o a=true)∧cc d h o-d+w≤(u.n:Int)∧cC d g (iq d u h o w)=0∧
     (j9 d g u h o k v).1=true∧(j9 d g u h o k v).2.1=d∧(j9 d g u h o k v).2.2.1=g∧(j9 d g u h o k v).2.2.2.1=iq d u h o w
 |0,v,_,_,p,_=>absurd p (eH _)
 |k+1,v,E,F,C,x=>by
  rw[j9]
  by_cases c:v<((ds d h o).n:Int)
  ·rw[bT c];simp only[aN]
   cases b:lW d u h o v with
   |true=>
    have D:cc d h o-d+v<(u.n:Int):=by
     unfold lW at b;rw[N (cc d h o-d),N (cc d h o-d+v)]at b
     by_cases e:cc d h o-d+v<(u.n:Int)
     ·exact e
     ·rw[bI e]at b;cases b
    simp only[aN];rw[N (v+1)];rcases af2 q y t s k (v+1) (by omega) (by omega) (by omega) (by omega)with r|r|⟨w,B,j,l,m⟩
    ·exact .inl r
    ·exact .inr (.inl r)
    ·refine .inr (.inr ⟨w,by omega,j,fun a f i=> ?_,m⟩)
     by_cases z:a=v
     ·rw[z];exact b
     ·exact l a (by omega) i
   |false=>
    simp only[aQ];rw[N (cc d h o-d),N (cc d h o-d+v),N (cc d h o+v),N (cc d h o+v+1)]
    cases n:(cC d g (A.app (A.part u 0 (cc d h o-d+v)) (A.part (ds d h o) v (((ds d h o).n:Nat):Int)))!=0)with
    |true=>exact .inr (.inl ⟨rfl,(by decide:(6:Int)≠0)⟩)
    |false=>exact .inr (.inr ⟨v,dp _,c,fun a f i=>absurd f (by omega),x,bE n,rfl,rfl,rfl,rfl⟩)
  ·rw[bI c];exact .inl rfl
theorem af1(f:(ds d h o).n≤200)(b: ∀a,0≤a→a<((ds d h o).n:Int)→lW d u h o a=true):
  ∀(k:Nat) (v:Int),0≤v→v≤((ds d h o).n:Int)→toNat (((ds d h o).n:Int)-v)<k→(j9 d g u h o k v).1=false
 |0,v,_,_,e=>absurd e (eH _)
 |k+1,v,i,j,e=>by
  rw[j9]
  by_cases c:v<((ds d h o).n:Int)
  ·rw[bT c,aN,b v i c,aN,N (v+1)];exact af1 f b k (v+1) (by omega) (by omega) (by omega)
  ·rw[bI c];rfl
theorem oW{w:Int}(a:0≤cc d h o-d+w)(b:0≤w∧w≤((ds d h o).n:Int)):(((iq d u h o w).n:Nat):Int)=cc d h o-d+((ds d h o).n:Int):=by
 show(((cc d h o-d+w-0).toNat+(((ds d h o).n:Int)-w).toNat:Nat):Int)=_;omega
theorem XU{w t:Int}(a:0≤t)(b:t<cc d h o-d+w):(iq d u h o w).at' (toNat t)=u.at' (toNat t):=by
 show(cond (Nat.blt (toNat t) (cc d h o-d+w-0).toNat) (u.at' ((0:Int).toNat+toNat t)) _)=_;have e:Nat.blt (toNat t) (cc d h o-d+w-0).toNat=true:=by rw[fU];omega
 rw[e,aN,show(0:Int).toNat+toNat t=toNat t by omega]
theorem an1{w a:Int}(b:0≤cc d h o-d)(f:0≤w)(c:w≤a):(iq d u h o w).at' (toNat (cc d h o-d+a))=(ds d h o).at' (toNat a):=by
 show(cond (Nat.blt (toNat (cc d h o-d+a)) (cc d h o-d+w-0).toNat) _ ((ds d h o).at' (w.toNat+(toNat (cc d h o-d+a)- (cc d h o-d+w-0).toNat))))=_;have e:Nat.blt (toNat (cc d h o-d+a)) (cc d h o-d+w-0).toNat=false:=by
  cases q:Nat.blt (toNat (cc d h o-d+a)) (cc d h o-d+w-0).toNat with
  |false=>rfl
  |true=>rw[fU]at q;omega
 rw[e,aQ,show w.toNat+(toNat (cc d h o-d+a)- (cc d h o-d+w-0).toNat)=toNat a by omega]
theorem ayh(k:fc d g u h r o=0)(F:gd d g u h r o=true)(f:c7 d g u h r o≠0):
  fc (b6 d g u h r o) (oi d g u h r o) (b2 d g u h r o) h r o=0∧gd (b6 d g u h r o) (oi d g u h r o) (b2 d g u h r o) h r o=true∧
   c7 (b6 d g u h r o) (oi d g u h r o) (b2 d g u h r o) h r o=0:=by
 unfold fc at k;unfold gd at F;unfold c7 at f
 cases b:(cC d g u !=0)with
 |true=>rw[b]at f;exact absurd rfl f
 |false=>
 cases e:(cC h r o !=0)with
 |true=>rw[b,e]at f;exact absurd rfl f
 |false=>
 cases a:mA d g u h r o with
 |false=>rw[b,e,a]at f;exact absurd rfl f
 |true=>
 cases i:o8 d g u h o with
 |true=>rw[b,e,a,i]at f;exact absurd rfl f
 |false=>
 rw[b,e,a,i]at k;simp only[aQ,aN]at k;have K:=eS _ _ _ (bE b);have n:=eS _ _ _ (bE e);have t:=f75 d g u h r o a ⟨⟨K.1,K.2.2.1⟩,n.1,n.2.2.1⟩;have p:(ds d h o).n≤200:=by omega
 have s:=af2 (g:=g) K.1 K.2.2.1 t.1 p (toNat (((ds d h o).n:Int)-0)+1) 0 (dp _) (by omega) (by omega) (by omega);rw[show j9 d g u h o (toNat (((ds d h o).n:Int)-0)+1) 0=qx d g u h o from rfl]at s;rcases s with q|⟨_,q⟩|⟨w,x,S,O,Q,P,_,I,J,L⟩
 ·unfold o8 at i;rw[q]at i
  cases i
 ·exact absurd k q
 ·have y:b6 d g u h r o=d:=by
   unfold b6;rw[b,e,a,i];exact I
  have A:oi d g u h r o=g:=by
   unfold oi;rw[b,e,a,i];exact J
  have B:b2 d g u h r o=iq d u h o w:=by
   unfold b2;rw[b,e,a,i];exact L
  rw[y,A,B];have G:=oW (u:=u) (d:=d) (h:=h) (o:=o) (w:=w) (by omega) ⟨x,by omega⟩;have C: ∀j,0≤j→j<((ds d h o).n:Int)→lW d (iq d u h o w) h o j=true:=by
   intro j M R;unfold lW;rw[N (cc d h o-d),N (cc d h o-d+j),bT (by omega),aN]
   by_cases c:j<w
   ·have m:=O j M c;unfold lW at m;rw[N (cc d h o-d),N (cc d h o-d+j),bT (by omega),aN]at m;rw[XU (by omega) (by omega)];exact m
   ·rw[an1 (by omega) x (by omega)];simp
  have D:mA d g (iq d u h o w) h r o=true:=by
   unfold mA at a ⊢
   by_cases c:h<d
   ·rw[bT c]at a ⊢;exact a
   ·rw[bI c]at a ⊢;simp only[aQ]at a ⊢;have v:cc d h o=h:=by
     unfold cc;rw[bI c];rfl
    rw[v]at G t Q;have m:uv d g u h r=false:=by
     cases q:uv d g u h r with
     |false=>rfl
     |true=>rw[q]at a;cases a
    suffices uv d g (iq d u h o w) h r=false by rw[this];rfl
    rw[←m];unfold uv o0 ix;rw[bI c];simp only[aQ]
    cases z:(h==d)with
    |true=>rfl
    |false=>
     have T:h≠d:=by simpa using z
     simp only[aQ];rw[N (h-d),N (h-d-1),bI (by omega),bI (by omega),XU (by omega) (by rw[v];omega)]
  have l:=af1 (g:=g) (u:=iq d u h o w) p C (toNat (((ds d h o).n:Int)-0)+1) 0 (dp _) (by omega) (by omega);rw[show j9 d g (iq d u h o w) h o (toNat (((ds d h o).n:Int)-0)+1) 0=qx d g (iq d u h o w) h o from rfl]at l;have H:o8 d g (iq d u h o w) h o=true:=by
   unfold o8;rw[l];rfl
  have E:(cC d g (iq d u h o w)!=0)=false:=by rw[P];rfl
  unfold fc gd c7;rw[E,e,D,H];exact⟨rfl,rfl,rfl⟩
end
section
variable {i j:Nat} {ms M:O} {Z n s:H} {E:A O} {B:A a7} {G:A aJ}
theorem agS(M:O)(n:H)(E:A O)(B:A a7)(G:A aJ): ∀(k:Nat) (v:Int) (a:A Int) (b:Int),(eT M n E B G k v a b).1=true→(eT M n E B G k v a b).2.2.2=l6 n E B G
 |0,_,_,_,h=>by
  rw[eT]at h
  cases h
 |k+1,v,a,b,h=>by
  rw[eT]at h ⊢;generalize decide (v≤_)=c at h ⊢
  cases c with
  |false=>cases h
  |true=>
   generalize gN _ _=d at h ⊢
   cases d with
   |false=>rfl
   |true=>exact agS M n E B G k _ _ _ h
theorem agR(M:O)(n:H)(E b9:A O)(B f:A a7)(G e:A aJ): ∀(k:Nat) (v:Int) (a:A Int) (b:Int),(eT M n E B G k v a b).1=(eT M n b9 f e k v a b).1
 |0,_,_,_=>by rw[eT,eT]
 |k+1,v,a,b=>by
  rw[eT,eT];generalize decide (v≤_)=c
  cases c<;>simp only[aN,aQ]
  generalize gN _ _=d
  cases d<;>simp only[Bool.not_true,Bool.not_false,aN,aQ]
  exact agR M n E b9 B f G e k _ _ _
theorem aAq(M:O)(n:H)(E b9:A O)(B b:A a7)(G a:A aJ):hA M n E B G=hA M n b9 b a:=by
 unfold hA tZ j7;rw[agR M n E b9 B b G a]
theorem agP(a:fc n.l n.lt n.li M.p M.v M.i≠0):ga M n E B G=n∧iA M n E B G=B:=by
 have e:(fc n.l n.lt n.li M.p M.v M.i !=0)=true:=by simpa using a
 unfold ga iA;rw[e,H.bV];exact⟨rfl,rfl⟩
theorem agQ(b:fc n.l n.lt n.li M.p M.v M.i=0)(a:gd n.l n.lt n.li M.p M.v M.i=false):ga M n E B G=ed M.j (⟨0,0,6,n.aX,n.co,0,false,0,(L:A aI),0,0,0,(L:A aj),0,(L:A aG)⟩:O) n∧iA M n E B G=B:=by
 have e:(fc n.l n.lt n.li M.p M.v M.i !=0)=false:=by rw[b];rfl
 unfold ga iA;rw[e,a];simp only[H.bV];exact⟨rfl,rfl⟩
theorem agT(c:fc n.l n.lt n.li M.p M.v M.i=0)(b:gd n.l n.lt n.li M.p M.v M.i=true)(a:hA M n E B G=false):ga M n E B G=n∧iA M n E B G=B:=by
 have e:(fc n.l n.lt n.li M.p M.v M.i !=0)=false:=by rw[c];rfl
 have r:(j7 M n E B G).1=true:=by
  unfold hA tZ at a;revert a
  cases decide (c7 n.l n.lt n.li M.p M.v M.i>0)
  ·intro h;cases h
  ·cases (j7 M n E B G).1
   ·intro h;cases h
   ·intro _;rfl
 have q:(j7 M n E B G).2.2.2=l6 n E B G:=agS M n E B G _ _ _ _ r;unfold ga iA;rw[e,b,a,q];simp only[H.bV];exact⟨rfl,rfl⟩
theorem agU(f:fc n.l n.lt n.li M.p M.v M.i=0)(c:gd n.l n.lt n.li M.p M.v M.i=true)(d:hA M n E B G=true): ∃a b,ga M n E B G=iB (eU M.aF (i64.wrap (M.p+(M.i.n:Int)))) (ed a b (mr M n E B G)) B∧iA M n E B G=mu (eU M.aF (i64.wrap (M.p+(M.i.n:Int)))) (ed a b (mr M n E B G)) B:=by
 have e:(fc n.l n.lt n.li M.p M.v M.i !=0)=false:=by rw[f];rfl
 refine⟨M.j,(⟨0,0,6,n.aX,(i64.wrap (M.p+(M.i.n:Int))),0,true,0,(L:A aI),0,0,0,(L:A aj),0,(L:A aG)⟩:O),?_⟩;unfold ga iA;rw[e,c,d];simp only[H.bV];exact⟨rfl,rfl⟩
theorem aAr(a:c7 n.l n.lt n.li M.p M.v M.i=0):hA M n E B G=true∧mr M n E B G=n:=by
 have d:decide (c7 n.l n.lt n.li M.p M.v M.i>0)=false:=bI (by omega);unfold hA mr la wJ j6 D2 Q1;rw[d];exact⟨rfl,rfl⟩
theorem aAs(I:0≤n.co∧n.co≤1048576)(b9:A O)(h:A aJ):((ga M n E B G).aX=n.aX∧(ga M n E B G).ro=n.ro∧(ga M n E B G).up=n.up)∧
  eF (ga M (ga M n E B G) b9 (iA M n E B G) h)=eF (ga M n E B G)∧iA M (ga M n E B G) b9 (iA M n E B G) h=iA M n E B G:=by
 by_cases f:fc n.l n.lt n.li M.p M.v M.i=0
 ·cases c:gd n.l n.lt n.li M.p M.v M.i with
  |false=>
   obtain⟨g,e⟩:=agQ (E:=E) (B:=B) (G:=G) f c;refine⟨by rw[g];exact⟨rfl,rfl,rfl⟩,?_⟩;rw[e,g];generalize m:ed M.j (⟨0,0,6,n.aX,n.co,0,false,0,(L:A aI),0,0,0,(L:A aj),0,(L:A aG)⟩:O) n=x;have l:x.l=n.l∧x.lt=n.lt∧x.li=n.li:=by rw[←m];exact⟨rfl,rfl,rfl⟩
   obtain⟨fo,u,v⟩:=l;obtain⟨bl,i⟩:=agQ (n:=x) (M:=M) (E:=b9) (B:=B) (G:=h) (by rw[fo,u,v];exact f) (by rw[fo,u,v];exact c);rw[bl,i];exact⟨rfl,rfl⟩
  |true=>
   cases o:hA M n E B G with
   |false=>
    obtain⟨g,e⟩:=agT f c o;rw[g,e];have Q:hA M n b9 B h=false:=(aAq M n b9 E B B h G).trans o;obtain⟨bl,i⟩:=agT (E:=b9) (B:=B) (G:=h) f c Q;exact⟨⟨rfl,rfl,rfl⟩,by rw[bl],i⟩
   |true=>
    have c2:0≤M.p∧M.p+(M.i.n:Int)≤1048576:=by
     have e:cC M.p M.v M.i=0:=by
      unfold gd at c
      cases q1:(cC n.l n.lt n.li !=0)with
      |true=>rw[q1]at c;cases c
      |false=>
       cases w:(cC M.p M.v M.i !=0)with
       |true=>rw[q1,w]at c;cases c
       |false=>exact bE w
     have p:=eS _ _ _ e;exact⟨p.1.1,p.2.2.2⟩
    have m:eU M.aF (i64.wrap (M.p+(M.i.n:Int)))≤1048576:=by
     have:=lY M.aF (i64.wrap (M.p+(M.i.n:Int)));rw[N (M.p+(M.i.n:Int))]at this ⊢;omega
    obtain⟨a,b,g,e⟩:=agU f c o;rw[g,e];generalize H:eU M.aF (i64.wrap (M.p+(M.i.n:Int)))=x at m g e ⊢;have s:=(X6 (Z:=ed a b (mr M n E B G)) (B:=B) (d:=x) I m).1;refine⟨⟨rfl,rfl,rfl⟩,?_⟩;have j:fc (la M n) (wJ M n) (j6 M n) M.p M.v M.i=0∧gd (la M n) (wJ M n) (j6 M n) M.p M.v M.i=true∧c7 (la M n) (wJ M n) (j6 M n) M.p M.v M.i=0:=by
     unfold la wJ j6
     cases r:decide (c7 n.l n.lt n.li M.p M.v M.i>0)with
     |false=>
      refine⟨f,c,?_⟩;have k:=Tz f c;have:=dQ r;show c7 n.l n.lt n.li M.p M.v M.i=0;rcases k.2.2.2.2.1 with q|q
      ·exact q.1
      ·omega
     |true=>exact ayh f c (by have:=aq r;omega)
    generalize J:iB x (ed a b (mr M n E B G)) B=y at s ⊢;have l:y.l=la M n∧y.lt=wJ M n∧y.li=j6 M n:=by rw[←J];exact⟨rfl,rfl,rfl⟩
    rw[←l.1,←l.2.1,←l.2.2]at j;generalize mu x (ed a b (mr M n E B G)) B=t;obtain⟨K,P⟩:=aAr (E:=b9) (B:=t) (G:=h) j.2.2;obtain⟨z,C,bl,i⟩:=agU (E:=b9) (B:=t) (G:=h) j.1 j.2.1 K;rw[H,P]at bl i;obtain⟨D,F⟩:=X8 (Z:=ed z C y) (B:=t) (d:=x) s;rw[bl,i,D,F];exact⟨rfl,rfl⟩
 ·obtain⟨g,e⟩:=agP (E:=E) (B:=B) (G:=G) f;rw[g,e];obtain⟨bl,i⟩:=agP (E:=b9) (B:=B) (G:=h) f;exact⟨⟨rfl,rfl,rfl⟩,by rw[bl],i⟩
theorem aCO(h:ms.K=5)(a: ¬ms.an<s.aX)(k:0≤s.co∧s.co≤1048576):nQ i j ms s E B G:=by
 have e:=fun b9 b=>aAs (M:=cd i j ms) (n:=gM s) (E:=E) (B:=B) (G:=G) k b9 b;obtain⟨⟨c,f,g⟩,_⟩:=e E G;refine⟨fun b9 b=> ?_,fun _ _=>by rw[(zf h a).1,c];rfl,by rw[(zf h a).1,g];rfl⟩;rw[(zf h a).1,(zf h a).2];have d: ¬ms.an<(ga (cd i j ms) (gM s) E B G).aX:=by rw[c];exact a
 rw[(zf h d).1,(zf h d).2,adR (by rw[f];exact R2 s)];exact(e b9 b).2
theorem aCR(l:0≤s.l∧s.l+(s.li.n:Int)≤1048576)(d:0≤s.co∧s.co≤1048576):nQ i j ms s E B G:=by
 by_cases b:ms.K=1
 ·exact aCK b
 by_cases c:ms.K=2
 ·exact aCL c
 by_cases a:ms.an<s.aX
 ·exact aCS b c a
 by_cases e:ms.K=3
 ·exact aCM e a
 by_cases f:ms.K=4
 ·exact aCN f a
 by_cases g:ms.K=5
 ·exact aCO g a d
 by_cases h:ms.K=6
 ·exact aCP h a l d
 by_cases k:ms.K=7
 ·exact aCQ k a
 exact aCJ b c e f g h k a
theorem anF(l:0≤Z.l∧Z.l+(Z.li.n:Int)≤1048576)(n:0≤Z.co∧Z.co≤1048576)(b9:A O)(c:A aJ):
  eF (iy i j ms (iy i j ms Z E B G) b9 (jj i j ms Z E B G) c)=eF (iy i j ms Z E B G)∧jj i j ms (iy i j ms Z E B G) b9 (jj i j ms Z E B G) c=jj i j ms Z E B G:=by
 cases u:Z.up with
 |false=>
  have e: ∀E B G,iy i j ms Z E B G=Z∧jj i j ms Z E B G=B:=by
   intro E B G;rw[Cm,GZ,u,H.bV];exact⟨rfl,rfl⟩
  rw[(e _ _ _).1,(e _ _ _).2,(e _ _ _).1,(e _ _ _).2];exact⟨rfl,rfl⟩
 |true=>
  cases p:lO ms Z with
  |false=>
   have m:lQ ms.an (-1) Z=false:=by
    unfold lO at p;revert p
    cases j5 ms Z
    ·intro h;cases h
    ·cases lQ ms.an (-1) Z
     ·intro _;rfl
     ·intro h;cases h
   have e: ∀E B G,iy i j ms Z E B G=Z∧jj i j ms Z E B G=B:=by
    intro E B G;rw[Cm,GZ,u,p,H.bV,H.bV];exact⟨Tv m,rfl⟩
   rw[(e _ _ _).1,(e _ _ _).2,(e _ _ _).1,(e _ _ _).2];exact⟨rfl,rfl⟩
  |true=>
   have e:iy i j ms Z E B G=eJ i j ms (eN ms Z) E B G∧jj i j ms Z E B G=gx i j ms (eN ms Z) E B G:=by
    rw[Cm,GZ,u,p,H.bV,H.bV];exact⟨rfl,rfl⟩
   have z:=aCR (i:=i) (j:=j) (ms:=ms) (s:=eN ms Z) (E:=E) (B:=B) (G:=G) l n;have y:ms.K≠1→ms.K≠2→ms.an≤(eN ms Z).aX:=by
    intro a b;show ms.an≤oa ms Z;have o:DR ms=false:=by
     unfold DR;rw[ik.2 a,aQ];exact ik.2 b
    unfold oa
    cases q:j5 ms Z with
    |true=>
     have r:lQ ms.an (-1) Z=true:=by
      unfold lO at p;rw[q,aN]at p;revert p
      cases lQ ms.an (-1) Z
      ·intro h;cases h
      ·intro _;rfl
     rw[aN,afT r];exact dp _
    |false=>
     unfold j5 at q;rw[o]at q;have:=dQ (show decide (ms.an>Z.aX)=false from q);rw[aQ];omega
   rw[e.1,e.2];obtain⟨d,g,k⟩:=z;generalize D:eJ i j ms (eN ms Z) E B G=x at d g k ⊢;generalize gx i j ms (eN ms Z) E B G=t at d ⊢;have f:j5 ms x=false:=by
    unfold j5 DR
    by_cases a:ms.K=1
    ·rw[a];rfl
    by_cases b:ms.K=2
    ·rw[b];rfl
    rw[ik.2 a,aQ,ik.2 b];have:=y a b;have:=g a b;exact bI (by omega)
   have v:lO ms x=true:=by
    unfold lO;rw[f];rfl
   have w:eN ms x=x:=by
    unfold eN qi lN oa ab0 z1 ab1;rw[f];rfl
   have C:x.up=true:=by rw[k];exact u
   rw[Cm,GZ,C,v,w,H.bV,H.bV];exact d b9 c
end
section
theorem aAJ(C:ak){i:Nat}(a:i<3)(n:H)(E:A O)(B:A a7)(G:A aJ):(C.put i n E B G).Z i=n:=by
 match i,a with
 |0,_=>rfl
 |1,_=>rfl
 |2,_=>rfl
theorem aAO(C:ak){i:Nat}(a:i<3){n:H}(E:A O)(B:A a7)(G:A aJ)(h:eF n=eF (C.Z i)):views (C.put i n E B G)=views C:=by
 match i,a,h with
 |0,_,h=>
  show A.app (A.app (A.lit [eF n]) (A.lit [eF (C.Z 1)])) (A.lit [eF (C.Z 2)])=_;rw[h];rfl
 |1,_,h=>
  show A.app (A.app (A.lit [eF (C.Z 0)]) (A.lit [eF n])) (A.lit [eF (C.Z 2)])=_;rw[h];rfl
 |2,_,h=>
  show A.app (A.app (A.lit [eF (C.Z 0)]) (A.lit [eF (C.Z 1)])) (A.lit [eF n])=_;rw[h];rfl
theorem anX{C:ak}{ms:O}(l: ∀i,jb (C.Z i))(k:fu ms):views (e2 (e2 C ms) ms)=views (e2 C ms)∧(e2 (e2 C ms) ms).told=(e2 C ms).told:=by
 have n:=k.to;have b:toNat ms.ai<3:=by omega
 unfold e2;generalize toNat ms.ai=i at b;generalize toNat ms.j=j;have h:=l i;have e:=h.l;have f:=h.hn;have m:=h.hK;have g:=h.co;have c:(ow i j C ms).Z i=iy i j ms (C.Z i) C.s C.told C.a2:=aAJ C b _ _ _ _;have d:(ow i j C ms).told=jj i j ms (C.Z i) C.s C.told C.a2:=(yg C i _ _ _ _).2.1;have a:=anF (i:=i) (j:=j) (ms:=ms) (Z:=C.Z i) (E:=C.s) (B:=C.told) (G:=C.a2) ⟨e,f⟩ ⟨by omega,g⟩ (ow i j C ms).s (ow i j C ms).a2;rw[←c,←d]at a;generalize ow i j C ms=X at a;constructor
 ·show views (X.put i _ _ _ _)=_;exact aAO X b _ _ _ a.1
 ·exact((yg X i _ _ _ _).2.1).trans a.2
theorem anL{C:ak}{a:F}(h:a.j=8)(c:0≤a.K)(f:0<C.s.n)(d:C.s.n<300):cw C a=hH C (A.app C.s (A.lit ([(C.s.at' (toNat (a.K.tmod (C.s.n:Int))))]:List O))):=by
 have e:mq a C.s=a.K.tmod (C.s.n:Int):=by
  unfold mq;rw[bT (by omega),aN]
 have b:=(s4 (n:=(C.s.n:Int)) c (by omega)).1;have m:tP a C.s=true:=by
  unfold tP;rw[e,bT b,aN,bT (by omega)]
 rw[aDw h];unfold DQ Ix;rw[m,e,ak.bV];rfl
theorem amM{α:Type}[Inhabited α](s t:A α){i:Nat}(h:i<s.n):(A.app s t).at' i=s.at' i:=by
 show(cond (Nat.blt i s.n) (s.at' i) _)=_;rw[show Nat.blt i s.n=true by rw[fU];exact h,aN]
theorem amL{α:Type}[Inhabited α](s:A α)(x:α):(A.app s (A.lit [x])).at' s.n=x:=by
 show(cond (Nat.blt s.n s.n) _ (([x]:List α).getD (s.n-s.n) default))=_;rw[show Nat.blt s.n s.n=false by
  cases e:Nat.blt s.n s.n with
  |false=>rfl
  |true=>rw[fU]at e;omega,aQ,Nat.sub_self]
 rfl
theorem XJ{k:Nat}{C:ak}(m:fs k C)(z:0<C.s.n)(Q:C.s.n<300){p:Int}(f:0≤p∧p<(C.s.n:Int)){a b d:F}(c:a.j=6∧a.K=p)(n:b.j=8∧b.K=p)(j:d.j=6∧d.K=(C.s.n:Int)-1):
  views (cw (cw (cw C b) a) d)=views (cw C a)∧(cw (cw (cw C b) a) d).told=(cw C a).told∧(cw (cw (cw C b) a) d).s.n=(cw C a).s.n:=by
 have l:fu (C.s.at' (toNat p)):=m.tn _ (by omega);have y:=anL (C:=C) n.1 (by rw[n.2];exact f.1) z Q;rw[n.2,Int.tmod_eq_of_lt f.1 f.2]at y;have q: ∀D:A O,0<D.n→D.n≤301→ ∀(X:ak),(∀i,bW (X.Z i))→ ∀(t:F),t.j=6→0≤t.K→t.K<(D.n:Int)→fu (D.at' (toNat t.K))→
   ∃g:A O,cw (hH X D) t=hH (e2 X (D.at' (toNat t.K))) g∧g.n=D.n-1∧g=A.del D (toNat t.K) (toNat (i64.wrap (t.K+1))):=by
  intro D K U X h t R E S M;refine⟨_,?_,?_,rfl⟩
  ·have e:=Md (C:=hH X D) R E K;rw[show(hH X D).s=D from rfl,Int.tmod_eq_of_lt E S]at e;rw[e];exact aii _ h M
  ·rw[N _];show D.n- (toNat (t.K+1)-toNat t.K)=D.n-1;omega
 have h: ∀i,bW (C.Z i):=m.j;have P: ∀i,bW ((e2 C (C.s.at' (toNat p))).Z i):=(yz h l).j;obtain⟨s,v,V,_⟩:=q C.s z (by omega) C h a c.1 (by rw[c.2];exact f.1) (by rw[c.2];exact f.2) (by rw[c.2];exact l);rw[c.2]at v;have I:cw C a=hH (e2 C (C.s.at' (toNat p))) s:=v;have L:(A.app C.s (A.lit ([(C.s.at' (toNat p))]:List O))).n=C.s.n+1:=rfl;have o:(A.app C.s (A.lit ([(C.s.at' (toNat p))]:List O))).at' (toNat p)=C.s.at' (toNat p):=amM _ _ (by omega);have B:(A.app C.s (A.lit ([(C.s.at' (toNat p))]:List O))).at' C.s.n=C.s.at' (toNat p):=amL _ _;rw[y];generalize A.app C.s (A.lit ([(C.s.at' (toNat p))]:List O))=r at L o B ⊢;obtain⟨u,w,W,J⟩:=q r (by omega) (by omega) C h a c.1 (by rw[c.2];exact f.1) (by rw[c.2];omega) (by rw[c.2,o];exact l);rw[c.2,o]at w;rw[w];have fo:u.at' (toNat ((C.s.n:Int)-1))=C.s.at' (toNat p):=by
  rw[J,c.2,N _,←B];show(cond (Nat.blt (toNat ((C.s.n:Int)-1)) (toNat p)) _ (r.at' (toNat ((C.s.n:Int)-1)+(toNat (p+1)-toNat p))))=_;rw[show Nat.blt (toNat ((C.s.n:Int)-1)) (toNat p)=false by
   cases e:Nat.blt (toNat ((C.s.n:Int)-1)) (toNat p)with
   |false=>rfl
   |true=>rw[fU]at e;omega,aQ]
  rw[show toNat ((C.s.n:Int)-1)+(toNat (p+1)-toNat p)=C.s.n by omega]
 obtain⟨g,x,Y,_⟩:=q u (by omega) (by omega) (e2 C (C.s.at' (toNat p))) P d j.1 (by rw[j.2];omega) (by rw[j.2];omega) (by rw[j.2,fo];exact l);rw[j.2,fo]at x;rw[x,I];have H:=anX (C:=C) (ms:=C.s.at' (toNat p)) m.Z l;refine⟨H.1,H.2,?_⟩;show g.n=s.n;omega
end
section
variable {d:A dE} {g:Int}
theorem amy{p:Int}(a:0≤p∧p≤400000):e6 ⟨8,0,p,0,0,0,⟨#[]⟩,⟨#[]⟩,⟨#[]⟩,0⟩:=hD (k:=8) (n:=0) (p:=p) (by decide) (fun z=>by cases z) (fun _=>rfl) (fun _=>a) (fun z=>by cases z)
theorem azx{d:A F}(h:ew d)(k:d.n<2997){a b c:F}(g:e6 a)(i:e6 b)(j:e6 c):ew (bq d (A.lit ([a,b,c]:List F))):=by
 refine⟨by show d.n+3≤3000;omega,?_⟩;intro q f;have f:q<d.n+3:=f;show e6 (cond (Nat.blt q d.n) (d.at' q) (([a,b,c]:List F).getD (q-d.n) default))
 cases e:Nat.blt q d.n with
 |true=>exact h.2 q (by rw[fU]at e;exact e)
 |false=>
  have: ¬q<d.n:=fun aZ=>by
   rw[show Nat.blt q d.n=true by rw[fU];exact aZ]at e
   cases e
  rw[aQ];obtain z|z|z:q-d.n=0∨q-d.n=1∨q-d.n=2:=by omega
  ·rw[z];exact g
  ·rw[z];exact i
  ·rw[z];exact j
theorem anV(d:A F)(a b c:F):cg (bq d (A.lit ([a,b,c]:List F))).B=cw (cw (cw (cg d.B) a) b) c:=by
 unfold bq;rw[oI,oJ,Cp];rfl
theorem XK(h:dJ d)(c:dD g)(b:0<bM (az d 80)∧bM (az d 80)<300):ew (bq (az d 80) (A.lit ([(⟨6,0,(C g (bM (az d 80))),0,0,0,⟨#[]⟩,⟨#[]⟩,⟨#[]⟩,0⟩:F)]:List F)))∧
  ew (bq (az d 80) (A.lit ([(⟨8,0,(C g (bM (az d 80))),0,0,0,⟨#[]⟩,⟨#[]⟩,⟨#[]⟩,0⟩:F),(⟨6,0,(C g (bM (az d 80))),0,0,0,⟨#[]⟩,⟨#[]⟩,⟨#[]⟩,0⟩:F),(⟨6,0,(i64.wrap ((bM (az d 80))-1)),0,0,0,⟨#[]⟩,⟨#[]⟩,⟨#[]⟩,0⟩:F)]:List F)))∧
  views (cg (bq (az d 80) (A.lit ([(⟨8,0,(C g (bM (az d 80))),0,0,0,⟨#[]⟩,⟨#[]⟩,⟨#[]⟩,0⟩:F),(⟨6,0,(C g (bM (az d 80))),0,0,0,⟨#[]⟩,⟨#[]⟩,⟨#[]⟩,0⟩:F),(⟨6,0,(i64.wrap ((bM (az d 80))-1)),0,0,0,⟨#[]⟩,⟨#[]⟩,⟨#[]⟩,0⟩:F)]:List F))).B)=views (cg (bq (az d 80) (A.lit ([(⟨6,0,(C g (bM (az d 80))),0,0,0,⟨#[]⟩,⟨#[]⟩,⟨#[]⟩,0⟩:F)]:List F))).B)∧
  (cg (bq (az d 80) (A.lit ([(⟨8,0,(C g (bM (az d 80))),0,0,0,⟨#[]⟩,⟨#[]⟩,⟨#[]⟩,0⟩:F),(⟨6,0,(C g (bM (az d 80))),0,0,0,⟨#[]⟩,⟨#[]⟩,⟨#[]⟩,0⟩:F),(⟨6,0,(i64.wrap ((bM (az d 80))-1)),0,0,0,⟨#[]⟩,⟨#[]⟩,⟨#[]⟩,0⟩:F)]:List F))).B).told=(cg (bq (az d 80) (A.lit ([(⟨6,0,(C g (bM (az d 80))),0,0,0,⟨#[]⟩,⟨#[]⟩,⟨#[]⟩,0⟩:F)]:List F))).B).told∧
  (cg (bq (az d 80) (A.lit ([(⟨8,0,(C g (bM (az d 80))),0,0,0,⟨#[]⟩,⟨#[]⟩,⟨#[]⟩,0⟩:F),(⟨6,0,(C g (bM (az d 80))),0,0,0,⟨#[]⟩,⟨#[]⟩,⟨#[]⟩,0⟩:F),(⟨6,0,(i64.wrap ((bM (az d 80))-1)),0,0,0,⟨#[]⟩,⟨#[]⟩,⟨#[]⟩,0⟩:F)]:List F))).B).s.n=(cg (bq (az d 80) (A.lit ([(⟨6,0,(C g (bM (az d 80))),0,0,0,⟨#[]⟩,⟨#[]⟩,⟨#[]⟩,0⟩:F)]:List F))).B).s.n:=by
 obtain⟨a,j⟩:=nA h;obtain⟨e,i⟩:=yW h;have f:=oV a;have k:0≤C g (bM (az d 80))∧C g (bM (az d 80))<bM (az d 80):=iT c b.1;revert k;generalize C g (bM (az d 80))=K;rw[e]at b ⊢;intro k;rw[N (((cg (az d 80).B).s.n:Int)-1)];refine⟨sP a (by omega) (yR (by omega)),azx a (by omega) (amy (by omega)) (yR (by omega)) (yR (by omega)),?_⟩;rw[rJ,anV];exact XJ f (by omega) (by omega) k ⟨rfl,rfl⟩ ⟨rfl,rfl⟩ ⟨rfl,rfl⟩
theorem Hg(h:dJ d)(a:dD g)(f:0<bM (az d 80)∧bM (az d 80)<300):kl (fN (bq (az d 80) (A.lit ([(⟨6,0,(C g (bM (az d 80))),0,0,0,⟨#[]⟩,⟨#[]⟩,⟨#[]⟩,0⟩:F)]:List F)))) (fN (bq (az d 80) (A.lit ([(⟨8,0,(C g (bM (az d 80))),0,0,0,⟨#[]⟩,⟨#[]⟩,⟨#[]⟩,0⟩:F),(⟨6,0,(C g (bM (az d 80))),0,0,0,⟨#[]⟩,⟨#[]⟩,⟨#[]⟩,0⟩:F),(⟨6,0,(i64.wrap ((bM (az d 80))-1)),0,0,0,⟨#[]⟩,⟨#[]⟩,⟨#[]⟩,0⟩:F)]:List F)))):=by
 obtain⟨b,c,e,_⟩:=XK h a f;exact zi b c e.symm
end
section
variable(d:A dE)(g:Int)
def sa:Bool:=(cond (!(fm (az d 80))) true (cond ((bM (az d 80))==0) true (decide ((bM (az d 80))≥300))))
def acy:Bool:=(cond (fm (bq (az d 80) (A.lit ([(⟨6,0,(C g (bM (az d 80))),0,0,0,⟨#[]⟩,⟨#[]⟩,⟨#[]⟩,0⟩:F)]:List F)))) (cond (fm (bq (az d 80) (A.lit ([(⟨8,0,(C g (bM (az d 80))),0,0,0,⟨#[]⟩,⟨#[]⟩,⟨#[]⟩,0⟩:F),(⟨6,0,(C g (bM (az d 80))),0,0,0,⟨#[]⟩,⟨#[]⟩,⟨#[]⟩,0⟩:F),(⟨6,0,(i64.wrap ((bM (az d 80))-1)),0,0,0,⟨#[]⟩,⟨#[]⟩,⟨#[]⟩,0⟩:F)]:List F)))) (cond ((bM (bq (az d 80) (A.lit ([(⟨6,0,(C g (bM (az d 80))),0,0,0,⟨#[]⟩,⟨#[]⟩,⟨#[]⟩,0⟩:F)]:List F))))==(bM (bq (az d 80) (A.lit ([(⟨8,0,(C g (bM (az d 80))),0,0,0,⟨#[]⟩,⟨#[]⟩,⟨#[]⟩,0⟩:F),(⟨6,0,(C g (bM (az d 80))),0,0,0,⟨#[]⟩,⟨#[]⟩,⟨#[]⟩,0⟩:F),(⟨6,0,(i64.wrap ((bM (az d 80))-1)),0,0,0,⟨#[]⟩,⟨#[]⟩,⟨#[]⟩,0⟩:F)]:List F))))) (cond true (((uj (bq (az d 80) (A.lit ([(⟨6,0,(C g (bM (az d 80))),0,0,0,⟨#[]⟩,⟨#[]⟩,⟨#[]⟩,0⟩:F)]:List F)))).n:Int)==((uj (bq (az d 80) (A.lit ([(⟨8,0,(C g (bM (az d 80))),0,0,0,⟨#[]⟩,⟨#[]⟩,⟨#[]⟩,0⟩:F),(⟨6,0,(C g (bM (az d 80))),0,0,0,⟨#[]⟩,⟨#[]⟩,⟨#[]⟩,0⟩:F),(⟨6,0,(i64.wrap ((bM (az d 80))-1)),0,0,0,⟨#[]⟩,⟨#[]⟩,⟨#[]⟩,0⟩:F)]:List F)))).n:Int)) false) false) false) false)
def Jb:Bool:=(cond (sa d) (fm (az d 80)) (acy d g))
theorem FT{d:A dE}(h:dJ d)(a:sa d=false):0<bM (az d 80)∧bM (az d 80)<300:=by
 obtain⟨e,_⟩:=yW h;unfold sa at a;rw[kN (nA h).1]at a;simp at a;omega
def ale:a6:=⟨[.v (.af pK),.v a],fun d (g:Int)=>⟨⟨some (dJ d∧dD g),.bool (Jb d g)⟩⟩⟩
theorem aAk:oF 8 ale:=
 fun d p _ (g:Int) m=>bf ⟨.pure,[.tmp 4],[(.t 0,y)],⟨[U],[]⟩⟩ (.ad (.ad (.ad (.s (.j ⟨2147483890,[],[(.t 31,y)],[],.f⟩ .z .z) (.ad (.ad (.ad (.j ⟨16,[.b 0,.b 1,.b 2,.b 3,.b 4,.b 5,.b 6,.b 7],[(.t 4,y)],[],.f⟩ .z .z)))))))) (let e:=az d 80;let c:=bM e;let k:=bq e (A.lit ([(⟨6,0,(C g c),0,0,0,⟨#[]⟩,⟨#[]⟩,⟨#[]⟩,0⟩:F)]:List F));let j:=bq e (A.lit ([(⟨8,0,(C g c),0,0,0,⟨#[]⟩,⟨#[]⟩,⟨#[]⟩,0⟩:F),(⟨6,0,(C g c),0,0,0,⟨#[]⟩,⟨#[]⟩,⟨#[]⟩,0⟩:F),(⟨6,0,(i64.wrap (c-1)),0,0,0,⟨#[]⟩,⟨#[]⟩,⟨#[]⟩,0⟩:F)]:List F));(sa d)=false→((0<c)∧(((e.n:Int)+1≤549755813888)∧(((e.n:Int)+3≤549755813888)∧((fm k)=true→((fm j)=true→(((bM k)==(bM j))=true→(kl (fN k) (fN j))))))))) (b4 (aw AS (aw xS (aw xT (aw uL (aw AT aT)))))) Tryz.func8 (have⟨a,h⟩:=m;(fun f=>⟨(by have:=f;simp [sa]at this;have:=trivial;(try have b:=FT a (by assumption));(try have i:=Hg a h b);have:=gE d 80;omega),⟨(by have:=f;simp [sa]at this;have:=trivial;(try have b:=FT a (by assumption));(try have i:=Hg a h b);have:=gE d 80;omega),⟨(by have:=f;simp [sa]at this;have:=trivial;(try have b:=FT a (by assumption));(try have i:=Hg a h b);have:=gE d 80;omega),(fun n=>(fun o=>(fun l=>(by have:=f;simp [sa]at this;have:=eq_of_beq l;have:=trivial;(try have b:=FT a (by assumption));(try have i:=Hg a h b);repeat first|assumption|apply sW|apply uZ|apply uY|apply k3|apply k4|apply lu|apply kt|apply lZ|apply iE|apply kJ|apply lo|apply ln|apply kO|apply kD|apply kE|apply gF|apply lq|apply me|apply ig|apply hp|apply ju|apply And.intro))))⟩⟩⟩))
end
theorem axw(d:A dE)(g:Int)(_:Canon d)(_:d.n≤1048576)(h:dJ d)(c:dD g):Jb d g=true:=by
 have e:=(nA h).1;unfold Jb
 cases i:sa d with
 |true=>simp only[aN];exact kN e
 |false=>
  have k:=FT h i;obtain⟨a,b,_,j,f⟩:=XK h c k;simp only[aQ];unfold acy;rw[kN a,kN b,mK a,mK b,Bl a,Bl b,j,f];simp
end Go.Proofs.YtfmgjpcmcjjoiaaGreatDoor
namespace Go.Proofs.YtfmgjpcmcjjoiaaGreatDoor
open Go Go.ChangeAt Go.ChangeShapes Go.RowKit Go.WideShapes Go.ah
theorem g2:Tryz.prog.globalNamed "rostrum/client.nothing" =some 0:=by kernel_rfl
theorem nj:(Tryz.prog.globals[0]?).map (·.type)=some 34:=by kernel_rfl
theorem ny{W:World}(C:laidMetH Tryz.prog [("rostrum/client.nothing",Rows.laid_rostrum_client_nothing)] W):W.var? Tryz.prog "rostrum/client.nothing" =some #[.int .i64 22,.string ⟨#[]⟩,.string ⟨#[]⟩,.string ⟨#[]⟩,.int .i64 0]:=by
 have C:laidMet Tryz.prog [("rostrum/client.nothing",Rows.laid_rostrum_client_nothing)] W:=C
 obtain⟨V,⟨T,X,cs,S,p,q,O,P,Q,N,_,_⟩,_⟩:=C;obtain rfl:=eG (g2.symm.trans O);obtain rfl:=eG (nj.symm.trans P);obtain⟨G,m,_,k,D,U,L⟩:=DataW.trod_struct Tryz.underlying34 N;have t:=congrArg Prod.fst k;simp only[Rows.laid_rostrum_client_nothing,DataW.agg.injEq]at t;have M:Tryz.prog.cellsOf 34=5:=by kernel_rfl
 rw[M]at D;have I: ∀(i:Nat) (f:Field) (x:DataW Unit),(Tryz.prog.underlying 34).map (fun s=>match s with| .struct w=>w[i]? |_=>none)=some (some f)→(G.map (·.1))[i]? =some x→ ∃y,DataW.trod (fun _=>()) Tryz.prog W 0 (fun _=>true) false m f.type ((cs.toList.drop f.offset).take (Tryz.prog.cellsOf f.type))=some y∧y.1=x:=by
  intro i f x j k;rw[Tryz.underlying34]at j;have j:=eG j;have:=L i f j;rw[fq,jQ]at k;obtain⟨y,o,rfl⟩:=k;exact⟨y,this.trans o,rfl⟩
 have J:Tryz.prog.cellsOf 3=1:=by kernel_rfl
 have K:Tryz.prog.cellsOf 9=1:=by kernel_rfl
 have H: ∀(i:Nat) (f:Field) (n:Int),f.type=3→f.offset=i→(Tryz.prog.underlying 34).map (fun s=>match s with| .struct w=>w[i]? |_=>none)=some (some f)→(G.map (·.1))[i]? =some (.lit (.int .i64 n))→cs.toList[i]? =some (.int .i64 n):=by
  intro i f n A B j k;obtain⟨y,o,v⟩:=I i f _ j k;rw[A,B,J]at o;obtain⟨z,E,rfl,_⟩:=DataW.trod_int (show Tryz.prog.underlying 3=some (.int .i64) by kernel_rfl) o;simp only[DataW.lit.injEq,Lit.int.injEq,true_and]at v;subst v;have:=congrArg (·[0]?) E;simpa[lv,ht]using this
 have F: ∀(i:Nat) (f:Field),f.type=9→f.offset=i→(Tryz.prog.underlying 34).map (fun s=>match s with| .struct w=>w[i]? |_=>none)=some (some f)→(G.map (·.1))[i]? =some (.lit (.string []))→cs.toList[i]? =some (.string ⟨#[]⟩):=by
  intro i f A B j k;obtain⟨y,o,v⟩:=I i f _ j k;rw[A,B,K]at o;obtain⟨z,E,rfl,_⟩:=DataW.trod_string (show Tryz.prog.underlying 9=some .string by kernel_rfl) o;simp only[DataW.lit.injEq,Lit.string.injEq]at v;have R:z=⟨#[]⟩:=by
   obtain⟨⟨l⟩⟩:=z;simp only at v;subst v;rfl
  subst R;have:=congrArg (·[0]?) E;simpa[lv,ht]using this
 have d:=H 0 _ 22 rfl rfl (by rw[Tryz.underlying34];rfl) (by rw[←t];rfl);have g:=F 1 _ rfl rfl (by rw[Tryz.underlying34];rfl) (by rw[←t];rfl);have u:=F 2 _ rfl rfl (by rw[Tryz.underlying34];rfl) (by rw[←t];rfl);have h:=F 3 _ rfl rfl (by rw[Tryz.underlying34];rfl) (by rw[←t];rfl);have r:=H 4 _ 0 rfl rfl (by rw[Tryz.underlying34];rfl) (by rw[←t];rfl);rw[Q];obtain⟨l⟩:=cs;simp only at D d g u h r
 match l,D with
 |[a,b,c,s,e],_=>
  simp at d g u h r;subst d g u h r;rfl
theorem nz{W:World}(h:laidMetH Tryz.prog [("rostrum/client.nothing",Rows.laid_rostrum_client_nothing)] W):oL W (fun y=>y<W.heap.size):=by
 have b:=ny h;refine⟨fun _ h=>h,fun g=> ?_⟩
 cases g with
 |succ g=>exact .inl rfl
 |zero=>
  refine .inr ?_;have c:=fun i=>World.var?_cell g2 b i;have d:0<W.heap.size:=by
   have f:=c 0;rcases nL W.heap.size with e|e
   ·have:W.heap[0]? =none:=rk (by omega);unfold World.var? at b;rw[g2]at b;simp only[Option.bind_some,this]at b
    cases b
   ·exact e
  refine aR.ref _ 0 0 (fun j=>([.int .i64 22,.str ⟨#[]⟩,.str ⟨#[]⟩,.str ⟨#[]⟩,.int .i64 0]:List J).getD j .undef) (fun j=>([.int .i64 22,.string ⟨#[]⟩,.string ⟨#[]⟩,.string ⟨#[]⟩,.int .i64 0]:List Value).getD j undef) d ?_ ?_ ?_
  ·intro j a;have a:j<5:=a
   match j,a with
   |0,_=>rfl
   |1,_=>rfl
   |2,_=>rfl
   |3,_=>rfl
   |4,_=>rfl
  ·intro j a;have a:j<5:=a;rw[cN,c j]
   match j,a with
   |0,_=>rfl
   |1,_=>rfl
   |2,_=>rfl
   |3,_=>rfl
   |4,_=>rfl
  ·intro j a;have a:j<5:=a
   match j,a with
   |0,_=>exact .int _ _
   |1,_=>exact .str _ (cA _)
   |2,_=>exact .str _ (cA _)
   |3,_=>exact .str _ (cA _)
   |4,_=>exact .int _ _
theorem aAD:q2 Tryz.prog 1048576 12 [22,3] fun E=>cY Tryz.prog 8 E (.bool true):=by
 refine Eq.mpr (β:= ∀(b:Nat) (a:Nat→List J),b≤1048576→(∀i,b≤i→a i=[.int .i64 0,.int .i64 0,.int .i64 0,.int .i64 0,.int .i64 0,.int .i64 0,.int .i64 0,.str ⟨#[]⟩])→(∀i,i<b→ ∀K:List J→Prop,(∀d:Int,(Lit.int .i64 d).wf=true→ ∀g:Int,(Lit.int .i64 g).wf=true→ ∀u:Int,(Lit.int .i64 u).wf=true→ ∀h:Int,(Lit.int .i64 h).wf=true→ ∀r:Int,(Lit.int .i64 r).wf=true→ ∀o:Int,(Lit.int .i64 o).wf=true→ ∀q:Int,(Lit.int .i64 q).wf=true→ ∀t:ByteArray,t.size≤1048576→K [.int .i64 d,.int .i64 g,.int .i64 u,.int .i64 h,.int .i64 r,.int .i64 o,.int .i64 q,.str t])→K (a i))→ ∀g:Int,(Lit.int .i64 g).wf=true→cY Tryz.prog 8 [.arr 8 b a,.int .i64 g] (.bool true)) (by kernel_rfl) ?_;intro b a y v k g e;have hX:=de e;have z: ∀i,i<b→a i=e_ (bZ (a i)):=fun i c=>k i c (fun l=>l=e_ (bZ l)) (fun _ _ _ _ _ _ _ _ _ _ _ _ _ _ _ _=>rfl);have p: ∀i,i<b→a i=e_ (bZ (a i)):=fun i c=>z i c;have n:Canon (cD bZ (.arr 8 b a)):=fun i c=>by
  show bZ (a i)=default;rw[v i c];rfl
 have m:dJ (cD bZ (.arr 8 b a)):=⟨(by show b≤_;omega),fun j x=>by
  exact k j x (fun l=>pM (bZ l)) (fun d A g e u B h C r F o G q D t H=>⟨de A,de e,de B,de C,de D⟩)⟩
 have s:cY Tryz.prog 8 [aH 8 e_ (cD bZ (.arr 8 b a)),.int .i64 g] (.bool (Jb (cD bZ (.arr 8 b a)) g)):=cY.jz fun w=>aAk (cD bZ (.arr 8 b a)) (by show _≤_;simp only[cD];omega) w.1 g ⟨m,hX⟩;have f:=s.u9 (fo (u0 rfl p) (fo rB xV));rw[axw (cD bZ (.arr 8 b a)) g n y m (de e)]at f;exact f
def g4(a:Os):World:=
 {World.holding Tryz.prog a ⟨#[],#[],[]⟩with heap:=(World.holding Tryz.prog a ⟨#[],#[],[]⟩).heap.modify 0 fun
   | .cells _ t frozen=> .cells #[.int .i64 22,.string ⟨#[]⟩,.string ⟨#[]⟩,.string ⟨#[]⟩,.int .i64 0] t frozen
   |o=>o}
theorem nu(a:Os):laidMet Tryz.prog Rows.topCopiesUptoRow.laid ((g4 a).forCall (fun _ _=>0) ⟨#[],#[.slice none 0 0,.int .i64 0],[]⟩).memory:=
 laidMet_of_run' 8 (by kernel_rfl) (by kernel_rfl)
theorem nw(a:Os){H:Type}(enc:TypeId×Value→H): ∃b,DataW.whole enc Tryz.prog ((g4 a).forCall (fun _ _=>0) ⟨#[],#[.slice none 0 0,.int .i64 0],[]⟩).memory Tryz.f8.params.toList Rows.topCopiesSpec.vars false (#[.slice none 0 0,.int .i64 0]:Array Value).toList 8=some ([.nil,.lit (.int .i64 0)],[],b):=
 ⟨[],by kernel_rfl⟩
theorem aCu(a:Os)(q:a.Started)(H:Type)(enc:TypeId×Value→H)(F:Stop.Interp):
  ReturnsInHanded {} Tryz.checked a 8 .any ((Rows.OpenSpec.upto Rows.topCopiesSpec).preRow enc Tryz.prog Tryz.f8 Rows.topCopiesUptoRow.domain false Rows.topCopiesUptoRow.laid) (((Rows.OpenSpec.upto Rows.topCopiesSpec).at F).post enc Tryz.prog Tryz.f8 false true false false):=by
 obtain⟨u,p⟩:=nw a enc;refine returnsInHanded_of_row (C:=Tryz.checked) (s:=Rows.OpenSpec.upto Rows.topCopiesSpec) Tryz.own q (by kernel_rfl) Tryz.func8
  (witness_row_at (enc:=enc) (C:=Tryz.checked) false (g4 a) #[.slice none 0 0,.int .i64 0] rfl (by kernel_rfl) (by kernel_rfl) (by kernel_rfl)
   (OpenSpec.preRow_of_cond 8 p (by kernel_rfl) (fun k m=>by cases m;kernel_rfl) (by kernel_rfl) (nu a))) ?_
 intro W base c b f e o i _ j _ g _ _;exact xW (P:=Tryz.prog) (fn:=Tryz.f8) (s:=Rows.topCopiesSpec) (n:=12) (B:=1048576) (fx:=Rows.uptoBulk) (eV:=4) (bh:=[22,3]) (by decide) (vp H) rfl mH (by kernel_rfl) (by kernel_rfl) rfl (by kernel_rfl) rfl (fun b h=>by
  match b,h with
  |[r,t],_=>rfl) aAD W base c b f e o i (fun d l=>vq (j _ rfl) d (by simp [l])) (nz g)
theorem auB:joinedFacts Tryz.prog 8 Tryz.f8 Rows.topCopiesSpec Rows.topCopiesUptoRow=true:=
 xM (by kernel_rfl) mH xJ (by kernel_rfl) (by kernel_rfl) rfl xK rfl xL (by kernel_rfl) (by kernel_rfl) (by kernel_rfl) (by kernel_rfl) (by kernel_rfl) (by kernel_rfl) (by kernel_rfl) (by kernel_rfl) (by kernel_rfl)
  (by kernel_rfl) (by kernel_rfl) (by kernel_rfl) (by kernel_rfl) (by rw[xE];rfl) rfl xF xG (by rw[xH];rfl) (by rw[xI];rfl) (by kernel_rfl) (by kernel_rfl) (by kernel_rfl) (by kernel_rfl)
theorem aCv:Rows.TopCopiesUptoSaid:=
 OpenClaim.holds_of_cond 8 Tryz.f8 rfl rfl rfl rfl rfl rfl rfl ⟨rfl,rfl,rfl,rfl,rfl⟩ rfl rfl rfl rfl rfl (by kernel_rfl) Tryz.func8 auB
  (aq (by kernel_rfl)) (by unfold Func.isWrapper;first|(rw[bF (by decide+kernel)];kernel_rfl)|(rw[bH (by decide+kernel)];exact⟨rfl,rfl⟩))
  (fun a b H enc _ F=>by rw[OpenClaim.pre_eq_preRow];exact aCu a b H enc F)
theorem nv(f:FuncId)(b:Func)(c:Tryz.pinned.checked.prog.funcNamed "rostrum/rostrumtop.TopCopies" =some f)(d:Tryz.pinned.checked.prog.funcs[f]? =some b):
  false=Tryz.pinned.checked.prog.looks []∧ ∀(j:Nat) t,b.params[j]? =some t→Tryz.pinned.checked.prog.wantsStandIn t=false:=by
 obtain rfl:f=8:=eG ((show Tryz.prog.funcNamed "rostrum/rostrumtop.TopCopies" =some 8 by kernel_rfl).symm.trans c)|>.symm
 obtain rfl:b=Tryz.f8:=(eG (Tryz.func8.symm.trans d)).symm;refine⟨by kernel_rfl,fun j t e=> ?_⟩;have a:t∈Tryz.f8.params.toList:=by have:=Array.mem_of_getElem? e;simpa using this
 have a:t∈([22,3]:List Nat):=a;simp only[hf,oH,or_false]at a;rcases a with rfl|rfl
 ·exact(show Tryz.prog.wantsStandIn 22=false by kernel_rfl)
 ·exact(show Tryz.prog.wantsStandIn 3=false by kernel_rfl)
theorem topCopies_holds:Rows.TopCopiesUptoCardSaid:=
 Claim7.holds_tied_plain_at .later [] _ _ _ _ aCv (fun _ h=>by cases h) (by kernel_rfl) (fun _ h=>by cases h) topCopiesUpto_row_tie rfl ⟨rfl,rfl⟩ (by kernel_rfl) rfl nv (by kernel_rfl)
end Go.Proofs.YtfmgjpcmcjjoiaaGreatDoor
