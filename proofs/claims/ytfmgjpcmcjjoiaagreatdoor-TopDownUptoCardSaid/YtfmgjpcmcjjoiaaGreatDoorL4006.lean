/- rostrum/rostrumtop.TopDown: it answers true, as the document says, for every input whose bulk is at most 1048576; the card ties what client.nothing holds. -/
import Derived.Test.YtfmgjpcmcjjoiaaGreatDoorXc
import Derived.Test.YtfmgjpcmcjjoiaaGreatDoorYe
import Derived.Deep.DeepHandedRow
import Derived.Lib.LaidTab
import Derived.Test.YtfmgjpcmcjjoiaaGreatDoorCards
import Derived.Test.YtfmgjpcmcjjoiaaGreatDoorTie
open Go.IntKind (i64 u64 u8)
open Int (toNat)
set_option maxRecDepth 100000
set_option maxHeartbeats 4000000
set_option linter.all false
noncomputable section
namespace Go.Proofs.YtfmgjpcmcjjoiaaGreatDoor
open Go Go.RowKit Go.ah
section
variable {ms:O} {Z:H} {B:A a7} {G:A aJ} (E b9:A O)
def BS(r a:oN):Prop:=uT r=uT a∧Fj r=Fj a∧Fi r=Fi a
theorem agb(n:H)(k:A O)(t:A a7)(l:A aJ):uT (l6 n k t l)=n:=rfl
theorem afr(n:H)(k:A O)(t:A a7)(l:A aJ):Fj (l6 n k t l)=t:=rfl
theorem afq(n:H)(k:A O)(t:A a7)(l:A aJ):Fi (l6 n k t l)=l:=rfl
theorem aeq(n:H)(t:A a7)(l:A aJ):BS (l6 n E t l) (l6 n b9 t l):=by
 unfold BS;rw[agb,agb,afr,afr,afq,afq];exact⟨rfl,rfl,rfl⟩
theorem KL(r:oN):BS r r:=⟨rfl,rfl,rfl⟩
theorem aes: ∀(k:Nat) (v:Int),(g1 Z E B G k v).1=(g1 Z b9 B G k v).1∧BS (g1 Z E B G k v).2 (g1 Z b9 B G k v).2
 |0,_=>by
  rw[g1,g1];exact⟨rfl,KL _⟩
 |k+1,v=>by
  rw[g1,g1]
  cases decide (v>Z.co)<;>simp only[aN,aQ]
  ·exact⟨trivial,KL _⟩
  ·cases mv Z v<;>simp only[aN,aQ]
   ·exact aes k _
   ·exact⟨trivial,aeq E b9 _ _ _⟩
theorem atY:hB Z E B G=hB Z b9 B G∧jE Z E B G=jE Z b9 B G∧qp Z E B G=qp Z b9 B G:=by
 obtain⟨a,b,c,d⟩:=aes (Z:=Z) (B:=B) (G:=G) E b9 ((toNat ((ck Z)-Z.co))+1) (ck Z);unfold hB jE qp mw;rw[a,b,c,d];exact⟨rfl,rfl,rfl⟩
theorem aer: ∀(k:Nat) (v:Int) (a:A Int) (b:Int),((eT ms Z E B G k v a b).1=(eT ms Z b9 B G k v a b).1∧(eT ms Z E B G k v a b).2.1=(eT ms Z b9 B G k v a b).2.1∧(eT ms Z E B G k v a b).2.2.1=(eT ms Z b9 B G k v a b).2.2.1)∧BS (eT ms Z E B G k v a b).2.2.2 (eT ms Z b9 B G k v a b).2.2.2
 |0,_,_,_=>by
  rw[eT,eT];exact⟨⟨rfl,rfl,rfl⟩,KL _⟩
 |k+1,v,a,b=>by
  rw[eT,eT];generalize decide (v≤_)=c
  cases c<;>simp only[aN,aQ]
  ·exact⟨⟨trivial,trivial,trivial⟩,KL _⟩
  ·generalize gN _ _=d
   cases d<;>simp only[Bool.not_true,Bool.not_false,aN,aQ]
   ·exact⟨⟨trivial,trivial,trivial⟩,aeq E b9 _ _ _⟩
   ·exact aer k _ _ _
theorem atW:ga ms Z E B G=ga ms Z b9 B G∧iA ms Z E B G=iA ms Z b9 B G∧tY ms Z E B G=tY ms Z b9 B G:=by
 obtain⟨⟨a,b,c⟩,d,f,g⟩:=aer (ms:=ms) (Z:=Z) (B:=B) (G:=G) E b9 ((toNat ((i64.wrap ((b6 Z.l Z.lt Z.li ms.p ms.v ms.i)+((b2 Z.l Z.lt Z.li ms.p ms.v ms.i).n:Int)))+1- (c7 Z.l Z.lt Z.li ms.p ms.v ms.i)))+1) (c7 Z.l Z.lt Z.li ms.p ms.v ms.i) Z.bd Z.bh;have e: ∀k:A O,j7 ms Z k B G=eT ms Z k B G ((toNat ((i64.wrap ((b6 Z.l Z.lt Z.li ms.p ms.v ms.i)+((b2 Z.l Z.lt Z.li ms.p ms.v ms.i).n:Int)))+1- (c7 Z.l Z.lt Z.li ms.p ms.v ms.i)))+1) (c7 Z.l Z.lt Z.li ms.p ms.v ms.i) Z.bd Z.bh:=fun _=>rfl;rw[←e,←e]at a b c d f g;have h:hA ms Z E B G=hA ms Z b9 B G:=by unfold hA tZ;rw[a]
 have i:mr ms Z E B G=mr ms Z b9 B G:=by unfold mr D2 Q1;rw[b,c]
 unfold ga iA tY;rw[h,i,d,f,g];exact⟨rfl,rfl,rfl⟩
theorem atX:od ms Z E B G=od ms Z b9 B G∧qm ms Z E B G=qm ms Z b9 B G∧ud ms Z E B G=ud ms Z b9 B G:=by
 unfold od qm ud j8 ng IU;obtain⟨a,b,c⟩:=atY (Z:=lS (toNat ms.j) ms Z) (B:=B) (G:=G) E b9;rw[a,b,c];exact⟨rfl,rfl,rfl⟩
theorem atV{i j:Nat} :iy i j ms Z E B G=iy i j ms Z b9 B G∧jj i j ms Z E B G=jj i j ms Z b9 B G∧qh i j ms Z E B G=qh i j ms Z b9 B G:=by
 have h (m:O) (n:H):=atW (ms:=m) (Z:=n) (B:=B) (G:=G) E b9;have k (m:O) (n:H):=atX (ms:=m) (Z:=n) (B:=B) (G:=G) E b9;unfold iy jj qh;rw[(h _ _).1,(h _ _).2.1,(h _ _).2.2,(k _ _).1,(k _ _).2.1,(k _ _).2.2];exact⟨rfl,rfl,rfl⟩
end
def hH(C:ak)(D:A O):ak:={C with s:=D}
theorem aAN(C:ak)(D:A O)(i:Nat)(n:H)(E:A O)(B:A a7)(G:A aJ):(hH C D).put i n E B G=hH (C.put i n C.s B G) E:=by
 match i with
 |0=>rfl
 |1=>rfl
 |i+2=>rfl
theorem aii{C:ak}{ms:O}(D:A O)(b: ∀i,bW (C.Z i))(a:fu ms):e2 (hH C D) ms=hH (e2 C ms) D:=by
 have g:=a.p0;have h:=a.to;unfold e2 ow;generalize k:toNat ms.ai=i;generalize l:toNat ms.j=j;have f:(hH C D).Z i=C.Z i:=ox C D i;have e:=atV (ms:=ms) (Z:=C.Z i) (B:=C.told) (G:=C.a2) (i:=i) (j:=j) D C.s;have c:=(SW (i:=i) (j:=j) (ms:=ms) (E:=D) (B:=C.told) (G:=C.a2) (b i) a (by omega) (by omega)).a;have d:=(SW (i:=i) (j:=j) (ms:=ms) (E:=C.s) (B:=C.told) (G:=C.a2) (b i) a (by omega) (by omega)).a;rw[f,aAN];show hH (C.put i (iy i j ms (C.Z i) D C.told C.a2) C.s (jj i j ms (C.Z i) D C.told C.a2) (qh i j ms (C.Z i) D C.told C.a2)) (wC i j ms (C.Z i) D C.told C.a2)=_;rw[c,d,e.1,e.2.1,e.2.2]
def nT(C:ak)(l:List O):ak:=l.foldl e2 C
structure BP (k:Nat) (X:ak):Prop where
 j: ∀i,bW (X.Z i)
 w: ∀i,(X.Z i).ws.n≤k
theorem XE{k:Nat}{X:ak}(h:BP k X){ms:O}(a:fu ms):BP k (e2 X ms):=⟨(yz h.j a).j,Vq h.j a h.w⟩
theorem YL{E:A O}(d:E.n≤300): ∀(m a v:Nat) (X:ak),v+m=E.n→m≤a→bc (r7 E (a+1) (v:Int) X)=nT X (E.B.drop v)
 |0,a,v,X,c,b=>by
  rw[r7,bI (show¬(v:Int)<(E.n:Int) by omega),aQ,G2,List.drop_eq_nil_of_le (by rw[dt];omega)];rfl
 |m+1,a,v,X,c,b=>by
  obtain⟨a,rfl⟩: ∃q,a=q+1:=⟨a-1,by omega⟩;rw[r7,bT (show(v:Int)<(E.n:Int) by omega),aN,N _,VE (by omega)];exact YL d m a (v+1) _ (by omega) (by omega)
theorem Hs{k:Nat}{C:ak}(h:fs k C):n_ C.s C=nT (hH C L) C.s.B:=by
 have q:=YL h.jU C.s.n (toNat ((C.s.n:Int)- (0:Int))) 0 (hH C L) (by omega) (by omega);rw[List.drop_zero]at q;exact q
def mN(C:ak):Nat→ak
 |0=>C
 |k+1=>u2 (mN C k) 0
theorem an4{s:A O}{k:Nat}{l:List O}(h:s.B=l.drop k)(a:k<l.length):s.at' 0=l[k]∧(A.del s 0 1).B=l.drop (k+1)∧s.n=l.length-k:=by
 have b:s.n=l.length-k:=by rw[←dt,h,rj]
 refine⟨?_,?_,b⟩
 ·have:=kV s (i:=0) (by omega);rw[h,ht,lA,cT a]at this;exact(eG this).symm
 ·apply yG;intro i
  by_cases c:i<s.n-1
  ·rw[kV _ (show i<(A.del s 0 1).n from c),ht];have:=kV s (i:=i+1) (by omega);rw[h,ht]at this;rw[show k+1+i=k+(i+1) by omega,this];rfl
  ·rw[e0 (by rw[dt];show s.n- (1-0)≤i;omega),e0 (by rw[rj];omega)]
theorem Me{c:Nat}{C:ak}(h:fs c C): ∀k,k≤C.s.n→ ∃D:A O,mN C k=hH (nT (hH C L) (C.s.B.take k)) D∧D.B=C.s.B.drop k∧BP c (nT (hH C L) (C.s.B.take k))
 |0,_=>let a:=hH C L;⟨C.s,rfl,rfl,⟨fun i=>by show bW (a.Z i);rw[show a.Z i=C.Z i from ox C L i];exact h.j i,fun i=>by show(a.Z i).ws.n≤c;rw[show a.Z i=C.Z i from ox C L i];exact h.wn i⟩⟩
 |k+1,o=>by
  obtain⟨D,e,n,d⟩:=Me h k (by omega);have b:k<C.s.B.length:=by rw[dt];omega
  obtain⟨l,m,d3⟩:=an4 n b;have j:fu (C.s.B[k]):=by
   have g:=kV C.s (i:=k) (by omega);rw[cT b]at g;rw[eG g];exact h.tn _ (by omega)
  have f:nT (hH C L) (C.s.B.take (k+1))=e2 (nT (hH C L) (C.s.B.take k)) (C.s.B[k]):=by
   unfold nT;rw[List.take_add_one,cT b,List.foldl_append];rfl
  refine⟨A.del D 0 1,?_,m,by rw[f];exact XE d j⟩;show u2 (mN C k) 0=_;rw[e,f,←aii _ d.j j];unfold u2;rw[show(hH (nT (hH C L) (C.s.B.take k)) D).s=D from rfl,show toNat 0=0 from rfl,l];rfl
theorem ao_{f:Nat}{C:ak}(h:fs f C):views (n_ C.s C)=views (mN C C.s.n)∧(n_ C.s C).told=(mN C C.s.n).told∧(mN C C.s.n).s.n=0:=by
 obtain⟨D,e,a,g⟩:=Me h C.s.n (bx _);have b:=Hs h;have d:C.s.B.take C.s.n=C.s.B:=by rw[←dt C.s];exact List.take_length ..
 rw[d]at e;have c:D.n=0:=by rw[←dt,a,rj,dt];omega
 rw[e,b];exact⟨rfl,rfl,c⟩
def gH(v:dg)(n:H):Prop:=n.up=false∧eF n=v
theorem aAM(C:ak)(a:Nat)(n:H)(E:A O)(B:A a7)(G:A aJ)(i:Nat):(C.put a n E B G).Z i=C.Z i∨((C.put a n E B G).Z i=n∧C.Z a=C.Z i):=by
 match a,i with
 |0,0=>exact .inr ⟨rfl,rfl⟩
 |0,1=>exact .inl rfl
 |0,i+2=>exact .inl rfl
 |1,0=>exact .inl rfl
 |1,1=>exact .inr ⟨rfl,rfl⟩
 |1,i+2=>exact .inl rfl
 |a+2,0=>exact .inl rfl
 |a+2,1=>exact .inl rfl
 |a+2,i+2=>exact .inr ⟨rfl,rfl⟩
theorem tu{v:dg}{C:ak}{a i:Nat}{n:H}{E:A O}{B:A a7}{G:A aJ}(h:gH v (C.Z i))(b:gH v (C.Z a)→gH v n):gH v ((C.put a n E B G).Z i):=by
 rcases aAM C a n E B G i with e|⟨e,f⟩
 ·rw[e];exact h
 ·rw[e];exact b (by rw[f];exact h)
theorem Ct{v:dg}{c:Bool}{a b:H}(d:c=false)(h:gH v b):gH v (H.bif c a b):=by
 rw[H.bV,d];exact h
theorem X3{v:dg}{C:ak}{ms:O}{i:Nat}(h:gH v (C.Z i)):gH v ((e2 C ms).Z i):=by
 unfold e2 ow;refine tu h fun k=> ?_;unfold iy;rw[H.bV,k.1];exact k
theorem X4{v:dg}{i:Nat} : ∀(l:List O) {C:ak},gH v (C.Z i)→gH v ((nT C l).Z i)
 |[],_,h=>h
 |m::l,_,h=>X4 l (X3 h)
theorem an9{k:Nat}{v:dg}{C:ak}{ac:F}{i:Nat}(a:fs k C)(h:gH v (C.Z i))(b:ac.j≠10):gH v ((cw C ac).Z i):=by
 unfold cw;refine eo (P:=fun X=>gH v (X.Z i)) (fun _=> ?_) fun _=>eo (P:=fun X=>gH v (X.Z i)) (fun _=>tu h fun k=>Ct k.1 k) fun _=>eo (P:=fun X=>gH v (X.Z i)) (fun _=>tu h fun k=>Ct k.1 k) fun _=>eo (P:=fun X=>gH v (X.Z i)) (fun _=>tu h fun k=>Ct k.1 k) fun _=>eo (P:=fun X=>gH v (X.Z i)) (fun _=> ?_) fun _=>eo (P:=fun X=>gH v (X.Z i)) (fun _=> ?_) fun _=>eo (P:=fun X=>gH v (X.Z i)) (fun _=> ?_) fun _=>eo (P:=fun X=>gH v (X.Z i)) (fun _=> ?_) fun _=>eo (P:=fun X=>gH v (X.Z i)) (fun _=>tu h fun k=>Ct k.1 k) fun _=>eo (P:=fun X=>gH v (X.Z i)) (fun e=>absurd (eq_of_beq e) b) fun _=>eo (P:=fun X=>gH v (X.Z i)) (fun _=>tu h fun k=>Ct k.1 k) fun _=> ?_
 ·refine tu h fun k=> ?_;unfold DO r8;rw[H.bV,k.1];exact k
 ·rw[Lq,Bv];exact tu h fun k=>⟨k.1,k.2⟩
 ·refine eo (P:=fun X=>gH v (X.Z i)) (fun _=> ?_) fun _=>h;refine X3 ?_;rw[show(zX ac C.s C).Z i=C.Z i from ox C _ i];exact h
 ·refine eo (P:=fun X=>gH v (X.Z i)) (fun _=> ?_) fun _=>h;rw[show(Iw ac C.s C).Z i=C.Z i from ox C _ i];exact h
 ·refine eo (P:=fun X=>gH v (X.Z i)) (fun _=> ?_) fun _=>h;rw[show(Ix ac C.s C).Z i=C.Z i from ox C _ i];exact h
 ·rw[show n_ C.s C=_ from Hs a];refine X4 _ ?_;rw[show(hH C L).Z i=C.Z i from ox C _ i];exact h
section
def Du(d:A F):Nat→Int→Bool×A dg×A a7×A aJ×Int×Int×A F
 |0,_=>default
 |k+1,ar=>(cond (decide (ar<(d.n:Int))) (cond ((ld (d.at' (toNat ar)).j (d.at' (toNat ar)).ai (d.at' (toNat ar)).K (d.at' (toNat ar)).an (d.at' (toNat ar)).p (d.at' (toNat ar)).v (d.at' (toNat ar)).ax (d.at' (toNat ar)).aF (d.at' (toNat ar)).i (d.at' (toNat ar)).aP)!=0) (true,(L:A dg),(L:A a7),(L:A aJ),0,(ld (d.at' (toNat ar)).j (d.at' (toNat ar)).ai (d.at' (toNat ar)).K (d.at' (toNat ar)).an (d.at' (toNat ar)).p (d.at' (toNat ar)).v (d.at' (toNat ar)).ax (d.at' (toNat ar)).aF (d.at' (toNat ar)).i (d.at' (toNat ar)).aP),d) (Du d k (i64.wrap (ar+1)))) (false,default,default,default,default,default,default))
variable(d:A F)
def tO:Bool×A dg×A a7×A aJ×Int×Int×A F:=Du d ((toNat ((d.n:Int)-0))+1) 0
def qe:Bool:=(cond (tO d).1 false true)
def QI:A dg:=(cond (decide ((d.n:Int)>3000)) (L:A dg) (cond (qe d) (A.app (A.app (A.lit ([(⟨((bc (bD d)).Z 0).up,((bc (bD d)).Z 0).aX,(((bc (bD d)).Z 0).ro==3),((bc (bD d)).Z 0).co,((bc (bD d)).Z 0).l,((bc (bD d)).Z 0).lt,((bc (bD d)).Z 0).li,(tQ ((bc (bD d)).Z 0).eO),(tR ((bc (bD d)).Z 0).eC),(tS ((bc (bD d)).Z 0).et),(tT ((bc (bD d)).Z 0).eD)⟩:dg)]:List dg)) (A.lit ([(⟨((bc (bD d)).Z 1).up,((bc (bD d)).Z 1).aX,(((bc (bD d)).Z 1).ro==3),((bc (bD d)).Z 1).co,((bc (bD d)).Z 1).l,((bc (bD d)).Z 1).lt,((bc (bD d)).Z 1).li,(tQ ((bc (bD d)).Z 1).eO),(tR ((bc (bD d)).Z 1).eC),(tS ((bc (bD d)).Z 1).et),(tT ((bc (bD d)).Z 1).eD)⟩:dg)]:List dg))) (A.lit ([(⟨((bc (bD d)).Z 2).up,((bc (bD d)).Z 2).aX,(((bc (bD d)).Z 2).ro==3),((bc (bD d)).Z 2).co,((bc (bD d)).Z 2).l,((bc (bD d)).Z 2).lt,((bc (bD d)).Z 2).li,(tQ ((bc (bD d)).Z 2).eO),(tR ((bc (bD d)).Z 2).eC),(tS ((bc (bD d)).Z 2).et),(tT ((bc (bD d)).Z 2).eD)⟩:dg)]:List dg))) (tO d).2.1))
def QJ:A a7:=(cond (decide ((d.n:Int)>3000)) (L:A a7) (cond (qe d) (Dt d) (tO d).2.2.1))
def QK:A aJ:=(cond (decide ((d.n:Int)>3000)) (L:A aJ) (cond (qe d) (A.cut (wB (bc (bD d)).a2) (bc (bD d)).a2.n) (tO d).2.2.2.1))
def QL:Int:=(cond (decide ((d.n:Int)>3000)) 0 (cond (qe d) (((bc (bD d)).s.n:Nat):Int) (tO d).2.2.2.2.1))
def QM:Int:=(cond (decide ((d.n:Int)>3000)) 1 (cond (qe d) 0 (tO d).2.2.2.2.2.1))
def QN:A F:=(cond (decide ((d.n:Int)>3000)) d (cond (qe d) d (tO d).2.2.2.2.2.2))
def auG(q:Key×aB):Key×aB:=match q.1 with
 | .h _ o=>(.h 2 o,q.2)
 |_=>q
def XN(ids:List Nat):List (Key×aB):=(qP 0++qP 33++qP 66).map auG++qS ids 0++qS ids 1++qS ids 2++[(.h (ids.getD 6 0) 0,.ae ca),(.h (ids.getD 7 0) 0,.ae gr),(.h (ids.getD 8 0) 0,.ae ct)]
theorem afw(d:A F): ∀(k:Nat) (v:Int),Du d k v=((k9 d k v).1,(k9 d k v).2.1,(k9 d k v).2.2.1,(k9 d k v).2.2.2.1,(k9 d k v).2.2.2.2.1,(k9 d k v).2.2.2.2.2,bif(k9 d k v).1 then d else default)
 |0,_=>rfl
 |k+1,v=>by
  rw[Du,k9]
  cases decide (v<(d.n:Int))with
  |false=>rfl
  |true=>
   simp only[aN];generalize (ld _ _ _ _ _ _ _ _ _ _ !=0)=q
   cases q with
   |true=>rfl
   |false=>exact afw d k _
theorem yi(d:A F):tO d=((kz d).1,(kz d).2.1,(kz d).2.2.1,(kz d).2.2.2.1,(kz d).2.2.2.2.1,(kz d).2.2.2.2.2,bif(kz d).1 then d else default):=afw d _ _
theorem ye(d:A F):qe d=j4 d:=by
 unfold qe j4;rw[yi]
theorem jt{d:A F}(h:qe d=true):j4 d=true:=by rw[←ye];exact h
theorem aDd(d:A F):QI d=qc d:=by
 unfold QI qc;rw[ye,yi]
theorem aDe(d:A F):QJ d=tL d:=by
 unfold QJ tL;rw[ye,yi]
theorem aDf(d:A F):QK d=zV d:=by
 unfold QK zV;rw[ye,yi]
theorem aDg(d:A F):QL d=tM d:=by
 unfold QL tM;rw[ye,yi]
theorem hX(d:A F):QM d=tN d:=by
 unfold QM tN;rw[ye,yi]
theorem aDD(d:A F):QN d=d:=by
 unfold QN;rw[ye,yi];unfold j4
 cases decide ((d.n:Int)>3000)with
 |true=>rfl
 |false=>
  cases (kz d).1<;>rfl
def ak0:b5:=⟨[.o 0],[(.h 0 0,.ae gI)],[[U]],fun d=>⟨⟨none,[.agg [aH 11 tv (qc d),aH 12 vI (tL d),aH 2 vJ (zV d),b (tM d)],b (tN d)],[[(aB.ae gI).ab d]]⟩⟩⟩
theorem awa:dB 23 ak0:=dI Tryz.func23
 fun d J=>uB (rs:=[.agg [aH 11 tv (QI d),aH 12 vI (QJ d),aH 2 vJ (QK d),b (QL d)],b (QM d)]) (al:=[[(aB.ae gI).ab (QN d)]]) (dA ⟨.heap,[.cell 2 27,.tmp 3],[(.c 0 0,.af rm),(.c 0 1,.af gr),(.c 0 2,.af ct),(.c 0 3,a),(.t 1,a),(.h 0 0,.ae gI)],⟨[.agg (us 4 []),U],[[U]]⟩⟩ (.ad (.ad (.j ⟨13,[],[],[],.f⟩ (.ad (.cy ⟨14680077,[],[],[(.t 23,a)],some 0,true,13,[],[],fun k (s:Int)=>Du d k s,.f,fun(s:Int)=>(0≤s∧s≤(d.n:Int)),fun(s:Int)=>(toNat ((d.n:Int)-s)),none⟩ .z)) (.ad (.s (.ad (.un 3 (.s (.ad (.s (.c true .z) .z)) (.s (.ad (.s (.c true .z) .z)) (.s (.ad (.s (.c true .z) .z)) (.ad (.s (.c false .z) .z))))))) (.j ⟨140,[],[],[],.f⟩ (.ad (.uQ ⟨126100789566374028,[],[(.h 2 29,cV),(.h 2 32,ca),(.h 2 62,cV),(.h 2 65,ca),(.h 2 95,cV),(.h 2 98,ca),(.h 2 99,ca),(.h 2 100,gr),(.h 2 101,ct)],(.t 56,a)::XN [3,4,5,6,7,8,9,10,11],some 4,false,140,[],XN [3,4,5,6,7,8,9,10,11],fun k (c:Int×hv)=>qd d k c.1 (bc c.2),.f,fun(c:Int×hv)=>jR d c.1 (bc c.2),fun(c:Int×hv)=>(toNat ((d.n:Int)-c.1)),none⟩ (fun(c:Int×hv)=>(.ad (.ad (.ad (.pX [] [.own (.h 2 29) cV 3,.own (.h 2 62) cV 5,.own (.h 2 95) cV 7,.own (.h 2 32) ca 4,.own (.h 2 65) ca 6,.own (.h 2 98) ca 8,.own (.h 2 99) ca 9]))))))) (.ad (.j ⟨2188,[],[],[],.f⟩ (.ad (.cy ⟨1057810092162800527870092,[],[(.h 12 1,gr)],[(.t 79,a),(.h 13 0,.ae gr)],some 6,false,2188,[],[(.h 13 0,.ae gr)],fun k (s:Int×A a7)=>wi d k s.1 s.2,.f,fun(s:Int×A a7)=>((0≤s.1∧s.1≤(((bc (bD d)).told.n:Nat):Int))∧(s.2.n:Int)≤0+(s.1-0)),fun(s:Int×A a7)=>(toNat ((((bc (bD d)).told.n:Nat):Int)-s.1)),some fun(r:A a7)=>(r.n:Int)≤0+max ((((bc (bD d)).told.n:Nat):Int)-0) 0⟩ .z)) (.ad (.s (.ad (.un 3 (.s (.ad (.s (.c true .z) .z)) (.s (.ad (.s (.c true .z) .z)) (.s (.ad (.s (.c true .z) .z)) (.ad (.s (.c false .z) .z))))))) .z)))))))))) (let j:=bc (bD d);(decide ((d.n:Int)>3000))=false→((((0≤(0:Int)∧(0:Int)≤(d.n:Int)))∧(∀(ar:Int),let w:=decide (ar<(d.n:Int));let t:=i64.wrap (ar+1);let l:=d.at' (toNat ar);(0≤ar∧ar≤(d.n:Int))→((w=true→(((0:Int)≤ar∧ar<(d.n:Int))∧((toNat ar)<d.n)))∧(w=true→(((ld l.j l.ai l.K l.an l.p l.v l.ax l.aF l.i l.aP)!=0)=false→((0≤t∧t≤(d.n:Int))∧(toNat ((d.n:Int)-t))<(toNat ((d.n:Int)-ar))))))))∧((qe d)=true→(((jR d (0:Int) r6)∧(vm (aB.int .i64::b8) fun(c:Int×hv)=>let y:=i64.wrap (c.1+1);let x:=decide (c.1<(d.n:Int));jR d c.1 (bc c.2)→((x=true→((((0:Int)≤c.1∧c.1<(d.n:Int))∧((toNat c.1)<d.n))∧(eM (bc c.2) (d.at' (toNat c.1)))))∧(x=true→(jR d y (Iv d c.1 (bc c.2))∧(toNat ((d.n:Int)-y))<(toNat ((d.n:Int)-c.1)))))))∧(((((0≤(0:Int)∧(0:Int)≤(j.told.n:Int))∧((0:Nat):Int)≤0+((0:Int)-0)))∧(∀(i:Int) (m:A a7),let n:=i64.wrap (i+1);let q:=decide (i<(j.told.n:Int));((0≤i∧i≤(j.told.n:Int))∧(m.n:Int)≤0+(i-0))→((q=true→((((0:Int)≤i∧i<(j.told.n:Int))∧((toNat i)<j.told.n))∧(m.n+1≤549755813888)))∧((q=true→(((0≤n∧n≤(j.told.n:Int))∧(((m.n+1):Nat):Int)≤0+(n-0))∧(toNat ((j.told.n:Int)-n))<(toNat ((j.told.n:Int)-i))))∧(q=false→((m.n:Int)≤0+max ((j.told.n:Int)-0) 0))))))∧(((((Dt d).n:Nat):Int)≤0+max ((j.told.n:Int)-0) 0)→((j.a2.n≤900000)∧((1≤549755813888)∧((1+1≤549755813888)∧((1+1)+1≤549755813888)))))))))) (bK 1 (aw S_ (aw afc (aw xN (aw xP (aw S7 (aw ae2 aT)))))) (av ae0 (av aeZ bJ))) Tryz.func23 ((fun e=>⟨⟨(by have:=dQ e;have:=trivial;(try have f:=jt (by assumption));(try have h:=hQ (by assumption) (by assumption));(try have g:=hP (by assumption));omega),(fun ar H=>⟨(fun u=>⟨(by have:=dQ e;have:=aq u;have:=trivial;(try have f:=jt (by assumption));(try have h:=hQ (by assumption) (by assumption));(try have g:=hP (by assumption));omega),(by have:=dQ e;have:=aq u;have:=trivial;(try have f:=jt (by assumption));(try have h:=hQ (by assumption) (by assumption));(try have g:=hP (by assumption));omega)⟩),(fun C=>(fun D=>(by have:=dQ e;have:=aq C;have:=bE D;have:=trivial;(try have f:=jt (by assumption));(try have h:=hQ (by assumption) (by assumption));(try have g:=hP (by assumption));first|omega|(have:=N (ar+1);omega))))⟩)⟩,(fun E=>⟨⟨(by have:=dQ e;have:=trivial;(try have f:=jt (by assumption));(try have h:=hQ (by assumption) (by assumption));(try have g:=hP (by assumption));repeat first|assumption|apply sW|apply uZ|apply uY|apply k3|apply k4|apply lu|apply kt|apply lZ|apply iE|apply kJ|apply lo|apply ln|apply kO|apply kD|apply kE|apply gF|apply lq|apply me|apply ig|apply hp|apply ju|apply And.intro),((yU _ _).2 fun(c:Int×hv) I=>⟨(fun p=>⟨⟨(by have:=dQ e;have:=aq p;have:=trivial;(try have f:=jt (by assumption));(try have h:=hQ (by assumption) (by assumption));(try have g:=hP (by assumption));omega),(by have:=dQ e;have:=aq p;have:=trivial;(try have f:=jt (by assumption));(try have h:=hQ (by assumption) (by assumption));(try have g:=hP (by assumption));omega)⟩,(by have:=dQ e;have:=aq p;have:=trivial;(try have f:=jt (by assumption));(try have h:=hQ (by assumption) (by assumption));(try have g:=hP (by assumption));repeat first|assumption|apply sW|apply uZ|apply uY|apply k3|apply k4|apply lu|apply kt|apply lZ|apply iE|apply kJ|apply lo|apply ln|apply kO|apply kD|apply kE|apply gF|apply lq|apply me|apply ig|apply hp|apply ju|apply And.intro)⟩),(fun v=>⟨(by have:=dQ e;have:=aq v;have:=trivial;(try have f:=jt (by assumption));(try have h:=hQ (by assumption) (by assumption));(try have g:=hP (by assumption));repeat first|assumption|apply sW|apply uZ|apply uY|apply k3|apply k4|apply lu|apply kt|apply lZ|apply iE|apply kJ|apply lo|apply ln|apply kO|apply kD|apply kE|apply gF|apply lq|apply me|apply ig|apply hp|apply ju|apply And.intro),(by have:=dQ e;have:=aq v;have:=trivial;(try have f:=jt (by assumption));(try have h:=hQ (by assumption) (by assumption));(try have g:=hP (by assumption));first|omega|(have:=N (c.1+1);omega))⟩)⟩)⟩,⟨⟨(by have:=dQ e;have:=trivial;(try have f:=jt (by assumption));(try have h:=hQ (by assumption) (by assumption));(try have g:=hP (by assumption));omega),(fun i m G=>⟨(fun o=>⟨⟨(by have:=dQ e;have:=aq o;have:=trivial;(try have f:=jt (by assumption));(try have h:=hQ (by assumption) (by assumption));(try have g:=hP (by assumption));omega),(by have:=dQ e;have:=aq o;have:=trivial;(try have f:=jt (by assumption));(try have h:=hQ (by assumption) (by assumption));(try have g:=hP (by assumption));omega)⟩,(by have:=dQ e;have:=aq o;have:=trivial;(try have f:=jt (by assumption));(try have h:=hQ (by assumption) (by assumption));(try have g:=hP (by assumption));omega)⟩),⟨(fun z=>(by have:=dQ e;have:=aq z;have:=trivial;(try have f:=jt (by assumption));(try have h:=hQ (by assumption) (by assumption));(try have g:=hP (by assumption));first|omega|(have:=N (i+1);omega))),(fun B=>(by have:=dQ e;have:=dQ B;have:=trivial;(try have f:=jt (by assumption));(try have h:=hQ (by assumption) (by assumption));(try have g:=hP (by assumption));omega))⟩⟩)⟩,(fun F=>⟨(by have:=dQ e;have:=trivial;(try have f:=jt (by assumption));(try have h:=hQ (by assumption) (by assumption));(try have g:=hP (by assumption));omega),⟨(by have:=dQ e;have:=trivial;(try have f:=jt (by assumption));(try have h:=hQ (by assumption) (by assumption));(try have g:=hP (by assumption));omega),⟨(by have:=dQ e;have:=trivial;(try have f:=jt (by assumption));(try have h:=hQ (by assumption) (by assumption));(try have g:=hP (by assumption));omega),(by have:=dQ e;have:=trivial;(try have f:=jt (by assumption));(try have h:=hQ (by assumption) (by assumption));(try have g:=hP (by assumption));omega)⟩⟩⟩)⟩⟩)⟩))) (by rw[aDd,aDe,aDf,aDg,hX];rfl) (by rw[aDD];rfl)
end
section
variable(d:A F)
def acD:Bool:=(cond ((tN d)==0) (((qc d).n:Int)==3) false)
def qs:A dg:=(qc d)
def aqT:A a7:=(tL d)
def aqU:A aJ:=(zV d)
def aqV:Int:=(tM d)
def wZ:Bool:=(acD d)
def alj:b5:=⟨[.o 0],[(.h 0 0,.ae gI)],[[U]],fun d=>⟨⟨none,[.agg [aH 11 tv (qs d),aH 12 vI (aqT d),aH 2 vJ (aqU d),b (aqV d)],.bool (wZ d)],[[(aB.ae gI).ab d]]⟩⟩⟩
theorem awp:dB 12 alj:=dI Tryz.func12
 fun d _=>dA ⟨.heap,[.cell 2 27,.tmp 3],[(.c 0 0,.af rm),(.c 0 1,.af gr),(.c 0 2,.af ct),(.c 0 3,a),(.t 1,y),(.h 0 0,.ae gI)],⟨[.agg (us 4 []),U],[[U]]⟩⟩ (.ad (.ad (.j ⟨12,[.b 2],[(.t 3,y)],[],.f⟩ .z .z))) True (bK 1 aT (av awa bJ)) Tryz.func12 (trivial)
end
theorem aDx{C:ak}{a:F}(h:a.j=9):cw C a=x8 (toNat a.ai) C a:=by
 unfold cw;simp only[h,ak.bV];rfl
theorem aAL(C:ak){i:Nat}(a:i<3)(n:H)(E:A O)(B:A a7)(G:A aJ):(C.put i n E B G).Z i=n:=by
 match i,a with
 |0,_=>rfl
 |1,_=>rfl
 |2,_=>rfl
theorem anP{i:Nat}{C:ak}{a:F} :x8 i C a=C.put i (H.bif (C.Z i).up (lT a.K (C.Z i)) (C.Z i)) C.s C.told C.a2:=by
 unfold x8 o6 qf
 congr 1
 cases (C.Z i).up<;>rfl
theorem an_{C:ak}{a:F}(h:a.j=9){i:Nat}(b:i<3)(e:toNat a.ai=i):gH (eF ((cw C a).Z i)) ((cw C a).Z i):=by
 refine⟨?_,rfl⟩;rw[aDx h,e,anP,aAL C b,H.bV]
 cases u:(C.Z i).up
 ·exact u
 ·rfl
theorem amz{i p:Int}(a:0≤i∧i<3)(b:0≤p∧p≤400000):e6 ⟨9,i,p,0,0,0,⟨#[]⟩,⟨#[]⟩,⟨#[]⟩,0⟩:=hD (k:=9) (n:=i) (p:=p) (by decide) (fun _=>a) (fun z=>by cases z) (fun _=>b) (fun z=>by cases z)
theorem Vp(C:ak){i:Nat}(a:i<3):(views C).at' i=eF (C.Z i):=by
 match i,a with
 |0,_=>rfl
 |1,_=>rfl
 |2,_=>rfl
theorem ag_{a:A F}(h:ew a):wZ a=true:=by
 unfold wZ acD;rw[ahu h,L6 h];rfl
theorem FY{a:A F}(h:ew a):qs a=views (cg a.B):=L6 h
def yK(v:dg)(i:Nat)(s:A F):Prop:=ew s∧gH v ((cg s.B).Z i)
theorem an8{v:dg}{i:Nat}{s:A F}(h:yK v i s)(d:s.n<3000){a:F}(b:e6 a)(c:a.j≠10):yK v i (A.app s (A.lit [a])):=by
 refine⟨⟨by show s.n+1≤3000;omega,Oy h.1.2 b⟩,?_⟩;rw[oI,oJ,Cp];exact an9 (oV h.1) h.2 c
section
variable(d:A dE)(g:A dE)(u:Int)
def wX(e:Int)(m:A F):A F:=(cond (((az g 30).at' (toNat e)).j !=10) (A.app m (A.lit ([((az g 30).at' (toNat e))]:List F))) m)
def Ek(g:A dE):Nat→Int→A F→A F
 |0,_,_=>default
 |k+1,e,m=>(cond (decide (e<(((az g 30).n:Nat):Int))) (Ek g k (i64.wrap (e+1)) (wX g e m)) m)
def wY:A F:=Ek g ((toNat ((((az g 30).n:Nat):Int)-0))+1) 0 (bq (az d 50) (A.lit ([(⟨9,(C u 3),0,0,0,0,⟨#[]⟩,⟨#[]⟩,⟨#[]⟩,0⟩:F)]:List F)))
def acw:Bool:=(cond (wZ (bq (az d 50) (A.lit ([(⟨9,(C u 3),0,0,0,0,⟨#[]⟩,⟨#[]⟩,⟨#[]⟩,0⟩:F)]:List F)))) (cond (wZ (wY d g u)) (cond (!((qs (wY d g u)).at' (toNat (C u 3))).j) true false) false) false)
def I_:Bool:=(acw d g u)
theorem ayS(g:A dE)(v:Int)(s:A F):(wX g v s).n≤s.n+1:=by
 unfold wX
 cases (((az g 30).at' (toNat v)).j !=10)with
 |true=>exact bx _
 |false=>exact Nat.le_succ _
abbrev Xm(d:A dE)(u:Int):A F:=bq (az d 50) (A.lit ([(⟨9,(C u 3),0,0,0,0,⟨#[]⟩,⟨#[]⟩,⟨#[]⟩,0⟩:F)]:List F))
theorem X2{g:A dE}(a: ∀q,q<(az g 30).n→e6 ((az g 30).at' q))(b:(az g 30).n≤30){w:dg}{i:Nat} : ∀(k:Nat) (v:Int) (s:A F),0≤v→v≤((az g 30).n:Int)→toNat (((az g 30).n:Int)-v)<k→(s.n:Int)≤51+v→yK w i s→yK w i (Ek g k v s)
 |0,_,_,_,_,h,_,_=>absurd h (eH _)
 |k+1,v,s,d,f,j,l,h=>by
  rw[Ek]
  by_cases c:v<((az g 30).n:Int)
  ·rw[bT c,aN,N (v+1)];have m:yK w i (wX g v s)∧((wX g v s).n:Int)≤51+(v+1):=by
    unfold wX
    cases e:(((az g 30).at' (toNat v)).j !=10)with
    |true=>exact⟨an8 h (by omega) (a _ (by omega)) (fun z=>by rw[z]at e;cases e),by show((s.n+1:Nat):Int)≤_;omega⟩
    |false=>exact⟨h,by show(s.n:Int)≤_;omega⟩
   exact X2 a b k (v+1) _ (by omega) (by omega) (by omega) m.2 m.1
  ·rw[bI c];exact h
theorem O6{d g:A dE}{u:Int}(h:dJ d)(i:dJ g)(j:dD u):(0≤C u 3∧C u 3<3)∧(az d 50).n≤50∧(az g 30).n≤30∧ew (Xm d u)∧yK (eF ((cg (Xm d u).B).Z (toNat (C u 3)))) (toNat (C u 3)) (wY d g u):=by
 have a:0≤C u 3∧C u 3<3:=iT j (by decide);have b:=Ou (g:=50) h (by decide);have c:=Ou (g:=30) i (by decide);have k:(az d 50).n≤50:=by have:=b.1;omega
 have e:(az g 30).n≤30:=by have:=c.1;omega
 have l:ew (az d 50):=⟨by omega,b.2⟩;have f:=sP l (by omega) (amz (p:=0) a (by decide));refine⟨a,k,e,f,?_⟩;refine X2 c.2 e _ 0 _ (dp _) (by omega) (by omega) ?_ ⟨f,?_⟩
 ·rw[kL];show(((az d 50).n+1:Nat):Int)≤51+0;omega
 ·rw[rJ];exact an_ rfl (by omega) rfl
theorem oq{d g:A dE}{u:Int}(h:dJ d)(i:dJ g)(j:dD u):(0≤C u 3∧C u 3<3)∧(az d 50).n≤50∧(az g 30).n≤30∧(bq (az d 50) (A.lit ([(⟨9,(C u 3),0,0,0,0,⟨#[]⟩,⟨#[]⟩,⟨#[]⟩,0⟩:F)]:List F))).n≤51∧
  (qs (bq (az d 50) (A.lit ([(⟨9,(C u 3),0,0,0,0,⟨#[]⟩,⟨#[]⟩,⟨#[]⟩,0⟩:F)]:List F)))).n=3∧(qs (wY d g u)).n=3:=by
 obtain⟨a,b,c,f,e⟩:=O6 h i j;refine⟨a,b,c,?_,?_,?_⟩
 ·rw[kL];show(az d 50).n+1≤51;omega
 ·rw[FY f];rfl
 ·rw[FY e.1];rfl
theorem nX{d g:A dE}{u:Int}(c:dJ d)(f:dJ g)(h:dD u):(qs (bq (az d 50) (A.lit ([(⟨9,(C u 3),0,0,0,0,⟨#[]⟩,⟨#[]⟩,⟨#[]⟩,0⟩:F)]:List F)))).at' (toNat (C u 3))=(qs (wY d g u)).at' (toNat (C u 3)):=by
 obtain⟨a,_,_,b,e⟩:=O6 c f h;rw[FY b,FY e.1,Vp _ (by omega),Vp _ (by omega)];exact e.2.2.symm
def alc:a6:=⟨[.v (.af pK),.v (.af pK),.v a],fun d g (u:Int)=>⟨⟨some (dJ d∧dJ g∧dD u),.bool (I_ d g u)⟩⟩⟩
theorem aAi:oF 6 alc:=
 fun d M _ g O _ (u:Int) G=>bf ⟨.pure,[.tmp 6],[(.t 0,y)],⟨[U],[]⟩⟩ (.ad (.ad (.ad (.ad (.j ⟨1984,[],[],[],.f⟩ (.ad (.cy ⟨3758098368,[.b 0,.b 1],[],[(.t 31,a),(.h 2 0,.ae gI)],some 0,false,1984,[.b 4],[(.h 2 0,.ae gI)],fun k (s:Int×A F)=>Ek g k s.1 s.2,.f,fun(s:Int×A F)=>((0≤s.1∧s.1≤(((az g 30).n:Nat):Int))∧(s.2.n:Int)≤(bq (az d 50) (A.lit ([(⟨9,(C u 3),0,0,0,0,⟨#[]⟩,⟨#[]⟩,⟨#[]⟩,0⟩:F)]:List F))).n+(s.1-0)),fun(s:Int×A F)=>(toNat ((((az g 30).n:Nat):Int)-s.1)),some fun(r:A F)=>(r.n:Int)≤(bq (az d 50) (A.lit ([(⟨9,(C u 3),0,0,0,0,⟨#[]⟩,⟨#[]⟩,⟨#[]⟩,0⟩:F)]:List F))).n+max ((((az g 30).n:Nat):Int)-0) 0⟩ (.ad (.ad (.j ⟨274341042112,[.b 6],[(.h 2 0,.ae gI)],[],.f⟩ .z .z))))) (.ad (.j ⟨64,[.b 2,.b 3,.b 4],[(.t 6,y)],[],.f⟩ .z .z))))))) (let w:=wY d g u;let o:=C u 3;let j:=az g 30;let t:=qs w;let x:=toNat o;let h:=t.at' x;let n:=bq (az d 50) (A.lit ([(⟨9,o,0,0,0,0,⟨#[]⟩,⟨#[]⟩,⟨#[]⟩,0⟩:F)]:List F));let z:=qs n;let l:=z.at' x;(0<(3:Int))∧(((((az d 50).n:Nat):Int)+1≤549755813888)∧(((((0≤(0:Int)∧(0:Int)≤(j.n:Int))∧(n.n:Int)≤n.n+((0:Int)-0)))∧(∀(e:Int) (m:A F),let v:=decide (e<(j.n:Int));let p:=i64.wrap (e+1);((0≤e∧e≤(j.n:Int))∧(m.n:Int)≤n.n+(e-0))→((v=true→((((0:Int)≤e∧e<(j.n:Int))∧((toNat e)<j.n))∧(((j.at' (toNat e)).j !=10)=true→(m.n+1≤549755813888))))∧((v=true→(((0≤p∧p≤(j.n:Int))∧(((wX g e m).n:Nat):Int)≤n.n+(p-0))∧(toNat ((j.n:Int)-p))<(toNat ((j.n:Int)-e))))∧(v=false→((m.n:Int)≤n.n+max ((j.n:Int)-0) 0))))))∧(((w.n:Int)≤n.n+max ((j.n:Int)-0) 0)→((wZ n)=true→((wZ w)=true→(((0:Int)≤o∧o<(t.n:Int))∧((!h.j)=true→(((0:Int)≤o∧o<(z.n:Int))∧(((0:Int)≤o∧o<(t.n:Int))∧((⟨l.j,l.ai,l.K,l.an,l.p,l.v,l.ax,l.aF,l.i,l.aP,l.cG⟩:dg)=(⟨h.j,h.ai,h.K,h.an,h.p,h.v,h.ax,h.aF,h.i,h.aP,h.cG⟩:dg)))))))))))) (bK 0 (aw xS (aw xT (aw uL (aw aws aT)))) (av awp bJ)) Tryz.func6 (have⟨b,c,f⟩:=G;⟨(by have:=oq b c f;(try have i:=nX b c f);omega),⟨(by have:=oq b c f;(try have i:=nX b c f);have:=gE d 50;omega),⟨⟨(by have:=oq b c f;(try have i:=nX b c f);have:(A.lit ([(⟨9,(C u 3),0,0,0,0,⟨#[]⟩,⟨#[]⟩,⟨#[]⟩,0⟩:F)]:List F)).n=1:=rfl;have:=gE g 30;have:=kL (az d 50) (A.lit ([(⟨9,(C u 3),0,0,0,0,⟨#[]⟩,⟨#[]⟩,⟨#[]⟩,0⟩:F)]:List F));have:=gE d 50;(try simp only[A.jd,A.ic,A.ll,A.pw,A.pD,A.rG,A.oW,l3,fr,hs]);omega),(fun e m L=>⟨(fun q=>⟨⟨(by have:=aq q;have:=oq b c f;(try have i:=nX b c f);have:(A.lit ([(⟨9,(C u 3),0,0,0,0,⟨#[]⟩,⟨#[]⟩,⟨#[]⟩,0⟩:F)]:List F)).n=1:=rfl;have:=gE g 30;have:=kL (az d 50) (A.lit ([(⟨9,(C u 3),0,0,0,0,⟨#[]⟩,⟨#[]⟩,⟨#[]⟩,0⟩:F)]:List F));have:=gE d 50;omega),(by have:=aq q;have:=oq b c f;(try have i:=nX b c f);have:(A.lit ([(⟨9,(C u 3),0,0,0,0,⟨#[]⟩,⟨#[]⟩,⟨#[]⟩,0⟩:F)]:List F)).n=1:=rfl;have:=gE g 30;have:=kL (az d 50) (A.lit ([(⟨9,(C u 3),0,0,0,0,⟨#[]⟩,⟨#[]⟩,⟨#[]⟩,0⟩:F)]:List F));have:=gE d 50;omega)⟩,(fun B=>(by have:=aq q;have:=bne_iff_ne.1 B;have:=oq b c f;(try have i:=nX b c f);have:(A.lit ([(⟨9,(C u 3),0,0,0,0,⟨#[]⟩,⟨#[]⟩,⟨#[]⟩,0⟩:F)]:List F)).n=1:=rfl;have:=gE g 30;have:=kL (az d 50) (A.lit ([(⟨9,(C u 3),0,0,0,0,⟨#[]⟩,⟨#[]⟩,⟨#[]⟩,0⟩:F)]:List F));have:=gE d 50;omega))⟩),⟨(fun D=>(by have:=aq D;have:=oq b c f;(try have i:=nX b c f);have:(A.lit ([(⟨9,(C u 3),0,0,0,0,⟨#[]⟩,⟨#[]⟩,⟨#[]⟩,0⟩:F)]:List F)).n=1:=rfl;have:=gE g 30;have:=ayS g e m;have:=kL (az d 50) (A.lit ([(⟨9,(C u 3),0,0,0,0,⟨#[]⟩,⟨#[]⟩,⟨#[]⟩,0⟩:F)]:List F));have:=gE d 50;(try simp only[A.jd,A.ic,A.ll,A.pw,A.pD,A.rG,A.oW,l3,fr,hs]);first|omega|(have:=N (e+1);omega))),(fun E=>(by have:=dQ E;have:=oq b c f;(try have i:=nX b c f);have:(A.lit ([(⟨9,(C u 3),0,0,0,0,⟨#[]⟩,⟨#[]⟩,⟨#[]⟩,0⟩:F)]:List F)).n=1:=rfl;have:=kL (az d 50) (A.lit ([(⟨9,(C u 3),0,0,0,0,⟨#[]⟩,⟨#[]⟩,⟨#[]⟩,0⟩:F)]:List F));have:=gE d 50;have:=gE g 30;(try simp only[A.jd,A.ic,A.ll,A.pw,A.pD,A.rG,A.oW,l3,fr,hs]);omega))⟩⟩)⟩,(fun K=>(fun H=>(fun I=>⟨(by have:=oq b c f;(try have i:=nX b c f);omega),(fun J=>⟨(by have:=oq b c f;(try have i:=nX b c f);have:(A.lit ([(⟨9,(C u 3),0,0,0,0,⟨#[]⟩,⟨#[]⟩,⟨#[]⟩,0⟩:F)]:List F)).n=1:=rfl;have:=kL (az d 50) (A.lit ([(⟨9,(C u 3),0,0,0,0,⟨#[]⟩,⟨#[]⟩,⟨#[]⟩,0⟩:F)]:List F));have:=gE d 50;(try simp only[A.jd,A.ic,A.ll,A.pw,A.pD,A.rG,A.oW,l3,fr,hs]);omega),⟨(by have:=oq b c f;(try have i:=nX b c f);omega),(by have:=oq b c f;(try have i:=nX b c f);have:(A.lit ([(⟨9,(C u 3),0,0,0,0,⟨#[]⟩,⟨#[]⟩,⟨#[]⟩,0⟩:F)]:List F)).n=1:=rfl;have:=kL (az d 50) (A.lit ([(⟨9,(C u 3),0,0,0,0,⟨#[]⟩,⟨#[]⟩,⟨#[]⟩,0⟩:F)]:List F));have:=gE d 50;(try simp only[A.jd,A.ic,A.ll,A.pw,A.pD,A.rG,A.oW,l3,fr,hs]);omega)⟩⟩)⟩)))⟩⟩⟩)
end
theorem axu(d g:A dE)(u:Int)(_:Canon d)(_:d.n≤1048576)(c:dJ d)(_:Canon g)(_:g.n≤1048576)(f:dJ g)(h:dD u):I_ d g u=true:=by
 obtain⟨a,_,_,b,e⟩:=O6 c f h;have v:((qs (wY d g u)).at' (toNat (C u 3))).j=false:=by
  rw[FY e.1,Vp _ (by omega)];exact e.2.1
 unfold I_ acw;rw[ag_ b,ag_ e.1,v];rfl
end Go.Proofs.YtfmgjpcmcjjoiaaGreatDoor
namespace Go.Proofs.YtfmgjpcmcjjoiaaGreatDoor
open Go Go.ChangeAt Go.ChangeShapes Go.RowKit Go.WideShapes Go.ah
theorem g2:Tryz.prog.globalNamed "rostrum/client.nothing" =some 0:=by kernel_rfl
theorem nj:(Tryz.prog.globals[0]?).map (·.type)=some 34:=by kernel_rfl
theorem ny{W:World}(C:laidMetH Tryz.prog [("rostrum/client.nothing",Rows.laid_rostrum_client_nothing)] W):W.var? Tryz.prog "rostrum/client.nothing" =some #[.int .i64 22,.string ⟨#[]⟩,.string ⟨#[]⟩,.string ⟨#[]⟩,.int .i64 0]:=by
 have C:laidMet Tryz.prog [("rostrum/client.nothing",Rows.laid_rostrum_client_nothing)] W:=C
 obtain⟨V,⟨T,X,cs,S,p,q,O,P,Q,N,_,_⟩,_⟩:=C;obtain rfl:=eG (g2.symm.trans O);obtain rfl:=eG (nj.symm.trans P);obtain⟨G,m,_,k,D,U,L⟩:=DataW.trod_struct Tryz.underlying34 N;have t:=congrArg Prod.fst k;simp only[Rows.laid_rostrum_client_nothing,DataW.agg.injEq]at t;have M:Tryz.prog.cellsOf 34=5:=by kernel_rfl
 rw[M]at D;have I: ∀(i:Nat) (f:Field) (x:DataW Unit),(Tryz.prog.underlying 34).map (fun s=>match s with| .struct w=>w[i]? |_=>none)=some (some f)→(G.map (·.1))[i]? =some x→ ∃y,DataW.trod (fun _=>()) Tryz.prog W 0 (fun _=>true) false m f.type ((cs.toList.drop f.offset).take (Tryz.prog.cellsOf f.type))=some y∧y.1=x:=by
  intro i f x j k;rw[Tryz.underlying34]at j;have j:=eG j;have:=L i f j;rw[fq,jQ]at k;obtain⟨y,o,rfl⟩:=k;exact⟨y,this.trans o,rfl⟩
 have J:Tryz.prog.cellsOf 3=1:=by kernel_rfl
 have K:Tryz.prog.cellsOf 9=1:=by kernel_rfl
 have H: ∀(i:Nat) (f:Field) (n:Int),f.type=3→f.offset=i→(Tryz.prog.underlying 34).map (fun s=>match s with| .struct w=>w[i]? |_=>none)=some (some f)→(G.map (·.1))[i]? =some (.lit (.int .i64 n))→cs.toList[i]? =some (.int .i64 n):=by
  intro i f n A B j k;obtain⟨y,o,v⟩:=I i f _ j k;rw[A,B,J]at o;obtain⟨z,E,rfl,_⟩:=DataW.trod_int (show Tryz.prog.underlying 3=some (.int .i64) by kernel_rfl) o;simp only[DataW.lit.injEq,Lit.int.injEq,true_and]at v;subst v;have:=congrArg (·[0]?) E;simpa[lv,ht]using this
 have F: ∀(i:Nat) (f:Field),f.type=9→f.offset=i→(Tryz.prog.underlying 34).map (fun s=>match s with| .struct w=>w[i]? |_=>none)=some (some f)→(G.map (·.1))[i]? =some (.lit (.string []))→cs.toList[i]? =some (.string ⟨#[]⟩):=by
  intro i f A B j k;obtain⟨y,o,v⟩:=I i f _ j k;rw[A,B,K]at o;obtain⟨z,E,rfl,_⟩:=DataW.trod_string (show Tryz.prog.underlying 9=some .string by kernel_rfl) o;simp only[DataW.lit.injEq,Lit.string.injEq]at v;have R:z=⟨#[]⟩:=by
   obtain⟨⟨l⟩⟩:=z;simp only at v;subst v;rfl
  subst R;have:=congrArg (·[0]?) E;simpa[lv,ht]using this
 have d:=H 0 _ 22 rfl rfl (by rw[Tryz.underlying34];rfl) (by rw[←t];rfl);have g:=F 1 _ rfl rfl (by rw[Tryz.underlying34];rfl) (by rw[←t];rfl);have u:=F 2 _ rfl rfl (by rw[Tryz.underlying34];rfl) (by rw[←t];rfl);have h:=F 3 _ rfl rfl (by rw[Tryz.underlying34];rfl) (by rw[←t];rfl);have r:=H 4 _ 0 rfl rfl (by rw[Tryz.underlying34];rfl) (by rw[←t];rfl);rw[Q];obtain⟨l⟩:=cs;simp only at D d g u h r
 match l,D with
 |[a,b,c,s,e],_=>
  simp at d g u h r;subst d g u h r;rfl
theorem nz{W:World}(h:laidMetH Tryz.prog [("rostrum/client.nothing",Rows.laid_rostrum_client_nothing)] W):oL W (fun y=>y<W.heap.size):=by
 have b:=ny h;refine⟨fun _ h=>h,fun g=> ?_⟩
 cases g with
 |succ g=>exact .inl rfl
 |zero=>
  refine .inr ?_;have c:=fun i=>World.var?_cell g2 b i;have d:0<W.heap.size:=by
   have f:=c 0;rcases nL W.heap.size with e|e
   ·have:W.heap[0]? =none:=rk (by omega);unfold World.var? at b;rw[g2]at b;simp only[Option.bind_some,this]at b
    cases b
   ·exact e
  refine aR.ref _ 0 0 (fun j=>([.int .i64 22,.str ⟨#[]⟩,.str ⟨#[]⟩,.str ⟨#[]⟩,.int .i64 0]:List J).getD j .undef) (fun j=>([.int .i64 22,.string ⟨#[]⟩,.string ⟨#[]⟩,.string ⟨#[]⟩,.int .i64 0]:List Value).getD j undef) d ?_ ?_ ?_
  ·intro j a;have a:j<5:=a
   match j,a with
   |0,_=>rfl
   |1,_=>rfl
   |2,_=>rfl
   |3,_=>rfl
   |4,_=>rfl
  ·intro j a;have a:j<5:=a;rw[cN,c j]
   match j,a with
   |0,_=>rfl
   |1,_=>rfl
   |2,_=>rfl
   |3,_=>rfl
   |4,_=>rfl
  ·intro j a;have a:j<5:=a
   match j,a with
   |0,_=>exact .int _ _
   |1,_=>exact .str _ (cA _)
   |2,_=>exact .str _ (cA _)
   |3,_=>exact .str _ (cA _)
   |4,_=>exact .int _ _
theorem aAB:q2 Tryz.prog 1048576 12 [22,22,3] fun S=>cY Tryz.prog 6 S (.bool true):=by
 refine Eq.mpr (β:= ∀(c:Nat) (a:Nat→List J),c≤1048576→(∀i,c≤i→a i=[.int .i64 0,.int .i64 0,.int .i64 0,.int .i64 0,.int .i64 0,.int .i64 0,.int .i64 0,.str ⟨#[]⟩])→(∀i,i<c→ ∀K:List J→Prop,(∀d:Int,(Lit.int .i64 d).wf=true→ ∀g:Int,(Lit.int .i64 g).wf=true→ ∀u:Int,(Lit.int .i64 u).wf=true→ ∀h:Int,(Lit.int .i64 h).wf=true→ ∀r:Int,(Lit.int .i64 r).wf=true→ ∀o:Int,(Lit.int .i64 o).wf=true→ ∀q:Int,(Lit.int .i64 q).wf=true→ ∀t:ByteArray,t.size≤1048576→K [.int .i64 d,.int .i64 g,.int .i64 u,.int .i64 h,.int .i64 r,.int .i64 o,.int .i64 q,.str t])→K (a i))→ ∀(e:Nat) (b:Nat→List J),e≤1048576→(∀i,e≤i→b i=[.int .i64 0,.int .i64 0,.int .i64 0,.int .i64 0,.int .i64 0,.int .i64 0,.int .i64 0,.str ⟨#[]⟩])→(∀i,i<e→ ∀K:List J→Prop,(∀d:Int,(Lit.int .i64 d).wf=true→ ∀g:Int,(Lit.int .i64 g).wf=true→ ∀u:Int,(Lit.int .i64 u).wf=true→ ∀h:Int,(Lit.int .i64 h).wf=true→ ∀r:Int,(Lit.int .i64 r).wf=true→ ∀o:Int,(Lit.int .i64 o).wf=true→ ∀q:Int,(Lit.int .i64 q).wf=true→ ∀t:ByteArray,t.size≤1048576→K [.int .i64 d,.int .i64 g,.int .i64 u,.int .i64 h,.int .i64 r,.int .i64 o,.int .i64 q,.str t])→K (b i))→ ∀u:Int,(Lit.int .i64 u).wf=true→cY Tryz.prog 6 [.arr 8 c a,.arr 8 e b,.int .i64 u] (.bool true)) (by kernel_rfl) ?_;intro c a L H x e b M I y u k;have R:=de k;have N: ∀i,i<c→a i=e_ (bZ (a i)):=fun i f=>x i f (fun l=>l=e_ (bZ l)) (fun _ _ _ _ _ _ _ _ _ _ _ _ _ _ _ _=>rfl);have E: ∀i,i<c→a i=e_ (bZ (a i)):=fun i f=>N i f;have C:Canon (cD bZ (.arr 8 c a)):=fun i f=>by
  show bZ (a i)=default;rw[H i f];rfl
 have A:dJ (cD bZ (.arr 8 c a)):=⟨(by show c≤_;omega),fun j m=>by
  exact x j m (fun l=>pM (bZ l)) (fun d n g p u k h s r O o P q v t Q=>⟨de n,de p,de k,de s,de v⟩)⟩
 have q1: ∀i,i<e→b i=e_ (bZ (b i)):=fun i f=>y i f (fun l=>l=e_ (bZ l)) (fun _ _ _ _ _ _ _ _ _ _ _ _ _ _ _ _=>rfl);have F: ∀i,i<e→b i=e_ (bZ (b i)):=fun i f=>q1 i f;have D:Canon (cD bZ (.arr 8 e b)):=fun i f=>by
  show bZ (b i)=default;rw[I i f];rfl
 have B:dJ (cD bZ (.arr 8 e b)):=⟨(by show e≤_;omega),fun j m=>by
  exact y j m (fun l=>pM (bZ l)) (fun d n g p u k h s r O o P q v t Q=>⟨de n,de p,de k,de s,de v⟩)⟩
 have G:cY Tryz.prog 6 [aH 8 e_ (cD bZ (.arr 8 c a)),aH 8 e_ (cD bZ (.arr 8 e b)),.int .i64 u] (.bool (I_ (cD bZ (.arr 8 c a)) (cD bZ (.arr 8 e b)) u)):=cY.jz fun z=>aAi (cD bZ (.arr 8 c a)) (by show _≤_;simp only[cD];omega) z.1 (cD bZ (.arr 8 e b)) (by show _≤_;simp only[cD];omega) z.2.1 u ⟨A,B,R⟩;have w:=G.u9 (fo (u0 rfl E) (fo (u0 rfl F) (fo rB xV)));rw[axu (cD bZ (.arr 8 c a)) (cD bZ (.arr 8 e b)) u C L A D M B (de k)]at w;exact w
def g4(a:Os):World:=
 {World.holding Tryz.prog a ⟨#[],#[],[]⟩with heap:=(World.holding Tryz.prog a ⟨#[],#[],[]⟩).heap.modify 0 fun
   | .cells _ t frozen=> .cells #[.int .i64 22,.string ⟨#[]⟩,.string ⟨#[]⟩,.string ⟨#[]⟩,.int .i64 0] t frozen
   |o=>o}
theorem nu(a:Os):laidMet Tryz.prog Rows.topDownUptoRow.laid ((g4 a).forCall (fun _ _=>0) ⟨#[],#[.slice none 0 0,.slice none 0 0,.int .i64 0],[]⟩).memory:=
 laidMet_of_run' 8 (by kernel_rfl) (by kernel_rfl)
theorem nw(a:Os){H:Type}(enc:TypeId×Value→H): ∃b,DataW.whole enc Tryz.prog ((g4 a).forCall (fun _ _=>0) ⟨#[],#[.slice none 0 0,.slice none 0 0,.int .i64 0],[]⟩).memory Tryz.f6.params.toList Rows.topDownSpec.vars false (#[.slice none 0 0,.slice none 0 0,.int .i64 0]:Array Value).toList 8=some ([.nil,.nil,.lit (.int .i64 0)],[],b):=
 ⟨[],by kernel_rfl⟩
theorem aCw(a:Os)(q:a.Started)(H:Type)(enc:TypeId×Value→H)(F:Stop.Interp):
  ReturnsInHanded {} Tryz.checked a 6 .any ((Rows.OpenSpec.upto Rows.topDownSpec).preRow enc Tryz.prog Tryz.f6 Rows.topDownUptoRow.domain false Rows.topDownUptoRow.laid) (((Rows.OpenSpec.upto Rows.topDownSpec).at F).post enc Tryz.prog Tryz.f6 false true false false):=by
 obtain⟨u,p⟩:=nw a enc;refine returnsInHanded_of_row (C:=Tryz.checked) (s:=Rows.OpenSpec.upto Rows.topDownSpec) Tryz.own q (by kernel_rfl) Tryz.func6
  (witness_row_at (enc:=enc) (C:=Tryz.checked) false (g4 a) #[.slice none 0 0,.slice none 0 0,.int .i64 0] rfl (by kernel_rfl) (by kernel_rfl) (by kernel_rfl)
   (OpenSpec.preRow_of_cond 8 p (by kernel_rfl) (fun k m=>by cases m;kernel_rfl) (by kernel_rfl) (nu a))) ?_
 intro W base c b f e o i _ j _ g _ _;exact xW (P:=Tryz.prog) (fn:=Tryz.f6) (s:=Rows.topDownSpec) (n:=12) (B:=1048576) (fx:=Rows.uptoBulk) (eV:=4) (bh:=[22,22,3]) (by decide) (vp H) rfl mH (by kernel_rfl) (by kernel_rfl) rfl (by kernel_rfl) rfl (fun b h=>by
  match b,h with
  |[r,t,d3],_=>rfl) aAB W base c b f e o i (fun d l=>vq (j _ rfl) d (by simp [l])) (nz g)
theorem auz:joinedFacts Tryz.prog 6 Tryz.f6 Rows.topDownSpec Rows.topDownUptoRow=true:=
 xM (by kernel_rfl) mH xJ (by kernel_rfl) (by kernel_rfl) rfl xK rfl xL (by kernel_rfl) (by kernel_rfl) (by kernel_rfl) (by kernel_rfl) (by kernel_rfl) (by kernel_rfl) (by kernel_rfl) (by kernel_rfl) (by kernel_rfl)
  (by kernel_rfl) (by kernel_rfl) (by kernel_rfl) (by kernel_rfl) (by rw[xE];rfl) rfl xF xG (by rw[xH];rfl) (by rw[xI];rfl) (by kernel_rfl) (by kernel_rfl) (by kernel_rfl) (by kernel_rfl)
theorem aCx:Rows.TopDownUptoSaid:=
 OpenClaim.holds_of_cond 6 Tryz.f6 rfl rfl rfl rfl rfl rfl rfl ⟨rfl,rfl,rfl,rfl,rfl⟩ rfl rfl rfl rfl rfl (by kernel_rfl) Tryz.func6 auz
  (aq (by kernel_rfl)) (by unfold Func.isWrapper;first|(rw[bF (by decide+kernel)];kernel_rfl)|(rw[bH (by decide+kernel)];exact⟨rfl,rfl⟩))
  (fun a b H enc _ F=>by rw[OpenClaim.pre_eq_preRow];exact aCw a b H enc F)
theorem nv(f:FuncId)(b:Func)(c:Tryz.pinned.checked.prog.funcNamed "rostrum/rostrumtop.TopDown" =some f)(d:Tryz.pinned.checked.prog.funcs[f]? =some b):
  false=Tryz.pinned.checked.prog.looks []∧ ∀(j:Nat) t,b.params[j]? =some t→Tryz.pinned.checked.prog.wantsStandIn t=false:=by
 obtain rfl:f=6:=eG ((show Tryz.prog.funcNamed "rostrum/rostrumtop.TopDown" =some 6 by kernel_rfl).symm.trans c)|>.symm
 obtain rfl:b=Tryz.f6:=(eG (Tryz.func6.symm.trans d)).symm;refine⟨by kernel_rfl,fun j t e=> ?_⟩;have a:t∈Tryz.f6.params.toList:=by have:=Array.mem_of_getElem? e;simpa using this
 have a:t∈([22,22,3]:List Nat):=a;simp only[hf,oH,or_false]at a;rcases a with rfl|rfl|rfl
 ·exact(show Tryz.prog.wantsStandIn 22=false by kernel_rfl)
 ·exact(show Tryz.prog.wantsStandIn 22=false by kernel_rfl)
 ·exact(show Tryz.prog.wantsStandIn 3=false by kernel_rfl)
theorem topDown_holds:Rows.TopDownUptoCardSaid:=
 Claim7.holds_tied_plain_at .later [] _ _ _ _ aCx (fun _ h=>by cases h) (by kernel_rfl) (fun _ h=>by cases h) topDownUpto_row_tie rfl ⟨rfl,rfl⟩ (by kernel_rfl) rfl nv (by kernel_rfl)
end Go.Proofs.YtfmgjpcmcjjoiaaGreatDoor
