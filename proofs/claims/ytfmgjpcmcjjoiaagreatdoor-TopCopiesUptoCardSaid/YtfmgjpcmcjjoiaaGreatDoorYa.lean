/- Part of a proof: walks of the program. -/
import Derived.Test.YtfmgjpcmcjjoiaaGreatDoorXv
import Derived.Test.YtfmgjpcmcjjoiaaGreatDoorXx
import Derived.Test.YtfmgjpcmcjjoiaaGreatDoorXy
open Go.IntKind (i64 u64 u8)
open Int (toNat)
set_option maxRecDepth 100000
set_option maxHeartbeats 4000000
set_option linter.all false
noncomputable section
namespace Go.Proofs.YtfmgjpcmcjjoiaaGreatDoor
open Go Go.RowKit Go.ah
theorem UC{d g h:Int}{u:A aI}(b:0≤d)(f:d+(u.n:Int)≤1048576)(i:u.n≤200)(a:0≤h∧h≤1048576)(c:dZ u):
  (0≤sh d g u h∧sh d g u h≤h)∧(uq d g u h).n≤200∧sh d g u h+((uq d g u h).n:Int)≤1048576∧dZ (uq d g u h):=by
 unfold sh uq;have z:((L:A aI).n:Int)=0:=rfl;have j:(L:A aI).n=0:=rfl
 cases (cC d g u !=0)
 ·simp only[aQ]
  cases e:(ix d u h !=0)
  ·simp only[aQ];have k:=y2 d u h ⟨bE e,⟨b,by omega⟩,by omega,by omega⟩;rw[N (h-d),A.ll];exact⟨⟨a.1,dp _⟩,by omega,by omega,xZ c _ _⟩
  ·simp only[aN];exact⟨⟨dp _,a.1⟩,by omega,by omega,l2⟩
 ·simp only[aN];exact⟨⟨dp _,a.1⟩,by omega,by omega,l2⟩
theorem aA1{d g h r o t:Int}{u:A aI}{q:A aj}{f:A aG}(b:0≤d)(c:d+(u.n:Int)≤1048576)(i:u.n≤200)(a:0≤h∧h≤1048576)(e:dZ u):
  (0≤xh d g u h r o q t f∧xh d g u h r o q t f≤h)∧(xi d g u h r o q t f).n≤200∧xh d g u h r o q t f+((xi d g u h r o q t f).n:Int)≤1048576∧dZ (xi d g u h r o q t f):=by
 unfold xh xi;have z:((L:A aI).n:Int)=0:=rfl;have j:(L:A aI).n=0:=rfl
 cases (cC d g u !=0)
 ·simp only[aQ]
  cases (qz h r o q t f !=0)
  ·simp only[aQ];unfold tC wc
   cases p_ d g u h r
   ·simp only[aQ];exact⟨⟨a.1,dp _⟩,by omega,by omega,l2⟩
   ·simp only[aN];exact UC b c i a e
  ·simp only[aN];exact⟨⟨dp _,a.1⟩,by omega,by omega,l2⟩
 ·simp only[aN];exact⟨⟨dp _,a.1⟩,by omega,by omega,l2⟩
theorem aur{ms:O}{Z:H}(h:bW Z)(j:fu ms):bW (gz ms Z):=by
 have d:=h.i;have s:bW (oc ms Z):=by
  refine⟨?_,h.o⟩
  by_cases c:ms.aP>Z.co
  ·have l:0≤ms.aP∧ms.aP≤1048576:=j.c8;have i:=aA1 (g:=Z.lt) (r:=ms.cG) (o:=ms.cZ) (q:=ms.cJ) (t:=ms.dh) (f:=ms.b1) d.l d.hn d.gP l d.li;have k:(oc ms Z).l=xh Z.l Z.lt Z.li ms.aP ms.cG ms.cZ ms.cJ ms.dh ms.b1:=by
    show t_ ms Z=_;unfold t_;rw[bT c];rfl
   have bl:(oc ms Z).li=xi Z.l Z.lt Z.li ms.aP ms.cG ms.cZ ms.cJ ms.dh ms.b1:=by
    show ub ms Z=_;unfold ub;rw[bT c];rfl
   have n:(oc ms Z).c8=ms.aP:=by
    show uc ms Z=_;unfold uc;rw[bT c];rfl
   have m:(oc ms Z).co=ms.aP:=by
    show ql ms Z=_;unfold ql;rw[bT c];rfl
   have O9:aO (oc ms Z).bd:=by
    show aO (ua ms Z);unfold ua;rw[bT c];exact u4 d.u8
   exact⟨d.bm,by rw[k];exact i.1.1,by rw[k,m];exact i.1.2,by rw[m];exact l.2,by rw[bl];exact i.2.1,by rw[k,bl];exact i.2.2.1,d.ws,d.pp,by rw[bl];exact i.2.2.2,O9,by rw[n];exact j.c8,d.g7⟩
  ·have e: ∀{α:Type} (a b:α),(cond (decide (ms.aP>Z.co)) a b)=b:=fun a b=>by rw[bI c];rfl
   refine d.hR _ ?_ ?_ d.ws
   ·show(Z.bm,t_ ms Z,ql ms Z,ub ms Z,Z.eb,Z.dF,Z.dW,uc ms Z,Z.g6,Z.q1,Z.fp)=_;unfold t_ ql ub uc;simp only[e]
   ·show aO (ua ms Z);unfold ua;rw[e];exact d.u8
 unfold gz;have p:0≤ms.j∧ms.j<3:=j.p0;exact nt (fun _=>pf s p (uR j.c8)) fun _=>aeD h
theorem afy(d:Int)(Z:H)(i:Z.ws.n≤3000)(j:d≤1048576): ∀(k:Nat) (a:Int) (b:A aj) (c:Int) (f:A aG) (v:Int) (s:A a7),0≤v→v≤1048576→toNat (d-v)<k→
  v≤(lV d Z k a b c f v s).2.2.2.2.1∧((lV d Z k a b c f v s).2.2.2.2.1=v∨(lV d Z k a b c f v s).2.2.2.2.1≤d)∧(((lV d Z k a b c f v s).2.2.2.2.2.n:Nat):Int)≤(s.n:Int)+3000*((lV d Z k a b c f v s).2.2.2.2.1-v)
 |0,_,_,_,_,_,_,_,_,h=>absurd h (eH _)
 |k+1,a,b,c,f,v,s,m,n,h=>by
  rw[lV]
  by_cases e:v<d
  ·rw[bT e,aN,N (v+1)];have o:=af9 Z a b c f v s (by omega);have l:=afy d Z i j k (I2 Z a b c f v) (I3 Z a b c f v) (I4 Z a b c f v) (I5 Z a b c f v) (v+1) (Ee Z a b c f v s).2.1 (by omega) (by omega) (by omega);obtain⟨p,g,q⟩:=l;refine⟨by omega,?_,?_⟩
   ·rcases g with g|g
    ·exact .inr (by omega)
    ·exact .inr g
   ·omega
  ·rw[bI e,aQ];refine⟨dp _,.inl rfl,?_⟩;show(s.n:Int)≤(s.n:Int)+3000*(v-v);omega
theorem aeE{d:Int}{Z:H}{B:A a7}(h:bW Z)(m:d≤Z.l+(Z.li.n:Int)):bW (iB d Z B)∧(((mu d Z B).n:Nat):Int)≤(B.n:Int)+600000:=by
 have a:=h.i;have e:d≤1048576:=by have:=a.hn;omega
 have b:0≤Z.co:=by have:=a.l;have:=a.hK;omega
 obtain⟨f,g,i⟩:=afy d Z a.ws e (toNat (d-Z.co)+1) Z.eO Z.eC Z.et Z.eD Z.co B b a.co (by omega);have c:lV d Z (toNat (d-Z.co)+1) Z.eO Z.eC Z.et Z.eD Z.co B=oe d Z B:=rfl;rw[c]at f g i;have l:=a.gP;have j:=a.hK;have k:=a.co;refine⟨⟨⟨a.bm,a.l,?_,?_,a.gP,a.hn,a.ws,a.pp,a.li,a.u8,a.c8,a.g7⟩,h.o⟩,?_⟩
 ·show Z.l≤(oe d Z B).2.2.2.2.1;omega
 ·show(oe d Z B).2.2.2.2.1≤1048576;omega
 ·show(((oe d Z B).2.2.2.2.2.n:Nat):Int)≤_;omega
theorem Tm{Z:H}{E:A O}{B:A a7}{G:A aJ}(a:jb Z): ∀(k:Nat) (v:Int),v≤Z.l+(Z.li.n:Int)→
  (g1 Z E B G k v).1=false∨ ∃p,p≤Z.l+(Z.li.n:Int)∧g1 Z E B G k v=(true,l6 (iB p Z B) E (mu p Z B) G)
 |0,_,_=> .inl rfl
 |k+1,v,b=>by
  rw[g1]
  by_cases e:v>Z.co
  ·rw[bT e,aN]
   cases mv Z v
   ·rw[aQ,wrap64 (x:=v-1) (by have:=a.l;have:=a.hK;omega) (by have:=a.hn;omega)];exact Tm a k (v-1) (by omega)
   ·exact .inr ⟨v,b,rfl⟩
  ·rw[bI e,aQ];exact .inl rfl
theorem auw{Z:H}{E:A O}{B:A a7}{G:A aJ}(h:bW Z):bW (hB Z E B G)∧wO Z E B G=E∧(((jE Z E B G).n:Nat):Int)≤(B.n:Int)+600000∧qp Z E B G=G:=by
 have c:=B2 Z ⟨h.i.l,by have:=h.i.hn;omega⟩;have b:=Tm (E:=E) (B:=B) (G:=G) h.i (toNat (ck Z-Z.co)+1) (ck Z) c.2;have f:g1 Z E B G (toNat (ck Z-Z.co)+1) (ck Z)=mw Z E B G:=rfl;rw[f]at b;unfold hB wO jE qp;rw[H.bV];rcases b with e|⟨p,d,e⟩
 ·rw[e];exact⟨h,rfl,by simp only[aQ];omega,rfl⟩
 ·rw[e];have a:=aeE (B:=B) h d;exact⟨a.1,rfl,a.2,rfl⟩
section
variable(i:Nat)(ac:F)(C:ak)(Z:H)
def aqv(E:A O):Int:=(cond (decide ((E.n:Int)>0)) (ac.K.tmod (E.n:Int)) (-1))
def DO:H:=(r8 (⟨ac.an,ac.p,ac.v,ac.ax,ac.aF,ac.i,ac.aP⟩:kW) Z)
def QP(B:A a7):A a7:=(zZ (⟨ac.an,ac.p,ac.v,ac.ax,ac.aF,ac.i,ac.aP⟩:kW) Z B)
def MD:db:=⟨[.p 0,.g [a,a,a,a,a,a,au,au,au,a]],b8,eL,er,fun(b:Int) (c:Int) (d:Int) (e:Int) (f:Int) (g:Int) h j k (l:Int)=>cB fun C=>⟨⟨some (eM C (⟨b,c,d,e,f,g,h,j,k,l⟩:F)),[],cj [10,13,11,14,12,15,16,8,9] 7 (C.put i (DO (⟨b,c,d,e,f,g,h,j,k,l⟩:F) (C.Z i)) C.s (QP (⟨b,c,d,e,f,g,h,j,k,l⟩:F) (C.Z i) C.told) C.a2)⟩⟩⟩
def VW:cI:=⟨.eA true [.b 10] [.own (.h 0 99) ca 16,.own (.h 0 29) cV 10,.own (.h 0 62) cV 11,.own (.h 0 95) cV 12,.own (.h 0 32) ca 13,.own (.h 0 65) ca 14,.own (.h 0 98) ca 15] (ys i [10,13,11,14,12,15,16,8,9] 7 [] 0 C) (xY i [10,13,11,14,12,15,16,8,9]),[],[]++vC i [10,13,11,14,12,15,16,8,9],⟨[],[]⟩⟩
def ars:cm (VW i C).b_:=(.ad (.ad (.ad (.j ⟨57,[],[(.t 5,a)],[],.f⟩ .z (.bU ⟨([.ptr 0 0,U,U,.ptr 10 0,.ptr 0 (33*i+0),b (aqv ac C.s)]++(us 135 ([]))),cn aK 1 C [(10,[b 1,b (i:Int),b ac.K,b ac.an,b ac.p,b ac.v,.str ac.ax,.str ac.aF,.str ac.i,b ac.aP])]⟩ (.ad (.ad (.c true .z))))))))
def T4(i:Nat)(ac:F)(C:ak):Prop:=(((decide ((C.s.n:Int)>0))=true→(((C.s.n:Int):Int)≠0))∧(C.told.n≤549000000000∧ac.ax.size≤10000000000∧ac.aF.size≤10000000000∧ac.i.size≤10000000000∧(C.Z i).ws.n≤549000000000))
theorem ay7(i:Nat)(e:i<3)(ac:F)(C:ak)(d:ey C)(f:ac.ax.size≤549755813888)(g:ac.aF.size≤549755813888)(h:ac.i.size≤549755813888)(a:eM C ac):T4 i ac C:=by
 have c:=gQ d i e;unfold fv at c;unfold T4;exact have:=nV a i;have:=(nV a i).l;have:=(nV a i).ws;have:=oY a;have:=a.2.yn;have:=a.2.yo;have:=a.2.yp;have:=a.2.nB;(⟨(fun b=>(by have:=aq b;omega)),(by omega)⟩)
theorem Tg(i:Nat)(a:i<3)(ac:F)(e:ac.ax.size≤549755813888)(f:ac.aF.size≤549755813888)(g:ac.i.size≤549755813888)(C:ak)(c:ey C)(d:eM C ac):fj Tryz.prog 31 ((MD i).args ([b 1,b (i:Int),b ac.K,b ac.an,b ac.p,b ac.v,.str ac.ax,.str ac.aF,.str ac.i,b ac.aP]++h3 C)) ((MD i).c4 (([b 1,b (i:Int),b ac.K,b ac.an,b ac.p,b ac.v,.str ac.ax,.str ac.aF,.str ac.i,b ac.aP]++h3 C).drop (MD i).dL)) [] (cj [10,13,11,14,12,15,16,8,9] 7 (C.put i (DO ac (C.Z i)) C.s (QP ac (C.Z i) C.told) C.a2)):=by
 refine ei (VW i C) (ars i ac C) (T4 i ac C) (bK 10 aT (av (awb i a) bJ)) Tryz.func31 [] ?_ ?_ (ay7 i a ac C c e f g d)
 ·rcases b3 a with rfl|rfl|rfl<;>kernel_rfl
 ·rcases b3 a with rfl|rfl|rfl<;>kernel_rfl
end
section
variable(q:Int)(i:Nat)(ac:F)(C:ak)(Z:H)(E:A O)
def aqD:Int:=(cond (decide ((E.n:Int)>0)) (ac.K.tmod (E.n:Int)) (-1))
def o6:H:=(H.bif Z.up (ob (⟨q,(i:Int),ac.K,ac.an,ac.p,ac.v,ac.ax,ac.aF,ac.i,ac.aP⟩:F) Z) Z)
def qf:A O:=(cond Z.up (wE (⟨q,(i:Int),ac.K,ac.an,ac.p,ac.v,ac.ax,ac.aF,ac.i,ac.aP⟩:F) Z E) E)
def MK:db:=⟨[.p 0,.g [a,a,a,a,a,a,au,au,au,a]],b8,eL,er,fun(b:Int) (c:Int) (d:Int) (e:Int) (f:Int) (g:Int) h j k (l:Int)=>cB fun C=>⟨⟨some (eM C (⟨b,c,d,e,f,g,h,j,k,l⟩:F)),[],cj [10,13,11,14,12,15,16,8,9] 7 (C.put i (o6 q i (⟨b,c,d,e,f,g,h,j,k,l⟩:F) (C.Z i)) (qf q i (⟨b,c,d,e,f,g,h,j,k,l⟩:F) (C.Z i) C.s) C.told C.a2)⟩⟩⟩
def V3:cI:=⟨.eA true [.b 10] [.own (.h 0 99) ca 16,.own (.h 0 29) cV 10,.own (.h 0 62) cV 11,.own (.h 0 95) cV 12,.own (.h 0 32) ca 13,.own (.h 0 65) ca 14,.own (.h 0 98) ca 15] (ys i [10,13,11,14,12,15,16,8,9] 7 [] 0 C) (xY i [10,13,11,14,12,15,16,8,9]),[],[]++vC i [10,13,11,14,12,15,16,8,9],⟨[],[]⟩⟩
def arz:cm (V3 i C).b_:=(.ad (.ad (.ad (.j ⟨57,[],[(.t 5,a)],[],.f⟩ .z (.bU ⟨([.ptr 0 0,U,U,.ptr 10 0,.ptr 0 (33*i+0),b (aqD ac C.s)]++(us 135 ([]))),cn aK 1 C [(10,[b q,b (i:Int),b ac.K,b ac.an,b ac.p,b ac.v,.str ac.ax,.str ac.aF,.str ac.i,b ac.aP])]⟩ (.ad (.ad (.c false (.ad (.c false (.ad (.c false (.s (.ad (.c false .z)) (.c false (.ad (.c false (.ad (.c false .z))))))))))))))))))
def Ua(i:Nat)(ac:F)(C:ak):Prop:=(((decide ((C.s.n:Int)>0))=true→(((C.s.n:Int):Int)≠0))∧((C.Z i).up=true→(jb (C.Z i))))
theorem azd(i:Nat)(e:i<3)(ac:F)(C:ak)(d:ey C)(g:ac.ax.size≤549755813888)(h:ac.aF.size≤549755813888)(j:ac.i.size≤549755813888)(a:eM C ac):Ua i ac C:=by
 have c:=gQ d i e;unfold fv at c;unfold Ua;exact have:=nV a i;have:=(nV a i).l;have:=(nV a i).ws;have:=oY a;have:=a.2.yn;have:=a.2.yo;have:=a.2.yp;have:=a.2.nB;(⟨(fun b=>(by have:=aq b;omega)),(fun f=>(by assumption))⟩)
theorem l0(q:Int)(c:q=2∨q=3∨q=4∨q=9∨q=11)(i:Nat)(a:i<3)(ac:F)(f:ac.ax.size≤549755813888)(g:ac.aF.size≤549755813888)(h:ac.i.size≤549755813888)(C:ak)(d:ey C)(e:eM C ac):fj Tryz.prog 31 ((MK q i).args ([b q,b (i:Int),b ac.K,b ac.an,b ac.p,b ac.v,.str ac.ax,.str ac.aF,.str ac.i,b ac.aP]++h3 C)) ((MK q i).c4 (([b q,b (i:Int),b ac.K,b ac.an,b ac.p,b ac.v,.str ac.ax,.str ac.aF,.str ac.i,b ac.aP]++h3 C).drop (MK q i).dL)) [] (cj [10,13,11,14,12,15,16,8,9] 7 (C.put i (o6 q i ac (C.Z i)) (qf q i ac (C.Z i) C.s) C.told C.a2)):=by
 refine ei (V3 i C) (arz q i ac C) (Ua i ac C) (bK 10 aT (av (awc i a) bJ)) Tryz.func31 (List.replicate 34 .f++[.l,.l]) ?_ ?_ (azd i a ac C d f g h e)
 ·rcases b3 a with rfl|rfl|rfl<;>rcases c with rfl|rfl|rfl|rfl|rfl<;>kernel_rfl
 ·rcases b3 a with rfl|rfl|rfl<;>rcases c with rfl|rfl|rfl|rfl|rfl<;>kernel_rfl
end
theorem oS{α:Type}{P:α→Prop}{c:Bool}{a b:α}(d:P a)(e:P b):P (cond c a b):=by
 cases c
 ·exact e
 ·exact d
theorem axS{x:aI}(h:kZ x):dZ (A.lit [x]):=fun j=>by
 show kZ (([x]:List aI).getD j default)
 match j with
 |0=>exact h
 |j+1=>exact l2 0
theorem axT{d:A b7}{c i b t:Int}{s:A aI}(j:lD b t s)(h:dZ s)(a:(rR d c b t s)=true):dZ (zs d c i b t s):=by
 unfold rR at a;unfold zs;generalize d.at' (toNat c)=E at*
 cases g:(jG E.j E.ai E.K E.an E.p E.v E.ax E.aF E.i E.aP E.cG E.cZ E.cJ E.dh E.b1 E.gv E.kp E.jx E.kq E.jy !=0)with
 |true=>rw[g]at a;cases a
 |false=>
  have m:=UH (bE g)
  cases n:(E.j==1)
  ·simp only[aQ]
   cases f:(E.j==2)
   ·simp only[aQ]
    cases bl:(E.j==3)
    ·exact h
    ·simp only[aN]
     cases decide (E.b1>i)
     ·exact h
     ·simp only[aN];have bl:=eq_of_beq bl;have r:(1≤E.b1∧E.b1≤1048576)∧(1≤E.gv∧E.gv≤1048576):=by omega
      have k:=eS _ _ _ j;unfold wc
      cases p_ b t s E.b1 E.gv
      ·exact l2
      ·exact(UC k.1.1 k.2.2.2 k.2.2.1 ⟨by omega,r.1.2⟩ h).2.2.2
   ·simp only[aN];have f:=eq_of_beq f;have l:hC E.p E.v E.ax E.aF E.i E.aP E.cG E.cZ E.cJ E.dh=0:=by
     rcases m with⟨e,_⟩|⟨_,_,q⟩|⟨e,_⟩
     ·omega
     ·exact q
     ·omega
    unfold CR;refine oS (P:=dZ) h (oS (P:=dZ) h ?_);exact oS (P:=dZ) h (afI (xZ h _ _) (axS (aBz l)))
  ·exact h
def nM(a b t:Int)(s:A aI):Prop:=Ns a b∧lD b t s∧dZ s
abbrev al3:=Bool×Int×Int×Int×Int×Int×A aj×Int×A aG×Int×Int×A aI×Int×Int×Int×Int×Int×A aj×Int×A aG×Int×Int×A aI×Int
def VP(r:al3):Prop:=(r.1=true∧r.2.2.2.2.2.2.2.2.2.2.2.2.2.2.1=0∧r.2.2.2.2.2.2.2.2.2.2.2.2.2.2.2.2.2.2.2.2.1=0∧r.2.2.2.2.2.2.2.2.2.2.2.2.2.2.2.2.2.2.2.2.2.2.1=L)∨(r.1=false∧nM r.2.2.2.1 r.2.2.2.2.2.2.2.2.2.1 r.2.2.2.2.2.2.2.2.2.2.1 r.2.2.2.2.2.2.2.2.2.2.2.1)
theorem Yw{d:A b7}(v:d.n≤549755813888): ∀(m c:Nat) (a i j e k l:Int) (f:A aj) (n:Int) (cs:A aG) (b t:Int) (s:A aI),0≤a→a+(m:Int)=(d.n:Int)→m≤c→nM e b t s→VP (zr d (c+1) a i j e k l f n cs b t s)
 |0,c,a,i,j,e,k,l,f,n,cs,b,t,s,p,u,r,h=>by
  rw[zr,bI (show¬a<(d.n:Int) by omega)];exact .inr ⟨rfl,h⟩
 |m+1,c,a,i,j,e,k,l,f,n,cs,b,t,s,p,u,r,h=>by
  obtain⟨c,rfl⟩: ∃q,c=q+1:=⟨c-1,by omega⟩;rw[zr,bT (show a<(d.n:Int) by omega)];simp only[aN]
  cases g:rR d a b t s with
  |false=>
   simp only[aQ];refine .inl ?_;generalize (jG _ _ _ _ _ _ _ _ _ _ _ _ _ _ _ _ _ _ _ _ !=0)=o
   cases o<;>exact⟨rfl,rfl,rfl,rfl⟩
  |true=>
   simp only[aN];rw[N _];exact Yw v m c (a+1) _ _ _ _ _ _ _ _ _ _ _ (by omega) (by omega) (by omega) ⟨aoS h.1 g,kE h.2.1 g,axT h.2.1 h.2.2 g⟩
theorem apd{d:A b7}(i:d.n≤549755813888):(tz d=p2 d∧0≤p2 d∧p2 d≤1048576)∧(vU d).n≤200∧tz d+((vU d).n:Int)≤1048576∧dZ (vU d):=by
 have:=Yw i d.n (toNat ((d.n:Int)-0)) 0 Eh Ei wQ Ej wR wS wT wU wV wW wP (dp _) (by omega) (by omega) ⟨⟨rfl,by decide,by decide⟩,kD,l2⟩;have:VP (iw d):=this;unfold tz p2 vU mi;rcases this with⟨e,b,c,a⟩|⟨e,f,g,h⟩
 ·rw[e];simp only[aN,aQ];rw[b,c,a];exact⟨⟨rfl,by decide,by decide⟩,cA _,by decide,l2⟩
 ·rw[e];simp only[aN,aQ];have k:=eS _ _ _ g;exact⟨f,k.2.2.1,k.2.2.2,h⟩
theorem afs(d:A Int)(g:Int): ∀(k:Nat) (v:Int) (s:A b7),(h6 d g k v s).2.n≤s.n+k
 |0,_,_=>cA _
 |k+1,v,s=>by
  rw[h6];have b:(v,s).2.n≤s.n+(k+1):=ra _ _;refine oS (P:=fun r:Int×A b7=>r.2.n≤s.n+(k+1)) (oS (P:=fun r:Int×A b7=>r.2.n≤s.n+(k+1)) b (oS (P:=fun r:Int×A b7=>r.2.n≤s.n+(k+1)) b ?_)) b;refine fg (afs d g k _ _) ?_;show s.n+1+k≤s.n+(k+1);omega
theorem ayx{d:A Int}{g:Int} :(gL d g).n≤549755813888:=by
 unfold gL
 cases e:gy d g
 ·exact cA _
 ·have h:=afs d g ((toNat (((bn d g).n:Int)-0))+1) 0 L;have a:=(qB d g e).2;have z:(L:A b7).n=0:=rfl;show(k6 d g).2.n≤_;unfold k6;omega
theorem aCU{d:A Int}{g:Int}(h:aO d):aO (jB d g):=by
 unfold jB
 cases gy d g
 ·exact Gb
 ·exact l8 (kR h)
theorem auu{d:Int}{Z:H}(h:bW Z):bW (lT d Z):=by
 have b:=h.i;have k:=apd (d:=gL (fO Z.bd Z.bh d) (gO Z.bd Z.bh d)) ayx;obtain⟨⟨m,f,c⟩,g,i,l⟩:=k;have z:(0:Int)≤0∧(0:Int)≤1048577:=by decide
 have a:(0:Int)≤0∧(0:Int)≤1048576:=by decide
 exact⟨⟨b.bm,by show 0≤tz _;omega,by show tz _≤p2 _;omega,c,g,i,cA _,⟨z,z,z⟩,l,aCU (Mi b.u8),⟨f,c⟩,⟨a,a,a⟩⟩,⟨cA _,fun j e=>absurd e (eH j)⟩⟩
end Go.Proofs.YtfmgjpcmcjjoiaaGreatDoor
