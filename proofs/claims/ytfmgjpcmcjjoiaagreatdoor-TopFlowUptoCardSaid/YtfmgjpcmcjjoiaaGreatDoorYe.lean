/- Part of a proof: walks of the program. -/
import Derived.Test.YtfmgjpcmcjjoiaaGreatDoorYb
import Derived.Test.YtfmgjpcmcjjoiaaGreatDoorYc
import Derived.Test.YtfmgjpcmcjjoiaaGreatDoorYd
open Go.IntKind (i64 u64 u8)
open Int (toNat)
set_option maxRecDepth 100000
set_option maxHeartbeats 4000000
set_option linter.all false
noncomputable section
namespace Go.Proofs.YtfmgjpcmcjjoiaaGreatDoor
open Go Go.RowKit Go.Vc
def Oy(i j:Nat)(C:Cr)(ms:aF):Cr:=(C.put i (vE i j ms (C.nd i) C.ax C.told C.aY) (B8 i j ms (C.nd i) C.ax C.told C.aY) (B_ i j ms (C.nd i) C.ax C.told C.aY) (B9 i j ms (C.nd i) C.ax C.told C.aY))
def nG(C:Cr)(ms:aF):Cr:=Oy (toNat ms.c1) (toNat ms.c0) C ms
def PY:Hr:=⟨[.p 0,.g [kI,kI,kI,kI,kI,kI,kB,kI,.sl cZ,kI,kI,kI,.sl aZ,kI,.sl bG]],bP,eC,dS,fun(y0:Int) (y1:Int) (y2:Int) (y3:Int) (y4:Int) (y5:Int) y6 (y7:Int) y8 (y9:Int) (eS:Int) (eV:Int) eW (eX:Int) eY=>cg fun C=>⟨⟨some (vd C (⟨y0,y1,y2,y3,y4,y5,y6,y7,y8,y9,eS,eV,eW,eX,eY⟩:aF)),[],bN [10,2,11,4,12,6,7,8,9] 3 (nG C (⟨y0,y1,y2,y3,y4,y5,y6,y7,y8,y9,eS,eV,eW,eX,eY⟩:aF))⟩⟩⟩
theorem awq(ms:aF)(n8:ms.c8.n≤549755813888)(dL:ms.cD.n≤549755813888)(eD:ms.bO.n≤549755813888):fb Tryz.prog 44 PY bP [] (cg fun C=>⟨⟨some (vd C ms),[],bN [10,2,11,4,12,6,7,8,9] 3 (nG C ms)⟩⟩) (jh ms):=by
 refine gv fun C hb hp=> ?_;obtain⟨a0,a1,a2,a3,a4,a5,a6,a7,a8,a9,jy,jz,j6,j7,j8⟩:=ms;obtain⟨q0,q1,q2,q3,qn⟩:=hp;have e0:a0=0∨a0=1∨a0=2:=by
  have h1:0≤a0:=q0;have h2:a0<3:=q1;omega
 have e1:a1=0∨a1=1∨a1=2:=by
  have h1:0≤a1:=q2;have h2:a1<3:=q3;omega
 rcases e0 with rfl|rfl|rfl<;>rcases e1 with rfl|rfl|rfl
 ·exact Eq.mp (by kernel_rfl) (uE 0 (by omega) 0 (by omega) ⟨0,0,a2,a3,a4,a5,a6,a7,a8,a9,jy,jz,j6,j7,j8⟩ n8 dL eD C hb qn)
 ·exact Eq.mp (by kernel_rfl) (uE 1 (by omega) 0 (by omega) ⟨0,1,a2,a3,a4,a5,a6,a7,a8,a9,jy,jz,j6,j7,j8⟩ n8 dL eD C hb qn)
 ·exact Eq.mp (by kernel_rfl) (uE 2 (by omega) 0 (by omega) ⟨0,2,a2,a3,a4,a5,a6,a7,a8,a9,jy,jz,j6,j7,j8⟩ n8 dL eD C hb qn)
 ·exact Eq.mp (by kernel_rfl) (uE 0 (by omega) 1 (by omega) ⟨1,0,a2,a3,a4,a5,a6,a7,a8,a9,jy,jz,j6,j7,j8⟩ n8 dL eD C hb qn)
 ·exact Eq.mp (by kernel_rfl) (uE 1 (by omega) 1 (by omega) ⟨1,1,a2,a3,a4,a5,a6,a7,a8,a9,jy,jz,j6,j7,j8⟩ n8 dL eD C hb qn)
 ·exact Eq.mp (by kernel_rfl) (uE 2 (by omega) 1 (by omega) ⟨1,2,a2,a3,a4,a5,a6,a7,a8,a9,jy,jz,j6,j7,j8⟩ n8 dL eD C hb qn)
 ·exact Eq.mp (by kernel_rfl) (uE 0 (by omega) 2 (by omega) ⟨2,0,a2,a3,a4,a5,a6,a7,a8,a9,jy,jz,j6,j7,j8⟩ n8 dL eD C hb qn)
 ·exact Eq.mp (by kernel_rfl) (uE 1 (by omega) 2 (by omega) ⟨2,1,a2,a3,a4,a5,a6,a7,a8,a9,jy,jz,j6,j7,j8⟩ n8 dL eD C hb qn)
 ·exact Eq.mp (by kernel_rfl) (uE 2 (by omega) 2 (by omega) ⟨2,2,a2,a3,a4,a5,a6,a7,a8,a9,jy,jz,j6,j7,j8⟩ n8 dL eD C hb qn)
theorem azi:gi 44 PY:=
 j4 (ks:=[kI,kI,kI,kI,kI,kI,kB,kI,.sl cZ,kI,kI,kI,.sl aZ,kI,.sl bG]) fun s hs=>Eq.mp (by kernel_rfl) (awq ⟨s.1,s.2.1,s.2.2.1,s.2.2.2.1,s.2.2.2.2.1,s.2.2.2.2.2.1,s.2.2.2.2.2.2.1,s.2.2.2.2.2.2.2.1,s.2.2.2.2.2.2.2.2.1,s.2.2.2.2.2.2.2.2.2.1,s.2.2.2.2.2.2.2.2.2.2.1,s.2.2.2.2.2.2.2.2.2.2.2.1,s.2.2.2.2.2.2.2.2.2.2.2.2.1,s.2.2.2.2.2.2.2.2.2.2.2.2.2.1,s.2.2.2.2.2.2.2.2.2.2.2.2.2.2.1⟩ (hs.2.2.2.2.2.2.2.2.1 rfl) (hs.2.2.2.2.2.2.2.2.2.2.2.2.1 rfl) (hs.2.2.2.2.2.2.2.2.2.2.2.2.2.2.1 rfl))
theorem ahA:gj 44 PY:=gE gu Tryz.func44 azi
structure PF (n:Nd) (ka Oc:Sl aF) (kt Oe:Sl bI) (kl Od:Sl aS):Prop where
 j:bM n
 a:Oc=ka
 t:(Oe.n:Int)≤(kt.n:Int)+600000
 l:Od.n≤kl.n+1
theorem mU{n:Nd}{ka:Sl aF}{kt:Sl bI}{kl:Sl aS}(h:bM n):PF n ka ka kt kt kl kl:=⟨h,rfl,by omega,by omega⟩
theorem abn{n:Nd}{ka Oc:Sl aF}{kt Oe:Sl bI}{kl Od:Sl aS}(h:bM n∧Oc=ka∧(Oe.n:Int)≤(kt.n:Int)+600000∧Od=kl):PF n ka Oc kt Oe kl Od:=⟨h.1,h.2.1,h.2.2.1,by rw[h.2.2.2];omega⟩
theorem atV{i j:Nat}{ms:aF}{nd:Nd}{ka:Sl aF}{kt:Sl bI}{kl:Sl aS}(h:bM nd)(hm:ie ms)(hi:i<3)(hj:j<3):
  PF (vE i j ms nd ka kt kl) ka (B8 i j ms nd ka kt kl) kt (B_ i j ms nd ka kt kl) kl (B9 i j ms nd ka kt kl):=by
 have hM:ie ⟨(j:Int),(i:Int),ms.c2,ms.c3,ms.c4,ms.c5,ms.c6,ms.c7,ms.c8,ms.c9,ms.cF,ms.cS,ms.cD,ms.di,ms.bO⟩:=⟨(by omega:(0:Int)≤(j:Int)∧(j:Int)<3),(by omega:(0:Int)≤(i:Int)∧(i:Int)<3),hm.la,hm.si,hm.li⟩;have hk:(0:Int)≤(j:Int)∧(j:Int)<3:=by omega
 have hu:U8 (Gq ms nd):=by
  unfold Gq
  cases og ms nd
  ·exact h.i.u8
  ·exact(WJ h).i.u8
 have hw:=ZA ms nd h.i.ws;have dJ:bM (gQ ms nd):=⟨h.i.iG _ (by kernel_rfl) hu hw,h.o⟩;have fw:bM (jQ j ms nd):=by
  rcases bJ hj with rfl|rfl|rfl
  ·exact⟨h.i.iG _ (by kernel_rfl) hu hw,h.o⟩
  ·exact⟨h.i.iG _ (by kernel_rfl) hu hw,h.o⟩
  ·exact⟨h.i.iG _ (by kernel_rfl) hu hw,h.o⟩
 have MP:=ahb dJ;have h65:=at1 (ka:=ka) (kt:=kt) (kl:=kl) MP hM;have h66:=at2 MP hM;have h67:=at3 (ka:=ka) (kt:=kt) (kl:=kl) dJ hM;unfold vE B8 B_ B9;simp only[Nd.lX]
 cases (!nd.up)<;>simp only[aCI,aCJ]
 ·cases Ca ms nd<;>simp only[aCI,aCJ]
  ·exact mU (WJ h)
  ·cases (ms.c2==1)<;>simp only[aCI,aCJ]
   ·cases (ms.c2==2)<;>simp only[aCI,aCJ]
    ·cases decide (ms.c3<tJ ms nd)<;>simp only[aCI,aCJ]
     ·cases (ms.c2==3)<;>simp only[aCI,aCJ]
      ·cases (ms.c2==4)<;>simp only[aCI,aCJ]
       ·cases (ms.c2==5)<;>simp only[aCI,aCJ]
        ·cases (ms.c2==7)<;>simp only[aCI,aCJ]
         ·cases (ms.c2==6)<;>simp only[aCI,aCJ]
          ·exact mU dJ
          ·cases (m8 ms nd==3)<;>simp only[aCI,aCJ]
           ·exact mU dJ
           ·exact abn h67
         ·exact mU h66
        ·exact abn h65
       ·cases (m8 ms nd==2)<;>simp only[aCI,aCJ]
        ·exact mU dJ
        ·cases l7 (jQ j ms nd)<;>simp only[aCI,aCJ]
         ·exact mU fw
         ·exact⟨at0 fw,rfl,by omega,aCK _⟩
      ·exact mU (atZ dJ hk)
     ·cases (ms.c2 !=8)<;>simp only[aCI,aCJ]
      ·exact mU dJ
      ·exact mU (WK dJ hk)
    ·cases xP ms nd<;>simp only[aCI,aCJ]
     ·exact mU dJ
     ·cases l7 (jQ j ms nd)<;>simp only[aCI,aCJ]
      ·exact mU fw
      ·exact mU (atY fw)
   ·exact mU (atX dJ hk)
 ·exact mU h
structure ZP (C X:Cr):Prop where
 j: ∀i,bM (X.nd i)
 a:X.ax=C.ax
 t:(X.told.n:Int)≤(C.told.n:Int)+600000
 l:X.aY.n≤C.aY.n+1
theorem OQ{C:Cr}{P:Nd→Prop}(h: ∀j,P (C.nd j))(i:Nat){n:Nd}(hn:P n)(ka:Sl aF)(kt:Sl bI)(kl:Sl aS)(j:Nat):P ((C.put i n ka kt kl).nd j):=by
 have h0:=h 0;have h1:=h 1;have h2:=h 2
 match i,j with
 |0,0=>exact hn
 |0,1=>exact h1
 |0,j+2=>exact h2
 |1,0=>exact h0
 |1,1=>exact hn
 |1,j+2=>exact h2
 |i+2,0=>exact h0
 |i+2,1=>exact h1
 |i+2,j+2=>exact hn
theorem ai2(C:Cr)(i:Nat)(n:Nd)(ka:Sl aF)(kt:Sl bI)(kl:Sl aS):(C.put i n ka kt kl).ax=ka∧(C.put i n ka kt kl).told=kt∧(C.put i n ka kt kl).aY=kl:=by
 match i with
 |0=>exact⟨rfl,rfl,rfl⟩
 |1=>exact⟨rfl,rfl,rfl⟩
 |i+2=>exact⟨rfl,rfl,rfl⟩
theorem aye{C:Cr}{ms:aF}(hn: ∀i,bM (C.nd i))(hm:ie ms){i j:Nat}(hi:i<3)(hj:j<3):ZP C (Oy i j C ms):=by
 have q:=atV (i:=i) (j:=j) (ms:=ms) (ka:=C.ax) (kt:=C.told) (kl:=C.aY) (hn i) hm hi hj;have f:=ai2 C i (vE i j ms (C.nd i) C.ax C.told C.aY) (B8 i j ms (C.nd i) C.ax C.told C.aY) (B_ i j ms (C.nd i) C.ax C.told C.aY) (B9 i j ms (C.nd i) C.ax C.told C.aY);unfold Oy;exact⟨fun j=>OQ (P:=bM) hn i q.j _ _ _ j,by rw[f.1];exact q.a,by rw[f.2.1];exact q.t,by rw[f.2.2];exact q.l⟩
theorem Zx{C:Cr}{ms:aF}(hn: ∀i,bM (C.nd i))(hm:ie ms):ZP C (nG C ms):=by
 have h1:=hm.fr;have h2:=hm.to;exact aye hn hm (by omega) (by omega)
def sG(C:Cr)(v:Int)(X:Cr):Prop:=(0≤v∧v≤(C.ax.n:Int))∧(∀i,bM (X.nd i))∧(X.told.n:Int)≤(C.told.n:Int)+600000*v∧(X.aY.n:Int)≤(C.aY.n:Int)+v
theorem A8{C:Cr}{a:aK}(h:du C a)(i:Nat):bM (C.nd i):=by
 obtain⟨⟨k,_,hj⟩,_⟩:=h;exact⟨hj.nd i,hj.on i,hj.ou i⟩
theorem Fp{C X:Cr}{v:Int}(h:sG C v X):0≤v∧v≤(C.ax.n:Int):=h.1
theorem s_{C:Cr}{a:aK}(h:du C a):sG C (0:Int) {C with ax:=al} :=⟨⟨aCT _,by omega⟩,fun i=>by
  have h0:=A8 h 0;have h1:=A8 h 1;have h2:=A8 h 2
  match i with
  |0=>exact h0
  |1=>exact h1
  |i+2=>exact h2,by show(C.told.n:Int)≤_;omega,by show(C.aY.n:Int)≤_;omega⟩
theorem qP{C X:Cr}{a:aK}{v:Int}(h:du C a)(hf:sG C v X)(hv:v<(C.ax.n:Int)):vd X (C.ax.at' (toNat v)):=by
 have hb:=mq h;obtain⟨h0,hj,ht,hl⟩:=hf;exact abD h (by omega) (fun i=>(hj i).i) (by omega) (by omega)
theorem ta{C X:Cr}{a:aK}{v:Int}(h:du C a)(hf:sG C v X)(hv:v<(C.ax.n:Int)):sG C (i64.wrap (v+1)) (nG X (C.ax.at' (toNat v))):=by
 have hb:=mq h;have hm:=(qP h hf hv).2.2.2.2.2.1;obtain⟨h0,hj,ht,hl⟩:=hf;rw[aq (v+1)];have q:=Zx hj hm;have qt:=q.t;have ql:=q.l;exact⟨by omega,q.j,by omega,by omega⟩
theorem aA3{C:Cr}{a:aK}(h:du C a){j:Nat}(hj:j<C.ax.n)(D:Sl aF):vd {C with ax:=D} (C.ax.at' j):=by
 have hb:=mq h;refine abD h hj (fun i=> ?_) (by show C.told.n≤_;omega) (by show C.aY.n≤_;omega);have h0:=(A8 h 0).i;have h1:=(A8 h 1).i;have h2:=(A8 h 2).i
 match i with
 |0=>exact h0
 |1=>exact h1
 |i+2=>exact h2
theorem D8{c n:Int}(h:0≤c)(hn:0<n):0≤c.tmod n∧c.tmod n<n:=⟨Int.tmod_nonneg n h,Int.tmod_lt_of_pos c hn⟩
section
variable(ac:aK)(ka:Sl aF)(C:Cr)
def jF:Int:=(bif(decide ((ka.n:Int)>0))then(ac.c2.tmod (ka.n:Int))else(-1))
def Uk:Cr:=({C with ax:=(Sl.del ka (toNat (jF ac ka)) (toNat (i64.wrap ((jF ac ka)+1))))} :Cr)
def aqV:Cr:=(nG (Uk ac ka C) (ka.at' (toNat (jF ac ka))))
def Uj:Cr:=(Cr.bif (decide ((jF ac ka)≥0)) (aqV ac ka C) C)
theorem tkf(ac:aK)(ka:Sl aF)(h:0≤ac.c2):jF ac ka<(ka.n:Int):=by
 unfold jF
 by_cases c:(ka.n:Int)>0
 ·rw[cx c];exact(D8 h c).2
 ·rw[cq c];show(-1:Int)<(ka.n:Int);omega
theorem uW{C:Cr}{ac:aK}(h:du C ac)(hm:decide ((jF ac C.ax)≥0)=true):vd (Uk ac C.ax C) (C.ax.at' (toNat (jF ac C.ax))):=by
 have h1:=ay hm;have h2:=tkf ac C.ax h.2.pk;exact aA3 h (by omega) _
def PQ:Hr:=⟨[.p 0,.g [kI,kI,kI,kI,kI,kI,kS,kS,kS,kI]],bP,eC,dS,fun(y0:Int) (y1:Int) (y2:Int) (y3:Int) (y4:Int) (y5:Int) y6 y7 y8 (y9:Int)=>cg fun C=>⟨⟨some (du C (⟨y0,y1,y2,y3,y4,y5,y6,y7,y8,y9⟩:aK)),[],bN [10,13,11,14,12,15,16,8,9] 7 (Uj (⟨y0,y1,y2,y3,y4,y5,y6,y7,y8,y9⟩:aK) C.ax C)⟩⟩⟩
def Z_:RS:=⟨.dY true [.b 10,.b 11] [.own (.h 0 99) bK 16,.own (.h 0 29) cA 10,.own (.h 0 62) cA 11,.own (.h 0 95) cA 12,.own (.h 0 32) bK 13,.own (.h 0 65) bK 14,.own (.h 0 98) bK 15] (gx 0 [10,13,11,14,12,15,16,8,9] 7 [] 0) (gw 0 [10,13,11,14,12,15,16,8,9]),[],[]++fL 0 [10,13,11,14,12,15,16,8,9],⟨[],[]⟩⟩
def asg:Hn (Z_).kd:=(.ai (.ai (.ai (.j ⟨57,[],[(.t 5,kI)],[],.f⟩ .z (.ck ⟨([.ptr 0 0,U,U,.ptr 10 0,.ptr 0 0,ae (jF ac C.ax)]++(us 135 ([]))),bS [1,2,3,4,5,6,7,8,9] 1 C [(10,[ae 6,ae 0,ae ac.c2,ae ac.c3,ae ac.c4,ae ac.c5,.str ac.c6,.str ac.c7,.str ac.c8,ae ac.c9])]⟩ (.ai (.ai (.c false (.ai (.c false (.ai (.c false (.s (.ai (.c true .z)) (.c true (.ai (.s (.ai (.ai (.ai (.c true .z)))) .z))))))))))))))))
def Yd(ac:aK)(C:Cr):Prop:=(((decide ((C.ax.n:Int)>0))=true→(((C.ax.n:Int):Int)≠0))∧((decide ((jF ac C.ax)≥0))=true→((((0:Int)≤(jF ac C.ax)∧(jF ac C.ax)<(C.ax.n:Int))∧((toNat (jF ac C.ax))<C.ax.n))∧(((0:Int)≤(jF ac C.ax)∧((jF ac C.ax):Int)<(i64.wrap ((jF ac C.ax)+1))∧((i64.wrap ((jF ac C.ax)+1)):Int)≤(C.ax.n:Int))∧(vd (Uk ac C.ax C) (C.ax.at' (toNat (jF ac C.ax))))))))
theorem ayE(ac:aK)(C:Cr)(hb:dA C)(n6:ac.c6.size≤549755813888)(n7:ac.c7.size≤549755813888)(n8:ac.c8.size≤549755813888)(hp:du C ac):Yd ac C:=by
 have hN:=fR hb 0 (by omega);unfold fq at hN;unfold Yd;exact have:=mq hp;have:=hp.2.pk;have:=tkf ac C.ax hp.2.pk;(⟨(fun h1=>(by have:=ay h1;omega)),(fun h2=>⟨⟨(by have:=ay h2;omega),(by have:=ay h2;omega)⟩,⟨(by have:=ay h2;have:=aq ((jF ac C.ax)+1);omega),(by repeat first|assumption|apply uW)⟩⟩)⟩)
theorem awk(ac:aK)(n6:ac.c6.size≤549755813888)(n7:ac.c7.size≤549755813888)(n8:ac.c8.size≤549755813888)(C:Cr)(hb:dA C)(hp:du C ac):fj Tryz.prog 31 ((PQ).args ([ae 6,ae 0,ae ac.c2,ae ac.c3,ae ac.c4,ae ac.c5,.str ac.c6,.str ac.c7,.str ac.c8,ae ac.c9]++fX C)) ((PQ).hv (([ae 6,ae 0,ae ac.c2,ae ac.c3,ae ac.c4,ae ac.c5,.str ac.c6,.str ac.c7,.str ac.c8,ae ac.c9]++fX C).drop (PQ).na)) [] (bN [10,13,11,14,12,15,16,8,9] 7 (Uj ac C.ax C)):=by
 refine dD Z_ (asg ac C) (Yd ac C) (bB 10 aQ (az ahz (az ahA bA))) Tryz.func31 [] ?_ ?_ (ayE ac C hb n6 n7 n8 hp)
 ·kernel_rfl
 ·kernel_rfl
end
section
variable(ac:aK)(ka:Sl aF)(C:Cr)
def iU:Int:=(bif(decide ((ka.n:Int)>0))then(ac.c2.tmod (ka.n:Int))else(-1))
def aff:Cr:=({C with ax:=(Sl.del ka (toNat (iU ac ka)) (toNat (i64.wrap ((iU ac ka)+1))))} :Cr)
def B3:Cr:=(Cr.bif (decide ((iU ac ka)≥0)) (aff ac ka C) C)
theorem tkg(ac:aK)(ka:Sl aF)(h:0≤ac.c2):iU ac ka<(ka.n:Int):=by
 unfold iU
 by_cases c:(ka.n:Int)>0
 ·rw[cx c];exact(D8 h c).2
 ·rw[cq c];show(-1:Int)<(ka.n:Int);omega
def PR:Hr:=⟨[.p 0,.g [kI,kI,kI,kI,kI,kI,kS,kS,kS,kI]],bP,eC,dS,fun(y0:Int) (y1:Int) (y2:Int) (y3:Int) (y4:Int) (y5:Int) y6 y7 y8 (y9:Int)=>cg fun C=>⟨⟨some (du C (⟨y0,y1,y2,y3,y4,y5,y6,y7,y8,y9⟩:aK)),[],bN [10,13,11,14,12,15,16,8,9] 7 (B3 (⟨y0,y1,y2,y3,y4,y5,y6,y7,y8,y9⟩:aK) C.ax C)⟩⟩⟩
def aaa:RS:=⟨.dY true [.b 10,.b 11] [.own (.h 0 99) bK 16,.own (.h 0 29) cA 10,.own (.h 0 62) cA 11,.own (.h 0 95) cA 12,.own (.h 0 32) bK 13,.own (.h 0 65) bK 14,.own (.h 0 98) bK 15] (gx 0 [10,13,11,14,12,15,16,8,9] 7 [] 0) (gw 0 [10,13,11,14,12,15,16,8,9]),[],[]++fL 0 [10,13,11,14,12,15,16,8,9],⟨[],[]⟩⟩
def ash:Hn (aaa).kd:=(.ai (.ai (.ai (.j ⟨57,[],[(.t 5,kI)],[],.f⟩ .z (.ck ⟨([.ptr 0 0,U,U,.ptr 10 0,.ptr 0 0,ae (iU ac C.ax)]++(us 135 ([]))),bS [1,2,3,4,5,6,7,8,9] 1 C [(10,[ae 7,ae 0,ae ac.c2,ae ac.c3,ae ac.c4,ae ac.c5,.str ac.c6,.str ac.c7,.str ac.c8,ae ac.c9])]⟩ (.ai (.ai (.c false (.ai (.c false (.ai (.c false (.s (.ai (.c false .z)) (.c true (.ai (.s (.ai (.ai (.ai (.c false .z)))) .z))))))))))))))))
def Ye(ac:aK)(C:Cr):Prop:=(((decide ((C.ax.n:Int)>0))=true→(((C.ax.n:Int):Int)≠0))∧((decide ((iU ac C.ax)≥0))=true→((((0:Int)≤(iU ac C.ax)∧(iU ac C.ax)<(C.ax.n:Int))∧((toNat (iU ac C.ax))<C.ax.n))∧((0:Int)≤(iU ac C.ax)∧((iU ac C.ax):Int)<(i64.wrap ((iU ac C.ax)+1))∧((i64.wrap ((iU ac C.ax)+1)):Int)≤(C.ax.n:Int)))))
theorem ayF(ac:aK)(C:Cr)(hb:dA C)(n6:ac.c6.size≤549755813888)(n7:ac.c7.size≤549755813888)(n8:ac.c8.size≤549755813888)(hp:du C ac):Ye ac C:=by
 have hN:=fR hb 0 (by omega);unfold fq at hN;unfold Ye;exact have:=mq hp;have:=hp.2.pk;have:=tkg ac C.ax hp.2.pk;(⟨(fun h1=>(by have:=ay h1;omega)),(fun h2=>⟨⟨(by have:=ay h2;omega),(by have:=ay h2;omega)⟩,(by have:=ay h2;have:=aq ((iU ac C.ax)+1);omega)⟩)⟩)
theorem awl(ac:aK)(n6:ac.c6.size≤549755813888)(n7:ac.c7.size≤549755813888)(n8:ac.c8.size≤549755813888)(C:Cr)(hb:dA C)(hp:du C ac):fj Tryz.prog 31 ((PR).args ([ae 7,ae 0,ae ac.c2,ae ac.c3,ae ac.c4,ae ac.c5,.str ac.c6,.str ac.c7,.str ac.c8,ae ac.c9]++fX C)) ((PR).hv (([ae 7,ae 0,ae ac.c2,ae ac.c3,ae ac.c4,ae ac.c5,.str ac.c6,.str ac.c7,.str ac.c8,ae ac.c9]++fX C).drop (PR).na)) [] (bN [10,13,11,14,12,15,16,8,9] 7 (B3 ac C.ax C)):=by
 refine dD aaa (ash ac C) (Ye ac C) (bB 10 aQ (az ahz bA)) Tryz.func31 [] ?_ ?_ (ayF ac C hb n6 n7 n8 hp)
 ·kernel_rfl
 ·kernel_rfl
end
section
variable(ac:aK)(ka:Sl aF)(C:Cr)
def oX:Int:=(bif(decide ((ka.n:Int)>0))then(ac.c2.tmod (ka.n:Int))else(-1))
def B4:Bool:=(bif(decide ((oX ac ka)≥0))then(decide ((ka.n:Int)<300))else false)
def aqW:Cr:=({C with ax:=(Sl.app ka (Sl.lit ([(ka.at' (toNat (oX ac ka)))]:List aF)))} :Cr)
def Ul:Cr:=(Cr.bif (B4 ac ka) (aqW ac ka C) C)
theorem tkh(ac:aK)(ka:Sl aF)(h:0≤ac.c2):oX ac ka<(ka.n:Int):=by
 unfold oX
 by_cases c:(ka.n:Int)>0
 ·rw[cx c];exact(D8 h c).2
 ·rw[cq c];show(-1:Int)<(ka.n:Int);omega
def PS:Hr:=⟨[.p 0,.g [kI,kI,kI,kI,kI,kI,kS,kS,kS,kI]],bP,eC,dS,fun(y0:Int) (y1:Int) (y2:Int) (y3:Int) (y4:Int) (y5:Int) y6 y7 y8 (y9:Int)=>cg fun C=>⟨⟨some (du C (⟨y0,y1,y2,y3,y4,y5,y6,y7,y8,y9⟩:aK)),[],bN [10,13,11,14,12,15,16,8,9] 7 (Ul (⟨y0,y1,y2,y3,y4,y5,y6,y7,y8,y9⟩:aK) C.ax C)⟩⟩⟩
def aab:RS:=⟨.dY true [.b 10] [.own (.h 0 99) bK 16,.own (.h 0 29) cA 10,.own (.h 0 62) cA 11,.own (.h 0 95) cA 12,.own (.h 0 32) bK 13,.own (.h 0 65) bK 14,.own (.h 0 98) bK 15] (gx 0 [10,13,11,14,12,15,16,8,9] 7 [] 0) (gw 0 [10,13,11,14,12,15,16,8,9]),[],[]++fL 0 [10,13,11,14,12,15,16,8,9],⟨[],[]⟩⟩
def asi:Hn (aab).kd:=(.ai (.ai (.ai (.j ⟨57,[],[(.t 5,kI)],[],.f⟩ .z (.ck ⟨([.ptr 0 0,U,U,.ptr 10 0,.ptr 0 0,ae (oX ac C.ax)]++(us 135 ([]))),bS [1,2,3,4,5,6,7,8,9] 1 C [(10,[ae 8,ae 0,ae ac.c2,ae ac.c3,ae ac.c4,ae ac.c5,.str ac.c6,.str ac.c7,.str ac.c8,ae ac.c9])]⟩ (.ai (.ai (.c false (.ai (.c false (.ai (.c false (.s (.ai (.c false .z)) (.c false (.ai (.c true (.j ⟨40564819207303340847894502572065,[.b 10],[(.t 105,kB)],[],.f⟩ .z (.ck ⟨([.ptr 0 0,U,U,U,U,ae (oX ac C.ax)]++(us 99 (([.bool (B4 ac C.ax)]++(us 35 ([])))))),bS [1,2,3,4,5,6,7,8,9] 0 C []⟩ .z))))))))))))))))))
def Yf(ac:aK)(C:Cr):Prop:=(((decide ((C.ax.n:Int)>0))=true→(((C.ax.n:Int):Int)≠0))∧((B4 ac C.ax)=true→(((0:Int)≤(oX ac C.ax)∧(oX ac C.ax)<(C.ax.n:Int))∧(((toNat (oX ac C.ax))<C.ax.n)∧(C.ax.n+1≤549755813888)))))
theorem ayG(ac:aK)(C:Cr)(hb:dA C)(n6:ac.c6.size≤549755813888)(n7:ac.c7.size≤549755813888)(n8:ac.c8.size≤549755813888)(hp:du C ac):Yf ac C:=by
 have hN:=fR hb 0 (by omega);unfold fq at hN;unfold Yf;exact have:=mq hp;have:=hp.2.pk;have:=tkh ac C.ax hp.2.pk;(⟨(fun h1=>(by have:=ay h1;omega)),(fun h2=>⟨(by have:=h2;(try simp [B4]at this);omega),⟨(by have:=h2;(try simp [B4]at this);omega),(by omega)⟩⟩)⟩)
theorem awm(ac:aK)(n6:ac.c6.size≤549755813888)(n7:ac.c7.size≤549755813888)(n8:ac.c8.size≤549755813888)(C:Cr)(hb:dA C)(hp:du C ac):fj Tryz.prog 31 ((PS).args ([ae 8,ae 0,ae ac.c2,ae ac.c3,ae ac.c4,ae ac.c5,.str ac.c6,.str ac.c7,.str ac.c8,ae ac.c9]++fX C)) ((PS).hv (([ae 8,ae 0,ae ac.c2,ae ac.c3,ae ac.c4,ae ac.c5,.str ac.c6,.str ac.c7,.str ac.c8,ae ac.c9]++fX C).drop (PS).na)) [] (bN [10,13,11,14,12,15,16,8,9] 7 (Ul ac C.ax C)):=by
 refine dD aab (asi ac C) (Yf ac C) (bB 10 aQ bA) Tryz.func31 [] ?_ ?_ (ayG ac C hb n6 n7 n8 hp)
 ·kernel_rfl
 ·kernel_rfl
end
section
variable(ac:aK)(ka:Sl aF)(C:Cr)
def aq2:Int:=(bif(decide ((ka.n:Int)>0))then(ac.c2.tmod (ka.n:Int))else(-1))
def afg(bX:Int)(nF:Cr):Cr:=(nG nF (ka.at' (toNat bX)))
def B5(ka:Sl aF):Nat→Int→Cr→j3
 |0,_,_=>default
 |k+1,bX,nF=>(bif(decide (bX<(ka.n:Int)))then(B5 ka k (i64.wrap (bX+1)) (afg ka bX nF))else(Zp nF))
def LH:Cr:=({C with ax:=(al:Sl aF)} :Cr)
def aq3:j3:=B5 ka ((toNat ((C.ax.n:Int)- (0:Int)))+1) (0:Int) (LH C)
def aq1:Cr:=(bR (aq3 ka C))
def Gk:Cr:=(aq1 ka C)
def PW:Hr:=⟨[.p 0,.g [kI,kI,kI,kI,kI,kI,kS,kS,kS,kI]],bP,eC,dS,fun(y0:Int) (y1:Int) (y2:Int) (y3:Int) (y4:Int) (y5:Int) y6 y7 y8 (y9:Int)=>cg fun C=>⟨⟨some (du C (⟨y0,y1,y2,y3,y4,y5,y6,y7,y8,y9⟩:aK)),[],bN [10,13,11,14,12,15,16,8,9] 7 (Gk C.ax C)⟩⟩⟩
def aaf:RS:=⟨.dY true [] [.kill 7,.own (.h 0 99) bK 16,.own (.h 0 29) cA 10,.own (.h 0 62) cA 11,.own (.h 0 95) cA 12,.own (.h 0 32) bK 13,.own (.h 0 65) bK 14,.own (.h 0 98) bK 15] (gx 0 [10,13,11,14,12,15,16,8,9] 7 [] 0) (gw 0 [10,13,11,14,12,15,16,8,9]),[],[]++fL 0 [10,13,11,14,12,15,16,8,9],⟨[],[]⟩⟩
def asn:Hn (aaf).kd:=(.ai (.ai (.ai (.j ⟨57,[],[(.t 5,kI)],[],.f⟩ .z (.ck ⟨([.ptr 0 0,U,U,.ptr 10 0,.ptr 0 0,ae (aq2 ac C.ax)]++(us 135 ([]))),bS [1,2,3,4,5,6,7,8,9] 1 C [(10,[ae 12,ae 0,ae ac.c2,ae ac.c3,ae ac.c4,ae ac.c5,.str ac.c6,.str ac.c7,.str ac.c8,ae ac.c9])]⟩ (.ai (.ai (.c false (.ai (.c false (.ai (.c false (.s (.ai (.c false .z)) (.c false (.ai (.c false (.ai (.c true (.ai (.ai (.s (.cw [] [.own (.h 0 29) cA 40,.own (.h 0 62) cA 41,.own (.h 0 95) cA 42]) (.zZ ⟨19055812547572553953948978016179019841537,[.b 10],[(.h 0 99,bK)],(.t 133,kI)::fL 0 [40,2,41,4,42,6,43,8,9],some 1,false,0,[],fL 0 [40,2,41,4,42,6,43,8,9],fun k (s3:Int×j3)=>B5 C.ax k s3.1 (bR s3.2),.f,fun(s3:Int×j3)=>sG C s3.1 (bR s3.2),fun(s3:Int×j3)=>(toNat ((C.ax.n:Int)-s3.1)),none⟩ (fun(s3:Int×j3)=>(.ai (.ck ⟨([.ptr 0 0]++(us 130 (([.own 7 C.ax.n,ae (C.ax.n:Int),ae s3.1,.bool (decide (s3.1<(C.ax.n:Int)))]++(us 6 ([])))))),bS [40,2,41,4,42,6,43,8,9] 34 (bR s3.2) [(7,[(Kd.ah bK).av C.ax])]⟩ (.ai (.ai (.cw [] [.own (.h 0 29) cA 40,.own (.h 0 62) cA 41,.own (.h 0 95) cA 42]))))))))))))))))))))))))))))
def Yj(ac:aK)(C:Cr):Prop:=(((decide ((C.ax.n:Int)>0))=true→(((C.ax.n:Int):Int)≠0))∧((sG C (0:Int) (LH C))∧(AN (Kd.int .i64::bP) fun(s3:Int×j3)=>sG C s3.1 (bR s3.2)→(((decide (s3.1<(C.ax.n:Int)))=true→((((0:Int)≤s3.1∧s3.1<(C.ax.n:Int))∧((toNat s3.1)<C.ax.n))∧(vd (bR s3.2) (C.ax.at' (toNat s3.1)))))∧((decide (s3.1<(C.ax.n:Int)))=true→(sG C (i64.wrap (s3.1+1)) (afg C.ax s3.1 (bR s3.2))∧(toNat ((C.ax.n:Int)- (i64.wrap (s3.1+1))))<(toNat ((C.ax.n:Int)-s3.1))))))))
theorem ayK(ac:aK)(C:Cr)(hb:dA C)(n6:ac.c6.size≤549755813888)(n7:ac.c7.size≤549755813888)(n8:ac.c8.size≤549755813888)(hp:du C ac):Yj ac C:=by
 have hN:=fR hb 0 (by omega);unfold fq at hN;unfold Yj;exact have:=mq hp;have:=hp.2.pk;(⟨(fun h1=>(by have:=ay h1;omega)),⟨(by repeat first|assumption|apply s_),((EH _ _).2 fun(s3:Int×j3) jk=>⟨(fun h3=>⟨⟨(by have:=ay h3;(try have M9:=Fp (by assumption));omega),(by have:=ay h3;(try have M9:=Fp (by assumption));omega)⟩,(by have:=ay h3;have:=trivial;(try have M9:=Fp (by assumption));repeat first|assumption|apply qP)⟩),(fun h4=>⟨(by have:=ay h4;have:=trivial;(try have M9:=Fp (by assumption));repeat first|assumption|apply ta),(by have:=ay h4;(try have M9:=Fp (by assumption));have:=aq (s3.1+1);omega)⟩)⟩)⟩⟩)
theorem awn(ac:aK)(n6:ac.c6.size≤549755813888)(n7:ac.c7.size≤549755813888)(n8:ac.c8.size≤549755813888)(C:Cr)(hb:dA C)(hp:du C ac):fj Tryz.prog 31 ((PW).args ([ae 12,ae 0,ae ac.c2,ae ac.c3,ae ac.c4,ae ac.c5,.str ac.c6,.str ac.c7,.str ac.c8,ae ac.c9]++fX C)) ((PW).hv (([ae 12,ae 0,ae ac.c2,ae ac.c3,ae ac.c4,ae ac.c5,.str ac.c6,.str ac.c7,.str ac.c8,ae ac.c9]++fX C).drop (PW).na)) [] (bN [10,13,11,14,12,15,16,8,9] 7 (Gk C.ax C)):=by
 refine dD aaf (asn ac C) (Yj ac C) (bB 10 aQ (az ahA bA)) Tryz.func31 [] ?_ ?_ (ayK ac C hb n6 n7 n8 hp)
 ·kernel_rfl
 ·kernel_rfl
end
section
variable(i:Nat)(C:Cr)(ac:aK)
def ax8:Cr:=(C.put i (Ua ac (C.nd i)) C.ax (Ub ac (C.nd i) C.told) C.aY)
def ax9:Cr:=(C.put i (Uc i ac (C.nd i)) (Ud i ac (C.nd i) C.ax) C.told C.aY)
def ax_:Cr:=(C.put i (Ue i ac (C.nd i)) (Uf i ac (C.nd i) C.ax) C.told C.aY)
def aya:Cr:=(C.put i (Ug i ac (C.nd i)) (Uh i ac (C.nd i) C.ax) C.told C.aY)
def aij:Cr:=(C.set i (Ui ac (C.nd i)))
def ayb:Cr:=(C.put i (Um i ac (C.nd i)) (Un i ac (C.nd i) C.ax) C.told C.aY)
def aik(ac:aK):Cr:=(C.set i (Uo (C.nd i)))
def ayc:Cr:=(C.put i (Uq i ac (C.nd i)) (Ur i ac (C.nd i) C.ax) C.told C.aY)
def lP:Cr:=(Cr.bif (ac.c0==1) (ax8 (toNat ac.c1) C ac) (Cr.bif (ac.c0==2) (ax9 (toNat ac.c1) C ac) (Cr.bif (ac.c0==3) (ax_ (toNat ac.c1) C ac) (Cr.bif (ac.c0==4) (aya (toNat ac.c1) C ac) (Cr.bif (ac.c0==5) (aij (toNat ac.c1) C ac) (Cr.bif (ac.c0==6) (Uj ac C.ax C) (Cr.bif (ac.c0==7) (B3 ac C.ax C) (Cr.bif (ac.c0==8) (Ul ac C.ax C) (Cr.bif (ac.c0==9) (ayb (toNat ac.c1) C ac) (Cr.bif (ac.c0==10) (aik (toNat ac.c1) C ac) (Cr.bif (ac.c0==11) (ayc (toNat ac.c1) C ac) (Gk C.ax C))))))))))))
def PJ:Hr:=⟨[.p 0,.g [kI,kI,kI,kI,kI,kI,kS,kS,kS,kI]],bP,eC,dS,fun(y0:Int) (y1:Int) (y2:Int) (y3:Int) (y4:Int) (y5:Int) y6 y7 y8 (y9:Int)=>cg fun C=>⟨⟨some (du C (⟨y0,y1,y2,y3,y4,y5,y6,y7,y8,y9⟩:aK)),[],bN [10,13,11,14,12,15,16,8,9] 7 (lP C (⟨y0,y1,y2,y3,y4,y5,y6,y7,y8,y9⟩:aK))⟩⟩⟩
theorem awj(ac:aK)(n6:ac.c6.size≤549755813888)(n7:ac.c7.size≤549755813888)(n8:ac.c8.size≤549755813888):fb Tryz.prog 31 PJ bP [] (cg fun C=>⟨⟨some (du C ac),[],bN [10,13,11,14,12,15,16,8,9] 7 (lP C ac)⟩⟩) [ae ac.c0,ae ac.c1,ae ac.c2,ae ac.c3,ae ac.c4,ae ac.c5,.str ac.c6,.str ac.c7,.str ac.c8,ae ac.c9]:=by
 refine gv fun C hb hp=> ?_;obtain⟨a0,a1,a2,a3,a4,a5,a6,a7,a8,a9⟩:=ac;have e0:a0=1∨a0=2∨a0=3∨a0=4∨a0=5∨a0=6∨a0=7∨a0=8∨a0=9∨a0=10∨a0=11∨a0=12:=by
  have h1:1≤a0:=hp.2.kd.1;have h2:a0≤12:=hp.2.kd.2;omega
 have e1:a1=0∨a1=1∨a1=2:=by
  have h1:0≤a1:=hp.2.nd.1;have h2:a1<3:=hp.2.nd.2;omega
 rcases e0 with rfl|rfl|rfl|rfl|rfl|rfl|rfl|rfl|rfl|rfl|rfl|rfl
 ·rcases e1 with rfl|rfl|rfl
  ·exact Eq.mp (by kernel_rfl) (WZ 0 (by omega) ⟨1,0,a2,a3,a4,a5,a6,a7,a8,a9⟩ n6 n7 n8 C hb hp)
  ·exact Eq.mp (by kernel_rfl) (WZ 1 (by omega) ⟨1,1,a2,a3,a4,a5,a6,a7,a8,a9⟩ n6 n7 n8 C hb hp)
  ·exact Eq.mp (by kernel_rfl) (WZ 2 (by omega) ⟨1,2,a2,a3,a4,a5,a6,a7,a8,a9⟩ n6 n7 n8 C hb hp)
 ·rcases e1 with rfl|rfl|rfl
  ·exact Eq.mp (by kernel_rfl) (W0 0 (by omega) ⟨2,0,a2,a3,a4,a5,a6,a7,a8,a9⟩ n6 n7 n8 C hb hp)
  ·exact Eq.mp (by kernel_rfl) (W0 1 (by omega) ⟨2,1,a2,a3,a4,a5,a6,a7,a8,a9⟩ n6 n7 n8 C hb hp)
  ·exact Eq.mp (by kernel_rfl) (W0 2 (by omega) ⟨2,2,a2,a3,a4,a5,a6,a7,a8,a9⟩ n6 n7 n8 C hb hp)
 ·rcases e1 with rfl|rfl|rfl
  ·exact Eq.mp (by kernel_rfl) (W_ 0 (by omega) ⟨3,0,a2,a3,a4,a5,a6,a7,a8,a9⟩ n6 n7 n8 C hb hp)
  ·exact Eq.mp (by kernel_rfl) (W_ 1 (by omega) ⟨3,1,a2,a3,a4,a5,a6,a7,a8,a9⟩ n6 n7 n8 C hb hp)
  ·exact Eq.mp (by kernel_rfl) (W_ 2 (by omega) ⟨3,2,a2,a3,a4,a5,a6,a7,a8,a9⟩ n6 n7 n8 C hb hp)
 ·rcases e1 with rfl|rfl|rfl
  ·exact Eq.mp (by kernel_rfl) (Xi 0 (by omega) ⟨4,0,a2,a3,a4,a5,a6,a7,a8,a9⟩ n6 n7 n8 C hb hp)
  ·exact Eq.mp (by kernel_rfl) (Xi 1 (by omega) ⟨4,1,a2,a3,a4,a5,a6,a7,a8,a9⟩ n6 n7 n8 C hb hp)
  ·exact Eq.mp (by kernel_rfl) (Xi 2 (by omega) ⟨4,2,a2,a3,a4,a5,a6,a7,a8,a9⟩ n6 n7 n8 C hb hp)
 ·rcases e1 with rfl|rfl|rfl
  ·exact Eq.mp (by kernel_rfl) (Xj 0 (by omega) ⟨5,0,a2,a3,a4,a5,a6,a7,a8,a9⟩ n6 n7 n8 C hb hp)
  ·exact Eq.mp (by kernel_rfl) (Xj 1 (by omega) ⟨5,1,a2,a3,a4,a5,a6,a7,a8,a9⟩ n6 n7 n8 C hb hp)
  ·exact Eq.mp (by kernel_rfl) (Xj 2 (by omega) ⟨5,2,a2,a3,a4,a5,a6,a7,a8,a9⟩ n6 n7 n8 C hb hp)
 ·have z:a1=0:=hp.2.nz (by simp);subst z;exact Eq.mp (by kernel_rfl) (awk ⟨6,0,a2,a3,a4,a5,a6,a7,a8,a9⟩ n6 n7 n8 C hb hp)
 ·have z:a1=0:=hp.2.nz (by simp);subst z;exact Eq.mp (by kernel_rfl) (awl ⟨7,0,a2,a3,a4,a5,a6,a7,a8,a9⟩ n6 n7 n8 C hb hp)
 ·have z:a1=0:=hp.2.nz (by simp);subst z;exact Eq.mp (by kernel_rfl) (awm ⟨8,0,a2,a3,a4,a5,a6,a7,a8,a9⟩ n6 n7 n8 C hb hp)
 ·rcases e1 with rfl|rfl|rfl
  ·exact Eq.mp (by kernel_rfl) (Xk 0 (by omega) ⟨9,0,a2,a3,a4,a5,a6,a7,a8,a9⟩ n6 n7 n8 C hb hp)
  ·exact Eq.mp (by kernel_rfl) (Xk 1 (by omega) ⟨9,1,a2,a3,a4,a5,a6,a7,a8,a9⟩ n6 n7 n8 C hb hp)
  ·exact Eq.mp (by kernel_rfl) (Xk 2 (by omega) ⟨9,2,a2,a3,a4,a5,a6,a7,a8,a9⟩ n6 n7 n8 C hb hp)
 ·rcases e1 with rfl|rfl|rfl
  ·exact Eq.mp (by kernel_rfl) (Xl 0 (by omega) ⟨10,0,a2,a3,a4,a5,a6,a7,a8,a9⟩ n6 n7 n8 C hb hp)
  ·exact Eq.mp (by kernel_rfl) (Xl 1 (by omega) ⟨10,1,a2,a3,a4,a5,a6,a7,a8,a9⟩ n6 n7 n8 C hb hp)
  ·exact Eq.mp (by kernel_rfl) (Xl 2 (by omega) ⟨10,2,a2,a3,a4,a5,a6,a7,a8,a9⟩ n6 n7 n8 C hb hp)
 ·rcases e1 with rfl|rfl|rfl
  ·exact Eq.mp (by kernel_rfl) (Xm 0 (by omega) ⟨11,0,a2,a3,a4,a5,a6,a7,a8,a9⟩ n6 n7 n8 C hb hp)
  ·exact Eq.mp (by kernel_rfl) (Xm 1 (by omega) ⟨11,1,a2,a3,a4,a5,a6,a7,a8,a9⟩ n6 n7 n8 C hb hp)
  ·exact Eq.mp (by kernel_rfl) (Xm 2 (by omega) ⟨11,2,a2,a3,a4,a5,a6,a7,a8,a9⟩ n6 n7 n8 C hb hp)
 ·have z:a1=0:=hp.2.nz (by simp);subst z;exact Eq.mp (by kernel_rfl) (awn ⟨12,0,a2,a3,a4,a5,a6,a7,a8,a9⟩ n6 n7 n8 C hb hp)
theorem azg:gi 31 PJ:=
 j4 (ks:=[kI,kI,kI,kI,kI,kI,kS,kS,kS,kI]) fun s hs=>Eq.mp (by kernel_rfl) (awj ⟨s.1,s.2.1,s.2.2.1,s.2.2.2.1,s.2.2.2.2.1,s.2.2.2.2.2.1,s.2.2.2.2.2.2.1,s.2.2.2.2.2.2.2.1,s.2.2.2.2.2.2.2.2.1,s.2.2.2.2.2.2.2.2.2.1⟩ (hs.2.2.2.2.2.2.1 rfl) (hs.2.2.2.2.2.2.2.1 rfl) (hs.2.2.2.2.2.2.2.2.1 rfl))
theorem avM:gj 31 PJ:=gE gu Tryz.func31 azg
end
theorem iM{c:Bool}{a b:Nd}{m:Nat}(ha:a.ws.n≤m)(hb:b.ws.n≤m):(Nd.bif c a b).ws.n≤m:=by
 rw[Nd.lX]
 cases c
 ·exact hb
 ·exact ha
theorem aBA(j:Nat)(n:Nd):(Nd.sv j n).ws=n.ws:=by
 match j with
 |0=>rfl
 |1=>rfl
 |j+2=>rfl
theorem aBi{i j:Nat}{ms:aF}{nd:Nd}{ka:Sl aF}{kt:Sl bI}{kl:Sl aS}(h:bM nd)(hm:ie ms)(hi:i<3)(hj:j<3):(vE i j ms nd ka kt kl).ws.n≤nd.ws.n:=by
 have hM:ie ⟨(j:Int),(i:Int),ms.c2,ms.c3,ms.c4,ms.c5,ms.c6,ms.c7,ms.c8,ms.c9,ms.cF,ms.cS,ms.cD,ms.di,ms.bO⟩:=⟨(by omega:(0:Int)≤(j:Int)∧(j:Int)<3),(by omega:(0:Int)≤(i:Int)∧(i:Int)<3),hm.la,hm.si,hm.li⟩;have hu:U8 (Gq ms nd):=by
  unfold Gq
  cases og ms nd
  ·exact h.i.u8
  ·exact(WJ h).i.u8
 have hw:=ZA ms nd h.i.ws;have dJ:bM (gQ ms nd):=⟨h.i.iG _ (by kernel_rfl) hu hw,h.o⟩;have qe:(gQ ms nd).ws.n≤nd.ws.n:=by
  show(tI ms nd).n≤nd.ws.n;unfold tI
  cases og ms nd
  ·exact aCK _
  ·exact aCQ _
 have Iv:(jQ j ms nd).ws.n≤nd.ws.n:=by
  show(Nd.sv j (gQ ms nd)).ws.n≤nd.ws.n;rw[aBA];exact qe
 have N_:(m9 (gQ ms nd)).ws.n≤nd.ws.n:=aCX (aBp _) qe;have MP:=ahb dJ;unfold vE;refine iM (aCK _) (iM ?_ (by rw[aBj];exact aCK _));refine iM (by rw[aBk];exact qe) (iM ?_ (iM ?_ (iM (by rw[aBn];exact qe) (iM ?_ (iM (by rw[aBq MP];exact N_) (iM (by rw[aBr];exact N_) (iM ?_ qe)))))))
 ·exact iM (iM (by rw[aBl];exact Iv) Iv) qe
 ·exact iM (by rw[aBm];exact qe) qe
 ·exact iM (iM (by rw[aBo];exact Iv) Iv) qe
 ·exact iM (by rw[aBs dJ hM];exact qe) qe
theorem aj7{C:Cr}{ms:aF}{m:Nat}(hn: ∀i,bM (C.nd i))(hm:ie ms)(hw: ∀i,(C.nd i).ws.n≤m)(i:Nat):((nG C ms).nd i).ws.n≤m:=by
 have h1:=hm.fr;have h2:=hm.to;unfold nG Oy;exact OQ (P:=fun n=>n.ws.n≤m) hw _ (aCX (aBi (hn _) hm (by omega) (by omega)) (hw _)) _ _ _ i
theorem aiI{s:Sl aF}(h:fE s){i j:Nat}(iY:i≤j)(hj:j≤s.n):fE (Sl.del s i j):=by
 refine⟨by show s.n- (j-i)≤300;have:=h.1;omega,fun t ht=> ?_⟩;have ht:t<s.n- (j-i):=ht;show ie (bif Nat.blt t i then s.at' t else s.at' (t+(j-i)));exact pA (P:=ie) (h.2 t (by omega)) (h.2 (t+(j-i)) (by omega))
theorem xd{k:Nat}{C:Cr}(hn: ∀i,bM (C.nd i))(hw: ∀i,(C.nd i).ws.n≤k)(ha:fE C.ax)(ht:C.told.n≤180001000*k)(hl:C.aY.n≤300*k):iN k C:=
 ⟨fun i=>(hn i).i,hw,ha.2,ha.1,fun i=>(hn i).o.2,fun i=>(hn i).o.1,ht,hl⟩
theorem iN.j{k:Nat}{C:Cr}(h:iN k C)(i:Nat):bM (C.nd i):=⟨h.nd i,h.on i,h.ou i⟩
theorem iN.a{k:Nat}{C:Cr}(h:iN k C):fE C.ax:=⟨h.an,h.aw⟩
theorem iN.succ{k:Nat}{C:Cr}(h:iN k C):iN (k+1) C:=xd h.j (fun i=>aDR (h.wn i)) h.a (by have:=h.tn;omega) (by have:=h.ln;omega)
theorem JK{k:Nat}{C:Cr}(h:iN k C)(i:Nat){n:Nd}{ka:Sl aF}{kt:Sl bI}{kl:Sl aS}(hn:bM n)(hw:n.ws.n≤k+1)(ha:fE ka)(ht:kt.n≤C.told.n+180001000)(hl:kl.n≤C.aY.n+300):iN (k+1) (C.put i n ka kt kl):=by
 have f:=ai2 C i n ka kt kl;refine xd (OQ (P:=bM) h.j i hn _ _ _) (OQ (P:=fun n=>n.ws.n≤k+1) (fun j=>aDR (h.wn j)) i hw _ _ _) ?_ ?_ ?_
 ·rw[f.1];exact ha
 ·rw[f.2.1];have:=h.tn;omega
 ·rw[f.2.2];have:=h.ln;omega
theorem ajI(C:Cr)(i:Nat)(n:Nd):C.set i n=C.put i n C.ax C.told C.aY:=by
 match i with
 |0=>rfl
 |1=>rfl
 |i+2=>rfl
theorem aBt(ms:aF)(n:Nd):(Cd ms n).ws=n.ws:=by kernel_rfl
theorem aBu(n:Nd):(Ce n).ws=n.ws:=by kernel_rfl
theorem aBv(n:Nd):(GY n).ws=n.ws:=by kernel_rfl
theorem aBw(n:Nd):(xX n).ws=n.ws:=by
 unfold xX
 repeat' first|rfl|apply u5
theorem atW{ac:aK}{nd:Nd}{ka:Sl aF}(h:bM nd)(ha:fE ka):bM (oY ac nd)∧(oY ac nd).ws.n≤nd.ws.n∧fE (re ac nd ka):=by
 have h2:bM (Gs nd):=⟨h.i.iG _ (by kernel_rfl) h.i.u8 h.i.ws,h.o⟩;have hl:=RO h2.i;refine⟨?_,?_,?_⟩
 ·unfold oY;refine oA (fun _=>oA (fun _=>ahc h2 (wG hl)) fun _=>h) fun _=> ?_;refine oA (fun _=>oA (fun _=>ahd h) fun _=>h) fun _=> ?_;exact oA (fun _=>at4 h) fun _=>oA (fun _=>at5 h) fun _=>oA (fun _=>at6 h) fun _=>h
 ·unfold oY;refine iM (iM (by rw[aBt];exact aCK _) (aCK _)) ?_;refine iM (iM (by rw[aBu];exact aCK _) (aCK _)) ?_;exact iM (by rw[aBv];exact aCK _) (iM (aCQ _) (iM (by rw[aBw];exact aCK _) (aCK _)))
 ·unfold re;exact pA (P:=fE) ha (pA (P:=fE) ha (pA (P:=fE) (anl h ha) ha))
theorem EG{k:Nat}{C:Cr}(h:iN k C)(i:Nat)(ac:aK)(c:Bool):iN (k+1) (C.put i (Nd.bif c (oY ac (C.nd i)) (C.nd i)) (bif c then re ac (C.nd i) C.ax else C.ax) C.told C.aY):=by
 have q:=atW (ac:=ac) (h.j i) h.a;exact JK h i (oA (fun _=>q.1) fun _=>h.j i) (iM (aCX q.2.1 (aDR (h.wn i))) (aDR (h.wn i))) (pA (P:=fE) q.2.2 h.a) (aDB _ _) (aDB _ _)
theorem mV{P:Cr→Prop}{c:Bool}{a b:Cr}(ha:c=true→P a)(hb:c=false→P b):P (Cr.bif c a b):=by
 rw[Cr.lX]
 cases c
 ·exact hb rfl
 ·exact ha rfl
theorem aA2{c:Int}{ka:Sl aF}(h:0≤c):(bif(decide ((ka.n:Int)>0))then(c.tmod (ka.n:Int))else(-1))<(ka.n:Int):=by
 by_cases e:(ka.n:Int)>0
 ·rw[cx e];exact(D8 h e).2
 ·rw[cq e];show(-1:Int)<(ka.n:Int);omega
theorem aAX{k:Nat}{C:Cr}(h:iN k C){D:Sl aF}(hD:fE D){ms:aF}(hm:ie ms):iN (k+1) (nG {C with ax:=D} ms):=by
 have hn: ∀i,bM ((⟨C.a,C.b,C.c,D,C.told,C.aY⟩:Cr).nd i):=fun i=>by
  have h0:=h.j 0;have h1:=h.j 1;have h2:=h.j 2
  match i with
  |0=>exact h0
  |1=>exact h1
  |i+2=>exact h2
 have hw: ∀i,((⟨C.a,C.b,C.c,D,C.told,C.aY⟩:Cr).nd i).ws.n≤k:=fun i=>by
  have h0:=h.wn 0;have h1:=h.wn 1;have h2:=h.wn 2
  match i with
  |0=>exact h0
  |1=>exact h1
  |i+2=>exact h2
 have q:=Zx hn hm;have hT:=h.tn;have hL:=h.ln;have qt:(((nG ⟨C.a,C.b,C.c,D,C.told,C.aY⟩ ms).told.n:Nat):Int)≤(C.told.n:Int)+600000:=q.t;have ql:(nG ⟨C.a,C.b,C.c,D,C.told,C.aY⟩ ms).aY.n≤C.aY.n+1:=q.l;refine xd q.j (fun i=>aDR (aj7 hn hm hw i)) (by rw[q.a];exact hD) ?_ ?_
 ·show(nG ⟨C.a,C.b,C.c,D,C.told,C.aY⟩ ms).told.n≤_;omega
 ·show(nG ⟨C.a,C.b,C.c,D,C.told,C.aY⟩ ms).aY.n≤_;omega
theorem Si(C:Cr):bR (Zp C)=C:=rfl
structure AG (k:Nat) (C X:Cr) (v:Int):Prop where
 j: ∀i,bM (X.nd i)
 w: ∀i,(X.nd i).ws.n≤k
 a:X.ax=al
 t:(X.told.n:Int)≤(C.told.n:Int)+600000*v
 l:(X.aY.n:Int)≤(C.aY.n:Int)+v
theorem apt{k:Nat}{C X:Cr}{v:Int}(h:AG k C X v){ms:aF}(hm:ie ms):AG k C (nG X ms) (v+1):=by
 have q:=Zx h.j hm;have ht:=h.t;have hl:=h.l;have qt:=q.t;have ql:=q.l;exact⟨q.j,aj7 h.j hm h.w,by rw[q.a];exact h.a,by omega,by omega⟩
theorem ab4{k:Nat}{C:Cr}{ka:Sl aF}(ha:fE ka): ∀(m fu:Nat) (v:Int) (X:Cr),0≤v→v+(m:Int)=(ka.n:Int)→m≤fu→AG k C X v→AG k C (bR (B5 ka (fu+1) v X)) (ka.n:Int)
 |0,fu,v,X,h0,hm,hf,h=>by
  rw[B5,cq (show¬v<(ka.n:Int) by omega),aCI,Si,show(ka.n:Int)=v by omega];exact h
 |m+1,fu,v,X,h0,hm,hf,h=>by
  obtain⟨fu,rfl⟩: ∃q,fu=q+1:=⟨fu-1,by omega⟩;have hn:=ha.1;rw[B5,cx (show v<(ka.n:Int) by omega),aCJ,aq _];exact ab4 ha m fu (v+1) _ (by omega) (by omega) (by omega) (apt h (ha.2 _ (by omega)))
theorem apu{k:Nat}{C:Cr}(h:iN k C):iN (k+1) (Gk C.ax C):=by
 have h0:AG k C (LH C) 0:=by
  refine⟨fun i=> ?_,fun i=> ?_,rfl,by show(C.told.n:Int)≤_;omega,by show(C.aY.n:Int)≤_;omega⟩
  ·have h0:=h.j 0;have h1:=h.j 1;have h2:=h.j 2
   match i with
   |0=>exact h0
   |1=>exact h1
   |i+2=>exact h2
  ·have h0:=h.wn 0;have h1:=h.wn 1;have h2:=h.wn 2
   match i with
   |0=>exact h0
   |1=>exact h1
   |i+2=>exact h2
 have q:=ab4 (k:=k) (C:=C) h.a C.ax.n (toNat ((C.ax.n:Int)- (0:Int))) 0 (LH C) (aCT _) (by omega) (by omega) h0;have q:AG k C (Gk C.ax C) (C.ax.n:Int):=q;have hT:=h.tn;have hL:=h.ln;have hA:=h.an;have qt:=q.t;have ql:=q.l;exact xd q.j (fun i=>aDR (q.w i)) (by rw[q.a];exact X5) (by omega) (by omega)
theorem aov{k:Nat}{C:Cr}{ac:aK}(hk:k<3000)(h:iN k C)(ha:Pz ac):iN (k+1) (lP C ac):=by
 have tb:=aA2 (ka:=C.ax) ha.pk;unfold lP;refine mV (fun _=> ?_) fun _=>mV (fun _=>EG h _ _ _) fun _=>mV (fun _=>EG h _ _ _) fun _=>mV (fun _=>EG h _ _ _) fun _=>mV (fun _=> ?_) fun _=>mV (fun _=> ?_) fun _=>mV (fun _=> ?_) fun _=>mV (fun _=> ?_) fun _=>mV (fun _=>EG h _ _ _) fun _=>mV (fun _=> ?_) fun _=>mV (fun _=>EG h _ _ _) fun _=>apu h
 ·have q:=atU (cl:=⟨ac.c3,ac.c4,ac.c5,ac.c6,ac.c7,ac.c8,ac.c9⟩) (h.j (toNat ac.c1)) (by have:=h.wn (toNat ac.c1);omega) ha.s6 ha.s7 ha.s8;have ht:=aAU (cl:=⟨ac.c3,ac.c4,ac.c5,ac.c6,ac.c7,ac.c8,ac.c9⟩) (nd:=C.nd (toNat ac.c1)) (kt:=C.told);exact JK h _ q.1 (by have:=h.wn (toNat ac.c1);have:=q.2;show(xO _ _).ws.n≤k+1;omega) h.a (by show(B7 _ _ _).n≤_;omega) (aDB _ _)
 ·have hn:=h.j (toNat ac.c1);rw[aij,ajI];exact JK h _ ⟨hn.i.iG _ (by kernel_rfl) hn.i.u8 hn.i.ws,hn.o⟩ (aDR (h.wn _)) h.a (aDB _ _) (aDB _ _)
 ·refine mV (fun e=> ?_) fun _=>h.succ;have e:=ay e;have hb:jF ac C.ax<(C.ax.n:Int):=tb;have hw:=wrap64 (x:=jF ac C.ax+1) (by omega) (by have:=h.an;omega);exact aAX h (aiI h.a (by rw[hw];omega) (by rw[hw];omega)) (h.aw _ (by omega))
 ·refine mV (fun e=> ?_) fun _=>h.succ;have e:=ay e;have hb:iU ac C.ax<(C.ax.n:Int):=tb;have hw:=wrap64 (x:=iU ac C.ax+1) (by omega) (by have:=h.an;omega);have hs:=h.succ;have hd:fE (Sl.del C.ax (toNat (iU ac C.ax)) (toNat (i64.wrap (iU ac C.ax+1)))):=aiI h.a (by rw[hw];omega) (by rw[hw];omega);refine xd (fun i=> ?_) (fun i=> ?_) hd hs.tn hs.ln
  ·have h0:=h.j 0;have h1:=h.j 1;have h2:=h.j 2
   match i with
   |0=>exact h0
   |1=>exact h1
   |i+2=>exact h2
  ·have h0:=hs.wn 0;have h1:=hs.wn 1;have h2:=hs.wn 2
   match i with
   |0=>exact h0
   |1=>exact h1
   |i+2=>exact h2
 ·refine mV (fun e=> ?_) fun _=>h.succ;have hs:=h.succ;have hb:oX ac C.ax<(C.ax.n:Int):=tb;have hd:fE (Sl.app C.ax (Sl.lit ([(C.ax.at' (toNat (oX ac C.ax)))]:List aF))):=by
   unfold B4 at e
   cases e1:decide ((oX ac C.ax)≥0)with
   |false=>rw[e1]at e;cases e
   |true=>
    rw[e1]at e;have e1:=ay e1;have e2:=ay e;exact aiH h.a (by omega) (h.aw _ (by omega))
  refine xd (fun i=> ?_) (fun i=> ?_) hd hs.tn hs.ln
  ·have h0:=h.j 0;have h1:=h.j 1;have h2:=h.j 2
   match i with
   |0=>exact h0
   |1=>exact h1
   |i+2=>exact h2
  ·have h0:=hs.wn 0;have h1:=hs.wn 1;have h2:=hs.wn 2
   match i with
   |0=>exact h0
   |1=>exact h1
   |i+2=>exact h2
 ·have hn:=h.j (toNat ac.c1);rw[aik,ajI];exact JK h _ ⟨hn.i.iG _ (by kernel_rfl) hn.i.u8 hn.i.ws,hn.o⟩ (aDR (h.wn _)) h.a (aDB _ _) (aDB _ _)
def k01(q:Key×Kd):Key×Kd:=match q.1 with
 | .h _ o=>(.h 1 o,q.2)
 |_=>q
def abr(ids:List Nat):List (Key×Kd):=(Af 0++Af 33++Af 66).map k01++Am ids 0++Am ids 1++Am ids 2++[(.h (ids.getD 6 0) 0,.ah bK),(.h (ids.getD 7 0) 0,.ah jf),(.h (ids.getD 8 0) 0,.ah cr)]
def k_(a:aK):Prop:=o7 a.c0 a.c1 a.c2 a.c3 a.c4 a.c5 a.c6 a.c7 a.c8 a.c9=0
theorem aaA{a:aK}(h:k_ a):Pz a:=by
 have k:=s56 h;exact⟨k.1,k.2.1,k.2.2.1,k.2.2.2.1,aCX k.2.2.2.2.1 (by decide),aCX k.2.2.2.2.2.1 (by decide),aCX k.2.2.2.2.2.2 (by decide)⟩
def mS(x0:Sl aK)(v:Int)(X:Cr):Prop:=(0≤v∧v≤(x0.n:Int))∧iN (toNat v) X
theorem O4{x0:Sl aK}{v:Int}{X:Cr}(h:mS x0 v X):0≤v∧v≤(x0.n:Int):=h.1
theorem ajo{x0:Sl aK}{v:Int}{X:Cr}(hn:x0.n≤3000)(hc: ∀q,q<x0.n→k_ (x0.at' q))(h:mS x0 v X)(hv:v<(x0.n:Int)):mS x0 (i64.wrap (v+1)) (lP X (x0.at' (toNat v))):=by
 obtain⟨hb,hj⟩:=h;rw[aq _];refine⟨by omega,?_⟩;rw[show toNat (v+1)=toNat v+1 by omega];exact aov (by omega) hj (aaA (hc _ (by omega)))
theorem aAk{x0:Sl aK}{v:Int}{X:Cr}(hn:x0.n≤3000)(hc: ∀q,q<x0.n→k_ (x0.at' q))(h:mS x0 v X)(hv:v<(x0.n:Int)):du X (x0.at' (toNat v)):=by
 obtain⟨hb,hj⟩:=h;exact⟨⟨_,by omega,hj⟩,aaA (hc _ (by omega))⟩
section
def vD(x0:Sl aK):Nat→Int→Bool×Sl fW×Sl bI×Sl aS×Int×Int
 |0,_=>default
 |k+1,aB=>(bif(decide (aB<(x0.n:Int)))then(bif((o7 (x0.at' (toNat aB)).c0 (x0.at' (toNat aB)).c1 (x0.at' (toNat aB)).c2 (x0.at' (toNat aB)).c3 (x0.at' (toNat aB)).c4 (x0.at' (toNat aB)).c5 (x0.at' (toNat aB)).c6 (x0.at' (toNat aB)).c7 (x0.at' (toNat aB)).c8 (x0.at' (toNat aB)).c9)!=0)then(true,(al:Sl fW),(al:Sl bI),(al:Sl aS),0,(o7 (x0.at' (toNat aB)).c0 (x0.at' (toNat aB)).c1 (x0.at' (toNat aB)).c2 (x0.at' (toNat aB)).c3 (x0.at' (toNat aB)).c4 (x0.at' (toNat aB)).c5 (x0.at' (toNat aB)).c6 (x0.at' (toNat aB)).c7 (x0.at' (toNat aB)).c8 (x0.at' (toNat aB)).c9))else(vD x0 k (i64.wrap (aB+1))))else(false,default,default,default,default,default))
variable(x0:Sl aK)
def tH:Bool×Sl fW×Sl bI×Sl aS×Int×Int:=vD x0 ((toNat ((x0.n:Int)-0))+1) 0
def m7:Bool:=(bif(tH x0).1 then false else true)
def xN:Cr:=let zq:=LG yr;let zp:=LD yy;let zo:=LC yx;let zn:=LB G9;let zk:=LA G8;let zj:=Ly yr;let zi:=Lx yw;let zg:=Lv yv;let zf:=Lu yu;let ze:=Lt yt;let zd:=Ls yw;let zc:=Lr yv;let zb:=Lq yu;let za:=Lp yt;let z8:=Lo G_;let z6:=LF yq;⟨⟨(BS 0),true,Gh,B2,zk,zn,zo,zp,z6,zq,z8,za,zb,zc,zd,ze,zf,zg,zi,zj,BT,BU,BV,BW,BX,BY,BZ,B0,B1,(al:Sl iP),Gi,Gj,(al:Sl aF)⟩,⟨(BS 1),true,Gh,B2,zk,zn,zo,zp,z6,zq,z8,za,zb,zc,zd,ze,zf,zg,zi,zj,BT,BU,BV,BW,BX,BY,BZ,B0,B1,(al:Sl iP),Gi,Gj,(al:Sl aF)⟩,⟨(BS 2),true,Gh,B2,zk,zn,zo,zp,z6,zq,z8,za,zb,zc,zd,ze,zf,zg,zi,zj,BT,BU,BV,BW,BX,BY,BZ,B0,B1,(al:Sl iP),Gi,Gj,(al:Sl aF)⟩,(al:Sl aF),(al:Sl bI),(al:Sl aS)⟩
def T9(fa:Int)(Pw:Cr):Cr:=(lP Pw (x0.at' (toNat fa)))
def tG(x0:Sl aK):Nat→Int→Cr→j3
 |0,_,_=>default
 |k+1,fa,Pw=>(bif(decide (fa<(x0.n:Int)))then(tG x0 k (i64.wrap (fa+1)) (T9 x0 fa Pw))else(Zp Pw))
def cG:j3:=tG x0 ((toNat ((x0.n:Int)- (0:Int)))+1) (0:Int) xN
def BR(x0:Sl aK):Nat→Int→Sl bI→Sl bI
 |0,_,_=>default
 |k+1,j0,wR=>(bif(decide (j0<(((bR (cG x0)).told.n:Nat):Int)))then(BR x0 k (i64.wrap (j0+1)) (Sl.app wR (Sl.lit ([((bR (cG x0)).told.at' (toNat j0))]:List bI))))else wR)
def T_:Sl bI:=BR x0 ((toNat ((((bR (cG x0)).told.n:Nat):Int)-0))+1) 0 (al:Sl bI)
def Gg:Sl fW:=(bif(decide ((x0.n:Int)>3000))then(al:Sl fW)else(bif(m7 x0)then(Sl.app (Sl.app (Sl.lit ([(⟨((bR (cG x0)).nd 0).up,((bR (cG x0)).nd 0).te,(((bR (cG x0)).nd 0).ro==3),((bR (cG x0)).nd 0).co,((bR (cG x0)).nd 0).lb,((bR (cG x0)).nd 0).lt,((bR (cG x0)).nd 0).li,(Gl ((bR (cG x0)).nd 0).mn),(Gm ((bR (cG x0)).nd 0).mE),(Gn ((bR (cG x0)).nd 0).mx),(Gp ((bR (cG x0)).nd 0).mc)⟩:fW)]:List fW)) (Sl.lit ([(⟨((bR (cG x0)).nd 1).up,((bR (cG x0)).nd 1).te,(((bR (cG x0)).nd 1).ro==3),((bR (cG x0)).nd 1).co,((bR (cG x0)).nd 1).lb,((bR (cG x0)).nd 1).lt,((bR (cG x0)).nd 1).li,(Gl ((bR (cG x0)).nd 1).mn),(Gm ((bR (cG x0)).nd 1).mE),(Gn ((bR (cG x0)).nd 1).mx),(Gp ((bR (cG x0)).nd 1).mc)⟩:fW)]:List fW))) (Sl.lit ([(⟨((bR (cG x0)).nd 2).up,((bR (cG x0)).nd 2).te,(((bR (cG x0)).nd 2).ro==3),((bR (cG x0)).nd 2).co,((bR (cG x0)).nd 2).lb,((bR (cG x0)).nd 2).lt,((bR (cG x0)).nd 2).li,(Gl ((bR (cG x0)).nd 2).mn),(Gm ((bR (cG x0)).nd 2).mE),(Gn ((bR (cG x0)).nd 2).mx),(Gp ((bR (cG x0)).nd 2).mc)⟩:fW)]:List fW)))else(tH x0).2.1))
def Ll:Sl bI:=(bif(decide ((x0.n:Int)>3000))then(al:Sl bI)else(bif(m7 x0)then(T_ x0)else(tH x0).2.2.1))
def afd:Sl aS:=(bif(decide ((x0.n:Int)>3000))then(al:Sl aS)else(bif(m7 x0)then(Sl.cut (B6 (bR (cG x0)).aY) (bR (cG x0)).aY.n)else(tH x0).2.2.2.1))
def Lm:Int:=(bif(decide ((x0.n:Int)>3000))then 0 else(bif(m7 x0)then(((bR (cG x0)).ax.n:Nat):Int)else(tH x0).2.2.2.2.1))
def Ln:Int:=(bif(decide ((x0.n:Int)>3000))then 1 else(bif(m7 x0)then 0 else(tH x0).2.2.2.2.2))
theorem abh(x0:Sl aK)(hn:x0.n≤3000): ∀(m fu:Nat) (v:Int),0≤v→v+(m:Int)=(x0.n:Int)→m≤fu→(vD x0 (fu+1) v).1=false→ ∀q:Nat,v≤(q:Int)→q<x0.n→k_ (x0.at' q)
 |0,fu,v,h0,hm,hf,h,q,hq,dn=>by omega
 |m+1,fu,v,h0,hm,hf,h,q,hq,dn=>by
  obtain⟨fu,rfl⟩: ∃q,fu=q+1:=⟨fu-1,by omega⟩;rw[vD,cx (show v<(x0.n:Int) by omega)]at h;simp only[aCJ]at h
  cases e:(o7 (x0.at' (toNat v)).c0 (x0.at' (toNat v)).c1 (x0.at' (toNat v)).c2 (x0.at' (toNat v)).c3 (x0.at' (toNat v)).c4 (x0.at' (toNat v)).c5 (x0.at' (toNat v)).c6 (x0.at' (toNat v)).c7 (x0.at' (toNat v)).c8 (x0.at' (toNat v)).c9 !=0)with
  |true=>rw[e]at h;cases h
  |false=>
   rw[e]at h;simp only[aCI]at h;rw[aq _]at h
   by_cases c:(q:Int)=v
   ·have:q=toNat v:=by omega
    subst this;exact bE e
   ·exact abh x0 hn m fu (v+1) (by omega) (by omega) (by omega) h q (by omega) dn
theorem w8{x0:Sl aK}(h1:decide ((x0.n:Int)>3000)=false)(h:m7 x0=true):x0.n≤3000∧ ∀q,q<x0.n→k_ (x0.at' q):=by
 have hn:=iw h1;have hn:x0.n≤3000:=by omega
 refine⟨hn,fun q hq=> ?_⟩;have e:(tH x0).1=false:=by
  unfold m7 at h
  cases z:(tH x0).1 with
  |true=>rw[z]at h;cases h
  |false=>rfl
 exact abh x0 hn x0.n _ 0 (aCT _) (by omega) (by omega) e q (by omega) hq
theorem XM(i:Int)(h:0≤i∧i<3):bM ⟨(BS i),true,Gh,B2,(LA G8),(LB G9),(LC yx),(LD yy),(LF yq),(LG yr),(Lo G_),(Lp yt),(Lq yu),(Lr yv),(Ls yw),(Lt yt),(Lu yu),(Lv yv),(Lx yw),(Ly yr),BT,BU,BV,BW,BX,BY,BZ,B0,B1,(al:Sl iP),Gi,Gj,(al:Sl aF)⟩:=by
 have z:(0:Int)≤0∧(0:Int)≤1048577:=by decide
 have z2:(0:Int)≤0∧(0:Int)≤1048576:=by decide
 exact⟨⟨h,aCT _,aCT _,z2.2,aCQ _,(by decide:(0:Int)+((0:Nat):Int)≤1048576),aCQ _,⟨z,z,z⟩,mK,Jh,z2,⟨z2,z2,z2⟩⟩,⟨aCQ _,fun j hj=>absurd hj (fC j)⟩⟩
theorem aou:iN 0 xN:=by
 have h0:=XM 0 (by decide);have h1:=XM 1 (by decide);have h2:=XM 2 (by decide);refine xd (fun i=> ?_) (fun i=> ?_) X5 (aCK _) (aCK _)
 ·match i with
  |0=>exact h0
  |1=>exact h1
  |i+2=>exact h2
 ·match i with
  |0=>exact aCK _
  |1=>exact aCK _
  |i+2=>exact aCK _
theorem ru0{x0:Sl aK} :mS x0 (0:Int) xN:=⟨⟨aCT _,by omega⟩,aou⟩
theorem rus{x0:Sl aK}{v:Int}{X:Cr}(h1:decide ((x0.n:Int)>3000)=false)(h6:m7 x0=true)(h:mS x0 v X)(hv:decide (v<(x0.n:Int))=true):mS x0 (i64.wrap (v+1)) (T9 x0 v X):=ajo (w8 h1 h6).1 (w8 h1 h6).2 h (ay hv)
theorem rud{x0:Sl aK}{v:Int}{X:Cr}(h1:decide ((x0.n:Int)>3000)=false)(h6:m7 x0=true)(h:mS x0 v X)(hv:decide (v<(x0.n:Int))=true):du X (x0.at' (toNat v)):=aAk (w8 h1 h6).1 (w8 h1 h6).2 h (ay hv)
theorem rul{x0:Sl aK}(hn:x0.n≤3000)(hc: ∀q,q<x0.n→k_ (x0.at' q)): ∀(m fu:Nat) (v:Int) (X:Cr),v+(m:Int)=(x0.n:Int)→m≤fu→mS x0 v X→mS x0 (x0.n:Int) (bR (tG x0 (fu+1) v X))
 |0,fu,v,X,hm,hf,h=>by
  have hb:=O4 h;rw[tG,cq (show¬v<(x0.n:Int) by omega),aCI,Si,show(x0.n:Int)=v by omega];exact h
 |m+1,fu,v,X,hm,hf,h=>by
  obtain⟨fu,rfl⟩: ∃q,fu=q+1:=⟨fu-1,by omega⟩;have hb:=O4 h;have hs:=ajo hn hc h (by omega);rw[tG,cx (show v<(x0.n:Int) by omega),aCJ];rw[aq _]at hs ⊢;exact rul hn hc m fu (v+1) _ (by omega) (by omega) hs
theorem abq{x0:Sl aK}(h1:decide ((x0.n:Int)>3000)=false)(h6:m7 x0=true):iN x0.n (bR (cG x0)):=by
 have h:=(rul (w8 h1 h6).1 (w8 h1 h6).2 x0.n (toNat ((x0.n:Int)- (0:Int))) 0 xN (by omega) (by omega) ru0).2;rw[show toNat (x0.n:Int)=x0.n by omega]at h;exact h
theorem O5{x0:Sl aK}(h1:decide ((x0.n:Int)>3000)=false)(h6:m7 x0=true):(bR (cG x0)).told.n≤540003000000∧(bR (cG x0)).aY.n≤900000∧(bR (cG x0)).ax.n≤300:=by
 have h:=abq h1 h6;have hn:=(w8 h1 h6).1;have ht:=h.tn;have hl:=h.ln;exact⟨by omega,by omega,h.an⟩
def amz:Fq:=⟨[.v (.sl mR)],fun x0=>⟨⟨none,.cU [.agg [aL 11 E_ (Gg x0),aL 12 JT (Ll x0),aL 2 JU (afd x0),ae (Lm x0)],ae (Ln x0)]⟩⟩⟩
def X8(x0:Sl aK):Prop:=((decide ((x0.n:Int)>3000))=false→((((0≤(0:Int)∧(0:Int)≤(x0.n:Int)))∧(∀(aB:Int),(0≤aB∧aB≤(x0.n:Int))→(((decide (aB<(x0.n:Int)))=true→((0:Int)≤aB∧aB<(x0.n:Int)))∧((decide (aB<(x0.n:Int)))=true→(((o7 (x0.at' (toNat aB)).c0 (x0.at' (toNat aB)).c1 (x0.at' (toNat aB)).c2 (x0.at' (toNat aB)).c3 (x0.at' (toNat aB)).c4 (x0.at' (toNat aB)).c5 (x0.at' (toNat aB)).c6 (x0.at' (toNat aB)).c7 (x0.at' (toNat aB)).c8 (x0.at' (toNat aB)).c9)!=0)=false→((0≤(i64.wrap (aB+1))∧(i64.wrap (aB+1))≤(x0.n:Int))∧(toNat ((x0.n:Int)- (i64.wrap (aB+1))))<(toNat ((x0.n:Int)-aB))))))))∧((m7 x0)=true→(((mS x0 (0:Int) xN)∧(AN (Kd.int .i64::bP) fun(s9:Int×j3)=>mS x0 s9.1 (bR s9.2)→(((decide (s9.1<(x0.n:Int)))=true→(((0:Int)≤s9.1∧s9.1<(x0.n:Int))∧(du (bR s9.2) (x0.at' (toNat s9.1)))))∧((decide (s9.1<(x0.n:Int)))=true→(mS x0 (i64.wrap (s9.1+1)) (T9 x0 s9.1 (bR s9.2))∧(toNat ((x0.n:Int)- (i64.wrap (s9.1+1))))<(toNat ((x0.n:Int)-s9.1)))))))∧(((((0≤(0:Int)∧(0:Int)≤(((bR (cG x0)).told.n:Nat):Int))∧((0:Nat):Int)≤0+((0:Int)-0)))∧(∀(j0:Int) (wR:Sl bI),((0≤j0∧j0≤(((bR (cG x0)).told.n:Nat):Int))∧(wR.n:Int)≤0+(j0-0))→(((decide (j0<(((bR (cG x0)).told.n:Nat):Int)))=true→((((0:Int)≤j0∧j0<(((bR (cG x0)).told.n:Nat):Int))∧((toNat j0)<(bR (cG x0)).told.n))∧(wR.n+1≤549755813888)))∧(((decide (j0<(((bR (cG x0)).told.n:Nat):Int)))=true→(((0≤(i64.wrap (j0+1))∧(i64.wrap (j0+1))≤(((bR (cG x0)).told.n:Nat):Int))∧(((wR.n+1):Nat):Int)≤0+((i64.wrap (j0+1))-0))∧(toNat ((((bR (cG x0)).told.n:Nat):Int)- (i64.wrap (j0+1))))<(toNat ((((bR (cG x0)).told.n:Nat):Int)-j0))))∧((decide (j0<(((bR (cG x0)).told.n:Nat):Int)))=false→((wR.n:Int)≤0+max ((((bR (cG x0)).told.n:Nat):Int)-0) 0))))))∧(((((T_ x0).n:Nat):Int)≤0+max ((((bR (cG x0)).told.n:Nat):Int)-0) 0)→(((bR (cG x0)).aY.n≤900000)∧((1≤549755813888)∧((1+1≤549755813888)∧((1+1)+1≤549755813888))))))))))
theorem ayy(x0:Sl aK)(n0:x0.n≤549755813888):X8 x0:=by
 unfold X8;exact(fun h1=>⟨⟨(by omega),(fun aB jk=>⟨(fun h3=>(by have:=ay h3;omega)),(fun h4=>(fun h5=>(by have:=ay h4;have:=aq (aB+1);omega)))⟩)⟩,(fun h6=>⟨⟨(by apply ru0),((EH _ _).2 fun(s9:Int×j3) hI7=>⟨(fun h8=>⟨(by have:=ay h8;(try have HW:=O4 (by assumption));omega),(by repeat first|assumption|apply rud)⟩),(fun h9=>⟨(by repeat first|assumption|apply rus),(by have:=ay h9;(try have HW:=O4 (by assumption));have:=aq (s9.1+1);omega)⟩)⟩)⟩,⟨⟨(by omega),(fun j0 wR aB8=>⟨(fun jH=>⟨⟨(by have:=ay jH;omega),(by have:=ay jH;omega)⟩,(by(try have hru:=O5 (by assumption) (by assumption));omega)⟩),⟨(fun fw=>(by have:=ay fw;(try have hru:=O5 (by assumption) (by assumption));have:=aq (j0+1);omega)),(fun nh=>(by omega))⟩⟩)⟩,(fun aB3=>⟨(by(try have hru:=O5 (by assumption) (by assumption));omega),⟨(by omega),⟨(by omega),(by omega)⟩⟩⟩)⟩⟩)⟩)
def ZY:RS:=⟨.pure,[.cell 2 27,.tmp 3],[(.c 0 0,.sl wU),(.c 0 1,.sl jf),(.c 0 2,.sl cr),(.c 0 3,kI),(.t 1,kI)],⟨[.agg (us 4 []),U],[]⟩⟩
def asa:Hn ZY.kd:=let z6:=bR (cG x0);(.ai (.ai (.j ⟨13,[],[],[],.f⟩ (.ai (.lp ⟨14680077,[],[],[(.t 23,kI)],some 0,true,13,[],[],fun k (s:Int)=>vD x0 k s,.f,fun(s:Int)=>(0≤s∧s≤(x0.n:Int)),fun(s:Int)=>(toNat ((x0.n:Int)-s)),none⟩ .z)) (.ai (.s (.ai (.un 3 (.s (.ai (.s (.c true .z) .z)) (.s (.ai (.s (.c true .z) .z)) (.s (.ai (.s (.c true .z) .z)) (.ai (.s (.c false .z) .z))))))) (.j ⟨140,[],[],[],.f⟩ (.ai (.zZ ⟨126100789566374028,[],[(.h 1 29,cA),(.h 1 32,bK),(.h 1 62,cA),(.h 1 65,bK),(.h 1 95,cA),(.h 1 98,bK),(.h 1 99,bK),(.h 1 100,jf),(.h 1 101,cr)],(.t 56,kI)::abr [2,3,4,5,6,7,8,9,10],some 4,false,140,[],abr [2,3,4,5,6,7,8,9,10],fun k (s9:Int×j3)=>tG x0 k s9.1 (bR s9.2),.f,fun(s9:Int×j3)=>mS x0 s9.1 (bR s9.2),fun(s9:Int×j3)=>(toNat ((x0.n:Int)-s9.1)),none⟩ (fun(s9:Int×j3)=>(.ai (.ai (.ai (.cw [] [.own (.h 1 29) cA 2,.own (.h 1 62) cA 4,.own (.h 1 95) cA 6,.own (.h 1 32) bK 3,.own (.h 1 65) bK 5,.own (.h 1 98) bK 7,.own (.h 1 99) bK 8]))))))) (.ai (.j ⟨2188,[],[],[],.f⟩ (.ai (.lp ⟨1057810092162800527870092,[],[(.h 11 1,jf)],[(.t 79,kI),(.h 12 0,.ah jf)],some 6,false,2188,[],[(.h 12 0,.ah jf)],fun k (s:Int×Sl bI)=>BR x0 k s.1 s.2,.f,fun(s:Int×Sl bI)=>((0≤s.1∧s.1≤(z6.told.n:Int))∧(s.2.n:Int)≤0+(s.1-0)),fun(s:Int×Sl bI)=>(toNat ((z6.told.n:Int)-s.1)),some fun(r:Sl bI)=>(r.n:Int)≤0+max ((z6.told.n:Int)-0) 0⟩ .z)) (.ai (.s (.ai (.un 3 (.s (.ai (.s (.c true .z) .z)) (.s (.ai (.s (.c true .z) .z)) (.s (.ai (.s (.c true .z) .z)) (.ai (.s (.c false .z) .z))))))) .z))))))))))
theorem avL:ba 23 amz:=bf Tryz.func23
 fun x0 n0 _=>bj ZY (asa x0) (X8 x0) (bB 0 (aH k35 (aH k56 (aH Dz (aH DC (aH ahx (aH avO aQ)))))) (az avN (az avM bA))) Tryz.func23 (ayy x0 n0)
end
section
def CG(x0:Sl ag)(x1:Sl ag):Nat→Int→Bool×Bool
 |0,_=>default
 |k+1,aB=>(bif(decide (aB<(x0.n:Int)))then(bif(!(((x0.at' (toNat aB)):ag).toList==((x1.at' (toNat aB)):ag).toList))then(true,false)else(CG x0 x1 k (i64.wrap (aB+1))))else(false,default))
def U5(x0:Sl ag)(x1:Sl ag):Bool×Bool:=CG x0 x1 ((toNat ((x0.n:Int)-0))+1) 0
def afV(x0:Sl ag)(x1:Sl ag):Bool:=(bif(U5 x0 x1).1 then false else true)
def He(x0:Sl ag)(x1:Sl ag):Bool:=(bif((x0.n:Int)!=(x1.n:Int))then false else(bif(afV x0 x1)then true else(U5 x0 x1).2))
def am3:Fq:=⟨[.v (.sl E9),.v (.sl E9)],fun x0 x1=>⟨⟨none,.bool (He x0 x1)⟩⟩⟩
theorem ahH:ba 84 am3:=bf Tryz.func84
 fun x0 n0 _ x1 n1 _=>bj ⟨.pure,[.tmp 4],[(.t 0,kB)],⟨[U],[]⟩⟩ (.ai (.ai (.j ⟨16,[],[],[],.f⟩ (.ai (.lp ⟨51,[],[],[(.t 5,kI)],some 0,true,16,[],[],fun k (s:Int)=>CG x0 x1 k s,.f,fun(s:Int)=>(0≤s∧s≤(x0.n:Int)),fun(s:Int)=>(toNat ((x0.n:Int)-s)),none⟩ .z)) .z))) (((x0.n:Int)!=(x1.n:Int))=false→(((0≤(0:Int)∧(0:Int)≤(x0.n:Int)))∧(∀(aB:Int),let z8:=decide (aB<(x0.n:Int));let z6:=i64.wrap (aB+1);(0≤aB∧aB≤(x0.n:Int))→((z8=true→(((0:Int)≤aB∧aB<(x0.n:Int))∧((0:Int)≤aB∧aB<(x1.n:Int))))∧(z8=true→((!(((x0.at' (toNat aB)):ag).toList==((x1.at' (toNat aB)):ag).toList))=false→((0≤z6∧z6≤(x0.n:Int))∧(toNat ((x0.n:Int)-z6))<(toNat ((x0.n:Int)-aB))))))))) fK Tryz.func84 ((fun h1=>⟨(by omega),(fun aB jk=>⟨(fun h3=>⟨(by have:=ay h3;omega),(by have:=bE h1;have:=ay h3;omega)⟩),(fun h4=>(fun h5=>(by have:=bE h1;have:=ay h4;first|omega|(have:=aq (aB+1);omega))))⟩)⟩))
variable(x0:Int)(x1:Sl ar)(x2:Int)(x3:Sl aG)(x4:Int)(x5:Sl bD)(x7:Sl aG)(a_:Sl bD)
def pN(x1:ag)(x2:Int)(x3:Sl bk)(x4:Sl ag)(x5:Sl bD)(x6:Int)(x7:ag)(x8:Int)(x9:Sl bk)(au:Sl ag)(a_:Sl bD):Bool:=(bif(x0 !=x6)then true else(bif(!((x1:ag).toList==(x7:ag).toList))then true else(bif(x2 !=x8)then true else(bif((x3.n:Int)!=(x9.n:Int))then true else(bif((x5.n:Int)!=(a_.n:Int))then true else(!(He x4 au)))))))
def CF(x3:Sl bk)(x9:Sl bk):Nat→Int→Bool×Bool
 |0,_=>default
 |k+1,cC=>(bif(decide (cC<(x3.n:Int)))then(bif(!((((x3.at' (toNat cC)).c0:ag).toList==((x9.at' (toNat cC)).c0:ag).toList)&&((((x3.at' (toNat cC)).c1:ag).toList==((x9.at' (toNat cC)).c1:ag).toList)&&true)))then(true,false)else(CF x3 x9 k (i64.wrap (cC+1))))else(false,default))
def U3(x3:Sl bk)(x9:Sl bk):Bool×Bool:=CF x3 x9 ((toNat ((x3.n:Int)-0))+1) 0
def U2(x3:Sl bk)(x9:Sl bk):Bool:=(bif(U3 x3 x9).1 then false else true)
def CD(x5:Sl bD)(a_:Sl bD):Nat→Int→Bool×Bool
 |0,_=>default
 |k+1,kC=>(bif(decide (kC<(x5.n:Int)))then(bif(!((((x5.at' (toNat kC)).c0:ag).toList==((a_.at' (toNat kC)).c0:ag).toList)&&(((x5.at' (toNat kC)).c1==(a_.at' (toNat kC)).c1)&&true)))then(true,false)else(CD x5 a_ k (i64.wrap (kC+1))))else(false,default))
def U4:Bool×Bool:=CD x5 a_ ((toNat ((x5.n:Int)-0))+1) 0
def afU:Bool:=(bif(U4 x5 a_).1 then false else true)
def Mz(x1:ag)(x2:Int)(x3:Sl bk)(x4:Sl ag)(x5:Sl bD)(x6:Int)(x7:ag)(x8:Int)(x9:Sl bk)(au:Sl ag)(a_:Sl bD):Bool:=(bif(pN x0 x1 x2 x3 x4 x5 x6 x7 x8 x9 au a_)then false else(bif(U2 x3 x9)then(bif(afU x5 a_)then true else(U4 x5 a_).2)else(U3 x3 x9).2))
def am2:Fq:=⟨[.g [kI,kS,kI,.sl cN,.sl E9,.sl cH],.g [kI,kS,kI,.sl cN,.sl E9,.sl cH]],fun x0 x1 x2 x3 x4 x5 x6 x7 x8 x9 au a_=>⟨⟨none,.bool (Mz x0 x1 x2 x3 x4 x5 x6 x7 x8 x9 au a_)⟩⟩⟩
theorem awg:ba 83 am2:=bf Tryz.func83
 fun(x0:Int) x1 n1 (x2:Int) x3 n3 _ x4 n4 _ x5 n5 _ (x6:Int) x7 n7 (x8:Int) x9 n9 _ au oC _ a_ IH _=>bj ⟨.pure,[.tmp 4],[(.t 0,kB)],⟨[U],[]⟩⟩ (.ai (.s (.j ⟨2251799813685276,[],[(.t 51,kB)],[],.f⟩ .z .z) (.j ⟨28,[],[],[],.f⟩ (.ai (.lp ⟨60,[],[],[(.t 5,kI)],some 0,true,28,[],[],fun k (s:Int)=>CF x3 x9 k s,.f,fun(s:Int)=>(0≤s∧s≤(x3.n:Int)),fun(s:Int)=>(toNat ((x3.n:Int)-s)),none⟩ .z)) (.j ⟨16,[],[],[],.f⟩ (.ai (.lp ⟨92,[],[],[(.t 6,kI)],some 2,true,16,[.b 0,.b 1],[],fun k (s:Int)=>CD x5 a_ k s,.f,fun(s:Int)=>(0≤s∧s≤(x5.n:Int)),fun(s:Int)=>(toNat ((x5.n:Int)-s)),none⟩ .z)) .z)))) ((pN x0 x1 x2 x3 x4 x5 x6 x7 x8 x9 au a_)=false→((((0≤(0:Int)∧(0:Int)≤(x3.n:Int)))∧(∀(cC:Int),let zd:=decide (cC<(x3.n:Int));let zb:=toNat cC;let z8:=i64.wrap (cC+1);(0≤cC∧cC≤(x3.n:Int))→((zd=true→(((0:Int)≤cC∧cC<(x3.n:Int))∧((0:Int)≤cC∧cC<(x9.n:Int))))∧(zd=true→((!((((x3.at' zb).c0:ag).toList==((x9.at' zb).c0:ag).toList)&&((((x3.at' zb).c1:ag).toList==((x9.at' zb).c1:ag).toList)&&true)))=false→((0≤z8∧z8≤(x3.n:Int))∧(toNat ((x3.n:Int)-z8))<(toNat ((x3.n:Int)-cC))))))))∧((U2 x3 x9)=true→(((0≤(0:Int)∧(0:Int)≤(x5.n:Int)))∧(∀(kC:Int),let zc:=decide (kC<(x5.n:Int));let za:=toNat kC;let z6:=i64.wrap (kC+1);(0≤kC∧kC≤(x5.n:Int))→((zc=true→(((0:Int)≤kC∧kC<(x5.n:Int))∧((0:Int)≤kC∧kC<(a_.n:Int))))∧(zc=true→((!((((x5.at' za).c0:ag).toList==((a_.at' za).c0:ag).toList)&&(((x5.at' za).c1==(a_.at' za).c1)&&true)))=false→((0≤z6∧z6≤(x5.n:Int))∧(toNat ((x5.n:Int)-z6))<(toNat ((x5.n:Int)-kC))))))))))) (bU (aH ahH aQ)) Tryz.func83 ((fun h1=>⟨⟨(by have:=h1;simp [pN]at this;omega),(fun cC jk=>⟨(fun h3=>⟨(by have:=h1;simp [pN]at this;have:=ay h3;omega),(by have:=h1;simp [pN]at this;have:=ay h3;omega)⟩),(fun h4=>(fun h5=>(by have:=h1;simp [pN]at this;have:=ay h4;first|omega|(have:=aq (cC+1);omega))))⟩)⟩,(fun h6=>⟨(by have:=h1;simp [pN]at this;omega),(fun kC hI7=>⟨(fun h8=>⟨(by have:=h1;simp [pN]at this;have:=ay h8;omega),(by have:=h1;simp [pN]at this;have:=ay h8;omega)⟩),(fun h9=>(fun dJ=>(by have:=h1;simp [pN]at this;have:=ay h9;first|omega|(have:=aq (kC+1);omega))))⟩)⟩)⟩))
def afT(x1:ag)(x2:Int)(x3:Sl ag)(x4:Int)(x5:ag)(x6:Int)(x7:Sl ag):Bool:=(bif(x0==x4)then(bif((x1:ag).toList==(x5:ag).toList)then(bif(x2==x6)then(He x3 x7)else false)else false)else false)
def Mx(x1:ag)(x2:Int)(x3:Sl ag)(x4:Int)(x5:ag)(x6:Int)(x7:Sl ag):Bool:=(afT x0 x1 x2 x3 x4 x5 x6 x7)
def amZ:Fq:=⟨[.g [kI,kS,kI,.sl E9],.g [kI,kS,kI,.sl E9]],fun x0 x1 x2 x3 x4 x5 x6 x7=>⟨⟨none,.bool (Mx x0 x1 x2 x3 x4 x5 x6 x7)⟩⟩⟩
theorem awd:ba 53 amZ:=bf Tryz.func53
 fun(x0:Int) x1 _ (x2:Int) x3 _ _ (x4:Int) x5 _ (x6:Int) x7 _ _=>bj ⟨.pure,[.tmp 4],[(.t 0,kB)],⟨[U],[]⟩⟩ (.ai (.j ⟨16,[.b 0,.b 1],[(.t 4,kB)],[],.f⟩ .z .z)) True (bU (aH ahH aQ)) Tryz.func53 (trivial)
def yD(x3:Sl ar):Bool:=(bif(x0 !=x2)then true else((x1.n:Int)!=(x3.n:Int)))
def Hd(x3:Sl ar)(fI:Int):Bool:=(bif(!(((x1.at' (toNat fI)).c0:ag).toList==((x3.at' (toNat fI)).c0:ag).toList))then true else(bif((x1.at' (toNat fI)).c7 !=(x3.at' (toNat fI)).c7)then true else(!(Mz (x1.at' (toNat fI)).c1 (x1.at' (toNat fI)).c2 (x1.at' (toNat fI)).c3 (x1.at' (toNat fI)).c4 (x1.at' (toNat fI)).c5 (x1.at' (toNat fI)).c6 (x3.at' (toNat fI)).c1 (x3.at' (toNat fI)).c2 (x3.at' (toNat fI)).c3 (x3.at' (toNat fI)).c4 (x3.at' (toNat fI)).c5 (x3.at' (toNat fI)).c6))))
def CB(x1:Sl ar)(x3:Sl ar):Nat→Int→Bool×Bool
 |0,_=>default
 |k+1,fI=>(bif(decide (fI<(x1.n:Int)))then(bif(Hd x1 x3 fI)then(true,false)else(CB x1 x3 k (i64.wrap (fI+1))))else(false,default))
def U1(x3:Sl ar):Bool×Bool:=CB x1 x3 ((toNat ((x1.n:Int)-0))+1) 0
def afS(x3:Sl ar):Bool:=(bif(U1 x1 x3).1 then false else true)
def Mw(x3:Sl ar):Bool:=(bif(yD x0 x1 x2 x3)then false else(bif(afS x1 x3)then true else(U1 x1 x3).2))
def amY:Fq:=⟨[.g [kI,.sl aZ],.g [kI,.sl aZ]],fun x0 x1 x2 x3=>⟨⟨none,.bool (Mw x0 x1 x2 x3)⟩⟩⟩
theorem awc:ba 52 amY:=bf Tryz.func52
 fun(x0:Int) x1 n1 _ (x2:Int) x3 n3 _=>bj ⟨.pure,[.tmp 4],[(.t 0,kB)],⟨[U],[]⟩⟩ (.ai (.s (.j ⟨2097180,[],[(.t 21,kB)],[],.f⟩ .z .z) (.j ⟨16,[],[],[],.f⟩ (.ai (.lp ⟨60,[],[],[(.t 5,kI)],some 0,true,16,[.b 0,.b 1],[],fun k (s:Int)=>CB x1 x3 k s,.f,fun(s:Int)=>(0≤s∧s≤(x1.n:Int)),fun(s:Int)=>(toNat ((x1.n:Int)-s)),none⟩ (.ai (.s (.ai (.ai (.j ⟨291643259837481212,[],[(.t 44,kB),(.t 50,kB),(.t 51,kB),(.t 58,kB)],[(.b .f .l),(.b .f .l),.f,.f],.f⟩ .z .z))) .z)))) .z))) ((yD x0 x1 x2 x3)=false→(((0≤(0:Int)∧(0:Int)≤(x1.n:Int)))∧(∀(fI:Int),let z8:=decide (fI<(x1.n:Int));let z6:=i64.wrap (fI+1);(0≤fI∧fI≤(x1.n:Int))→((z8=true→(((0:Int)≤fI∧fI<(x1.n:Int))∧((0:Int)≤fI∧fI<(x3.n:Int))))∧(z8=true→((Hd x1 x3 fI)=false→((0≤z6∧z6≤(x1.n:Int))∧(toNat ((x1.n:Int)-z6))<(toNat ((x1.n:Int)-fI))))))))) (bU (aH awg aQ)) Tryz.func52 ((fun h1=>⟨(by have:=h1;simp [yD]at this;omega),(fun fI jk=>⟨(fun h3=>⟨(by have:=h1;simp [yD]at this;have:=ay h3;omega),(by have:=h1;simp [yD]at this;have:=ay h3;omega)⟩),(fun h4=>(fun h5=>(by have:=h1;simp [yD]at this;have:=ay h4;have:=h5;simp [Hd]at this;first|omega|(have:=aq (fI+1);omega))))⟩)⟩))
def yB(x5:Sl ar)(x6:Int)(x7:Sl aG):Bool:=(bif(x2 !=x6)then true else(bif(!(Mw x0 x1 x4 x5))then true else((x3.n:Int)!=(x7.n:Int))))
def Hc(bC:Int):Bool:=(bif((x3.at' (toNat bC)).c0 !=(x7.at' (toNat bC)).c0)then true else(bif((x3.at' (toNat bC)).c1 !=(x7.at' (toNat bC)).c1)then true else(bif((x3.at' (toNat bC)).c2 !=(x7.at' (toNat bC)).c2)then true else(!(Mx (x3.at' (toNat bC)).c3 (x3.at' (toNat bC)).c4 (x3.at' (toNat bC)).c5 (x3.at' (toNat bC)).c6 (x7.at' (toNat bC)).c3 (x7.at' (toNat bC)).c4 (x7.at' (toNat bC)).c5 (x7.at' (toNat bC)).c6)))))
def Cz(x3:Sl aG)(x7:Sl aG):Nat→Int→Bool×Bool
 |0,_=>default
 |k+1,bC=>(bif(decide (bC<(x3.n:Int)))then(bif(Hc x3 x7 bC)then(true,false)else(Cz x3 x7 k (i64.wrap (bC+1))))else(false,default))
def U0:Bool×Bool:=Cz x3 x7 ((toNat ((x3.n:Int)-0))+1) 0
def afN:Bool:=(bif(U0 x3 x7).1 then false else true)
def Mq(x5:Sl ar)(x6:Int)(x7:Sl aG):Bool:=(bif(yB x0 x1 x2 x3 x4 x5 x6 x7)then false else(bif(afN x3 x7)then true else(U0 x3 x7).2))
def amW:Fq:=⟨[.g [kI,.sl aZ,kI,.sl bG],.g [kI,.sl aZ,kI,.sl bG]],fun x0 x1 x2 x3 x4 x5 x6 x7=>⟨⟨none,.bool (Mq x0 x1 x2 x3 x4 x5 x6 x7)⟩⟩⟩
theorem awa:ba 39 amW:=bf Tryz.func39
 fun(x0:Int) x1 n1 _ (x2:Int) x3 n3 _ (x4:Int) x5 n5 _ (x6:Int) x7 n7 _=>bj ⟨.pure,[.tmp 4],[(.t 0,kB)],⟨[U],[]⟩⟩ (.ai (.s (.j ⟨536870940,[],[(.t 29,kB)],[],.f⟩ .z .z) (.j ⟨16,[],[],[],.f⟩ (.ai (.lp ⟨60,[],[],[(.t 5,kI)],some 0,true,16,[.b 0,.b 1],[],fun k (s:Int)=>Cz x3 x7 k s,.f,fun(s:Int)=>(0≤s∧s≤(x3.n:Int)),fun(s:Int)=>(toNat ((x3.n:Int)-s)),none⟩ (.ai (.s (.ai (.ai (.j ⟨9556287128405104656636,[],[(.t 52,kB),(.t 58,kB),(.t 59,kB),(.t 65,kB),(.t 66,kB),(.t 73,kB)],[(.b .f .l),(.b .f .l),(.b .f (.b .f .l)),(.b .f (.b .f .l)),.f,.f],.f⟩ .z .z))) .z)))) .z))) ((yB x0 x1 x2 x3 x4 x5 x6 x7)=false→(((0≤(0:Int)∧(0:Int)≤(x3.n:Int)))∧(∀(bC:Int),let z8:=decide (bC<(x3.n:Int));let z6:=i64.wrap (bC+1);(0≤bC∧bC≤(x3.n:Int))→((z8=true→(((0:Int)≤bC∧bC<(x3.n:Int))∧((0:Int)≤bC∧bC<(x7.n:Int))))∧(z8=true→((Hc x3 x7 bC)=false→((0≤z6∧z6≤(x3.n:Int))∧(toNat ((x3.n:Int)-z6))<(toNat ((x3.n:Int)-bC))))))))) (bU (aH awc (aH awd aQ))) Tryz.func39 ((fun h1=>⟨(by have:=h1;simp [yB]at this;omega),(fun bC jk=>⟨(fun h3=>⟨(by have:=h1;simp [yB]at this;have:=ay h3;omega),(by have:=h1;simp [yB]at this;have:=ay h3;omega)⟩),(fun h4=>(fun h5=>(by have:=h1;simp [yB]at this;have:=ay h4;have:=h5;simp [Hc]at this;first|omega|(have:=aq (bC+1);omega))))⟩)⟩))
def UZ(x5:Sl ar)(x6:Int)(x7:Sl aG):Bool:=(Mq x0 x1 x2 x3 x4 x5 x6 x7)
def amU:Fq:=⟨[.g [kI,.sl aZ,kI,.sl bG],.g [kI,.sl aZ,kI,.sl bG]],fun x0 x1 x2 x3 x4 x5 x6 x7=>⟨⟨none,.bool (UZ x0 x1 x2 x3 x4 x5 x6 x7)⟩⟩⟩
theorem av9:ba 27 amU:=bf Tryz.func27
 fun(x0:Int) x1 _ _ (x2:Int) x3 _ _ (x4:Int) x5 _ _ (x6:Int) x7 _ _=>bj ⟨.pure,[.tmp 4],[(.t 0,kB)],⟨[U],[]⟩⟩ (.z) True (bU (aH awa aQ)) Tryz.func27 (trivial)
def yA(x1:Int)(x2:Sl aM)(x3:Int)(x4:Int)(x5:Sl aM):Bool:=(bif(x0 !=x3)then true else(bif(x1 !=x4)then true else((x2.n:Int)!=(x5.n:Int))))
def Cw(x2:Sl aM)(x5:Sl aM):Nat→Int→Bool×Bool
 |0,_=>default
 |k+1,bC=>(bif(decide (bC<(x2.n:Int)))then(bif(!(((x2.at' (toNat bC)).c0==(x5.at' (toNat bC)).c0)&&(((x2.at' (toNat bC)).c1==(x5.at' (toNat bC)).c1)&&(((x2.at' (toNat bC)).c2==(x5.at' (toNat bC)).c2)&&(((x2.at' (toNat bC)).c3==(x5.at' (toNat bC)).c3)&&(((x2.at' (toNat bC)).c4==(x5.at' (toNat bC)).c4)&&(((x2.at' (toNat bC)).c5==(x5.at' (toNat bC)).c5)&&((((x2.at' (toNat bC)).c6:ag).toList==((x5.at' (toNat bC)).c6:ag).toList)&&((((x2.at' (toNat bC)).c7:ag).toList==((x5.at' (toNat bC)).c7:ag).toList)&&((((x2.at' (toNat bC)).c8:ag).toList==((x5.at' (toNat bC)).c8:ag).toList)&&(((x2.at' (toNat bC)).c9==(x5.at' (toNat bC)).c9)&&true)))))))))))then(true,false)else(Cw x2 x5 k (i64.wrap (bC+1))))else(false,default))
def UW(x2:Sl aM)(x5:Sl aM):Bool×Bool:=Cw x2 x5 ((toNat ((x2.n:Int)-0))+1) 0
def afK(x2:Sl aM)(x5:Sl aM):Bool:=(bif(UW x2 x5).1 then false else true)
def L6(x1:Int)(x2:Sl aM)(x3:Int)(x4:Int)(x5:Sl aM):Bool:=(bif(yA x0 x1 x2 x3 x4 x5)then false else(bif(afK x2 x5)then true else(UW x2 x5).2))
def amO:Fq:=⟨[.g [kI,kI,.sl cZ],.g [kI,kI,.sl cZ]],fun x0 x1 x2 x3 x4 x5=>⟨⟨none,.bool (L6 x0 x1 x2 x3 x4 x5)⟩⟩⟩
theorem av5:ba 20 amO:=bf Tryz.func20
 fun(x0:Int) (x1:Int) x2 n2 _ (x3:Int) (x4:Int) x5 n5 _=>bj ⟨.pure,[.tmp 4],[(.t 0,kB)],⟨[U],[]⟩⟩ (.ai (.s (.j ⟨67108892,[],[(.t 26,kB)],[],.f⟩ .z .z) (.j ⟨16,[],[],[],.f⟩ (.ai (.lp ⟨60,[],[],[(.t 5,kI)],some 0,true,16,[.b 0,.b 1],[],fun k (s:Int)=>Cw x2 x5 k s,.f,fun(s:Int)=>(0≤s∧s≤(x2.n:Int)),fun(s:Int)=>(toNat ((x2.n:Int)-s)),none⟩ .z)) .z))) ((yA x0 x1 x2 x3 x4 x5)=false→(((0≤(0:Int)∧(0:Int)≤(x2.n:Int)))∧(∀(bC:Int),let zc:=decide (bC<(x2.n:Int));let zb:=i64.wrap (bC+1);let z6:=toNat bC;let za:=x5.at' z6;let z8:=x2.at' z6;(0≤bC∧bC≤(x2.n:Int))→((zc=true→(((0:Int)≤bC∧bC<(x2.n:Int))∧((0:Int)≤bC∧bC<(x5.n:Int))))∧(zc=true→((!((z8.c0==za.c0)&&((z8.c1==za.c1)&&((z8.c2==za.c2)&&((z8.c3==za.c3)&&((z8.c4==za.c4)&&((z8.c5==za.c5)&&(((z8.c6:ag).toList==(za.c6:ag).toList)&&(((z8.c7:ag).toList==(za.c7:ag).toList)&&(((z8.c8:ag).toList==(za.c8:ag).toList)&&((z8.c9==za.c9)&&true)))))))))))=false→((0≤zb∧zb≤(x2.n:Int))∧(toNat ((x2.n:Int)-zb))<(toNat ((x2.n:Int)-bC))))))))) fK Tryz.func20 ((fun h1=>⟨(by have:=h1;simp [yA]at this;omega),(fun bC jk=>⟨(fun h3=>⟨(by have:=h1;simp [yA]at this;have:=ay h3;omega),(by have:=h1;simp [yA]at this;have:=ay h3;omega)⟩),(fun h4=>(fun h5=>(by have:=h1;simp [yA]at this;have:=ay h4;first|omega|(have:=aq (bC+1);omega))))⟩)⟩))
def afM(x0:Bool)(x1:Int)(x2:Bool)(x3:Int)(x4:Int)(x5:Int)(x6:Sl aM)(x7:Int)(x8:Sl ar)(x9:Int)(au:Sl aG)(a_:Bool)(bF:Int)(bL:Bool)(bY:Int)(c_:Int)(cV:Int)(cO:Sl aM)(cW:Int)(cP:Sl ar)(gf:Int)(gh:Sl aG):Bool:=(bif(x0==a_)then(bif(x1==bF)then(bif(x2==bL)then(bif(x3==bY)then(bif(L6 x4 x5 x6 c_ cV cO)then(UZ x7 x8 x9 au cW cP gf gh)else false)else false)else false)else false)else false)
def Hb(x0:Bool)(x1:Int)(x2:Bool)(x3:Int)(x4:Int)(x5:Int)(x6:Sl aM)(x7:Int)(x8:Sl ar)(x9:Int)(au:Sl aG)(a_:Bool)(bF:Int)(bL:Bool)(bY:Int)(c_:Int)(cV:Int)(cO:Sl aM)(cW:Int)(cP:Sl ar)(gf:Int)(gh:Sl aG):Bool:=(afM x0 x1 x2 x3 x4 x5 x6 x7 x8 x9 au a_ bF bL bY c_ cV cO cW cP gf gh)
def amR:Fq:=⟨[.g [kB,kI,kB,kI,kI,kI,.sl cZ,kI,.sl aZ,kI,.sl bG],.g [kB,kI,kB,kI,kI,kI,.sl cZ,kI,.sl aZ,kI,.sl bG]],fun x0 x1 x2 x3 x4 x5 x6 x7 x8 x9 au a_ bF bL bY c_ cV cO cW cP gf gh=>⟨⟨none,.bool (Hb x0 x1 x2 x3 x4 x5 x6 x7 x8 x9 au a_ bF bL bY c_ cV cO cW cP gf gh)⟩⟩⟩
theorem av7:ba 22 amR:=bf Tryz.func22
 fun x0 (x1:Int) x2 (x3:Int) (x4:Int) (x5:Int) x6 _ _ (x7:Int) x8 _ _ (x9:Int) au _ _ a_ (bF:Int) bL (bY:Int) (c_:Int) (cV:Int) cO _ _ (cW:Int) cP _ _ (gf:Int) gh _ _=>bj ⟨.pure,[.tmp 4],[(.t 0,kB)],⟨[U],[]⟩⟩ (.ai (.j ⟨16,[.b 0,.b 1],[(.t 4,kB)],[],.f⟩ .z .z)) True (bU (aH av5 (aH av9 aQ))) Tryz.func22 (trivial)
def Cy(x0:Sl fW)(x4:Sl fW):Nat→Int→Bool×Bool
 |0,_=>default
 |k+1,af=>(bif(decide (af<3))then(bif(!(Hb (x0.at' (toNat af)).c0 (x0.at' (toNat af)).c1 (x0.at' (toNat af)).c2 (x0.at' (toNat af)).c3 (x0.at' (toNat af)).c4 (x0.at' (toNat af)).c5 (x0.at' (toNat af)).c6 (x0.at' (toNat af)).c7 (x0.at' (toNat af)).c8 (x0.at' (toNat af)).c9 (x0.at' (toNat af)).cF (x4.at' (toNat af)).c0 (x4.at' (toNat af)).c1 (x4.at' (toNat af)).c2 (x4.at' (toNat af)).c3 (x4.at' (toNat af)).c4 (x4.at' (toNat af)).c5 (x4.at' (toNat af)).c6 (x4.at' (toNat af)).c7 (x4.at' (toNat af)).c8 (x4.at' (toNat af)).c9 (x4.at' (toNat af)).cF))then(true,false)else(Cy x0 x4 k (i64.wrap (af+1))))else(false,default))
def UX(x0:Sl fW)(x4:Sl fW):Bool×Bool:=Cy x0 x4 ((toNat (3-0))+1) 0
def afL(x0:Sl fW)(x4:Sl fW):Bool:=(bif(UX x0 x4).1 then false else true)
def L7(x0:Sl fW)(x4:Sl fW):Bool:=(bif(afL x0 x4)then true else(UX x0 x4).2)
def amP:Fq:=⟨[.g [.sl wU,.sl jf,.sl cr,kI],.g [.sl wU,.sl jf,.sl cr,kI]],fun x0 _ _ _ x4 _ _ _=>⟨⟨some (3≤(x0.n:Int)∧3≤(x4.n:Int)),.bool (L7 x0 x4)⟩⟩⟩
theorem azN:Jl 21 amP:=
 fun x0 n0 _ x1 n1 _ x2 n2 _ (x3:Int) x4 n4 _ x5 n5 _ x6 n6 _ (x7:Int) hp=>bj ⟨.pure,[.tmp 4],[(.t 0,kB)],⟨[U],[]⟩⟩ (.ai (.j ⟨16,[],[],[],.f⟩ (.ai (.lp ⟨60,[],[],[(.t 5,kI)],some 0,true,16,[.b 0,.b 1],[],fun k (s:Int)=>Cy x0 x4 k s,.f,fun(s:Int)=>(0≤s∧s≤3),fun(s:Int)=>(toNat (3-s)),none⟩ .z)) .z)) (((0≤(0:Int)∧(0:Int)≤3))∧(∀(af:Int),let zb:=i64.wrap (af+1);let z6:=toNat af;let za:=x4.at' z6;let z8:=x0.at' z6;(0≤af∧af≤3)→(((decide (af<3))=true→(((0:Int)≤af∧af<(x0.n:Int))∧((0:Int)≤af∧af<(x4.n:Int))))∧((decide (af<3))=true→((!(Hb z8.c0 z8.c1 z8.c2 z8.c3 z8.c4 z8.c5 z8.c6 z8.c7 z8.c8 z8.c9 z8.cF za.c0 za.c1 za.c2 za.c3 za.c4 za.c5 za.c6 za.c7 za.c8 za.c9 za.cF))=false→((0≤zb∧zb≤3)∧(toNat (3-zb))<(toNat (3-af)))))))) (bU (aH av7 aQ)) Tryz.func21 (have⟨cn,dv⟩:=hp;⟨(by omega),(fun af dX=>⟨(fun h2=>⟨(by have:=ay h2;omega),(by have:=ay h2;omega)⟩),(fun h3=>(fun h4=>(by have:=ay h3;first|omega|(have:=aq (af+1);omega))))⟩)⟩)
end
theorem abj{β:Type}(F:Nat→Int→Bool×β)(n:Nat)(hn:n≤549755813888)(hF: ∀k (i:Int),0≤i→i<(n:Int)→F (k+1) i=F k (i64.wrap (i+1)))(hE: ∀k,(F (k+1) (n:Int)).1=false): ∀(m fu:Nat) (i:Int),0≤i→i+(m:Int)=(n:Int)→m≤fu→(F (fu+1) i).1=false
 |0,fu,i,h0,hm,hf=>by
  rw[show i=(n:Int) by omega];exact hE fu
 |m+1,fu,i,h0,hm,hf=>by
  obtain⟨fu,rfl⟩: ∃q,fu=q+1:=⟨fu-1,by omega⟩;rw[hF _ _ h0 (by omega),aq _];exact abj F n hn hF hE m fu (i+1) (by omega) (by omega) (by omega)
theorem w9{β:Type}(F:Nat→Int→Bool×β)(n:Nat)(hn:n≤549755813888)(hF: ∀k (i:Int),0≤i→i<(n:Int)→F (k+1) i=F k (i64.wrap (i+1)))(hE: ∀k,(F (k+1) (n:Int)).1=false):(F ((toNat ((n:Int)-0))+1) 0).1=false:=
 abj F n hn hF hE n _ 0 (aCT _) (by omega) (by omega)
theorem neS(x:Int):(x !=x)=false:=by simp
theorem ai5(a:Sl ag)(hn:a.n≤549755813888):He a a=true:=by
 have h:=w9 (CG a a) a.n hn (fun k i h0 h1=>by rw[CG,cx h1];simp) (fun k=>by rw[CG,cq (aD1 _)];rfl);have h:(U5 a a).1=false:=h;unfold He afV;rw[neS,h];rfl
theorem az2(x0:Int)(x1:ag)(x2:Int)(a:Sl bk)(b:Sl ag)(c:Sl bD)(ha:a.n≤549755813888)(hb:b.n≤549755813888)(hc:c.n≤549755813888):Mz x0 x1 x2 a b c x0 x1 x2 a b c=true:=by
 have h1:=w9 (CF a a) a.n ha (fun k i h0 h1=>by rw[CF,cx h1];simp) (fun k=>by rw[CF,cq (aD1 _)];rfl);have h2:=w9 (CD c c) c.n hc (fun k i h0 h1=>by rw[CD,cx h1];simp) (fun k=>by rw[CD,cq (aD1 _)];rfl);have h1:(U3 a a).1=false:=h1;have h2:(U4 c c).1=false:=h2;have h3:=ai5 b hb;unfold Mz U2 afU pN;rw[h1,h2];simp [h3]
theorem az1(x0:Int)(x1:ag)(x2:Int)(b:Sl ag)(hb:b.n≤549755813888):Mx x0 x1 x2 b x0 x1 x2 b=true:=by
 unfold Mx afT;simp [ai5 b hb]
theorem az0(x0:Int)(a:Sl ar)(h:CZ a):Mw x0 a x0 a=true:=by
 have h1:=w9 (CB a a) a.n h.1 (fun k i h0 h1=>by
  have q:=h.2 (toNat i) (by omega);have e:Hd a a i=false:=by
   unfold Hd;rw[az2 _ _ _ _ _ _ q.1 q.2.1 q.2.2];simp
  rw[CB,cx h1,e];rfl) (fun k=>by rw[CB,cq (aD1 _)];rfl)
 have h1:(U1 a a).1=false:=h1;unfold Mw afS yD;rw[h1];simp
theorem azZ(x0:Int)(a:Sl ar)(x2:Int)(b:Sl aG)(h:CZ a)(k:CY b):Mq x0 a x2 b x0 a x2 b=true:=by
 have h1:=w9 (Cz b b) b.n k.1 (fun m i h0 h1=>by
  have q:=k.2 (toNat i) (by omega);have e:Hc b b i=false:=by
   unfold Hc;rw[az1 _ _ _ _ q];simp
  rw[Cz,cx h1,e];rfl) (fun k=>by rw[Cz,cq (aD1 _)];rfl)
 have h1:(U0 b b).1=false:=h1;unfold Mq afN yB;rw[h1,az0 _ _ h];simp
theorem azW(x0 x1:Int)(a:Sl aM)(hn:a.n≤549755813888):L6 x0 x1 a x0 x1 a=true:=by
 have h:=w9 (Cw a a) a.n hn (fun k i h0 h1=>by rw[Cw,cx h1];simp) (fun k=>by rw[Cw,cq (aD1 _)];rfl);have h:(UW a a).1=false:=h;unfold L6 afK yA;rw[h];simp
theorem azY(x0:Bool)(x1:Int)(x2:Bool)(x3 x4 x5:Int)(x6:Sl aM)(x7:Int)(x8:Sl ar)(x9:Int)(au:Sl aG)(h6:x6.n≤549755813888)(h8:CZ x8)(dJ:CY au):Hb x0 x1 x2 x3 x4 x5 x6 x7 x8 x9 au x0 x1 x2 x3 x4 x5 x6 x7 x8 x9 au=true:=by
 unfold Hb afM UZ;simp [azW x4 x5 x6 h6,azZ x7 x8 x9 au h8 dJ]
def VwB(v:fW):Prop:=v.c6.n≤549755813888∧CZ v.c8∧CY v.cF
theorem azX(a:Sl fW)(hb: ∀i,i<3→VwB (a.at' i)):L7 a a=true:=by
 have h1:=w9 (Cy a a) 3 (by decide) (fun k i h0 h1=>by
  have q:=hb (toNat i) (by omega);rw[Cy,cx (show i<3 from h1),azY _ _ _ _ _ _ _ _ _ _ _ q.1 q.2.1 q.2.2];rfl) (fun k=>by rw[Cy];rfl)
 have h1:(UX a a).1=false:=h1;unfold L7 afL;rw[h1];rfl
theorem apr{a:Sl fW}(h:fJ (aL 11 E_ a)){i:Nat}(hi:i<a.n):VwB (a.at' i):=
 ⟨(h.at (j:=6) (x:=aL 10 dH (a.at' i).c6) hi (by omega) rfl).len,Bh (h.at (j:=8) (x:=aL 8 gn (a.at' i).c8) hi (by omega) rfl),Fo (h.at (j:=10) (x:=aL 7 gP (a.at' i).cF) hi (by omega) rfl)⟩
def wV(a b:Sl fW):Prop:=a=b∧3≤a.n
def amQ:Fq:=⟨[.g [.sl wU,.sl jf,.sl cr,kI],.g [.sl wU,.sl jf,.sl cr,kI]],fun x0 _ _ _ x4 _ _ _=>⟨⟨some (wV x0 x4),.bool true⟩⟩⟩
theorem av6:ba 21 amQ:=bf Tryz.func21
 fun x0 n0 f0 x1 n1 f1 x2 n2 f2 x3 x4 n4 f4 x5 n5 f5 x6 n6 f6 x7 hp=>by
  obtain⟨e,h3⟩:=hp;subst e;have h:fk Tryz.prog 21 _ (AV.bool (L7 x0 x0)):=azN x0 n0 f0 x1 n1 f1 x2 n2 f2 x3 x0 n4 f4 x5 n5 f5 x6 n6 f6 x7 ⟨by omega,by omega⟩;rw[azX x0 fun i hi=>apr f0 (by omega)]at h;exact h
end Go.Proofs.YtfmgjpcmcjjoiaaGreatDoor
