/- Part of a proof: walks of the program. -/
import Derived.Test.YtfmgjpcmcjjoiaaGreatDoorXv
import Derived.Test.YtfmgjpcmcjjoiaaGreatDoorXx
import Derived.Test.YtfmgjpcmcjjoiaaGreatDoorXy
open Go.IntKind (i64 u64 u8)
open Int (toNat)
set_option maxRecDepth 100000
set_option maxHeartbeats 4000000
set_option linter.all false
noncomputable section
namespace Go.Proofs.YtfmgjpcmcjjoiaaGreatDoor
open Go Go.RowKit Go.Vc
theorem YG{x0 x1 x3:Int}{x2:Sl aM}(h0:0≤x0)(hb:x0+(x2.n:Int)≤1048576)(hn:x2.n≤200)(h3:0≤x3∧x3≤1048576)(hl:dN x2):
  (0≤tS x0 x1 x2 x3∧tS x0 x1 x2 x3≤x3)∧(vS x0 x1 x2 x3).n≤200∧tS x0 x1 x2 x3+((vS x0 x1 x2 x3).n:Int)≤1048576∧dN (vS x0 x1 x2 x3):=by
 unfold tS vS;have z:((al:Sl aM).n:Int)=0:=rfl;have z':(al:Sl aM).n=0:=rfl
 cases (cK x0 x1 x2 !=0)
 ·simp only[aCI]
  cases e:(jD x0 x2 x3 !=0)
  ·simp only[aCI];have k:=AX x0 x2 x3 ⟨bE e,⟨h0,by omega⟩,by omega,by omega⟩;rw[aq (x3-x0),Sl.An];exact⟨⟨h3.1,aCT _⟩,by omega,by omega,zX hl _ _⟩
  ·simp only[aCJ];exact⟨⟨aCT _,h3.1⟩,by omega,by omega,mK⟩
 ·simp only[aCJ];exact⟨⟨aCT _,h3.1⟩,by omega,by omega,mK⟩
theorem r97{x0 x1 x3 x4 x5 x7:Int}{x2:Sl aM}{x6:Sl ar}{x8:Sl aG}(h0:0≤x0)(hb:x0+(x2.n:Int)≤1048576)(hn:x2.n≤200)(h3:0≤x3∧x3≤1048576)(hl:dN x2):
  (0≤yT x0 x1 x2 x3 x4 x5 x6 x7 x8∧yT x0 x1 x2 x3 x4 x5 x6 x7 x8≤x3)∧(yU x0 x1 x2 x3 x4 x5 x6 x7 x8).n≤200∧yT x0 x1 x2 x3 x4 x5 x6 x7 x8+((yU x0 x1 x2 x3 x4 x5 x6 x7 x8).n:Int)≤1048576∧dN (yU x0 x1 x2 x3 x4 x5 x6 x7 x8):=by
 unfold yT yU;have z:((al:Sl aM).n:Int)=0:=rfl;have z':(al:Sl aM).n=0:=rfl
 cases (cK x0 x1 x2 !=0)
 ·simp only[aCI]
  cases (rB x3 x4 x5 x6 x7 x8 !=0)
  ·simp only[aCI];unfold vt xJ
   cases qY x0 x1 x2 x3 x4
   ·simp only[aCI];exact⟨⟨h3.1,aCT _⟩,by omega,by omega,mK⟩
   ·simp only[aCJ];exact YG h0 hb hn h3 hl
  ·simp only[aCJ];exact⟨⟨aCT _,h3.1⟩,by omega,by omega,mK⟩
 ·simp only[aCJ];exact⟨⟨aCT _,h3.1⟩,by omega,by omega,mK⟩
theorem at2{ms:aF}{nd:Nd}(h:bM nd)(hm:ie ms):bM (xV ms nd):=by
 have hi:=h.i;have hs:bM (vI ms nd):=by
  refine⟨?_,h.o⟩
  by_cases c:ms.c9>nd.co
  ·have c3:0≤ms.c9∧ms.c9≤1048576:=hm.si;have r:=r97 (x1:=nd.lt) (x4:=ms.cF) (x5:=ms.cS) (x6:=ms.cD) (x7:=ms.di) (x8:=ms.bO) hi.lb hi.ll hi.ln c3 hi.li;have e1:(vI ms nd).lb=yT nd.lb nd.lt nd.li ms.c9 ms.cF ms.cS ms.cD ms.di ms.bO:=by
    show GI ms nd=_;unfold GI;rw[cx c];rfl
   have e3:(vI ms nd).li=yU nd.lb nd.lt nd.li ms.c9 ms.cF ms.cS ms.cD ms.di ms.bO:=by
    show GM ms nd=_;unfold GM;rw[cx c];rfl
   have e4:(vI ms nd).si=ms.c9:=by
    show GN ms nd=_;unfold GN;rw[cx c];rfl
   have JS:(vI ms nd).co=ms.c9:=by
    show GJ ms nd=_;unfold GJ;rw[cx c];rfl
   have Su:U8 (vI ms nd).td:=by
    show U8 (GK ms nd);unfold GK;rw[cx c];exact wN hi.u8
   exact⟨hi.me,by rw[e1];exact r.1.1,by rw[e1,JS];exact r.1.2,by rw[JS];exact c3.2,by rw[e3];exact r.2.1,by rw[e1,e3];exact r.2.2.1,hi.ws,hi.pp,by rw[e3];exact r.2.2.2,Su,by rw[e4];exact hm.si,hi.qq⟩
  ·have e: ∀{α:Type} (a b:α),(bif decide (ms.c9>nd.co)then a else b)=b:=fun a b=>by rw[cq c];rfl
   refine hi.iG _ ?_ ?_ hi.ws
   ·show(nd.me,GI ms nd,GJ ms nd,GM ms nd,nd.p0,nd.p1,nd.p2,GN ms nd,nd.q0,nd.q1,nd.q2)=_;unfold GI GJ GM GN;simp only[e]
   ·show U8 (GK ms nd);unfold GK;rw[e];exact hi.u8
 unfold xV;have hc:0≤ms.c0∧ms.c0<3:=hm.fr;exact oA (fun _=>qd hs hc (wG hm.si)) fun _=>ahe h
theorem ahP(x0:Int)(nd:Nd)(hw:nd.ws.n≤3000)(hx:x0≤1048576): ∀(k:Nat) (a:Int) (b:Sl ar) (c:Int) (d:Sl aG) (v:Int) (s:Sl bI),0≤v→v≤1048576→toNat (x0-v)<k→
  v≤(rp x0 nd k a b c d v s).2.2.2.2.1∧((rp x0 nd k a b c d v s).2.2.2.2.1=v∨(rp x0 nd k a b c d v s).2.2.2.2.1≤x0)∧(((rp x0 nd k a b c d v s).2.2.2.2.2.n:Nat):Int)≤(s.n:Int)+3000*((rp x0 nd k a b c d v s).2.2.2.2.1-v)
 |0,_,_,_,_,_,_,_,_,hk=>absurd hk (fC _)
 |k+1,a,b,c,d,v,s,h0,h1,hk=>by
  rw[rp]
  by_cases e:v<x0
  ·rw[cx e,aCJ,aq (v+1)];have hn:=ail nd a b c d v s (by omega);have ih:=ahP x0 nd hw hx k (UN nd a b c d v) (UO nd a b c d v) (UP nd a b c d v) (UQ nd a b c d v) (v+1) (L0 nd a b c d v s).2.1 (by omega) (by omega) (by omega);obtain⟨i3,i4,i5⟩:=ih;refine⟨by omega,?_,?_⟩
   ·rcases i4 with i4|i4
    ·exact .inr (by omega)
    ·exact .inr i4
   ·omega
  ·rw[cq e,aCI];refine⟨aCT _,.inl rfl,?_⟩;show(s.n:Int)≤(s.n:Int)+3000*(v-v);omega
theorem ahf{x0:Int}{nd:Nd}{kt:Sl bI}(h:bM nd)(hx:x0≤nd.lb+(nd.li.n:Int)):bM (x_ x0 nd kt)∧(((yl x0 nd kt).n:Nat):Int)≤(kt.n:Int)+600000:=by
 have hi:=h.i;have cQ:x0≤1048576:=by have:=hi.ll;omega
 have h0:0≤nd.co:=by have:=hi.lb;have:=hi.bc;omega
 obtain⟨i3,i4,i5⟩:=ahP x0 nd hi.ws cQ (toNat (x0-nd.co)+1) nd.mn nd.mE nd.mx nd.mc nd.co kt h0 hi.co (by omega);have hr:rp x0 nd (toNat (x0-nd.co)+1) nd.mn nd.mE nd.mx nd.mc nd.co kt=Cp x0 nd kt:=rfl;rw[hr]at i3 i4 i5;have hln:=hi.ln;have hbc:=hi.bc;have hco:=hi.co;refine⟨⟨⟨hi.me,hi.lb,?_,?_,hi.ln,hi.ll,hi.ws,hi.pp,hi.li,hi.u8,hi.si,hi.qq⟩,h.o⟩,?_⟩
 ·show nd.lb≤(Cp x0 nd kt).2.2.2.2.1;omega
 ·show(Cp x0 nd kt).2.2.2.2.1≤1048576;omega
 ·show(((Cp x0 nd kt).2.2.2.2.2.n:Nat):Int)≤_;omega
theorem Xp{nd:Nd}{ka:Sl aF}{kt:Sl bI}{kl:Sl aS}(hi:iO nd): ∀(k:Nat) (v:Int),v≤nd.lb+(nd.li.n:Int)→
  (vM nd ka kt kl k v).1=false∨ ∃p,p≤nd.lb+(nd.li.n:Int)∧vM nd ka kt kl k v=(true,D9 (x_ p nd kt) ka (yl p nd kt) kl)
 |0,_,_=> .inl rfl
 |k+1,v,hv=>by
  rw[vM]
  by_cases e:v>nd.co
  ·rw[cx e,aCJ]
   cases yp nd v
   ·rw[aCI,wrap64 (x:=v-1) (by have:=hi.lb;have:=hi.bc;omega) (by have:=hi.ll;omega)];exact Xp hi k (v-1) (by omega)
   ·exact .inr ⟨v,hv,rfl⟩
  ·rw[cq e,aCI];exact .inl rfl
theorem at7{nd:Nd}{ka:Sl aF}{kt:Sl bI}{kl:Sl aS}(h:bM nd):bM (tM nd ka kt kl)∧ym nd ka kt kl=ka∧(((yo nd ka kt kl).n:Nat):Int)≤(kt.n:Int)+600000∧yn nd ka kt kl=kl:=by
 have hb:=JB nd ⟨h.i.lb,by have:=h.i.ll;omega⟩;have hl:=Xp (ka:=ka) (kt:=kt) (kl:=kl) h.i (toNat (cy nd-nd.co)+1) (cy nd) hb.2;have hr:vM nd ka kt kl (toNat (cy nd-nd.co)+1) (cy nd)=rq nd ka kt kl:=rfl;rw[hr]at hl;unfold tM ym yo yn;rw[Nd.lX];rcases hl with e|⟨p,hp,e⟩
 ·rw[e];exact⟨h,rfl,by simp only[aCI];omega,rfl⟩
 ·rw[e];have hd:=ahf (kt:=kt) h hp;exact⟨hd.1,rfl,hd.2,rfl⟩
section
variable(i:Nat)(ac:aK)(C:Cr)(nd:Nd)
def aqP(ka:Sl aF):Int:=(bif(decide ((ka.n:Int)>0))then(ac.c2.tmod (ka.n:Int))else(-1))
def Ua:Nd:=(xO (⟨ac.c3,ac.c4,ac.c5,ac.c6,ac.c7,ac.c8,ac.c9⟩:lR) nd)
def Ub(kt:Sl bI):Sl bI:=(B7 (⟨ac.c3,ac.c4,ac.c5,ac.c6,ac.c7,ac.c8,ac.c9⟩:lR) nd kt)
def PK:Hr:=⟨[.p 0,.g [kI,kI,kI,kI,kI,kI,kS,kS,kS,kI]],bP,eC,dS,fun(y0:Int) (y1:Int) (y2:Int) (y3:Int) (y4:Int) (y5:Int) y6 y7 y8 (y9:Int)=>cg fun C=>⟨⟨some (du C (⟨y0,y1,y2,y3,y4,y5,y6,y7,y8,y9⟩:aK)),[],bN [10,13,11,14,12,15,16,8,9] 7 (C.put i (Ua (⟨y0,y1,y2,y3,y4,y5,y6,y7,y8,y9⟩:aK) (C.nd i)) C.ax (Ub (⟨y0,y1,y2,y3,y4,y5,y6,y7,y8,y9⟩:aK) (C.nd i) C.told) C.aY)⟩⟩⟩
def ZZ:RS:=⟨.dY true [.b 10] [.own (.h 0 99) bK 16,.own (.h 0 29) cA 10,.own (.h 0 62) cA 11,.own (.h 0 95) cA 12,.own (.h 0 32) bK 13,.own (.h 0 65) bK 14,.own (.h 0 98) bK 15] (qB i [10,13,11,14,12,15,16,8,9] 7 [] 0 C) (qj i [10,13,11,14,12,15,16,8,9]),[],[]++pD i [10,13,11,14,12,15,16,8,9],⟨[],[]⟩⟩
def asb:Hn (ZZ i C).kd:=(.ai (.ai (.ai (.j ⟨57,[],[(.t 5,kI)],[],.f⟩ .z (.ck ⟨([.ptr 0 0,U,U,.ptr 10 0,.ptr 0 (33*i+0),ae (aqP ac C.ax)]++(us 135 ([]))),bS aJ 1 C [(10,[ae 1,ae (i:Int),ae ac.c2,ae ac.c3,ae ac.c4,ae ac.c5,.str ac.c6,.str ac.c7,.str ac.c8,ae ac.c9])]⟩ (.ai (.ai (.c true .z))))))))
def X9(i:Nat)(ac:aK)(C:Cr):Prop:=(((decide ((C.ax.n:Int)>0))=true→(((C.ax.n:Int):Int)≠0))∧(C.told.n≤549000000000∧ac.c6.size≤10000000000∧ac.c7.size≤10000000000∧ac.c8.size≤10000000000∧(C.nd i).ws.n≤549000000000))
theorem ayz(i:Nat)(hi:i<3)(ac:aK)(C:Cr)(hb:dA C)(n6:ac.c6.size≤549755813888)(n7:ac.c7.size≤549755813888)(n8:ac.c8.size≤549755813888)(hp:du C ac):X9 i ac C:=by
 have hN:=fR hb i hi;unfold fq at hN;unfold X9;exact have:=iz hp i;have:=(iz hp i).lb;have:=(iz hp i).ws;have:=mq hp;have:=hp.2.s6;have:=hp.2.s7;have:=hp.2.s8;have:=hp.2.pk;(⟨(fun h1=>(by have:=ay h1;omega)),(by omega)⟩)
theorem WZ(i:Nat)(hi:i<3)(ac:aK)(n6:ac.c6.size≤549755813888)(n7:ac.c7.size≤549755813888)(n8:ac.c8.size≤549755813888)(C:Cr)(hb:dA C)(hp:du C ac):fj Tryz.prog 31 ((PK i).args ([ae 1,ae (i:Int),ae ac.c2,ae ac.c3,ae ac.c4,ae ac.c5,.str ac.c6,.str ac.c7,.str ac.c8,ae ac.c9]++fX C)) ((PK i).hv (([ae 1,ae (i:Int),ae ac.c2,ae ac.c3,ae ac.c4,ae ac.c5,.str ac.c6,.str ac.c7,.str ac.c8,ae ac.c9]++fX C).drop (PK i).na)) [] (bN [10,13,11,14,12,15,16,8,9] 7 (C.put i (Ua ac (C.nd i)) C.ax (Ub ac (C.nd i) C.told) C.aY)):=by
 refine dD (ZZ i C) (asb i ac C) (X9 i ac C) (bB 10 aQ (az (avP i hi) bA)) Tryz.func31 [] ?_ ?_ (ayz i hi ac C hb n6 n7 n8 hp)
 ·rcases bJ hi with rfl|rfl|rfl<;>kernel_rfl
 ·rcases bJ hi with rfl|rfl|rfl<;>kernel_rfl
end
section
variable(i:Nat)(ac:aK)(C:Cr)(nd:Nd)(ka:Sl aF)
def aqR:Int:=(bif(decide ((ka.n:Int)>0))then(ac.c2.tmod (ka.n:Int))else(-1))
def Ue:Nd:=(Nd.bif nd.up (oY (⟨3,(i:Int),ac.c2,ac.c3,ac.c4,ac.c5,ac.c6,ac.c7,ac.c8,ac.c9⟩:aK) nd) nd)
def Uf:Sl aF:=(bif nd.up then(re (⟨3,(i:Int),ac.c2,ac.c3,ac.c4,ac.c5,ac.c6,ac.c7,ac.c8,ac.c9⟩:aK) nd ka)else ka)
def PM:Hr:=⟨[.p 0,.g [kI,kI,kI,kI,kI,kI,kS,kS,kS,kI]],bP,eC,dS,fun(y0:Int) (y1:Int) (y2:Int) (y3:Int) (y4:Int) (y5:Int) y6 y7 y8 (y9:Int)=>cg fun C=>⟨⟨some (du C (⟨y0,y1,y2,y3,y4,y5,y6,y7,y8,y9⟩:aK)),[],bN [10,13,11,14,12,15,16,8,9] 7 (C.put i (Ue i (⟨y0,y1,y2,y3,y4,y5,y6,y7,y8,y9⟩:aK) (C.nd i)) (Uf i (⟨y0,y1,y2,y3,y4,y5,y6,y7,y8,y9⟩:aK) (C.nd i) C.ax) C.told C.aY)⟩⟩⟩
def Z2:RS:=⟨.dY true [.b 10] [.own (.h 0 99) bK 16,.own (.h 0 29) cA 10,.own (.h 0 62) cA 11,.own (.h 0 95) cA 12,.own (.h 0 32) bK 13,.own (.h 0 65) bK 14,.own (.h 0 98) bK 15] (qB i [10,13,11,14,12,15,16,8,9] 7 [] 0 C) (qj i [10,13,11,14,12,15,16,8,9]),[],[]++pD i [10,13,11,14,12,15,16,8,9],⟨[],[]⟩⟩
def asd:Hn (Z2 i C).kd:=(.ai (.ai (.ai (.j ⟨57,[],[(.t 5,kI)],[],.f⟩ .z (.ck ⟨([.ptr 0 0,U,U,.ptr 10 0,.ptr 0 (33*i+0),ae (aqR ac C.ax)]++(us 135 ([]))),bS aJ 1 C [(10,[ae 3,ae (i:Int),ae ac.c2,ae ac.c3,ae ac.c4,ae ac.c5,.str ac.c6,.str ac.c7,.str ac.c8,ae ac.c9])]⟩ (.ai (.ai (.c false (.ai (.c false (.ai (.c false (.s (.ai (.c false .z)) (.c false (.ai (.c false (.ai (.c false .z))))))))))))))))))
def Ya(i:Nat)(ac:aK)(C:Cr):Prop:=(((decide ((C.ax.n:Int)>0))=true→(((C.ax.n:Int):Int)≠0))∧((C.nd i).up=true→(iO (C.nd i))))
theorem ayB(i:Nat)(hi:i<3)(ac:aK)(C:Cr)(hb:dA C)(n6:ac.c6.size≤549755813888)(n7:ac.c7.size≤549755813888)(n8:ac.c8.size≤549755813888)(hp:du C ac):Ya i ac C:=by
 have hN:=fR hb i hi;unfold fq at hN;unfold Ya;exact have:=iz hp i;have:=(iz hp i).lb;have:=(iz hp i).ws;have:=mq hp;have:=hp.2.s6;have:=hp.2.s7;have:=hp.2.s8;have:=hp.2.pk;(⟨(fun h1=>(by have:=ay h1;omega)),(fun h2=>(by assumption))⟩)
theorem W_(i:Nat)(hi:i<3)(ac:aK)(n6:ac.c6.size≤549755813888)(n7:ac.c7.size≤549755813888)(n8:ac.c8.size≤549755813888)(C:Cr)(hb:dA C)(hp:du C ac):fj Tryz.prog 31 ((PM i).args ([ae 3,ae (i:Int),ae ac.c2,ae ac.c3,ae ac.c4,ae ac.c5,.str ac.c6,.str ac.c7,.str ac.c8,ae ac.c9]++fX C)) ((PM i).hv (([ae 3,ae (i:Int),ae ac.c2,ae ac.c3,ae ac.c4,ae ac.c5,.str ac.c6,.str ac.c7,.str ac.c8,ae ac.c9]++fX C).drop (PM i).na)) [] (bN [10,13,11,14,12,15,16,8,9] 7 (C.put i (Ue i ac (C.nd i)) (Uf i ac (C.nd i) C.ax) C.told C.aY)):=by
 refine dD (Z2 i C) (asd i ac C) (Ya i ac C) (bB 10 aQ (az (Iy i hi) bA)) Tryz.func31 (List.replicate 34 .f++[.l,.l]) ?_ ?_ (ayB i hi ac C hb n6 n7 n8 hp)
 ·rcases bJ hi with rfl|rfl|rfl<;>kernel_rfl
 ·rcases bJ hi with rfl|rfl|rfl<;>kernel_rfl
end
theorem pA{α:Type}{P:α→Prop}{c:Bool}{a b:α}(ha:P a)(hb:P b):P (bif c then a else b):=by
 cases c
 ·exact hb
 ·exact ha
theorem axm{x:aM}(h:lU x):dN (Sl.lit [x]):=fun j=>by
 show lU (([x]:List aM).getD j default)
 match j with
 |0=>exact h
 |j+1=>exact mK 0
theorem axn{x0:Sl cj}{v0 v3 b t:Int}{s:Sl aM}(hg:GL b t s)(h:dN s)(fw:(tg x0 v0 b t s)=true):dN (Bn x0 v0 v3 b t s):=by
 unfold tg at fw;unfold Bn;generalize x0.at' (toNat v0)=E at*
 cases vk:(kq E.c0 E.c1 E.c2 E.c3 E.c4 E.c5 E.c6 E.c7 E.c8 E.c9 E.cF E.cS E.cD E.di E.bO E.gG E.lj E.j9 E.lk E.j_ !=0)with
 |true=>rw[vk]at fw;cases fw
 |false=>
  have hr:=YL (bE vk)
  cases e1:(E.c0==1)
  ·simp only[aCI]
   cases e2:(E.c0==2)
   ·simp only[aCI]
    cases e3:(E.c0==3)
    ·exact h
    ·simp only[aCJ]
     cases decide (E.bO>v3)
     ·exact h
     ·simp only[aCJ];have e3:=eq_of_beq e3;have r:(1≤E.bO∧E.bO≤1048576)∧(1≤E.gG∧E.gG≤1048576):=by omega
      have k:=fx _ _ _ hg;unfold xJ
      cases qY b t s E.bO E.gG
      ·exact mK
      ·exact(YG k.1.1 k.2.2.2 k.2.2.1 ⟨by omega,r.1.2⟩ h).2.2.2
   ·simp only[aCJ];have e2:=eq_of_beq e2;have hi:il E.c4 E.c5 E.c6 E.c7 E.c8 E.c9 E.cF E.cS E.cD E.di=0:=by
     rcases hr with⟨e,_⟩|⟨_,_,q⟩|⟨e,_⟩
     ·omega
     ·exact q
     ·omega
    unfold FC;refine pA (P:=dN) h (pA (P:=dN) h ?_);exact pA (P:=dN) h (ahY (zX h _ _) (axm (s51 hi)))
  ·exact h
def FG(v3 b t:Int)(s:Sl aM):Prop:=FB v3 b∧GL b t s∧dN s
abbrev FoT:=Bool×Int×Int×Int×Int×Int×Sl ar×Int×Sl aG×Int×Int×Sl aM×Int×Int×Int×Int×Int×Sl ar×Int×Sl aG×Int×Int×Sl aM×Int
def ZT(r:FoT):Prop:=(r.1=true∧r.2.2.2.2.2.2.2.2.2.2.2.2.2.2.1=0∧r.2.2.2.2.2.2.2.2.2.2.2.2.2.2.2.2.2.2.2.2.1=0∧r.2.2.2.2.2.2.2.2.2.2.2.2.2.2.2.2.2.2.2.2.2.2.1=al)∨(r.1=false∧FG r.2.2.2.1 r.2.2.2.2.2.2.2.2.2.1 r.2.2.2.2.2.2.2.2.2.2.1 r.2.2.2.2.2.2.2.2.2.2.2.1)
theorem abS{x0:Sl cj}(hn:x0.n≤549755813888): ∀(m fu:Nat) (v0 v1 v2 v3 v4 v5:Int) (es:Sl ar) (v7:Int) (cs:Sl aG) (b t:Int) (s:Sl aM),0≤v0→v0+(m:Int)=(x0.n:Int)→m≤fu→FG v3 b t s→ZT (Bm x0 (fu+1) v0 v1 v2 v3 v4 v5 es v7 cs b t s)
 |0,fu,v0,v1,v2,v3,v4,v5,es,v7,cs,b,t,s,h0,hm,hf,h=>by
  rw[Bm,cq (show¬v0<(x0.n:Int) by omega)];exact .inr ⟨rfl,h⟩
 |m+1,fu,v0,v1,v2,v3,v4,v5,es,v7,cs,b,t,s,h0,hm,hf,h=>by
  obtain⟨fu,rfl⟩: ∃q,fu=q+1:=⟨fu-1,by omega⟩;rw[Bm,cx (show v0<(x0.n:Int) by omega)];simp only[aCJ]
  cases fw:tg x0 v0 b t s with
  |false=>
   simp only[aCI];refine .inl ?_;generalize (kq _ _ _ _ _ _ _ _ _ _ _ _ _ _ _ _ _ _ _ _ !=0)=bb
   cases bb<;>exact⟨rfl,rfl,rfl,rfl⟩
  |true=>
   simp only[aCJ];rw[aq _];exact abS hn m fu (v0+1) _ _ _ _ _ _ _ _ _ _ _ (by omega) (by omega) (by omega) ⟨ape h.1 fw,rE h.2.1 fw,axn h.2.1 h.2.2 fw⟩
theorem apy{x0:Sl cj}(hn:x0.n≤549755813888):(xx x0=vp x0∧0≤vp x0∧vp x0≤1048576)∧(Bl x0).n≤200∧xx x0+((Bl x0).n:Int)≤1048576∧dN (Bl x0):=by
 have:=abS hn x0.n (toNat ((x0.n:Int)-0)) 0 G8 G9 yr G_ yt yu yv yw yx yy yq (aCT _) (by omega) (by omega) ⟨⟨rfl,by decide,by decide⟩,rD,mK⟩;have:ZT (jj x0):=this;unfold xx vp Bl mX;rcases this with⟨e,e2,e8,e10⟩|⟨e,hb,hg,hl⟩
 ·rw[e];simp only[aCJ,aCI];rw[e2,e8,e10];exact⟨⟨rfl,by decide,by decide⟩,aCQ _,by decide,mK⟩
 ·rw[e];simp only[aCJ,aCI];have k:=fx _ _ _ hg;exact⟨hb,k.2.2.1,k.2.2.2,hl⟩
theorem ahK(x0:Sl Int)(x1:Int): ∀(k:Nat) (v:Int) (s:Sl cj),(Fy x0 x1 k v s).2.n≤s.n+k
 |0,_,_=>aCQ _
 |k+1,v,s=>by
  rw[Fy];have b:(v,s).2.n≤s.n+(k+1):=aDB _ _;refine pA (P:=fun r:Int×Sl cj=>r.2.n≤s.n+(k+1)) (pA (P:=fun r:Int×Sl cj=>r.2.n≤s.n+(k+1)) b (pA (P:=fun r:Int×Sl cj=>r.2.n≤s.n+(k+1)) b ?_)) b;refine aCX (ahK x0 x1 k _ _) ?_;show s.n+1+k≤s.n+(k+1);omega
theorem axZ{x0:Sl Int}{x1:Int} :(Fw x0 x1).n≤549755813888:=by
 unfold Fw
 cases e:iB x0 x1
 ·exact aCQ _
 ·have h:=ahK x0 x1 ((toNat (((bn x0 x1).n:Int)-0))+1) 0 al;have hn:=(rF x0 x1 e).2;have z:(al:Sl cj).n=0:=rfl;show(Bk x0 x1).2.n≤_;unfold Bk;omega
theorem aA_{x0:Sl Int}{x1:Int}(h:U8 x0):U8 (Ko x0 x1):=by
 unfold Ko
 cases iB x0 x1
 ·exact Jh
 ·exact mP (lO h)
theorem at5{x0:Int}{nd:Nd}(h:bM nd):bM (LX x0 nd):=by
 have hi:=h.i;have k:=apy (x0:=Fw (CH nd.td nd.ts x0) (U7 nd.td nd.ts x0)) axZ;obtain⟨⟨k1,k2,k3⟩,k4,k5,k6⟩:=k;have z:(0:Int)≤0∧(0:Int)≤1048577:=by decide
 have z':(0:Int)≤0∧(0:Int)≤1048576:=by decide
 exact⟨⟨hi.me,by show 0≤xx _;omega,by show xx _≤vp _;omega,k3,k4,k5,aCQ _,⟨z,z,z⟩,k6,aA_ (Pt hi.u8),⟨k2,k3⟩,⟨z',z',z'⟩⟩,⟨aCQ _,fun j hj=>absurd hj (fC j)⟩⟩
end Go.Proofs.YtfmgjpcmcjjoiaaGreatDoor
