/- Part of a proof: walks of the program. -/
import Derived.Test.YtfmgjpcmcjjoiaaGreatDoorXr
import Derived.Test.YtfmgjpcmcjjoiaaGreatDoorXt
import Derived.Test.YtfmgjpcmcjjoiaaGreatDoorXu
open Go.IntKind (i64 u64 u8)
open Int (toNat)
set_option maxRecDepth 100000
set_option maxHeartbeats 4000000
set_option linter.all false
noncomputable section
namespace Go.Proofs.YtfmgjpcmcjjoiaaGreatDoor
open Go Go.RowKit Go.Vc
section
variable(i:Nat)(ac:aK)(nd:Nd)
def Uu:Bool:=(bif(nd.ro !=3)then(decide (nd.te<1048576))else false)
def Gs:Nd:={nd with ro:=1,v0:=(nd.me==0),v1:=(nd.me==1),v2:=(nd.me==2)}
def oY:Nd:=(Nd.bif (ac.c0==2) (Nd.bif (Uu nd) (Cd (⟨0,0,1,(i64.wrap (nd.te+1)),(cy (Gs nd)),(vG (Gs nd)),false,0,(al:Sl aM),0,0,0,(al:Sl ar),0,(al:Sl aG)⟩:aF) (Gs nd)) nd) (Nd.bif (ac.c0==3) (Nd.bif (nd.ro==3) (Ce nd) nd) (Nd.bif (ac.c0==4) (GY nd) (Nd.bif (ac.c0==9) (LX ac.c2 nd) (Nd.bif (ac.c0==11) (xX nd) nd)))))
def re(ka:Sl aF):Sl aF:=(bif(ac.c0==2)then ka else(bif(ac.c0==3)then ka else(bif(ac.c0==4)then(LU nd ka)else ka)))
def P1:Hr:=⟨[.p 0,.po 0 (33*i),.g [kI,kI,kI,kI,kI,kI,kS,kS,kS,kI]],bP,eC,dS,fun(y0:Int) (y1:Int) (y2:Int) (y3:Int) (y4:Int) (y5:Int) y6 y7 y8 (y9:Int)=>cg fun C=>⟨⟨some (iO (C.nd i)),[],bN ((aJ.set (2*i) 10).set (2*i+1) 11) 2 (C.put i (oY (⟨y0,y1,y2,y3,y4,y5,y6,y7,y8,y9⟩:aK) (C.nd i)) (re (⟨y0,y1,y2,y3,y4,y5,y6,y7,y8,y9⟩:aK) (C.nd i) C.ax) C.told C.aY)⟩⟩⟩
def aah:RS:=⟨.dY true [.b 10] [.own (.h 0 (33*i+29)) cA 10,.own (.h 0 (33*i+32)) bK 11] (gx i ((aJ.set (2*i) 10).set (2*i+1) 11) 2 [] 0) (gw i ((aJ.set (2*i) 10).set (2*i+1) 11)),[],[]++fL i ((aJ.set (2*i) 10).set (2*i+1) 11),⟨[],[]⟩⟩
def asq(C:Cr):Hn (aah i).kd:=let z6:=Gs (C.nd i);(.ai (.ai (.ai (.s (.j ⟨8388610,[.b 10],[(.t 23,kB)],[],.f⟩ .z (.ck ⟨([U,.ptr 0 (33*i+0)]++(us 21 (([.bool (Uu (C.nd i))]++(us 51 ([])))))),bS aJ 0 C []⟩ (.s (.ai (.ai (.ck ⟨([U,.ptr 0 (33*i+0),U,U,U,U,ae (cy z6),ae (vG z6)]++(us 67 ([]))),bS aJ 0 (C.set i z6) []⟩ .z))) .z))) (.ai (.ck ⟨([.ptr 0 0,.ptr 0 (33*i+0),U,U,U,.ptr 10 0,U,U,U,ae ac.c0]++(us 40 (([.bool (ac.c0==3)]++(us 24 ([])))))),bS aJ 1 C [(10,[ae ac.c0,ae ac.c1,ae ac.c2,ae ac.c3,ae ac.c4,ae ac.c5,.str ac.c6,.str ac.c7,.str ac.c8,ae ac.c9])]⟩ (.ai (.ai (.ck ⟨([.ptr 0 0,.ptr 0 (33*i+0),U,U,U,.ptr 10 0,U,U,U,ae ac.c0]++(us 49 (([.bool (ac.c0==4)]++(us 15 ([])))))),bS aJ 1 C [(10,[ae ac.c0,ae ac.c1,ae ac.c2,ae ac.c3,ae ac.c4,ae ac.c5,.str ac.c6,.str ac.c7,.str ac.c8,ae ac.c9])]⟩ (.ai (.ai (.ck ⟨([.ptr 0 0,.ptr 0 (33*i+0),U,U,U,.ptr 10 0,U,U,U,ae ac.c0]++(us 54 (([.bool (ac.c0==9)]++(us 10 ([])))))),bS aJ 1 C [(10,[ae ac.c0,ae ac.c1,ae ac.c2,ae ac.c3,ae ac.c4,ae ac.c5,.str ac.c6,.str ac.c7,.str ac.c8,ae ac.c9])]⟩ (.ai (.ai (.ck ⟨([U,.ptr 0 (33*i+0)]++(us 69 ([.bool (ac.c0==11),U,U,U]))),bS aJ 1 C [(10,[ae ac.c0,ae ac.c1,ae ac.c2,ae ac.c3,ae ac.c4,ae ac.c5,.str ac.c6,.str ac.c7,.str ac.c8,ae ac.c9])]⟩ .z)))))))))))))))
def Yl(i:Nat)(ac:aK)(C:Cr):Prop:=(((ac.c0==2)=true→((Uu (C.nd i))=true→((0:Int)≤(C.nd i).me∧((C.nd i).me:Int)<3)))∧((ac.c0==2)=false→(((ac.c0==3)=true→(((C.nd i).ro==3)=true→(0≤(C.nd i).p0∧(C.nd i).p0≤4194304∧0≤(C.nd i).p1∧(C.nd i).p1≤4194304∧0≤(C.nd i).p2∧(C.nd i).p2≤4194304)))∧((ac.c0==3)=false→((ac.c0==4)=false→(((ac.c0==9)=true→(U8 (C.nd i).td))∧((ac.c0==9)=false→((ac.c0==11)=true→((C.nd i).co≤4194304)))))))))
theorem ayM(i:Nat)(hi:i<3)(ac:aK)(C:Cr)(hb:dA C)(n6:ac.c6.size≤549755813888)(n7:ac.c7.size≤549755813888)(n8:ac.c8.size≤549755813888)(hp:iO (C.nd i)):Yl i ac C:=by
 have hN:=fR hb i hi;unfold fq at hN;unfold Yl;exact have:=hp.me;have:=hp.lb;have:=hp.bc;have:=hp.co;have:=hp.ln;have:=hp.ll;have:=hp.ws;have:=hp.pp;have:=hp.li;have:=hp.u8;(⟨(fun h1=>(fun h2=>(by omega))),(fun h3=>⟨(fun h4=>(fun h5=>(by omega))),(fun h6=>(fun h7=>⟨(fun h8=>(by first|(with_reducible (repeat first|assumption|apply dx|apply ff|apply fh|apply fg|apply gD|apply gA|apply f_|apply fU|apply fV|apply gB|apply fT|apply gC|apply gy|apply gz|apply gT|apply g_|apply hO|apply ic|apply mP|apply lO|apply jt|apply Pt);done)|assumption)),(fun h9=>(fun dJ=>(by omega)))⟩))⟩)⟩)
theorem awA(i:Nat)(hi:i<3)(ac:aK)(n6:ac.c6.size≤549755813888)(n7:ac.c7.size≤549755813888)(n8:ac.c8.size≤549755813888):fb Tryz.prog 45 (P1 i) bP [] (cg fun C=>⟨⟨some (iO (C.nd i)),[],bN ((aJ.set (2*i) 10).set (2*i+1) 11) 2 (C.put i (oY ac (C.nd i)) (re ac (C.nd i) C.ax) C.told C.aY)⟩⟩) [ae ac.c0,ae ac.c1,ae ac.c2,ae ac.c3,ae ac.c4,ae ac.c5,.str ac.c6,.str ac.c7,.str ac.c8,ae ac.c9]:=by
 refine gv fun C hb=>fun hp=>dD (aah i) (asq i ac C) (Yl i ac C) (bB 10 (aH avS aQ) (az (zU i hi) (az (ahD i hi) (az (ahE i hi) (az (avT i hi) (az (avU i hi) (az (avV i hi) bA))))))) Tryz.func45 (List.replicate 31 .f++List.replicate 62 .l++[.f,.f]++List.replicate 4 .l++[(.b .l (.b .l (.b .f .l)))]++[.l,.l]) ?_ ?_ (ayM i hi ac C hb n6 n7 n8 hp)
 ·rcases bJ hi with rfl|rfl|rfl<;>kernel_rfl
 ·rcases bJ hi with rfl|rfl|rfl<;>kernel_rfl
theorem azj(i:Nat)(hi:i<3):gi 45 (P1 i):=
 j4 (ks:=[kI,kI,kI,kI,kI,kI,kS,kS,kS,kI]) fun s hs=>Eq.mp (by rcases bJ hi with rfl|rfl|rfl<;>kernel_rfl) (awA i hi ⟨s.1,s.2.1,s.2.2.1,s.2.2.2.1,s.2.2.2.2.1,s.2.2.2.2.2.1,s.2.2.2.2.2.2.1,s.2.2.2.2.2.2.2.1,s.2.2.2.2.2.2.2.2.1,s.2.2.2.2.2.2.2.2.2.1⟩ (hs.2.2.2.2.2.2.1 rfl) (hs.2.2.2.2.2.2.2.1 rfl) (hs.2.2.2.2.2.2.2.2.1 rfl))
theorem Iy(i:Nat)(hi:i<3):gj 45 (P1 i):=gE gu Tryz.func45 (azj i hi)
end
def fE(s:Sl aF):Prop:=s.n≤300∧ ∀j,j<s.n→ie (s.at' j)
structure bM (n:Nd):Prop where
 i:iO n
 o:fE n.ou
structure Qw (m:aF):Prop where
 la:0≤m.c4∧m.c4≤1048576
 si:0≤m.c9∧m.c9≤1048576
 li:dN m.c8
theorem wG{a b t d e k:Int}{f:Bool}(hd:0≤d∧d≤1048576):Qw ⟨a,b,k,t,d,e,f,0,al,0,0,0,al,0,al⟩:=⟨hd,(by decide:(0:Int)≤0∧(0:Int)≤1048576),mK⟩
theorem iO.iG{n:Nd}(h:iO n)(m:Nd)(e:(m.me,m.lb,m.co,m.li,m.p0,m.p1,m.p2,m.si,m.q0,m.q1,m.q2)=(n.me,n.lb,n.co,n.li,n.p0,n.p1,n.p2,n.si,n.q0,n.q1,n.q2))(hu:U8 m.td)(hw:m.ws.n≤3000):iO m:=by
 simp only[aDL]at e;obtain⟨e1,e2,e3,e4,e5,e6,e7,e12,e13,JS,Su⟩:=e;exact⟨by rw[e1];exact h.me,by rw[e2];exact h.lb,by rw[e2,e3];exact h.bc,by rw[e3];exact h.co,by rw[e4];exact h.ln,by rw[e2,e4];exact h.ll,hw,by rw[e5,e6,e7];exact h.pp,by rw[e4];exact h.li,hu,by rw[e12];exact h.si,by rw[e13,JS,Su];exact h.qq⟩
theorem oA{c:Bool}{a b:Nd}(ha:c=true→bM a)(hb:c=false→bM b):bM (Nd.bif c a b):=by
 rw[Nd.lX]
 cases c
 ·exact hb rfl
 ·exact ha rfl
theorem qd{x0:Int}{ms:aF}{nd:Nd}(h:bM nd)(hx:0≤x0∧x0<3)(hm:Qw ms):bM (ft x0 ms nd):=by
 refine⟨h.i.iG _ (by kernel_rfl) h.i.u8 h.i.ws,?_⟩;show fE (UM x0 ms nd);unfold UM
 by_cases c:(nd.ou.n:Int)<300
 ·rw[cx c,aCJ];refine⟨?_,fun j hj=> ?_⟩
  ·show nd.ou.n+1≤300;omega
  ·show ie (bif Nat.blt j nd.ou.n then nd.ou.at' j else _)
   cases e:Nat.blt j nd.ou.n with
   |true=>exact h.o.2 j (by simpa[aC9]using e)
   |false=>
    have nn:j<nd.ou.n+1:=hj;have: ¬j<nd.ou.n:=fun hh=>by
     rw[show Nat.blt j nd.ou.n=true by rw[aC9];exact hh]at e
     cases e
    have hz:j-nd.ou.n=0:=by omega
    simp only[aCI,hz];exact⟨h.i.me,hx,hm.la,hm.si,hm.li⟩
 ·rw[cq c,aCI];exact h.o
theorem ahe{rc:cj}{nd:Nd}(h:bM nd):bM (kg rc nd):=⟨h.i.iG _ (by kernel_rfl) (wN h.i.u8) h.i.ws,h.o⟩
theorem WJ{x0 x1:Int}{nd:Nd}(h:bM nd):bM (iV x0 x1 nd):=⟨h.i.iG _ (by kernel_rfl) (wN h.i.u8) h.i.ws,h.o⟩
theorem ahb{nd:Nd}(h:bM nd):bM (m9 nd):=⟨h.i.iG _ (by kernel_rfl) h.i.u8 (by
  show(bif nd.ro==2 then(al:Sl iP)else nd.ws).n≤3000
  cases (nd.ro==2)
  ·exact h.i.ws
  ·exact aCQ _),h.o⟩
theorem WK{x0:Int}{nd:Nd}(h:bM nd)(hx:0≤x0∧x0<3):bM (vH x0 nd):=qd h hx (wG (by decide))
theorem atX{ms:aF}{nd:Nd}(h:bM nd)(hx:0≤ms.c0∧ms.c0<3):bM (Gx ms nd):=by
 have h1:=qd (ms:=⟨0,0,2,ms.c3,0,0,false,0,al,0,0,0,al,0,al⟩) h hx (wG (by decide));have h2:=WK h hx;refine⟨h.i.iG _ (by kernel_rfl) h.i.u8 h.i.ws,?_⟩;show fE (bif LL ms nd then _ else _)
 cases LL ms nd
 ·exact h2.o
 ·exact h1.o
theorem ahc{ms:aF}{nd:Nd}(h:bM nd)(hm:Qw ms):bM (Cd ms nd):=by
 have h1:bM (GV ms nd):=by
  refine⟨h.i.iG _ (by kernel_rfl) h.i.u8 h.i.ws,?_⟩;show fE (bif(0 !=nd.me)then(ft 0 ms nd).ou else nd.ou)
  cases (0 !=nd.me)
  ·exact h.o
  ·exact(qd h (by decide) hm).o
 have h2:bM (GX ms nd):=by
  refine⟨h1.i.iG _ (by kernel_rfl) h1.i.u8 h1.i.ws,?_⟩;show fE (bif(1 !=nd.me)then(ft 1 ms (GV ms nd)).ou else(UG ms nd))
  cases (1 !=nd.me)
  ·exact h1.o
  ·exact(qd h1 (by decide) hm).o
 refine⟨h.i.iG _ (by kernel_rfl) h.i.u8 h.i.ws,?_⟩;show fE (bif(2 !=nd.me)then(ft 2 ms (GX ms nd)).ou else(UH ms nd))
 cases (2 !=nd.me)
 ·exact h2.o
 ·exact(qd h2 (by decide) hm).o
theorem RO{nd:Nd}(h:iO nd):0≤cy nd∧cy nd≤1048576:=by
 have:=JB nd ⟨h.lb,by have:=h.ll;omega⟩;have:=h.ll;omega
theorem atY{nd:Nd}(h:bM nd):bM (xS nd):=by
 have hu:U8 (Uy nd):=by
  unfold Uy
  cases (nd.te==1048576)
  ·exact wN h.i.u8
  ·exact h.i.u8
 have h6:bM (LN nd):=⟨h.i.iG _ (by kernel_rfl) hu h.i.ws,h.o⟩;have h7:bM (Gy nd):=⟨h.i.iG _ (by kernel_rfl) hu h.i.ws,h.o⟩;unfold xS;exact oA (fun _=>h6) fun _=>ahc h7 (wG (RO h7.i))
theorem atZ{ms:aF}{nd:Nd}(h:bM nd)(hx:0≤ms.c0∧ms.c0<3):bM (xT ms nd):=by
 have hu:U8 (Uz ms nd):=by
  unfold Uz
  cases (!(vR nd.lb nd.lt nd.li ms.c4 ms.c5))<;>cases decide (nd.vo≥0)<;>cases (nd.vo !=ms.c0)<;>cases decide (nd.vo<0)<;>first|exact h.i.u8|exact wN h.i.u8
 have h6:bM (Gz ms nd):=⟨h.i.iG _ (by kernel_rfl) hu h.i.ws,h.o⟩;unfold xT;exact oA (fun _=>WK h6 hx) fun _=>qd h6 hx (wG (by decide))
end Go.Proofs.YtfmgjpcmcjjoiaaGreatDoor
