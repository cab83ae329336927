/- Part of a proof: walks of the program. -/
import Derived.Test.YtfmgjpcmcjjoiaaGreatDoorXm
import Derived.Test.YtfmgjpcmcjjoiaaGreatDoorXo
import Derived.Test.YtfmgjpcmcjjoiaaGreatDoorXp
import Derived.Test.YtfmgjpcmcjjoiaaGreatDoorXq
open Go.IntKind (i64 u64 u8)
open Int (toNat)
set_option maxRecDepth 100000
set_option maxHeartbeats 4000000
set_option linter.all false
noncomputable section
namespace Go.Proofs.YtfmgjpcmcjjoiaaGreatDoor
open Go Go.RowKit Go.Vc
section
variable(i:Nat)(ms:aF)(nd:Nd)
def LL:Bool:=(bif(vR nd.lb nd.lt nd.li ms.c4 ms.c5)then(decide (ms.c3>nd.te))else false)
def arb:Sl aF:=(bif(LL ms nd)then(ft ms.c0 (⟨0,0,2,ms.c3,0,0,false,0,(al:Sl aM),0,0,0,(al:Sl ar),0,(al:Sl aG)⟩:aF) nd).ou else(vH ms.c0 nd).ou)
def Gx:Nd:={nd with ou:=(arb ms nd)}
def P9:Hr:=⟨[.po 0 (33*i),.g [kI,kI,kI,kI,kI,kI,kB,kI,.sl cZ,kI,kI,kI,.sl aZ,kI,.sl bG]],bP,eC,dS,fun(y0:Int) (y1:Int) (y2:Int) (y3:Int) (y4:Int) (y5:Int) y6 (y7:Int) y8 (y9:Int) (eS:Int) (eV:Int) eW (eX:Int) eY=>cg fun C=>⟨⟨none,[],bN aJ 0 (C.set i (Gx (⟨y0,y1,y2,y3,y4,y5,y6,y7,y8,y9,eS,eV,eW,eX,eY⟩:aF) (C.nd i)))⟩⟩⟩
def aal:RS:=⟨.dY true [] [] (gx i aJ 0 [] 0) (gw i aJ),[],[]++fL i aJ,⟨[],[]⟩⟩
def asu(C:Cr):Hn (aal i).kd:=(.ai (.s (.ai (.j ⟨134217737,[],[(.t 27,kB)],[],.f⟩ .z (.ck ⟨([.ptr 0 (33*i+0),U,U,.ptr 10 0]++(us 23 (([.bool (LL ms (C.nd i))]++(us 11 ([])))))),bS aJ 1 C [(10,(jh ms))]⟩ (.s (.ai (.ck ⟨([.ptr 0 (33*i+0),U,U,.ptr 10 0]++(us 35 ([]))),bS aJ 1 (C.set i (ft ms.c0 (⟨0,0,2,ms.c3,0,0,false,0,(al:Sl aM),0,0,0,(al:Sl ar),0,(al:Sl aG)⟩:aF) (C.nd i))) [(10,(jh ms))]⟩ .z)) .z)))) .z))
theorem awH(i:Nat)(hi:i<3)(ms:aF):fb Tryz.prog 60 (P9 i) bP [] (cg fun C=>⟨⟨none,[],bN aJ 0 (C.set i (Gx ms (C.nd i)))⟩⟩) (jh ms):=by
 refine gv fun C hb=>dD (aal i) (asu i ms C) True (bB 10 (aH WW aQ) (az (qg i hi) (az (zV i hi) bA))) Tryz.func60 (List.replicate 94 .l++[.f]++List.replicate 7 .l) ?_ ?_ trivial
 ·rcases bJ hi with rfl|rfl|rfl<;>kernel_rfl
 ·rcases bJ hi with rfl|rfl|rfl<;>kernel_rfl
theorem azq(i:Nat)(hi:i<3):gi 60 (P9 i):=
 j4 (ks:=[kI,kI,kI,kI,kI,kI,kB,kI,.sl cZ,kI,kI,kI,.sl aZ,kI,.sl bG]) fun s hs=>Eq.mp (by rcases bJ hi with rfl|rfl|rfl<;>kernel_rfl) (awH i hi ⟨s.1,s.2.1,s.2.2.1,s.2.2.2.1,s.2.2.2.2.1,s.2.2.2.2.2.1,s.2.2.2.2.2.2.1,s.2.2.2.2.2.2.2.1,s.2.2.2.2.2.2.2.2.1,s.2.2.2.2.2.2.2.2.2.1,s.2.2.2.2.2.2.2.2.2.2.1,s.2.2.2.2.2.2.2.2.2.2.2.1,s.2.2.2.2.2.2.2.2.2.2.2.2.1,s.2.2.2.2.2.2.2.2.2.2.2.2.2.1,s.2.2.2.2.2.2.2.2.2.2.2.2.2.2.1⟩)
theorem uv(i:Nat)(hi:i<3):gj 60 (P9 i):=gE gu Tryz.func60 (azq i hi)
end
def afr(nd:Nd):Nd:=let z6:=lE nd.lb nd.lt nd.li nd.co;{(kg (⟨3,0,0,0,0,0,false,0,0,0,⟨#[]⟩,⟨#[]⟩,⟨#[]⟩,0,nd.co,z6,nd.mn,nd.mE,nd.mx,nd.mc⟩:cj) nd)with lb:=(tS nd.lb nd.lt nd.li nd.co),lt:=(MD nd.lb nd.lt nd.li nd.co),li:=(vS nd.lb nd.lt nd.li nd.co),si:=nd.co,sg:=z6,sn:=nd.mn,se:=nd.mE,sx:=nd.mx,sc:=nd.mc}
def xX(nd:Nd):Nd:=(Nd.bif (nd.co==nd.lb) nd (Nd.bif (lB (⟨3,0,0,0,0,0,false,0,0,0,⟨#[]⟩,⟨#[]⟩,⟨#[]⟩,0,nd.co,(lE nd.lb nd.lt nd.li nd.co),nd.mn,nd.mE,nd.mx,nd.mc⟩:cj) nd) (afr nd) (kg (⟨3,0,0,0,0,0,false,0,0,0,⟨#[]⟩,⟨#[]⟩,⟨#[]⟩,0,nd.co,(lE nd.lb nd.lt nd.li nd.co),nd.mn,nd.mE,nd.mx,nd.mc⟩:cj) nd)))
def Qn(i:Nat):Hr:=⟨[.po 0 (33*i)],bP,eC,dS,cg fun C=>⟨⟨some ((C.nd i).co≤4194304),[],bN aJ 0 (C.set i (xX (C.nd i)))⟩⟩⟩
def aaw(i:Nat):RS:=⟨.dY true [] [] (gx i aJ 0 [] 0) (gw i aJ),[],[]++fL i aJ,⟨[],[]⟩⟩
def asF(i:Nat)(C:Cr):Hn (aaw i).kd:=let z6:=C.nd i;let z8:=lE z6.lb z6.lt z6.li z6.co;(.ai (.ai (.ai (.ai (.ck ⟨([.ptr 0 (33*i+0),U,U,U,.ptr 10 0]++(us 35 (([.bool (lB (⟨3,0,0,0,0,0,false,0,0,0,⟨#[]⟩,⟨#[]⟩,⟨#[]⟩,0,z6.co,z8,z6.mn,z6.mE,z6.mx,z6.mc⟩:cj) z6)]++(us 19 ([])))))),bS aJ 1 (C.set i (kg (⟨3,0,0,0,0,0,false,0,0,0,⟨#[]⟩,⟨#[]⟩,⟨#[]⟩,0,z6.co,z8,z6.mn,z6.mE,z6.mx,z6.mc⟩:cj) z6)) [(10,[ae z6.co,ae z8,ae z6.mn,aL 8 gn z6.mE,ae z6.mx,aL 7 gP z6.mc])]⟩ .z)))))
def Yy(i:Nat)(C:Cr):Prop:=(((C.nd i).co==(C.nd i).lb)=false→((px (⟨3,0,0,0,0,0,false,0,0,0,⟨#[]⟩,⟨#[]⟩,⟨#[]⟩,0,(C.nd i).co,(lE (C.nd i).lb (C.nd i).lt (C.nd i).li (C.nd i).co),(C.nd i).mn,(C.nd i).mE,(C.nd i).mx,(C.nd i).mc⟩:cj))∧((lB (⟨3,0,0,0,0,0,false,0,0,0,⟨#[]⟩,⟨#[]⟩,⟨#[]⟩,0,(C.nd i).co,(lE (C.nd i).lb (C.nd i).lt (C.nd i).li (C.nd i).co),(C.nd i).mn,(C.nd i).mE,(C.nd i).mx,(C.nd i).mc⟩:cj) (C.nd i))=true→((C.nd i).co≤9223372036854775807))))
theorem ayZ(i:Nat)(hi:i<3)(C:Cr)(hb:dA C)(hp:(C.nd i).co≤4194304):Yy i C:=by
 have hN:=fR hb i hi;unfold fq at hN;unfold Yy;exact((fun h1=>⟨(by apply ss),(fun h2=>(by omega))⟩))
theorem awV(i:Nat)(hi:i<3):fb Tryz.prog 75 (Qn i) bP [] (cg fun C=>⟨⟨some ((C.nd i).co≤4194304),[],bN aJ 0 (C.set i (xX (C.nd i)))⟩⟩) []:=by
 refine gv fun C hb=>fun hp=>dD (aaw i) (asF i C) (Yy i C) (bB 10 (aH N9 (aH k66 aQ)) (az (Iz i hi) bA)) Tryz.func75 (List.replicate 31 .f++List.replicate 62 .l++[.f,.f]++List.replicate 7 .l) ?_ ?_ (ayZ i hi C hb hp)
 ·rcases bJ hi with rfl|rfl|rfl<;>kernel_rfl
 ·rcases bJ hi with rfl|rfl|rfl<;>kernel_rfl
theorem azE(i:Nat)(hi:i<3):gi 75 (Qn i):=
 awV i hi
theorem avV(i:Nat)(hi:i<3):gj 75 (Qn i):=gE gu Tryz.func75 (azE i hi)
section
def xQ(x0:Int):Nat→Int→Int→Sl aS→Int×Int×Sl aS
 |0,_,_,_=>default
 |k+1,af,ak,aV=>(bif(decide (ak≤x0))then(xQ x0 k ak (i64.wrap (ak+20)) (Sl.cut (xY af ak aV) aV.n))else(af,ak,aV))
variable(x0:Int)(bg:Int)(jI:Sl aS)(x1:Sl aS)
def Uv:Int×Int×Sl aS:=xQ x0 ((toNat (x0+21-20))+1) 0 20 x1
def xR(x0:Int)(bg:Int):Nat→Int→Int→Sl aS→Int×Int×Sl aS×Int×Int×Bool
 |0,_,_,_=>default
 |k+1,mQ,j2,sC=>(bif(decide (j2≤x0))then(xR x0 bg k j2 (i64.wrap (j2+(i64.wrap (2*bg)))) (Sl.cut (qF 900001 mQ (i64.wrap (mQ+bg)) j2 sC) sC.n))else(mQ,j2,sC,j2,x0,(decide (j2≤x0))))
def mC:Int×Int×Sl aS×Int×Int×Bool:=xR x0 bg ((toNat (x0+2*bg+1- (i64.wrap (2*bg))))+1) 0 (i64.wrap (2*bg)) jI
def LI:Sl aS:=(bif(decide ((i64.wrap ((mC x0 bg jI).1+bg))<x0))then(Sl.cut (qF 900001 (mC x0 bg jI).1 (i64.wrap ((mC x0 bg jI).1+bg)) x0 (mC x0 bg jI).2.2.1) (mC x0 bg jI).2.2.1.n)else(mC x0 bg jI).2.2.1)
def Gt(x0:Int):Nat→Int→Int→Int→Sl aS→Sl aS
 |0,_,_,_,_=>default
 |k+1,bg,_,_,jI=>(bif(decide (bg<x0))then(Gt x0 k (i64.wrap (bg*2)) (mC x0 bg jI).1 (mC x0 bg jI).2.1 (LI x0 bg jI))else jI)
def aq7:Sl aS:=let z6:=Uv x0 x1;Gt x0 ((toNat (x0-20))+1) 20 z6.1 z6.2.1 (Sl.cut (xY z6.1 x0 z6.2.2) z6.2.2.n)
def Cb:Sl aS:=(aq7 x0 x1)
theorem X7(x0:Int)(hx:x0≤900000): ∀(k:Nat) (a b:Int) (s:Sl aS),0≤a→a≤x0→b=a+20→toNat (x0+21-b)<k→(0≤(xQ x0 k a b s).1∧(xQ x0 k a b s).1≤x0)∧(xQ x0 k a b s).2.2.n=s.n
 |0,_,_,_,_,_,_,hk=>absurd hk (fC _)
 |k+1,a,b,s,h0,h1,h2,hk=>by
  rw[xQ]
  by_cases e:b≤x0
  ·rw[cx e,aCJ,aq (b+20)];exact X7 x0 hx k b (b+20) _ (by omega) e rfl (by omega)
  ·rw[cq e,aCI];exact⟨⟨h0,h1⟩,rfl⟩
theorem aiN(x0 v:Int)(hx:0≤x0∧x0≤900000)(hv:20≤v∧v≤1800000): ∀(k:Nat) (a b:Int) (s:Sl aS),0≤a→a≤x0→b=a+2*v→toNat (x0+2*v+1-b)<k→(0≤(xR x0 v k a b s).1∧(xR x0 v k a b s).1≤x0)∧(xR x0 v k a b s).2.2.1.n=s.n
 |0,_,_,_,_,_,_,hk=>absurd hk (fC _)
 |k+1,a,b,s,h0,h1,h2,hk=>by
  rw[xR,aq (2*v)]
  by_cases e:b≤x0
  ·rw[cx e,aCJ,aq (b+2*v)];exact aiN x0 v hx hv k b (b+2*v) _ (by omega) e rfl (by omega)
  ·rw[cq e,aCI];exact⟨⟨h0,h1⟩,rfl⟩
theorem aAV(x0 v:Int)(s:Sl aS):((0≤x0∧x0≤900000)∧(20≤v∧v≤1800000))→(0≤(mC x0 v s).1∧(mC x0 v s).1≤x0)∧(mC x0 v s).2.2.1.n=s.n:=fun h=>by
 obtain⟨hx,hv⟩:=h;have hw:=aq (2*v);unfold mC;rw[hw];exact aiN x0 v hx hv _ 0 (2*v) s (aCT _) hx.1 (by omega) (by omega)
theorem ah7(x0 v:Int)(s:Sl aS)(h:(0≤x0∧x0≤900000)∧(20≤v∧v≤1800000)):(LI x0 v s).n=s.n:=by
 have t:=aAV x0 v s h;unfold LI;generalize decide (i64.wrap ((mC x0 v s).1+v)<x0)=b
 cases b
 ·exact t.2
 ·exact t.2
theorem aiQ(x0:Int)(hx:0≤x0∧x0≤900000): ∀(k:Nat) (v a b:Int) (s:Sl aS),20≤v→v≤1800000→toNat (x0-v)<k→(Gt x0 k v a b s).n=s.n
 |0,_,_,_,_,_,_,hk=>absurd hk (fC _)
 |k+1,v,a,b,s,h0,h1,hk=>by
  rw[Gt]
  by_cases e:v<x0
  ·rw[cx e,aCJ,aq (v*2)];exact(aiQ x0 hx k (v*2) _ _ _ (by omega) (by omega) (by omega)).trans (ah7 x0 v s ⟨hx,h0,h1⟩)
  ·rw[cq e,aCI]
theorem ayf(x0:Int)(x1:Sl aS)(hp:x0=(x1.n:Int)∧x1.n≤900000):(Cb x0 x1).n=x1.n:=by
 have h1:(Uv x0 x1).2.2.n=x1.n:=by
  by_cases e:(20:Int)≤x0
  ·have:=X7 x0 (by omega) (toNat (x0+21-20)+1) 0 20 x1 (aCT _) (by omega) rfl (by omega);exact this.2
  ·have:=X7 x0 (by omega) (toNat (x0+21-20)+1) 0 20 x1 (aCT _) (by omega) rfl (by omega);exact this.2
 exact(aiQ x0 ⟨by omega,by omega⟩ _ 20 _ _ _ (by decide) (by decide) (by omega)).trans h1
def amF:Hq:=⟨[.o 0,.v kI,.fp 34 []],[(.h 0 0,.ah cr)],[[U]],fun(x0:Int) x1=>⟨⟨some (x0=(x1.n:Int)∧x1.n≤900000),[],[[(Kd.ah cr).av (Sl.cut (Cb x0 x1) x1.n)]]⟩⟩⟩
theorem avQ:dz 46 amF:=dE Tryz.func46
 fun(x0:Int) x1 n1 hp=>have e0:=Sl.A3 (ayf x0 x1 hp);zA (rs:=[]) (H':=[[(Kd.ah cr).av (Cb x0 x1)]]) (dy ⟨.heap,[],[(.h 0 0,.ah cr)],⟨[],[[U]]⟩⟩ (.ai (.ai (.j ⟨455,[],[],[],.f⟩ (.lp ⟨455,[],[],[(.t 7,kI),(.t 8,kI),(.h 0 0,.ah cr)],some 0,false,455,[],[(.t 7,kI),(.t 8,kI),(.h 0 0,.ah cr)],fun k (s:Int×Int×Sl aS)=>xQ x0 k s.1 s.2.1 s.2.2,.f,fun(s:Int×Int×Sl aS)=>(0≤s.1∧s.1≤x0∧s.2.1=s.1+20∧(s.2.2.n:Int)=x1.n),fun(s:Int×Int×Sl aS)=>(toNat (x0+21-s.2.1)),some fun(r:Int×Int×Sl aS)=>(0≤r.1∧r.1≤x0∧(r.2.2.n:Int)=x1.n)⟩ .z) (.ai (.zZ ⟨455,[],[],[(.t 6,kI),(.t 7,kI),(.t 8,kI),(.h 0 0,.ah cr)],some 2,false,0,[],[(.h 0 0,.ah cr)],fun k (s:Int×Int×Int×Sl aS)=>Gt x0 k s.1 s.2.1 s.2.2.1 s.2.2.2,.f,fun(s:Int×Int×Int×Sl aS)=>(20≤s.1∧s.1≤1800000∧(s.2.2.2.n:Int)=x1.n),fun(s:Int×Int×Int×Sl aS)=>(toNat (x0-s.1)),some fun(r:Sl aS)=>(r.n:Int)=x1.n⟩ (fun(u6:Int×Int×Int×Sl aS)=>(.ai (.ai (.j ⟨68451041735,[],[],[],.f⟩ (.lp ⟨8321499591,[],[],[(.t 7,kI),(.t 8,kI),(.h 0 0,.ah cr)],some 4,false,68451041735,[],[(.t 7,kI),(.t 8,kI),(.h 0 0,.ah cr),(.t 33,kI),(.t 34,kI),(.t 35,kB)],fun k (s:Int×Int×Sl aS)=>xR x0 u6.1 k s.1 s.2.1 s.2.2,.f,fun(s:Int×Int×Sl aS)=>(0≤s.1∧s.1≤x0∧s.2.1=s.1+2*u6.1∧(s.2.2.n:Int)=x1.n),fun(s:Int×Int×Sl aS)=>(toNat (x0+2*u6.1+1-s.2.1)),some fun(r:Int×Int×Sl aS×Int×Int×Bool)=>(0≤r.1∧r.1≤x0∧(r.2.2.1.n:Int)=x1.n)⟩ .z) (.j ⟨35465915516584903,[],[(.h 0 0,.ah cr)],[],.f⟩ .z .z)))))))))) (let z8:=Uv x0 x1;(((0≤(0:Int)∧(0:Int)≤x0∧(20:Int)=(0:Int)+20∧(x1.n:Int)=x1.n))∧(∀(af:Int) (ak:Int) (aV:Sl aS),let zi:=i64.wrap (ak+20);let ze:=decide (ak≤x0);(0≤af∧af≤x0∧ak=af+20∧(aV.n:Int)=x1.n)→((ze=true→(0≤af∧af≤ak∧ak≤(aV.n:Int)∧aV.n≤900000))∧((ze=true→((0≤ak∧ak≤x0∧zi=ak+20∧(aV.n:Int)=x1.n)∧(toNat (x0+21-zi))<(toNat (x0+21-ak))))∧(ze=false→((0≤af∧af≤x0∧(aV.n:Int)=x1.n)))))))∧(((0≤z8.1∧z8.1≤x0∧(z8.2.2.n:Int)=x1.n))→((0≤z8.1∧z8.1≤x0∧x0≤(z8.2.2.n:Int)∧z8.2.2.n≤900000)∧(((20≤(20:Int)∧(20:Int)≤1800000∧(z8.2.2.n:Int)=x1.n))∧(∀(bg:Int) (ju:Int) (aBh:Int) (jI:Sl aS),let zj:=i64.wrap (2*bg);let zf:=decide (bg<x0);let zc:=i64.wrap (bg*2);let z6:=mC x0 bg jI;let za:=i64.wrap (z6.1+bg);(20≤bg∧bg≤1800000∧(jI.n:Int)=x1.n)→((zf=true→((((0≤(0:Int)∧(0:Int)≤x0∧zj=(0:Int)+2*bg∧(jI.n:Int)=x1.n))∧(∀(mQ:Int) (j2:Int) (sC:Sl aS),let zg:=i64.wrap (mQ+bg);let zd:=decide (j2≤x0);let zb:=i64.wrap (j2+zj);(0≤mQ∧mQ≤x0∧j2=mQ+2*bg∧(sC.n:Int)=x1.n)→((zd=true→(0≤mQ∧mQ<zg∧zg<j2∧j2≤(sC.n:Int)∧sC.n≤900000∧j2-mQ<((900001:Nat):Int)))∧((zd=true→((0≤j2∧j2≤x0∧zb=j2+2*bg∧(sC.n:Int)=x1.n)∧(toNat (x0+2*bg+1-zb))<(toNat (x0+2*bg+1-j2))))∧(zd=false→((0≤mQ∧mQ≤x0∧(sC.n:Int)=x1.n)))))))∧(((0≤z6.1∧z6.1≤x0∧(z6.2.2.1.n:Int)=x1.n))→((decide (za<x0))=true→(0≤z6.1∧z6.1<za∧za<x0∧x0≤(z6.2.2.1.n:Int)∧z6.2.2.1.n≤900000∧x0-z6.1<((900001:Nat):Int))))))∧((zf=true→((20≤zc∧zc≤1800000∧(((LI x0 bg jI).n:Nat):Int)=x1.n)∧(toNat (x0-zc))<(toNat (x0-bg))))∧(zf=false→((jI.n:Int)=x1.n))))))))) (bB 1 aQ (az avW (az (ahF 900001) bA))) Tryz.func46 (have⟨cn,dv⟩:=hp;⟨⟨(by omega),(fun af ak aV dX=>⟨(fun h2=>(by have:=ay h2;omega)),⟨(fun h3=>(by have:=ay h3;have:=aq (ak+20);omega)),(fun h4=>(by omega))⟩⟩)⟩,(fun Vt=>⟨(by omega),⟨(by omega),(fun bg ju aBh jI MV=>⟨(fun h7=>⟨⟨(by have:=aq (2*bg);omega),(fun mQ j2 sC hI8=>⟨(fun h9=>(by have:=ay h9;have:=aq (mQ+bg);omega)),⟨(fun dJ=>(by have:=ay dJ;have:=aq (2*bg);have:=aq (j2+(i64.wrap (2*bg)));omega)),(fun jH=>(by omega))⟩⟩)⟩,(fun asJ=>(fun nh=>(by have:=ay nh;have:=aq ((mC x0 bg jI).1+bg);omega)))⟩),⟨(fun rG=>(by have:=ay rG;have:=ah7 x0 bg jI;have:=aq (bg*2);omega)),(fun v8=>(by omega))⟩⟩)⟩⟩)⟩)) rfl (show([[(Kd.ah cr).av (Cb x0 x1)]]:Heap)=[[(Kd.ah cr).av (Sl.cut (Cb x0 x1) x1.n)]] by rw[e0])
end
def B6(x0:Sl aS):Sl aS:=(Sl.cut (Cb (x0.n:Int) x0) x0.n)
theorem ayd(x0:Sl aS)(hp:x0.n≤900000):(B6 x0).n=x0.n:=rfl
def amB:Hq:=⟨[.o 0,.fp 34 []],[(.h 0 0,.ah cr)],[[U]],fun x0=>⟨⟨some (x0.n≤900000),[],[[(Kd.ah cr).av (Sl.cut (B6 x0) x0.n)]]⟩⟩⟩
theorem avN:dz 33 amB:=dE Tryz.func33
 fun x0 n0 hp=>have e0:=Sl.A3 (ayd x0 hp);zA (rs:=[]) (H':=[[(Kd.ah cr).av (B6 x0)]]) (dy ⟨.heap,[],[(.h 0 0,.ah cr)],⟨[],[[U]]⟩⟩ (.z) ((x0.n:Int)=(x0.n:Int)∧x0.n≤900000) (bB 1 aQ (az avQ bA)) Tryz.func33 ((by omega))) rfl (show([[(Kd.ah cr).av (B6 x0)]]:Heap)=[[(Kd.ah cr).av (Sl.cut (B6 x0) x0.n)]] by rw[e0])
end Go.Proofs.YtfmgjpcmcjjoiaaGreatDoor
