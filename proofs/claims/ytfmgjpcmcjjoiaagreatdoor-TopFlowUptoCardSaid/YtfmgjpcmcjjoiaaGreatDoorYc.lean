/- Part of a proof: walks of the program. -/
import Derived.Test.YtfmgjpcmcjjoiaaGreatDoorXt
import Derived.Test.YtfmgjpcmcjjoiaaGreatDoorXu
import Derived.Test.YtfmgjpcmcjjoiaaGreatDoorXw
import Derived.Test.YtfmgjpcmcjjoiaaGreatDoorXy
import Derived.Test.YtfmgjpcmcjjoiaaGreatDoorXz
open Go.IntKind (i64 u64 u8)
open Int (toNat)
set_option maxRecDepth 100000
set_option maxHeartbeats 4000000
set_option linter.all false
noncomputable section
namespace Go.Proofs.YtfmgjpcmcjjoiaaGreatDoor
open Go Go.RowKit Go.Vc
section
variable(i:Nat)(j:Nat)(ms:aF)(C:Cr)(nd:Nd)(ka:Sl aF)(kt:Sl bI)(kl:Sl aS)
def afj:Bool:=(bif(ms.c2==1)then true else(ms.c2==2))
def og:Bool:=(bif(!(afj ms))then(decide (ms.c3>nd.te))else false)
def tI:Sl iP:=(bif(og ms nd)then(LK (iV ms.c3 (-1) nd)).ws else nd.ws)
def m8:Int:=(bif(og ms nd)then 0 else nd.ro)
def tJ:Int:=(bif(og ms nd)then(iV ms.c3 (-1) nd).te else nd.te)
def aq5:Int:=(bif(og ms nd)then(iV ms.c3 (-1) nd).vo else nd.vo)
def Gq:Sl Int:=(bif(og ms nd)then(iV ms.c3 (-1) nd).td else nd.td)
def aq6:Int:=(bif(og ms nd)then(iV ms.c3 (-1) nd).ts else nd.ts)
def Ca:Bool:=(bif(og ms nd)then(bif(!(Cc ms.c3 (-1) nd))then false else true)else true)
def gQ:Nd:={nd with ro:=(m8 ms nd),te:=(tJ ms nd),vo:=(aq5 ms nd),ws:=(tI ms nd),td:=(Gq ms nd),ts:=(aq6 ms nd)}
def xP:Bool:=(bif((m8 ms nd)==1)then(ms.c3==(i64.wrap ((tJ ms nd)+1)))else false)
def jQ:Nd:=(Nd.sv j (gQ ms nd))
def vE:Nd:=(Nd.bif (!nd.up) nd (Nd.bif (Ca ms nd) (Nd.bif (ms.c2==1) (Gx (⟨(j:Int),(i:Int),ms.c2,ms.c3,ms.c4,ms.c5,ms.c6,ms.c7,ms.c8,ms.c9,ms.cF,ms.cS,ms.cD,ms.di,ms.bO⟩:aF) (gQ ms nd)) (Nd.bif (ms.c2==2) (Nd.bif (xP ms nd) (Nd.bif (l7 (jQ j ms nd)) (xS (jQ j ms nd)) (jQ j ms nd)) (gQ ms nd)) (Nd.bif (decide (ms.c3<(tJ ms nd))) (Nd.bif (ms.c2 !=8) (vH (j:Int) (gQ ms nd)) (gQ ms nd)) (Nd.bif (ms.c2==3) (xT (⟨(j:Int),(i:Int),ms.c2,ms.c3,ms.c4,ms.c5,ms.c6,ms.c7,ms.c8,ms.c9,ms.cF,ms.cS,ms.cD,ms.di,ms.bO⟩:aF) (gQ ms nd)) (Nd.bif (ms.c2==4) (Nd.bif ((m8 ms nd)==2) (Nd.bif (l7 (jQ j ms nd)) (GC (jQ j ms nd)) (jQ j ms nd)) (gQ ms nd)) (Nd.bif (ms.c2==5) (xU (⟨(j:Int),(i:Int),ms.c2,ms.c3,ms.c4,ms.c5,ms.c6,ms.c7,ms.c8,ms.c9,ms.cF,ms.cS,ms.cD,ms.di,ms.bO⟩:aF) (m9 (gQ ms nd)) ka kt kl) (Nd.bif (ms.c2==7) (xV (⟨(j:Int),(i:Int),ms.c2,ms.c3,ms.c4,ms.c5,ms.c6,ms.c7,ms.c8,ms.c9,ms.cF,ms.cS,ms.cD,ms.di,ms.bO⟩:aF) (m9 (gQ ms nd))) (Nd.bif (ms.c2==6) (Nd.bif ((m8 ms nd)==3) (xW (⟨(j:Int),(i:Int),ms.c2,ms.c3,ms.c4,ms.c5,ms.c6,ms.c7,ms.c8,ms.c9,ms.cF,ms.cS,ms.cD,ms.di,ms.bO⟩:aF) (gQ ms nd) ka kt kl) (gQ ms nd)) (gQ ms nd))))))))) (iV ms.c3 (-1) nd)))
def B8:Sl aF:=(bif(!nd.up)then ka else(bif(Ca ms nd)then(bif(ms.c2==1)then ka else(bif(ms.c2==2)then(bif(xP ms nd)then(bif(l7 (jQ j ms nd))then ka else ka)else ka)else(bif(decide (ms.c3<(tJ ms nd)))then(bif(ms.c2 !=8)then ka else ka)else(bif(ms.c2==3)then ka else(bif(ms.c2==4)then(bif((m8 ms nd)==2)then(bif(l7 (jQ j ms nd))then ka else ka)else ka)else(bif(ms.c2==5)then(GD (⟨(j:Int),(i:Int),ms.c2,ms.c3,ms.c4,ms.c5,ms.c6,ms.c7,ms.c8,ms.c9,ms.cF,ms.cS,ms.cD,ms.di,ms.bO⟩:aF) (m9 (gQ ms nd)) ka kt kl)else(bif(ms.c2==7)then ka else(bif(ms.c2==6)then(bif((m8 ms nd)==3)then(GO (⟨(j:Int),(i:Int),ms.c2,ms.c3,ms.c4,ms.c5,ms.c6,ms.c7,ms.c8,ms.c9,ms.cF,ms.cS,ms.cD,ms.di,ms.bO⟩:aF) (gQ ms nd) ka kt kl)else ka)else ka))))))))else ka))
def B_:Sl bI:=(bif(!nd.up)then kt else(bif(Ca ms nd)then(bif(ms.c2==1)then kt else(bif(ms.c2==2)then(bif(xP ms nd)then(bif(l7 (jQ j ms nd))then kt else kt)else kt)else(bif(decide (ms.c3<(tJ ms nd)))then(bif(ms.c2 !=8)then kt else kt)else(bif(ms.c2==3)then kt else(bif(ms.c2==4)then(bif((m8 ms nd)==2)then(bif(l7 (jQ j ms nd))then kt else kt)else kt)else(bif(ms.c2==5)then(GG (⟨(j:Int),(i:Int),ms.c2,ms.c3,ms.c4,ms.c5,ms.c6,ms.c7,ms.c8,ms.c9,ms.cF,ms.cS,ms.cD,ms.di,ms.bO⟩:aF) (m9 (gQ ms nd)) ka kt kl)else(bif(ms.c2==7)then kt else(bif(ms.c2==6)then(bif((m8 ms nd)==3)then(GR (⟨(j:Int),(i:Int),ms.c2,ms.c3,ms.c4,ms.c5,ms.c6,ms.c7,ms.c8,ms.c9,ms.cF,ms.cS,ms.cD,ms.di,ms.bO⟩:aF) (gQ ms nd) ka kt kl)else kt)else kt))))))))else kt))
def B9:Sl aS:=(bif(!nd.up)then kl else(bif(Ca ms nd)then(bif(ms.c2==1)then kl else(bif(ms.c2==2)then(bif(xP ms nd)then(bif(l7 (jQ j ms nd))then kl else kl)else kl)else(bif(decide (ms.c3<(tJ ms nd)))then(bif(ms.c2 !=8)then kl else kl)else(bif(ms.c2==3)then kl else(bif(ms.c2==4)then(bif((m8 ms nd)==2)then(bif(l7 (jQ j ms nd))then(UA (jQ j ms nd) kl)else kl)else kl)else(bif(ms.c2==5)then(GF (⟨(j:Int),(i:Int),ms.c2,ms.c3,ms.c4,ms.c5,ms.c6,ms.c7,ms.c8,ms.c9,ms.cF,ms.cS,ms.cD,ms.di,ms.bO⟩:aF) (m9 (gQ ms nd)) ka kt kl)else(bif(ms.c2==7)then kl else(bif(ms.c2==6)then(bif((m8 ms nd)==3)then(GQ (⟨(j:Int),(i:Int),ms.c2,ms.c3,ms.c4,ms.c5,ms.c6,ms.c7,ms.c8,ms.c9,ms.cF,ms.cS,ms.cD,ms.di,ms.bO⟩:aF) (gQ ms nd) ka kt kl)else kl)else kl))))))))else kl))
theorem aBz(ms:aF)(nd:Nd)(h:nd.ws.n≤3000):(m9 (gQ ms nd)).ws.n≤3000:=by
 have h0:(al:Sl iP).n≤3000:=aCQ _;have e:(tI ms nd).n≤3000:=by
  unfold tI
  cases og ms nd
  ·exact h
  ·exact h0
 show(bif((gQ ms nd).ro==2)then(al:Sl iP)else(tI ms nd)).n≤3000
 cases ((gQ ms nd).ro==2)
 ·exact e
 ·exact h0
theorem ZA(ms:aF)(nd:Nd)(h:nd.ws.n≤3000):(tI ms nd).n≤3000:=by
 have h0:(al:Sl iP).n≤3000:=aCQ _;unfold tI
 cases og ms nd
 ·exact h
 ·exact h0
def PZ:Hr:=⟨[.p 0,.g [kI,kI,kI,kI,kI,kI,kB,kI,.sl cZ,kI,kI,kI,.sl aZ,kI,.sl bG]],bP,eC,dS,fun(y0:Int) (y1:Int) (y2:Int) (y3:Int) (y4:Int) (y5:Int) y6 (y7:Int) y8 (y9:Int) (eS:Int) (eV:Int) eW (eX:Int) eY=>cg fun C=>⟨⟨some (iO (C.nd i)∧ie (⟨y0,y1,y2,y3,y4,y5,y6,y7,y8,y9,eS,eV,eW,eX,eY⟩:aF)∧C.told.n≤541000000000∧C.aY.n≤549000000000),[],bN [10,2,11,4,12,6,7,8,9] 3 (C.put i (vE i j (⟨y0,y1,y2,y3,y4,y5,y6,y7,y8,y9,eS,eV,eW,eX,eY⟩:aF) (C.nd i) C.ax C.told C.aY) (B8 i j (⟨y0,y1,y2,y3,y4,y5,y6,y7,y8,y9,eS,eV,eW,eX,eY⟩:aF) (C.nd i) C.ax C.told C.aY) (B_ i j (⟨y0,y1,y2,y3,y4,y5,y6,y7,y8,y9,eS,eV,eW,eX,eY⟩:aF) (C.nd i) C.ax C.told C.aY) (B9 i j (⟨y0,y1,y2,y3,y4,y5,y6,y7,y8,y9,eS,eV,eW,eX,eY⟩:aF) (C.nd i) C.ax C.told C.aY))⟩⟩⟩
def qI:RS:=⟨.dY true [.b 10] [.own (.h 0 29) cA 10,.own (.h 0 62) cA 11,.own (.h 0 95) cA 12] (qB i [10,2,11,4,12,6,7,8,9] 3 [] 0 C) (qj i [10,2,11,4,12,6,7,8,9]),[],[]++pD i [10,2,11,4,12,6,7,8,9],⟨[],[]⟩⟩
def tV:Hn (qI i C).kd:=let zc:=C.nd i;let zb:=gQ ms zc;let za:=jQ j ms zc;let z8:=aJ.set (2*i) 45;let z6:=C.set i zb;(.ai (.ai (.ai (.j ⟨57,[],[(.t 5,kB)],[],.f⟩ .z (.ck ⟨([.ptr 0 0,U,U,.ptr 10 0,.ptr 0 (33*i+0),.bool (afj ms)]++(us 147 ([]))),bS aJ 1 C [(10,(jK (j:Int) (i:Int) ms))]⟩ (.jc ⟨25,[],[(.h 45 0,.ah cA),(.h 0 (33*i+3),kI),(.h 0 (33*i+4),kI),(.h 0 (33*i+5),kI),(.h 0 (33*i+30),.sl E5),(.h 0 (33*i+31),kI)],[],.f⟩ [.own (.h 0 (33*i+29)) cA 45] (.j ⟨34359738393,[],[(.t 35,kB)],[],.f⟩ .z (.ck ⟨([.ptr 0 0,U,U,.ptr 10 0,.ptr 0 (33*i+0)]++(us 30 (([.bool (og ms zc)]++(us 117 ([])))))),bS aJ 1 C [(10,(jK (j:Int) (i:Int) ms))]⟩ (.s (.s (.ai (.ck ⟨([.ptr 0 0,U,U,.ptr 10 0,.ptr 0 (33*i+0)]++(us 35 (([.bool (!(Cc ms.c3 (-1) zc))]++(us 112 ([])))))),bS aJ 1 (C.set i (iV ms.c3 (-1) zc)) [(10,(jK (j:Int) (i:Int) ms))]⟩ .z)) .z) .z))) (.ck ⟨([.ptr 0 0,U,U,.ptr 10 0,.ptr 0 (33*i+0)]++(us 148 ([]))),bS z8 36 z6 [(10,(jK (j:Int) (i:Int) ms))]⟩ (.ai (.ai (.ai (.ck ⟨([.ptr 0 0,U,U,.ptr 10 0,.ptr 0 (33*i+0)]++(us 45 (([.bool (ms.c2==2)]++(us 102 ([])))))),bS z8 36 z6 [(10,(jK (j:Int) (i:Int) ms))]⟩ (.s (.j ⟨295147905179352825880,[],[(.t 68,kB)],[],.f⟩ .z (.ck ⟨([U,U,U,.ptr 10 0,.ptr 0 (33*i+0)]++(us 63 (([.bool (xP ms zc)]++(us 84 ([])))))),bS z8 36 z6 [(10,(jK (j:Int) (i:Int) ms))]⟩ (.s (.ai (.ai (.ck ⟨([U,U,U,U,.ptr 0 (33*i+0)]++(us 71 (([.bool (l7 za)]++(us 76 ([])))))),bS z8 36 (C.set i za) [(10,(jK (j:Int) (i:Int) ms))]⟩ .z))) .z))) (.ai (.ck ⟨([.ptr 0 0,U,U,.ptr 10 0,.ptr 0 (33*i+0)]++(us 74 (([.bool (decide (ms.c3<(tJ ms zc)))]++(us 73 ([])))))),bS z8 36 z6 [(10,(jK (j:Int) (i:Int) ms))]⟩ (.ai (.ai (.ck ⟨([.ptr 0 0,U,U,.ptr 10 0,.ptr 0 (33*i+0)]++(us 89 (([.bool (ms.c2==3)]++(us 58 ([])))))),bS z8 36 z6 [(10,(jK (j:Int) (i:Int) ms))]⟩ (.ai (.ai (.ck ⟨([.ptr 0 0,U,U,.ptr 10 0,.ptr 0 (33*i+0)]++(us 96 (([.bool (ms.c2==4)]++(us 51 ([])))))),bS z8 36 z6 [(10,(jK (j:Int) (i:Int) ms))]⟩ (.s (.ai (.s (.ai (.ai (.ck ⟨([.ptr 0 0,U,U,U,.ptr 0 (33*i+0)]++(us 112 (([.bool (l7 za)]++(us 35 ([])))))),bS z8 36 (C.set i za) [(10,(jK (j:Int) (i:Int) ms))]⟩ .z))) .z)) (.ai (.ck ⟨([.ptr 0 0,U,U,.ptr 10 0,.ptr 0 (33*i+0)]++(us 116 (([.bool (ms.c2==5)]++(us 31 ([])))))),bS z8 36 z6 [(10,(jK (j:Int) (i:Int) ms))]⟩ (.s (.ai (.ck ⟨([.ptr 0 0,U,U,.ptr 10 0,.ptr 0 (33*i+0)]++(us 148 ([]))),bS (aJ.set (2*i) 78) 69 (C.set i (m9 zb)) [(10,(jK (j:Int) (i:Int) ms)),(45,[dh])]⟩ .z)) (.ai (.ck ⟨([.ptr 0 0,U,U,.ptr 10 0,.ptr 0 (33*i+0)]++(us 126 (([.bool (ms.c2==7)]++(us 21 ([])))))),bS z8 36 z6 [(10,(jK (j:Int) (i:Int) ms))]⟩ (.s (.ai (.ck ⟨([U,U,U,.ptr 10 0,.ptr 0 (33*i+0)]++(us 148 ([]))),bS (aJ.set (2*i) 78) 69 (C.set i (m9 zb)) [(10,(jK (j:Int) (i:Int) ms)),(45,[dh])]⟩ .z)) (.ai (.ck ⟨([.ptr 0 0,U,U,.ptr 10 0,.ptr 0 (33*i+0)]++(us 135 (([.bool (ms.c2==6)]++(us 12 ([])))))),bS z8 36 z6 [(10,(jK (j:Int) (i:Int) ms))]⟩ .z)))))))))))))))))))))))))))))
def qs(i:Nat)(j:Nat)(ms:aF)(C:Cr):Prop:=((!(C.nd i).up)=false→((Ca ms (C.nd i))=true→((ms.c2==1)=false→(((ms.c2==2)=true→((xP ms (C.nd i))=true→((l7 (jQ j ms (C.nd i)))=true→(0≤(C.nd i).me∧(C.nd i).me<3))))∧((ms.c2==2)=false→((decide (ms.c3<(tJ ms (C.nd i))))=false→((ms.c2==3)=false→(((ms.c2==4)=true→(((m8 ms (C.nd i))==2)=true→((l7 (jQ j ms (C.nd i)))=true→(C.aY.n≤549000000000∧0≤(C.nd i).lb∧(C.nd i).lb+((C.nd i).li.n:Int)+1≤4194304))))∧((ms.c2==4)=false→(((ms.c2==5)=true→(dN (C.nd i).li∧dN ms.c8∧C.told.n≤541000000000∧(m9 (gQ ms (C.nd i))).ws.n≤3000∧0≤(C.nd i).lb∧(C.nd i).lb≤(C.nd i).co∧(C.nd i).co≤4194304))∧((ms.c2==5)=false→(((ms.c2==7)=true→(ms.c9≤4194304))∧((ms.c2==7)=false→((ms.c2==6)=true→(((m8 ms (C.nd i))==3)=true→(0≤(j:Int)∧(j:Int)<3∧C.told.n≤541000000000∧(tI ms (C.nd i)).n≤3000∧0≤(C.nd i).lb∧(C.nd i).lb≤(C.nd i).co∧(C.nd i).co≤4194304∧(C.nd i).lb+((C.nd i).li.n:Int)≤4194304∧(C.nd i).li.n≤200))))))))))))))))
theorem uJ(i:Nat)(hi:i<3)(j:Nat)(hj:j<3)(ms:aF)(C:Cr)(hb:dA C)(n8:ms.c8.n≤549755813888)(dL:ms.cD.n≤549755813888)(eD:ms.bO.n≤549755813888)(hp:iO (C.nd i)∧ie ms∧C.told.n≤541000000000∧C.aY.n≤549000000000):qs i j ms C:=by
 have hN:=fR hb i hi;unfold fq at hN;unfold qs;exact have⟨cn,dv,ia,mH⟩:=hp;have:=cn.me;have:=cn.lb;have:=cn.bc;have:=cn.co;have:=cn.ln;have:=cn.ll;have:=cn.ws;have:=cn.li;have:=dv.la;have:=dv.si;have:=dv.li;have:=aBz ms (C.nd i) cn.ws;have:=ZA ms (C.nd i) cn.ws;((fun h1=>(fun h2=>(fun h3=>⟨(fun h4=>(fun h5=>(fun h6=>(by omega)))),(fun h7=>(fun h8=>(fun h9=>⟨(fun dJ=>(fun jH=>(fun fw=>(by omega)))),(fun nh=>⟨(fun rG=>⟨(by assumption),(by assumption),(by omega)⟩),(fun v8=>⟨(fun v_=>(by omega)),(fun MO=>(fun CT=>(fun Vr=>(by omega))))⟩)⟩)⟩)))⟩))))
def qH(i j:Nat):Prop:= ∀(ms:aF) (n8:ms.c8.n≤549755813888) (dL:ms.cD.n≤549755813888) (eD:ms.bO.n≤549755813888) (C:Cr) (hb:dA C) (hp:iO (C.nd i)∧ie ms∧C.told.n≤541000000000∧C.aY.n≤549000000000),fj Tryz.prog 44 ((PZ i j).args ((jK (j:Int) (i:Int) ms)++fX C)) ((PZ i j).hv (((jK (j:Int) (i:Int) ms)++fX C).drop (PZ i j).na)) [] (bN [10,2,11,4,12,6,7,8,9] 3 (C.put i (vE i j ms (C.nd i) C.ax C.told C.aY) (B8 i j ms (C.nd i) C.ax C.told C.aY) (B_ i j ms (C.nd i) C.ax C.told C.aY) (B9 i j ms (C.nd i) C.ax C.told C.aY)))
theorem awr:qH 0 0:=by
 intro ms n8 dL eD C hb hp;refine dD (qI 0 C) (tV 0 0 ms C) (qs 0 0 ms C) (bB 10 aQ (az (qf 0 (by omega)) (az (r9 0 (by omega)) (az (uv 0 (by omega)) (az (uw 0 (by omega)) (az (ux 0 (by omega)) (az (qg 0 (by omega)) (az (uy 0 (by omega)) (az (uz 0 (by omega)) (az (uA 0 (by omega)) (az (uB 0 (by omega)) (az (uC 0 (by omega)) (az (uD 0 (by omega)) bA))))))))))))) Tryz.func44 [] ?_ ?_ (uJ 0 (by omega) 0 (by omega) ms C hb n8 dL eD hp)
 ·kernel_rfl
 ·kernel_rfl
theorem aws:qH 0 1:=by
 intro ms n8 dL eD C hb hp;refine dD (qI 0 C) (tV 0 1 ms C) (qs 0 1 ms C) (bB 10 aQ (az (qf 0 (by omega)) (az (r9 0 (by omega)) (az (uv 0 (by omega)) (az (uw 0 (by omega)) (az (ux 0 (by omega)) (az (qg 0 (by omega)) (az (uy 0 (by omega)) (az (uz 0 (by omega)) (az (uA 0 (by omega)) (az (uB 0 (by omega)) (az (uC 0 (by omega)) (az (uD 0 (by omega)) bA))))))))))))) Tryz.func44 [] ?_ ?_ (uJ 0 (by omega) 1 (by omega) ms C hb n8 dL eD hp)
 ·kernel_rfl
 ·kernel_rfl
theorem awt:qH 0 2:=by
 intro ms n8 dL eD C hb hp;refine dD (qI 0 C) (tV 0 2 ms C) (qs 0 2 ms C) (bB 10 aQ (az (qf 0 (by omega)) (az (r9 0 (by omega)) (az (uv 0 (by omega)) (az (uw 0 (by omega)) (az (ux 0 (by omega)) (az (qg 0 (by omega)) (az (uy 0 (by omega)) (az (uz 0 (by omega)) (az (uA 0 (by omega)) (az (uB 0 (by omega)) (az (uC 0 (by omega)) (az (uD 0 (by omega)) bA))))))))))))) Tryz.func44 [] ?_ ?_ (uJ 0 (by omega) 2 (by omega) ms C hb n8 dL eD hp)
 ·kernel_rfl
 ·kernel_rfl
theorem awu:qH 1 0:=by
 intro ms n8 dL eD C hb hp;refine dD (qI 1 C) (tV 1 0 ms C) (qs 1 0 ms C) (bB 10 aQ (az (qf 1 (by omega)) (az (r9 1 (by omega)) (az (uv 1 (by omega)) (az (uw 1 (by omega)) (az (ux 1 (by omega)) (az (qg 1 (by omega)) (az (uy 1 (by omega)) (az (uz 1 (by omega)) (az (uA 1 (by omega)) (az (uB 1 (by omega)) (az (uC 1 (by omega)) (az (uD 1 (by omega)) bA))))))))))))) Tryz.func44 [] ?_ ?_ (uJ 1 (by omega) 0 (by omega) ms C hb n8 dL eD hp)
 ·kernel_rfl
 ·kernel_rfl
theorem awv:qH 1 1:=by
 intro ms n8 dL eD C hb hp;refine dD (qI 1 C) (tV 1 1 ms C) (qs 1 1 ms C) (bB 10 aQ (az (qf 1 (by omega)) (az (r9 1 (by omega)) (az (uv 1 (by omega)) (az (uw 1 (by omega)) (az (ux 1 (by omega)) (az (qg 1 (by omega)) (az (uy 1 (by omega)) (az (uz 1 (by omega)) (az (uA 1 (by omega)) (az (uB 1 (by omega)) (az (uC 1 (by omega)) (az (uD 1 (by omega)) bA))))))))))))) Tryz.func44 [] ?_ ?_ (uJ 1 (by omega) 1 (by omega) ms C hb n8 dL eD hp)
 ·kernel_rfl
 ·kernel_rfl
theorem aww:qH 1 2:=by
 intro ms n8 dL eD C hb hp;refine dD (qI 1 C) (tV 1 2 ms C) (qs 1 2 ms C) (bB 10 aQ (az (qf 1 (by omega)) (az (r9 1 (by omega)) (az (uv 1 (by omega)) (az (uw 1 (by omega)) (az (ux 1 (by omega)) (az (qg 1 (by omega)) (az (uy 1 (by omega)) (az (uz 1 (by omega)) (az (uA 1 (by omega)) (az (uB 1 (by omega)) (az (uC 1 (by omega)) (az (uD 1 (by omega)) bA))))))))))))) Tryz.func44 [] ?_ ?_ (uJ 1 (by omega) 2 (by omega) ms C hb n8 dL eD hp)
 ·kernel_rfl
 ·kernel_rfl
theorem awx:qH 2 0:=by
 intro ms n8 dL eD C hb hp;refine dD (qI 2 C) (tV 2 0 ms C) (qs 2 0 ms C) (bB 10 aQ (az (qf 2 (by omega)) (az (r9 2 (by omega)) (az (uv 2 (by omega)) (az (uw 2 (by omega)) (az (ux 2 (by omega)) (az (qg 2 (by omega)) (az (uy 2 (by omega)) (az (uz 2 (by omega)) (az (uA 2 (by omega)) (az (uB 2 (by omega)) (az (uC 2 (by omega)) (az (uD 2 (by omega)) bA))))))))))))) Tryz.func44 [] ?_ ?_ (uJ 2 (by omega) 0 (by omega) ms C hb n8 dL eD hp)
 ·kernel_rfl
 ·kernel_rfl
theorem awy:qH 2 1:=by
 intro ms n8 dL eD C hb hp;refine dD (qI 2 C) (tV 2 1 ms C) (qs 2 1 ms C) (bB 10 aQ (az (qf 2 (by omega)) (az (r9 2 (by omega)) (az (uv 2 (by omega)) (az (uw 2 (by omega)) (az (ux 2 (by omega)) (az (qg 2 (by omega)) (az (uy 2 (by omega)) (az (uz 2 (by omega)) (az (uA 2 (by omega)) (az (uB 2 (by omega)) (az (uC 2 (by omega)) (az (uD 2 (by omega)) bA))))))))))))) Tryz.func44 [] ?_ ?_ (uJ 2 (by omega) 1 (by omega) ms C hb n8 dL eD hp)
 ·kernel_rfl
 ·kernel_rfl
theorem awz:qH 2 2:=by
 intro ms n8 dL eD C hb hp;refine dD (qI 2 C) (tV 2 2 ms C) (qs 2 2 ms C) (bB 10 aQ (az (qf 2 (by omega)) (az (r9 2 (by omega)) (az (uv 2 (by omega)) (az (uw 2 (by omega)) (az (ux 2 (by omega)) (az (qg 2 (by omega)) (az (uy 2 (by omega)) (az (uz 2 (by omega)) (az (uA 2 (by omega)) (az (uB 2 (by omega)) (az (uC 2 (by omega)) (az (uD 2 (by omega)) bA))))))))))))) Tryz.func44 [] ?_ ?_ (uJ 2 (by omega) 2 (by omega) ms C hb n8 dL eD hp)
 ·kernel_rfl
 ·kernel_rfl
theorem uE(i:Nat)(hi:i<3)(j:Nat)(hj:j<3):qH i j:=by
 rcases bJ hi with rfl|rfl|rfl<;>rcases bJ hj with rfl|rfl|rfl
 ·exact awr
 ·exact aws
 ·exact awt
 ·exact awu
 ·exact awv
 ·exact aww
 ·exact awx
 ·exact awy
 ·exact awz
end
end Go.Proofs.YtfmgjpcmcjjoiaaGreatDoor
