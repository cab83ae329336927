/- Part of a proof: walks of the program. -/
import Derived.Test.YtfmgjpcmcjjoiaaGreatDoorXv
open Go.IntKind (i64 u64 u8)
open Int (toNat)
set_option maxRecDepth 100000
set_option maxHeartbeats 4000000
set_option linter.all false
noncomputable section
namespace Go.Proofs.YtfmgjpcmcjjoiaaGreatDoor
open Go Go.RowKit Go.Vc
section
variable(i:Nat)(j:Nat)(ms:aF)(nd:Nd)(ka:Sl aF)(kt:Sl bI)(kl:Sl aS)
def GU:Nd:=(Nd.spq j (imax (Nd.gp j nd) (i64.wrap (ms.c4+1))) (imax (Nd.gq j nd) ms.c4) nd)
def arA:Nd:=(Nd.sp j (i64.wrap ((imax (Nd.gq j nd) ms.c4)+1)) nd)
def UC:Nd:=(Nd.bif ms.c6 (tM (GU j ms nd) ka kt kl) (arA j ms nd))
def UD:Sl aF:=(bif ms.c6 then(ym (GU j ms nd) ka kt kl)else ka)
def UF:Sl bI:=(bif ms.c6 then(yo (GU j ms nd) ka kt kl)else kt)
def UE:Sl aS:=(bif ms.c6 then(yn (GU j ms nd) ka kt kl)else kl)
def Qi:Hr:=⟨[.p 0,.po 0 (33*i),.g [kI,kI,kI,kI,kI,kI,kB,kI,.sl cZ,kI,kI,kI,.sl aZ,kI,.sl bG]],bP,eC,dS,fun(y0:Int) (y1:Int) (y2:Int) (y3:Int) (y4:Int) (y5:Int) y6 (y7:Int) y8 (y9:Int) (eS:Int) (eV:Int) eW (eX:Int) eY=>cg fun C=>let z6:=C.nd i;⟨⟨some (C.told.n≤541000000000∧z6.ws.n≤3000∧0≤z6.lb∧z6.lb≤z6.co∧z6.co≤4194304∧z6.lb+(z6.li.n:Int)≤4194304∧z6.li.n≤200),[],bN aJ 0 (C.put i (UC j (⟨y0,y1,y2,y3,y4,y5,y6,y7,y8,y9,eS,eV,eW,eX,eY⟩:aF) z6 C.ax C.told C.aY) (UD j (⟨y0,y1,y2,y3,y4,y5,y6,y7,y8,y9,eS,eV,eW,eX,eY⟩:aF) z6 C.ax C.told C.aY) (UF j (⟨y0,y1,y2,y3,y4,y5,y6,y7,y8,y9,eS,eV,eW,eX,eY⟩:aF) z6 C.ax C.told C.aY) (UE j (⟨y0,y1,y2,y3,y4,y5,y6,y7,y8,y9,eS,eV,eW,eX,eY⟩:aF) z6 C.ax C.told C.aY))⟩⟩⟩
def aas:RS:=⟨.dY true [] [] (gx i aJ 0 [] 0) (gw i aJ),[],[]++fL i aJ,⟨[],[]⟩⟩
def asB(C:Cr):Hn (aas i).kd:=let z6:=GU j ms (C.nd i);(.ai (.s (.ai (.s (.ai (.ai (.ai (.ck ⟨([U,.ptr 0 (33*i+0),U,U,U,.ptr 10 0]++(us 55 ([]))),bS aJ 1 (C.put i (tM z6 C.ax C.told C.aY) (ym z6 C.ax C.told C.aY) (yo z6 C.ax C.told C.aY) (yn z6 C.ax C.told C.aY)) [(10,(jK (j:Int) ms.c1 ms))]⟩ .z)))) .z)) .z))
def Yu(i:Nat)(j:Nat)(ms:aF)(C:Cr):Prop:=(ms.c6=true→(C.told.n≤541000000000∧(C.nd i).ws.n≤3000∧0≤(C.nd i).lb∧(C.nd i).lb≤(C.nd i).co∧(C.nd i).co≤4194304∧(C.nd i).lb+((C.nd i).li.n:Int)≤4194304∧(C.nd i).li.n≤200))
theorem ayV(i:Nat)(hi:i<3)(j:Nat)(hj:j<3)(ms:aF)(C:Cr)(hb:dA C)(n8:ms.c8.n≤549755813888)(dL:ms.cD.n≤549755813888)(eD:ms.bO.n≤549755813888)(hp:C.told.n≤541000000000∧(C.nd i).ws.n≤3000∧0≤(C.nd i).lb∧(C.nd i).lb≤(C.nd i).co∧(C.nd i).co≤4194304∧(C.nd i).lb+((C.nd i).li.n:Int)≤4194304∧(C.nd i).li.n≤200):Yu i j ms C:=by
 have hN:=fR hb i hi;unfold fq at hN;unfold Yu;exact have⟨cn,dv,ia,mH,wm,Dr,Wf⟩:=hp;((fun h1=>(by omega)))
theorem Xo(i:Nat)(hi:i<3)(j:Nat)(hj:j<3)(ms:aF)(n8:ms.c8.n≤549755813888)(dL:ms.cD.n≤549755813888)(eD:ms.bO.n≤549755813888)(C:Cr)(hb:dA C)(hp:C.told.n≤541000000000∧(C.nd i).ws.n≤3000∧0≤(C.nd i).lb∧(C.nd i).lb≤(C.nd i).co∧(C.nd i).co≤4194304∧(C.nd i).lb+((C.nd i).li.n:Int)≤4194304∧(C.nd i).li.n≤200):fj Tryz.prog 69 ((Qi i j).args ((jK (j:Int) ms.c1 ms)++fX C)) ((Qi i j).hv (((jK (j:Int) ms.c1 ms)++fX C).drop (Qi i j).na)) [] (bN aJ 0 (C.put i (UC j ms (C.nd i) C.ax C.told C.aY) (UD j ms (C.nd i) C.ax C.told C.aY) (UF j ms (C.nd i) C.ax C.told C.aY) (UE j ms (C.nd i) C.ax C.told C.aY))):=by
 refine dD (aas i) (asB i j ms C) (Yu i j ms C) (bB 10 aQ (az (avY i hi) bA)) Tryz.func69 (List.replicate 31 .f++List.replicate 62 .l++[.f,.f]++List.replicate 4 .l++[.f,.f,.f]) ?_ ?_ (ayV i hi j hj ms C hb n8 dL eD hp)
 ·rcases bJ hi with rfl|rfl|rfl<;>rcases bJ hj with rfl|rfl|rfl<;>kernel_rfl
 ·rcases bJ hi with rfl|rfl|rfl<;>rcases bJ hj with rfl|rfl|rfl<;>kernel_rfl
def xW:Nd:=(UC (toNat ms.c0) ms nd ka kt kl)
def GO:Sl aF:=(UD (toNat ms.c0) ms nd ka kt kl)
def GR:Sl bI:=(UF (toNat ms.c0) ms nd ka kt kl)
def GQ:Sl aS:=(UE (toNat ms.c0) ms nd ka kt kl)
def Qh:Hr:=⟨[.p 0,.po 0 (33*i),.g [kI,kI,kI,kI,kI,kI,kB,kI,.sl cZ,kI,kI,kI,.sl aZ,kI,.sl bG]],bP,eC,dS,fun(y0:Int) (y1:Int) (y2:Int) (y3:Int) (y4:Int) (y5:Int) y6 (y7:Int) y8 (y9:Int) (eS:Int) (eV:Int) eW (eX:Int) eY=>cg fun C=>let z6:=C.nd i;⟨⟨some (0≤(⟨y0,y1,y2,y3,y4,y5,y6,y7,y8,y9,eS,eV,eW,eX,eY⟩:aF).c0∧(⟨y0,y1,y2,y3,y4,y5,y6,y7,y8,y9,eS,eV,eW,eX,eY⟩:aF).c0<3∧C.told.n≤541000000000∧z6.ws.n≤3000∧0≤z6.lb∧z6.lb≤z6.co∧z6.co≤4194304∧z6.lb+(z6.li.n:Int)≤4194304∧z6.li.n≤200),[],bN aJ 0 ((C.put i (xW (⟨y0,y1,y2,y3,y4,y5,y6,y7,y8,y9,eS,eV,eW,eX,eY⟩:aF) z6 C.ax C.told C.aY) (GO (⟨y0,y1,y2,y3,y4,y5,y6,y7,y8,y9,eS,eV,eW,eX,eY⟩:aF) z6 C.ax C.told C.aY) (GR (⟨y0,y1,y2,y3,y4,y5,y6,y7,y8,y9,eS,eV,eW,eX,eY⟩:aF) z6 C.ax C.told C.aY) (GQ (⟨y0,y1,y2,y3,y4,y5,y6,y7,y8,y9,eS,eV,eW,eX,eY⟩:aF) z6 C.ax C.told C.aY)):Cr)⟩⟩⟩
theorem awQ(i:Nat)(hi:i<3)(ms:aF)(n8:ms.c8.n≤549755813888)(dL:ms.cD.n≤549755813888)(eD:ms.bO.n≤549755813888):fb Tryz.prog 69 (Qh i) bP [] (cg fun C=>⟨⟨some (0≤ms.c0∧ms.c0<3∧C.told.n≤541000000000∧(C.nd i).ws.n≤3000∧0≤(C.nd i).lb∧(C.nd i).lb≤(C.nd i).co∧(C.nd i).co≤4194304∧(C.nd i).lb+((C.nd i).li.n:Int)≤4194304∧(C.nd i).li.n≤200),[],bN aJ 0 ((C.put i (xW ms (C.nd i) C.ax C.told C.aY) (GO ms (C.nd i) C.ax C.told C.aY) (GR ms (C.nd i) C.ax C.told C.aY) (GQ ms (C.nd i) C.ax C.told C.aY)):Cr)⟩⟩) (jh ms):=by
 refine gv fun C hb hp=> ?_;obtain⟨a0,a1,a2,a3,a4,a5,a6,a7,a8,a9,jy,jz,j6,j7,j8⟩:=ms;have e0:a0=0∨a0=1∨a0=2:=by
  have h1:0≤a0:=hp.1;have h2:a0<3:=hp.2.1;omega
 rcases e0 with rfl|rfl|rfl
 ·exact Eq.mp (by rcases bJ hi with rfl|rfl|rfl<;>kernel_rfl) (Xo i hi 0 (by omega) ⟨0,a1,a2,a3,a4,a5,a6,a7,a8,a9,jy,jz,j6,j7,j8⟩ n8 dL eD C hb hp.2.2)
 ·exact Eq.mp (by rcases bJ hi with rfl|rfl|rfl<;>kernel_rfl) (Xo i hi 1 (by omega) ⟨1,a1,a2,a3,a4,a5,a6,a7,a8,a9,jy,jz,j6,j7,j8⟩ n8 dL eD C hb hp.2.2)
 ·exact Eq.mp (by rcases bJ hi with rfl|rfl|rfl<;>kernel_rfl) (Xo i hi 2 (by omega) ⟨2,a1,a2,a3,a4,a5,a6,a7,a8,a9,jy,jz,j6,j7,j8⟩ n8 dL eD C hb hp.2.2)
theorem azz(i:Nat)(hi:i<3):gi 69 (Qh i):=
 j4 (ks:=[kI,kI,kI,kI,kI,kI,kB,kI,.sl cZ,kI,kI,kI,.sl aZ,kI,.sl bG]) fun s hs=>Eq.mp (by rcases bJ hi with rfl|rfl|rfl<;>kernel_rfl) (awQ i hi ⟨s.1,s.2.1,s.2.2.1,s.2.2.2.1,s.2.2.2.2.1,s.2.2.2.2.2.1,s.2.2.2.2.2.2.1,s.2.2.2.2.2.2.2.1,s.2.2.2.2.2.2.2.2.1,s.2.2.2.2.2.2.2.2.2.1,s.2.2.2.2.2.2.2.2.2.2.1,s.2.2.2.2.2.2.2.2.2.2.2.1,s.2.2.2.2.2.2.2.2.2.2.2.2.1,s.2.2.2.2.2.2.2.2.2.2.2.2.2.1,s.2.2.2.2.2.2.2.2.2.2.2.2.2.2.1⟩ (hs.2.2.2.2.2.2.2.2.1 rfl) (hs.2.2.2.2.2.2.2.2.2.2.2.2.1 rfl) (hs.2.2.2.2.2.2.2.2.2.2.2.2.2.2.1 rfl))
theorem uD(i:Nat)(hi:i<3):gj 69 (Qh i):=gE gu Tryz.func69 (azz i hi)
end
end Go.Proofs.YtfmgjpcmcjjoiaaGreatDoor
