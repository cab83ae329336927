/- Part of a proof: walks of the program. -/
import Derived.Test.YtfmgjpcmcjjoiaaGreatDoorXj
open Go.IntKind (i64 u64 u8)
open Int (toNat)
set_option maxRecDepth 100000
set_option maxHeartbeats 4000000
set_option linter.all false
noncomputable section
namespace Go.Proofs.YtfmgjpcmcjjoiaaGreatDoor
open Go Go.RowKit Go.Vc
section
variable(i:Nat)(x0:Int)(ms:aF)(nd:Nd)
def UM:Sl aF:=(bif(decide ((nd.ou.n:Int)<300))then(Sl.app nd.ou (Sl.lit ([(⟨nd.me,x0,ms.c2,ms.c3,ms.c4,ms.c5,ms.c6,ms.c7,ms.c8,ms.c9,ms.cF,ms.cS,ms.cD,ms.di,ms.bO⟩:aF)]:List aF)))else nd.ou)
def ft:Nd:={nd with ou:=(UM x0 ms nd)}
def Qq:Hr:=⟨[.po 0 (33*i),.v kI,.g [kI,kI,kI,kI,kI,kI,kB,kI,.sl cZ,kI,kI,kI,.sl aZ,kI,.sl bG]],bP,eC,dS,fun(x0:Int) (y1:Int) (y2:Int) (y3:Int) (y4:Int) (y5:Int) (y6:Int) y7 (y8:Int) y9 (eS:Int) (eV:Int) (eW:Int) eX (eY:Int) Jk=>cg fun C=>⟨⟨none,[],bN aJ 0 (C.set i (ft x0 (⟨y1,y2,y3,y4,y5,y6,y7,y8,y9,eS,eV,eW,eX,eY,Jk⟩:aF) (C.nd i)))⟩⟩⟩
def anc:RS:=⟨.dY true [] [] (gx i aJ 0 [] 0) (gw i aJ),[],[]++fL i aJ,⟨[],[]⟩⟩
def aiP(i:Nat)(C:Cr):Prop:=((decide ((((C.nd i).ou.n:Nat):Int)<300))=true→((C.nd i).ou.n+1≤549755813888))
theorem ay1(i:Nat)(hi:i<3)(C:Cr)(hb:dA C):aiP i C:=by
 have hN:=fR hb i hi;unfold fq at hN;exact((fun h1=>(by have:=ay h1;omega)))
theorem awY(i:Nat)(hi:i<3)(x0:Int)(ms:aF):fb Tryz.prog 90 (Qq i) bP [] (cg fun C=>⟨⟨none,[],bN aJ 0 (C.set i (ft x0 ms (C.nd i)))⟩⟩) [ae x0,ae ms.c0,ae ms.c1,ae ms.c2,ae ms.c3,ae ms.c4,ae ms.c5,.bool ms.c6,ae ms.c7,aL 10 dH ms.c8,ae ms.c9,ae ms.cF,ae ms.cS,aL 8 gn ms.cD,ae ms.di,aL 7 gP ms.bO]:=by
 refine gv fun C hb=>dD (anc i) (.z) (aiP i C) (bB 10 aQ bA) Tryz.func90 (List.replicate 94 .l++[.f]++List.replicate 7 .l) ?_ ?_ (ay1 i hi C hb)
 ·rcases bJ hi with rfl|rfl|rfl<;>kernel_rfl
 ·rcases bJ hi with rfl|rfl|rfl<;>kernel_rfl
theorem azH(i:Nat)(hi:i<3):gi 90 (Qq i):=
 j4 (ks:=[kI,kI,kI,kI,kI,kI,kI,kB,kI,.sl cZ,kI,kI,kI,.sl aZ,kI,.sl bG]) fun s hs=>Eq.mp (by rcases bJ hi with rfl|rfl|rfl<;>kernel_rfl) (awY i hi s.1 ⟨s.2.1,s.2.2.1,s.2.2.2.1,s.2.2.2.2.1,s.2.2.2.2.2.1,s.2.2.2.2.2.2.1,s.2.2.2.2.2.2.2.1,s.2.2.2.2.2.2.2.2.1,s.2.2.2.2.2.2.2.2.2.1,s.2.2.2.2.2.2.2.2.2.2.1,s.2.2.2.2.2.2.2.2.2.2.2.1,s.2.2.2.2.2.2.2.2.2.2.2.2.1,s.2.2.2.2.2.2.2.2.2.2.2.2.2.1,s.2.2.2.2.2.2.2.2.2.2.2.2.2.2.1,s.2.2.2.2.2.2.2.2.2.2.2.2.2.2.2.1⟩)
theorem zV(i:Nat)(hi:i<3):gj 90 (Qq i):=gE gu Tryz.func90 (azH i hi)
end
section
variable(i:Nat)(C:Cr)(nd:Nd)
def LK:Nd:={nd with ro:=0,ws:=(al:Sl iP)}
def P8:Hr:=⟨[.po 0 (33*i)],bP,eC,dS,cg fun C=>⟨⟨none,[],bN (aJ.set (2*i) 10) 1 (C.set i (LK (C.nd i)))⟩⟩⟩
def am8:RS:=⟨.dY true [] [.kill (2*i+1),.own (.h 0 (33*i+29)) cA 10] (gx i (aJ.set (2*i) 10) 1 [] 0) (gw i (aJ.set (2*i) 10)),[],[]++fL i (aJ.set (2*i) 10),⟨[],[]⟩⟩
theorem awG(i:Nat)(hi:i<3):fb Tryz.prog 59 (P8 i) bP [] (cg fun C=>⟨⟨none,[],bN (aJ.set (2*i) 10) 1 (C.set i (LK (C.nd i)))⟩⟩) []:=by
 refine gv fun C hb=>dD (am8 i) (.z) True (bB 10 aQ bA) Tryz.func59 [] ?_ ?_ trivial
 ·rcases bJ hi with rfl|rfl|rfl<;>kernel_rfl
 ·rcases bJ hi with rfl|rfl|rfl<;>kernel_rfl
theorem azp(i:Nat)(hi:i<3):gi 59 (P8 i):=
 awG i hi
theorem r9(i:Nat)(hi:i<3):gj 59 (P8 i):=gE gu Tryz.func59 (azp i hi)
def vH(x0:Int)(nd:Nd):Nd:={nd with ou:=(ft x0 (⟨0,0,8,nd.te,0,0,false,0,(al:Sl aM),0,0,0,(al:Sl ar),0,(al:Sl aG)⟩:aF) nd).ou}
def Qb:Hr:=⟨[.po 0 (33*i),.v kI],bP,eC,dS,fun(x0:Int)=>cg fun C=>⟨⟨none,[],bN aJ 0 (C.set i (vH x0 (C.nd i)))⟩⟩⟩
def am9:RS:=⟨.dY true [] [] (gx i aJ 0 [] 0) (gw i aJ),[],[]++fL i aJ,⟨[],[]⟩⟩
theorem awK(i:Nat)(hi:i<3)(x0:Int):fb Tryz.prog 63 (Qb i) bP [] (cg fun C=>⟨⟨none,[],bN aJ 0 (C.set i (vH x0 (C.nd i)))⟩⟩) [ae x0]:=by
 refine gv fun C hb=>dD (am9 i) (.z) True (bB 10 aQ (az (zV i hi) bA)) Tryz.func63 [] ?_ ?_ trivial
 ·rcases bJ hi with rfl|rfl|rfl<;>kernel_rfl
 ·rcases bJ hi with rfl|rfl|rfl<;>kernel_rfl
theorem azt(i:Nat)(hi:i<3):gi 63 (Qb i):=
 j4 (ks:=[kI]) fun s hs=>Eq.mp (by rcases bJ hi with rfl|rfl|rfl<;>kernel_rfl) (awK i hi s.1)
theorem qg(i:Nat)(hi:i<3):gj 63 (Qb i):=gE gu Tryz.func63 (azt i hi)
def Uw:Int:=(bif nd.v0 then 1 else 0)
def Ux:Int:=(bif nd.v1 then(i64.wrap ((Uw nd)+1))else(Uw nd))
def afm:Int:=(bif nd.v2 then(i64.wrap ((Ux nd)+1))else(Ux nd))
def l7:Bool:=(decide ((afm nd)≥2))
def P_:Hr:=⟨[.po 0 (33*i)],bP,eC,dS,cg fun C=>⟨⟨none,[.bool (l7 (C.nd i))],bN aJ 0 C⟩⟩⟩
def aam:RS:=⟨.dY true [] [] (gx i aJ 0 [0] 1) (gw i aJ),[.tmp 2],[(.t 0,kB)]++fL i aJ,⟨[],[]⟩⟩
def asv:Hn (aam i).kd:=let z6:=C.nd i;(.ai (.ai (.s (.ai (.un 3 (.s (.ai (.s (.c true .z) (.j ⟨15916,[],[(.t 3,kI)],[],.f⟩ .z (.ck ⟨([U,U,.lit false,ae (Uw z6),U,.bool z6.v0,U,U,U,.agg [.bool z6.v0,.bool z6.v1,.bool z6.v2],ae 0,.bool true,.bool z6.v0,.bool z6.v0]++(us 5 ([]))),bS aJ 0 C []⟩ .z)))) (.s (.ai (.s (.c true .z) (.j ⟨81452,[],[(.t 3,kI)],[],.f⟩ .z (.ck ⟨[U,U,.lit false,ae (Ux z6),U,.bool z6.v1,U,U,U,.agg [.bool z6.v0,.bool z6.v1,.bool z6.v2],ae 1,.bool true,.bool z6.v1,.bool z6.v1,U,U,ae 1,U,U],bS aJ 0 C []⟩ .z)))) (.s (.ai (.s (.c true .z) (.j ⟨81452,[],[(.t 3,kI)],[],.f⟩ .z (.ck ⟨[U,U,.lit false,ae (afm z6),U,.bool z6.v2,U,U,U,.agg [.bool z6.v0,.bool z6.v1,.bool z6.v2],ae 2,.bool true,.bool z6.v2,.bool z6.v2,U,U,ae 2,U,U],bS aJ 0 C []⟩ .z)))) (.ai (.s (.c false .z) .z))))))) .z)))
theorem awI(i:Nat)(hi:i<3):fb Tryz.prog 61 (P_ i) bP [] (cg fun C=>⟨⟨none,[.bool (l7 (C.nd i))],bN aJ 0 C⟩⟩) []:=by
 refine gv fun C hb=>dD (aam i) (asv i C) True (bB 10 aQ bA) Tryz.func61 [] ?_ ?_ trivial
 ·rcases bJ hi with rfl|rfl|rfl<;>kernel_rfl
 ·rcases bJ hi with rfl|rfl|rfl<;>kernel_rfl
theorem azr(i:Nat)(hi:i<3):gi 61 (P_ i):=
 awI i hi
theorem uw(i:Nat)(hi:i<3):gj 61 (P_ i):=gE gu Tryz.func61 (azr i hi)
def afl:Int:=(bif(decide ((nd.li.n:Int)>0))then(imax (imax nd.ck nd.mn) (nd.li.at' (toNat (i64.wrap ((nd.li.n:Int)-1)))).c1)else(imax nd.ck nd.mn))
def jR:Int:=(afl nd)
def P4:Hr:=⟨[.po 0 (33*i)],bP,eC,dS,cg fun C=>⟨⟨none,[ae (jR (C.nd i))],bN aJ 0 C⟩⟩⟩
def aaj:RS:=⟨.dY true [] [] (gx i aJ 0 [0] 1) (gw i aJ),[.tmp 2],[(.t 0,kI)]++fL i aJ,⟨[],[]⟩⟩
def ass:Hn (aaj i).kd:=(.ai (.ai (.j ⟨12,[],[(.t 3,kI)],[],.f⟩ .z (.ck ⟨([U,U,ae 0,ae (afl (C.nd i))]++(us 33 ([]))),bS aJ 0 C []⟩ .z))))
def aiO(i:Nat)(C:Cr):Prop:=let z6:=i64.wrap (((C.nd i).li.n:Int)-1);((decide (((C.nd i).li.n:Int)>0))=true→((0:Int)≤z6∧z6<(((C.nd i).li.n:Nat):Int)))
theorem ayP(i:Nat)(hi:i<3)(C:Cr)(hb:dA C):aiO i C:=by
 have hN:=fR hb i hi;unfold fq at hN;exact((fun h1=>(by have:=ay h1;have:=aq (((C.nd i).li.n:Int)-1);omega)))
theorem awD(i:Nat)(hi:i<3):fb Tryz.prog 56 (P4 i) bP [] (cg fun C=>⟨⟨none,[ae (jR (C.nd i))],bN aJ 0 C⟩⟩) []:=by
 refine gv fun C hb=>dD (aaj i) (ass i C) (aiO i C) (bB 10 aQ bA) Tryz.func56 [] ?_ ?_ (ayP i hi C hb)
 ·rcases bJ hi with rfl|rfl|rfl<;>kernel_rfl
 ·rcases bJ hi with rfl|rfl|rfl<;>kernel_rfl
theorem azm(i:Nat)(hi:i<3):gi 56 (P4 i):=
 awD i hi
theorem ahC(i:Nat)(hi:i<3):gj 56 (P4 i):=gE gu Tryz.func56 (azm i hi)
def ari:Int:=(bif(nd.ro==2)then 0 else nd.ro)
def arj:Sl iP:=(bif(nd.ro==2)then(LK nd).ws else nd.ws)
def m9:Nd:={nd with ro:=(ari nd),ws:=(arj nd)}
def Qe:Hr:=⟨[.po 0 (33*i)],bP,eC,dS,cg fun C=>⟨⟨none,[],bN (aJ.set (2*i) 10) 1 (C.set i (m9 (C.nd i)))⟩⟩⟩
def am_:RS:=⟨.dY true [] [.own (.h 0 (33*i+29)) cA 10] (gx i (aJ.set (2*i) 10) 1 [] 0) (gw i (aJ.set (2*i) 10)),[],[]++fL i (aJ.set (2*i) 10),⟨[],[]⟩⟩
theorem awN(i:Nat)(hi:i<3):fb Tryz.prog 66 (Qe i) bP [] (cg fun C=>⟨⟨none,[],bN (aJ.set (2*i) 10) 1 (C.set i (m9 (C.nd i)))⟩⟩) []:=by
 refine gv fun C hb=>dD (am_ i) (.z) True (bB 10 aQ (az (r9 i hi) bA)) Tryz.func66 ([.l,.l,.l]++[.f]++List.replicate 89 .l++[.f]++List.replicate 8 .l) ?_ ?_ trivial
 ·rcases bJ hi with rfl|rfl|rfl<;>kernel_rfl
 ·rcases bJ hi with rfl|rfl|rfl<;>kernel_rfl
theorem azw(i:Nat)(hi:i<3):gi 66 (Qe i):=
 awN i hi
theorem uA(i:Nat)(hi:i<3):gj 66 (Qe i):=gE gu Tryz.func66 (azw i hi)
end
section
variable(i:Nat)(ms:aF)(nd:Nd)
def UG:Sl aF:=(bif(0 !=nd.me)then(ft 0 ms nd).ou else nd.ou)
def GV:Nd:={(ft 0 ms nd)with ou:=(UG ms nd)}
def UH:Sl aF:=(bif(1 !=nd.me)then(ft 1 ms (GV ms nd)).ou else(UG ms nd))
def GX:Nd:={(ft 1 ms (GV ms nd))with ou:=(UH ms nd)}
def afq:Sl aF:=(bif(2 !=nd.me)then(ft 2 ms (GX ms nd)).ou else(UH ms nd))
def arB:Nd:={(ft 2 ms (GX ms nd))with ou:=(afq ms nd)}
def Cd:Nd:={nd with ou:=(afq ms nd)}
def Qj:Hr:=⟨[.po 0 (33*i),.g [kI,kI,kI,kI,kI,kI,kB,kI,.sl cZ,kI,kI,kI,.sl aZ,kI,.sl bG]],bP,eC,dS,fun(y0:Int) (y1:Int) (y2:Int) (y3:Int) (y4:Int) (y5:Int) y6 (y7:Int) y8 (y9:Int) (eS:Int) (eV:Int) eW (eX:Int) eY=>cg fun C=>⟨⟨none,[],bN aJ 0 (C.set i (Cd (⟨y0,y1,y2,y3,y4,y5,y6,y7,y8,y9,eS,eV,eW,eX,eY⟩:aF) (C.nd i)))⟩⟩⟩
def aat:RS:=⟨.dY true [] [] (gx i aJ 0 [] 0) (gw i aJ),[],[]++fL i aJ,⟨[],[]⟩⟩
def asC(C:Cr):Hn (aat i).kd:=let z6:=C.nd i;(.ai (.ai (.un 3 (.s (.ai (.s (.c true .z) (.j ⟨16377,[],[(.h (2*i+2) 0,.ah bK)],[],.f⟩ .z (.ck ⟨([.ptr 0 (33*i+0),U,U,.ptr 10 0,ae 0,ae 0,.bool true,ae 0,ae 0,.ptr 0 (33*i+0),.ptr 0 (33*i+0),.ptr 0 (33*i+0),ae z6.me,.bool (0 !=z6.me)]++(us 5 ([]))),bS aJ 1 (C.set i (GV ms z6)) [(10,(jh ms))]⟩ .z)))) (.s (.ai (.s (.c true .z) (.j ⟨278521,[],[(.h (2*i+2) 0,.ah bK)],[],.f⟩ .z (.ck ⟨[.ptr 0 (33*i+0),U,U,.ptr 10 0,ae 1,ae 1,.bool true,ae 1,ae 1,.ptr 0 (33*i+0),.ptr 0 (33*i+0),.ptr 0 (33*i+0),ae z6.me,.bool (1 !=z6.me),U,U,U,U,ae 1],bS aJ 1 (C.set i (GX ms z6)) [(10,(jh ms))]⟩ .z)))) (.s (.ai (.s (.c true .z) (.j ⟨278521,[],[(.h (2*i+2) 0,.ah bK)],[],.f⟩ .z (.ck ⟨[.ptr 0 (33*i+0),U,U,.ptr 10 0,ae 2,ae 2,.bool true,ae 2,ae 2,.ptr 0 (33*i+0),.ptr 0 (33*i+0),.ptr 0 (33*i+0),ae z6.me,.bool (2 !=z6.me),U,U,U,U,ae 2],bS aJ 1 (C.set i (arB ms z6)) [(10,(jh ms))]⟩ .z)))) (.ai (.s (.c false .z) .z))))))))
theorem awR(i:Nat)(hi:i<3)(ms:aF):fb Tryz.prog 71 (Qj i) bP [] (cg fun C=>⟨⟨none,[],bN aJ 0 (C.set i (Cd ms (C.nd i)))⟩⟩) (jh ms):=by
 refine gv fun C hb=>dD (aat i) (asC i ms C) True (bB 10 aQ (az (zV i hi) bA)) Tryz.func71 [] ?_ ?_ trivial
 ·rcases bJ hi with rfl|rfl|rfl<;>kernel_rfl
 ·rcases bJ hi with rfl|rfl|rfl<;>kernel_rfl
theorem azA(i:Nat)(hi:i<3):gi 71 (Qj i):=
 j4 (ks:=[kI,kI,kI,kI,kI,kI,kB,kI,.sl cZ,kI,kI,kI,.sl aZ,kI,.sl bG]) fun s hs=>Eq.mp (by rcases bJ hi with rfl|rfl|rfl<;>kernel_rfl) (awR i hi ⟨s.1,s.2.1,s.2.2.1,s.2.2.2.1,s.2.2.2.2.1,s.2.2.2.2.2.1,s.2.2.2.2.2.2.1,s.2.2.2.2.2.2.2.1,s.2.2.2.2.2.2.2.2.1,s.2.2.2.2.2.2.2.2.2.1,s.2.2.2.2.2.2.2.2.2.2.1,s.2.2.2.2.2.2.2.2.2.2.2.1,s.2.2.2.2.2.2.2.2.2.2.2.2.1,s.2.2.2.2.2.2.2.2.2.2.2.2.2.1,s.2.2.2.2.2.2.2.2.2.2.2.2.2.2.1⟩)
theorem ahD(i:Nat)(hi:i<3):gj 71 (Qj i):=gE gu Tryz.func71 (azA i hi)
end
section
variable(i:Nat)(nd:Nd)
def LQ:Sl aF:=(bif(0==nd.me)then nd.ou else(bif(decide ((i64.wrap (nd.p0-1))<nd.lb))then(ft 0 (⟨0,0,7,nd.te,0,0,false,0,(al:Sl aM),nd.si,nd.sg,nd.sn,nd.se,nd.sx,nd.sc⟩:aF) nd).ou else(ft 0 (⟨0,0,5,nd.te,(i64.wrap (nd.p0-1)),(lE nd.lb nd.lt nd.li (i64.wrap (nd.p0-1))),false,nd.co,(rz nd.lb nd.lt nd.li (i64.wrap (nd.p0-1)) 8),0,0,0,(al:Sl ar),0,(al:Sl aG)⟩:aF) nd).ou))
def Cf:Nd:=let z6:=i64.wrap (nd.p0-1);{(ft 0 (⟨0,0,5,nd.te,z6,(lE nd.lb nd.lt nd.li z6),false,nd.co,(rz nd.lb nd.lt nd.li z6 8),0,0,0,(al:Sl ar),0,(al:Sl aG)⟩:aF) nd)with ou:=(LQ nd)}
def LR:Sl aF:=(bif(1==nd.me)then(LQ nd)else(bif(decide ((i64.wrap (nd.p1-1))<nd.lb))then(ft 1 (⟨0,0,7,nd.te,0,0,false,0,(al:Sl aM),nd.si,nd.sg,nd.sn,nd.se,nd.sx,nd.sc⟩:aF) (Cf nd)).ou else(ft 1 (⟨0,0,5,nd.te,(i64.wrap (nd.p1-1)),(lE nd.lb nd.lt nd.li (i64.wrap (nd.p1-1))),false,nd.co,(rz nd.lb nd.lt nd.li (i64.wrap (nd.p1-1)) 8),0,0,0,(al:Sl ar),0,(al:Sl aG)⟩:aF) (Cf nd)).ou))
def Cg:Nd:=let z6:=i64.wrap (nd.p1-1);{(ft 1 (⟨0,0,5,nd.te,z6,(lE nd.lb nd.lt nd.li z6),false,nd.co,(rz nd.lb nd.lt nd.li z6 8),0,0,0,(al:Sl ar),0,(al:Sl aG)⟩:aF) (Cf nd))with ou:=(LR nd)}
def LS:Sl aF:=(bif(2==nd.me)then(LR nd)else(bif(decide ((i64.wrap (nd.p2-1))<nd.lb))then(ft 2 (⟨0,0,7,nd.te,0,0,false,0,(al:Sl aM),nd.si,nd.sg,nd.sn,nd.se,nd.sx,nd.sc⟩:aF) (Cg nd)).ou else(ft 2 (⟨0,0,5,nd.te,(i64.wrap (nd.p2-1)),(lE nd.lb nd.lt nd.li (i64.wrap (nd.p2-1))),false,nd.co,(rz nd.lb nd.lt nd.li (i64.wrap (nd.p2-1)) 8),0,0,0,(al:Sl ar),0,(al:Sl aG)⟩:aF) (Cg nd)).ou))
def arC:Nd:=let z6:=i64.wrap (nd.p2-1);{(ft 2 (⟨0,0,5,nd.te,z6,(lE nd.lb nd.lt nd.li z6),false,nd.co,(rz nd.lb nd.lt nd.li z6 8),0,0,0,(al:Sl ar),0,(al:Sl aG)⟩:aF) (Cg nd))with ou:=(LS nd)}
def Ce:Nd:={nd with ou:=(LS nd)}
def Qk:Hr:=⟨[.po 0 (33*i)],bP,eC,dS,cg fun C=>let z6:=C.nd i;⟨⟨some (0≤z6.p0∧z6.p0≤4194304∧0≤z6.p1∧z6.p1≤4194304∧0≤z6.p2∧z6.p2≤4194304),[],bN aJ 0 (C.set i (Ce z6))⟩⟩⟩
def aau:RS:=⟨.dY true [] [] (gx i aJ 0 [] 0) (gw i aJ),[],[]++fL i aJ,⟨[],[]⟩⟩
def asD(C:Cr):Hn (aau i).kd:=let z6:=C.nd i;let zb:=i64.wrap (z6.p2-1);let za:=i64.wrap (z6.p1-1);let z8:=i64.wrap (z6.p0-1);(.ai (.un 3 (.s (.ai (.s (.c true .z) (.j ⟨130821,[],[(.h (2*i+2) 0,.ah bK)],[],.f⟩ (.ai (.ai (.ai (.s (.ai (.s (.s (.nw [(0,(33*i+4)),(0,(33*i+9)),(0,(33*i+10)),(0,(33*i+11)),(0,(33*i+12)),(0,(33*i+13)),(0,(33*i+14))]) (.ck ⟨([.ptr 0 (33*i+0),U,ae 0,ae z8,U,U,U,U,ae 0,.bool true,ae 0,ae 0,.ptr 0 (33*i+0),.ptr 0 (33*i+0),.ptr 0 (33*i+0),ae z6.me,.bool (0==z6.me),.ptr 0 (33*i+0),ae 0,.ptr 0 (33*i+0),.ptr 0 (33*i+23),.ptr 0 (33*i+23),ae z6.p0,ae z8,ae z8,.ptr 0 (33*i+0),.ptr 0 (33*i+0),.ptr 0 (33*i+6),.ptr 0 (33*i+6),ae z6.lb,.bool (decide (z8<z6.lb)),.ptr 0 (33*i+0),ae 0,.ptr 0 (33*i+0),.ptr 0 (33*i+0),.ptr 0 (33*i+4),ae z6.te,.ptr 0 (33*i+0),.ptr 0 (33*i+0),.ptr 0 (33*i+9),.agg [ae z6.si,ae z6.sg,ae z6.sn,aL 8 gn z6.se,ae z6.sx,aL 7 gP z6.sc],.agg [ae 0,ae 0,ae 7,ae z6.te,ae 0,ae 0,.bool false,ae 0,.aE,ae z6.si,ae z6.sg,ae z6.sn,aL 8 gn z6.se,ae z6.sx,aL 7 gP z6.sc]]++(us 35 ([]))),bS aJ 0 (C.set i (ft 0 (⟨0,0,7,z6.te,0,0,false,0,(al:Sl aM),z6.si,z6.sg,z6.sn,z6.se,z6.sx,z6.sc⟩:aF) z6)) []⟩ .z)) .z)) (.ai (.ai (.nw [(0,(33*i+4)),(0,(33*i+19))]))))))) (.ck ⟨([.ptr 0 (33*i+0),U,ae 0]++(us 5 (([ae 0,.bool true,ae 0,ae 0,.ptr 0 (33*i+0),.ptr 0 (33*i+0),.ptr 0 (33*i+0),ae z6.me,.bool (0==z6.me)]++(us 60 ([])))))),bS aJ 0 (C.set i (Cf z6)) []⟩ .z)))) (.s (.ai (.s (.c true .z) (.j ⟨75557863725914323549957,[],[(.h (2*i+2) 0,.ah bK)],[],.f⟩ (.ai (.ai (.ai (.s (.ai (.s (.s (.nw [(0,(33*i+4)),(0,(33*i+9)),(0,(33*i+10)),(0,(33*i+11)),(0,(33*i+12)),(0,(33*i+13)),(0,(33*i+14))]) (.ck ⟨([.ptr 0 (33*i+0),U,ae 1,ae za,U,U,U,U,ae 1,.bool true,ae 1,ae 1,.ptr 0 (33*i+0),.ptr 0 (33*i+0),.ptr 0 (33*i+0),ae z6.me,.bool (1==z6.me),.ptr 0 (33*i+0),ae 1,.ptr 0 (33*i+0),.ptr 0 (33*i+23),.ptr 0 (33*i+24),ae z6.p1,ae za,ae za,.ptr 0 (33*i+0),.ptr 0 (33*i+0),.ptr 0 (33*i+6),.ptr 0 (33*i+6),ae z6.lb,.bool (decide (za<z6.lb)),.ptr 0 (33*i+0),ae 1,.ptr 0 (33*i+0),.ptr 0 (33*i+0),.ptr 0 (33*i+4),ae z6.te,.ptr 0 (33*i+0),.ptr 0 (33*i+0),.ptr 0 (33*i+9),.agg [ae z6.si,ae z6.sg,ae z6.sn,aL 8 gn z6.se,ae z6.sx,aL 7 gP z6.sc],.agg [ae 0,ae 0,ae 7,ae z6.te,ae 0,ae 0,.bool false,ae 0,.aE,ae z6.si,ae z6.sg,ae z6.sn,aL 8 gn z6.se,ae z6.sx,aL 7 gP z6.sc]]++(us 34 ([ae 1]))),bS aJ 0 (C.set i (ft 1 (⟨0,0,7,z6.te,0,0,false,0,(al:Sl aM),z6.si,z6.sg,z6.sn,z6.se,z6.sx,z6.sc⟩:aF) (Cf z6))) []⟩ .z)) .z)) (.ai (.ai (.nw [(0,(33*i+4)),(0,(33*i+19))]))))))) (.ck ⟨([.ptr 0 (33*i+0),U,ae 1]++(us 5 (([ae 1,.bool true,ae 1,ae 1,.ptr 0 (33*i+0),.ptr 0 (33*i+0),.ptr 0 (33*i+0),ae z6.me,.bool (1==z6.me)]++(us 59 ([ae 1])))))),bS aJ 0 (C.set i (Cg z6)) []⟩ .z)))) (.s (.ai (.s (.c true .z) (.j ⟨75557863725914323549957,[],[(.h (2*i+2) 0,.ah bK)],[],.f⟩ (.ai (.ai (.ai (.s (.ai (.s (.s (.nw [(0,(33*i+4)),(0,(33*i+9)),(0,(33*i+10)),(0,(33*i+11)),(0,(33*i+12)),(0,(33*i+13)),(0,(33*i+14))]) (.ck ⟨([.ptr 0 (33*i+0),U,ae 2,ae zb,U,U,U,U,ae 2,.bool true,ae 2,ae 2,.ptr 0 (33*i+0),.ptr 0 (33*i+0),.ptr 0 (33*i+0),ae z6.me,.bool (2==z6.me),.ptr 0 (33*i+0),ae 2,.ptr 0 (33*i+0),.ptr 0 (33*i+23),.ptr 0 (33*i+25),ae z6.p2,ae zb,ae zb,.ptr 0 (33*i+0),.ptr 0 (33*i+0),.ptr 0 (33*i+6),.ptr 0 (33*i+6),ae z6.lb,.bool (decide (zb<z6.lb)),.ptr 0 (33*i+0),ae 2,.ptr 0 (33*i+0),.ptr 0 (33*i+0),.ptr 0 (33*i+4),ae z6.te,.ptr 0 (33*i+0),.ptr 0 (33*i+0),.ptr 0 (33*i+9),.agg [ae z6.si,ae z6.sg,ae z6.sn,aL 8 gn z6.se,ae z6.sx,aL 7 gP z6.sc],.agg [ae 0,ae 0,ae 7,ae z6.te,ae 0,ae 0,.bool false,ae 0,.aE,ae z6.si,ae z6.sg,ae z6.sn,aL 8 gn z6.se,ae z6.sx,aL 7 gP z6.sc]]++(us 34 ([ae 2]))),bS aJ 0 (C.set i (ft 2 (⟨0,0,7,z6.te,0,0,false,0,(al:Sl aM),z6.si,z6.sg,z6.sn,z6.se,z6.sx,z6.sc⟩:aF) (Cg z6))) []⟩ .z)) .z)) (.ai (.ai (.nw [(0,(33*i+4)),(0,(33*i+19))]))))))) (.ck ⟨([.ptr 0 (33*i+0),U,ae 2]++(us 5 (([ae 2,.bool true,ae 2,ae 2,.ptr 0 (33*i+0),.ptr 0 (33*i+0),.ptr 0 (33*i+0),ae z6.me,.bool (2==z6.me)]++(us 59 ([ae 2])))))),bS aJ 0 (C.set i (arC z6)) []⟩ .z)))) (.ai (.s (.c false .z) .z)))))))
def Yv(i:Nat)(C:Cr):Prop:=(((0==(C.nd i).me)=false→((decide ((i64.wrap ((C.nd i).p0-1))<(C.nd i).lb))=false→((i64.wrap ((C.nd i).p0-1))≤9223372036854775807∧ -9223372036854775808≤(i64.wrap ((C.nd i).p0-1))∧(8:Int)≤9223372036854775807∧ -9223372036854775808≤(8:Int))))∧(((1==(C.nd i).me)=false→((decide ((i64.wrap ((C.nd i).p1-1))<(C.nd i).lb))=false→((i64.wrap ((C.nd i).p1-1))≤9223372036854775807∧ -9223372036854775808≤(i64.wrap ((C.nd i).p1-1))∧(8:Int)≤9223372036854775807∧ -9223372036854775808≤(8:Int))))∧((2==(C.nd i).me)=false→((decide ((i64.wrap ((C.nd i).p2-1))<(C.nd i).lb))=false→((i64.wrap ((C.nd i).p2-1))≤9223372036854775807∧ -9223372036854775808≤(i64.wrap ((C.nd i).p2-1))∧(8:Int)≤9223372036854775807∧ -9223372036854775808≤(8:Int))))))
theorem ayW(i:Nat)(hi:i<3)(C:Cr)(hb:dA C)(hp:0≤(C.nd i).p0∧(C.nd i).p0≤4194304∧0≤(C.nd i).p1∧(C.nd i).p1≤4194304∧0≤(C.nd i).p2∧(C.nd i).p2≤4194304):Yv i C:=by
 have hN:=fR hb i hi;unfold fq at hN;unfold Yv;exact have⟨cn,dv,ia,mH,wm,Dr⟩:=hp;(⟨(fun h1=>(fun h2=>(by have:=aq ((C.nd i).p0-1);omega))),⟨(fun h3=>(fun h4=>(by have:=aq ((C.nd i).p1-1);omega))),(fun h5=>(fun h6=>(by have:=aq ((C.nd i).p2-1);omega)))⟩⟩)
theorem awS(i:Nat)(hi:i<3):fb Tryz.prog 72 (Qk i) bP [] (cg fun C=>⟨⟨some (0≤(C.nd i).p0∧(C.nd i).p0≤4194304∧0≤(C.nd i).p1∧(C.nd i).p1≤4194304∧0≤(C.nd i).p2∧(C.nd i).p2≤4194304),[],bN aJ 0 (C.set i (Ce (C.nd i)))⟩⟩) []:=by
 refine gv fun C hb=>fun hp=>dD (aau i) (asD i C) (Yv i C) (bB 10 (aH N9 (aH k69 aQ)) (az (zV i hi) bA)) Tryz.func72 [] ?_ ?_ (ayW i hi C hb hp)
 ·rcases bJ hi with rfl|rfl|rfl<;>kernel_rfl
 ·rcases bJ hi with rfl|rfl|rfl<;>kernel_rfl
theorem azB(i:Nat)(hi:i<3):gi 72 (Qk i):=
 awS i hi
theorem ahE(i:Nat)(hi:i<3):gj 72 (Qk i):=gE gu Tryz.func72 (azB i hi)
end
end Go.Proofs.YtfmgjpcmcjjoiaaGreatDoor
