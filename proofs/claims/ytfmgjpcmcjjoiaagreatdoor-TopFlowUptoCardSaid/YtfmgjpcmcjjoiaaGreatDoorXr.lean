/- Part of a proof: walks of the program. -/
import Derived.Test.YtfmgjpcmcjjoiaaGreatDoorXm
import Derived.Test.YtfmgjpcmcjjoiaaGreatDoorXo
open Go.IntKind (i64 u64 u8)
open Int (toNat)
set_option maxRecDepth 100000
set_option maxHeartbeats 4000000
set_option linter.all false
noncomputable section
namespace Go.Proofs.YtfmgjpcmcjjoiaaGreatDoor
open Go Go.RowKit Go.Vc
section
variable(i:Nat)(x0:Int)(x1:Int)(nd:Nd)
def Cc:Bool:=(bif(!(lB (⟨1,x0,x1,0,0,0,false,0,0,0,⟨#[]⟩,⟨#[]⟩,⟨#[]⟩,0,0,0,0,(al:Sl ar),0,(al:Sl aG)⟩:cj) nd))then false else true)
def aq_:Int:=(bif(!(lB (⟨1,x0,x1,0,0,0,false,0,0,0,⟨#[]⟩,⟨#[]⟩,⟨#[]⟩,0,0,0,0,(al:Sl ar),0,(al:Sl aG)⟩:cj) nd))then nd.te else x0)
def ara:Int:=(bif(!(lB (⟨1,x0,x1,0,0,0,false,0,0,0,⟨#[]⟩,⟨#[]⟩,⟨#[]⟩,0,0,0,0,(al:Sl ar),0,(al:Sl aG)⟩:cj) nd))then nd.vo else x1)
def iV:Nd:=let z6:=kg (⟨1,x0,x1,0,0,0,false,0,0,0,⟨#[]⟩,⟨#[]⟩,⟨#[]⟩,0,0,0,0,(al:Sl ar),0,(al:Sl aG)⟩:cj) nd;{nd with te:=(aq_ x0 x1 nd),vo:=(ara x0 x1 nd),td:=z6.td,ts:=z6.ts}
def P7:Hr:=⟨[.po 0 (33*i),.v kI,.v kI],bP,eC,dS,fun(x0:Int) (x1:Int)=>cg fun C=>⟨⟨none,[.bool (Cc x0 x1 (C.nd i))],bN aJ 0 (C.set i (iV x0 x1 (C.nd i)))⟩⟩⟩
def aak:RS:=⟨.dY true [] [] (gx i aJ 0 [0] 1) (gw i aJ),[.tmp 6],[(.t 0,kB)]++fL i aJ,⟨[],[]⟩⟩
def ast(C:Cr):Hn (aak i).kd:=(.ai (.s (.ai (.ck ⟨([.ptr 0 (33*i+0),ae x0,ae x1,U,U,U,.lit false]++(us 5 (([.bool (!(lB (⟨1,x0,x1,0,0,0,false,0,0,0,⟨#[]⟩,⟨#[]⟩,⟨#[]⟩,0,0,0,0,(al:Sl ar),0,(al:Sl aG)⟩:cj) (C.nd i)))]++(us 8 ([])))))),bS aJ 0 (C.set i (kg (⟨1,x0,x1,0,0,0,false,0,0,0,⟨#[]⟩,⟨#[]⟩,⟨#[]⟩,0,0,0,0,(al:Sl ar),0,(al:Sl aG)⟩:cj) (C.nd i))) []⟩ .z)) .z))
def Yo(i:Nat)(x0:Int)(x1:Int)(C:Cr):Prop:=(px (⟨1,x0,x1,0,0,0,false,0,0,0,⟨#[]⟩,⟨#[]⟩,⟨#[]⟩,0,0,0,0,(al:Sl ar),0,(al:Sl aG)⟩:cj))
theorem ayQ(i:Nat)(hi:i<3)(x0:Int)(x1:Int)(C:Cr)(hb:dA C):Yo i x0 x1 C:=by
 have hN:=fR hb i hi;unfold fq at hN;unfold Yo;exact((by apply uO))
theorem awF(i:Nat)(hi:i<3)(x0:Int)(x1:Int):fb Tryz.prog 58 (P7 i) bP [] (cg fun C=>⟨⟨none,[.bool (Cc x0 x1 (C.nd i))],bN aJ 0 (C.set i (iV x0 x1 (C.nd i)))⟩⟩) [ae x0,ae x1]:=by
 refine gv fun C hb=>dD (aak i) (ast i x0 x1 C) (Yo i x0 x1 C) (bB 10 aQ (az (Iz i hi) bA)) Tryz.func58 ([.f]++List.replicate 4 .l++[.f,.f]++List.replicate 96 .l) ?_ ?_ (ayQ i hi x0 x1 C hb)
 ·rcases bJ hi with rfl|rfl|rfl<;>kernel_rfl
 ·rcases bJ hi with rfl|rfl|rfl<;>kernel_rfl
theorem azo(i:Nat)(hi:i<3):gi 58 (P7 i):=
 j4 (ks:=[kI,kI]) fun s hs=>Eq.mp (by rcases bJ hi with rfl|rfl|rfl<;>kernel_rfl) (awF i hi s.1 s.2.1)
theorem qf(i:Nat)(hi:i<3):gj 58 (P7 i):=gE gu Tryz.func58 (azo i hi)
def Gu(cl:lR)(x7:Int)(nd:Nd)(kt:Sl bI):Sl bI:=(Sl.app kt (Sl.lit ([(⟨nd.me,cl.c0,cl.c1,cl.c2,cl.c3,cl.c4,cl.c5,cl.c6,x7,⟨#[]⟩,0,(al:Sl ag)⟩:bI)]:List bI)))
def P2:Hr:=⟨[.p 0,.po 0 (33*i),.g [kI,kI,kI,kS,kS,kS,kI],.v kI],bP,eC,dS,fun(y0:Int) (y1:Int) (y2:Int) y3 y4 y5 (y6:Int) (x7:Int)=>cg fun C=>⟨⟨some (C.told.n≤549000000000),[],bN aJ 0 (C.put i (C.nd i) C.ax (Gu (⟨y0,y1,y2,y3,y4,y5,y6⟩:lR) x7 (C.nd i) C.told) C.aY)⟩⟩⟩
def am6:RS:=⟨.dY true [] [] (gx i aJ 0 [] 0) (gw i aJ),[],[]++fL i aJ,⟨[],[]⟩⟩
def Ym(i:Nat)(C:Cr):Prop:=(C.told.n+1≤549755813888)
theorem ayN(i:Nat)(hi:i<3)(C:Cr)(hb:dA C)(hp:C.told.n≤549000000000):Ym i C:=by
 have hN:=fR hb i hi;unfold fq at hN;unfold Ym;exact((by omega))
theorem awB(i:Nat)(hi:i<3)(cl:lR)(x7:Int):fb Tryz.prog 54 (P2 i) bP [] (cg fun C=>⟨⟨some (C.told.n≤549000000000),[],bN aJ 0 (C.put i (C.nd i) C.ax (Gu cl x7 (C.nd i) C.told) C.aY)⟩⟩) [ae cl.c0,ae cl.c1,ae cl.c2,.str cl.c3,.str cl.c4,.str cl.c5,ae cl.c6,ae x7]:=by
 refine gv fun C hb=>fun hp=>dD (am6 i) (.z) (Ym i C) (bB 10 aQ bA) Tryz.func54 [] ?_ ?_ (ayN i hi C hb hp)
 ·rcases bJ hi with rfl|rfl|rfl<;>kernel_rfl
 ·rcases bJ hi with rfl|rfl|rfl<;>kernel_rfl
theorem azk(i:Nat)(hi:i<3):gi 54 (P2 i):=
 j4 (ks:=[kI,kI,kI,kS,kS,kS,kI,kI]) fun s hs=>Eq.mp (by rcases bJ hi with rfl|rfl|rfl<;>kernel_rfl) (awB i hi ⟨s.1,s.2.1,s.2.2.1,s.2.2.2.1,s.2.2.2.2.1,s.2.2.2.2.2.1,s.2.2.2.2.2.2.1⟩ s.2.2.2.2.2.2.2.1)
theorem avR(i:Nat)(hi:i<3):gj 54 (P2 i):=gE gu Tryz.func54 (azk i hi)
end
section
variable(i:Nat)(nd:Nd)
def afn:Int:=(bif(nd.te==1048576)then nd.te else(iV (i64.wrap (nd.te+1)) nd.me nd).te)
def arc:Int:=(bif(nd.te==1048576)then nd.vo else(iV (i64.wrap (nd.te+1)) nd.me nd).vo)
def Uy:Sl Int:=(bif(nd.te==1048576)then nd.td else(iV (i64.wrap (nd.te+1)) nd.me nd).td)
def ard:Int:=(bif(nd.te==1048576)then nd.ts else(iV (i64.wrap (nd.te+1)) nd.me nd).ts)
def LM:Bool:=(bif(nd.te==1048576)then true else(!(Cc (i64.wrap (nd.te+1)) nd.me nd)))
def LN:Nd:={nd with te:=(afn nd),vo:=(arc nd),td:=(Uy nd),ts:=(ard nd)}
def Gy:Nd:={(LN nd)with ro:=2,v0:=(nd.me==0),v1:=(nd.me==1),v2:=(nd.me==2)}
def xS:Nd:=(Nd.bif (LM nd) (LN nd) (Cd (⟨0,0,3,(afn nd),(cy (Gy nd)),(vG (Gy nd)),false,0,(al:Sl aM),0,0,0,(al:Sl ar),0,(al:Sl aG)⟩:aF) (Gy nd)))
def Qa:Hr:=⟨[.po 0 (33*i)],bP,eC,dS,cg fun C=>⟨⟨some (0≤(C.nd i).me∧(C.nd i).me<3),[],bN aJ 0 (C.set i (xS (C.nd i)))⟩⟩⟩
def aan:RS:=⟨.dY true [] [] (gx i aJ 0 [] 0) (gw i aJ),[],[]++fL i aJ,⟨[],[]⟩⟩
def asw(C:Cr):Hn (aan i).kd:=let z6:=Gy (C.nd i);(.s (.j ⟨4194305,[],[(.h 0 (33*i+4),kI),(.h 0 (33*i+5),kI),(.h 0 (33*i+30),.sl E5),(.h 0 (33*i+31),kI),(.t 22,kB)],[],.f⟩ (.nw [(0,(33*i+0))]) (.ck ⟨([.ptr 0 (33*i+0)]++(us 21 (([.bool (LM (C.nd i))]++(us 25 ([])))))),bS aJ 0 (C.set i (LN (C.nd i))) []⟩ .z)) (.ai (.ai (.ai (.ck ⟨([.ptr 0 (33*i+0),U,ae (cy z6),ae (vG z6)]++(us 44 ([]))),bS aJ 0 (C.set i z6) []⟩ .z)))))
def Yp(i:Nat)(C:Cr):Prop:=((LM (C.nd i))=false→((0:Int)≤(C.nd i).me∧((C.nd i).me:Int)<3))
theorem ayR(i:Nat)(hi:i<3)(C:Cr)(hb:dA C)(hp:0≤(C.nd i).me∧(C.nd i).me<3):Yp i C:=by
 have hN:=fR hb i hi;unfold fq at hN;unfold Yp;exact have⟨cn,dv⟩:=hp;((fun h1=>(by have:=h1;simp [LM]at this;omega)))
theorem awJ(i:Nat)(hi:i<3):fb Tryz.prog 62 (Qa i) bP [] (cg fun C=>⟨⟨some (0≤(C.nd i).me∧(C.nd i).me<3),[],bN aJ 0 (C.set i (xS (C.nd i)))⟩⟩) []:=by
 refine gv fun C hb=>fun hp=>dD (aan i) (asw i C) (Yp i C) (bB 10 (aH avS aQ) (az (zU i hi) (az (qf i hi) (az (ahD i hi) bA)))) Tryz.func62 (List.replicate 31 .f++List.replicate 62 .l++[.f,.f]++List.replicate 7 .l) ?_ ?_ (ayR i hi C hb hp)
 ·rcases bJ hi with rfl|rfl|rfl<;>kernel_rfl
 ·rcases bJ hi with rfl|rfl|rfl<;>kernel_rfl
theorem azs(i:Nat)(hi:i<3):gi 62 (Qa i):=
 awJ i hi
theorem ux(i:Nat)(hi:i<3):gj 62 (Qa i):=gE gu Tryz.func62 (azs i hi)
end
section
variable(i:Nat)(ms:aF)(nd:Nd)
def afo:Int:=(bif(!(vR nd.lb nd.lt nd.li ms.c4 ms.c5))then nd.te else(bif(decide (nd.vo≥0))then(bif(nd.vo !=ms.c0)then nd.te else(bif(decide (nd.vo<0))then(iV nd.te ms.c0 nd).te else nd.te))else(bif(decide (nd.vo<0))then(iV nd.te ms.c0 nd).te else nd.te)))
def arf:Int:=(bif(!(vR nd.lb nd.lt nd.li ms.c4 ms.c5))then nd.vo else(bif(decide (nd.vo≥0))then(bif(nd.vo !=ms.c0)then nd.vo else(bif(decide (nd.vo<0))then(iV nd.te ms.c0 nd).vo else nd.vo))else(bif(decide (nd.vo<0))then(iV nd.te ms.c0 nd).vo else nd.vo)))
def Uz:Sl Int:=(bif(!(vR nd.lb nd.lt nd.li ms.c4 ms.c5))then nd.td else(bif(decide (nd.vo≥0))then(bif(nd.vo !=ms.c0)then nd.td else(bif(decide (nd.vo<0))then(iV nd.te ms.c0 nd).td else nd.td))else(bif(decide (nd.vo<0))then(iV nd.te ms.c0 nd).td else nd.td)))
def arh:Int:=(bif(!(vR nd.lb nd.lt nd.li ms.c4 ms.c5))then nd.ts else(bif(decide (nd.vo≥0))then(bif(nd.vo !=ms.c0)then nd.ts else(bif(decide (nd.vo<0))then(iV nd.te ms.c0 nd).ts else nd.ts))else(bif(decide (nd.vo<0))then(iV nd.te ms.c0 nd).ts else nd.ts)))
def afp:Bool:=let z6:=Cc nd.te ms.c0 nd;(bif(!(vR nd.lb nd.lt nd.li ms.c4 ms.c5))then true else(bif(decide (nd.vo≥0))then(bif(nd.vo !=ms.c0)then true else(bif(decide (nd.vo<0))then(!z6)else false))else(bif(decide (nd.vo<0))then(!z6)else false)))
def Gz:Nd:={nd with te:=(afo ms nd),vo:=(arf ms nd),td:=(Uz ms nd),ts:=(arh ms nd)}
def xT:Nd:=(Nd.bif (afp ms nd) (vH ms.c0 (Gz ms nd)) (ft ms.c0 (⟨0,0,4,(afo ms nd),0,0,false,0,(al:Sl aM),0,0,0,(al:Sl ar),0,(al:Sl aG)⟩:aF) (Gz ms nd)))
def Qc:Hr:=⟨[.po 0 (33*i),.g [kI,kI,kI,kI,kI,kI,kB,kI,.sl cZ,kI,kI,kI,.sl aZ,kI,.sl bG]],bP,eC,dS,fun(y0:Int) (y1:Int) (y2:Int) (y3:Int) (y4:Int) (y5:Int) y6 (y7:Int) y8 (y9:Int) (eS:Int) (eV:Int) eW (eX:Int) eY=>cg fun C=>⟨⟨none,[],bN aJ 0 (C.set i (xT (⟨y0,y1,y2,y3,y4,y5,y6,y7,y8,y9,eS,eV,eW,eX,eY⟩:aF) (C.nd i)))⟩⟩⟩
def aao:RS:=⟨.dY true [] [] (gx i aJ 0 [] 0) (gw i aJ),[],[]++fL i aJ,⟨[],[]⟩⟩
def asx(C:Cr):Hn (aao i).kd:=(.ai (.ai (.s (.j ⟨9007199254741001,[],[(.h 0 (33*i+4),kI),(.h 0 (33*i+5),kI),(.h 0 (33*i+30),.sl E5),(.h 0 (33*i+31),kI),(.t 53,kB)],[],.f⟩ .z (.ck ⟨([.ptr 0 (33*i+0),U,U,.ptr 10 0]++(us 49 (([.bool (afp ms (C.nd i))]++(us 13 ([])))))),bS aJ 1 (C.set i (Gz ms (C.nd i))) [(10,(jh ms))]⟩ (.s (.ai (.ck ⟨([.ptr 0 (33*i+0),U,U,.ptr 10 0]++(us 63 ([]))),bS aJ 1 (C.set i (vH ms.c0 (Gz ms (C.nd i)))) [(10,(jh ms))]⟩ .z)) .z))) (.nw [(0,(33*i+4))]))))
theorem awL(i:Nat)(hi:i<3)(ms:aF):fb Tryz.prog 64 (Qc i) bP [] (cg fun C=>⟨⟨none,[],bN aJ 0 (C.set i (xT ms (C.nd i)))⟩⟩) (jh ms):=by
 refine gv fun C hb=>dD (aao i) (asx i ms C) True (bB 10 (aH WW aQ) (az (qf i hi) (az (qg i hi) (az (zV i hi) bA)))) Tryz.func64 (List.replicate 31 .f++List.replicate 62 .l++[.f,.f]++List.replicate 7 .l) ?_ ?_ trivial
 ·rcases bJ hi with rfl|rfl|rfl<;>kernel_rfl
 ·rcases bJ hi with rfl|rfl|rfl<;>kernel_rfl
theorem azu(i:Nat)(hi:i<3):gi 64 (Qc i):=
 j4 (ks:=[kI,kI,kI,kI,kI,kI,kB,kI,.sl cZ,kI,kI,kI,.sl aZ,kI,.sl bG]) fun s hs=>Eq.mp (by rcases bJ hi with rfl|rfl|rfl<;>kernel_rfl) (awL i hi ⟨s.1,s.2.1,s.2.2.1,s.2.2.2.1,s.2.2.2.2.1,s.2.2.2.2.2.1,s.2.2.2.2.2.2.1,s.2.2.2.2.2.2.2.1,s.2.2.2.2.2.2.2.2.1,s.2.2.2.2.2.2.2.2.2.1,s.2.2.2.2.2.2.2.2.2.2.1,s.2.2.2.2.2.2.2.2.2.2.2.1,s.2.2.2.2.2.2.2.2.2.2.2.2.1,s.2.2.2.2.2.2.2.2.2.2.2.2.2.1,s.2.2.2.2.2.2.2.2.2.2.2.2.2.2.1⟩)
theorem uy(i:Nat)(hi:i<3):gj 64 (Qc i):=gE gu Tryz.func64 (azu i hi)
end
end Go.Proofs.YtfmgjpcmcjjoiaaGreatDoor
