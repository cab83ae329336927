/- Part of a proof: walks of the program. -/
import Derived.Test.YtfmgjpcmcjjoiaaGreatDoorXn
open Go.IntKind (i64 u64 u8)
open Int (toNat)
set_option maxRecDepth 100000
set_option maxHeartbeats 4000000
set_option linter.all false
noncomputable section
namespace Go.Proofs.YtfmgjpcmcjjoiaaGreatDoor
open Go Go.RowKit Go.Vc
section
variable(i:Nat)(C:Cr)(nd:Nd)(ka:Sl aF)(kt:Sl bI)(kl:Sl aS)(af:Int)
def arH:Bool:=(bif(0 !=nd.me)then true else false)
def afA:Bool:=(bif(0 !=nd.me)then(decide (nd.q0≥af))else false)
def L1:Int:=(bif(afA nd af)then 2 else 1)
def arI:Bool:=(bif(1 !=nd.me)then true else false)
def afB:Bool:=(bif(1 !=nd.me)then(decide (nd.q1≥af))else false)
def L2:Int:=(bif(afB nd af)then(i64.wrap ((L1 nd af)+1))else(L1 nd af))
def UR:Bool:=(bif(2 !=nd.me)then true else false)
def afC:Bool:=(bif(2 !=nd.me)then(decide (nd.q2≥af))else false)
def US:Int:=(bif(afC nd af)then(i64.wrap ((L2 nd af)+1))else(L2 nd af))
def afz:Bool:=(bif(decide ((US nd af)≥2))then true else false)
def yp:Bool:=(bif(decide ((US nd af)≥2))then((lE nd.lb nd.lt nd.li af)==nd.te)else false)
def vM(nd:Nd)(ka:Sl aF)(kt:Sl bI)(kl:Sl aS):Nat→Int→Bool×sI
 |0,_=>default
 |k+1,af=>(bif(decide (af>nd.co))then(bif(yp nd af)then(true,(D9 (x_ af nd kt) ka (yl af nd kt) kl))else(vM nd ka kt kl k (i64.wrap (af-1))))else(false,default))
def rq:Bool×sI:=vM nd ka kt kl ((toNat ((cy nd)-nd.co))+1) (cy nd)
def tM:Nd:=(Nd.bif (rq nd ka kt kl).1 (XN (rq nd ka kt kl).2) nd)
def ym:Sl aF:=(bif(rq nd ka kt kl).1 then(kaQ (rq nd ka kt kl).2)else ka)
def yo:Sl bI:=(bif(rq nd ka kt kl).1 then(ktQ (rq nd ka kt kl).2)else kt)
def yn:Sl aS:=(bif(rq nd ka kt kl).1 then(klQ (rq nd ka kt kl).2)else kl)
def Qs:Hr:=⟨[.p 0,.po 0 (33*i)],bP,eC,dS,cg fun C=>let z6:=C.nd i;⟨⟨some (C.told.n≤541000000000∧z6.ws.n≤3000∧0≤z6.lb∧z6.lb≤z6.co∧z6.co≤4194304∧z6.lb+(z6.li.n:Int)≤4194304∧z6.li.n≤200),[],bN aJ 0 (C.put i (tM z6 C.ax C.told C.aY) (ym z6 C.ax C.told C.aY) (yo z6 C.ax C.told C.aY) (yn z6 C.ax C.told C.aY))⟩⟩⟩
def aaz:RS:=⟨.dY true [] [] (qB i aJ 0 [] 0 C) (qj i aJ),[],[]++pD i aJ,⟨[],[]⟩⟩
def asI:Hn (aaz i C).kd:=let z6:=C.nd i;(.ai (.ck ⟨([.ptr 0 0,.ptr 0 (33*i+0),U,U,ae (cy z6)]++(us 65 ([]))),bS aJ 0 C []⟩ (.ai (.zZ ⟨67,[],[],[(.t 6,kI)],some 0,true,0,[],[],fun k (s:Int)=>vM z6 C.ax C.told C.aY k s,.f,fun(s:Int)=>(s≤z6.lb+(z6.li.n:Int)),fun(s:Int)=>(toNat (s-z6.co)),none⟩ (fun(u1:Int)=>let zg:=yK z6.lb z6.lt z6.li u1;let zf:=afC z6 u1;let ze:=decide (u1>z6.co);let zd:=lE z6.lb z6.lt z6.li u1;let zc:=US z6 u1;let zb:=us 8 (([ae u1,.ptr 0 (33*i+0),.ptr 0 (33*i+0),.ptr 0 (33*i+19),ae z6.co,.bool ze,U,U,ae 0,.bool true,ae 0,ae 0,.ptr 0 (33*i+0),.ptr 0 (33*i+0),.ptr 0 (33*i+0),ae z6.me,.bool (0 !=z6.me),.bool (arH z6)]++(us 8 (([.bool (afA z6 u1)]++(us 26 ([])))))));let za:=us 8 (([ae u1,.ptr 0 (33*i+0),.ptr 0 (33*i+0),.ptr 0 (33*i+19),ae z6.co,.bool ze,U,U,ae 2,.bool true,ae 2,ae 2,.ptr 0 (33*i+0),.ptr 0 (33*i+0),.ptr 0 (33*i+0),ae z6.me,.bool (2 !=z6.me),.bool (UR z6)]++(us 8 (([.bool zf,U,U,ae 2]++(us 23 ([])))))));let z8:=us 8 (([ae u1,.ptr 0 (33*i+0),.ptr 0 (33*i+0),.ptr 0 (33*i+19),ae z6.co,.bool ze,U,U,ae 1,.bool true,ae 1,ae 1,.ptr 0 (33*i+0),.ptr 0 (33*i+0),.ptr 0 (33*i+0),ae z6.me,.bool (1 !=z6.me),.bool (arI z6)]++(us 8 (([.bool (afB z6 u1),U,U,ae 1]++(us 23 ([])))))));(.ai (.s (.ai (.s (.ai (.un 3 (.s (.ai (.s (.c true .z) (.j ⟨8830427464131,[],[(.t 7,kI)],[],.f⟩ (.ai (.j ⟨8830427464131,[],[(.t 34,kB),(.t 43,kB)],[],.f⟩ .z (.ck ⟨([.ptr 0 0,.ptr 0 (33*i+0),U,U,U,U,ae u1,ae 1,ae 0]++zb),bS aJ 0 C []⟩ .z))) (.ck ⟨([.ptr 0 0,.ptr 0 (33*i+0),U,U,U,U,ae u1,ae (L1 z6 u1),ae 0]++zb),bS aJ 0 C []⟩ .z)))) (.s (.ai (.s (.c true .z) (.j ⟨79199171641795,[],[(.t 7,kI)],[],.f⟩ (.ai (.j ⟨79199171641795,[],[(.t 34,kB),(.t 43,kB)],[],.f⟩ .z (.ck ⟨([.ptr 0 0,.ptr 0 (33*i+0),U,U,U,U,ae u1,ae (L1 z6 u1),ae 1]++z8),bS aJ 0 C []⟩ .z))) (.ck ⟨([.ptr 0 0,.ptr 0 (33*i+0),U,U,U,U,ae u1,ae (L2 z6 u1),ae 1]++z8),bS aJ 0 C []⟩ .z)))) (.s (.ai (.s (.c true .z) (.j ⟨79199171641795,[],[(.t 7,kI)],[],.f⟩ (.ai (.j ⟨79199171641795,[],[(.t 34,kB),(.t 43,kB)],[],.f⟩ .z (.ck ⟨([.ptr 0 0,.ptr 0 (33*i+0),U,U,U,U,ae u1,ae (L2 z6 u1),ae 2]++za),bS aJ 0 C []⟩ .z))) (.ck ⟨([.ptr 0 0,.ptr 0 (33*i+0),U,U,U,U,ae u1,ae zc,ae 2]++za),bS aJ 0 C []⟩ .z)))) (.ai (.s (.c false .z) .z))))))) (.ai (.j ⟨37460739424662717379,[],[(.t 58,kB),(.t 65,kB)],[],.f⟩ .z (.ck ⟨([.ptr 0 0,.ptr 0 (33*i+0),U,U,U,U,ae u1,ae zc,ae 2,ae zd]++(us 7 (([ae u1,.ptr 0 (33*i+0),.ptr 0 (33*i+0),.ptr 0 (33*i+19),ae z6.co,.bool ze,U,U,ae 3,.bool false,ae 2,ae 2,.ptr 0 (33*i+0),.ptr 0 (33*i+0),.ptr 0 (33*i+0),ae z6.me,.bool (2 !=z6.me),.bool (UR z6)]++(us 8 (([.bool zf,U,U,ae 3,U,.ptr 0 (33*i+0),.ptr 0 (33*i+0),.ptr 0 (33*i+6),.agg [ae z6.lb,ae z6.lt,aL 10 dH z6.li],ae u1,U,ae zd,ae zg,ae zc,.bool (decide (zc≥2)),.bool (afz z6 u1)]++(us 6 ([.bool (yp z6 u1),U,U,U,U]))))))))),bS aJ 0 C []⟩ (.s (.ai (.ck ⟨([.ptr 0 0,.ptr 0 (33*i+0),U,U,U,U,ae u1,ae zc,ae 2,ae zd]++(us 7 (([ae u1,.ptr 0 (33*i+0),.ptr 0 (33*i+0),.ptr 0 (33*i+19),ae z6.co,.bool ze,U,U,ae 3,.bool false,ae 2,ae 2,.ptr 0 (33*i+0),.ptr 0 (33*i+0),.ptr 0 (33*i+0),ae z6.me,.bool (2 !=z6.me),.bool (UR z6)]++(us 8 (([.bool zf,U,U,ae 3,U,.ptr 0 (33*i+0),.ptr 0 (33*i+0),.ptr 0 (33*i+6),.agg [ae z6.lb,ae z6.lt,aL 10 dH z6.li],ae u1,U,ae zd,ae zg,ae zc,.bool (decide (zc≥2)),.bool (afz z6 u1)]++(us 6 ([.bool (yp z6 u1),.ptr 0 0,.ptr 0 (33*i+0),ae u1,U]))))))))),bS aJ 0 (C.put i (x_ u1 z6 C.told) C.ax (yl u1 z6 C.told) C.aY) []⟩ .z)) .z)))))) .z)))))))
def YB(i:Nat)(C:Cr):Prop:=((((cy (C.nd i))≤(C.nd i).lb+((C.nd i).li.n:Int)))∧(∀(af:Int),(af≤(C.nd i).lb+((C.nd i).li.n:Int))→(((decide (af>(C.nd i).co))=true→((yp (C.nd i) af)=true→(C.told.n≤541000000000∧(C.nd i).ws.n≤3000∧0≤(C.nd i).lb∧(C.nd i).lb≤(C.nd i).co∧(C.nd i).co≤4194304∧af≤(C.nd i).lb+((C.nd i).li.n:Int)∧(C.nd i).li.n≤200)))∧((decide (af>(C.nd i).co))=true→((yp (C.nd i) af)=false→(((i64.wrap (af-1))≤(C.nd i).lb+((C.nd i).li.n:Int))∧(toNat ((i64.wrap (af-1))- (C.nd i).co))<(toNat (af- (C.nd i).co))))))))
theorem ay3(i:Nat)(hi:i<3)(C:Cr)(hb:dA C)(hp:C.told.n≤541000000000∧(C.nd i).ws.n≤3000∧0≤(C.nd i).lb∧(C.nd i).lb≤(C.nd i).co∧(C.nd i).co≤4194304∧(C.nd i).lb+((C.nd i).li.n:Int)≤4194304∧(C.nd i).li.n≤200):YB i C:=by
 have hN:=fR hb i hi;unfold fq at hN;unfold YB;exact have⟨cn,dv,ia,mH,wm,Dr,Wf⟩:=hp;have:=JB (C.nd i) (by omega);(⟨(by omega),(fun af dX=>⟨(fun h2=>(fun h3=>(by omega))),(fun h4=>(fun h5=>(by have:=ay h4;have:=h5;simp [yp]at this;first|omega|(have:=aq (af-1);omega))))⟩)⟩)
theorem aw0(i:Nat)(hi:i<3):fb Tryz.prog 93 (Qs i) bP [] (cg fun C=>⟨⟨some (C.told.n≤541000000000∧(C.nd i).ws.n≤3000∧0≤(C.nd i).lb∧(C.nd i).lb≤(C.nd i).co∧(C.nd i).co≤4194304∧(C.nd i).lb+((C.nd i).li.n:Int)≤4194304∧(C.nd i).li.n≤200),[],bN aJ 0 (C.put i (tM (C.nd i) C.ax C.told C.aY) (ym (C.nd i) C.ax C.told C.aY) (yo (C.nd i) C.ax C.told C.aY) (yn (C.nd i) C.ax C.told C.aY))⟩⟩) []:=by
 refine gv fun C hb=>fun hp=>dD (aaz i C) (asI i C) (YB i C) (bB 10 (aH N9 aQ) (az (zU i hi) (az (ahG i hi) bA))) Tryz.func93 [] ?_ ?_ (ay3 i hi C hb hp)
 ·rcases bJ hi with rfl|rfl|rfl<;>kernel_rfl
 ·rcases bJ hi with rfl|rfl|rfl<;>kernel_rfl
theorem azJ(i:Nat)(hi:i<3):gi 93 (Qs i):=
 aw0 i hi
theorem avY(i:Nat)(hi:i<3):gj 93 (Qs i):=gE gu Tryz.func93 (azJ i hi)
end
end Go.Proofs.YtfmgjpcmcjjoiaaGreatDoor
