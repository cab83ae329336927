/- Part of a proof: walks of the program. -/
import Derived.Test.YtfmgjpcmcjjoiaaGreatDoorXr
import Derived.Test.YtfmgjpcmcjjoiaaGreatDoorXs
open Go.IntKind (i64 u64 u8)
open Int (toNat)
set_option maxRecDepth 100000
set_option maxHeartbeats 4000000
set_option linter.all false
noncomputable section
namespace Go.Proofs.YtfmgjpcmcjjoiaaGreatDoor
open Go Go.RowKit Go.Vc
section
variable(i:Nat)(cl:lR)(nd:Nd)
def afi:Nd:=let z6:=l6 (⟨nd.te,(jR nd),false,cl.c0,cl.c1,cl.c2,cl.c3,cl.c4,cl.c5,cl.c6⟩:aM) nd;{z6 with ws:=(Sl.app nd.ws (Sl.lit ([(⟨(cy z6),nd.te,cl.c0,cl.c1,cl.c2,cl.c3,cl.c4,cl.c5,cl.c6⟩:iP)]:List iP)))}
def xO:Nd:=(Nd.bif (!nd.up) nd (Nd.bif (nd.ro !=3) nd (Nd.bif (!(tK (⟨nd.te,(jR nd),false,cl.c0,cl.c1,cl.c2,cl.c3,cl.c4,cl.c5,cl.c6⟩:aM) nd)) (l6 (⟨nd.te,(jR nd),false,cl.c0,cl.c1,cl.c2,cl.c3,cl.c4,cl.c5,cl.c6⟩:aM) nd) (afi cl nd))))
def B7(kt:Sl bI):Sl bI:=(bif(!nd.up)then(Gu cl 13 nd kt)else(bif(nd.ro !=3)then(Gu cl 12 nd kt)else(bif(!(tK (⟨nd.te,(jR nd),false,cl.c0,cl.c1,cl.c2,cl.c3,cl.c4,cl.c5,cl.c6⟩:aM) nd))then(Gu cl 6 (l6 (⟨nd.te,(jR nd),false,cl.c0,cl.c1,cl.c2,cl.c3,cl.c4,cl.c5,cl.c6⟩:aM) nd) kt)else kt)))
def PX:Hr:=⟨[.p 0,.po 0 (33*i),.g [kI,kI,kI,kS,kS,kS,kI]],bP,eC,dS,fun(y0:Int) (y1:Int) (y2:Int) y3 y4 y5 (y6:Int)=>cg fun C=>⟨⟨some (C.told.n≤549000000000∧(⟨y0,y1,y2,y3,y4,y5,y6⟩:lR).c3.size≤10000000000∧(⟨y0,y1,y2,y3,y4,y5,y6⟩:lR).c4.size≤10000000000∧(⟨y0,y1,y2,y3,y4,y5,y6⟩:lR).c5.size≤10000000000∧(C.nd i).ws.n≤549000000000),[],bN aJ 0 (C.put i (xO (⟨y0,y1,y2,y3,y4,y5,y6⟩:lR) (C.nd i)) C.ax (B7 (⟨y0,y1,y2,y3,y4,y5,y6⟩:lR) (C.nd i) C.told) C.aY)⟩⟩⟩
def aag:RS:=⟨.dY true [] [] (gx i aJ 0 [] 0) (gw i aJ),[],[]++fL i aJ,⟨[],[]⟩⟩
def aso(C:Cr):Hn (aag i).kd:=let z8:=C.nd i;let z6:=l6 (⟨z8.te,(jR z8),false,cl.c0,cl.c1,cl.c2,cl.c3,cl.c4,cl.c5,cl.c6⟩:aM) z8;(.ai (.ai (.ai (.ai (.ck ⟨([.ptr 0 0,.ptr 0 (33*i+0),U,U,U,.ptr 10 0]++(us 33 (([.bool (z8.ro !=3)]++(us 25 ([])))))),bS aJ 1 C [(10,[ae cl.c0,ae cl.c1,ae cl.c2,.str cl.c3,.str cl.c4,.str cl.c5,ae cl.c6])]⟩ (.ai (.s (.nw [(0,(33*i+4))]) (.ck ⟨([.ptr 0 0,.ptr 0 (33*i+0),U,U,U,.ptr 10 0]++(us 43 (([.bool (!(tK (⟨z8.te,(jR z8),false,cl.c0,cl.c1,cl.c2,cl.c3,cl.c4,cl.c5,cl.c6⟩:aM) z8))]++(us 15 ([])))))),bS aJ 1 (C.set i z6) [(10,[ae cl.c0,ae cl.c1,ae cl.c2,.str cl.c3,.str cl.c4,.str cl.c5,ae cl.c6])]⟩ (.ai (.ai (.ck ⟨([U,.ptr 0 (33*i+0),U,U,U,.ptr 10 0,ae (cy z6)]++(us 58 ([]))),bS aJ 1 (C.set i z6) [(10,[ae cl.c0,ae cl.c1,ae cl.c2,.str cl.c3,.str cl.c4,.str cl.c5,ae cl.c6])]⟩ .z)))))))))))
def Yk(i:Nat)(cl:lR)(C:Cr):Prop:=(((!(C.nd i).up)=true→(C.told.n≤549000000000))∧((!(C.nd i).up)=false→((((C.nd i).ro !=3)=true→(C.told.n≤549000000000))∧(((C.nd i).ro !=3)=false→((lU (⟨(C.nd i).te,(jR (C.nd i)),false,cl.c0,cl.c1,cl.c2,cl.c3,cl.c4,cl.c5,cl.c6⟩:aM))∧(((!(tK (⟨(C.nd i).te,(jR (C.nd i)),false,cl.c0,cl.c1,cl.c2,cl.c3,cl.c4,cl.c5,cl.c6⟩:aM) (C.nd i)))=true→(C.told.n≤549000000000))∧((!(tK (⟨(C.nd i).te,(jR (C.nd i)),false,cl.c0,cl.c1,cl.c2,cl.c3,cl.c4,cl.c5,cl.c6⟩:aM) (C.nd i)))=false→((C.nd i).ws.n+1≤549755813888))))))))
theorem ayL(i:Nat)(hi:i<3)(cl:lR)(C:Cr)(hb:dA C)(n3:cl.c3.size≤549755813888)(n4:cl.c4.size≤549755813888)(n5:cl.c5.size≤549755813888)(hp:C.told.n≤549000000000∧cl.c3.size≤10000000000∧cl.c4.size≤10000000000∧cl.c5.size≤10000000000∧(C.nd i).ws.n≤549000000000):Yk i cl C:=by
 have hN:=fR hb i hi;unfold fq at hN;unfold Yk;exact have⟨cn,dv,ia,mH,wm⟩:=hp;(⟨(fun h1=>(by omega)),(fun h2=>⟨(fun h3=>(by omega)),(fun h4=>⟨(by repeat first|assumption|apply rZ),⟨(fun h5=>(by omega)),(fun h6=>(by omega))⟩⟩)⟩)⟩)
theorem awo(i:Nat)(hi:i<3)(cl:lR)(n3:cl.c3.size≤549755813888)(n4:cl.c4.size≤549755813888)(n5:cl.c5.size≤549755813888):fb Tryz.prog 42 (PX i) bP [] (cg fun C=>⟨⟨some (C.told.n≤549000000000∧cl.c3.size≤10000000000∧cl.c4.size≤10000000000∧cl.c5.size≤10000000000∧(C.nd i).ws.n≤549000000000),[],bN aJ 0 (C.put i (xO cl (C.nd i)) C.ax (B7 cl (C.nd i) C.told) C.aY)⟩⟩) [ae cl.c0,ae cl.c1,ae cl.c2,.str cl.c3,.str cl.c4,.str cl.c5,ae cl.c6]:=by
 refine gv fun C hb=>fun hp=>dD (aag i) (aso i cl C) (Yk i cl C) (bB 10 aQ (az (avR i hi) (az (ahB i hi) (az (ahC i hi) (az (zU i hi) bA))))) Tryz.func42 (List.replicate 31 .f++List.replicate 62 .l++[.f,.f]++List.replicate 5 .l++[.f]++[.l]) ?_ ?_ (ayL i hi cl C hb n3 n4 n5 hp)
 ·rcases bJ hi with rfl|rfl|rfl<;>kernel_rfl
 ·rcases bJ hi with rfl|rfl|rfl<;>kernel_rfl
theorem azh(i:Nat)(hi:i<3):gi 42 (PX i):=
 j4 (ks:=[kI,kI,kI,kS,kS,kS,kI]) fun s hs=>Eq.mp (by rcases bJ hi with rfl|rfl|rfl<;>kernel_rfl) (awo i hi ⟨s.1,s.2.1,s.2.2.1,s.2.2.2.1,s.2.2.2.2.1,s.2.2.2.2.2.1,s.2.2.2.2.2.2.1⟩ (hs.2.2.2.1 rfl) (hs.2.2.2.2.1 rfl) (hs.2.2.2.2.2.1 rfl))
theorem avP(i:Nat)(hi:i<3):gj 42 (PX i):=gE gu Tryz.func42 (azh i hi)
end
section
variable(i:Nat)(nd:Nd)
def jS:Nd:={nd with ro:=3}
def pM:Nd:=let z6:=i64.wrap ((cy (jS nd))+1);{(jS nd)with p0:=z6,p1:=z6,p2:=z6,q0:=0,q1:=0,q2:=0}
def UA(kl:Sl aS):Sl aS:=(Sl.app kl (Sl.lit ([(⟨nd.te,nd.me⟩:aS)]:List aS)))
def GC:Nd:=let z8:=i64.wrap ((cy (jS nd))+1);let z6:=l6 (⟨nd.te,(jR (pM nd)),true,0,0,0,⟨#[]⟩,⟨#[]⟩,⟨#[]⟩,0⟩:aM) (pM nd);{nd with ro:=3,lb:=z6.lb,lt:=z6.lt,li:=z6.li,p0:=z8,p1:=z8,p2:=z8,q0:=0,q1:=0,q2:=0,td:=z6.td,ts:=z6.ts,ou:=(Ce z6).ou}
theorem mM:(⟨#[]⟩:ag).size≤10000000000:=by decide
theorem anI(nd:Nd)(h0:0≤nd.lb)(h1:nd.lb+(nd.li.n:Int)+1≤4194304):0≤(i64.wrap ((cy (jS nd))+1))∧(i64.wrap ((cy (jS nd))+1))≤4194304:=by
 have hs:0≤cy (jS nd)∧cy (jS nd)≤4194303:=by
  show 0≤l8 nd.lb nd.lt nd.li∧l8 nd.lb nd.lt nd.li≤4194303;have h2:=aq (nd.lb+(nd.li.n:Int));unfold l8
  cases (cK nd.lb nd.lt nd.li !=0)with
  |true=>exact⟨aCT 0,by show(0:Int)≤4194303;omega⟩
  |false=>
   show 0≤qW nd.lb nd.li∧qW nd.lb nd.li≤4194303;unfold qW
   cases decide ((nd.li.n:Int)>0)with
   |true=>rw[aCJ];omega
   |false=>rw[aCI];omega
 have h3:=aq (cy (jS nd)+1);omega
theorem aoL(it:aM)(nd:Nd):(l6 it (pM nd)).p0=(i64.wrap ((cy (jS nd))+1))∧(l6 it (pM nd)).p1=(i64.wrap ((cy (jS nd))+1))∧(l6 it (pM nd)).p2=(i64.wrap ((cy (jS nd))+1)):=⟨rfl,rfl,rfl⟩
def Qd:Hr:=⟨[.p 0,.po 0 (33*i)],bP,eC,dS,cg fun C=>⟨⟨some (C.aY.n≤549000000000∧0≤(C.nd i).lb∧(C.nd i).lb+((C.nd i).li.n:Int)+1≤4194304),[],bN aJ 0 (C.put i (GC (C.nd i)) C.ax C.told (UA (C.nd i) C.aY))⟩⟩⟩
def aap:RS:=⟨.dY true [] [] (gx i aJ 0 [] 0) (gw i aJ),[],[]++fL i aJ,⟨[],[]⟩⟩
def asy(C:Cr):Hn (aap i).kd:=let z8:=C.nd i;let z6:=Sl.lit ([(⟨z8.te,z8.me⟩:aS)]:List aS);(.ai (.ai (.ck ⟨([.ptr 0 0,.ptr 0 (33*i+0),U,U,ae (cy (jS z8))]++(us 55 ([]))),bS aJ 0 (C.set i (jS z8)) []⟩ (.s (.ai (.un 3 (.s (.ai (.s (.c true .z) .z)) (.s (.ai (.s (.c true .z) .z)) (.s (.ai (.s (.c true .z) .z)) (.ai (.s (.c false .z) .z))))))) (.ai (.s (.nw [(0,(33*i+4))]) (.ck ⟨([U,.ptr 0 (33*i+0)]++(us 58 ([]))),bS aJ 1 (C.put i (l6 (⟨z8.te,(jR (pM z8)),true,0,0,0,⟨#[]⟩,⟨#[]⟩,⟨#[]⟩,0⟩:aM) (pM z8)) C.ax C.told (Sl.app C.aY z6)) [(10,[(Kd.ah cr).av z6])]⟩ .z)))))))
def Yq(i:Nat)(C:Cr):Prop:=((C.aY.n+1≤549755813888)∧((lU (⟨(C.nd i).te,(jR (pM (C.nd i))),true,0,0,0,⟨#[]⟩,⟨#[]⟩,⟨#[]⟩,0⟩:aM))∧(0≤(i64.wrap ((cy (jS (C.nd i)))+1))∧(i64.wrap ((cy (jS (C.nd i)))+1))≤4194304∧0≤(i64.wrap ((cy (jS (C.nd i)))+1))∧(i64.wrap ((cy (jS (C.nd i)))+1))≤4194304∧0≤(i64.wrap ((cy (jS (C.nd i)))+1))∧(i64.wrap ((cy (jS (C.nd i)))+1))≤4194304)))
theorem ayS(i:Nat)(hi:i<3)(C:Cr)(hb:dA C)(hp:C.aY.n≤549000000000∧0≤(C.nd i).lb∧(C.nd i).lb+((C.nd i).li.n:Int)+1≤4194304):Yq i C:=by
 have hN:=fR hb i hi;unfold fq at hN;unfold Yq;exact have⟨cn,dv,ia⟩:=hp;have:=anI (C.nd i) dv ia;have:=aoL (⟨(C.nd i).te,(jR (pM (C.nd i))),true,0,0,0,⟨#[]⟩,⟨#[]⟩,⟨#[]⟩,0⟩:aM) (C.nd i);(⟨(by omega),⟨(by repeat first|assumption|apply rZ|apply mM),(by first|omega|(have:=aq ((cy (jS (C.nd i)))+1);omega))⟩⟩)
theorem awM(i:Nat)(hi:i<3):fb Tryz.prog 65 (Qd i) bP [] (cg fun C=>⟨⟨some (C.aY.n≤549000000000∧0≤(C.nd i).lb∧(C.nd i).lb+((C.nd i).li.n:Int)+1≤4194304),[],bN aJ 0 (C.put i (GC (C.nd i)) C.ax C.told (UA (C.nd i) C.aY))⟩⟩) []:=by
 refine gv fun C hb=>fun hp=>dD (aap i) (asy i C) (Yq i C) (bB 10 aQ (az (ahB i hi) (az (ahC i hi) (az (zU i hi) (az (ahE i hi) bA))))) Tryz.func65 [] ?_ ?_ (ayS i hi C hb hp)
 ·rcases bJ hi with rfl|rfl|rfl<;>kernel_rfl
 ·rcases bJ hi with rfl|rfl|rfl<;>kernel_rfl
theorem azv(i:Nat)(hi:i<3):gi 65 (Qd i):=
 awM i hi
theorem uz(i:Nat)(hi:i<3):gj 65 (Qd i):=gE gu Tryz.func65 (azv i hi)
end
end Go.Proofs.YtfmgjpcmcjjoiaaGreatDoor
