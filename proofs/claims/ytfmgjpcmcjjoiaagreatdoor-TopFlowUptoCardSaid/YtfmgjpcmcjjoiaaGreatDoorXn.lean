/- Part of a proof: walks of the program. -/
import Derived.Test.YtfmgjpcmcjjoiaaGreatDoorXl
import Derived.Test.YtfmgjpcmcjjoiaaGreatDoorXm
open Go.IntKind (i64 u64 u8)
open Int (toNat)
set_option maxRecDepth 100000
set_option maxHeartbeats 4000000
set_option linter.all false
noncomputable section
namespace Go.Proofs.YtfmgjpcmcjjoiaaGreatDoor
open Go Go.RowKit Go.Vc
section
variable(i:Nat)(x0:Int)(nd:Nd)(kt:Sl bI)(af:Int)(ak:Sl ar)(aV:Int)(bw:Sl aG)(cE:Int)(gU:Int)
def UN:Int:=let z6:=nd.li.at' (toNat (i64.wrap ((i64.wrap ((i64.wrap (cE+1))-nd.lb))-1)));(bif(!z6.c2)then(aek af ak aV bw z6.c1 z6.c3 z6.c4 z6.c5 z6.c6 z6.c7 z6.c8 z6.c9)else af)
def UO:Sl ar:=let z6:=nd.li.at' (toNat (i64.wrap ((i64.wrap ((i64.wrap (cE+1))-nd.lb))-1)));(bif(!z6.c2)then(ael af ak aV bw z6.c1 z6.c3 z6.c4 z6.c5 z6.c6 z6.c7 z6.c8 z6.c9)else ak)
def UP:Int:=let z6:=nd.li.at' (toNat (i64.wrap ((i64.wrap ((i64.wrap (cE+1))-nd.lb))-1)));(bif(!z6.c2)then(aem af ak aV bw z6.c1 z6.c3 z6.c4 z6.c5 z6.c6 z6.c7 z6.c8 z6.c9)else aV)
def UQ:Sl aG:=let z6:=nd.li.at' (toNat (i64.wrap ((i64.wrap ((i64.wrap (cE+1))-nd.lb))-1)));(bif(!z6.c2)then(aen af ak aV bw z6.c1 z6.c3 z6.c4 z6.c5 z6.c6 z6.c7 z6.c8 z6.c9)else bw)
def afv:Int:=let z6:=nd.li.at' (toNat (i64.wrap ((i64.wrap ((i64.wrap (cE+1))-nd.lb))-1)));(bif(!z6.c2)then(aeo af ak aV bw z6.c1 z6.c3 z6.c4 z6.c5 z6.c6 z6.c7 z6.c8 z6.c9)else 0)
def afw:ag:=let z6:=nd.li.at' (toNat (i64.wrap ((i64.wrap ((i64.wrap (cE+1))-nd.lb))-1)));(bif(!z6.c2)then(aep af ak aV bw z6.c1 z6.c3 z6.c4 z6.c5 z6.c6 z6.c7 z6.c8 z6.c9)else⟨#[]⟩)
def afx:Int:=let z6:=nd.li.at' (toNat (i64.wrap ((i64.wrap ((i64.wrap (cE+1))-nd.lb))-1)));(bif(!z6.c2)then(aeq af ak aV bw z6.c1 z6.c3 z6.c4 z6.c5 z6.c6 z6.c7 z6.c8 z6.c9)else 0)
def afy:Sl ag:=let z6:=nd.li.at' (toNat (i64.wrap ((i64.wrap ((i64.wrap (cE+1))-nd.lb))-1)));(bif(!z6.c2)then(aer af ak aV bw z6.c1 z6.c3 z6.c4 z6.c5 z6.c6 z6.c7 z6.c8 z6.c9)else(al:Sl ag))
def arG:Nd:={nd with mn:=(UN nd af ak aV bw cE),mE:=(UO nd af ak aV bw cE),mx:=(UP nd af ak aV bw cE),mc:=(UQ nd af ak aV bw cE),co:=(i64.wrap (cE+1))}
def afu:Bool:=let z8:=i64.wrap (cE+1);let z6:=nd.ws.at' (toNat gU);(bif(z6.c0==z8)then(z6.c1==(nd.li.at' (toNat (i64.wrap ((i64.wrap (z8-nd.lb))-1)))).c0)else false)
def Co(pr:Sl bI):Sl bI:=let z6:=nd.ws.at' (toNat gU);(bif(afu nd cE gU)then(Sl.app pr (Sl.lit ([(⟨nd.me,z6.c2,z6.c3,z6.c4,z6.c5,z6.c6,z6.c7,z6.c8,(afv nd af ak aV bw cE),(afw nd af ak aV bw cE),(afx nd af ak aV bw cE),(afy nd af ak aV bw cE)⟩:bI)]:List bI)))else pr)
def Cn(nd:Nd)(af:Int)(ak:Sl ar)(aV:Int)(bw:Sl aG)(cE:Int):Nat→Int→Sl bI→Int×Sl bI×Bool
 |0,_,_=>default
 |k+1,gU,pr=>let z6:=decide (gU<(nd.ws.n:Int));(bif z6 then(Cn nd af ak aV bw cE k (i64.wrap (gU+1)) (Co nd af ak aV bw cE gU pr))else(gU,pr,z6))
def L0(iu:Sl bI):Int×Sl bI×Bool:=Cn nd af ak aV bw cE ((toNat ((nd.ws.n:Int)-0))+1) 0 iu
def rp(x0:Int)(nd:Nd):Nat→Int→Sl ar→Int→Sl aG→Int→Sl bI→Int×Sl ar×Int×Sl aG×Int×Sl bI
 |0,_,_,_,_,_,_=>default
 |k+1,af,ak,aV,bw,cE,iu=>(bif(decide (cE<x0))then(rp x0 nd k (UN nd af ak aV bw cE) (UO nd af ak aV bw cE) (UP nd af ak aV bw cE) (UQ nd af ak aV bw cE) (i64.wrap (cE+1)) (L0 nd af ak aV bw cE iu).2.1)else(af,ak,aV,bw,cE,iu))
def Cp:Int×Sl ar×Int×Sl aG×Int×Sl bI:=rp x0 nd ((toNat (x0-nd.co))+1) nd.mn nd.mE nd.mx nd.mc nd.co kt
def yl:Sl bI:=(Cp x0 nd kt).2.2.2.2.2
def x_:Nd:=let z6:=Cp x0 nd kt;{nd with mn:=z6.1,mE:=z6.2.1,mx:=z6.2.2.1,mc:=z6.2.2.2.1,co:=z6.2.2.2.2.1}
theorem ahN(nd:Nd)(a:Int)(b:Sl ar)(c:Int)(d:Sl aG)(e:Int)(hn:nd.ws.n≤549755813888): ∀(k:Nat) (v:Int) (s:Sl bI),0≤v→v≤(nd.ws.n:Int)→toNat ((nd.ws.n:Int)-v)<k→(((Cn nd a b c d e k v s).2.1.n:Nat):Int)≤s.n+((nd.ws.n:Int)-v)
 |0,_,_,_,_,hk=>absurd hk (fC _)
 |k+1,v,s,h0,h1,hk=>by
  show(((bif decide (v<(nd.ws.n:Int))then Cn nd a b c d e k (i64.wrap (v+1)) (Co nd a b c d e v s)else(v,s,decide (v<(nd.ws.n:Int)))).2.1.n:Nat):Int)≤_
  by_cases h:v<(nd.ws.n:Int)
  ·rw[cx h,aCJ];have hw:=aq (v+1);have ih:=ahN nd a b c d e hn k (i64.wrap (v+1)) (Co nd a b c d e v s) (by omega) (by omega) (by omega);have hm:=JE (s:=Co nd a b c d e v s) _ _ _ rfl;simp only[Sl.pz,Sl.nA,aC7,aDf]at hm;omega
  ·rw[cq h,aCI];show(s.n:Int)≤_;omega
theorem ail(nd:Nd)(a:Int)(b:Sl ar)(c:Int)(d:Sl aG)(e:Int)(s:Sl bI)(hn:nd.ws.n≤549755813888):(((L0 nd a b c d e s).2.1.n:Nat):Int)≤s.n+(nd.ws.n:Int):=by
 have h:=ahN nd a b c d e hn (toNat ((nd.ws.n:Int)-0)+1) 0 s (by omega) (by omega) (by omega);show(((Cn nd a b c d e (toNat ((nd.ws.n:Int)-0)+1) 0 s).2.1.n:Nat):Int)≤_;omega
def Qr:Hr:=⟨[.p 0,.po 0 (33*i),.v kI],bP,eC,dS,fun(x0:Int)=>cg fun C=>let z6:=C.nd i;⟨⟨some (C.told.n≤541000000000∧z6.ws.n≤3000∧0≤z6.lb∧z6.lb≤z6.co∧z6.co≤4194304∧x0≤z6.lb+(z6.li.n:Int)∧z6.li.n≤200),[],bN aJ 0 (C.put i (x_ x0 z6 C.told) C.ax (yl x0 z6 C.told) C.aY)⟩⟩⟩
def aay:RS:=⟨.dY true [] [] (gx i aJ 0 [] 0) (gw i aJ),[],[]++fL i aJ,⟨[],[]⟩⟩
def asH(C:Cr):Hn (aay i).kd:=let z8:=C.nd i;(.zZ ⟨7,[],[],[(.h 0 (33*i+15),kI),(.h 0 (33*i+16),.sl aZ),(.h 0 (33*i+17),kI),(.h 0 (33*i+18),.sl bG),(.h 0 (33*i+19),kI),(.h 8 0,.ah jf)],some 0,false,0,[],[(.h 0 (33*i+15),kI),(.h 0 (33*i+16),.sl aZ),(.h 0 (33*i+17),kI),(.h 0 (33*i+18),.sl bG),(.h 0 (33*i+19),kI),(.h 8 0,.ah jf)],fun k (s:Int×Sl ar×Int×Sl aG×Int×Sl bI)=>rp x0 z8 k s.1 s.2.1 s.2.2.1 s.2.2.2.1 s.2.2.2.2.1 s.2.2.2.2.2,.f,fun(s:Int×Sl ar×Int×Sl aG×Int×Sl bI)=>((z8.co≤s.2.2.2.2.1∧(s.2.2.2.2.1≤x0∨s.2.2.2.2.1=z8.co))∧(s.2.2.2.2.2.n:Int)≤C.told.n+(s.2.2.2.2.1-z8.co)*3000),fun(s:Int×Sl ar×Int×Sl aG×Int×Sl bI)=>(toNat (x0-s.2.2.2.2.1)),some fun(r:Int×Sl ar×Int×Sl aG×Int×Sl bI)=>(r.2.2.2.2.2.n:Int)≤C.told.n+(max (x0-z8.co) 0)*3000⟩ (fun(u1:Int×Sl ar×Int×Sl aG×Int×Sl bI)=>let zb:=i64.wrap (u1.2.2.2.2.1+1);let zc:=i64.wrap (zb-z8.lb);let zd:=i64.wrap (zc-1);let z6:=toNat zd;let za:=z8.li.at' z6;(.ai (.ai (.ai (.ai (.j ⟨17592186043591,[],[(.h 0 (33*i+15),kI),(.h 0 (33*i+16),.sl aZ),(.h 0 (33*i+17),kI),(.h 0 (33*i+18),.sl bG),(.h 11 0,kI),(.h 11 1,kS),(.h 11 2,kI),(.h 11 3,.sl E9)],[],.f⟩ .z (.ck ⟨([.ptr 0 0,.ptr 0 (33*i+0),ae x0,U,U,U,.ptr 10 0,.ptr 11 0,U,U,.ptr 0 (33*i+0),.ptr 0 (33*i+0),.ptr 0 (33*i+19),ae u1.2.2.2.2.1,ae x0,.bool (decide (u1.2.2.2.2.1<x0)),.ptr 0 (33*i+0),.ptr 0 (33*i+0),.ptr 0 (33*i+19),ae u1.2.2.2.2.1,ae zb,.ptr 0 (33*i+0),.ptr 0 (33*i+19),.ptr 0 (33*i+0),.ptr 0 (33*i+0),.ptr 0 (33*i+6),.ptr 0 (33*i+8),aL 10 dH z8.li,.ptr 0 (33*i+0),.ptr 0 (33*i+0),.ptr 0 (33*i+19),ae zb,.ptr 0 (33*i+0),.ptr 0 (33*i+0),.ptr 0 (33*i+6),.ptr 0 (33*i+6),ae z8.lb,ae zc,ae zd,.ref [ae za.c0,ae za.c1,.bool za.c2,ae za.c3,ae za.c4,ae za.c5,.str za.c6,.str za.c7,.str za.c8,ae za.c9],.agg [ae za.c0,ae za.c1,.bool za.c2,ae za.c3,ae za.c4,ae za.c5,.str za.c6,.str za.c7,.str za.c8,ae za.c9],.ptr 10 2,.bool za.c2,.bool (!za.c2)]++(us 57 ([]))),bS aJ 2 (C.put i (arG z8 u1.1 u1.2.1 u1.2.2.1 u1.2.2.2.1 u1.2.2.2.2.1) C.ax u1.2.2.2.2.2 C.aY) [(10,[ae za.c0,ae za.c1,.bool za.c2,ae za.c3,ae za.c4,ae za.c5,.str za.c6,.str za.c7,.str za.c8,ae za.c9]),(11,[ae (afv z8 u1.1 u1.2.1 u1.2.2.1 u1.2.2.2.1 u1.2.2.2.2.1),.str (afw z8 u1.1 u1.2.1 u1.2.2.1 u1.2.2.2.1 u1.2.2.2.2.1),ae (afx z8 u1.1 u1.2.1 u1.2.2.1 u1.2.2.2.1 u1.2.2.2.2.1),aL 1 e9 (afy z8 u1.1 u1.2.1 u1.2.2.1 u1.2.2.2.1 u1.2.2.2.2.1)])]⟩ (.ai (.lp ⟨72634072382417403079,[],[],[(.t 65,kI),(.h 8 0,.ah jf)],some 2,false,146421048677255609543,[],[(.t 65,kI),(.h 8 0,.ah jf),(.t 66,kB)],fun k (s:Int×Sl bI)=>Cn z8 u1.1 u1.2.1 u1.2.2.1 u1.2.2.2.1 u1.2.2.2.2.1 k s.1 s.2,.f,fun(s:Int×Sl bI)=>((0≤s.1∧s.1≤(z8.ws.n:Int))∧(s.2.n:Int)≤u1.2.2.2.2.2.n+(s.1-0)),fun(s:Int×Sl bI)=>(toNat ((z8.ws.n:Int)-s.1)),some fun(r:Int×Sl bI×Bool)=>(r.2.1.n:Int)≤u1.2.2.2.2.2.n+max ((z8.ws.n:Int)-0) 0⟩ (.ai (.ai (.j ⟨4986817853006432924860103,[.b 13],[(.h 8 0,.ah jf)],[],.f⟩ (.ai (.j ⟨4986817853006432924860103,[],[(.t 76,kB),(.t 82,kB)],[],.f⟩ .z .z)) .z)))))))))))))
def YA(i:Nat)(x0:Int)(C:Cr):Prop:=(((((C.nd i).co≤(C.nd i).co∧((C.nd i).co≤x0∨(C.nd i).co=(C.nd i).co))∧(C.told.n:Int)≤C.told.n+((C.nd i).co- (C.nd i).co)*3000))∧(∀(af:Int) (ak:Sl ar) (aV:Int) (bw:Sl aG) (cE:Int) (iu:Sl bI),(((C.nd i).co≤cE∧(cE≤x0∨cE=(C.nd i).co))∧(iu.n:Int)≤C.told.n+(cE- (C.nd i).co)*3000)→(((decide (cE<x0))=true→(((0:Int)≤(i64.wrap ((i64.wrap ((i64.wrap (cE+1))- (C.nd i).lb))-1))∧(i64.wrap ((i64.wrap ((i64.wrap (cE+1))- (C.nd i).lb))-1))<(((C.nd i).li.n:Nat):Int))∧((((0≤(0:Int)∧(0:Int)≤(((C.nd i).ws.n:Nat):Int))∧(iu.n:Int)≤iu.n+((0:Int)-0)))∧(∀(gU:Int) (pr:Sl bI),((0≤gU∧gU≤(((C.nd i).ws.n:Nat):Int))∧(pr.n:Int)≤iu.n+(gU-0))→(((decide (gU<(((C.nd i).ws.n:Nat):Int)))=true→((((0:Int)≤gU∧gU<(((C.nd i).ws.n:Nat):Int))∧((toNat gU)<(C.nd i).ws.n))∧((afu (C.nd i) cE gU)=true→(pr.n+1≤549755813888))))∧(((decide (gU<(((C.nd i).ws.n:Nat):Int)))=true→(((0≤(i64.wrap (gU+1))∧(i64.wrap (gU+1))≤(((C.nd i).ws.n:Nat):Int))∧(((Co (C.nd i) af ak aV bw cE gU pr).n:Nat):Int)≤iu.n+((i64.wrap (gU+1))-0))∧(toNat ((((C.nd i).ws.n:Nat):Int)- (i64.wrap (gU+1))))<(toNat ((((C.nd i).ws.n:Nat):Int)-gU))))∧((decide (gU<(((C.nd i).ws.n:Nat):Int)))=false→((pr.n:Int)≤iu.n+max ((((C.nd i).ws.n:Nat):Int)-0) 0))))))))∧(((decide (cE<x0))=true→((((C.nd i).co≤(i64.wrap (cE+1))∧((i64.wrap (cE+1))≤x0∨(i64.wrap (cE+1))=(C.nd i).co))∧(((L0 (C.nd i) af ak aV bw cE iu).2.1.n:Nat):Int)≤C.told.n+((i64.wrap (cE+1))- (C.nd i).co)*3000)∧(toNat (x0- (i64.wrap (cE+1))))<(toNat (x0-cE))))∧((decide (cE<x0))=false→((iu.n:Int)≤C.told.n+(max (x0- (C.nd i).co) 0)*3000))))))
theorem ay2(i:Nat)(hi:i<3)(x0:Int)(C:Cr)(hb:dA C)(hp:C.told.n≤541000000000∧(C.nd i).ws.n≤3000∧0≤(C.nd i).lb∧(C.nd i).lb≤(C.nd i).co∧(C.nd i).co≤4194304∧x0≤(C.nd i).lb+((C.nd i).li.n:Int)∧(C.nd i).li.n≤200):YA i x0 C:=by
 have hN:=fR hb i hi;unfold fq at hN;unfold YA;exact have⟨cn,dv,ia,mH,wm,Dr,Wf⟩:=hp;(⟨(by omega),(fun af ak aV bw cE iu dX=>⟨(fun h2=>⟨(by have:=ay h2;have:=aq (cE+1);have:=aq ((i64.wrap (cE+1))- (C.nd i).lb);have:=aq ((i64.wrap ((i64.wrap (cE+1))- (C.nd i).lb))-1);omega),⟨(by omega),(fun gU pr hI3=>⟨(fun h4=>⟨⟨(by have:=ay h4;omega),(by have:=ay h4;omega)⟩,(fun h5=>(by omega))⟩),⟨(fun h6=>(by have:=ay h6;have VD:=JE (s:=(Co (C.nd i) af ak aV bw cE gU pr)) _ _ _ rfl;(try simp only[Sl.pz,Sl.nA,Sl.An,aC7,aDf]at VD);have:=aq (gU+1);omega)),(fun h7=>(by omega))⟩⟩)⟩⟩),⟨(fun h8=>(by have:=ay h8;have:=ail (C.nd i) af ak aV bw cE iu (by omega);have:=aq (cE+1);omega)),(fun h9=>(by omega))⟩⟩)⟩)
theorem awZ(i:Nat)(hi:i<3)(x0:Int):fb Tryz.prog 91 (Qr i) bP [] (cg fun C=>⟨⟨some (C.told.n≤541000000000∧(C.nd i).ws.n≤3000∧0≤(C.nd i).lb∧(C.nd i).lb≤(C.nd i).co∧(C.nd i).co≤4194304∧x0≤(C.nd i).lb+((C.nd i).li.n:Int)∧(C.nd i).li.n≤200),[],bN aJ 0 (C.put i (x_ x0 (C.nd i) C.told) C.ax (yl x0 (C.nd i) C.told) C.aY)⟩⟩) [ae x0]:=by
 refine gv fun C hb=>fun hp=>dD (aay i) (asH i x0 C) (YA i x0 C) (bB 10 (aH avf aQ) bA) Tryz.func91 [] ?_ ?_ (ay2 i hi x0 C hb hp)
 ·rcases bJ hi with rfl|rfl|rfl<;>kernel_rfl
 ·rcases bJ hi with rfl|rfl|rfl<;>kernel_rfl
theorem azI(i:Nat)(hi:i<3):gi 91 (Qr i):=
 j4 (ks:=[kI]) fun s hs=>Eq.mp (by rcases bJ hi with rfl|rfl|rfl<;>kernel_rfl) (awZ i hi s.1)
theorem ahG(i:Nat)(hi:i<3):gj 91 (Qr i):=gE gu Tryz.func91 (azI i hi)
end
def Nd.sv(j:Nat)(n:Nd):Nd:=match j with
 |0=>{n with v0:=true}
 |1=>{n with v1:=true}
 |_=>{n with v2:=true}
def Nd.gp(j:Nat)(n:Nd):Int:=match j with
 |0=>n.p0
 |1=>n.p1
 |_=>n.p2
def Nd.gq(j:Nat)(n:Nd):Int:=match j with
 |0=>n.q0
 |1=>n.q1
 |_=>n.q2
def Nd.sp(j:Nat)(x:Int)(n:Nd):Nd:=match j with
 |0=>{n with p0:=x}
 |1=>{n with p1:=x}
 |_=>{n with p2:=x}
def Nd.spq(j:Nat)(x y:Int)(n:Nd):Nd:=match j with
 |0=>{n with p0:=x,q0:=y}
 |1=>{n with p1:=x,q1:=y}
 |_=>{n with p2:=x,q2:=y}
section
variable(af:Int)(aV:Bool)(x2:Sl Int)(x3:Bool)(x4:Sl ar)(x5:Sl aG)
def KI:Sl Int:=(bu (FX (dR x2 x3) (eH x2 x3)) (KJ (dR x2 x3) (eH x2 x3)))
def adO:Bool:=(bx (FX (dR x2 x3) (eH x2 x3)) (KJ (dR x2 x3) (eH x2 x3)))
def FW:Sl ar:=let z8:=eH x2 x3;let z6:=dR x2 x3;(Sl.app x4 (Sl.lit ([(⟨(pI x2 x3),(adP z6 z8),(adQ z6 z8),(adR z6 z8),(adS z6 z8),(adT z6 z8),(adU z6 z8),(fA (FX z6 z8) (KJ z6 z8))⟩:ar)]:List ar)))
def alx:Hq:=⟨[.p 0,.p 1],[(.h 0 0,kI),(.h 0 2,kI),(.h 2 0,.sl E5),(.h 2 1,kB),(.h 3 0,.ah aZ),(.h 4 0,.ah bG)],[[U,.own 3 0,U,.own 4 0],[.ptr 2 0],[U,U],[U],[U]],fun(x0:Int) (x1:Int) x2 x3 x4 x5=>⟨⟨some (U8 x2∧x4.n≤1000),[],[[ae x0,.own 3 ((FW x2 x3 x4)).n,ae x1,.own 4 (x5).n],[.ptr 2 0],[aL 1 e5 (KI x2 x3),.bool (adO x2 x3)],[(Kd.ah aZ).av (FW x2 x3 x4)],[(Kd.ah bG).av x5]]⟩⟩⟩
theorem auX:dz 137 alx:=dE Tryz.func137
 fun(x0:Int) (x1:Int) x2 n2 x3 x4 n4 x5 n5 hp=>dy ⟨.heap,[],[(.h 0 0,kI),(.h 0 2,kI),(.h 2 0,.sl E5),(.h 2 1,kB),(.h 3 0,.ah aZ),(.h 4 0,.ah bG)],⟨[],[[U,.own 3 0,U,.own 4 0],[.ptr 2 0],[U,U],[U],[U]]⟩⟩ (.z) ((U8 x2)∧((U8 (dR x2 x3))∧(x4.n+1≤549755813888))) (bB 5 aQ (az wB (az zT (az auY bA)))) Tryz.func137 (have⟨cn,dv⟩:=hp;⟨(by first|(with_reducible (repeat first|assumption|apply dx|apply ff|apply fh|apply fg|apply gD|apply gA|apply f_|apply fU|apply fV|apply gB|apply fT|apply gC|apply gy|apply gz|apply gT|apply g_|apply hO|apply ic);done)|assumption),⟨(by first|(with_reducible (repeat first|assumption|apply dx|apply ff|apply fh|apply fg|apply gD|apply gA|apply f_|apply fU|apply fV|apply gB|apply fT|apply gC|apply gy|apply gz|apply gT|apply g_|apply hO|apply ic);done)|assumption),(by omega)⟩⟩)
theorem gT{x2:Sl Int}{x3:Bool}(h:U8 x2):U8 (KI x2 x3):=ff (gz (fg h))
theorem aw9(x2:Sl Int)(x3:Bool)(x4:Sl ar):(FW x2 x3 x4).n=x4.n+1:=rfl
def FO:Bool:=(bif(decide (af>0))then(!aV)else false)
def FN:Nat→Int→Sl Int→Bool→Sl ar→Sl Int×Bool×Sl ar
 |0,_,_,_,_=>default
 |k+1,af,ak,aV,bw=>(bif(FO af aV)then(FN k (i64.wrap (af-1)) (KI ak aV) (adO ak aV) (FW ak aV bw))else(ak,aV,bw))
def TG:Sl Int×Bool×Sl ar:=FN ((toNat (dI x2 x3))+1) (dI x2 x3) (cX x2 x3) (dm x2 x3) x4
def vr:Sl Int:=(TG x2 x3 x4).1
def xG:Bool:=(TG x2 x3 x4).2.1
def BC:Sl ar:=(TG x2 x3 x4).2.2
def alr:Hq:=⟨[.p 2,.fp 137 [0,1]],[(.h 0 0,kI),(.h 0 2,kI),(.h 2 0,.sl E5),(.h 2 1,kB),(.h 3 0,.ah aZ),(.h 4 0,.ah bG)],[[U,.own 3 0,U,.own 4 0],[.ptr 2 0],[U,U],[U],[U]],fun(x0:Int) (x1:Int) x2 x3 x4 x5=>let z6:=BC x2 x3 x4;⟨⟨some (U8 x2∧x4.n≤10),[],[[ae x0,.own 3 (z6).n,ae x1,.own 4 (x5).n],[.ptr 2 0],[aL 1 e5 (vr x2 x3 x4),.bool (xG x2 x3 x4)],[(Kd.ah aZ).av z6],[(Kd.ah bG).av x5]]⟩⟩⟩
theorem auS:dz 136 alr:=dE Tryz.func136
 fun(x0:Int) (x1:Int) x2 n2 x3 x4 n4 x5 n5 hp=>dy ⟨.heap,[],[(.h 0 0,kI),(.h 0 2,kI),(.h 2 0,.sl E5),(.h 2 1,kB),(.h 3 0,.ah aZ),(.h 4 0,.ah bG)],⟨[],[[U,.own 3 0,U,.own 4 0],[.ptr 2 0],[U,U],[U],[U]]⟩⟩ (.ai (.lp ⟨19,[],[],[(.t 4,kI),(.h 2 0,.sl E5),(.h 2 1,kB),(.h 3 0,.ah aZ)],some 0,false,0,[],[(.h 2 0,.sl E5),(.h 2 1,kB),(.h 3 0,.ah aZ)],fun k (s:Int×Sl Int×Bool×Sl ar)=>FN k s.1 s.2.1 s.2.2.1 s.2.2.2,.f,fun(s:Int×Sl Int×Bool×Sl ar)=>(U8 s.2.1∧0≤s.1∧s.1≤255∧(s.2.2.2.n:Int)≤(x4.n:Int)+255-s.1),fun(s:Int×Sl Int×Bool×Sl ar)=>(toNat s.1),none⟩ (.s (.j ⟨33683,[],[(.t 9,kB),(.t 15,kB)],[],.f⟩ .z .z) .z))) (((U8 (cX x2 x3)∧0≤(dI x2 x3)∧(dI x2 x3)≤255∧(x4.n:Int)≤(x4.n:Int)+255- (dI x2 x3)))∧(∀(af:Int) (ak:Sl Int) (aV:Bool) (bw:Sl ar),let z8:=FO af aV;let z6:=i64.wrap (af-1);(U8 ak∧0≤af∧af≤255∧(bw.n:Int)≤(x4.n:Int)+255-af)→((z8=true→(U8 ak∧bw.n≤1000))∧(z8=true→((U8 (KI ak aV)∧0≤z6∧z6≤255∧(((FW ak aV bw).n:Nat):Int)≤(x4.n:Int)+255-z6)∧(toNat z6)<(toNat af)))))) (bB 5 aQ (az auX (az r8 bA))) Tryz.func136 (have⟨cn,dv⟩:=hp;⟨⟨(by first|(with_reducible (repeat first|assumption|apply dx|apply ff|apply fh|apply fg|apply gD|apply gA|apply f_|apply fU|apply fV|apply gB|apply fT|apply gC|apply gy|apply gz|apply gT|apply g_|apply hO|apply ic);done)|assumption),(by have:=DX x2 x3 (by first|(with_reducible (repeat first|assumption|apply dx|apply ff|apply fh|apply fg|apply gD|apply gA|apply f_|apply fU|apply fV|apply gB|apply fT|apply gC|apply gy|apply gz|apply gT|apply g_|apply hO|apply ic);done)|assumption);omega)⟩,(fun af ak aV bw dX=>have oy:=dX.1;⟨(fun h2=>⟨(by first|(with_reducible (repeat first|assumption|apply dx|apply ff|apply fh|apply fg|apply gD|apply gA|apply f_|apply fU|apply fV|apply gB|apply fT|apply gC|apply gy|apply gz|apply gT|apply g_|apply hO|apply ic);done)|assumption),(by omega)⟩),(fun h3=>⟨⟨(by first|(with_reducible (repeat first|assumption|apply dx|apply ff|apply fh|apply fg|apply gD|apply gA|apply f_|apply fU|apply fV|apply gB|apply fT|apply gC|apply gy|apply gz|apply gT|apply g_|apply hO|apply ic);done)|assumption),(by have:=h3;(try simp [FO]at this);have:=aw9 ak aV bw;have:=aq (af-1);omega)⟩,(by have:=h3;(try simp [FO]at this);have:=aq (af-1);omega)⟩)⟩)⟩)
theorem ajX: ∀(m:Nat) (n:Int) (s:Sl Int) (b:Bool) (l:Sl ar),U8 s→U8 (FN m n s b l).1
 |0,_,_,_,_,_=>fun i=>by show(0:Int)≤0∧(0:Int)≤255;omega
 |m+1,n,s,b,l,h=>by
  rw[FN]
  cases FO n b
  ·exact h
  ·exact ajX m _ _ _ _ (gT h)
theorem g_{x2:Sl Int}{x3:Bool}{x4:Sl ar}(h:U8 x2):U8 (vr x2 x3 x4):=ajX _ _ _ _ _ (fh h)
def KK:Sl Int:=let zb:=bx (bu x2 x3) (bx x2 x3);let za:=bu (bu x2 x3) (bx x2 x3);let z8:=bx za zb;let z6:=bu za zb;let zd:=eH (cX z6 z8) (dm z6 z8);let zc:=dR (cX z6 z8) (dm z6 z8);(xI (bu zc zd) (bx zc zd))
def adV:Bool:=let zb:=bx (bu x2 x3) (bx x2 x3);let za:=bu (bu x2 x3) (bx x2 x3);let z8:=bx za zb;let z6:=bu za zb;let zd:=eH (cX z6 z8) (dm z6 z8);let zc:=dR (cX z6 z8) (dm z6 z8);(F3 (bu zc zd) (bx zc zd))
def FY:Sl aG:=let zf:=bx x2 x3;let ze:=bu x2 x3;let zb:=bx ze zf;let za:=bu ze zf;let z8:=bx za zb;let z6:=bu za zb;let zi:=dm z6 z8;let zg:=cX z6 z8;let zd:=eH zg zi;let zc:=dR zg zi;(Sl.app x5 (Sl.lit ([(⟨(fA x2 x3),(fA ze zf),(fA za zb),(dI z6 z8),(pI zg zi),(fA zc zd),(TP (bu zc zd) (bx zc zd))⟩:aG)]:List aG)))
def alA:Hq:=⟨[.p 0,.p 1],[(.h 1 0,kI),(.h 1 2,kI),(.h 2 0,.sl E5),(.h 2 1,kB),(.h 3 0,.ah aZ),(.h 4 0,.ah bG)],[[.ptr 2 0],[U,.own 3 0,U,.own 4 0],[U,U],[U],[U]],fun(x0:Int) (x1:Int) x2 x3 x4 x5=>⟨⟨some (U8 x2∧x5.n≤1000),[],[[.ptr 2 0],[ae x0,.own 3 (x4).n,ae x1,.own 4 ((FY x2 x3 x5)).n],[aL 1 e5 (KK x2 x3),.bool (adV x2 x3)],[(Kd.ah aZ).av x4],[(Kd.ah bG).av (FY x2 x3 x5)]]⟩⟩⟩
theorem auZ:dz 140 alA:=dE Tryz.func140
 fun(x0:Int) (x1:Int) x2 n2 x3 x4 n4 x5 n5 hp=>dy ⟨.heap,[],[(.h 1 0,kI),(.h 1 2,kI),(.h 2 0,.sl E5),(.h 2 1,kB),(.h 3 0,.ah aZ),(.h 4 0,.ah bG)],⟨[],[[.ptr 2 0],[U,.own 3 0,U,.own 4 0],[U,U],[U],[U]]⟩⟩ (.z) (let zb:=bx (bu x2 x3) (bx x2 x3);let za:=bu (bu x2 x3) (bx x2 x3);let z8:=dm (bu za zb) (bx za zb);let z6:=cX (bu za zb) (bx za zb);(U8 z6)∧((U8 (bu (dR z6 z8) (eH z6 z8)))∧(x5.n+1≤549755813888))) (bB 5 aQ (az wB (az zT (az r8 (az ahr bA))))) Tryz.func140 (have⟨cn,dv⟩:=hp;⟨(by first|(with_reducible (repeat first|assumption|apply dx|apply ff|apply fh|apply fg|apply gD|apply gA|apply f_|apply fU|apply fV|apply gB|apply fT|apply gC|apply gy|apply gz|apply gT|apply g_|apply hO|apply ic);done)|assumption),⟨(by first|(with_reducible (repeat first|assumption|apply dx|apply ff|apply fh|apply fg|apply gD|apply gA|apply f_|apply fU|apply fV|apply gB|apply fT|apply gC|apply gy|apply gz|apply gT|apply g_|apply hO|apply ic);done)|assumption),(by omega)⟩⟩)
theorem hO{x2:Sl Int}{x3:Bool}(h:U8 x2):U8 (KK x2 x3):=fV (ff (fg (fh (ff (ff (ff h))))))
theorem aw_(x2:Sl Int)(x3:Bool)(x5:Sl aG):(FY x2 x3 x5).n=x5.n+1:=rfl
def KH:Bool:=(bif(decide (af>0))then(!aV)else false)
def TI:Nat→Int→Sl Int→Bool→Sl aG→Sl Int×Bool×Sl aG
 |0,_,_,_,_=>default
 |k+1,af,ak,aV,bw=>(bif(KH af aV)then(TI k (i64.wrap (af-1)) (KK ak aV) (adV ak aV) (FY ak aV bw))else(ak,aV,bw))
def TJ:Sl Int×Bool×Sl aG:=TI ((toNat (dI x2 x3))+1) (dI x2 x3) (cX x2 x3) (dm x2 x3) x5
def BD:Sl Int:=(TJ x2 x3 x5).1
def BE:Bool:=(TJ x2 x3 x5).2.1
def BF:Sl aG:=(TJ x2 x3 x5).2.2
def als:Hq:=⟨[.p 2,.fp 140 [0,1]],[(.h 1 0,kI),(.h 1 2,kI),(.h 2 0,.sl E5),(.h 2 1,kB),(.h 3 0,.ah aZ),(.h 4 0,.ah bG)],[[.ptr 2 0],[U,.own 3 0,U,.own 4 0],[U,U],[U],[U]],fun(x0:Int) (x1:Int) x2 x3 x4 x5=>let z6:=BF x2 x3 x5;⟨⟨some (U8 x2∧x5.n≤10),[],[[.ptr 2 0],[ae x0,.own 3 (x4).n,ae x1,.own 4 (z6).n],[aL 1 e5 (BD x2 x3 x5),.bool (BE x2 x3 x5)],[(Kd.ah aZ).av x4],[(Kd.ah bG).av z6]]⟩⟩⟩
theorem auT:dz 136 als:=dE Tryz.func136
 fun(x0:Int) (x1:Int) x2 n2 x3 x4 n4 x5 n5 hp=>dy ⟨.heap,[],[(.h 1 0,kI),(.h 1 2,kI),(.h 2 0,.sl E5),(.h 2 1,kB),(.h 3 0,.ah aZ),(.h 4 0,.ah bG)],⟨[],[[.ptr 2 0],[U,.own 3 0,U,.own 4 0],[U,U],[U],[U]]⟩⟩ (.ai (.lp ⟨19,[],[],[(.t 4,kI),(.h 2 0,.sl E5),(.h 2 1,kB),(.h 4 0,.ah bG)],some 0,false,0,[],[(.h 2 0,.sl E5),(.h 2 1,kB),(.h 4 0,.ah bG)],fun k (s:Int×Sl Int×Bool×Sl aG)=>TI k s.1 s.2.1 s.2.2.1 s.2.2.2,.f,fun(s:Int×Sl Int×Bool×Sl aG)=>(U8 s.2.1∧0≤s.1∧s.1≤255∧(s.2.2.2.n:Int)≤(x5.n:Int)+255-s.1),fun(s:Int×Sl Int×Bool×Sl aG)=>(toNat s.1),none⟩ (.s (.j ⟨33683,[],[(.t 9,kB),(.t 15,kB)],[],.f⟩ .z .z) .z))) (((U8 (cX x2 x3)∧0≤(dI x2 x3)∧(dI x2 x3)≤255∧(x5.n:Int)≤(x5.n:Int)+255- (dI x2 x3)))∧(∀(af:Int) (ak:Sl Int) (aV:Bool) (bw:Sl aG),let z8:=KH af aV;let z6:=i64.wrap (af-1);(U8 ak∧0≤af∧af≤255∧(bw.n:Int)≤(x5.n:Int)+255-af)→((z8=true→(U8 ak∧bw.n≤1000))∧(z8=true→((U8 (KK ak aV)∧0≤z6∧z6≤255∧(((FY ak aV bw).n:Nat):Int)≤(x5.n:Int)+255-z6)∧(toNat z6)<(toNat af)))))) (bB 5 aQ (az auZ (az r8 bA))) Tryz.func136 (have⟨cn,dv⟩:=hp;⟨⟨(by first|(with_reducible (repeat first|assumption|apply dx|apply ff|apply fh|apply fg|apply gD|apply gA|apply f_|apply fU|apply fV|apply gB|apply fT|apply gC|apply gy|apply gz|apply gT|apply g_|apply hO|apply ic);done)|assumption),(by have:=DX x2 x3 (by first|(with_reducible (repeat first|assumption|apply dx|apply ff|apply fh|apply fg|apply gD|apply gA|apply f_|apply fU|apply fV|apply gB|apply fT|apply gC|apply gy|apply gz|apply gT|apply g_|apply hO|apply ic);done)|assumption);omega)⟩,(fun af ak aV bw dX=>have oy:=dX.1;⟨(fun h2=>⟨(by first|(with_reducible (repeat first|assumption|apply dx|apply ff|apply fh|apply fg|apply gD|apply gA|apply f_|apply fU|apply fV|apply gB|apply fT|apply gC|apply gy|apply gz|apply gT|apply g_|apply hO|apply ic);done)|assumption),(by omega)⟩),(fun h3=>⟨⟨(by first|(with_reducible (repeat first|assumption|apply dx|apply ff|apply fh|apply fg|apply gD|apply gA|apply f_|apply fU|apply fV|apply gB|apply fT|apply gC|apply gy|apply gz|apply gT|apply g_|apply hO|apply ic);done)|assumption),(by have:=h3;(try simp [KH]at this);have:=aw_ ak aV bw;have:=aq (af-1);omega)⟩,(by have:=h3;(try simp [KH]at this);have:=aq (af-1);omega)⟩)⟩)⟩)
end
section
variable(x0:Sl Int)
def Vj:Int:=let zb:=bx x0 false;let za:=bu x0 false;let z8:=xG za zb (al:Sl ar);let z6:=vr za zb (al:Sl ar);let zd:=bx z6 z8;let zc:=bu z6 z8;(bif(decide ((x0.n:Int)>20000))then 0 else(bif((lA true (BD zc zd (al:Sl aG)) (BE zc zd (al:Sl aG)))!=0)then 0 else(bif((gJ (fA x0 false) (BC za zb (al:Sl ar)) (fA z6 z8) (BF zc zd (al:Sl aG)))!=0)then 0 else(fA x0 false))))
def Vk:Sl ar:=let zc:=bx x0 false;let zb:=bu x0 false;let za:=BC zb zc (al:Sl ar);let z8:=xG zb zc (al:Sl ar);let z6:=vr zb zc (al:Sl ar);let ze:=bx z6 z8;let zd:=bu z6 z8;(bif(decide ((x0.n:Int)>20000))then(al:Sl ar)else(bif((lA true (BD zd ze (al:Sl aG)) (BE zd ze (al:Sl aG)))!=0)then(al:Sl ar)else(bif((gJ (fA x0 false) za (fA z6 z8) (BF zd ze (al:Sl aG)))!=0)then(al:Sl ar)else za)))
def Vl:Int:=let zb:=bx x0 false;let za:=bu x0 false;let z8:=xG za zb (al:Sl ar);let z6:=vr za zb (al:Sl ar);let zd:=bx z6 z8;let zc:=bu z6 z8;(bif(decide ((x0.n:Int)>20000))then 0 else(bif((lA true (BD zc zd (al:Sl aG)) (BE zc zd (al:Sl aG)))!=0)then 0 else(bif((gJ (fA x0 false) (BC za zb (al:Sl ar)) (fA z6 z8) (BF zc zd (al:Sl aG)))!=0)then 0 else(fA z6 z8))))
def Vm:Sl aG:=let zc:=bx x0 false;let zb:=bu x0 false;let z8:=xG zb zc (al:Sl ar);let z6:=vr zb zc (al:Sl ar);let ze:=bx z6 z8;let zd:=bu z6 z8;let za:=BF zd ze (al:Sl aG);(bif(decide ((x0.n:Int)>20000))then(al:Sl aG)else(bif((lA true (BD zd ze (al:Sl aG)) (BE zd ze (al:Sl aG)))!=0)then(al:Sl aG)else(bif((gJ (fA x0 false) (BC zb zc (al:Sl ar)) (fA z6 z8) za)!=0)then(al:Sl aG)else za)))
def agm:Int:=let zd:=bx x0 false;let zc:=bu x0 false;let z8:=xG zc zd (al:Sl ar);let z6:=vr zc zd (al:Sl ar);let zf:=bx z6 z8;let ze:=bu z6 z8;let zb:=lA true (BD ze zf (al:Sl aG)) (BE ze zf (al:Sl aG));let za:=gJ (fA x0 false) (BC zc zd (al:Sl ar)) (fA z6 z8) (BF ze zf (al:Sl aG));(bif(decide ((x0.n:Int)>20000))then 1 else(bif(zb !=0)then zb else(bif(za !=0)then za else 0)))
def F92:Fq:=⟨[.v (.sl E5)],fun x0=>⟨⟨some (U8 x0),.cU [.agg [ae (Vj x0),aL 8 gn (Vk x0),ae (Vl x0),aL 7 gP (Vm x0)],ae (agm x0)]⟩⟩⟩
theorem k92:ba 114 F92:=bf Tryz.func114
 fun x0 n0 _ hp=>bj ⟨.pure,[.cell 2 49,.tmp 3],[(.c 0 0,kI),(.c 0 1,.sl aZ),(.c 0 2,kI),(.c 0 3,.sl bG),(.t 1,kI)],⟨[.agg (us 4 []),U],[]⟩⟩ (.ai (.ai (.ai (.ai (.s (.cv [(.h 2 0,E5)]) (.s (.cv [(.h 4 1,aZ),(.h 4 3,bG)]) .z)))))) (let z6:=bu x0 false;(decide ((x0.n:Int)>20000))=false→((U8 z6∧0≤10)∧(U8 (bu (vr z6 (bx x0 false) (al:Sl ar)) (xG z6 (bx x0 false) (al:Sl ar)))∧0≤10))) (bB 0 (aH Oa (aH ahq aQ)) (az ahn (az wB (az auS (az auT bA))))) Tryz.func114 ((fun h1=>⟨⟨(by first|(with_reducible (repeat first|assumption|apply dx|apply ff|apply fh|apply fg|apply gD|apply gA|apply f_|apply fU|apply fV|apply gB|apply fT|apply gC|apply gy|apply gz|apply gT|apply g_|apply hO|apply ic);done)|assumption),(by omega)⟩,⟨(by first|(with_reducible (repeat first|assumption|apply dx|apply ff|apply fh|apply fg|apply gD|apply gA|apply f_|apply fU|apply fV|apply gB|apply fT|apply gC|apply gy|apply gz|apply gT|apply g_|apply hO|apply ic);done)|assumption),(by omega)⟩⟩))
end
section
variable(x0:Sl Int)
def fo:Bool:=(bif((x0.n:Int)==5)then((x0.at' (toNat 0))==1)else false)
def fY:Bool:=(bif(decide ((x0.n:Int)>4))then((x0.at' (toNat 0))==2)else false)
def xy:Bool:=(bif(decide ((x0.n:Int)>7))then((x0.at' (toNat 0))==3)else false)
def ade:Int:=(bif(fo x0)then 1 else(bif(fY x0)then 2 else 3))
def adf:Int:=(bif(fo x0)then(fm (Sl.part x0 1 (x0.n:Int)))else 0)
def adg:Int:=(bif(fo x0)then(i64.wrap ((i64.wrap (x0.at' (toNat 4)))-1))else 0)
def adh:Int:=(bif(fo x0)then 0 else(bif(fY x0)then(fm (Sl.part x0 1 (x0.n:Int)))else 0))
def adi:Int:=(bif(fo x0)then 0 else(bif(fY x0)then(af9 (Sl.part x0 4 (x0.n:Int)))else 0))
def adj:Int:=(bif(fo x0)then 0 else(bif(fY x0)then(af_ (Sl.part x0 4 (x0.n:Int)))else 0))
def acZ:Bool:=(bif(fo x0)then false else(bif(fY x0)then(aga (Sl.part x0 4 (x0.n:Int)))else false))
def ac0:Int:=(bif(fo x0)then 0 else(bif(fY x0)then(agb (Sl.part x0 4 (x0.n:Int)))else 0))
def ac1:Int:=(bif(fo x0)then 0 else(bif(fY x0)then(agc (Sl.part x0 4 (x0.n:Int)))else 0))
def ac2:Int:=(bif(fo x0)then 0 else(bif(fY x0)then(agd (Sl.part x0 4 (x0.n:Int)))else 0))
def ac3:ag:=(bif(fo x0)then⟨#[]⟩else(bif(fY x0)then(age (Sl.part x0 4 (x0.n:Int)))else⟨#[]⟩))
def ac4:ag:=(bif(fo x0)then⟨#[]⟩else(bif(fY x0)then(agf (Sl.part x0 4 (x0.n:Int)))else⟨#[]⟩))
def ac5:ag:=(bif(fo x0)then⟨#[]⟩else(bif(fY x0)then(agh (Sl.part x0 4 (x0.n:Int)))else⟨#[]⟩))
def ac6:Int:=(bif(fo x0)then 0 else(bif(fY x0)then(agi (Sl.part x0 4 (x0.n:Int)))else 0))
def ac7:Int:=(bif(fo x0)then 0 else(bif(fY x0)then 0 else(fm (Sl.part x0 1 (x0.n:Int)))))
def ac8:Int:=(bif(fo x0)then 0 else(bif(fY x0)then 0 else(fm (Sl.part x0 4 (x0.n:Int)))))
def ac9:Int:=(bif(fo x0)then 0 else(bif(fY x0)then 0 else(Vj (Sl.part x0 7 (x0.n:Int)))))
def ac_:Sl ar:=(bif(fo x0)then(al:Sl ar)else(bif(fY x0)then(al:Sl ar)else(Vk (Sl.part x0 7 (x0.n:Int)))))
def ada:Int:=(bif(fo x0)then 0 else(bif(fY x0)then 0 else(Vl (Sl.part x0 7 (x0.n:Int)))))
def adb:Sl aG:=(bif(fo x0)then(al:Sl aG)else(bif(fY x0)then(al:Sl aG)else(Vm (Sl.part x0 7 (x0.n:Int)))))
def apZ:Int:=(bif(fo x0)then 0 else(bif(fY x0)then(agj (Sl.part x0 4 (x0.n:Int)))else(agm (Sl.part x0 7 (x0.n:Int)))))
def jB:Bool:=(bif(fo x0)then true else(bif(fY x0)then true else(bif(xy x0)then true else false)))
def ap0:Bool:=(bif((apZ x0)==0)then((kq (ade x0) (adf x0) (adg x0) (adh x0) (adi x0) (adj x0) (acZ x0) (ac0 x0) (ac1 x0) (ac2 x0) (ac3 x0) (ac4 x0) (ac5 x0) (ac6 x0) (ac7 x0) (ac8 x0) (ac9 x0) (ac_ x0) (ada x0) (adb x0))==0)else false)
def acF:Int:=(bif(jB x0)then(ade x0)else 0)
def acG:Int:=(bif(jB x0)then(adf x0)else 0)
def acR:Int:=(bif(jB x0)then(adg x0)else 0)
def acS:Int:=(bif(jB x0)then(adh x0)else 0)
def acT:Int:=(bif(jB x0)then(adi x0)else 0)
def acU:Int:=(bif(jB x0)then(adj x0)else 0)
def acV:Bool:=(bif(jB x0)then(acZ x0)else false)
def acW:Int:=(bif(jB x0)then(ac0 x0)else 0)
def acX:Int:=(bif(jB x0)then(ac1 x0)else 0)
def acY:Int:=(bif(jB x0)then(ac2 x0)else 0)
def acH:ag:=(bif(jB x0)then(ac3 x0)else⟨#[]⟩)
def acI:ag:=(bif(jB x0)then(ac4 x0)else⟨#[]⟩)
def acJ:ag:=(bif(jB x0)then(ac5 x0)else⟨#[]⟩)
def acK:Int:=(bif(jB x0)then(ac6 x0)else 0)
def acL:Int:=(bif(jB x0)then(ac7 x0)else 0)
def acM:Int:=(bif(jB x0)then(ac8 x0)else 0)
def acN:Int:=(bif(jB x0)then(ac9 x0)else 0)
def acO:Sl ar:=(bif(jB x0)then(ac_ x0)else(al:Sl ar))
def acP:Int:=(bif(jB x0)then(ada x0)else 0)
def acQ:Sl aG:=(bif(jB x0)then(adb x0)else(al:Sl aG))
def Ti:Bool:=(bif(jB x0)then(ap0 x0)else false)
def akA:Fq:=⟨[.v (.sl E5)],fun x0=>⟨⟨some (U8 x0),.cU [.agg [ae (acF x0),ae (acG x0),ae (acR x0),ae (acS x0),ae (acT x0),ae (acU x0),.bool (acV x0),ae (acW x0),ae (acX x0),ae (acY x0),.str (acH x0),.str (acI x0),.str (acJ x0),ae (acK x0),ae (acL x0),ae (acM x0),ae (acN x0),aL 8 gn (acO x0),ae (acP x0),aL 7 gP (acQ x0)],.bool (Ti x0)]⟩⟩⟩
theorem aul:ba 110 akA:=bf Tryz.func110
 fun x0 n0 _ hp=>bj ⟨.pure,[.cell 2 166,.tmp 3],[(.c 0 0,kI),(.c 0 1,kI),(.c 0 2,kI),(.c 0 3,kI),(.c 0 4,kI),(.c 0 5,kI),(.c 0 6,kB),(.c 0 7,kI),(.c 0 8,kI),(.c 0 9,kI),(.c 0 10,kS),(.c 0 11,kS),(.c 0 12,kS),(.c 0 13,kI),(.c 0 14,kI),(.c 0 15,kI),(.c 0 16,kI),(.c 0 17,.sl aZ),(.c 0 18,kI),(.c 0 19,.sl bG),(.t 1,kB)],⟨[.agg (us 20 []),U],[]⟩⟩ (.ai (.ai (.ai (.j ⟨60,[],[(.h 1 0,kI),(.h 1 1,kI),(.h 1 2,kI),(.h 1 3,kI),(.h 1 4,kI),(.h 1 5,kI),(.h 1 6,kB),(.h 1 7,kI),(.h 1 8,kI),(.h 1 9,kI),(.h 1 10,kS),(.h 1 11,kS),(.h 1 12,kS),(.h 1 13,kI),(.h 1 14,kI),(.h 1 15,kI),(.h 1 16,kI),(.h 1 17,.sl aZ),(.h 1 18,kI),(.h 1 19,.sl bG),(.t 5,kI)],[.f,(.b .f .l),(.b .f .l),.f,.f,.f,.f,.f,.f,.f,.f,.f,.f,.f,.f,.f,.f,.f,.f,.f,.f],.f⟩ (.j ⟨189,[],[(.t 7,kB)],[],.f⟩ .z (.ai (.j ⟨67108925,[],[(.t 26,kB)],[],.f⟩ .z (.ai (.j ⟨140737488355389,[],[(.t 47,kB)],[],.f⟩ .z .z))))) (.j ⟨12,[.b 1],[(.t 3,kB)],[],.f⟩ .z .z))))) (let za:=Sl.part x0 4 (x0.n:Int);let z8:=Sl.part x0 1 (x0.n:Int);let z6:=toNat ((x0.n:Int)-1);(((x0.n:Int)==5)=true→((0:Int)≤0∧0<(x0.n:Int)))∧(((fo x0)=true→((((0:Int)≤1)∧((1:Int)≤(x0.n:Int))∧(((x0.n:Int):Int)≤(x0.n:Int))∧(((x0.n:Int):Int)≤(x0.n:Int)))∧((U8 z8∧3≤z6)∧((0:Int)≤4∧4<(x0.n:Int)))))∧((fo x0)=false→(((decide ((x0.n:Int)>4))=true→((0:Int)≤0∧0<(x0.n:Int)))∧(((fY x0)=true→(((((0:Int)≤1)∧((1:Int)≤(x0.n:Int))∧(((x0.n:Int):Int)≤(x0.n:Int))∧(((x0.n:Int):Int)≤(x0.n:Int)))∧(U8 z8∧3≤z6))∧((((0:Int)≤4)∧((4:Int)≤(x0.n:Int))∧(((x0.n:Int):Int)≤(x0.n:Int))∧(((x0.n:Int):Int)≤(x0.n:Int)))∧(U8 za))))∧((fY x0)=false→(((decide ((x0.n:Int)>7))=true→((0:Int)≤0∧0<(x0.n:Int)))∧((xy x0)=true→(((((0:Int)≤1)∧((1:Int)≤(x0.n:Int))∧(((x0.n:Int):Int)≤(x0.n:Int))∧(((x0.n:Int):Int)≤(x0.n:Int)))∧((U8 z8∧3≤z6)∧((((0:Int)≤4)∧((4:Int)≤(x0.n:Int))∧(((x0.n:Int):Int)≤(x0.n:Int))∧(((x0.n:Int):Int)≤(x0.n:Int)))∧(U8 za∧3≤(toNat ((x0.n:Int)-4))))))∧((((0:Int)≤7)∧((7:Int)≤(x0.n:Int))∧(((x0.n:Int):Int)≤(x0.n:Int))∧(((x0.n:Int):Int)≤(x0.n:Int)))∧(U8 (Sl.part x0 7 (x0.n:Int))))))))))))) (bU (aH k81 (aH k92 (aH WX (aH ahg aQ))))) Tryz.func110 (⟨(fun h1=>(by have:=eq_of_beq h1;omega)),⟨(fun h2=>⟨(by have:=h2;(try simp [fo]at this);omega),⟨⟨(by first|(with_reducible (repeat first|assumption|apply dx|apply ff|apply fh|apply fg|apply gD|apply gA|apply f_|apply fU|apply fV|apply gB|apply fT|apply gC|apply gy|apply gz|apply gT|apply g_|apply hO|apply ic|apply mP|apply lO|apply jt);done)|assumption),(by have:=h2;(try simp [fo]at this);omega)⟩,(by have:=h2;(try simp [fo]at this);omega)⟩⟩),(fun h3=>⟨(fun h4=>(by have:=h3;simp [fo]at this;have:=ay h4;omega)),⟨(fun h5=>⟨⟨(by have:=h3;simp [fo]at this;have:=h5;(try simp [fY]at this);omega),⟨(by first|(with_reducible (repeat first|assumption|apply dx|apply ff|apply fh|apply fg|apply gD|apply gA|apply f_|apply fU|apply fV|apply gB|apply fT|apply gC|apply gy|apply gz|apply gT|apply g_|apply hO|apply ic|apply mP|apply lO|apply jt);done)|assumption),(by have:=h3;simp [fo]at this;have:=h5;(try simp [fY]at this);omega)⟩⟩,⟨(by have:=h3;simp [fo]at this;have:=h5;(try simp [fY]at this);omega),(by first|(with_reducible (repeat first|assumption|apply dx|apply ff|apply fh|apply fg|apply gD|apply gA|apply f_|apply fU|apply fV|apply gB|apply fT|apply gC|apply gy|apply gz|apply gT|apply g_|apply hO|apply ic|apply mP|apply lO|apply jt);done)|assumption)⟩⟩),(fun h6=>⟨(fun h7=>(by have:=h3;simp [fo]at this;have:=h6;simp [fY]at this;have:=ay h7;omega)),(fun h8=>⟨⟨(by have:=h3;simp [fo]at this;have:=h6;simp [fY]at this;have:=h8;(try simp [xy]at this);omega),⟨⟨(by first|(with_reducible (repeat first|assumption|apply dx|apply ff|apply fh|apply fg|apply gD|apply gA|apply f_|apply fU|apply fV|apply gB|apply fT|apply gC|apply gy|apply gz|apply gT|apply g_|apply hO|apply ic|apply mP|apply lO|apply jt);done)|assumption),(by have:=h3;simp [fo]at this;have:=h6;simp [fY]at this;have:=h8;(try simp [xy]at this);omega)⟩,⟨(by have:=h3;simp [fo]at this;have:=h6;simp [fY]at this;have:=h8;(try simp [xy]at this);omega),⟨(by first|(with_reducible (repeat first|assumption|apply dx|apply ff|apply fh|apply fg|apply gD|apply gA|apply f_|apply fU|apply fV|apply gB|apply fT|apply gC|apply gy|apply gz|apply gT|apply g_|apply hO|apply ic|apply mP|apply lO|apply jt);done)|assumption),(by have:=h3;simp [fo]at this;have:=h6;simp [fY]at this;have:=h8;(try simp [xy]at this);omega)⟩⟩⟩⟩,⟨(by have:=h3;simp [fo]at this;have:=h6;simp [fY]at this;have:=h8;(try simp [xy]at this);omega),(by first|(with_reducible (repeat first|assumption|apply dx|apply ff|apply fh|apply fg|apply gD|apply gA|apply f_|apply fU|apply fV|apply gB|apply fT|apply gC|apply gy|apply gz|apply gT|apply g_|apply hO|apply ic|apply mP|apply lO|apply jt);done)|assumption)⟩⟩)⟩)⟩⟩)⟩⟩)
end
section
def Fy(x0:Sl Int)(x1:Int):Nat→Int→Sl cj→Int×Sl cj
 |0,_,_=>default
 |k+1,aB,cu=>(bif(decide ((i64.wrap (aB+3))≤((bn x0 x1).n:Int)))then(bif(decide ((i64.wrap ((i64.wrap (aB+3))+(fm (Sl.part (bn x0 x1) aB (((bn x0 x1).n:Nat):Int)))))>((bn x0 x1).n:Int)))then(aB,cu)else(bif(!(Ti (Sl.part (bn x0 x1) (i64.wrap (aB+3)) (i64.wrap ((i64.wrap (aB+3))+(fm (Sl.part (bn x0 x1) aB (((bn x0 x1).n:Nat):Int))))))))then(aB,cu)else(Fy x0 x1 k (i64.wrap (aB+(i64.wrap (3+(fm (Sl.part (bn x0 x1) aB (((bn x0 x1).n:Nat):Int))))))) (Sl.app cu (Sl.lit ([(⟨(acF (Sl.part (bn x0 x1) (i64.wrap (aB+3)) (i64.wrap ((i64.wrap (aB+3))+(fm (Sl.part (bn x0 x1) aB (((bn x0 x1).n:Nat):Int))))))),(acG (Sl.part (bn x0 x1) (i64.wrap (aB+3)) (i64.wrap ((i64.wrap (aB+3))+(fm (Sl.part (bn x0 x1) aB (((bn x0 x1).n:Nat):Int))))))),(acR (Sl.part (bn x0 x1) (i64.wrap (aB+3)) (i64.wrap ((i64.wrap (aB+3))+(fm (Sl.part (bn x0 x1) aB (((bn x0 x1).n:Nat):Int))))))),(acS (Sl.part (bn x0 x1) (i64.wrap (aB+3)) (i64.wrap ((i64.wrap (aB+3))+(fm (Sl.part (bn x0 x1) aB (((bn x0 x1).n:Nat):Int))))))),(acT (Sl.part (bn x0 x1) (i64.wrap (aB+3)) (i64.wrap ((i64.wrap (aB+3))+(fm (Sl.part (bn x0 x1) aB (((bn x0 x1).n:Nat):Int))))))),(acU (Sl.part (bn x0 x1) (i64.wrap (aB+3)) (i64.wrap ((i64.wrap (aB+3))+(fm (Sl.part (bn x0 x1) aB (((bn x0 x1).n:Nat):Int))))))),(acV (Sl.part (bn x0 x1) (i64.wrap (aB+3)) (i64.wrap ((i64.wrap (aB+3))+(fm (Sl.part (bn x0 x1) aB (((bn x0 x1).n:Nat):Int))))))),(acW (Sl.part (bn x0 x1) (i64.wrap (aB+3)) (i64.wrap ((i64.wrap (aB+3))+(fm (Sl.part (bn x0 x1) aB (((bn x0 x1).n:Nat):Int))))))),(acX (Sl.part (bn x0 x1) (i64.wrap (aB+3)) (i64.wrap ((i64.wrap (aB+3))+(fm (Sl.part (bn x0 x1) aB (((bn x0 x1).n:Nat):Int))))))),(acY (Sl.part (bn x0 x1) (i64.wrap (aB+3)) (i64.wrap ((i64.wrap (aB+3))+(fm (Sl.part (bn x0 x1) aB (((bn x0 x1).n:Nat):Int))))))),(acH (Sl.part (bn x0 x1) (i64.wrap (aB+3)) (i64.wrap ((i64.wrap (aB+3))+(fm (Sl.part (bn x0 x1) aB (((bn x0 x1).n:Nat):Int))))))),(acI (Sl.part (bn x0 x1) (i64.wrap (aB+3)) (i64.wrap ((i64.wrap (aB+3))+(fm (Sl.part (bn x0 x1) aB (((bn x0 x1).n:Nat):Int))))))),(acJ (Sl.part (bn x0 x1) (i64.wrap (aB+3)) (i64.wrap ((i64.wrap (aB+3))+(fm (Sl.part (bn x0 x1) aB (((bn x0 x1).n:Nat):Int))))))),(acK (Sl.part (bn x0 x1) (i64.wrap (aB+3)) (i64.wrap ((i64.wrap (aB+3))+(fm (Sl.part (bn x0 x1) aB (((bn x0 x1).n:Nat):Int))))))),(acL (Sl.part (bn x0 x1) (i64.wrap (aB+3)) (i64.wrap ((i64.wrap (aB+3))+(fm (Sl.part (bn x0 x1) aB (((bn x0 x1).n:Nat):Int))))))),(acM (Sl.part (bn x0 x1) (i64.wrap (aB+3)) (i64.wrap ((i64.wrap (aB+3))+(fm (Sl.part (bn x0 x1) aB (((bn x0 x1).n:Nat):Int))))))),(acN (Sl.part (bn x0 x1) (i64.wrap (aB+3)) (i64.wrap ((i64.wrap (aB+3))+(fm (Sl.part (bn x0 x1) aB (((bn x0 x1).n:Nat):Int))))))),(acO (Sl.part (bn x0 x1) (i64.wrap (aB+3)) (i64.wrap ((i64.wrap (aB+3))+(fm (Sl.part (bn x0 x1) aB (((bn x0 x1).n:Nat):Int))))))),(acP (Sl.part (bn x0 x1) (i64.wrap (aB+3)) (i64.wrap ((i64.wrap (aB+3))+(fm (Sl.part (bn x0 x1) aB (((bn x0 x1).n:Nat):Int))))))),(acQ (Sl.part (bn x0 x1) (i64.wrap (aB+3)) (i64.wrap ((i64.wrap (aB+3))+(fm (Sl.part (bn x0 x1) aB (((bn x0 x1).n:Nat):Int)))))))⟩:cj)]:List cj))))))else(aB,cu))
variable(x0:Sl Int)(x1:Int)
def Bk:Int×Sl cj:=Fy x0 x1 ((toNat (((bn x0 x1).n:Int)-0))+1) 0 (al:Sl cj)
def Fw:Sl cj:=(bif(!(iB x0 x1))then(al:Sl cj)else(Bk x0 x1).2)
def Ko:Sl Int:=(bif(!(iB x0 x1))then(al:Sl Int)else(Sl.part (bn x0 x1) 0 (Bk x0 x1).1))
def acq:Int:=(bif(!(iB x0 x1))then 0 else(gM (lZ x0 x1) (Bk x0 x1).1))
def apG:Int:=(bif(!(iB x0 x1))then 13 else 0)
def akv:Fq:=⟨[.g [.sl E5,kI]],fun x0 (x1:Int)=>⟨⟨some (U8 x0),.cU [aL 20 Ss (Fw x0 x1),.agg [aL 1 e5 (Ko x0 x1),ae (acq x0 x1)],ae (apG x0 x1)]⟩⟩⟩
theorem auh:ba 98 akv:=bf Tryz.func98
 fun x0 n0 _ (x1:Int) hp=>bj ⟨.pure,[.tmp 2,.cell 3 85,.tmp 4],[(.t 0,.sl AE),(.c 1 0,.sl E5),(.c 1 1,kI),(.t 2,kI)],⟨[U,.agg (us 2 []),U],[]⟩⟩ (.ai (.ai (.ai (.ai (.ai (.j ⟨444,[],[],[],.f⟩ (.lp ⟨444,[.b 0],[(.t 7,AE)],[(.t 8,kI),(.h 3 0,.ah AE)],some 0,false,444,[],[(.t 8,kI),(.h 3 0,.ah AE)],fun k (s:Int×Sl cj)=>Fy x0 x1 k s.1 s.2,.f,fun(s:Int×Sl cj)=>(0≤s.1∧s.1≤((bn x0 x1).n:Int)∧(s.2.n:Int)≤s.1),fun(s:Int×Sl cj)=>(toNat (((bn x0 x1).n:Int)-s.1)),some fun(r:Int×Sl cj)=>(0≤r.1∧r.1≤((bn x0 x1).n:Int)∧(r.2.n:Int)≤400000)⟩ .z) .z)))))) (let zc:=Bk x0 x1;let z8:=bn x0 x1;(!(iB x0 x1))=false→((((0≤(0:Int)∧(0:Int)≤(z8.n:Int)∧((0:Nat):Int)≤(0:Int)))∧(∀(aB:Int) (cu:Sl cj),let zd:=Sl.part z8 aB (z8.n:Int);let zb:=i64.wrap (aB+3);let ze:=decide (zb≤(z8.n:Int));let za:=i64.wrap (aB+(i64.wrap (3+(fm zd))));let z6:=i64.wrap (zb+(fm zd));let zg:=Ti (Sl.part z8 zb z6);let zf:=decide (z6>(z8.n:Int));(0≤aB∧aB≤(z8.n:Int)∧(cu.n:Int)≤aB)→((ze=true→(((((0:Int)≤aB)∧((aB:Int)≤(z8.n:Int))∧(((z8.n:Int):Int)≤(z8.n:Int))∧(((z8.n:Int):Int)≤(z8.n:Int)))∧(U8 zd∧3≤(toNat ((z8.n:Int)-aB))))∧(zf=false→(((((0:Int)≤zb)∧((zb:Int)≤z6)∧((z6:Int)≤z6)∧((z6:Int)≤(z8.n:Int)))∧(U8 (Sl.part z8 zb z6)))∧((!zg)=false→(cu.n+1≤549755813888))))))∧((ze=true→((zf=true→((0≤aB∧aB≤(z8.n:Int)∧(cu.n:Int)≤400000)))∧(zf=false→(((!zg)=true→((0≤aB∧aB≤(z8.n:Int)∧(cu.n:Int)≤400000)))∧((!zg)=false→((0≤za∧za≤(z8.n:Int)∧(((cu.n+1):Nat):Int)≤za)∧(toNat ((z8.n:Int)-za))<(toNat ((z8.n:Int)-aB))))))))∧(ze=false→((0≤aB∧aB≤(z8.n:Int)∧(cu.n:Int)≤400000)))))))∧(((0≤zc.1∧zc.1≤(z8.n:Int)∧(zc.2.n:Int)≤400000))→(((0:Int)≤0)∧((0:Int)≤zc.1)∧((zc.1:Int)≤zc.1)∧((zc.1:Int)≤(z8.n:Int)))))) (bU (aH N0 (aH ahg (aH aul aQ)))) Tryz.func98 ((fun h1=>⟨⟨(by omega),(fun aB cu jk=>⟨(fun h3=>⟨⟨(by omega),⟨(by first|(with_reducible (repeat first|assumption|apply dx|apply ff|apply fh|apply fg|apply gD|apply gA|apply f_|apply fU|apply fV|apply gB|apply fT|apply gC|apply gy|apply gz|apply gT|apply g_|apply hO|apply ic|apply mP|apply lO|apply jt);done)|assumption),(by have:=rF _ _ (by simpa using h1);have:=lp3 h3 (by omega) (by omega);omega)⟩⟩,(fun h4=>⟨⟨(by have:=rF _ _ (by simpa using h1);have:=lp4 h4 (by omega) (by omega);have:=ai4 (Sl.part (bn x0 x1) aB (((bn x0 x1).n:Nat):Int)) (by first|(with_reducible (repeat first|assumption|apply dx|apply ff|apply fh|apply fg|apply gD|apply gA|apply f_|apply fU|apply fV|apply gB|apply fT|apply gC|apply gy|apply gz|apply gT|apply g_|apply hO|apply ic|apply mP|apply lO|apply jt);done)|assumption);have:=aq (aB+3);have:=aq ((i64.wrap (aB+3))+(fm (Sl.part (bn x0 x1) aB (((bn x0 x1).n:Nat):Int))));omega),(by first|(with_reducible (repeat first|assumption|apply dx|apply ff|apply fh|apply fg|apply gD|apply gA|apply f_|apply fU|apply fV|apply gB|apply fT|apply gC|apply gy|apply gz|apply gT|apply g_|apply hO|apply ic|apply mP|apply lO|apply jt);done)|assumption)⟩,(fun h5=>(by have:=rF _ _ (by simpa using h1);omega))⟩)⟩),⟨(fun h6=>⟨(fun h7=>(by have:=rF _ _ (by simpa using h1);omega)),(fun h8=>⟨(fun h9=>(by have:=rF _ _ (by simpa using h1);omega)),(fun dJ=>(by have:=rF _ _ (by simpa using h1);have:=lp4 h8 (by omega) (by omega);have:=ai4 (Sl.part (bn x0 x1) aB (((bn x0 x1).n:Nat):Int)) (by first|(with_reducible (repeat first|assumption|apply dx|apply ff|apply fh|apply fg|apply gD|apply gA|apply f_|apply fU|apply fV|apply gB|apply fT|apply gC|apply gy|apply gz|apply gT|apply g_|apply hO|apply ic|apply mP|apply lO|apply jt);done)|assumption);have:=aq (3+(fm (Sl.part (bn x0 x1) aB (((bn x0 x1).n:Nat):Int))));have:=aq (aB+(i64.wrap (3+(fm (Sl.part (bn x0 x1) aB (((bn x0 x1).n:Nat):Int))))));omega))⟩)⟩),(fun jH=>(by have:=rF _ _ (by simpa using h1);omega))⟩⟩)⟩,(fun asJ=>(by omega))⟩))
end
def NZ(e:aM):Int:=tP e.c0 e.c1 e.c2 e.c3 e.c4 e.c5 e.c6 e.c7 e.c8 e.c9
structure LV (b t:Int) (s:Sl aM):Prop where
 b0:0≤b∧b≤1048576
 t0:0≤t∧t≤1048576
 z:b=0↔t=0
 n:s.n≤200
 top:b+(s.n:Int)≤1048576
 ok: ∀i,i<s.n→NZ (s.at' i)=0∧t≤(s.at' i).c0
 D2: ∀i,i+1<s.n→(s.at' i).c0≤(s.at' (i+1)).c0∧(s.at' i).c1≤(s.at' (i+1)).c1
theorem axA{b t:Int}{s:Sl aM}(h:vP b t s=0):LV b t s:=by
 have hc:=aod b t s h;obtain⟨hb,ht,hn,NI⟩:=hc;unfold vP at h;obtain⟨m1,h⟩:=bz h (by decide);have hl:CJ t s=scan (fun i=>nf t s i||oh s i) (fun _=>13) s.n 0:=qA (tR t s) s.n _ _ (by omega) fun k i=>by
  show(bif decide (i<(s.n:Int))then(bif(nf t s i)then(true,13)else(bif(oh s i)then(true,13)else tR t s k (i64.wrap (i+1))))else(false,default))=_;rw[EM]
 unfold MC at h;rw[J3 hl]at h;obtain⟨hh,_⟩:=bz h (by decide);have q: ∀i,i<s.n→nf t s (i:Int)=false∧oh s (i:Int)=false:=fun i hi=>by
  have:=ud hh i hi;simpa only[aD7]using this
 refine⟨hb,ht,?_,hn,NI,fun i hi=> ?_,fun i hi=> ?_⟩
 ·unfold vQ at m1;obtain⟨_,m1⟩:=bt m1;obtain⟨_,m1⟩:=bt m1;obtain⟨m1,_⟩:=bt m1;have m1:((b==0)==(t==0))=true:=by simpa using m1
  have e:(b==0)=(t==0):=eq_of_beq m1;constructor
  ·intro wc;rw[wc]at e;have e:(t==0)=true:=e.symm;exact eq_of_beq e
  ·intro ht0;rw[ht0]at e;have e:(b==0)=true:=e;exact eq_of_beq e
 ·have q1:=(q i hi).1;unfold nf at q1;rw[aCZ]at q1;obtain⟨a,c⟩:=bt q1;have c:=df c;exact⟨bE a,by omega⟩
 ·have q2:=(q (i+1) hi).2;unfold oh at q2;rw[cx (show((i+1:Nat):Int)>0 by omega),aCZ,show i64.wrap (((i+1:Nat):Int)-1)=(i:Int) by rw[aq _];omega,aCZ]at q2;obtain⟨a,c⟩:=bt q2;have a:=df a;have c:=df c;exact⟨by omega,by omega⟩
theorem axC{b t:Int}{s:Sl aM}(h:LV b t s):vP b t s=0:=by
 have hn:=h.n;have NI:=h.top;obtain⟨b0,b1⟩:=h.b0;obtain⟨t0,t1⟩:=h.t0;have m1:vQ b t s=false:=by
  unfold vQ;rw[tq,tq,cx (show b≥0 from b0),cx b1,cx (show t≥0 from t0),cx t1,cq (show¬(s.n:Int)>200 by omega),aq _,cq (show¬b+(s.n:Int)>1048576 by omega)];have e:((b==0)==(t==0))=true:=by
   by_cases hb:b=0
   ·have ht:=h.z.1 hb;subst hb;subst ht;rfl
   ·have ht:t≠0:=fun e=>hb (h.z.2 e);rw[aDA.2 hb,aDA.2 ht];rfl
  rw[e];rfl
 have hl:CJ t s=scan (fun i=>nf t s i||oh s i) (fun _=>13) s.n 0:=qA (tR t s) s.n _ _ (by omega) fun k i=>by
  show(bif decide (i<(s.n:Int))then(bif(nf t s i)then(true,13)else(bif(oh s i)then(true,13)else tR t s k (i64.wrap (i+1))))else(false,default))=_;rw[EM]
 have hc:CJ t s=(false,default):=by
  rw[hl];refine ajD s.n 0 fun j h1 h2=> ?_;obtain⟨i,rfl⟩:=aEm h1;have hi:i<s.n:=by omega
  obtain⟨o1,o2⟩:=h.ok i hi;show(nf t s (i:Int)||oh s (i:Int))=false;have e3:nf t s (i:Int)=false:=by
   unfold nf;rw[aCZ];unfold NZ at o1;rw[o1];show decide _=false;exact cq (by omega)
  have e5:oh s (i:Int)=false:=by
   unfold oh
   by_cases hp:i=0
   ·subst hp;rfl
   ·obtain⟨k,rfl⟩: ∃k,i=k+1:=⟨i-1,by omega⟩;obtain⟨r1,r2⟩:=h.D2 k hi;rw[cx (show((k+1:Nat):Int)>0 by omega),aCZ,show i64.wrap (((k+1:Nat):Int)-1)=(k:Int) by rw[aq _];omega,aCZ,cq (by omega),cq (by omega)];rfl
  rw[e3,e5];rfl
 unfold vP MC;rw[m1,hc];rfl
theorem axz{b t:Int}{s:Sl aM}(h:cK b t s=0):LV b t s:=by
 have hc:=fx b t s h;rw[af4 b t s (by omega) (by omega)]at h;exact axA h
theorem Xy{b t:Int}{s:Sl aM}(h:LV b t s):cK b t s=0:=by
 have:=h.n;have:=h.b0;rw[af4 b t s (by omega) (by omega)];exact axC h
theorem axD{b t:Int}{s:Sl aM}(h:LV b t s){p:Int}(h1:b≤p)(h2:p≤b+(s.n:Int))(h3:1≤p):LV p (qX b t s p) (Sl.part s (i64.wrap (p-b)) (s.n:Int)):=by
 have hn:=h.n;have hb:=h.b0;have ht:=h.t0;have NI:=h.top;have w:i64.wrap (p-b)=p-b:=aq _;rw[w];obtain⟨k,hk⟩: ∃k:Nat,p-b=(k:Int):=⟨(p-b).toNat,by omega⟩;have hpn:(Sl.part s (p-b) (s.n:Int)).n=s.n-k:=by
  rw[Sl.An,hk];omega
 have pS: ∀i,(Sl.part s (p-b) (s.n:Int)).at' i=s.at' (k+i):=fun i=>by
  show s.at' (toNat (p-b)+i)=_;rw[hk,aCZ]
 have e:qX b t s p=if k=0 then t else(s.at' (k-1)).c0:=by
  unfold qX;rw[cq (show¬p<b by omega)]
  by_cases h0:k=0
  ·rw[show p=b by omega,aCL h0];simp
  ·rw[aDA.2 (show p≠b by omega),w,cq (show¬p-b>(s.n:Int) by omega),aCM h0,aq _,show toNat (p-b-1)=k-1 by omega];rfl
 have tk:0<k→t≤(s.at' (k-1)).c0:=fun h0=>(h.ok (k-1) (by omega)).2;have i52: ∀x:aM,NZ x=0→1≤x.c0∧x.c0≤1048576:=fun x hx=>by
  unfold NZ tP at hx;obtain⟨a,_⟩:=bz hx (by decide);unfold yI at a;obtain⟨a,_⟩:=bt a;have a:tu x.c0=true:=by simpa using a
  unfold tu at a;rw[tq,aCN]at a;exact⟨ay a.1,ay a.2⟩
 have tr:0≤qX b t s p∧qX b t s p≤1048576∧1≤qX b t s p:=by
  rw[e]
  by_cases h0:k=0
  ·rw[aCL h0];have:t≠0:=fun e=>by have:=h.z.2 e;omega
   omega
  ·rw[aCM h0];have:=i52 _ (h.ok (k-1) (by omega)).1;omega
 refine⟨by omega,⟨tr.1,tr.2.1⟩,⟨fun e=>by omega,fun e=>by omega⟩,by omega,by omega,fun i hi=> ?_,fun i hi=> ?_⟩
 ·rw[pS];refine⟨(h.ok (k+i) (by omega)).1,?_⟩;rw[e]
  by_cases h0:k=0
  ·rw[aCL h0];exact(h.ok (k+i) (by omega)).2
  ·rw[aCM h0];have key: ∀j,k-1+j<s.n→(s.at' (k-1)).c0≤(s.at' (k-1+j)).c0:=by
    intro j
    induction j with
    |zero=>intro _;exact aCT _
    |succ j ih=>
     intro hj;have:=ih (by omega);have r:=(h.D2 (k-1+j) (by omega)).1;rw[show k-1+(j+1)=k-1+j+1 by omega];omega
   have:=key (i+1) (by omega);rwa [show k-1+(i+1)=k+i by omega]at this
 ·rw[pS,pS,show k+(i+1)=k+i+1 by omega];exact h.D2 (k+i) (by omega)
theorem axB{b t:Int}{s:Sl aM}(h:LV b t s){p u:Int}(hp:1≤p∧p≤1048576)(hu:1≤u∧u≤1048576):LV (vt b t s p u) (F4 b t s p u) (xJ b t s p u):=by
 have hn:=h.n;have hb:=h.b0;have NI:=h.top;unfold vt F4 xJ
 cases m:qY b t s p u with
 |false=>
  exact⟨by simp only[aCI];omega,by simp only[aCI];omega,⟨fun e=>by simp only[aCI]at e;omega,fun e=>by simp only[aCI]at e;omega⟩,aCQ _,by show p+0≤_;omega,fun i hi=>absurd hi (fC i),fun i hi=>absurd hi (fC _)⟩
 |true=>
  simp only[aCJ];unfold qY at m;have z:=Xy h
  cases c:(yK b t s p==0)with
  |false=>rw[c]at m;cases m
  |true=>
   have c:=eq_of_beq c;unfold yK at c;rw[z]at c;have c:(bif CM p then 2 else jD b s p)=0:=c;obtain⟨_,c⟩:=bz c (by decide);have hr:b≤p∧p≤b+(s.n:Int):=by
    unfold jD at c;obtain⟨c1,c⟩:=bz c (by decide);have c1:=df c1
    by_cases hpb:p=b
    ·omega
    ·rw[aDA.2 hpb]at c;simp only[aCI]at c;obtain⟨c2,_⟩:=bz c (by decide);rw[aq _]at c2;have c2:=df c2;omega
   unfold tS MD vS;rw[z,c];exact axD h hr.1 hr.2 hp.1
def GL(b t:Int)(s:Sl aM):Prop:=cK b t s=0
theorem YJ{s:Sl cj}{i:Nat}(h:(kq (s.at' i).c0 (s.at' i).c1 (s.at' i).c2 (s.at' i).c3 (s.at' i).c4 (s.at' i).c5 (s.at' i).c6 (s.at' i).c7 (s.at' i).c8 (s.at' i).c9 (s.at' i).cF (s.at' i).cS (s.at' i).cD (s.at' i).di (s.at' i).bO (s.at' i).gG (s.at' i).lj (s.at' i).j9 (s.at' i).lk (s.at' i).j_ !=0)=false):
  ((s.at' i).c0=3∧(1≤(s.at' i).bO∧(s.at' i).bO≤1048576)∧(1≤(s.at' i).gG∧(s.at' i).gG≤1048576))∨((s.at' i).c0=2∧(1≤(s.at' i).c3∧(s.at' i).c3≤1048576))∨(s.at' i).c0=1:=by
 rcases YL (bE h)with⟨e,_⟩|⟨e,q,_⟩|⟨e,q,r,_⟩
 ·exact .inr (.inr e)
 ·exact .inr (.inl ⟨e,q⟩)
 ·exact .inl ⟨e,q,r⟩
section
variable(x0:Int)(x1:Int)(x2:Sl aM)(x3:Int)(x4:Int)(x5:Int)(x6:Bool)(x7:Int)(x8:Int)(x9:Int)(au:ag)(a_:ag)(bF:ag)(bL:Int)
def Kr:Int:=x0
def Ks:Int:=x1
def FC:Sl aM:=(bif(decide (x3≤x0))then x2 else(bif(decide (x3>(i64.wrap ((l8 x0 x1 x2)+1))))then x2 else(bif((cK x0 x1 (Sl.app (Sl.part x2 0 (i64.wrap ((i64.wrap (x3-x0))-1))) (Sl.lit ([(⟨x4,x5,x6,x7,x8,x9,au,a_,bF,bL⟩:aM)]:List aM))))!=0)then x2 else(Sl.app (Sl.part x2 0 (i64.wrap ((i64.wrap (x3-x0))-1))) (Sl.lit ([(⟨x4,x5,x6,x7,x8,x9,au,a_,bF,bL⟩:aM)]:List aM))))))
def Tj:Int:=(bif(decide (x3≤x0))then 0 else(bif(decide (x3>(i64.wrap ((l8 x0 x1 x2)+1))))then 10 else(bif((cK x0 x1 (Sl.app (Sl.part x2 0 (i64.wrap ((i64.wrap (x3-x0))-1))) (Sl.lit ([(⟨x4,x5,x6,x7,x8,x9,au,a_,bF,bL⟩:aM)]:List aM))))!=0)then 10 else 0)))
theorem l58(x0 x1:Int)(x2:Sl aM)(h:GL x0 x1 x2):l8 x0 x1 x2=x0+(x2.n:Int):=by
 have hc:=fx x0 x1 x2 h;unfold GL at h;unfold l8 qW;rw[h];show(bif decide ((x2.n:Int)>0)then _ else x0)=_
 by_cases e:(x2.n:Int)>0
 ·rw[cx e];simp only[aCJ];exact aq _
 ·rw[cq e];simp only[aCI];omega
def akB:Fq:=⟨[.g [kI,kI,.sl cZ],.v kI,.g [kI,kI,kB,kI,kI,kI,kS,kS,kS,kI]],fun(x0:Int) (x1:Int) x2 (x3:Int) (x4:Int) (x5:Int) x6 (x7:Int) (x8:Int) (x9:Int) au a_ bF (bL:Int)=>⟨⟨some (GL x0 x1 x2),.cU [.agg [ae (Kr x0),ae (Ks x1),aL 10 dH (FC x0 x1 x2 x3 x4 x5 x6 x7 x8 x9 au a_ bF bL)],ae (Tj x0 x1 x2 x3 x4 x5 x6 x7 x8 x9 au a_ bF bL)]⟩⟩⟩
theorem aum:ba 112 akB:=bf Tryz.func112
 fun(x0:Int) (x1:Int) x2 n2 _ (x3:Int) (x4:Int) (x5:Int) x6 (x7:Int) (x8:Int) (x9:Int) au oC a_ IH bF dL (bL:Int) hp=>bj (ms:=[.l,.l,.f,.f]) ⟨.pure,[.cell 6 43,.tmp 7],[(.c 0 0,kI),(.c 0 1,kI),(.c 0 2,.sl cZ),(.t 1,kI)],⟨[.agg (us 3 []),U],[]⟩⟩ (.z) (let z6:=i64.wrap ((i64.wrap (x3-x0))-1);(decide (x3≤x0))=false→((decide (x3>(i64.wrap ((l8 x0 x1 x2)+1))))=false→((((0:Int)≤0)∧((0:Int)≤z6)∧((z6:Int)≤z6)∧((z6:Int)≤(x2.n:Int)))∧((toNat (z6-0))+1≤549755813888)))) (bU (aH wC (aH k58 (aH Dz aQ)))) Tryz.func112 ((fun h1=>(fun h2=>⟨(by have:=iw h1;have:=iw h2;have:=fx x0 x1 x2 hp;have:=l58 x0 x1 x2 hp;have:=aq (l8 x0 x1 x2+1);have:=aq (x3-x0);have:=aq ((i64.wrap (x3-x0))-1);omega),(by have:=iw h1;have:=iw h2;have:=fx x0 x1 x2 hp;have:=l58 x0 x1 x2 hp;have:=aq (l8 x0 x1 x2+1);have:=aq (x3-x0);have:=aq ((i64.wrap (x3-x0))-1);omega)⟩)))
end
section
variable(x0:Sl cj)(af:Int)(bw:Int)(iL:Int)(iK:Int)(jd:Sl aM)
def apI(ak:Int):Int:=(bif((x0.at' (toNat af)).c0==1)then(x0.at' (toNat af)).c1 else ak)
def apJ(aV:Int):Int:=(bif((x0.at' (toNat af)).c0==1)then(x0.at' (toNat af)).c2 else aV)
def Tb:Int:=(bif((x0.at' (toNat af)).c0==1)then bw else(bif((x0.at' (toNat af)).c0==2)then bw else(bif((x0.at' (toNat af)).c0==3)then(bif(decide ((x0.at' (toNat af)).bO>bw))then(x0.at' (toNat af)).bO else bw)else bw)))
def apK(cE:Int):Int:=let z6:=x0.at' (toNat af);(bif(z6.c0==1)then cE else(bif(z6.c0==2)then cE else(bif(z6.c0==3)then(bif(decide (z6.bO>bw))then z6.gG else cE)else cE)))
def apL(iu:Int):Int:=let z6:=x0.at' (toNat af);(bif(z6.c0==1)then iu else(bif(z6.c0==2)then iu else(bif(z6.c0==3)then(bif(decide (z6.bO>bw))then z6.lj else iu)else iu)))
def apM(uY:Sl ar):Sl ar:=let z6:=x0.at' (toNat af);(bif(z6.c0==1)then uY else(bif(z6.c0==2)then uY else(bif(z6.c0==3)then(bif(decide (z6.bO>bw))then z6.j9 else uY)else uY)))
def apN(uZ:Int):Int:=let z6:=x0.at' (toNat af);(bif(z6.c0==1)then uZ else(bif(z6.c0==2)then uZ else(bif(z6.c0==3)then(bif(decide (z6.bO>bw))then z6.lk else uZ)else uZ)))
def apO(u2:Sl aG):Sl aG:=let z6:=x0.at' (toNat af);(bif(z6.c0==1)then u2 else(bif(z6.c0==2)then u2 else(bif(z6.c0==3)then(bif(decide (z6.bO>bw))then z6.j_ else u2)else u2)))
def Bo:Int:=(bif((x0.at' (toNat af)).c0==1)then iL else(bif((x0.at' (toNat af)).c0==2)then(Kr iL)else(bif((x0.at' (toNat af)).c0==3)then(bif(decide ((x0.at' (toNat af)).bO>bw))then(vt iL iK jd (x0.at' (toNat af)).bO (x0.at' (toNat af)).gG)else iL)else iL)))
def Kp:Int:=(bif((x0.at' (toNat af)).c0==1)then iK else(bif((x0.at' (toNat af)).c0==2)then(Ks iK)else(bif((x0.at' (toNat af)).c0==3)then(bif(decide ((x0.at' (toNat af)).bO>bw))then(F4 iL iK jd (x0.at' (toNat af)).bO (x0.at' (toNat af)).gG)else iK)else iK)))
def Bn:Sl aM:=(bif((x0.at' (toNat af)).c0==1)then jd else(bif((x0.at' (toNat af)).c0==2)then(FC iL iK jd (x0.at' (toNat af)).c3 (x0.at' (toNat af)).c4 (x0.at' (toNat af)).c5 (x0.at' (toNat af)).c6 (x0.at' (toNat af)).c7 (x0.at' (toNat af)).c8 (x0.at' (toNat af)).c9 (x0.at' (toNat af)).cF (x0.at' (toNat af)).cS (x0.at' (toNat af)).cD (x0.at' (toNat af)).di)else(bif((x0.at' (toNat af)).c0==3)then(bif(decide ((x0.at' (toNat af)).bO>bw))then(xJ iL iK jd (x0.at' (toNat af)).bO (x0.at' (toNat af)).gG)else jd)else jd)))
def tg:Bool:=(bif((kq (x0.at' (toNat af)).c0 (x0.at' (toNat af)).c1 (x0.at' (toNat af)).c2 (x0.at' (toNat af)).c3 (x0.at' (toNat af)).c4 (x0.at' (toNat af)).c5 (x0.at' (toNat af)).c6 (x0.at' (toNat af)).c7 (x0.at' (toNat af)).c8 (x0.at' (toNat af)).c9 (x0.at' (toNat af)).cF (x0.at' (toNat af)).cS (x0.at' (toNat af)).cD (x0.at' (toNat af)).di (x0.at' (toNat af)).bO (x0.at' (toNat af)).gG (x0.at' (toNat af)).lj (x0.at' (toNat af)).j9 (x0.at' (toNat af)).lk (x0.at' (toNat af)).j_)!=0)then false else(bif((x0.at' (toNat af)).c0==1)then true else(bif((x0.at' (toNat af)).c0==2)then(bif((Tj iL iK jd (x0.at' (toNat af)).c3 (x0.at' (toNat af)).c4 (x0.at' (toNat af)).c5 (x0.at' (toNat af)).c6 (x0.at' (toNat af)).c7 (x0.at' (toNat af)).c8 (x0.at' (toNat af)).c9 (x0.at' (toNat af)).cF (x0.at' (toNat af)).cS (x0.at' (toNat af)).cD (x0.at' (toNat af)).di)!=0)then false else true)else true)))
def Bm(x0:Sl cj):Nat→Int→Int→Int→Int→Int→Int→Sl ar→Int→Sl aG→Int→Int→Sl aM→Bool×Int×Int×Int×Int×Int×Sl ar×Int×Sl aG×Int×Int×Sl aM×Int×Int×Int×Int×Int×Sl ar×Int×Sl aG×Int×Int×Sl aM×Int
 |0,_,_,_,_,_,_,_,_,_,_,_,_=>default
 |k+1,af,ak,aV,bw,cE,iu,uY,uZ,u2,iL,iK,jd=>(bif(decide (af<(x0.n:Int)))then(bif(tg x0 af iL iK jd)then(Bm x0 k (i64.wrap (af+1)) (apI x0 af ak) (apJ x0 af aV) (Tb x0 af bw) (apK x0 af bw cE) (apL x0 af bw iu) (apM x0 af bw uY) (apN x0 af bw uZ) (apO x0 af bw u2) (Bo x0 af bw iL iK jd) (Kp x0 af bw iL iK jd) (Bn x0 af bw iL iK jd))else(bif((kq (x0.at' (toNat af)).c0 (x0.at' (toNat af)).c1 (x0.at' (toNat af)).c2 (x0.at' (toNat af)).c3 (x0.at' (toNat af)).c4 (x0.at' (toNat af)).c5 (x0.at' (toNat af)).c6 (x0.at' (toNat af)).c7 (x0.at' (toNat af)).c8 (x0.at' (toNat af)).c9 (x0.at' (toNat af)).cF (x0.at' (toNat af)).cS (x0.at' (toNat af)).cD (x0.at' (toNat af)).di (x0.at' (toNat af)).bO (x0.at' (toNat af)).gG (x0.at' (toNat af)).lj (x0.at' (toNat af)).j9 (x0.at' (toNat af)).lk (x0.at' (toNat af)).j_)!=0)then(true,default,default,default,default,default,default,default,default,default,default,default,0,0,0,0,0,(al:Sl ar),0,(al:Sl aG),0,0,(al:Sl aM),(kq (x0.at' (toNat af)).c0 (x0.at' (toNat af)).c1 (x0.at' (toNat af)).c2 (x0.at' (toNat af)).c3 (x0.at' (toNat af)).c4 (x0.at' (toNat af)).c5 (x0.at' (toNat af)).c6 (x0.at' (toNat af)).c7 (x0.at' (toNat af)).c8 (x0.at' (toNat af)).c9 (x0.at' (toNat af)).cF (x0.at' (toNat af)).cS (x0.at' (toNat af)).cD (x0.at' (toNat af)).di (x0.at' (toNat af)).bO (x0.at' (toNat af)).gG (x0.at' (toNat af)).lj (x0.at' (toNat af)).j9 (x0.at' (toNat af)).lk (x0.at' (toNat af)).j_))else(true,default,default,default,default,default,default,default,default,default,default,default,0,0,0,0,0,(al:Sl ar),0,(al:Sl aG),0,0,(al:Sl aM),(Tj iL iK jd (x0.at' (toNat af)).c3 (x0.at' (toNat af)).c4 (x0.at' (toNat af)).c5 (x0.at' (toNat af)).c6 (x0.at' (toNat af)).c7 (x0.at' (toNat af)).c8 (x0.at' (toNat af)).c9 (x0.at' (toNat af)).cF (x0.at' (toNat af)).cS (x0.at' (toNat af)).cD (x0.at' (toNat af)).di))))else(false,ak,aV,bw,cE,iu,uY,uZ,u2,iL,iK,jd,default,default,default,default,default,default,default,default,default,default,default,default))
def jj:Bool×Int×Int×Int×Int×Int×Sl ar×Int×Sl aG×Int×Int×Sl aM×Int×Int×Int×Int×Int×Sl ar×Int×Sl aG×Int×Int×Sl aM×Int:=Bm x0 ((toNat ((x0.n:Int)-0))+1) 0 G8 G9 yr G_ yt yu yv yw yx yy yq
def mX:Bool:=(bif(jj x0).1 then false else true)
def acr:Int:=(bif(mX x0)then(jj x0).2.1 else(jj x0).2.2.2.2.2.2.2.2.2.2.2.2.1)
def acs:Int:=(bif(mX x0)then(jj x0).2.2.1 else(jj x0).2.2.2.2.2.2.2.2.2.2.2.2.2.1)
def vp:Int:=(bif(mX x0)then(jj x0).2.2.2.1 else(jj x0).2.2.2.2.2.2.2.2.2.2.2.2.2.2.1)
def acu:Int:=(bif(mX x0)then(jj x0).2.2.2.2.1 else(jj x0).2.2.2.2.2.2.2.2.2.2.2.2.2.2.2.1)
def S6:Int:=let z6:=jj x0;(bif(mX x0)then(Vj (om z6.2.2.2.2.2.1 z6.2.2.2.2.2.2.1 z6.2.2.2.2.2.2.2.1 z6.2.2.2.2.2.2.2.2.1))else z6.2.2.2.2.2.2.2.2.2.2.2.2.2.2.2.2.1)
def S7:Sl ar:=let z6:=jj x0;(bif(mX x0)then(Vk (om z6.2.2.2.2.2.1 z6.2.2.2.2.2.2.1 z6.2.2.2.2.2.2.2.1 z6.2.2.2.2.2.2.2.2.1))else z6.2.2.2.2.2.2.2.2.2.2.2.2.2.2.2.2.2.1)
def S_:Int:=let z6:=jj x0;(bif(mX x0)then(Vl (om z6.2.2.2.2.2.1 z6.2.2.2.2.2.2.1 z6.2.2.2.2.2.2.2.1 z6.2.2.2.2.2.2.2.2.1))else z6.2.2.2.2.2.2.2.2.2.2.2.2.2.2.2.2.2.2.1)
def Ta:Sl aG:=let z6:=jj x0;(bif(mX x0)then(Vm (om z6.2.2.2.2.2.1 z6.2.2.2.2.2.2.1 z6.2.2.2.2.2.2.2.1 z6.2.2.2.2.2.2.2.2.1))else z6.2.2.2.2.2.2.2.2.2.2.2.2.2.2.2.2.2.2.2.1)
def xx:Int:=(bif(mX x0)then(jj x0).2.2.2.2.2.2.2.2.2.1 else(jj x0).2.2.2.2.2.2.2.2.2.2.2.2.2.2.2.2.2.2.2.2.1)
def acv:Int:=(bif(mX x0)then(jj x0).2.2.2.2.2.2.2.2.2.2.1 else(jj x0).2.2.2.2.2.2.2.2.2.2.2.2.2.2.2.2.2.2.2.2.2.1)
def Bl:Sl aM:=(bif(mX x0)then(jj x0).2.2.2.2.2.2.2.2.2.2.2.1 else(jj x0).2.2.2.2.2.2.2.2.2.2.2.2.2.2.2.2.2.2.2.2.2.2.1)
def apH:Int:=(bif(mX x0)then 0 else(jj x0).2.2.2.2.2.2.2.2.2.2.2.2.2.2.2.2.2.2.2.2.2.2.2)
theorem rD:GL yx yy yq:=Xy ⟨by decide,by decide,⟨fun _=>rfl,fun _=>rfl⟩,aCQ _,by decide,fun i hi=>absurd hi (fC i),fun i hi=>absurd hi (fC _)⟩
theorem ar6{x0 x1:Int}{x2:Sl aM}{x3 x4 x5:Int}{x6:Bool}{x7 x8 x9:Int}{au a_ bF:ag}{bL:Int}(h:GL x0 x1 x2):GL (Kr x0) (Ks x1) (FC x0 x1 x2 x3 x4 x5 x6 x7 x8 x9 au a_ bF bL):=by
 unfold Kr Ks FC
 cases decide (x3≤x0)
 ·cases decide (x3>(i64.wrap ((l8 x0 x1 x2)+1)))
  ·simp only[aCI]
   cases e:((cK x0 x1 (Sl.app (Sl.part x2 0 (i64.wrap ((i64.wrap (x3-x0))-1))) (Sl.lit ([(⟨x4,x5,x6,x7,x8,x9,au,a_,bF,bL⟩:aM)]:List aM))))!=0)
   ·exact bE e
   ·exact h
  ·exact h
 ·exact h
theorem rE{x0:Sl cj}{v0 v3 b t:Int}{s:Sl aM}(h:GL b t s)(fw:(tg x0 v0 b t s)=true):GL (Bo x0 v0 v3 b t s) (Kp x0 v0 v3 b t s) (Bn x0 v0 v3 b t s):=by
 unfold tg at fw;have hr:=YJ (s:=x0) (i:=toNat v0);unfold Bo Kp Bn;generalize x0.at' (toNat v0)=E at*
 cases vk:(kq E.c0 E.c1 E.c2 E.c3 E.c4 E.c5 E.c6 E.c7 E.c8 E.c9 E.cF E.cS E.cD E.di E.bO E.gG E.lj E.j9 E.lk E.j_ !=0)with
 |true=>rw[vk]at fw;cases fw
 |false=>
  have hr:=hr vk
  cases e1:(E.c0==1)
  ·simp only[aCI]
   cases e2:(E.c0==2)
   ·simp only[aCI]
    cases e3:(E.c0==3)
    ·exact h
    ·simp only[aCJ]
     cases decide (E.bO>v3)
     ·exact h
     ·have e3:=eq_of_beq e3;have r:(1≤E.bO∧E.bO≤1048576)∧(1≤E.gG∧E.gG≤1048576):=by omega
      exact Xy (axB (axz h) r.1 r.2)
   ·exact ar6 h
  ·exact h
def akx:Fq:=⟨[.v (.sl AE)],fun x0=>⟨⟨none,.cU [.agg [ae (acr x0),ae (acs x0),ae (vp x0),ae (acu x0),ae (S6 x0),aL 8 gn (S7 x0),ae (S_ x0),aL 7 gP (Ta x0),ae (xx x0),ae (acv x0),aL 10 dH (Bl x0)],ae (apH x0)]⟩⟩⟩
theorem auj:ba 99 akx:=bf Tryz.func99
 fun x0 n0 _=>bj ⟨.pure,[.cell 2 94,.tmp 3],[(.c 0 0,kI),(.c 0 1,kI),(.c 0 2,kI),(.c 0 3,kI),(.c 0 4,kI),(.c 0 5,.sl aZ),(.c 0 6,kI),(.c 0 7,.sl bG),(.c 0 8,kI),(.c 0 9,kI),(.c 0 10,.sl cZ),(.t 1,kI)],⟨[.agg (us 11 []),U],[]⟩⟩ (.ai (.ai (.j ⟨28,[],[],[],.f⟩ (.ai (.lp ⟨57372,[],[],[(.t 15,kI),(.h 1 0,kI),(.h 1 1,kI),(.h 1 2,kI),(.h 1 3,kI),(.h 1 4,kI),(.h 1 5,.sl aZ),(.h 1 6,kI),(.h 1 7,.sl bG),(.h 1 8,kI),(.h 1 9,kI),(.h 1 10,.sl cZ)],some 0,true,28,[],[(.h 1 0,kI),(.h 1 1,kI),(.h 1 2,kI),(.h 1 3,kI),(.h 1 4,kI),(.h 1 5,.sl aZ),(.h 1 6,kI),(.h 1 7,.sl bG),(.h 1 8,kI),(.h 1 9,kI),(.h 1 10,.sl cZ)],fun k (s:Int×Int×Int×Int×Int×Int×Sl ar×Int×Sl aG×Int×Int×Sl aM)=>Bm x0 k s.1 s.2.1 s.2.2.1 s.2.2.2.1 s.2.2.2.2.1 s.2.2.2.2.2.1 s.2.2.2.2.2.2.1 s.2.2.2.2.2.2.2.1 s.2.2.2.2.2.2.2.2.1 s.2.2.2.2.2.2.2.2.2.1 s.2.2.2.2.2.2.2.2.2.2.1 s.2.2.2.2.2.2.2.2.2.2.2,.f,fun(s:Int×Int×Int×Int×Int×Int×Sl ar×Int×Sl aG×Int×Int×Sl aM)=>(GL s.2.2.2.2.2.2.2.2.2.1 s.2.2.2.2.2.2.2.2.2.2.1 s.2.2.2.2.2.2.2.2.2.2.2∧0≤s.1∧s.1≤(x0.n:Int)),fun(s:Int×Int×Int×Int×Int×Int×Sl ar×Int×Sl aG×Int×Int×Sl aM)=>(toNat ((x0.n:Int)-s.1)),none⟩ (.ai (.ai (.j ⟨511697116,[],[(.h 1 0,kI),(.h 1 1,kI),(.h 1 2,kI),(.h 1 3,kI),(.h 1 4,kI),(.h 1 5,.sl aZ),(.h 1 6,kI),(.h 1 7,.sl bG),(.h 1 8,kI),(.h 1 9,kI),(.h 1 10,.sl cZ)],[(.b .f .l),(.b .f .l),.f,.f,.f,.f,.f,.f,.f,.f,.f],(.b .f (.b .f (.b .f .l)))⟩ .z .z))))) .z))) (let za:=jj x0;(((GL yx yy yq∧0≤(0:Int)∧(0:Int)≤(x0.n:Int)))∧(∀(af:Int) (ak:Int) (aV:Int) (bw:Int) (cE:Int) (iu:Int) (uY:Sl ar) (uZ:Int) (u2:Sl aG) (iL:Int) (iK:Int) (jd:Sl aM),let zb:=decide (af<(x0.n:Int));let z8:=i64.wrap (af+1);let z6:=x0.at' (toNat af);(GL iL iK jd∧0≤af∧af≤(x0.n:Int))→((zb=true→(((0:Int)≤af∧af<(x0.n:Int))∧(((kq z6.c0 z6.c1 z6.c2 z6.c3 z6.c4 z6.c5 z6.c6 z6.c7 z6.c8 z6.c9 z6.cF z6.cS z6.cD z6.di z6.bO z6.gG z6.lj z6.j9 z6.lk z6.j_)!=0)=false→((z6.c0==1)=false→(((z6.c0==2)=true→(GL iL iK jd))∧((z6.c0==2)=false→((z6.c0==3)=true→((decide (z6.bO>bw))=true→(z6.bO≤9223372036854775807)))))))))∧(zb=true→((tg x0 af iL iK jd)=true→((GL (Bo x0 af bw iL iK jd) (Kp x0 af bw iL iK jd) (Bn x0 af bw iL iK jd)∧0≤z8∧z8≤(x0.n:Int))∧(toNat ((x0.n:Int)-z8))<(toNat ((x0.n:Int)-af))))))))∧((mX x0)=true→(U8 (om za.2.2.2.2.2.1 za.2.2.2.2.2.2.1 za.2.2.2.2.2.2.2.1 za.2.2.2.2.2.2.2.2.1)))) (bU (aH k35 (aH k90 (aH k92 (aH WX (aH Dz (aH ahs (aH aum aQ)))))))) Tryz.func99 (⟨⟨⟨(by apply rD),(by omega)⟩,(fun af ak aV bw cE iu uY uZ u2 iL iK jd dX=>have oy:=dX.1;⟨(fun h2=>⟨(by have:=ay h2;omega),(fun h3=>(fun h4=>⟨(fun h5=>(by assumption)),(fun h6=>(fun h7=>(fun h8=>(by have:=YJ h3;have:=cM h4;have:=cM h6;omega))))⟩))⟩),(fun h9=>(fun dJ=>⟨⟨(by repeat first|assumption|apply rE),(by have:=ay h9;have:=aq (af+1);omega)⟩,(by have:=ay h9;have:=aq (af+1);omega)⟩))⟩)⟩,(fun jH=>(by first|(with_reducible (repeat first|assumption|apply dx|apply ff|apply fh|apply fg|apply gD|apply gA|apply f_|apply fU|apply fV|apply gB|apply fT|apply gC|apply gy|apply gz|apply gT|apply g_|apply hO|apply ic|apply mP|apply lO|apply jt|apply Pt);done)|assumption))⟩)
end
theorem Jh:U8 (al:Sl Int):=fun _=>⟨aCT 0,(by decide:(0:Int)≤255)⟩
theorem Pt{x0:Sl Int}{x1 x2:Int}(h:U8 x0):U8 (CH x0 x1 x2):=by
 unfold CH
 cases (!(iB x0 x1))
 ·cases decide (x2<0)
  ·exact mP (lO h)
  ·exact Jh
 ·exact Jh
def LX(x0:Int)(nd:Nd):Nd:=let za:=U7 nd.td nd.ts x0;let z8:=CH nd.td nd.ts x0;let z6:=Fw z8 za;{nd with me:=(BS nd.me),up:=afe,ro:=B2,te:=(LA (acr z6)),vo:=(LB (acs z6)),lb:=(LC (xx z6)),lt:=(LD (acv z6)),li:=(LF (Bl z6)),si:=(LG (vp z6)),sg:=(Lo (acu z6)),sn:=(Lp (S6 z6)),se:=(Lq (S7 z6)),sx:=(Lr (S_ z6)),sc:=(Ls (Ta z6)),mn:=(Lt (S6 z6)),mE:=(Lu (S7 z6)),mx:=(Lv (S_ z6)),mc:=(Lx (Ta z6)),co:=(Ly (vp z6)),v0:=BT,v1:=BU,v2:=BV,p0:=BW,p1:=BX,p2:=BY,q0:=BZ,q1:=B0,q2:=B1,ws:=(al:Sl iP),td:=(Ko z8 za),ts:=(acq z8 za),ou:=(al:Sl aF)}
def Qm(i:Nat):Hr:=⟨[.p 0,.po 0 (33*i),.v kI],bP,eC,dS,fun(x0:Int)=>cg fun C=>⟨⟨some (U8 (C.nd i).td),[],bN ((aJ.set (2*i) 10).set (2*i+1) 11) 2 (C.set i (LX x0 (C.nd i)))⟩⟩⟩
def ana(i:Nat):RS:=⟨.dY true [.b 10,.b 11] [.kill (2*i+1),.kill (2*i+2),.own (.h 0 (33*i+29)) cA 10,.own (.h 0 (33*i+32)) bK 11] (gx i ((aJ.set (2*i) 10).set (2*i+1) 11) 2 [] 0) (gw i ((aJ.set (2*i) 10).set (2*i+1) 11)),[],[]++fL i ((aJ.set (2*i) 10).set (2*i+1) 11),⟨[],[]⟩⟩
def Yx(i:Nat)(x0:Int)(C:Cr):Prop:=(U8 (CH (C.nd i).td (C.nd i).ts x0))
theorem ayY(i:Nat)(hi:i<3)(x0:Int)(C:Cr)(hb:dA C)(hp:U8 (C.nd i).td):Yx i x0 C:=by
 have hN:=fR hb i hi;unfold fq at hN;unfold Yx;exact((by first|(with_reducible (repeat first|assumption|apply dx|apply ff|apply fh|apply fg|apply gD|apply gA|apply f_|apply fU|apply fV|apply gB|apply fT|apply gC|apply gy|apply gz|apply gT|apply g_|apply hO|apply ic|apply mP|apply lO|apply jt|apply Pt);done)|assumption))
theorem awU(i:Nat)(hi:i<3)(x0:Int):fb Tryz.prog 74 (Qm i) bP [] (cg fun C=>⟨⟨some (U8 (C.nd i).td),[],bN ((aJ.set (2*i) 10).set (2*i+1) 11) 2 (C.set i (LX x0 (C.nd i)))⟩⟩) [ae x0]:=by
 refine gv fun C hb=>fun hp=>dD (ana i) (.z) (Yx i x0 C) (bB 10 (aH k45 (aH auh (aH auj (aH ahx aQ)))) bA) Tryz.func74 [] ?_ ?_ (ayY i hi x0 C hb hp)
 ·rcases bJ hi with rfl|rfl|rfl<;>kernel_rfl
 ·rcases bJ hi with rfl|rfl|rfl<;>kernel_rfl
theorem azD(i:Nat)(hi:i<3):gi 74 (Qm i):=
 j4 (ks:=[kI]) fun s hs=>Eq.mp (by rcases bJ hi with rfl|rfl|rfl<;>kernel_rfl) (awU i hi s.1)
theorem avU(i:Nat)(hi:i<3):gj 74 (Qm i):=gE gu Tryz.func74 (azD i hi)
def dN(s:Sl aM):Prop:= ∀j,lU (s.at' j)
theorem ahY{s t:Sl aM}(hs:dN s)(ht:dN t):dN (s.app t):=fun j=>by
 show lU (bif Nat.blt j s.n then s.at' j else t.at' (j-s.n))
 cases Nat.blt j s.n
 ·exact ht _
 ·exact hs _
theorem zX{s:Sl aM}(hs:dN s)(a b:Int):dN (s.part a b):=fun j=>hs (a.toNat+j)
theorem ag_:lU default:=⟨aCQ _,aCQ _,aCQ _⟩
theorem mK:dN (al:Sl aM):=fun _=>ag_
theorem IC{c:Bool}{a b:Sl aM}(ha:dN a)(hb:dN b):dN (bif c then a else b):=by
 cases c
 ·exact hb
 ·exact ha
theorem wA{s:Sl aM}(h:dN s)(j:Nat):lU (s.at' j):=h j
section
variable {x0 x1:Int} {x2:Sl aM} {x3:Int} {x5:Sl aM}
theorem axl(h5:dN x5):dN (gI x0 x3 x5):=by
 unfold gI;exact IC (zX h5 _ _) h5
def W75(x0 x1:Int)(x2:Sl aM)(x3:Int)(x5:Sl aM)(r:Bool×Int×Int×Sl aM×Bool×Int×Int):Prop:=
 (r.1=false∧dW x0 x3 x5-x0+((gI x0 x3 x5).n:Int)≤(x2.n:Int))∨(r.1=true∧r.2.2.2.2.2.2≠0∧r.2.2.2.2.1=false)∨
  (r.1=true∧r.2.1=x0∧r.2.2.1=x1∧cK x0 x1 r.2.2.2.1=0∧(r.2.2.2.1.n:Int)=dW x0 x3 x5-x0+((gI x0 x3 x5).n:Int)∧x0+1≤r.2.2.2.2.2.1∧r.2.2.2.2.2.1≤dW x0 x3 x5+((gI x0 x3 x5).n:Int)∧(dN x2→dN x5→dN r.2.2.2.1))
theorem aic(h0:0≤x0∧x0≤1048576)(n2:x2.n≤200)(hm:x0≤dW x0 x3 x5∧dW x0 x3 x5≤x0+(x2.n:Int))(hN:(gI x0 x3 x5).n≤200):
  ∀(k:Nat) (v:Int),0≤v→v≤((gI x0 x3 x5).n:Int)→toNat (((gI x0 x3 x5).n:Int)-v)<k→dW x0 x3 x5-x0+v≤(x2.n:Int)→W75 x0 x1 x2 x3 x5 (CO x0 x1 x2 x3 x5 k v)
 |0,v,_,_,h,_=>absurd h (fC _)
 |k+1,v,Dv,rR,hk,hx=>by
  rw[CO]
  by_cases c:v<((gI x0 x3 x5).n:Int)
  ·rw[cx c];simp only[aCJ]
   cases e6:vV x0 x2 x3 x5 v with
   |true=>
    have cI:dW x0 x3 x5-x0+v<(x2.n:Int):=by
     unfold vV at e6;rw[aq (dW x0 x3 x5-x0),aq (dW x0 x3 x5-x0+v)]at e6
     by_cases d:dW x0 x3 x5-x0+v<(x2.n:Int)
     ·exact d
     ·rw[cq d]at e6;cases e6
    simp only[aCJ];rw[aq (v+1)];exact aic h0 n2 hm hN k (v+1) (by omega) (by omega) (by omega) (by omega)
   |false=>
    simp only[aCI];rw[aq (dW x0 x3 x5-x0),aq (dW x0 x3 x5-x0+v),aq (dW x0 x3 x5+v),aq (dW x0 x3 x5+v+1)]
    cases eg:(cK x0 x1 (Sl.app (Sl.part x2 0 (dW x0 x3 x5-x0+v)) (Sl.part (gI x0 x3 x5) v (((gI x0 x3 x5).n:Nat):Int)))!=0)with
    |true=>exact .inr (.inl ⟨rfl,(by decide:(6:Int)≠0),rfl⟩)
    |false=>
     refine .inr (.inr ⟨rfl,rfl,rfl,bE eg,?_,?_,?_,fun h2 h5=>ahY (zX h2 _ _) (zX (axl h5) _ _)⟩)
     ·show(((Sl.part x2 0 (dW x0 x3 x5-x0+v)).n+(Sl.part (gI x0 x3 x5) v (((gI x0 x3 x5).n:Nat):Int)).n:Nat):Int)=_;simp only[Sl.An];omega
     ·show x0+1≤dW x0 x3 x5+v+1;omega
     ·show dW x0 x3 x5+v+1≤_;omega
  ·rw[cq c];exact .inl ⟨rfl,by omega⟩
theorem aid{x4:Int}(he:kj x0 x1 x2 x3 x4 x5=0)(hf:ki x0 x1 x2 x3 x4 x5=true):
  bZ x0 x1 x2 x3 x4 x5=x0∧0≤x0∧cK x0 (yO x0 x1 x2 x3 x4 x5) (bT x0 x1 x2 x3 x4 x5)=0∧x3+(x5.n:Int)≤x0+((bT x0 x1 x2 x3 x4 x5).n:Int)∧((d_ x0 x1 x2 x3 x4 x5=0∧bT x0 x1 x2 x3 x4 x5=x2)∨(x0+1≤d_ x0 x1 x2 x3 x4 x5∧d_ x0 x1 x2 x3 x4 x5≤x3+(x5.n:Int)))∧(0≤x3∧x3+(x5.n:Int)≤1048576)∧(dN x2→dN x5→dN (bT x0 x1 x2 x3 x4 x5)):=by
 unfold kj at he;unfold ki at hf;unfold bZ yO bT d_
 cases e1:(cK x0 x1 x2 !=0)with
 |true=>rw[e1]at he;exact absurd he (by simpa using e1)
 |false=>
 cases e2:(cK x3 x4 x5 !=0)with
 |true=>rw[e1,e2]at he;cases he
 |false=>
 rw[e1,e2]at he hf;simp only[aCI]at he hf ⊢;have c2:=fx _ _ _ (bE e1);have c5:=fx _ _ _ (bE e2)
 cases ep:pO x0 x1 x2 x3 x4 x5 with
 |false=>
  rw[ep]at he hf;simp only[aCI]at he hf ⊢;refine⟨by first|rfl|trivial,c2.1.1,bE e1,?_,.inl (by first|exact⟨rfl,rfl⟩|simp),⟨c5.1.1,c5.2.2.2⟩,fun h _=>h⟩
  by_cases c:x3<x0
  ·unfold pO at ep;rw[cx c]at ep;simp only[aCJ]at ep;have k:=rX (i64.wrap (x0-x3)) (x5.n:Int);rw[aq (x0-x3)]at ep k;generalize gM (x0-x3) (x5.n:Int)=q at*
   rw[aq (x3+q)]at ep
   by_cases d:x3+q<x0
   ·omega
   ·rw[cq d]at ep;cases ep
  ·rw[cq c]at hf;cases hf
 |true=>
  rw[ep]at he hf;simp only[aCJ]at he hf ⊢;have hm:=f75 x0 x1 x2 x3 x4 x5 ep ⟨⟨c2.1,c2.2.2.1⟩,c5.1,c5.2.2.1⟩;have hmn:dW x0 x3 x5+((gI x0 x3 x5).n:Int)=x3+(x5.n:Int):=by
   unfold dW gI
   by_cases c:x3<x0
   ·rw[cx c];simp only[aCJ];have k:=rX (i64.wrap (x0-x3)) (x5.n:Int);rw[aq (x0-x3)]at k ⊢;generalize gM (x0-x3) (x5.n:Int)=q at*
    rw[aq (x3+q),Sl.An];omega
   ·rw[cq c];rfl
  have hl:=aic (x1:=x1) c2.1 c2.2.2.1 hm.1 (by omega) (toNat (((gI x0 x3 x5).n:Int)-0)+1) 0 (aCT _) (by omega) (by omega) (by omega);have hr:CO x0 x1 x2 x3 x5 (toNat (((gI x0 x3 x5).n:Int)-0)+1) 0=vW x0 x1 x2 x3 x5:=rfl;rw[hr]at hl;unfold yP at he hf ⊢;rcases hl with⟨q1,q2⟩|⟨q1,q2,q3⟩|⟨q1,q2,q8,q3,q4,q5,q6,q7⟩
  ·rw[q1]at he hf ⊢;simp only[aCI,aCJ]at he hf ⊢;exact⟨by first|rfl|trivial,c2.1.1,bE e1,by omega,.inl (by first|exact⟨rfl,rfl⟩|simp),⟨c5.1.1,c5.2.2.2⟩,fun h _=>h⟩
  ·rw[q1]at he;simp only[aCI,aCJ]at he;exact absurd he q2
  ·have ch:=fx _ _ _ q3;rw[q1]at he hf ⊢;simp only[aCI,aCJ]at he hf ⊢;exact⟨q2,c2.1.1,by rw[q8];exact q3,by omega,.inr ⟨q5,by omega⟩,⟨c5.1.1,c5.2.2.2⟩,q7⟩
theorem DJ{x4:Int}(he:kj x0 x1 x2 x3 x4 x5=0)(hf:(!(ki x0 x1 x2 x3 x4 x5))=false):
  bZ x0 x1 x2 x3 x4 x5=x0∧0≤x0∧(x0+((bT x0 x1 x2 x3 x4 x5).n:Int)≤1048576∧(bT x0 x1 x2 x3 x4 x5).n≤200)∧x3+(x5.n:Int)≤x0+((bT x0 x1 x2 x3 x4 x5).n:Int)∧(d_ x0 x1 x2 x3 x4 x5=0∨(x0+1≤d_ x0 x1 x2 x3 x4 x5∧d_ x0 x1 x2 x3 x4 x5≤x3+(x5.n:Int)))∧(0≤x3∧x3+(x5.n:Int)≤1048576)∧(dN x2→dN x5→dN (bT x0 x1 x2 x3 x4 x5)):=by
 have h:=aid he (by simpa using hf);have c:=fx _ _ _ h.2.2.1;exact⟨h.1,h.2.1,⟨c.2.2.2,c.2.2.1⟩,h.2.2.2.1,h.2.2.2.2.1.imp And.left id,h.2.2.2.2.2⟩
end
structure iO (n:Nd):Prop where
 me:0≤n.me∧n.me<3
 lb:0≤n.lb
 bc:n.lb≤n.co
 co:n.co≤1048576
 ln:n.li.n≤200
 ll:n.lb+(n.li.n:Int)≤1048576
 ws:n.ws.n≤3000
 pp:(0≤n.p0∧n.p0≤1048577)∧(0≤n.p1∧n.p1≤1048577)∧(0≤n.p2∧n.p2≤1048577)
 li:dN n.li
 u8:U8 n.td
 si:0≤n.si∧n.si≤1048576
 qq:(0≤n.q0∧n.q0≤1048576)∧(0≤n.q1∧n.q1≤1048576)∧(0≤n.q2∧n.q2≤1048576)
structure ie (m:aF):Prop where
 fr:0≤m.c0∧m.c0<3
 to:0≤m.c1∧m.c1<3
 la:0≤m.c4∧m.c4≤1048576
 si:0≤m.c9∧m.c9≤1048576
 li:dN m.c8
theorem JB(nd:Nd)(h:0≤nd.lb∧nd.lb+(nd.li.n:Int)≤4194304):0≤cy nd∧cy nd≤nd.lb+(nd.li.n:Int):=by
 show 0≤l8 nd.lb nd.lt nd.li∧l8 nd.lb nd.lt nd.li≤nd.lb+(nd.li.n:Int);have h2:=aq (nd.lb+(nd.li.n:Int));unfold l8
 cases (cK nd.lb nd.lt nd.li !=0)with
 |true=>exact⟨aCT 0,by show(0:Int)≤nd.lb+(nd.li.n:Int);omega⟩
 |false=>
  show 0≤qW nd.lb nd.li∧qW nd.lb nd.li≤nd.lb+(nd.li.n:Int);unfold qW
  cases decide ((nd.li.n:Int)>0)with
  |true=>rw[aCJ];omega
  |false=>rw[aCI];omega
def vd(C:Cr)(m:aF):Prop:=0≤m.c0∧m.c0<3∧0≤m.c1∧m.c1<3∧iO (C.nd (toNat m.c1))∧ie m∧C.told.n≤541000000000∧C.aY.n≤549000000000
structure Pz (a:aK):Prop where
 kd:1≤a.c0∧a.c0≤12
 nd:0≤a.c1∧a.c1<3
 pk:0≤a.c2
 nz:a.c0=6∨a.c0=7∨a.c0=8∨a.c0=12→a.c1=0
 s6:a.c6.size≤10000000000
 s7:a.c7.size≤10000000000
 s8:a.c8.size≤10000000000
structure iN (k:Nat) (C:Cr):Prop where
 nd: ∀i,iO (C.nd i)
 wn: ∀i,(C.nd i).ws.n≤k
 aw: ∀j,j<C.ax.n→ie (C.ax.at' j)
 an:C.ax.n≤300
 ou: ∀i j,j<(C.nd i).ou.n→ie ((C.nd i).ou.at' j)
 on: ∀i,(C.nd i).ou.n≤300
 tn:C.told.n≤180001000*k
 ln:C.aY.n≤300*k
def du(C:Cr)(a:aK):Prop:=(∃k,k<3000∧iN k C)∧Pz a
theorem iz{C:Cr}{a:aK}(h:du C a)(i:Nat):iO (C.nd i):=by
 obtain⟨⟨k,_,hj⟩,_⟩:=h;exact hj.nd i
theorem mq{C:Cr}{a:aK}(h:du C a):C.told.n≤540000000000∧C.aY.n≤900000∧C.ax.n≤300:=by
 obtain⟨⟨k,hk,hj⟩,_⟩:=h;have h1:=hj.tn;have h2:=hj.ln;exact⟨by omega,by omega,hj.an⟩
theorem abD{C X:Cr}{a:aK}(h:du C a){j:Nat}(hj:j<C.ax.n)(hn: ∀i,iO (X.nd i))(ht:X.told.n≤541000000000)(hl:X.aY.n≤549000000000):vd X (C.ax.at' j):=by
 obtain⟨⟨k,hk,hJ⟩,_⟩:=h;have hm:=hJ.aw j hj;exact⟨hm.fr.1,hm.fr.2,hm.to.1,hm.to.2,hn _,hm,ht,hl⟩
theorem anG{x0 x1 x3 x4:Int}{x2:Sl aM} :vt x0 x1 x2 x3 x4=x3:=by
 unfold vt
 cases e:qY x0 x1 x2 x3 x4
 ·rfl
 ·simp only[aCJ];unfold qY at e
  cases e1:(yK x0 x1 x2 x3==0)
  ·rw[e1]at e;cases e
  ·have h:=eq_of_beq e1;unfold yK at h;unfold tS
   cases e2:(cK x0 x1 x2 !=0)
   ·rw[e2]at h;simp only[aCI]at h ⊢
    cases e3:CM x3
    ·rw[e3]at h;simp only[aCI]at h;rw[show(jD x0 x2 x3 !=0)=false by rw[h];rfl];rfl
    ·rw[e3,aCJ]at h;exact absurd h (by decide: ¬(2:Int)=0)
   ·rw[e2]at h;simp only[aCJ]at h;exact absurd h (bne_iff_ne.1 e2)
def FB(v3 b:Int):Prop:=b=v3∧0≤v3∧v3≤1048576
theorem ape{x0:Sl cj}{v0 v3 b t:Int}{s:Sl aM}(h:FB v3 b)(fw:(tg x0 v0 b t s)=true):FB (Tb x0 v0 v3) (Bo x0 v0 v3 b t s):=by
 unfold tg at fw;have hr:=YJ (s:=x0) (i:=toNat v0);unfold Tb Bo;generalize x0.at' (toNat v0)=E at*
 cases vk:(kq E.c0 E.c1 E.c2 E.c3 E.c4 E.c5 E.c6 E.c7 E.c8 E.c9 E.cF E.cS E.cD E.di E.bO E.gG E.lj E.j9 E.lk E.j_ !=0)with
 |true=>rw[vk]at fw;cases fw
 |false=>
  have hr:=hr vk
  cases e1:(E.c0==1)
  ·simp only[aCI]
   cases e2:(E.c0==2)
   ·simp only[aCI]
    cases e3:(E.c0==3)
    ·exact h
    ·simp only[aCJ]
     cases decide (E.bO>v3)
     ·exact h
     ·simp only[aCJ];have e3:=eq_of_beq e3;have r:(1≤E.bO∧E.bO≤1048576)∧(1≤E.gG∧E.gG≤1048576):=by omega
      exact⟨anG,by omega,by omega⟩
   ·exact h
  ·exact h
theorem EJ{x:ag}(h:x.toList=(⟨#[]⟩:ag).toList):x.size=0:=by
 rw[aaY (x:=x) (by rw[h];simp)];rfl
theorem ao1{b c:Bool}{l1 l2 l3 m1 m2 m3:List UInt8}(h:(!(b&&((l1==m1)&&((l2==m2)&&((l3==m3)&&(c&&true))))))=false):l1=m1∧l2=m2∧l3=m3:=by
 simp at h;exact⟨h.2.1,h.2.2.1,h.2.2.2.1⟩
theorem s47{x0:Int}{x1 x2 x3:ag}{x4:Int}(h:fO x0 x1 x2 x3 x4=0):x1.size≤20∧x2.size≤20∧x3.size≤20:=by
 unfold fO at h;obtain⟨_,h⟩:=bz h (by decide);obtain⟨e,h⟩:=bz h (by decide);obtain⟨m,h⟩:=bz h (by decide);obtain⟨e1,e2,_⟩:=ao1 e;have k1:x0≠22→lz x1=true:=fun a=>by
  cases q:lz x1
  ·simp [tO,a,q]at m
  ·rfl
 have k2:4≤x0→x0≤6→lz x2=true:=fun a b=>by
  cases q:lz x2
  ·simp [tO,a,b,q]at m
  ·rfl
 have k3:jP x3=true:=by
  cases q:jP x3
  ·exfalso
   by_cases a:x0=22
   ·subst a;simp [tO,q]at m
   ·by_cases b:x0≥4
    ·by_cases c:x0≤6
     ·simp [tO,b,c,q]at m
     ·simp [tO,b,c,q]at m
    ·simp [tO,b,q]at m
  ·rfl
 have sz: ∀y:ag,lz y=true→y.size≤20:=fun y hy=>by
  unfold lz FM at hy
  by_cases a:(y.size:Int)≥1
  ·simp [a]at hy;omega
  ·simp [a]at hy
 refine⟨?_,?_,?_⟩
 ·by_cases a:x0=22
  ·subst a;rw[show MB 22 x1=⟨#[]⟩from rfl]at e1;rw[EJ e1];omega
  ·exact sz _ (k1 a)
 ·by_cases a:4≤x0∧x0≤6
  ·exact sz _ (k2 a.1 a.2)
  ·have q4:(x0==4)=false:=by simp;omega
   have q5:(x0==5)=false:=by simp;omega
   have q6:(x0==6)=false:=by simp;omega
   have:Hf x0 x2=⟨#[]⟩:=by
    unfold Hf yH;rw[q4,q5,q6]
    cases yF x0<;>cases yG x0<;>rfl
   rw[this]at e2;rw[EJ e2];omega
 ·have:=ay k3;omega
theorem Sw{a b c d:Bool}{x y z:ag}(h:(!(a&&(b&&(c&&((x.toList==(⟨#[]⟩:ag).toList)&&((y.toList==(⟨#[]⟩:ag).toList)&&((z.toList==(⟨#[]⟩:ag).toList)&&(d&&true))))))))=false):x.size≤20∧y.size≤20∧z.size≤20:=by
 simp only[Bool.not_eq_false',aCN,aDG]at h;rw[EJ h.2.2.2.1,EJ h.2.2.2.2.1,EJ h.2.2.2.2.2.1];omega
theorem s49{x0 x1 x2:Int}{x3 x4 x5:ag}{x6:Int}(h:jG x0 x1 x2 x3 x4 x5 x6=0):x3.size≤20∧x4.size≤20∧x5.size≤20:=by
 unfold jG at h
 cases a:(x0==0)
 ·rw[a,aCI]at h;obtain⟨_,h⟩:=bz h (by decide);exact s47 h
 ·rw[a,aCJ]at h;exact Sw (bz h (by decide)).1
theorem s51{x0 x1:Int}{x2:Bool}{x3 x4 x5:Int}{x6 x7 x8:ag}{x9:Int}(h:il x0 x1 x2 x3 x4 x5 x6 x7 x8 x9=0):lU ⟨x0,x1,x2,x3,x4,x5,x6,x7,x8,x9⟩:=by
 have k:x6.size≤20∧x7.size≤20∧x8.size≤20:=by
  unfold il at h;obtain⟨_,h⟩:=bz h (by decide)
  cases x2
  ·exact s49 h
  ·simp only[aCJ]at h;exact Sw (bz h (by decide)).1
 exact⟨aCX k.1 (by decide),aCX k.2.1 (by decide),aCX k.2.2 (by decide)⟩
theorem s56{a:aK}(h:o7 a.c0 a.c1 a.c2 a.c3 a.c4 a.c5 a.c6 a.c7 a.c8 a.c9=0):(1≤a.c0∧a.c0≤12)∧(0≤a.c1∧a.c1<3)∧0≤a.c2∧(a.c0=6∨a.c0=7∨a.c0=8∨a.c0=12→a.c1=0)∧a.c6.size≤20∧a.c7.size≤20∧a.c8.size≤20:=by
 unfold o7 at h;obtain⟨h1,h⟩:=bz h (by decide);obtain⟨h2,h⟩:=bz h (by decide);obtain⟨h3,h⟩:=bz h (by decide);have k1:1≤a.c0∧a.c0≤12:=by
  unfold Hj at h1
  by_cases p:a.c0<1
  ·simp [p]at h1
  ·simp [p]at h1;omega
 have kn:mZ a.c0=true→0≤a.c1∧a.c1<3:=fun e=>by
  unfold CL at h2;rw[e,aCJ]at h2
  by_cases p:a.c1<0
  ·simp [p]at h2
  ·by_cases q:a.c1≥3
   ·simp [p,q]at h2
   ·omega
 have kn':mZ a.c0=false→a.c1=0:=fun e=>by
  unfold yJ at h3;rw[e]at h3
  cases q:(a.c1 !=0)
  ·exact bE q
  ·rw[q]at h3;exact absurd h3 (by simp)
 have kp:m4 a.c0=true→0≤a.c2:=fun e=>by
  unfold CL at h2;rw[e]at h2
  by_cases p:a.c2<0
  ·exfalso
   cases z:mZ a.c0<;>rw[z]at h2
   ·simp [p]at h2
   ·by_cases q:a.c1<0
    ·simp [q]at h2
    ·by_cases r:a.c1≥3
     ·simp [q,r]at h2
     ·simp [p,q,r]at h2
  ·omega
 have kp':m4 a.c0=false→a.c2=0:=fun e=>by
  unfold yJ at h3;rw[e]at h3
  cases q:(a.c2 !=0)
  ·exact bE q
  ·rw[q]at h3;exfalso
   cases z:mZ a.c0<;>rw[z]at h3<;>cases y:(a.c1 !=0)<;>rw[y]at h3<;>simp at h3
 have kc:a.c6.size≤20∧a.c7.size≤20∧a.c8.size≤20:=by
  cases q:(a.c0==1)
  ·have q':(a.c0 !=1)=true:=by rw[bne,q];rfl
   unfold yJ at h3;rw[q']at h3;refine Sw (a:=(a.c3==0)) (b:=(a.c4==0)) (c:=(a.c5==0)) (d:=(a.c9==0)) ?_;revert h3;generalize (!((a.c3==0)&&((a.c4==0)&&((a.c5==0)&&((a.c6.toList==(⟨#[]⟩:ag).toList)&&((a.c7.toList==(⟨#[]⟩:ag).toList)&&((a.c8.toList==(⟨#[]⟩:ag).toList)&&((a.c9==0)&&true))))))))=z;intro h3
   cases z
   ·rfl
   ·exfalso
    cases z:mZ a.c0<;>rw[z]at h3<;>cases y:(a.c1 !=0)<;>rw[y]at h3<;>cases x:m4 a.c0<;>rw[x]at h3<;>cases w:(a.c2 !=0)<;>rw[w]at h3<;>simp at h3
  ·rw[q]at h;exact s49 h
 refine⟨k1,?_,?_,?_,kc⟩
 ·cases e:mZ a.c0
  ·rw[kn' e];decide
  ·exact kn e
 ·cases e:m4 a.c0
  ·rw[kp' e];decide
  ·exact kp e
 ·intro hk;apply kn';rcases hk with e|e|e|e<;>rw[e]<;>rfl
end Go.Proofs.YtfmgjpcmcjjoiaaGreatDoor
