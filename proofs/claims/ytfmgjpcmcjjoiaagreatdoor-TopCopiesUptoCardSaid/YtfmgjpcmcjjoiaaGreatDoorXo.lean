/- Part of a proof: walks of the program. -/
import Derived.Test.YtfmgjpcmcjjoiaaGreatDoorXj
open Go.IntKind (i64 u64 u8)
open Int (toNat)
set_option maxRecDepth 100000
set_option maxHeartbeats 4000000
set_option linter.all false
noncomputable section
namespace Go.Proofs.YtfmgjpcmcjjoiaaGreatDoor
open Go Go.RowKit Go.ah
section
variable(i:Nat)(d:Int)(ms:O)(Z:H)
def Q9:A O:=(cond (decide ((Z.bS.n:Int)<300)) (A.app Z.bS (A.lit ([(⟨Z.bm,d,ms.K,ms.an,ms.p,ms.v,ms.ax,ms.aF,ms.i,ms.aP,ms.cG,ms.cZ,ms.cJ,ms.dh,ms.b1⟩:O)]:List O))) Z.bS)
def ed:H:={Z with bS:=(Q9 d ms Z)}
def Nh:db:=⟨[.e9 0 (33*i),.v a,.g [a,a,a,a,a,a,y,a,.af c6,a,a,a,.af a_,a,.af bP]],b8,eL,er,fun(d:Int) (b:Int) (k:Int) (l:Int) (m:Int) (n:Int) (o:Int) p (q:Int) r (c:Int) (e:Int) (f:Int) g (h:Int) j=>cB fun C=>⟨⟨none,[],cj aK 0 (C.set i (ed d (⟨b,k,l,m,n,o,p,q,r,c,e,f,g,h,j⟩:O) (C.Z i)))⟩⟩⟩
def amg:cI:=⟨.eA true [] [] (gj i aK 0 [] 0) (gi i aK),[],[]++fy i aK,⟨[],[]⟩⟩
def agF(i:Nat)(C:ak):Prop:=((decide ((((C.Z i).bS.n:Nat):Int)<300))=true→((C.Z i).bS.n+1≤549755813888))
theorem azu(i:Nat)(d:i<3)(C:ak)(c:ey C):agF i C:=by
 have b:=gQ c i d;unfold fv at b;exact((fun a=>(by have:=aq a;omega)))
theorem axq(i:Nat)(a:i<3)(d:Int)(ms:O):eP Tryz.prog 90 (Nh i) b8 [] (cB fun C=>⟨⟨none,[],cj aK 0 (C.set i (ed d ms (C.Z i)))⟩⟩) [b d,b ms.j,b ms.ai,b ms.K,b ms.an,b ms.p,b ms.v,.bool ms.ax,b ms.aF,aH 10 dU ms.i,b ms.aP,b ms.cG,b ms.cZ,aH 8 fZ ms.cJ,b ms.dh,aH 7 gK ms.b1]:=by
 refine gg fun C c=>ei (amg i) (.z) (agF i C) (bK 10 aT bJ) Tryz.func90 (List.replicate 94 .l++[.f]++List.replicate 7 .l) ?_ ?_ (azu i a C c)
 ·rcases b3 a with rfl|rfl|rfl<;>kernel_rfl
 ·rcases b3 a with rfl|rfl|rfl<;>kernel_rfl
theorem aAc(i:Nat)(b:i<3):fV 90 (Nh i):=
 jv (bp:=[a,a,a,a,a,a,a,y,a,.af c6,a,a,a,.af a_,a,.af bP]) fun s c=>Eq.mp (by rcases b3 b with rfl|rfl|rfl<;>kernel_rfl) (axq i b s.1 ⟨s.2.1,s.2.2.1,s.2.2.2.1,s.2.2.2.2.1,s.2.2.2.2.2.1,s.2.2.2.2.2.2.1,s.2.2.2.2.2.2.2.1,s.2.2.2.2.2.2.2.2.1,s.2.2.2.2.2.2.2.2.2.1,s.2.2.2.2.2.2.2.2.2.2.1,s.2.2.2.2.2.2.2.2.2.2.2.1,s.2.2.2.2.2.2.2.2.2.2.2.2.1,s.2.2.2.2.2.2.2.2.2.2.2.2.2.1,s.2.2.2.2.2.2.2.2.2.2.2.2.2.2.1,s.2.2.2.2.2.2.2.2.2.2.2.2.2.2.2.1⟩)
theorem xR(i:Nat)(a:i<3):fW 90 (Nh i):=gq gf Tryz.func90 (aAc i a)
end
section
variable(i:Nat)(C:ak)(Z:H)
def IC:H:={Z with ro:=0,ws:=(L:A hI)}
def MU:db:=⟨[.e9 0 (33*i)],b8,eL,er,cB fun C=>⟨⟨none,[],cj (aK.set (2*i) 10) 1 (C.set i (IC (C.Z i)))⟩⟩⟩
def amb:cI:=⟨.eA true [] [.kill (2*i+1),.own (.h 0 (33*i+29)) cV 10] (gj i (aK.set (2*i) 10) 1 [] 0) (gi i (aK.set (2*i) 10)),[],[]++fy i (aK.set (2*i) 10),⟨[],[]⟩⟩
theorem aw9(i:Nat)(a:i<3):eP Tryz.prog 59 (MU i) b8 [] (cB fun C=>⟨⟨none,[],cj (aK.set (2*i) 10) 1 (C.set i (IC (C.Z i)))⟩⟩) []:=by
 refine gg fun C b=>ei (amb i) (.z) True (bK 10 aT bJ) Tryz.func59 [] ?_ ?_ trivial
 ·rcases b3 a with rfl|rfl|rfl<;>kernel_rfl
 ·rcases b3 a with rfl|rfl|rfl<;>kernel_rfl
theorem azV(i:Nat)(a:i<3):fV 59 (MU i):=
 aw9 i a
theorem qJ(i:Nat)(a:i<3):fW 59 (MU i):=gq gf Tryz.func59 (azV i a)
def qk(d:Int)(Z:H):H:={Z with bS:=(ed d (⟨0,0,8,Z.aX,0,0,false,0,(L:A aI),0,0,0,(L:A aj),0,(L:A aG)⟩:O) Z).bS}
def MY:db:=⟨[.e9 0 (33*i),.v a],b8,eL,er,fun(d:Int)=>cB fun C=>⟨⟨none,[],cj aK 0 (C.set i (qk d (C.Z i)))⟩⟩⟩
def amc:cI:=⟨.eA true [] [] (gj i aK 0 [] 0) (gi i aK),[],[]++fy i aK,⟨[],[]⟩⟩
theorem axc(i:Nat)(a:i<3)(d:Int):eP Tryz.prog 63 (MY i) b8 [] (cB fun C=>⟨⟨none,[],cj aK 0 (C.set i (qk d (C.Z i)))⟩⟩) [b d]:=by
 refine gg fun C c=>ei (amc i) (.z) True (bK 10 aT (av (xR i a) bJ)) Tryz.func63 [] ?_ ?_ trivial
 ·rcases b3 a with rfl|rfl|rfl<;>kernel_rfl
 ·rcases b3 a with rfl|rfl|rfl<;>kernel_rfl
theorem azZ(i:Nat)(b:i<3):fV 63 (MY i):=
 jv (bp:=[a]) fun s c=>Eq.mp (by rcases b3 b with rfl|rfl|rfl<;>kernel_rfl) (axc i b s.1)
theorem ph(i:Nat)(a:i<3):fW 63 (MY i):=gq gf Tryz.func63 (azZ i a)
def QX:Int:=(cond Z.v0 1 0)
def QY:Int:=(cond Z.v1 (i64.wrap ((QX Z)+1)) (QX Z))
def ab5:Int:=(cond Z.v2 (i64.wrap ((QY Z)+1)) (QY Z))
def hj:Bool:=(decide ((ab5 Z)≥2))
def MW:db:=⟨[.e9 0 (33*i)],b8,eL,er,cB fun C=>⟨⟨none,[.bool (hj (C.Z i))],cj aK 0 C⟩⟩⟩
def V_:cI:=⟨.eA true [] [] (gj i aK 0 [0] 1) (gi i aK),[.tmp 2],[(.t 0,y)]++fy i aK,⟨[],[]⟩⟩
def arG:cm (V_ i).b_:=let c:=C.Z i;(.ad (.ad (.s (.ad (.un 3 (.s (.ad (.s (.c true .z) (.j ⟨15916,[],[(.t 3,a)],[],.f⟩ .z (.bU ⟨([U,U,.lit false,b (QX c),U,.bool c.v0,U,U,U,.agg [.bool c.v0,.bool c.v1,.bool c.v2],b 0,.bool true,.bool c.v0,.bool c.v0]++(us 5 ([]))),cn aK 0 C []⟩ .z)))) (.s (.ad (.s (.c true .z) (.j ⟨81452,[],[(.t 3,a)],[],.f⟩ .z (.bU ⟨[U,U,.lit false,b (QY c),U,.bool c.v1,U,U,U,.agg [.bool c.v0,.bool c.v1,.bool c.v2],b 1,.bool true,.bool c.v1,.bool c.v1,U,U,b 1,U,U],cn aK 0 C []⟩ .z)))) (.s (.ad (.s (.c true .z) (.j ⟨81452,[],[(.t 3,a)],[],.f⟩ .z (.bU ⟨[U,U,.lit false,b (ab5 c),U,.bool c.v2,U,U,U,.agg [.bool c.v0,.bool c.v1,.bool c.v2],b 2,.bool true,.bool c.v2,.bool c.v2,U,U,b 2,U,U],cn aK 0 C []⟩ .z)))) (.ad (.s (.c false .z) .z))))))) .z)))
theorem axa(i:Nat)(a:i<3):eP Tryz.prog 61 (MW i) b8 [] (cB fun C=>⟨⟨none,[.bool (hj (C.Z i))],cj aK 0 C⟩⟩) []:=by
 refine gg fun C b=>ei (V_ i) (arG i C) True (bK 10 aT bJ) Tryz.func61 [] ?_ ?_ trivial
 ·rcases b3 a with rfl|rfl|rfl<;>kernel_rfl
 ·rcases b3 a with rfl|rfl|rfl<;>kernel_rfl
theorem azX(i:Nat)(a:i<3):fV 61 (MW i):=
 axa i a
theorem sB(i:Nat)(a:i<3):fW 61 (MW i):=gq gf Tryz.func61 (azX i a)
def ab3:Int:=(cond (decide ((Z.li.n:Int)>0)) (imax (imax Z.bU Z.eO) (Z.li.at' (toNat (i64.wrap ((Z.li.n:Int)-1)))).ai) (imax Z.bU Z.eO))
def hz:Int:=(ab3 Z)
def MR:db:=⟨[.e9 0 (33*i)],b8,eL,er,cB fun C=>⟨⟨none,[b (hz (C.Z i))],cj aK 0 C⟩⟩⟩
def V7:cI:=⟨.eA true [] [] (gj i aK 0 [0] 1) (gi i aK),[.tmp 2],[(.t 0,a)]++fy i aK,⟨[],[]⟩⟩
def arD:cm (V7 i).b_:=(.ad (.ad (.j ⟨12,[],[(.t 3,a)],[],.f⟩ .z (.bU ⟨([U,U,b 0,b (ab3 (C.Z i))]++(us 33 ([]))),cn aK 0 C []⟩ .z))))
def agE(i:Nat)(C:ak):Prop:=let a:=i64.wrap (((C.Z i).li.n:Int)-1);((decide (((C.Z i).li.n:Int)>0))=true→((0:Int)≤a∧a<(((C.Z i).li.n:Nat):Int)))
theorem azi(i:Nat)(d:i<3)(C:ak)(c:ey C):agE i C:=by
 have b:=gQ c i d;unfold fv at b;exact((fun a=>(by have:=aq a;have:=N (((C.Z i).li.n:Int)-1);omega)))
theorem aw6(i:Nat)(a:i<3):eP Tryz.prog 56 (MR i) b8 [] (cB fun C=>⟨⟨none,[b (hz (C.Z i))],cj aK 0 C⟩⟩) []:=by
 refine gg fun C c=>ei (V7 i) (arD i C) (agE i C) (bK 10 aT bJ) Tryz.func56 [] ?_ ?_ (azi i a C c)
 ·rcases b3 a with rfl|rfl|rfl<;>kernel_rfl
 ·rcases b3 a with rfl|rfl|rfl<;>kernel_rfl
theorem azS(i:Nat)(a:i<3):fV 56 (MR i):=
 aw6 i a
theorem ae6(i:Nat)(a:i<3):fW 56 (MR i):=gq gf Tryz.func56 (azS i a)
def IG:Int:=(cond (Z.ro==2) 0 Z.ro)
def ab_:A hI:=(cond (Z.ro==2) (IC Z).ws Z.ws)
def gM:H:={Z with ro:=(IG Z),ws:=(ab_ Z)}
def M3:db:=⟨[.e9 0 (33*i)],b8,eL,er,cB fun C=>⟨⟨none,[],cj (aK.set (2*i) 10) 1 (C.set i (gM (C.Z i)))⟩⟩⟩
def amd:cI:=⟨.eA true [] [.own (.h 0 (33*i+29)) cV 10] (gj i (aK.set (2*i) 10) 1 [] 0) (gi i (aK.set (2*i) 10)),[],[]++fy i (aK.set (2*i) 10),⟨[],[]⟩⟩
theorem axf(i:Nat)(a:i<3):eP Tryz.prog 66 (M3 i) b8 [] (cB fun C=>⟨⟨none,[],cj (aK.set (2*i) 10) 1 (C.set i (gM (C.Z i)))⟩⟩) []:=by
 refine gg fun C b=>ei (amd i) (.z) True (bK 10 aT (av (qJ i a) bJ)) Tryz.func66 ([.l,.l,.l]++[.f]++List.replicate 89 .l++[.f]++List.replicate 8 .l) ?_ ?_ trivial
 ·rcases b3 a with rfl|rfl|rfl<;>kernel_rfl
 ·rcases b3 a with rfl|rfl|rfl<;>kernel_rfl
theorem az2(i:Nat)(a:i<3):fV 66 (M3 i):=
 axf i a
theorem sF(i:Nat)(a:i<3):fW 66 (M3 i):=gq gf Tryz.func66 (az2 i a)
end
section
variable(i:Nat)(ms:O)(Z:H)
def Q3:A O:=(cond (0 !=Z.bm) (ed 0 ms Z).bS Z.bS)
def D5:H:={(ed 0 ms Z)with bS:=(Q3 ms Z)}
def Q4:A O:=(cond (1 !=Z.bm) (ed 1 ms (D5 ms Z)).bS (Q3 ms Z))
def D6:H:={(ed 1 ms (D5 ms Z))with bS:=(Q4 ms Z)}
def aca:A O:=(cond (2 !=Z.bm) (ed 2 ms (D6 ms Z)).bS (Q4 ms Z))
def aqJ:H:={(ed 2 ms (D6 ms Z))with bS:=(aca ms Z)}
def z5:H:={Z with bS:=(aca ms Z)}
def M8:db:=⟨[.e9 0 (33*i),.g [a,a,a,a,a,a,y,a,.af c6,a,a,a,.af a_,a,.af bP]],b8,eL,er,fun(b:Int) (c:Int) (j:Int) (k:Int) (l:Int) (m:Int) n (o:Int) p (q:Int) (d:Int) (e:Int) f (g:Int) h=>cB fun C=>⟨⟨none,[],cj aK 0 (C.set i (z5 (⟨b,c,j,k,l,m,n,o,p,q,d,e,f,g,h⟩:O) (C.Z i)))⟩⟩⟩
def Wg:cI:=⟨.eA true [] [] (gj i aK 0 [] 0) (gi i aK),[],[]++fy i aK,⟨[],[]⟩⟩
def arN(C:ak):cm (Wg i).b_:=let a:=C.Z i;(.ad (.ad (.un 3 (.s (.ad (.s (.c true .z) (.j ⟨16377,[],[(.h (2*i+2) 0,.ae ca)],[],.f⟩ .z (.bU ⟨([.ptr 0 (33*i+0),U,U,.ptr 10 0,b 0,b 0,.bool true,b 0,b 0,.ptr 0 (33*i+0),.ptr 0 (33*i+0),.ptr 0 (33*i+0),b a.bm,.bool (0 !=a.bm)]++(us 5 ([]))),cn aK 1 (C.set i (D5 ms a)) [(10,(iu ms))]⟩ .z)))) (.s (.ad (.s (.c true .z) (.j ⟨278521,[],[(.h (2*i+2) 0,.ae ca)],[],.f⟩ .z (.bU ⟨[.ptr 0 (33*i+0),U,U,.ptr 10 0,b 1,b 1,.bool true,b 1,b 1,.ptr 0 (33*i+0),.ptr 0 (33*i+0),.ptr 0 (33*i+0),b a.bm,.bool (1 !=a.bm),U,U,U,U,b 1],cn aK 1 (C.set i (D6 ms a)) [(10,(iu ms))]⟩ .z)))) (.s (.ad (.s (.c true .z) (.j ⟨278521,[],[(.h (2*i+2) 0,.ae ca)],[],.f⟩ .z (.bU ⟨[.ptr 0 (33*i+0),U,U,.ptr 10 0,b 2,b 2,.bool true,b 2,b 2,.ptr 0 (33*i+0),.ptr 0 (33*i+0),.ptr 0 (33*i+0),b a.bm,.bool (2 !=a.bm),U,U,U,U,b 2],cn aK 1 (C.set i (aqJ ms a)) [(10,(iu ms))]⟩ .z)))) (.ad (.s (.c false .z) .z))))))))
theorem axj(i:Nat)(a:i<3)(ms:O):eP Tryz.prog 71 (M8 i) b8 [] (cB fun C=>⟨⟨none,[],cj aK 0 (C.set i (z5 ms (C.Z i)))⟩⟩) (iu ms):=by
 refine gg fun C b=>ei (Wg i) (arN i ms C) True (bK 10 aT (av (xR i a) bJ)) Tryz.func71 [] ?_ ?_ trivial
 ·rcases b3 a with rfl|rfl|rfl<;>kernel_rfl
 ·rcases b3 a with rfl|rfl|rfl<;>kernel_rfl
theorem az6(i:Nat)(b:i<3):fV 71 (M8 i):=
 jv (bp:=[a,a,a,a,a,a,y,a,.af c6,a,a,a,.af a_,a,.af bP]) fun s c=>Eq.mp (by rcases b3 b with rfl|rfl|rfl<;>kernel_rfl) (axj i b ⟨s.1,s.2.1,s.2.2.1,s.2.2.2.1,s.2.2.2.2.1,s.2.2.2.2.2.1,s.2.2.2.2.2.2.1,s.2.2.2.2.2.2.2.1,s.2.2.2.2.2.2.2.2.1,s.2.2.2.2.2.2.2.2.2.1,s.2.2.2.2.2.2.2.2.2.2.1,s.2.2.2.2.2.2.2.2.2.2.2.1,s.2.2.2.2.2.2.2.2.2.2.2.2.1,s.2.2.2.2.2.2.2.2.2.2.2.2.2.1,s.2.2.2.2.2.2.2.2.2.2.2.2.2.2.1⟩)
theorem ae8(i:Nat)(a:i<3):fW 71 (M8 i):=gq gf Tryz.func71 (az6 i a)
end
section
variable(i:Nat)(Z:H)
def IW:A O:=(cond (0==Z.bm) Z.bS (cond (decide ((i64.wrap (Z.eb-1))<Z.l)) (ed 0 (⟨0,0,7,Z.aX,0,0,false,0,(L:A aI),Z.c8,Z.gR,Z.gS,Z.fG,Z.gT,Z.fF⟩:O) Z).bS (ed 0 (⟨0,0,5,Z.aX,(i64.wrap (Z.eb-1)),(kC Z.l Z.lt Z.li (i64.wrap (Z.eb-1))),false,Z.co,(qw Z.l Z.lt Z.li (i64.wrap (Z.eb-1)) 8),0,0,0,(L:A aj),0,(L:A aG)⟩:O) Z).bS))
def z7:H:=let a:=i64.wrap (Z.eb-1);{(ed 0 (⟨0,0,5,Z.aX,a,(kC Z.l Z.lt Z.li a),false,Z.co,(qw Z.l Z.lt Z.li a 8),0,0,0,(L:A aj),0,(L:A aG)⟩:O) Z)with bS:=(IW Z)}
def IX:A O:=(cond (1==Z.bm) (IW Z) (cond (decide ((i64.wrap (Z.dF-1))<Z.l)) (ed 1 (⟨0,0,7,Z.aX,0,0,false,0,(L:A aI),Z.c8,Z.gR,Z.gS,Z.fG,Z.gT,Z.fF⟩:O) (z7 Z)).bS (ed 1 (⟨0,0,5,Z.aX,(i64.wrap (Z.dF-1)),(kC Z.l Z.lt Z.li (i64.wrap (Z.dF-1))),false,Z.co,(qw Z.l Z.lt Z.li (i64.wrap (Z.dF-1)) 8),0,0,0,(L:A aj),0,(L:A aG)⟩:O) (z7 Z)).bS))
def z8:H:=let a:=i64.wrap (Z.dF-1);{(ed 1 (⟨0,0,5,Z.aX,a,(kC Z.l Z.lt Z.li a),false,Z.co,(qw Z.l Z.lt Z.li a 8),0,0,0,(L:A aj),0,(L:A aG)⟩:O) (z7 Z))with bS:=(IX Z)}
def IY:A O:=(cond (2==Z.bm) (IX Z) (cond (decide ((i64.wrap (Z.dW-1))<Z.l)) (ed 2 (⟨0,0,7,Z.aX,0,0,false,0,(L:A aI),Z.c8,Z.gR,Z.gS,Z.fG,Z.gT,Z.fF⟩:O) (z8 Z)).bS (ed 2 (⟨0,0,5,Z.aX,(i64.wrap (Z.dW-1)),(kC Z.l Z.lt Z.li (i64.wrap (Z.dW-1))),false,Z.co,(qw Z.l Z.lt Z.li (i64.wrap (Z.dW-1)) 8),0,0,0,(L:A aj),0,(L:A aG)⟩:O) (z8 Z)).bS))
def aqK:H:=let a:=i64.wrap (Z.dW-1);{(ed 2 (⟨0,0,5,Z.aX,a,(kC Z.l Z.lt Z.li a),false,Z.co,(qw Z.l Z.lt Z.li a 8),0,0,0,(L:A aj),0,(L:A aG)⟩:O) (z8 Z))with bS:=(IY Z)}
def z6:H:={Z with bS:=(IY Z)}
def M9:db:=⟨[.e9 0 (33*i)],b8,eL,er,cB fun C=>let a:=C.Z i;⟨⟨some (0≤a.eb∧a.eb≤4194304∧0≤a.dF∧a.dF≤4194304∧0≤a.dW∧a.dW≤4194304),[],cj aK 0 (C.set i (z6 a))⟩⟩⟩
def Wh:cI:=⟨.eA true [] [] (gj i aK 0 [] 0) (gi i aK),[],[]++fy i aK,⟨[],[]⟩⟩
def arO(C:ak):cm (Wh i).b_:=let a:=C.Z i;let e:=i64.wrap (a.dW-1);let d:=i64.wrap (a.dF-1);let c:=i64.wrap (a.eb-1);(.ad (.un 3 (.s (.ad (.s (.c true .z) (.j ⟨130821,[],[(.h (2*i+2) 0,.ae ca)],[],.f⟩ (.ad (.ad (.ad (.s (.ad (.s (.s (.lk [(0,(33*i+4)),(0,(33*i+9)),(0,(33*i+10)),(0,(33*i+11)),(0,(33*i+12)),(0,(33*i+13)),(0,(33*i+14))]) (.bU ⟨([.ptr 0 (33*i+0),U,b 0,b c,U,U,U,U,b 0,.bool true,b 0,b 0,.ptr 0 (33*i+0),.ptr 0 (33*i+0),.ptr 0 (33*i+0),b a.bm,.bool (0==a.bm),.ptr 0 (33*i+0),b 0,.ptr 0 (33*i+0),.ptr 0 (33*i+23),.ptr 0 (33*i+23),b a.eb,b c,b c,.ptr 0 (33*i+0),.ptr 0 (33*i+0),.ptr 0 (33*i+6),.ptr 0 (33*i+6),b a.l,.bool (decide (c<a.l)),.ptr 0 (33*i+0),b 0,.ptr 0 (33*i+0),.ptr 0 (33*i+0),.ptr 0 (33*i+4),b a.aX,.ptr 0 (33*i+0),.ptr 0 (33*i+0),.ptr 0 (33*i+9),.agg [b a.c8,b a.gR,b a.gS,aH 8 fZ a.fG,b a.gT,aH 7 gK a.fF],.agg [b 0,b 0,b 7,b a.aX,b 0,b 0,.bool false,b 0,.aE,b a.c8,b a.gR,b a.gS,aH 8 fZ a.fG,b a.gT,aH 7 gK a.fF]]++(us 35 ([]))),cn aK 0 (C.set i (ed 0 (⟨0,0,7,a.aX,0,0,false,0,(L:A aI),a.c8,a.gR,a.gS,a.fG,a.gT,a.fF⟩:O) a)) []⟩ .z)) .z)) (.ad (.ad (.lk [(0,(33*i+4)),(0,(33*i+19))]))))))) (.bU ⟨([.ptr 0 (33*i+0),U,b 0]++(us 5 (([b 0,.bool true,b 0,b 0,.ptr 0 (33*i+0),.ptr 0 (33*i+0),.ptr 0 (33*i+0),b a.bm,.bool (0==a.bm)]++(us 60 ([])))))),cn aK 0 (C.set i (z7 a)) []⟩ .z)))) (.s (.ad (.s (.c true .z) (.j ⟨75557863725914323549957,[],[(.h (2*i+2) 0,.ae ca)],[],.f⟩ (.ad (.ad (.ad (.s (.ad (.s (.s (.lk [(0,(33*i+4)),(0,(33*i+9)),(0,(33*i+10)),(0,(33*i+11)),(0,(33*i+12)),(0,(33*i+13)),(0,(33*i+14))]) (.bU ⟨([.ptr 0 (33*i+0),U,b 1,b d,U,U,U,U,b 1,.bool true,b 1,b 1,.ptr 0 (33*i+0),.ptr 0 (33*i+0),.ptr 0 (33*i+0),b a.bm,.bool (1==a.bm),.ptr 0 (33*i+0),b 1,.ptr 0 (33*i+0),.ptr 0 (33*i+23),.ptr 0 (33*i+24),b a.dF,b d,b d,.ptr 0 (33*i+0),.ptr 0 (33*i+0),.ptr 0 (33*i+6),.ptr 0 (33*i+6),b a.l,.bool (decide (d<a.l)),.ptr 0 (33*i+0),b 1,.ptr 0 (33*i+0),.ptr 0 (33*i+0),.ptr 0 (33*i+4),b a.aX,.ptr 0 (33*i+0),.ptr 0 (33*i+0),.ptr 0 (33*i+9),.agg [b a.c8,b a.gR,b a.gS,aH 8 fZ a.fG,b a.gT,aH 7 gK a.fF],.agg [b 0,b 0,b 7,b a.aX,b 0,b 0,.bool false,b 0,.aE,b a.c8,b a.gR,b a.gS,aH 8 fZ a.fG,b a.gT,aH 7 gK a.fF]]++(us 34 ([b 1]))),cn aK 0 (C.set i (ed 1 (⟨0,0,7,a.aX,0,0,false,0,(L:A aI),a.c8,a.gR,a.gS,a.fG,a.gT,a.fF⟩:O) (z7 a))) []⟩ .z)) .z)) (.ad (.ad (.lk [(0,(33*i+4)),(0,(33*i+19))]))))))) (.bU ⟨([.ptr 0 (33*i+0),U,b 1]++(us 5 (([b 1,.bool true,b 1,b 1,.ptr 0 (33*i+0),.ptr 0 (33*i+0),.ptr 0 (33*i+0),b a.bm,.bool (1==a.bm)]++(us 59 ([b 1])))))),cn aK 0 (C.set i (z8 a)) []⟩ .z)))) (.s (.ad (.s (.c true .z) (.j ⟨75557863725914323549957,[],[(.h (2*i+2) 0,.ae ca)],[],.f⟩ (.ad (.ad (.ad (.s (.ad (.s (.s (.lk [(0,(33*i+4)),(0,(33*i+9)),(0,(33*i+10)),(0,(33*i+11)),(0,(33*i+12)),(0,(33*i+13)),(0,(33*i+14))]) (.bU ⟨([.ptr 0 (33*i+0),U,b 2,b e,U,U,U,U,b 2,.bool true,b 2,b 2,.ptr 0 (33*i+0),.ptr 0 (33*i+0),.ptr 0 (33*i+0),b a.bm,.bool (2==a.bm),.ptr 0 (33*i+0),b 2,.ptr 0 (33*i+0),.ptr 0 (33*i+23),.ptr 0 (33*i+25),b a.dW,b e,b e,.ptr 0 (33*i+0),.ptr 0 (33*i+0),.ptr 0 (33*i+6),.ptr 0 (33*i+6),b a.l,.bool (decide (e<a.l)),.ptr 0 (33*i+0),b 2,.ptr 0 (33*i+0),.ptr 0 (33*i+0),.ptr 0 (33*i+4),b a.aX,.ptr 0 (33*i+0),.ptr 0 (33*i+0),.ptr 0 (33*i+9),.agg [b a.c8,b a.gR,b a.gS,aH 8 fZ a.fG,b a.gT,aH 7 gK a.fF],.agg [b 0,b 0,b 7,b a.aX,b 0,b 0,.bool false,b 0,.aE,b a.c8,b a.gR,b a.gS,aH 8 fZ a.fG,b a.gT,aH 7 gK a.fF]]++(us 34 ([b 2]))),cn aK 0 (C.set i (ed 2 (⟨0,0,7,a.aX,0,0,false,0,(L:A aI),a.c8,a.gR,a.gS,a.fG,a.gT,a.fF⟩:O) (z8 a))) []⟩ .z)) .z)) (.ad (.ad (.lk [(0,(33*i+4)),(0,(33*i+19))]))))))) (.bU ⟨([.ptr 0 (33*i+0),U,b 2]++(us 5 (([b 2,.bool true,b 2,b 2,.ptr 0 (33*i+0),.ptr 0 (33*i+0),.ptr 0 (33*i+0),b a.bm,.bool (2==a.bm)]++(us 59 ([b 2])))))),cn aK 0 (C.set i (aqK a)) []⟩ .z)))) (.ad (.s (.c false .z) .z)))))))
def Ul(i:Nat)(C:ak):Prop:=(((0==(C.Z i).bm)=false→((decide ((i64.wrap ((C.Z i).eb-1))<(C.Z i).l))=false→((i64.wrap ((C.Z i).eb-1))≤9223372036854775807∧ -9223372036854775808≤(i64.wrap ((C.Z i).eb-1))∧(8:Int)≤9223372036854775807∧ -9223372036854775808≤(8:Int))))∧(((1==(C.Z i).bm)=false→((decide ((i64.wrap ((C.Z i).dF-1))<(C.Z i).l))=false→((i64.wrap ((C.Z i).dF-1))≤9223372036854775807∧ -9223372036854775808≤(i64.wrap ((C.Z i).dF-1))∧(8:Int)≤9223372036854775807∧ -9223372036854775808≤(8:Int))))∧((2==(C.Z i).bm)=false→((decide ((i64.wrap ((C.Z i).dW-1))<(C.Z i).l))=false→((i64.wrap ((C.Z i).dW-1))≤9223372036854775807∧ -9223372036854775808≤(i64.wrap ((C.Z i).dW-1))∧(8:Int)≤9223372036854775807∧ -9223372036854775808≤(8:Int))))))
theorem azp(i:Nat)(c:i<3)(C:ak)(b:ey C)(d:0≤(C.Z i).eb∧(C.Z i).eb≤4194304∧0≤(C.Z i).dF∧(C.Z i).dF≤4194304∧0≤(C.Z i).dW∧(C.Z i).dW≤4194304):Ul i C:=by
 have a:=gQ b i c;unfold fv at a;unfold Ul;exact have⟨l,m,n,o,p,q⟩:=d;(⟨(fun e=>(fun f=>(by have:=N ((C.Z i).eb-1);omega))),⟨(fun g=>(fun h=>(by have:=N ((C.Z i).dF-1);omega))),(fun j=>(fun k=>(by have:=N ((C.Z i).dW-1);omega)))⟩⟩)
theorem axk(i:Nat)(a:i<3):eP Tryz.prog 72 (M9 i) b8 [] (cB fun C=>⟨⟨some (0≤(C.Z i).eb∧(C.Z i).eb≤4194304∧0≤(C.Z i).dF∧(C.Z i).dF≤4194304∧0≤(C.Z i).dW∧(C.Z i).dW≤4194304),[],cj aK 0 (C.set i (z6 (C.Z i)))⟩⟩) []:=by
 refine gg fun C b=>fun c=>ei (Wh i) (arO i C) (Ul i C) (bK 10 (aw KZ (aw awF aT)) (av (xR i a) bJ)) Tryz.func72 [] ?_ ?_ (azp i a C b c)
 ·rcases b3 a with rfl|rfl|rfl<;>kernel_rfl
 ·rcases b3 a with rfl|rfl|rfl<;>kernel_rfl
theorem az7(i:Nat)(a:i<3):fV 72 (M9 i):=
 axk i a
theorem ae9(i:Nat)(a:i<3):fW 72 (M9 i):=gq gf Tryz.func72 (az7 i a)
end
end Go.Proofs.YtfmgjpcmcjjoiaaGreatDoor
