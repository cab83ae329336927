/- Part of a proof: walks of the program. -/
import Derived.Test.YtfmgjpcmcjjoiaaGreatDoorXr
import Derived.Test.YtfmgjpcmcjjoiaaGreatDoorXs
open Go.IntKind (i64 u64 u8)
open Int (toNat)
set_option maxRecDepth 100000
set_option maxHeartbeats 4000000
set_option linter.all false
noncomputable section
namespace Go.Proofs.YtfmgjpcmcjjoiaaGreatDoor
open Go Go.RowKit Go.ah
section
variable(i:Nat)(aW:kW)(Z:H)
def abZ:H:=let a:=iM (⟨Z.aX,(hz Z),false,aW.j,aW.ai,aW.K,aW.an,aW.p,aW.v,aW.ax⟩:aI) Z;{a with ws:=(A.app Z.ws (A.lit ([(⟨(ck a),Z.aX,aW.j,aW.ai,aW.K,aW.an,aW.p,aW.v,aW.ax⟩:hI)]:List hI)))}
def r8:H:=(H.bif (!Z.up) Z (H.bif (Z.ro !=3) Z (H.bif (!(qj (⟨Z.aX,(hz Z),false,aW.j,aW.ai,aW.K,aW.an,aW.p,aW.v,aW.ax⟩:aI) Z)) (iM (⟨Z.aX,(hz Z),false,aW.j,aW.ai,aW.K,aW.an,aW.p,aW.v,aW.ax⟩:aI) Z) (abZ aW Z))))
def zZ(B:A a7):A a7:=(cond (!Z.up) (DU aW 13 Z B) (cond (Z.ro !=3) (DU aW 12 Z B) (cond (!(qj (⟨Z.aX,(hz Z),false,aW.j,aW.ai,aW.K,aW.an,aW.p,aW.v,aW.ax⟩:aI) Z)) (DU aW 6 (iM (⟨Z.aX,(hz Z),false,aW.j,aW.ai,aW.K,aW.an,aW.p,aW.v,aW.ax⟩:aI) Z) B) B)))
def ML:db:=⟨[.p 0,.e9 0 (33*i),.g [a,a,a,au,au,au,a]],b8,eL,er,fun(b:Int) (c:Int) (d:Int) e f g (h:Int)=>cB fun C=>⟨⟨some (C.told.n≤549000000000∧(⟨b,c,d,e,f,g,h⟩:kW).an.size≤10000000000∧(⟨b,c,d,e,f,g,h⟩:kW).p.size≤10000000000∧(⟨b,c,d,e,f,g,h⟩:kW).v.size≤10000000000∧(C.Z i).ws.n≤549000000000),[],cj aK 0 (C.put i (r8 (⟨b,c,d,e,f,g,h⟩:kW) (C.Z i)) C.s (zZ (⟨b,c,d,e,f,g,h⟩:kW) (C.Z i) C.told) C.a2)⟩⟩⟩
def V4:cI:=⟨.eA true [] [] (gj i aK 0 [] 0) (gi i aK),[],[]++fy i aK,⟨[],[]⟩⟩
def arA(C:ak):cm (V4 i).b_:=let a:=C.Z i;let c:=iM (⟨a.aX,(hz a),false,aW.j,aW.ai,aW.K,aW.an,aW.p,aW.v,aW.ax⟩:aI) a;(.ad (.ad (.ad (.ad (.bU ⟨([.ptr 0 0,.ptr 0 (33*i+0),U,U,U,.ptr 10 0]++(us 33 (([.bool (a.ro !=3)]++(us 25 ([])))))),cn aK 1 C [(10,[b aW.j,b aW.ai,b aW.K,.str aW.an,.str aW.p,.str aW.v,b aW.ax])]⟩ (.ad (.s (.lk [(0,(33*i+4))]) (.bU ⟨([.ptr 0 0,.ptr 0 (33*i+0),U,U,U,.ptr 10 0]++(us 43 (([.bool (!(qj (⟨a.aX,(hz a),false,aW.j,aW.ai,aW.K,aW.an,aW.p,aW.v,aW.ax⟩:aI) a))]++(us 15 ([])))))),cn aK 1 (C.set i c) [(10,[b aW.j,b aW.ai,b aW.K,.str aW.an,.str aW.p,.str aW.v,b aW.ax])]⟩ (.ad (.ad (.bU ⟨([U,.ptr 0 (33*i+0),U,U,U,.ptr 10 0,b (ck c)]++(us 58 ([]))),cn aK 1 (C.set i c) [(10,[b aW.j,b aW.ai,b aW.K,.str aW.an,.str aW.p,.str aW.v,b aW.ax])]⟩ .z)))))))))))
def Ub(i:Nat)(aW:kW)(C:ak):Prop:=(((!(C.Z i).up)=true→(C.told.n≤549000000000))∧((!(C.Z i).up)=false→((((C.Z i).ro !=3)=true→(C.told.n≤549000000000))∧(((C.Z i).ro !=3)=false→((kZ (⟨(C.Z i).aX,(hz (C.Z i)),false,aW.j,aW.ai,aW.K,aW.an,aW.p,aW.v,aW.ax⟩:aI))∧(((!(qj (⟨(C.Z i).aX,(hz (C.Z i)),false,aW.j,aW.ai,aW.K,aW.an,aW.p,aW.v,aW.ax⟩:aI) (C.Z i)))=true→(C.told.n≤549000000000))∧((!(qj (⟨(C.Z i).aX,(hz (C.Z i)),false,aW.j,aW.ai,aW.K,aW.an,aW.p,aW.v,aW.ax⟩:aI) (C.Z i)))=false→((C.Z i).ws.n+1≤549755813888))))))))
theorem aze(i:Nat)(c:i<3)(aW:kW)(C:ak)(b:ey C)(q:aW.an.size≤549755813888)(r:aW.p.size≤549755813888)(s:aW.v.size≤549755813888)(d:C.told.n≤549000000000∧aW.an.size≤10000000000∧aW.p.size≤10000000000∧aW.v.size≤10000000000∧(C.Z i).ws.n≤549000000000):Ub i aW C:=by
 have a:=gQ b i c;unfold fv at a;unfold Ub;exact have⟨l,m,n,o,p⟩:=d;(⟨(fun e=>(by omega)),(fun f=>⟨(fun g=>(by omega)),(fun h=>⟨(by repeat first|assumption|apply kJ),⟨(fun j=>(by omega)),(fun k=>(by omega))⟩⟩)⟩)⟩)
theorem awS(i:Nat)(a:i<3)(aW:kW)(e:aW.an.size≤549755813888)(f:aW.p.size≤549755813888)(g:aW.v.size≤549755813888):eP Tryz.prog 42 (ML i) b8 [] (cB fun C=>⟨⟨some (C.told.n≤549000000000∧aW.an.size≤10000000000∧aW.p.size≤10000000000∧aW.v.size≤10000000000∧(C.Z i).ws.n≤549000000000),[],cj aK 0 (C.put i (r8 aW (C.Z i)) C.s (zZ aW (C.Z i) C.told) C.a2)⟩⟩) [b aW.j,b aW.ai,b aW.K,.str aW.an,.str aW.p,.str aW.v,b aW.ax]:=by
 refine gg fun C c=>fun d=>ei (V4 i) (arA i aW C) (Ub i aW C) (bK 10 aT (av (awe i a) (av (ae5 i a) (av (ae6 i a) (av (xQ i a) bJ))))) Tryz.func42 (List.replicate 31 .f++List.replicate 62 .l++[.f,.f]++List.replicate 5 .l++[.f]++[.l]) ?_ ?_ (aze i a aW C c e f g d)
 ·rcases b3 a with rfl|rfl|rfl<;>kernel_rfl
 ·rcases b3 a with rfl|rfl|rfl<;>kernel_rfl
theorem azN(i:Nat)(c:i<3):fV 42 (ML i):=
 jv (bp:=[a,a,a,au,au,au,a]) fun s b=>Eq.mp (by rcases b3 c with rfl|rfl|rfl<;>kernel_rfl) (awS i c ⟨s.1,s.2.1,s.2.2.1,s.2.2.2.1,s.2.2.2.2.1,s.2.2.2.2.2.1,s.2.2.2.2.2.2.1⟩ (b.2.2.2.1 rfl) (b.2.2.2.2.1 rfl) (b.2.2.2.2.2.1 rfl))
theorem awb(i:Nat)(a:i<3):fW 42 (ML i):=gq gf Tryz.func42 (azN i a)
end
section
variable(i:Nat)(Z:H)
def iz:H:={Z with ro:=3}
def iN:H:=let a:=i64.wrap ((ck (iz Z))+1);{(iz Z)with eb:=a,dF:=a,dW:=a,g6:=0,q1:=0,fp:=0}
def Q0(G:A aJ):A aJ:=(A.app G (A.lit ([(⟨Z.aX,Z.bm⟩:aJ)]:List aJ)))
def tX:H:={Z with ro:=3,l:=(iM (⟨Z.aX,(hz (iN Z)),true,0,0,0,⟨#[]⟩,⟨#[]⟩,⟨#[]⟩,0⟩:aI) (iN Z)).l,lt:=(iM (⟨Z.aX,(hz (iN Z)),true,0,0,0,⟨#[]⟩,⟨#[]⟩,⟨#[]⟩,0⟩:aI) (iN Z)).lt,li:=(iM (⟨Z.aX,(hz (iN Z)),true,0,0,0,⟨#[]⟩,⟨#[]⟩,⟨#[]⟩,0⟩:aI) (iN Z)).li,eb:=(i64.wrap ((ck (iz Z))+1)),dF:=(i64.wrap ((ck (iz Z))+1)),dW:=(i64.wrap ((ck (iz Z))+1)),g6:=0,q1:=0,fp:=0,bd:=(iM (⟨Z.aX,(hz (iN Z)),true,0,0,0,⟨#[]⟩,⟨#[]⟩,⟨#[]⟩,0⟩:aI) (iN Z)).bd,bh:=(iM (⟨Z.aX,(hz (iN Z)),true,0,0,0,⟨#[]⟩,⟨#[]⟩,⟨#[]⟩,0⟩:aI) (iN Z)).bh,bS:=(z6 (iM (⟨Z.aX,(hz (iN Z)),true,0,0,0,⟨#[]⟩,⟨#[]⟩,⟨#[]⟩,0⟩:aI) (iN Z))).bS}
theorem iE:(⟨#[]⟩:z).size≤10000000000:=by decide
theorem amW(Z:H)(a:0≤Z.l)(b:Z.l+(Z.li.n:Int)+1≤4194304):0≤(i64.wrap ((ck (iz Z))+1))∧(i64.wrap ((ck (iz Z))+1))≤4194304:=by
 have e:0≤ck (iz Z)∧ck (iz Z)≤4194303:=by
  show 0≤lf Z.l Z.lt Z.li∧lf Z.l Z.lt Z.li≤4194303;have c:=N (Z.l+(Z.li.n:Int));unfold lf
  cases (cC Z.l Z.lt Z.li !=0)with
  |true=>exact⟨dp 0,by show(0:Int)≤4194303;omega⟩
  |false=>
   show 0≤p9 Z.l Z.li∧p9 Z.l Z.li≤4194303;unfold p9
   cases decide ((Z.li.n:Int)>0)with
   |true=>rw[aN];omega
   |false=>rw[aQ];omega
 have d:=N (ck (iz Z)+1);omega
theorem aoc(it:aI)(Z:H):(iM it (iN Z)).eb=(i64.wrap ((ck (iz Z))+1))∧(iM it (iN Z)).dF=(i64.wrap ((ck (iz Z))+1))∧(iM it (iN Z)).dW=(i64.wrap ((ck (iz Z))+1)):=⟨rfl,rfl,rfl⟩
def M0:db:=⟨[.p 0,.e9 0 (33*i)],b8,eL,er,cB fun C=>⟨⟨some (C.a2.n≤549000000000∧0≤(C.Z i).l∧(C.Z i).l+((C.Z i).li.n:Int)+1≤4194304),[],cj aK 0 (C.put i (tX (C.Z i)) C.s C.told (Q0 (C.Z i) C.a2))⟩⟩⟩
def Wc:cI:=⟨.eA true [] [] (gj i aK 0 [] 0) (gi i aK),[],[]++fy i aK,⟨[],[]⟩⟩
def arJ(C:ak):cm (Wc i).b_:=let a:=C.Z i;let c:=A.lit ([(⟨a.aX,a.bm⟩:aJ)]:List aJ);(.ad (.ad (.bU ⟨([.ptr 0 0,.ptr 0 (33*i+0),U,U,b (ck (iz a))]++(us 55 ([]))),cn aK 0 (C.set i (iz a)) []⟩ (.s (.ad (.un 3 (.s (.ad (.s (.c true .z) .z)) (.s (.ad (.s (.c true .z) .z)) (.s (.ad (.s (.c true .z) .z)) (.ad (.s (.c false .z) .z))))))) (.ad (.s (.lk [(0,(33*i+4))]) (.bU ⟨([U,.ptr 0 (33*i+0)]++(us 58 ([]))),cn aK 1 (C.put i (iM (⟨a.aX,(hz (iN a)),true,0,0,0,⟨#[]⟩,⟨#[]⟩,⟨#[]⟩,0⟩:aI) (iN a)) C.s C.told (A.app C.a2 c)) [(10,[(aB.ae ct).ab c])]⟩ .z)))))))
def Uh(i:Nat)(C:ak):Prop:=((C.a2.n+1≤549755813888)∧((kZ (⟨(C.Z i).aX,(hz (iN (C.Z i))),true,0,0,0,⟨#[]⟩,⟨#[]⟩,⟨#[]⟩,0⟩:aI))∧(0≤(i64.wrap ((ck (iz (C.Z i)))+1))∧(i64.wrap ((ck (iz (C.Z i)))+1))≤4194304∧0≤(i64.wrap ((ck (iz (C.Z i)))+1))∧(i64.wrap ((ck (iz (C.Z i)))+1))≤4194304∧0≤(i64.wrap ((ck (iz (C.Z i)))+1))∧(i64.wrap ((ck (iz (C.Z i)))+1))≤4194304)))
theorem azl(i:Nat)(c:i<3)(C:ak)(b:ey C)(d:C.a2.n≤549000000000∧0≤(C.Z i).l∧(C.Z i).l+((C.Z i).li.n:Int)+1≤4194304):Uh i C:=by
 have a:=gQ b i c;unfold fv at a;unfold Uh;exact have⟨g,e,f⟩:=d;have:=amW (C.Z i) e f;have:=aoc (⟨(C.Z i).aX,(hz (iN (C.Z i))),true,0,0,0,⟨#[]⟩,⟨#[]⟩,⟨#[]⟩,0⟩:aI) (C.Z i);(⟨(by omega),⟨(by repeat first|assumption|apply kJ|apply iE),(by first|omega|(have:=N ((ck (iz (C.Z i)))+1);omega))⟩⟩)
theorem axe(i:Nat)(a:i<3):eP Tryz.prog 65 (M0 i) b8 [] (cB fun C=>⟨⟨some (C.a2.n≤549000000000∧0≤(C.Z i).l∧(C.Z i).l+((C.Z i).li.n:Int)+1≤4194304),[],cj aK 0 (C.put i (tX (C.Z i)) C.s C.told (Q0 (C.Z i) C.a2))⟩⟩) []:=by
 refine gg fun C b=>fun c=>ei (Wc i) (arJ i C) (Uh i C) (bK 10 aT (av (ae5 i a) (av (ae6 i a) (av (xQ i a) (av (ae9 i a) bJ))))) Tryz.func65 [] ?_ ?_ (azl i a C b c)
 ·rcases b3 a with rfl|rfl|rfl<;>kernel_rfl
 ·rcases b3 a with rfl|rfl|rfl<;>kernel_rfl
theorem az1(i:Nat)(a:i<3):fV 65 (M0 i):=
 axe i a
theorem sE(i:Nat)(a:i<3):fW 65 (M0 i):=gq gf Tryz.func65 (az1 i a)
end
end Go.Proofs.YtfmgjpcmcjjoiaaGreatDoor
