/- Part of a proof: walks of the program. -/
import Derived.Test.YtfmgjpcmcjjoiaaGreatDoorXn
import Derived.Test.YtfmgjpcmcjjoiaaGreatDoorXo
open Go.IntKind (i64 u64 u8)
open Int (toNat)
set_option maxRecDepth 100000
set_option maxHeartbeats 4000000
set_option linter.all false
noncomputable section
namespace Go.Proofs.YtfmgjpcmcjjoiaaGreatDoor
open Go Go.RowKit Go.Vc
section
variable(i:Nat)(ms:aF)(nd:Nd)
def GI:Int:=(bif(decide (ms.c9>nd.co))then(yT nd.lb nd.lt nd.li ms.c9 ms.cF ms.cS ms.cD ms.di ms.bO)else nd.lb)
def art:Int:=(bif(decide (ms.c9>nd.co))then(agp nd.lb nd.lt nd.li ms.c9 ms.cF ms.cS ms.cD ms.di ms.bO)else nd.lt)
def GM:Sl aM:=(bif(decide (ms.c9>nd.co))then(yU nd.lb nd.lt nd.li ms.c9 ms.cF ms.cS ms.cD ms.di ms.bO)else nd.li)
def GN:Int:=(bif(decide (ms.c9>nd.co))then ms.c9 else nd.si)
def aru:Int:=(bif(decide (ms.c9>nd.co))then ms.cF else nd.sg)
def arv:Int:=(bif(decide (ms.c9>nd.co))then ms.cS else nd.sn)
def arw:Sl ar:=(bif(decide (ms.c9>nd.co))then ms.cD else nd.se)
def arx:Int:=(bif(decide (ms.c9>nd.co))then ms.di else nd.sx)
def ary:Sl aG:=(bif(decide (ms.c9>nd.co))then ms.bO else nd.sc)
def arn:Int:=(bif(decide (ms.c9>nd.co))then ms.cS else nd.mn)
def aro:Sl ar:=(bif(decide (ms.c9>nd.co))then ms.cD else nd.mE)
def arp:Int:=(bif(decide (ms.c9>nd.co))then ms.di else nd.mx)
def arq:Sl aG:=(bif(decide (ms.c9>nd.co))then ms.bO else nd.mc)
def GJ:Int:=(bif(decide (ms.c9>nd.co))then ms.c9 else nd.co)
def GK:Sl Int:=(bif(decide (ms.c9>nd.co))then(kg (⟨3,0,0,0,0,0,false,0,0,0,⟨#[]⟩,⟨#[]⟩,⟨#[]⟩,0,ms.c9,ms.cF,ms.cS,ms.cD,ms.di,ms.bO⟩:cj) nd).td else nd.td)
def ars:Int:=(bif(decide (ms.c9>nd.co))then(kg (⟨3,0,0,0,0,0,false,0,0,0,⟨#[]⟩,⟨#[]⟩,⟨#[]⟩,0,ms.c9,ms.cF,ms.cS,ms.cD,ms.di,ms.bO⟩:cj) nd).ts else nd.ts)
def arz:Bool:=(bif(decide (ms.c9>nd.co))then(bif(!(lB (⟨3,0,0,0,0,0,false,0,0,0,⟨#[]⟩,⟨#[]⟩,⟨#[]⟩,0,ms.c9,ms.cF,ms.cS,ms.cD,ms.di,ms.bO⟩:cj) nd))then false else true)else true)
def vI:Nd:={nd with lb:=(GI ms nd),lt:=(art ms nd),li:=(GM ms nd),si:=(GN ms nd),sg:=(aru ms nd),sn:=(arv ms nd),se:=(arw ms nd),sx:=(arx ms nd),sc:=(ary ms nd),mn:=(arn ms nd),mE:=(aro ms nd),mx:=(arp ms nd),mc:=(arq ms nd),co:=(GJ ms nd),td:=(GK ms nd),ts:=(ars ms nd)}
def xV:Nd:=(Nd.bif (arz ms nd) (ft ms.c0 (⟨0,0,6,nd.te,ms.c9,0,true,0,(al:Sl aM),0,0,0,(al:Sl ar),0,(al:Sl aG)⟩:aF) (vI ms nd)) (kg (⟨3,0,0,0,0,0,false,0,0,0,⟨#[]⟩,⟨#[]⟩,⟨#[]⟩,0,ms.c9,ms.cF,ms.cS,ms.cD,ms.di,ms.bO⟩:cj) nd))
def Qg:Hr:=⟨[.po 0 (33*i),.g [kI,kI,kI,kI,kI,kI,kB,kI,.sl cZ,kI,kI,kI,.sl aZ,kI,.sl bG]],bP,eC,dS,fun(y0:Int) (y1:Int) (y2:Int) (y3:Int) (y4:Int) (y5:Int) y6 (y7:Int) y8 (y9:Int) (eS:Int) (eV:Int) eW (eX:Int) eY=>cg fun C=>⟨⟨some ((⟨y0,y1,y2,y3,y4,y5,y6,y7,y8,y9,eS,eV,eW,eX,eY⟩:aF).c9≤4194304),[],bN aJ 0 (C.set i (xV (⟨y0,y1,y2,y3,y4,y5,y6,y7,y8,y9,eS,eV,eW,eX,eY⟩:aF) (C.nd i)))⟩⟩⟩
def aar:RS:=⟨.dY true [] [] (gx i aJ 0 [] 0) (gw i aJ),[],[]++fL i aJ,⟨[],[]⟩⟩
def asA(C:Cr):Hn (aar i).kd:=(.ai (.j ⟨9,[],[(.h 0 (33*i+6),kI),(.h 0 (33*i+7),kI),(.h 0 (33*i+8),.sl cZ),(.h 0 (33*i+9),kI),(.h 0 (33*i+10),kI),(.h 0 (33*i+11),kI),(.h 0 (33*i+12),.sl aZ),(.h 0 (33*i+13),kI),(.h 0 (33*i+14),.sl bG),(.h 0 (33*i+15),kI),(.h 0 (33*i+16),.sl aZ),(.h 0 (33*i+17),kI),(.h 0 (33*i+18),.sl bG),(.h 0 (33*i+19),kI),(.h 0 (33*i+30),.sl E5),(.h 0 (33*i+31),kI)],[],.f⟩ (.ai (.s (.s (.ai (.ck ⟨([.ptr 0 (33*i+0),U,U,.ptr 10 0]++(us 13 (([.bool (!(lB (⟨3,0,0,0,0,0,false,0,0,0,⟨#[]⟩,⟨#[]⟩,⟨#[]⟩,0,ms.c9,ms.cF,ms.cS,ms.cD,ms.di,ms.bO⟩:cj) (C.nd i)))]++(us 42 ([])))))),bS aJ 1 (C.set i (kg (⟨3,0,0,0,0,0,false,0,0,0,⟨#[]⟩,⟨#[]⟩,⟨#[]⟩,0,ms.c9,ms.cF,ms.cS,ms.cD,ms.di,ms.bO⟩:cj) (C.nd i))) [(10,(jh ms))]⟩ .z)) .z) .z)) (.ck ⟨([.ptr 0 (33*i+0),U,U,.ptr 10 0]++(us 56 ([]))),bS aJ 1 (C.set i (vI ms (C.nd i))) [(10,(jh ms))]⟩ (.nw [(0,(33*i+4))]))))
def Yt(i:Nat)(ms:aF)(C:Cr):Prop:=((decide (ms.c9>(C.nd i).co))=true→((px (⟨3,0,0,0,0,0,false,0,0,0,⟨#[]⟩,⟨#[]⟩,⟨#[]⟩,0,ms.c9,ms.cF,ms.cS,ms.cD,ms.di,ms.bO⟩:cj))∧((!(lB (⟨3,0,0,0,0,0,false,0,0,0,⟨#[]⟩,⟨#[]⟩,⟨#[]⟩,0,ms.c9,ms.cF,ms.cS,ms.cD,ms.di,ms.bO⟩:cj) (C.nd i)))=false→(ms.c9≤9223372036854775807))))
theorem ayU(i:Nat)(hi:i<3)(ms:aF)(C:Cr)(hb:dA C)(n8:ms.c8.n≤549755813888)(dL:ms.cD.n≤549755813888)(eD:ms.bO.n≤549755813888)(hp:ms.c9≤4194304):Yt i ms C:=by
 have hN:=fR hb i hi;unfold fq at hN;unfold Yt;exact((fun h1=>⟨(by apply ss),(fun h2=>(by omega))⟩))
theorem awP(i:Nat)(hi:i<3)(ms:aF)(n8:ms.c8.n≤549755813888)(dL:ms.cD.n≤549755813888)(eD:ms.bO.n≤549755813888):fb Tryz.prog 68 (Qg i) bP [] (cg fun C=>⟨⟨some (ms.c9≤4194304),[],bN aJ 0 (C.set i (xV ms (C.nd i)))⟩⟩) (jh ms):=by
 refine gv fun C hb=>fun hp=>dD (aar i) (asA i ms C) (Yt i ms C) (bB 10 (aH k97 aQ) (az (Iz i hi) (az (zV i hi) bA))) Tryz.func68 (List.replicate 31 .f++List.replicate 62 .l++[.f,.f]++List.replicate 7 .l) ?_ ?_ (ayU i hi ms C hb n8 dL eD hp)
 ·rcases bJ hi with rfl|rfl|rfl<;>kernel_rfl
 ·rcases bJ hi with rfl|rfl|rfl<;>kernel_rfl
theorem azy(i:Nat)(hi:i<3):gi 68 (Qg i):=
 j4 (ks:=[kI,kI,kI,kI,kI,kI,kB,kI,.sl cZ,kI,kI,kI,.sl aZ,kI,.sl bG]) fun s hs=>Eq.mp (by rcases bJ hi with rfl|rfl|rfl<;>kernel_rfl) (awP i hi ⟨s.1,s.2.1,s.2.2.1,s.2.2.2.1,s.2.2.2.2.1,s.2.2.2.2.2.1,s.2.2.2.2.2.2.1,s.2.2.2.2.2.2.2.1,s.2.2.2.2.2.2.2.2.1,s.2.2.2.2.2.2.2.2.2.1,s.2.2.2.2.2.2.2.2.2.2.1,s.2.2.2.2.2.2.2.2.2.2.2.1,s.2.2.2.2.2.2.2.2.2.2.2.2.1,s.2.2.2.2.2.2.2.2.2.2.2.2.2.1,s.2.2.2.2.2.2.2.2.2.2.2.2.2.2.1⟩ (hs.2.2.2.2.2.2.2.2.1 rfl) (hs.2.2.2.2.2.2.2.2.2.2.2.2.1 rfl) (hs.2.2.2.2.2.2.2.2.2.2.2.2.2.2.1 rfl))
theorem uC(i:Nat)(hi:i<3):gj 68 (Qg i):=gE gu Tryz.func68 (azy i hi)
end
theorem aj2{l:List Int}(h: ∀x∈l,0≤x∧x≤255):U8 (Sl.lit l):=fun i=>by
 show 0≤l.getD i default∧l.getD i default≤255
 by_cases c:i<l.length
 ·rw[aEy,aCP c];exact h _ (aDY c)
 ·rw[aEy,aCW (by omega)];exact Px
theorem Jg(x:Int):U8 (kT x):=aj2 fun y hy=>by
 simp only[aDa,aEb,or_false]at hy;rcases hy with rfl|rfl|rfl<;>exact aj3 _
theorem aj1{l:List (Sl Int)}(h: ∀s∈l,U8 s):U8 (xK (Sl.lit l)):=by
 unfold xK KM;refine wP (fun _ _=>rfl) (fun _ _ _=>rfl) (fun i t ht=>wO ht ?_) _ _ _ wQ;show U8 (l.getD (toNat i) default)
 by_cases c:toNat i<l.length
 ·rw[aEy,aCP c];exact h _ (aDY c)
 ·rw[aEy,aCW (by omega)];exact Zr
theorem Zs(x:Int)(h:0≤x∧x≤255):U8 (Sl.lit [x]):=aj2 fun y hy=>by
 rw[List.mem_singleton]at hy;rw[hy];exact h
theorem u64(x0 x1:Int)(x2:Bool)(x3 x4 x5:Int)(x6 x7 x8:ag)(x9:Int):U8 (yL x0 x1 x2 x3 x4 x5 x6 x7 x8 x9):=by
 unfold yL
 cases (il x0 x1 x2 x3 x4 x5 x6 x7 x8 x9 !=0)
 ·simp only[aCI];have h:U8 (bo x1 (bo x0 (al:Sl Int))):=mO _ (mO _ wQ);unfold KA
  cases x2
  ·simp only[aCI];have h2:=qD 0 h;unfold KP
   cases decide (x3>0)
   ·simp only[aCI];exact mO _ h2
   ·simp only[aCJ];unfold Ld;exact mO _ (sB _ (sB _ (sB _ (qD _ (mO _ (mO _ h2))))))
  ·exact qD _ h
 ·exact wQ
theorem aBb(x0 x1 x2 x3 x4 x5:Int)(x6:Bool)(x7 x8 x9:Int)(au a_ bF:ag)(bL bY c_ cV:Int)(cO:Sl ar)(cW:Int)(cP:Sl aG):U8 (l5 x0 x1 x2 x3 x4 x5 x6 x7 x8 x9 au a_ bF bL bY c_ cV cO cW cP):=by
 unfold l5
 cases (x0==1)
 ·simp only[aCI]
  cases (x0==2)
  ·simp only[aCI];refine aj1 fun s hs=> ?_;simp only[aDa,aEb,or_false]at hs;rcases hs with rfl|rfl|rfl|rfl
   ·exact Zs 3 (by decide)
   ·exact Jg _
   ·exact Jg _
   ·exact jt _ _ _ _
  ·exact wO (wO (Zs 2 (by decide)) (Jg _)) (u64 _ _ _ _ _ _ _ _ _ _)
 ·exact wO (wO (Zs 1 (by decide)) (Jg _)) (Zt _)
theorem u99{x0:Sl Int}(h:U8 x0)(x1 x2 x3 x4 x5 x6 x7:Int)(x8:Bool)(x9 au a_:Int)(bF bL bY:ag)(c_ cV cO cW:Int)(cP:Sl ar)(gf:Int)(gh:Sl aG):U8 (ML x0 x1 x2 x3 x4 x5 x6 x7 x8 x9 au a_ bF bL bY c_ cV cO cW cP gf gh):=by
 unfold ML
 cases (!(iB x0 x1))
 ·simp only[aCI]
  cases (kq x2 x3 x4 x5 x6 x7 x8 x9 au a_ bF bL bY c_ cV cO cW cP gf gh !=0)
  ·simp only[aCI];generalize decide ((i64.wrap ((i64.wrap (((bn x0 x1).n:Int)+3))+(((l5 x2 x3 x4 x5 x6 x7 x8 x9 au a_ bF bL bY c_ cV cO cW cP gf gh).n:Nat):Int)))>400000)=d
   cases d
   ·refine aj1 fun s hs=> ?_;simp only[aDa,aEb,or_false]at hs;rcases hs with rfl|rfl|rfl
    ·exact lO h
    ·exact Jg _
    ·exact aBb _ _ _ _ _ _ _ _ _ _ _ _ _ _ _ _ _ _ _ _
   ·exact wQ
  ·exact wQ
 ·exact wQ
theorem wN{rc:cj}{nd:Nd}(h:U8 nd.td):U8 (kg rc nd).td:=by
 show U8 (UL rc nd);unfold UL;generalize (Hm nd.td nd.ts rc.c0 rc.c1 rc.c2 rc.c3 rc.c4 rc.c5 rc.c6 rc.c7 rc.c8 rc.c9 rc.cF rc.cS rc.cD rc.di rc.bO rc.gG rc.lj rc.j9 rc.lk rc.j_ !=0)=b
 cases b
 ·exact u99 h _ _ _ _ _ _ _ _ _ _ _ _ _ _ _ _ _ _ _ _ _
 ·exact h
section
variable(i:Nat)(ac:aK)(C:Cr)(nd:Nd)
def aqT(ka:Sl aF):Int:=(bif(decide ((ka.n:Int)>0))then(ac.c2.tmod (ka.n:Int))else(-1))
def aqU:Nd:={nd with ck:=(gM (i64.wrap (nd.ck+ac.c2)) 1073741824)}
def Ui:Nd:=(aqU ac nd)
def PO:Hr:=⟨[.p 0,.g [kI,kI,kI,kI,kI,kI,kS,kS,kS,kI]],bP,eC,dS,fun(y0:Int) (y1:Int) (y2:Int) (y3:Int) (y4:Int) (y5:Int) y6 y7 y8 (y9:Int)=>cg fun C=>⟨⟨some (du C (⟨y0,y1,y2,y3,y4,y5,y6,y7,y8,y9⟩:aK)),[],bN [10,13,11,14,12,15,16,8,9] 7 (C.set i (Ui (⟨y0,y1,y2,y3,y4,y5,y6,y7,y8,y9⟩:aK) (C.nd i)))⟩⟩⟩
def Z9:RS:=⟨.dY true [.b 10] [.own (.h 0 99) bK 16,.own (.h 0 29) cA 10,.own (.h 0 62) cA 11,.own (.h 0 95) cA 12,.own (.h 0 32) bK 13,.own (.h 0 65) bK 14,.own (.h 0 98) bK 15] (qB i [10,13,11,14,12,15,16,8,9] 7 [] 0 C) (qj i [10,13,11,14,12,15,16,8,9]),[],[]++pD i [10,13,11,14,12,15,16,8,9],⟨[],[]⟩⟩
def asf:Hn (Z9 i C).kd:=(.ai (.ai (.ai (.j ⟨57,[],[(.t 5,kI)],[],.f⟩ .z (.ck ⟨([.ptr 0 0,U,U,.ptr 10 0,.ptr 0 (33*i+0),ae (aqT ac C.ax)]++(us 135 ([]))),bS aJ 1 C [(10,[ae 5,ae (i:Int),ae ac.c2,ae ac.c3,ae ac.c4,ae ac.c5,.str ac.c6,.str ac.c7,.str ac.c8,ae ac.c9])]⟩ (.ai (.ai (.c false (.ai (.c true .z))))))))))
def Yc(i:Nat)(ac:aK)(C:Cr):Prop:=((decide ((C.ax.n:Int)>0))=true→(((C.ax.n:Int):Int)≠0))
theorem ayD(i:Nat)(hi:i<3)(ac:aK)(C:Cr)(hb:dA C)(n6:ac.c6.size≤549755813888)(n7:ac.c7.size≤549755813888)(n8:ac.c8.size≤549755813888)(hp:du C ac):Yc i ac C:=by
 have hN:=fR hb i hi;unfold fq at hN;unfold Yc;exact have:=iz hp i;have:=(iz hp i).lb;have:=(iz hp i).ws;have:=mq hp;have:=hp.2.s6;have:=hp.2.s7;have:=hp.2.s8;have:=hp.2.pk;((fun h1=>(by have:=ay h1;omega)))
theorem Xj(i:Nat)(hi:i<3)(ac:aK)(n6:ac.c6.size≤549755813888)(n7:ac.c7.size≤549755813888)(n8:ac.c8.size≤549755813888)(C:Cr)(hb:dA C)(hp:du C ac):fj Tryz.prog 31 ((PO i).args ([ae 5,ae (i:Int),ae ac.c2,ae ac.c3,ae ac.c4,ae ac.c5,.str ac.c6,.str ac.c7,.str ac.c8,ae ac.c9]++fX C)) ((PO i).hv (([ae 5,ae (i:Int),ae ac.c2,ae ac.c3,ae ac.c4,ae ac.c5,.str ac.c6,.str ac.c7,.str ac.c8,ae ac.c9]++fX C).drop (PO i).na)) [] (bN [10,13,11,14,12,15,16,8,9] 7 (C.set i (Ui ac (C.nd i)))):=by
 refine dD (Z9 i C) (asf i ac C) (Yc i ac C) (bB 10 aQ bA) Tryz.func31 [] ?_ ?_ (ayD i hi ac C hb n6 n7 n8 hp)
 ·rcases bJ hi with rfl|rfl|rfl<;>kernel_rfl
 ·rcases bJ hi with rfl|rfl|rfl<;>kernel_rfl
end
end Go.Proofs.YtfmgjpcmcjjoiaaGreatDoor
