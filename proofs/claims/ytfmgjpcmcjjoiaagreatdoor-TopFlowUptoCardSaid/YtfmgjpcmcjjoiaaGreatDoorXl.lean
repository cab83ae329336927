/- Part of a proof: walks of the program. -/
import Derived.Test.YtfmgjpcmcjjoiaaGreatDoorXj
open Go.IntKind (i64 u64 u8)
open Int (toNat)
set_option maxRecDepth 100000
set_option maxHeartbeats 4000000
set_option linter.all false
noncomputable section
namespace Go.Proofs.YtfmgjpcmcjjoiaaGreatDoor
open Go Go.RowKit Go.Vc
def afD:Int:=0
def afE:Sl ar:=(al:Sl ar)
def afF:Int:=1
def afG:Sl aG:=(al:Sl aG)
def ZR:Fq:=⟨[],⟨⟨none,.agg [ae afD,aL 8 gn afE,ae afF,aL 7 gP afG]⟩⟩⟩
theorem azK:Jl 41 ZR:=
 bj ⟨.pure,[.cell 0 49],[(.c 0 0,kI),(.c 0 1,.sl aZ),(.c 0 2,kI),(.c 0 3,.sl bG)],⟨[.agg (us 4 [])],[]⟩⟩ (.z) True fK Tryz.func41 (trivial)
theorem k32:ba 41 ZR:=bf Tryz.func41 azK
def G8:Int:=0
def G9:Int:=(-1)
def yr:Int:=0
def G_:Int:=0
def yt:Int:=afD
def yu:Sl ar:=afE
def yv:Int:=afF
def yw:Sl aG:=afG
def yx:Int:=0
def yy:Int:=0
def yq:Sl aM:=(al:Sl aM)
def ZS:Fq:=⟨[],⟨⟨none,.agg [ae G8,ae G9,ae yr,ae G_,ae yt,aL 8 gn yu,ae yv,aL 7 gP yw,ae yx,ae yy,aL 10 dH yq]⟩⟩⟩
theorem azL:Jl 30 ZS:=
 bj ⟨.pure,[.cell 0 94],[(.c 0 0,kI),(.c 0 1,kI),(.c 0 2,kI),(.c 0 3,kI),(.c 0 4,kI),(.c 0 5,.sl aZ),(.c 0 6,kI),(.c 0 7,.sl bG),(.c 0 8,kI),(.c 0 9,kI),(.c 0 10,.sl cZ)],⟨[.agg (us 11 [])],[]⟩⟩ (.z) True (bU (aH k32 aQ)) Tryz.func30 (trivial)
theorem k35:ba 30 ZS:=bf Tryz.func30 azL
theorem aoc{x0 x1:Int}{x2:Bool}{x3 x4 x5:Int}{x6 x7 x8:ag}{x9:Int}(h:(tP x0 x1 x2 x3 x4 x5 x6 x7 x8 x9 !=0)=false):0≤x1:=by
 have h:=bE h;unfold tP at h
 cases hm:yI x0 x1 with
 |true=>rw[hm]at h;simp at h
 |false=>
  simp [yI,tu,kQ,FI]at hm;omega
theorem loops(x1:Int)(x2:Sl aM)(hn:x2.n≤549755813888): ∀(m k:Nat) (i t u:Int),0≤i→i+(m:Int)=x2.n→m≤k→(i=0→t=x1∧u=0)→(0<i→t=(x2.at' (toNat (i-1))).c0∧u=(x2.at' (toNat (i-1))).c1∧x1≤t)→
  CI x2 (k+1) t u i=tR x1 x2 (k+1) i
 |0,k,i,t,u,h0,hi,hk,_,_=>by
  have e:decide (i<(x2.n:Int))=false:=by simp;omega
  simp only[CI,tR,e,aCI]
 |m+1,k,i,t,u,h0,hi,hk,hs,hp=>by
  obtain⟨k,rfl⟩: ∃k',k=k'+1:=⟨k-1,by omega⟩;have e:decide (i<(x2.n:Int))=true:=by simp;omega
  have w1:i64.wrap (i+1)=i+1:=aq _;have w2:i64.wrap (i-1)=i-1:=aq _;rw[CI,tR,e];simp only[aCJ];have hb:Hi x2 t u i=(bif nf x1 x2 i then true else oh x2 i):=by
   simp only[Hi,nf,oh,arQ,w2]
   cases hg:(tP (x2.at' i.toNat).c0 (x2.at' i.toNat).c1 (x2.at' i.toNat).c2 (x2.at' i.toNat).c3 (x2.at' i.toNat).c4 (x2.at' i.toNat).c5 (x2.at' i.toNat).c6 (x2.at' i.toNat).c7 (x2.at' i.toNat).c8 (x2.at' i.toNat).c9 !=0)with
   |true=>rfl
   |false=>
    have h52:=aoc hg;simp only[aCI]
    by_cases l_:i=0
    ·obtain⟨rfl,rfl⟩:=hs l_;have hd:decide (i>0)=false:=by simp;omega
     rw[hd];have h6: ¬(x2.at' i.toNat).c1<0:=by omega
     by_cases ha:(x2.at' i.toNat).c0<t<;>simp [ha,h6]
    ·obtain⟨h1,h2,h3⟩:=hp (by omega);have hd:decide (i>0)=true:=by simp;omega
     rw[hd,←h1,←h2];simp only[aCJ]
     by_cases ha:(x2.at' i.toNat).c0<t<;>by_cases hc:(x2.at' i.toNat).c0<x1<;>simp [ha,hc]<;>omega
  rw[hb]
  cases Nq:nf x1 x2 i with
  |true=>rfl
  |false=>
   simp only[aCI]
   cases hm5:oh x2 i with
   |true=>rfl
   |false=>
    simp only[aCI];rw[w1];have h3:x1≤(x2.at' i.toNat).c0:=by
     simp only[nf]at Nq;generalize (tP _ _ _ _ _ _ _ _ _ _ !=0)=b at Nq
     cases b with
     |true=>cases Nq
     |false=>
      have:=iw Nq;omega
    refine loops x1 x2 hn m k (i+1) _ _ (by omega) (by omega) (by omega) (fun h=>by omega) fun _=> ?_;rw[show i+1-1=i by omega];exact⟨rfl,rfl,h3⟩
theorem af4(x0 x1:Int)(x2:Sl aM)(hn:x2.n≤549755813888)(h0: -9223372036854775808≤x0∧x0≤9223372036854775807):cK x0 x1 x2=vP x0 x1 x2:=by
 have hr:Ve x1 x2=CJ x1 x2:=loops x1 x2 hn x2.n _ 0 x1 0 (aCT _) (by omega) (by omega) (fun _=>⟨rfl,rfl⟩) (fun h=>by omega);have hm:tQ x0 x1 x2=vQ x0 x1 x2:=by
  simp only[tQ,vQ,kQ,FI]
  by_cases a:x0<0
  ·have a': ¬0≤x0:=by omega
   simp [a,a']
  ·have a':0≤x0:=by omega
   by_cases b:x1<0
   ·have b': ¬0≤x1:=by omega
    simp [a,a',b,b']
   ·have b':0≤x1:=by omega
    by_cases c:x1>1048576
    ·have c': ¬x1≤1048576:=by omega
     simp [a,b,c,c',a',b']
    ·have c':x1≤1048576:=by omega
     by_cases d:(x2.n:Int)>200
     ·simp [a,a',b,b',c,c',d]
     ·rw[aq (1048576- (x2.n:Int))]
      by_cases e:x0≤1048576
      ·rw[aq (x0+(x2.n:Int))]
       by_cases f:x0>1048576- (x2.n:Int)
       ·have f':x0+(x2.n:Int)>1048576:=by omega
        simp [a,a',b,b',c,c',d,e,f,f']
       ·have f': ¬x0+(x2.n:Int)>1048576:=by omega
        simp [a,a',b,b',c,c',d,e,f,f']
      ·have f:x0>1048576- (x2.n:Int):=by omega
       simp [a,a',b,b',c,c',d,e,f]
 simp only[cK,vP,af5,MC,hm,hr]
section
variable(x0:Int)(x1:Int)(x2:Int)(x3:Int)(x4:Int)(x5:Int)(x6:ag)(x7:ag)(x8:ag)(x9:Int)
def adx:Bool:=(bif(x0==6)then(x0==6)else(bif(x0==7)then(x0==7)else(x0==8)))
def ady:Bool:=(bif(x0==5)then(x0==5)else(x0==9))
def mZ:Bool:=(bif(adx x0)then false else(bif(ady x0)then true else(bif(x0==12)then false else true)))
def m4:Bool:=(bif(adx x0)then true else(bif(ady x0)then true else false))
def akX:Fq:=⟨[.v kI],fun x0=>⟨⟨none,.cU [.bool (mZ x0),.bool (m4 x0)]⟩⟩⟩
theorem auE:ba 40 akX:=bf Tryz.func40
 fun(x0:Int)=>bj (ms:=[.f,(.b .f (.b .f .l))]) ⟨.pure,[.tmp 2,.tmp 3],[(.t 0,kB),(.t 1,kB)],⟨[U,U],[]⟩⟩ (.ai (.s (.ai (.j ⟨60,[],[(.t 5,kB)],[],.f⟩ .z (.ai (.j ⟨540,[],[(.t 9,kB)],[],.f⟩ .z .z)))) .z)) True fK Tryz.func40 (trivial)
def Hj:Bool:=(bif(decide (x0<1))then true else(decide (x0>12)))
def CL:Bool:=(bif(mZ x0)then(bif(decide (x1<0))then true else(bif(decide (x1≥3))then true else(bif(m4 x0)then(bif(decide (x2<0))then true else(decide (x2>400000)))else false)))else(bif(m4 x0)then(bif(decide (x2<0))then true else(decide (x2>400000)))else false))
def yJ:Bool:=(bif(!(mZ x0))then(bif(x1 !=0)then true else(bif(!(m4 x0))then(bif(x2 !=0)then true else(bif(x0 !=1)then(!((x3==0)&&((x4==0)&&((x5==0)&&(((x6:ag).toList==(⟨#[]⟩:ag).toList)&&(((x7:ag).toList==(⟨#[]⟩:ag).toList)&&(((x8:ag).toList==(⟨#[]⟩:ag).toList)&&((x9==0)&&true))))))))else false))else(bif(x0 !=1)then(!((x3==0)&&((x4==0)&&((x5==0)&&(((x6:ag).toList==(⟨#[]⟩:ag).toList)&&(((x7:ag).toList==(⟨#[]⟩:ag).toList)&&(((x8:ag).toList==(⟨#[]⟩:ag).toList)&&((x9==0)&&true))))))))else false)))else(bif(!(m4 x0))then(bif(x2 !=0)then true else(bif(x0 !=1)then(!((x3==0)&&((x4==0)&&((x5==0)&&(((x6:ag).toList==(⟨#[]⟩:ag).toList)&&(((x7:ag).toList==(⟨#[]⟩:ag).toList)&&(((x8:ag).toList==(⟨#[]⟩:ag).toList)&&((x9==0)&&true))))))))else false))else(bif(x0 !=1)then(!((x3==0)&&((x4==0)&&((x5==0)&&(((x6:ag).toList==(⟨#[]⟩:ag).toList)&&(((x7:ag).toList==(⟨#[]⟩:ag).toList)&&(((x8:ag).toList==(⟨#[]⟩:ag).toList)&&((x9==0)&&true))))))))else false)))
def o7:Int:=(bif(Hj x0)then 3 else(bif(CL x0 x1 x2)then 2 else(bif(yJ x0 x1 x2 x3 x4 x5 x6 x7 x8 x9)then 8 else(bif(x0==1)then(jG x3 x4 x5 x6 x7 x8 x9)else 0))))
def F56:Fq:=⟨[.g [kI,kI,kI,kI,kI,kI,kS,kS,kS,kI]],fun x0 x1 x2 x3 x4 x5 x6 x7 x8 x9=>⟨⟨none,ae (o7 x0 x1 x2 x3 x4 x5 x6 x7 x8 x9)⟩⟩⟩
theorem k56:ba 28 F56:=bf Tryz.func28
 fun(x0:Int) (x1:Int) (x2:Int) (x3:Int) (x4:Int) (x5:Int) x6 _ x7 _ x8 _ (x9:Int)=>bj ⟨.pure,[.tmp 2],[(.t 0,kI)],⟨[U],[]⟩⟩ (.ai (.s (.j ⟨4102,[],[(.t 12,kB)],[],.f⟩ .z .z) (.ai (.s (.j ⟨524318,[],[(.t 19,kB)],[],.f⟩ .z (.ai (.j ⟨17592186044422,[],[(.t 44,kB)],[],.f⟩ .z .z))) .z)))) True (bU (aH WV (aH auE aQ))) Tryz.func28 (trivial)
end
section
def BS(x0:Int):Int:=x0
def afe:Bool:=false
def Gh:Int:=0
def B2:Int:=0
def LA(x1:Int):Int:=x1
def LB(x2:Int):Int:=x2
def LC(x9:Int):Int:=x9
def LD(au:Int):Int:=au
def LF(a_:Sl aM):Sl aM:=a_
variable(x3:Int)(x5:Int)(x6:Sl ar)(x7:Int)(x8:Sl aG)
def LG:Int:=x3
def Lo(x4:Int):Int:=x4
def Lp:Int:=x5
def Lq:Sl ar:=x6
def Lr:Int:=x7
def Ls:Sl aG:=x8
def Lt:Int:=x5
def Lu:Sl ar:=x6
def Lv:Int:=x7
def Lx:Sl aG:=x8
def Ly:Int:=x3
def BT:Bool:=false
def BU:Bool:=false
def BV:Bool:=false
def BW:Int:=0
def BX:Int:=0
def BY:Int:=0
def BZ:Int:=0
def B0:Int:=0
def B1:Int:=0
def Gi:Sl Int:=(al:Sl Int)
def Gj:Int:=0
def amA:Fq:=⟨[.v kI,.g [kI,kI,kI,kI,kI,.sl aZ,kI,.sl bG,kI,kI,.sl cZ]],fun x0 x1 x2 x3 x4 x5 x6 x7 x8 x9 au a_=>⟨⟨none,.agg [ae (BS x0),.bool afe,ae Gh,ae B2,ae (LA x1),ae (LB x2),ae (LC x9),ae (LD au),aL 10 dH (LF a_),ae (LG x3),ae (Lo x4),ae (Lp x5),aL 8 gn (Lq x6),ae (Lr x7),aL 7 gP (Ls x8),ae (Lt x5),aL 8 gn (Lu x6),ae (Lv x7),aL 7 gP (Lx x8),ae (Ly x3),.bool BT,.bool BU,.bool BV,ae BW,ae BX,ae BY,ae BZ,ae B0,ae B1,.aE,aL 1 e5 Gi,ae Gj,.aE]⟩⟩⟩
theorem ahx:ba 29 amA:=bf Tryz.func29
 fun(x0:Int) (x1:Int) (x2:Int) (x3:Int) (x4:Int) (x5:Int) x6 _ _ (x7:Int) x8 _ _ (x9:Int) (au:Int) a_ _ _=>bj ⟨.pure,[.cell 4 88],[(.c 0 0,kI),(.c 0 1,kB),(.c 0 2,kI),(.c 0 3,kI),(.c 0 4,kI),(.c 0 5,kI),(.c 0 6,kI),(.c 0 7,kI),(.c 0 8,.sl cZ),(.c 0 9,kI),(.c 0 10,kI),(.c 0 11,kI),(.c 0 12,.sl aZ),(.c 0 13,kI),(.c 0 14,.sl bG),(.c 0 15,kI),(.c 0 16,.sl aZ),(.c 0 17,kI),(.c 0 18,.sl bG),(.c 0 19,kI),(.c 0 20,kB),(.c 0 21,kB),(.c 0 22,kB),(.c 0 23,kI),(.c 0 24,kI),(.c 0 25,kI),(.c 0 26,kI),(.c 0 27,kI),(.c 0 28,kI),(.c 0 30,.sl E5),(.c 0 31,kI)],⟨[.agg [U,U,U,U,U,U,U,U,U,U,U,U,U,U,U,U,U,U,U,U,U,U,U,U,U,U,U,U,U,.aE,U,U,.aE]],[]⟩⟩ (.z) True fK Tryz.func29 (trivial)
end
end Go.Proofs.YtfmgjpcmcjjoiaaGreatDoor
namespace Go.Proofs.YtfmgjpcmcjjoiaaGreatDoor
open Go Go.Proofs Go.RowKit Go.Shelf Go.Vc
abbrev amE:Hq:=xj bK
theorem ahz:jM Tryz.prog 43 amE.gW:=A7 (E:=bK) (z:=(.agg #[.int .i64 0,.int .i64 0,.int .i64 0,.int .i64 0,.int .i64 0,.int .i64 0,.bool false,.int .i64 0,.slice none 0 0,.int .i64 0,.int .i64 0,.int .i64 0,.slice none 0 0,.int .i64 0,.slice none 0 0])) (A6 (ρ:=A5 43 86 117) (b:=168) mixed ⟨ "slices.Delete[[]rostrum/api.Message,rostrum/api.Message]",by kernel_rfl,by kernel_rfl⟩ (by kernel_rfl) (by kernel_rfl)) ⟨_,_,Tryz.func43,rfl,by kernel_rfl⟩ (sF rfl (by kernel_rfl))
end Go.Proofs.YtfmgjpcmcjjoiaaGreatDoor
namespace Go.Proofs.YtfmgjpcmcjjoiaaGreatDoor
open Go Go.RowKit Go.Vc
def q_(x0:Int)(x2:Int):Int:=(i64.wrap (x0-x2))
def amC:Fq:=⟨[.g [kI,kI],.g [kI,kI]],fun x0 _ x2 _=>⟨⟨none,ae (q_ x0 x2)⟩⟩⟩
theorem ahy:ba 34 amC:=bf Tryz.func34
 fun(x0:Int) (x1:Int) (x2:Int) (x3:Int)=>bj ⟨.pure,[.tmp 4],[(.t 0,kI)],⟨[U],[]⟩⟩ (.z) True fK Tryz.func34 (trivial)
theorem Sl.A3{α:Type}{s:Sl α}{n:Nat}(h:s.n=n):Sl.cut s n=s:=by subst h;rfl
theorem half{x:Int}(h0:0≤x)(h1:x≤4611686018427387904):i64.wrap (u64.wrap (i64.wrap x)/2^(toNat 1))=x/2:=by
 have e:(2:Int)^(toNat 1)=2:=rfl;rw[e,aq x];have u:u64.wrap x=x%18446744073709551616:=rfl;rw[u,aq (x%18446744073709551616/2)];omega
end Go.Proofs.YtfmgjpcmcjjoiaaGreatDoor
