/- Part of a proof: walks of the program. -/
import Derived.Test.YtfmgjpcmcjjoiaaGreatDoorXk
open Go.IntKind (i64 u64 u8)
open Int (toNat)
set_option maxRecDepth 100000
set_option maxHeartbeats 4000000
set_option linter.all false
noncomputable section
namespace Go.Proofs.YtfmgjpcmcjjoiaaGreatDoor
open Go Go.RowKit Go.Vc
def KG(x0:Sl ag):Nat→Int→Sl Int→Sl Int
 |0,_,_=>default
 |k+1,af,ak=>(bif(decide (af<(x0.n:Int)))then(KG x0 k (i64.wrap (af+1)) (dk (x0.at' (toNat af)) ak))else ak)
def adI(x0:Sl ag)(x1:Sl Int):Sl Int:=KG x0 ((toNat ((x0.n:Int)-0))+1) 0 (da (x0.n:Int) x1)
def mz(x0:Sl ag)(x1:Sl Int):Sl Int:=(adI x0 x1)
def alo:Hq:=⟨[.p 0,.v (.sl E9)],[(.h 1 0,.ah E5)],[[.own 1 0],[U]],fun x0 x1=>⟨⟨some (sK x0∧x1.n≤250000000000),[],[[.own 1 ((mz x0 x1)).n],[(Kd.ah E5).av (mz x0 x1)]]⟩⟩⟩
theorem ahp:dz 134 alo:=dE Tryz.func134
 fun x0 n0 x1 n1 hp=>dy ⟨.heap,[],[(.h 1 0,.ah E5)],⟨[],[[.own 1 0],[U]]⟩⟩ (.ai (.ai (.lp ⟨7169,[],[],[(.t 12,kI),(.h 1 0,.ah E5)],some 0,false,0,[],[(.h 1 0,.ah E5)],fun k (s:Int×Sl Int)=>KG x0 k s.1 s.2,.f,fun(s:Int×Sl Int)=>(0≤s.1∧s.1≤(x0.n:Int)∧(s.2.n:Int)≤(x1.n:Int)+1+s.1*21),fun(s:Int×Sl Int)=>(toNat ((x0.n:Int)-s.1)),none⟩ .z))) ((x1.n≤400000000000)∧(((0≤(0:Int)∧(0:Int)≤(x0.n:Int)∧(((da (x0.n:Int) x1).n:Nat):Int)≤(x1.n:Int)+1+(0:Int)*21))∧(∀(af:Int) (ak:Sl Int),let za:=x0.at' (toNat af);let z8:=decide (af<(x0.n:Int));let z6:=i64.wrap (af+1);(0≤af∧af≤(x0.n:Int)∧(ak.n:Int)≤(x1.n:Int)+1+af*21)→((z8=true→(((0:Int)≤af∧af<(x0.n:Int))∧(ak.n≤300000000000∧za.size≤10000000000)))∧(z8=true→((0≤z6∧z6≤(x0.n:Int)∧(((dk za ak).n:Nat):Int)≤(x1.n:Int)+1+z6*21)∧(toNat ((x0.n:Int)-z6))<(toNat ((x0.n:Int)-af)))))))) (bB 2 aQ (az DA (az N7 bA))) Tryz.func134 (have⟨cn,dv⟩:=hp;⟨(by omega),⟨(by have:=iZ (x0.n:Int) x1;omega),(fun af ak dX=>⟨(fun h2=>⟨(by have:=ay h2;omega),(by have:=ay h2;have:=cn.1;have:=cn.2 (toNat af) (by omega);omega)⟩),(fun h3=>(by have:=ay h3;have:=cn.2 (toNat af) (by omega);have:=jq (x0.at' (toNat af)) ak;have:=aq (af+1);omega))⟩)⟩⟩)
def Jf(l:Sl ag):List Int:=sb (l.n:Int)++cat (fun i=>tb (l.at' i)) l.n 0
theorem wM{x:ag}(h:x.size≤20):(tb x).length≤21:=by rw[aAZ x (by omega)];omega
theorem Zo{l:Sl ag}(h:sK l):(Jf l).length≤421:=by
 unfold Jf;have h1:=h.1;have h2:=AU (f:=fun i=>tb (l.at' i)) (D:=21) l.n 0 fun j _ hj=>wM (h.2 j (by omega));rw[aC8,Pe];omega
theorem PA(l:Sl ag)(w:Sl Int)(h:sK l):(mz l w).B=w.B++Jf l:=by
 have h1:(mz l w).B=(da (l.n:Int) w).B++cat (fun i=>tb (l.at' i)) l.n 0:=
  DG (KG l) l.n 21 (w.n+1) (fun i s=>dk (l.at' (toNat i)) s) (fun i=>tb (l.at' i)) (by have:=h.1;omega) (fun _ _ _=>rfl) (fun i s hi _=>by
   have hz:=h.2 i hi;simp only[aCZ];exact⟨AA s (by omega),wM hz⟩) _ (by rw[iZ];exact aCK _)
 rw[h1,Az,aDe];rfl
theorem Xs(x0:Sl ag)(x1:Sl Int)(h:sK x0):(mz x0 x1).n≤x1.n+421:=by
 rw[←eJ,PA _ _ h,aC8,eJ];have:=Zo h;omega
section
def KD(x3:Sl bk):Nat→Int→Sl Int→Sl Int
 |0,_,_=>default
 |k+1,af,ak=>(bif(decide (af<(x3.n:Int)))then(KD x3 k (i64.wrap (af+1)) (dk (x3.at' (toNat af)).c1 (dk (x3.at' (toNat af)).c0 ak)))else ak)
variable(x0:Int)(x1:ag)(x2:Int)(x3:Sl bk)(x4:Sl ag)(x5:Sl bD)(x6:Sl Int)
def tx:Sl Int:=KD x3 ((toNat ((x3.n:Int)-0))+1) 0 (da (x3.n:Int) (bo x2 (dk x1 (da x0 x6))))
def KE(x5:Sl bD):Nat→Int→Sl Int→Sl Int
 |0,_,_=>default
 |k+1,bg,ju=>(bif(decide (bg<(x5.n:Int)))then(KE x5 k (i64.wrap (bg+1)) (bo (x5.at' (toNat bg)).c1 (dk (x5.at' (toNat bg)).c0 ju)))else ju)
def KF:Sl Int:=KE x5 ((toNat ((x5.n:Int)-0))+1) 0 (da (x5.n:Int) (mz x4 (tx x0 x1 x2 x3 x6)))
def tw:Sl Int:=(KF x0 x1 x2 x3 x4 x5 x6)
def aln:Hq:=⟨[.p 0,.g [kI,kS,kI,.sl cN,.sl E9,.sl cH]],[(.h 1 0,.ah E5)],[[.own 1 0],[U]],fun(x0:Int) x1 (x2:Int) x3 x4 x5 x6=>let z6:=tw x0 x1 x2 x3 x4 x5 x6;⟨⟨some (sM x1 x2 x3 x4 x5∧x6.n≤200000000000),[],[[.own 1 (z6).n],[(Kd.ah E5).av z6]]⟩⟩⟩
theorem auR:dz 133 aln:=dE Tryz.func133
 fun(x0:Int) x1 n1 (x2:Int) x3 n3 x4 n4 x5 n5 x6 n6 hp=>dy ⟨.heap,[],[(.h 1 0,.ah E5)],⟨[],[[.own 1 0],[U]]⟩⟩ (.ai (.ai (.ai (.ai (.ai (.j ⟨9,[],[],[],.f⟩ (.ai (.lp ⟨469762057,[],[],[(.t 28,kI),(.h 1 0,.ah E5)],some 0,false,9,[],[(.h 1 0,.ah E5)],fun k (s:Int×Sl Int)=>KD x3 k s.1 s.2,.f,fun(s:Int×Sl Int)=>(0≤s.1∧s.1≤(x3.n:Int)∧(s.2.n:Int)≤(x6.n:Int)+40+s.1*42),fun(s:Int×Sl Int)=>(toNat ((x3.n:Int)-s.1)),some fun(r:Sl Int)=>(r.n:Int)≤(x6.n:Int)+880⟩ .z)) (.ai (.ai (.ai (.lp ⟨15762598695796737,[.b 2],[],[(.t 53,kI),(.h 1 0,.ah E5)],some 2,false,0,[],[(.h 1 0,.ah E5)],fun k (s:Int×Sl Int)=>KE x5 k s.1 s.2,.f,fun(s:Int×Sl Int)=>(0≤s.1∧s.1≤(x5.n:Int)∧(s.2.n:Int)≤(x6.n:Int)+1400+s.1*29),fun(s:Int×Sl Int)=>(toNat ((x5.n:Int)-s.1)),none⟩ .z)))))))))) (let ze:=dk x1 (da x0 x6);let zc:=tx x0 x1 x2 x3 x6;(x6.n≤400000000000)∧(((da x0 x6).n≤300000000000∧x1.size≤10000000000)∧((ze.n≤400000000000)∧(((bo x2 ze).n≤400000000000)∧((((0≤(0:Int)∧(0:Int)≤(x3.n:Int)∧(((da (x3.n:Int) (bo x2 ze)).n:Nat):Int)≤(x6.n:Int)+40+(0:Int)*42))∧(∀(af:Int) (ak:Sl Int),let zd:=decide (af<(x3.n:Int));let z8:=i64.wrap (af+1);let z6:=x3.at' (toNat af);(0≤af∧af≤(x3.n:Int)∧(ak.n:Int)≤(x6.n:Int)+40+af*42)→((zd=true→(((0:Int)≤af∧af<(x3.n:Int))∧((ak.n≤300000000000∧z6.c0.size≤10000000000)∧((dk z6.c0 ak).n≤300000000000∧z6.c1.size≤10000000000))))∧((zd=true→((0≤z8∧z8≤(x3.n:Int)∧(((dk z6.c1 (dk z6.c0 ak)).n:Nat):Int)≤(x6.n:Int)+40+z8*42)∧(toNat ((x3.n:Int)-z8))<(toNat ((x3.n:Int)-af))))∧(zd=false→((ak.n:Int)≤(x6.n:Int)+880))))))∧(((zc.n:Int)≤(x6.n:Int)+880)→((sK x4∧zc.n≤250000000000)∧(((mz x4 zc).n≤400000000000)∧(((0≤(0:Int)∧(0:Int)≤(x5.n:Int)∧(((da (x5.n:Int) (mz x4 zc)).n:Nat):Int)≤(x6.n:Int)+1400+(0:Int)*29))∧(∀(bg:Int) (ju:Sl Int),let zf:=decide (bg<(x5.n:Int));let zb:=x5.at' (toNat bg);let za:=i64.wrap (bg+1);(0≤bg∧bg≤(x5.n:Int)∧(ju.n:Int)≤(x6.n:Int)+1400+bg*29)→((zf=true→(((0:Int)≤bg∧bg<(x5.n:Int))∧((ju.n≤300000000000∧zb.c0.size≤10000000000)∧((dk zb.c0 ju).n≤400000000000))))∧(zf=true→((0≤za∧za≤(x5.n:Int)∧(((bo zb.c1 (dk zb.c0 ju)).n:Nat):Int)≤(x6.n:Int)+1400+za*29)∧(toNat ((x5.n:Int)-za))<(toNat ((x5.n:Int)-bg))))))))))))))) (bB 2 aQ (az Iw (az DA (az N7 (az ahp bA))))) Tryz.func133 (have⟨cn,dv⟩:=hp;⟨(by omega),⟨(by have:=cn.1;have:=iZ x0 x6;omega),⟨(by have:=cn.1;have:=jq x1 (da x0 x6);have:=iZ x0 x6;omega),⟨(by have:=cn.1;have:=eP x2 (dk x1 (da x0 x6));have:=jq x1 (da x0 x6);have:=iZ x0 x6;omega),⟨⟨(by have:=cn.1;have:=iZ (x3.n:Int) (bo x2 (dk x1 (da x0 x6)));have:=eP x2 (dk x1 (da x0 x6));have:=jq x1 (da x0 x6);have:=iZ x0 x6;omega),(fun af ak dX=>⟨(fun h2=>⟨(by have:=ay h2;omega),⟨(by have:=ay h2;have:=cn.2.1;have:=cn.2.2.1 (toNat af) (by omega);omega),(by have:=ay h2;have:=cn.2.1;have:=cn.2.2.1 (toNat af) (by omega);have:=jq (x3.at' (toNat af)).c0 ak;omega)⟩⟩),⟨(fun h3=>(by have:=ay h3;have:=cn.2.2.1 (toNat af) (by omega);have:=jq (x3.at' (toNat af)).c1 (dk (x3.at' (toNat af)).c0 ak);have:=jq (x3.at' (toNat af)).c0 ak;have:=aq (af+1);omega)),(fun h4=>(by have:=cn.2.1;omega))⟩⟩)⟩,(fun Vt=>⟨⟨(by repeat first|assumption|apply kD),(by omega)⟩,⟨(by have:=Xs x4 (tx x0 x1 x2 x3 x6) (by repeat first|assumption|apply w6|apply w5|apply kD);omega),⟨(by have:=iZ (x5.n:Int) (mz x4 (tx x0 x1 x2 x3 x6));have:=Xs x4 (tx x0 x1 x2 x3 x6) (by repeat first|assumption|apply w6|apply w5|apply kD);omega),(fun bg ju MV=>⟨(fun h7=>⟨(by have:=ay h7;omega),⟨(by have:=ay h7;have:=cn.2.1;have:=cn.2.2.2.2 (toNat bg) (by omega);omega),(by have:=ay h7;have:=cn.2.1;have:=cn.2.2.2.2 (toNat bg) (by omega);have:=jq (x5.at' (toNat bg)).c0 ju;omega)⟩⟩),(fun h8=>(by have:=ay h8;have:=cn.2.2.2.2 (toNat bg) (by omega);have:=eP (x5.at' (toNat bg)).c1 (dk (x5.at' (toNat bg)).c0 ju);have:=jq (x5.at' (toNat bg)).c0 ju;have:=aq (bg+1);omega))⟩)⟩⟩⟩)⟩⟩⟩⟩⟩)
end
def pf(s:Sl bk)(i:Nat):List Int:=tb (s.at' i).c0++tb (s.at' i).c1
def sf(s:Sl bD)(i:Nat):List Int:=tb (s.at' i).c0++nb (s.at' i).c1
def vb(x0:Int)(x1:ag)(x2:Int)(x3:Sl bk)(x4:Sl ag)(x5:Sl bD):List Int:=
 sb x0++(tb x1++(nb x2++(sb (x3.n:Int)++(cat (pf x3) x3.n 0++(Jf x4++(sb (x5.n:Int)++cat (sf x5) x5.n 0))))))
theorem aiU{s:Sl bk}{i:Nat}(h:(s.at' i).c0.size≤20∧(s.at' i).c1.size≤20):(pf s i).length≤42:=by
 have a:=wM h.1;have b:=wM h.2;unfold pf;rw[aC8];omega
theorem ajK{s:Sl bD}{i:Nat}(h:(s.at' i).c0.size≤20):(sf s i).length≤29:=by
 have a:=wM h;unfold sf;rw[aC8,IJ];omega
theorem aj6{x0:Int}{x1:ag}{x2:Int}{x3:Sl bk}{x4:Sl ag}{x5:Sl bD}(h:sM x1 x2 x3 x4 x5):(vb x0 x1 x2 x3 x4 x5).length≤2000:=by
 have a:=wM h.1.1;have b:=Zo (kD h);have c:=AU (f:=pf x3) (D:=42) x3.n 0 fun j _ hj=>aiU (h.2.2.1 j (by omega));have d:=AU (f:=sf x5) (D:=29) x5.n 0 fun j _ hj=>ajK (h.2.2.2.2 j (by omega)).1;have e:=h.2.1;unfold vb;simp only[aC8,Pe,IJ];omega
theorem ZL(x0:Int)(x1:ag)(x2:Int)(x3:Sl bk)(x4:Sl ag)(x5:Sl bD)(w:Sl Int)(h:sM x1 x2 x3 x4 x5):(tw x0 x1 x2 x3 x4 x5 w).B=w.B++vb x0 x1 x2 x3 x4 x5:=by
 have hn:=h.2.1;have h1:(tx x0 x1 x2 x3 w).B=(da (x3.n:Int) (bo x2 (dk x1 (da x0 w)))).B++cat (pf x3) x3.n 0:=
  DG (KD x3) x3.n 42 _ (fun i s=>dk (x3.at' (toNat i)).c1 (dk (x3.at' (toNat i)).c0 s)) (pf x3) (by omega) (fun _ _ _=>rfl) (fun i s hi _=>by
   have hz:=h.2.2.1 i hi;simp only[aCZ];exact⟨by rw[AA _ (by omega),AA _ (by omega),aDe];rfl,aiU hz⟩) _ (aCK _)
 have h2:(KF x0 x1 x2 x3 x4 x5 w).B=(da (x5.n:Int) (mz x4 (tx x0 x1 x2 x3 w))).B++cat (sf x5) x5.n 0:=
  DG (KE x5) x5.n 29 _ (fun i s=>bo (x5.at' (toNat i)).c1 (dk (x5.at' (toNat i)).c0 s)) (sf x5) (by omega) (fun _ _ _=>rfl) (fun i s hi _=>by
   have hz:=h.2.2.2.2 i hi;simp only[aCZ];exact⟨by rw[u7 _ (by omega) (by omega),AA _ (by omega),aDe];rfl,ajK hz.1⟩) _ (aCK _)
 have hx:=h.1;show(KF x0 x1 x2 x3 x4 x5 w).B=_;rw[h2,Az,PA _ _ (kD h),h1,Az,u7 _ (by omega) (by omega),AA _ (by omega),Az];simp only[vb,aDe]
theorem ahQ(x0:Int)(x1:ag)(x2:Int)(x3:Sl bk)(x4:Sl ag)(x5:Sl bD)(w:Sl Int)(h:sM x1 x2 x3 x4 x5):(tw x0 x1 x2 x3 x4 x5 w).n≤w.n+2000:=by
 rw[←eJ,ZL _ _ _ _ _ _ _ h,aC8,eJ];have:=aj6 (x0:=x0) h;omega
theorem Bh{s:Sl ar}(h:fJ (aL 8 gn s)):CZ s:=⟨h.len,fun i hi=>⟨(h.at (j:=4) (x:=aL 2 fM (s.at' i).c4) hi (by omega) rfl).len,(h.at (j:=5) (x:=aL 1 e9 (s.at' i).c5) hi (by omega) rfl).len,(h.at (j:=6) (x:=aL 2 fN (s.at' i).c6) hi (by omega) rfl).len⟩⟩
theorem Fo{s:Sl aG}(h:fJ (aL 7 gP s)):CY s:=⟨h.len,fun i hi=>(h.at (j:=6) (x:=aL 1 e9 (s.at' i).c6) hi (by omega) rfl).len⟩
section
def MJ(x1:Sl ar):Nat→Int→Sl Int→Sl Int
 |0,_,_=>default
 |k+1,aB,cu=>let z6:=x1.at' (toNat aB);(bif(decide (aB<(x1.n:Int)))then(MJ x1 k (i64.wrap (aB+1)) (bo z6.c7 (tw z6.c1 z6.c2 z6.c3 z6.c4 z6.c5 z6.c6 (dk z6.c0 cu))))else cu)
variable(x0:Int)(x1:Sl ar)(x2:Int)(x3:Sl aG)
def tU:Sl Int:=MJ x1 ((toNat ((x1.n:Int)-0))+1) 0 (da (x1.n:Int) (bo x0 (al:Sl Int)))
def MK(x3:Sl aG):Nat→Int→Sl Int→Sl Int
 |0,_,_=>default
 |k+1,aW,dQ=>let z6:=x3.at' (toNat aW);(bif(decide (aW<(x3.n:Int)))then(MK x3 k (i64.wrap (aW+1)) (mz z6.c6 (bo z6.c5 (dk z6.c4 (da z6.c3 (bo z6.c2 (bo z6.c1 (bo z6.c0 dQ))))))))else dQ)
def Hl:Sl Int:=MK x3 ((toNat ((x3.n:Int)-0))+1) 0 (da (x3.n:Int) (bo x2 (tU x0 x1)))
def om:Sl Int:=(bif((gJ x0 x1 x2 x3)!=0)then(al:Sl Int)else(Hl x0 x1 x2 x3))
def ar0:Int:=(bif((gJ x0 x1 x2 x3)!=0)then(gJ x0 x1 x2 x3)else 0)
def F90:Fq:=⟨[.g [kI,.sl aZ,kI,.sl bG]],fun x0 x1 x2 x3=>⟨⟨none,.cU [aL 1 e5 (om x0 x1 x2 x3),ae (ar0 x0 x1 x2 x3)]⟩⟩⟩
theorem k90:ba 113 F90:=bf Tryz.func113
 fun(x0:Int) x1 n1 f1 (x2:Int) x3 n3 f3=>bj ⟨.pure,[.tmp 2,.tmp 3],[(.t 0,.sl E5),(.t 1,kI)],⟨[U,U],[]⟩⟩ (.ai (.ai (.ai (.s (.cv [(.h 1 0,E5)]) (.ai (.j ⟨46,[],[],[],.f⟩ (.ai (.lp ⟨7516192814,[],[],[(.t 32,kI),(.h 2 0,.ah E5)],some 0,false,46,[],[(.h 2 0,.ah E5)],fun k (s:Int×Sl Int)=>MJ x1 k s.1 s.2,.f,fun(s:Int×Sl Int)=>(0≤s.1∧s.1≤(x1.n:Int)∧(s.2.n:Int)≤10+s.1*2100),fun(s:Int×Sl Int)=>(toNat ((x1.n:Int)-s.1)),some fun(r:Sl Int)=>(r.n:Int)≤25300⟩ .z)) (.ai (.ai (.j ⟨44,[],[],[],.f⟩ (.ai (.lp ⟨4035225266123964460,[.b 0],[],[(.t 61,kI),(.h 2 0,.ah E5)],some 2,false,44,[],[(.h 2 0,.ah E5)],fun k (s:Int×Sl Int)=>MK x3 k s.1 s.2,.f,fun(s:Int×Sl Int)=>(0≤s.1∧s.1≤(x3.n:Int)∧(s.2.n:Int)≤25400+s.1*500),fun(s:Int×Sl Int)=>(toNat ((x3.n:Int)-s.1)),none⟩ .z)) .z))))))))) (let zk:=bo x0 (al:Sl Int);let zg:=tU x0 x1;((gJ x0 x1 x2 x3)!=0)=false→((0≤400000000000)∧((zk.n≤400000000000)∧((((0≤(0:Int)∧(0:Int)≤(x1.n:Int)∧(((da (x1.n:Int) zk).n:Nat):Int)≤10+(0:Int)*2100))∧(∀(aB:Int) (cu:Sl Int),let ze:=decide (aB<(x1.n:Int));let zb:=i64.wrap (aB+1);let z8:=x1.at' (toNat aB);let zd:=tw z8.c1 z8.c2 z8.c3 z8.c4 z8.c5 z8.c6 (dk z8.c0 cu);(0≤aB∧aB≤(x1.n:Int)∧(cu.n:Int)≤10+aB*2100)→((ze=true→(((0:Int)≤aB∧aB<(x1.n:Int))∧((cu.n≤300000000000∧z8.c0.size≤10000000000)∧((sM z8.c2 z8.c3 z8.c4 z8.c5 z8.c6∧(dk z8.c0 cu).n≤200000000000)∧(zd.n≤400000000000)))))∧((ze=true→((0≤zb∧zb≤(x1.n:Int)∧(((bo z8.c7 zd).n:Nat):Int)≤10+zb*2100)∧(toNat ((x1.n:Int)-zb))<(toNat ((x1.n:Int)-aB))))∧(ze=false→((cu.n:Int)≤25300))))))∧(((zg.n:Int)≤25300)→((zg.n≤400000000000)∧(((bo x2 zg).n≤400000000000)∧(((0≤(0:Int)∧(0:Int)≤(x3.n:Int)∧(((da (x3.n:Int) (bo x2 zg)).n:Nat):Int)≤25400+(0:Int)*500))∧(∀(aW:Int) (dQ:Sl Int),let zj:=decide (aW<(x3.n:Int));let zc:=i64.wrap (aW+1);let z6:=x3.at' (toNat aW);let zi:=bo z6.c0 dQ;let za:=bo z6.c2 (bo z6.c1 zi);let zf:=dk z6.c4 (da z6.c3 za);(0≤aW∧aW≤(x3.n:Int)∧(dQ.n:Int)≤25400+aW*500)→((zj=true→(((0:Int)≤aW∧aW<(x3.n:Int))∧((dQ.n≤400000000000)∧((zi.n≤400000000000)∧(((bo z6.c1 zi).n≤400000000000)∧((za.n≤400000000000)∧(((da z6.c3 za).n≤300000000000∧z6.c4.size≤10000000000)∧((zf.n≤400000000000)∧(sK z6.c6∧(bo z6.c5 zf).n≤250000000000)))))))))∧(zj=true→((0≤zc∧zc≤(x3.n:Int)∧(((mz z6.c6 (bo z6.c5 zf)).n:Nat):Int)≤25400+zc*500)∧(toNat ((x3.n:Int)-zc))<(toNat ((x3.n:Int)-aW)))))))))))))) (bB 0 (aH Oa aQ) (az Iw (az DA (az N7 (az auR (az ahp bA)))))) Tryz.func113 (have:=Bh f1;have:=Fo f3;(fun h1=>⟨(by omega),⟨(by have:=eP x0 (al:Sl Int);have:(al:Sl Int).n=0:=rfl;omega),⟨⟨(by have:=iZ (x1.n:Int) (bo x0 (al:Sl Int));have:=eP x0 (al:Sl Int);have:(al:Sl Int).n=0:=rfl;omega),(fun aB cu jk=>⟨(fun h3=>⟨(by have:=ay h3;omega),⟨(by have hM:=ij _ _ _ _ (by first|assumption|exact CE.z (by assumption)) (by first|assumption|exact CC.y (by assumption)) (bE h1);have:=hM.1;have:=ay h3;have hE:=hM.2.1 (toNat aB) (by omega);have:=hE.1;omega),⟨⟨(by have hM:=ij _ _ _ _ (by first|assumption|exact CE.z (by assumption)) (by first|assumption|exact CC.y (by assumption)) (bE h1);have:=hM.1;have:=ay h3;have hE:=hM.2.1 (toNat aB) (by omega);have:=hE.1;have:=hE.2.1;have:=hE.2.2;assumption),(by have hM:=ij _ _ _ _ (by first|assumption|exact CE.z (by assumption)) (by first|assumption|exact CC.y (by assumption)) (bE h1);have:=hM.1;have:=ay h3;have hE:=hM.2.1 (toNat aB) (by omega);have:=hE.1;have:=jq (x1.at' (toNat aB)).c0 cu;omega)⟩,(by have hM:=ij _ _ _ _ (by first|assumption|exact CE.z (by assumption)) (by first|assumption|exact CC.y (by assumption)) (bE h1);have:=hM.1;have:=ay h3;have hE:=hM.2.1 (toNat aB) (by omega);have:=hE.1;have:=hE.2.1;have:=ahQ (x1.at' (toNat aB)).c1 (x1.at' (toNat aB)).c2 (x1.at' (toNat aB)).c3 (x1.at' (toNat aB)).c4 (x1.at' (toNat aB)).c5 (x1.at' (toNat aB)).c6 (dk (x1.at' (toNat aB)).c0 cu) (by repeat first|assumption|apply s_|apply ta|apply uW|apply qP|apply wA|apply mM|apply rZ|apply uO|apply uN|apply ss|apply rD|apply rE|apply jt|apply uU|apply xg|apply mi|apply kD|apply oE|apply And.intro);have:=jq (x1.at' (toNat aB)).c0 cu;omega)⟩⟩⟩),⟨(fun h4=>(by have hM:=ij _ _ _ _ (by first|assumption|exact CE.z (by assumption)) (by first|assumption|exact CC.y (by assumption)) (bE h1);have:=ay h4;have hE:=hM.2.1 (toNat aB) (by omega);have:=hE.1;have:=hE.2.1;have:=eP (x1.at' (toNat aB)).c7 (tw (x1.at' (toNat aB)).c1 (x1.at' (toNat aB)).c2 (x1.at' (toNat aB)).c3 (x1.at' (toNat aB)).c4 (x1.at' (toNat aB)).c5 (x1.at' (toNat aB)).c6 (dk (x1.at' (toNat aB)).c0 cu));have:=ahQ (x1.at' (toNat aB)).c1 (x1.at' (toNat aB)).c2 (x1.at' (toNat aB)).c3 (x1.at' (toNat aB)).c4 (x1.at' (toNat aB)).c5 (x1.at' (toNat aB)).c6 (dk (x1.at' (toNat aB)).c0 cu) (by repeat first|assumption|apply s_|apply ta|apply uW|apply qP|apply wA|apply mM|apply rZ|apply uO|apply uN|apply ss|apply rD|apply rE|apply jt|apply uU|apply xg|apply mi|apply kD|apply oE|apply And.intro);have:=jq (x1.at' (toNat aB)).c0 cu;have:=aq (aB+1);omega)),(fun h5=>(by have hM:=ij _ _ _ _ (by first|assumption|exact CE.z (by assumption)) (by first|assumption|exact CC.y (by assumption)) (bE h1);have:=hM.1;omega))⟩⟩)⟩,(fun hF6=>⟨(by omega),⟨(by have:=eP x2 (tU x0 x1);omega),⟨(by have:=iZ (x3.n:Int) (bo x2 (tU x0 x1));have:=eP x2 (tU x0 x1);omega),(fun aW dQ hI7=>⟨(fun h8=>⟨(by have:=ay h8;omega),⟨(by have hM:=ij _ _ _ _ (by first|assumption|exact CE.z (by assumption)) (by first|assumption|exact CC.y (by assumption)) (bE h1);have:=hM.1;omega),⟨(by have hM:=ij _ _ _ _ (by first|assumption|exact CE.z (by assumption)) (by first|assumption|exact CC.y (by assumption)) (bE h1);have:=hM.1;have:=eP (x3.at' (toNat aW)).c0 dQ;omega),⟨(by have hM:=ij _ _ _ _ (by first|assumption|exact CE.z (by assumption)) (by first|assumption|exact CC.y (by assumption)) (bE h1);have:=hM.1;have:=eP (x3.at' (toNat aW)).c1 (bo (x3.at' (toNat aW)).c0 dQ);have:=eP (x3.at' (toNat aW)).c0 dQ;omega),⟨(by have hM:=ij _ _ _ _ (by first|assumption|exact CE.z (by assumption)) (by first|assumption|exact CC.y (by assumption)) (bE h1);have:=hM.1;have:=eP (x3.at' (toNat aW)).c2 (bo (x3.at' (toNat aW)).c1 (bo (x3.at' (toNat aW)).c0 dQ));have:=eP (x3.at' (toNat aW)).c1 (bo (x3.at' (toNat aW)).c0 dQ);have:=eP (x3.at' (toNat aW)).c0 dQ;omega),⟨(by have hM:=ij _ _ _ _ (by first|assumption|exact CE.z (by assumption)) (by first|assumption|exact CC.y (by assumption)) (bE h1);have:=hM.1;have:=ay h8;have hK:=hM.2.2 (toNat aW) (by omega);have:=hK.2.1;have:=iZ (x3.at' (toNat aW)).c3 (bo (x3.at' (toNat aW)).c2 (bo (x3.at' (toNat aW)).c1 (bo (x3.at' (toNat aW)).c0 dQ)));have:=eP (x3.at' (toNat aW)).c2 (bo (x3.at' (toNat aW)).c1 (bo (x3.at' (toNat aW)).c0 dQ));have:=eP (x3.at' (toNat aW)).c1 (bo (x3.at' (toNat aW)).c0 dQ);have:=eP (x3.at' (toNat aW)).c0 dQ;omega),⟨(by have hM:=ij _ _ _ _ (by first|assumption|exact CE.z (by assumption)) (by first|assumption|exact CC.y (by assumption)) (bE h1);have:=hM.1;have:=ay h8;have hK:=hM.2.2 (toNat aW) (by omega);have:=hK.2.1;have:=jq (x3.at' (toNat aW)).c4 (da (x3.at' (toNat aW)).c3 (bo (x3.at' (toNat aW)).c2 (bo (x3.at' (toNat aW)).c1 (bo (x3.at' (toNat aW)).c0 dQ))));have:=iZ (x3.at' (toNat aW)).c3 (bo (x3.at' (toNat aW)).c2 (bo (x3.at' (toNat aW)).c1 (bo (x3.at' (toNat aW)).c0 dQ)));have:=eP (x3.at' (toNat aW)).c2 (bo (x3.at' (toNat aW)).c1 (bo (x3.at' (toNat aW)).c0 dQ));have:=eP (x3.at' (toNat aW)).c1 (bo (x3.at' (toNat aW)).c0 dQ);have:=eP (x3.at' (toNat aW)).c0 dQ;omega),⟨(by have hM:=ij _ _ _ _ (by first|assumption|exact CE.z (by assumption)) (by first|assumption|exact CC.y (by assumption)) (bE h1);have:=hM.1;have:=ay h8;have hK:=hM.2.2 (toNat aW) (by omega);have:=hK.1;have:=hK.2.1;have:=hK.2.2;assumption),(by have hM:=ij _ _ _ _ (by first|assumption|exact CE.z (by assumption)) (by first|assumption|exact CC.y (by assumption)) (bE h1);have:=hM.1;have:=ay h8;have hK:=hM.2.2 (toNat aW) (by omega);have:=hK.2.1;have:=eP (x3.at' (toNat aW)).c5 (dk (x3.at' (toNat aW)).c4 (da (x3.at' (toNat aW)).c3 (bo (x3.at' (toNat aW)).c2 (bo (x3.at' (toNat aW)).c1 (bo (x3.at' (toNat aW)).c0 dQ)))));have:=jq (x3.at' (toNat aW)).c4 (da (x3.at' (toNat aW)).c3 (bo (x3.at' (toNat aW)).c2 (bo (x3.at' (toNat aW)).c1 (bo (x3.at' (toNat aW)).c0 dQ))));have:=iZ (x3.at' (toNat aW)).c3 (bo (x3.at' (toNat aW)).c2 (bo (x3.at' (toNat aW)).c1 (bo (x3.at' (toNat aW)).c0 dQ)));have:=eP (x3.at' (toNat aW)).c2 (bo (x3.at' (toNat aW)).c1 (bo (x3.at' (toNat aW)).c0 dQ));have:=eP (x3.at' (toNat aW)).c1 (bo (x3.at' (toNat aW)).c0 dQ);have:=eP (x3.at' (toNat aW)).c0 dQ;omega)⟩⟩⟩⟩⟩⟩⟩⟩),(fun h9=>(by have hM:=ij _ _ _ _ (by first|assumption|exact CE.z (by assumption)) (by first|assumption|exact CC.y (by assumption)) (bE h1);have:=ay h9;have hK:=hM.2.2 (toNat aW) (by omega);have:=hK.2.1;have:=hK.2.2;have:=Xs (x3.at' (toNat aW)).c6 (bo (x3.at' (toNat aW)).c5 (dk (x3.at' (toNat aW)).c4 (da (x3.at' (toNat aW)).c3 (bo (x3.at' (toNat aW)).c2 (bo (x3.at' (toNat aW)).c1 (bo (x3.at' (toNat aW)).c0 dQ)))))) (by repeat first|assumption|apply s_|apply ta|apply uW|apply qP|apply wA|apply mM|apply rZ|apply uO|apply uN|apply ss|apply rD|apply rE|apply jt|apply uU|apply xg|apply mi|apply kD|apply oE|apply And.intro);have:=eP (x3.at' (toNat aW)).c5 (dk (x3.at' (toNat aW)).c4 (da (x3.at' (toNat aW)).c3 (bo (x3.at' (toNat aW)).c2 (bo (x3.at' (toNat aW)).c1 (bo (x3.at' (toNat aW)).c0 dQ)))));have:=jq (x3.at' (toNat aW)).c4 (da (x3.at' (toNat aW)).c3 (bo (x3.at' (toNat aW)).c2 (bo (x3.at' (toNat aW)).c1 (bo (x3.at' (toNat aW)).c0 dQ))));have:=iZ (x3.at' (toNat aW)).c3 (bo (x3.at' (toNat aW)).c2 (bo (x3.at' (toNat aW)).c1 (bo (x3.at' (toNat aW)).c0 dQ)));have:=eP (x3.at' (toNat aW)).c2 (bo (x3.at' (toNat aW)).c1 (bo (x3.at' (toNat aW)).c0 dQ));have:=eP (x3.at' (toNat aW)).c1 (bo (x3.at' (toNat aW)).c0 dQ);have:=eP (x3.at' (toNat aW)).c0 dQ;have:=aq (aW+1);omega))⟩)⟩⟩⟩)⟩⟩⟩))
end
def ef(s:Sl ar)(i:Nat):List Int:=tb (s.at' i).c0++(vb (s.at' i).c1 (s.at' i).c2 (s.at' i).c3 (s.at' i).c4 (s.at' i).c5 (s.at' i).c6++nb (s.at' i).c7)
def kf(s:Sl aG)(i:Nat):List Int:=nb (s.at' i).c0++(nb (s.at' i).c1++(nb (s.at' i).c2++(sb (s.at' i).c3++(tb (s.at' i).c4++(nb (s.at' i).c5++Jf (s.at' i).c6)))))
def mb(x0:Int)(x1:Sl ar)(x2:Int)(x3:Sl aG):List Int:=nb x0++(sb (x1.n:Int)++(cat (ef x1) x1.n 0++(nb x2++(sb (x3.n:Int)++cat (kf x3) x3.n 0))))
theorem abH{s:Sl ar}{i:Nat}(h:PI (s.at' i)):(ef s i).length≤2100:=by
 have a:=wM h.1;have b:=aj6 (x0:=(s.at' i).c1) h.2.1;unfold ef;simp only[aC8,IJ];omega
theorem ahJ{s:Sl aG}{i:Nat}(h:ZW (s.at' i)):(kf s i).length≤500:=by
 have a:=wM h.2.1.2.1;have b:=Zo h.2.2;unfold kf;simp only[aC8,IJ,Pe];omega
theorem axO{x0:Int}{x1:Sl ar}{x2:Int}{x3:Sl aG}(h:Jr x0 x1 x2 x3):(mb x0 x1 x2 x3).length≤28000:=by
 have a:=h.1;have c:=AU (f:=ef x1) (D:=2100) x1.n 0 fun j _ hj=>abH (h.2.1 j (by omega));have d:=AU (f:=kf x3) (D:=500) x3.n 0 fun j _ hj=>ahJ (h.2.2 j (by omega));unfold mb;simp only[aC8,IJ,Pe];omega
theorem B90{x0:Int}{x1:Sl ar}{x2:Int}{x3:Sl aG}(h:Jr x0 x1 x2 x3):(Hl x0 x1 x2 x3).B=mb x0 x1 x2 x3:=by
 have hm:=h.1;have h1:(tU x0 x1).B=(da (x1.n:Int) (bo x0 (al:Sl Int))).B++cat (ef x1) x1.n 0:=
  DG (MJ x1) x1.n 2100 _ (fun i s=>bo (x1.at' (toNat i)).c7 (tw (x1.at' (toNat i)).c1 (x1.at' (toNat i)).c2 (x1.at' (toNat i)).c3 (x1.at' (toNat i)).c4 (x1.at' (toNat i)).c5 (x1.at' (toNat i)).c6 (dk (x1.at' (toNat i)).c0 s))) (ef x1) (by omega) (fun _ _ _=>rfl) (fun i s hi _=>by
   have hz:=h.2.1 i hi;have z0:=hz.1;have z7:=hz.2.2;simp only[aCZ];refine⟨?_,abH hz⟩;rw[u7 _ (by omega) (by omega),ZL _ _ _ _ _ _ _ hz.2.1,AA _ (by omega)];simp only[ef,aDe]) _ (aCK _)
 have h2:(Hl x0 x1 x2 x3).B=(da (x3.n:Int) (bo x2 (tU x0 x1))).B++cat (kf x3) x3.n 0:=
  DG (MK x3) x3.n 500 _ (fun i s=>mz (x3.at' (toNat i)).c6 (bo (x3.at' (toNat i)).c5 (dk (x3.at' (toNat i)).c4 (da (x3.at' (toNat i)).c3 (bo (x3.at' (toNat i)).c2 (bo (x3.at' (toNat i)).c1 (bo (x3.at' (toNat i)).c0 s))))))) (kf x3) (by omega) (fun _ _ _=>rfl) (fun i s hi _=>by
   have hz:=h.2.2 i hi;have z0:=hz.1;have z1:=hz.2.1;simp only[aCZ];refine⟨?_,ahJ hz⟩;rw[PA _ _ hz.2.2,u7 _ (by omega) (by omega),AA _ (by omega),Az,u7 _ (by omega) (by omega),u7 _ (by omega) (by omega),u7 _ (by omega) (by omega)];simp only[kf,aDe]) _ (aCK _)
 rw[h2,Az,u7 _ (by omega) (by omega),h1,Az,u7 _ (by omega) (by omega),PB];simp only[mb,aDe,aDD]
def ane(x0 cV:Int)(cO:Sl ar)(cW:Int)(cP:Sl aG):Prop:=x0≠1→x0≠2→Jr cV cO cW cP
theorem t153{x:Int}(h:(!(xF x))=false):1≤x∧x≤1048576:=by
 unfold xF adG at h
 by_cases a:x≥1
 ·by_cases b:x≤1048576
  ·omega
  ·simp [b]at h
 ·simp [a]at h
theorem YL{x0 x1 x2 x3 x4 x5:Int}{x6:Bool}{x7 x8 x9:Int}{au a_ bF:ag}{bL bY c_ cV:Int}{cO:Sl ar}{cW:Int}{cP:Sl aG}(h:kq x0 x1 x2 x3 x4 x5 x6 x7 x8 x9 au a_ bF bL bY c_ cV cO cW cP=0):
  (x0=1∧(1≤x1∧x1≤1048576)∧ -1≤x2∧x2<3)∨(x0=2∧(1≤x3∧x3≤1048576)∧il x4 x5 x6 x7 x8 x9 au a_ bF bL=0)∨(x0=3∧(1≤bY∧bY≤1048576)∧(1≤c_∧c_≤1048576)∧gJ cV cO cW cP=0):=by
 unfold kq at h;obtain⟨a1,h⟩:=bz h (by decide);obtain⟨_,h⟩:=bz h (by decide);unfold agn at a1;obtain⟨b1,b2⟩:=bt a1;have c1:=df b1;have c2:=df b2
 by_cases e1:x0=1
 ·left;rw[e1]at h;simp only[aEa,aCJ]at h;obtain⟨m,_⟩:=bz h (by decide);unfold ago at m;obtain⟨m1,m⟩:=bt m;obtain⟨m2,m3⟩:=bt m;have d2:=df m2;have d3:=df m3;exact⟨e1,t153 m1,by omega,by omega⟩
 ·rw[aDA.2 e1]at h;simp only[aCI]at h
  by_cases e2:x0=2
  ·right;left;rw[e2]at h;simp only[aEa,aCJ]at h;obtain⟨m1,h⟩:=bz h (by decide);exact⟨e2,t153 m1,h⟩
  ·right;right;rw[aDA.2 e2]at h;simp only[aCI]at h;unfold rB at h;obtain⟨m1,h⟩:=bz h (by decide);unfold agl at m1;obtain⟨m2,m3⟩:=bt m1;exact⟨by omega,t153 m2,t153 m3,h⟩
theorem aof{x0 x1 x2 x3 x4 x5:Int}{x6:Bool}{x7 x8 x9:Int}{au a_ bF:ag}{bL bY c_ cV:Int}{cO:Sl ar}{cW:Int}{cP:Sl aG}(hE:CZ cO)(hC:CY cP)(h:kq x0 x1 x2 x3 x4 x5 x6 x7 x8 x9 au a_ bF bL bY c_ cV cO cW cP=0):ane x0 cV cO cW cP:=fun h1 h2=>by
 rcases YL h with⟨e,_⟩|⟨e,_⟩|⟨_,_,_,e⟩
 ·exact absurd e h1
 ·exact absurd e h2
 ·exact ij _ _ _ _ hE hC e
theorem Px:(0:Int)≤0∧(0:Int)≤255:=by decide
theorem wQ:U8 (al:Sl Int):=fun _=>Px
theorem Zr:U8 (default:Sl Int):=fun _=>Px
theorem wO{a b:Sl Int}(ha:U8 a)(hb:U8 b):U8 (Sl.app a b):=fun i=>by
 show 0≤(bif Nat.blt i a.n then a.at' i else b.at' (i-a.n))∧(bif Nat.blt i a.n then a.at' i else b.at' (i-a.n))≤255
 cases Nat.blt i a.n
 ·exact hb _
 ·exact ha _
theorem aj3(x:Int):0≤u8.wrap x∧u8.wrap x≤255:=by
 have h:u8.wrap x=x%256:=rfl;rw[h];omega
theorem Zt(x:Int):U8 (Sl.lit [u8.wrap x]):=fun i=>by
 cases i with
 |zero=>exact aj3 x
 |succ i=>exact Px
theorem aBc(s:ag):U8 (Sl.ofStr s):=fun i=>by
 show 0≤((s.data.toList.getD i 0).toNat:Int)∧((s.data.toList.getD i 0).toNat:Int)≤255;have:=(s.data.toList.getD i 0).toNat_lt;omega
theorem wP{F:Nat→Int→Sl Int→Sl Int}{c:Int→Bool}{nx:Int→Int}{st:Int→Sl Int→Sl Int}(h0: ∀i t,F 0 i t=default)(hF: ∀k i t,F (k+1) i t=bif c i then F k (nx i) (st i t)else t)(hs: ∀i t,U8 t→U8 (st i t)): ∀k i t,U8 t→U8 (F k i t)
 |0,i,t,_=>by rw[h0];exact Zr
 |k+1,i,t,h=>by
  rw[hF]
  cases c i
  ·exact h
  ·exact wP h0 hF hs k _ _ (hs i t h)
theorem qD(x:Int){s:Sl Int}(h:U8 s):U8 (da x s):=wO h (Zt x)
theorem mO(x:Int){s:Sl Int}(h:U8 s):U8 (bo x s):=by
 unfold bo adH;exact wP (fun _ _=>rfl) (fun _ _ _=>rfl) (fun i t ht=>wO ht (Zt _)) _ _ _ h
theorem sB(x:ag){s:Sl Int}(h:U8 s):U8 (dk x s):=wO (qD _ h) (aBc x)
theorem ajW(x:Sl ag){s:Sl Int}(h:U8 s):U8 (mz x s):=by
 unfold mz adI;exact wP (fun _ _=>rfl) (fun _ _ _=>rfl) (fun i t ht=>sB _ ht) _ _ _ (qD _ h)
theorem aBa(x0:Int)(x1:ag)(x2:Int)(x3:Sl bk)(x4:Sl ag)(x5:Sl bD){s:Sl Int}(h:U8 s):U8 (tw x0 x1 x2 x3 x4 x5 s):=by
 have h1:U8 (tx x0 x1 x2 x3 s):=by
  unfold tx;exact wP (fun _ _=>rfl) (fun _ _ _=>rfl) (fun i t ht=>sB _ (sB _ ht)) _ _ _ (qD _ (mO _ (sB _ (qD _ h))))
 unfold tw KF;exact wP (fun _ _=>rfl) (fun _ _ _=>rfl) (fun i t ht=>mO _ (sB _ ht)) _ _ _ (qD _ (ajW _ h1))
theorem jt(x0:Int)(x1:Sl ar)(x2:Int)(x3:Sl aG):U8 (om x0 x1 x2 x3):=by
 have h1:U8 (tU x0 x1):=by
  unfold tU;exact wP (fun _ _=>rfl) (fun _ _ _=>rfl) (fun i t ht=>mO _ (aBa _ _ _ _ _ _ (sB _ ht))) _ _ _ (qD _ (mO _ wQ))
 have h2:U8 (Hl x0 x1 x2 x3):=by
  unfold Hl;exact wP (fun _ _=>rfl) (fun _ _ _=>rfl) (fun i t ht=>ajW _ (mO _ (sB _ (qD _ (mO _ (mO _ (mO _ ht))))))) _ _ _ (qD _ (mO _ h1))
 unfold om
 cases (gJ x0 x1 x2 x3 !=0)
 ·exact h2
 ·exact wQ
def CK(s:Sl (Sl Int)):Prop:=s.n≤10∧ ∀i,i<s.n→(s.at' i).n≤1000000
theorem ck3{a b c:Sl Int}(ha:a.n≤1000000)(hb:b.n≤1000000)(hc:c.n≤1000000):CK (Sl.lit [a,b,c]):=by
 refine⟨by show 3≤10;omega,fun i hi=> ?_⟩;have hi:i<3:=hi;have:i=0∨i=1∨i=2:=by omega
 rcases this with rfl|rfl|rfl
 ·exact ha
 ·exact hb
 ·exact hc
theorem R3{a b c d:Sl Int}(ha:a.n≤1000000)(hb:b.n≤1000000)(hc:c.n≤1000000)(hd:d.n≤1000000):CK (Sl.lit [a,b,c,d]):=by
 refine⟨by show 4≤10;omega,fun i hi=> ?_⟩;have hi:i<4:=hi;have:i=0∨i=1∨i=2∨i=3:=by omega
 rcases this with rfl|rfl|rfl|rfl
 ·exact ha
 ·exact hb
 ·exact hc
 ·exact hd
theorem ahS(x0 x1:Int)(x2:Bool)(x3 x4 x5:Int)(x6 x7 x8:ag)(x9:Int):x6.size≤10000000000∧x7.size≤10000000000∧x8.size≤10000000000→(yL x0 x1 x2 x3 x4 x5 x6 x7 x8 x9).n≤40000000000:=fun h=>by
 unfold yL
 cases (il x0 x1 x2 x3 x4 x5 x6 x7 x8 x9 !=0)
 ·simp only[aCI];unfold KA KP Ld
  cases x2
  ·simp only[aCI]
   cases decide (x3>0)
   ·simp only[aCI,eP,iZ,DN];omega
   ·simp only[aCJ,eP,iZ,jq,DN];omega
  ·simp only[aCJ,eP,iZ,DN];omega
 ·simp only[aCJ,DN];omega
theorem ahT(x0:Int)(x1:Sl ar)(x2:Int)(x3:Sl aG)(h:CZ x1∧CY x3):(om x0 x1 x2 x3).n≤28000:=by
 unfold om
 by_cases e:gJ x0 x1 x2 x3=0
 ·have hM:=ij x0 x1 x2 x3 h.1 h.2 e;rw[show(gJ x0 x1 x2 x3 !=0)=false by simp [e]];simp only[aCI];rw[←eJ,B90 hM];exact axO hM
 ·rw[show(gJ x0 x1 x2 x3 !=0)=true by simp [e]];simp only[aCJ,DN];omega
def TQ(x0:Sl (Sl Int)):Nat→Int→Int→Int
 |0,_,_=>default
 |k+1,af,ak=>(bif(decide (ak<(x0.n:Int)))then(TQ x0 k (i64.wrap (af+((x0.at' (toNat ak)).n:Int))) (i64.wrap (ak+1)))else af)
def aqq(x0:Sl (Sl Int)):Int:=TQ x0 ((toNat ((x0.n:Int)-0))+1) 0 0
def KL(x0:Sl (Sl Int)):Nat→Int→Sl Int→Sl Int
 |0,_,_=>default
 |k+1,cC,ga=>(bif(decide (cC<(x0.n:Int)))then(KL x0 k (i64.wrap (cC+1)) (Sl.app ga (x0.at' (toNat cC))))else ga)
def KM(x0:Sl (Sl Int)):Sl Int:=KL x0 ((toNat ((x0.n:Int)-0))+1) 0 (al:Sl Int)
def xK(x0:Sl (Sl Int)):Sl Int:=(KM x0)
def alG:Fq:=⟨[.v (.sl ZQ)],fun x0=>⟨⟨some (CK x0),(Kd.ah E5).av (xK x0)⟩⟩⟩
theorem aht:ba 117 alG:=bf Tryz.func117
 fun x0 n0 _ hp=>bj ⟨.own E5,[.tmp 2],[(.h 0 0,.ah E5)],⟨[],[]⟩⟩ (.ai (.ai (.j ⟨13,[],[],[],.f⟩ (.ai (.lp ⟨3597,[],[],[(.t 3,kI),(.t 11,kI)],some 0,false,13,[],[(.t 3,kI)],fun k (s:Int×Int)=>TQ x0 k s.1 s.2,.f,fun(s:Int×Int)=>(0≤s.2∧s.2≤(x0.n:Int)∧0≤s.1∧s.1≤s.2*1000000),fun(s:Int×Int)=>(toNat ((x0.n:Int)-s.2)),some fun(r:Int)=>(0≤r∧r≤10000000)⟩ .z)) (.ai (.j ⟨68,[],[],[],.f⟩ (.ai (.lp ⟨234881092,[],[],[(.t 27,kI),(.h 0 0,.ah E5)],some 2,false,68,[],[(.h 0 0,.ah E5)],fun k (s:Int×Sl Int)=>KL x0 k s.1 s.2,.f,fun(s:Int×Sl Int)=>(0≤s.1∧s.1≤(x0.n:Int)∧(s.2.n:Int)≤s.1*1000000),fun(s:Int×Sl Int)=>(toNat ((x0.n:Int)-s.1)),none⟩ .z)) .z))))) (let zc:=aqq x0;(((0≤(0:Int)∧(0:Int)≤(x0.n:Int)∧0≤(0:Int)∧(0:Int)≤(0:Int)*1000000))∧(∀(af:Int) (ak:Int),let zb:=decide (ak<(x0.n:Int));let z8:=i64.wrap (ak+1);let z6:=i64.wrap (af+((x0.at' (toNat ak)).n:Int));(0≤ak∧ak≤(x0.n:Int)∧0≤af∧af≤ak*1000000)→((zb=true→(((0:Int)≤ak∧ak<(x0.n:Int))∧((decide (z6<0))=true→False)))∧((zb=true→((decide (z6<0))=false→((0≤z8∧z8≤(x0.n:Int)∧0≤z6∧z6≤z8*1000000)∧(toNat ((x0.n:Int)-z8))<(toNat ((x0.n:Int)-ak)))))∧(zb=false→((0≤af∧af≤10000000)))))))∧(((0≤zc∧zc≤10000000))→((0≤zc∧zc≤549755813888)∧(((0≤(0:Int)∧(0:Int)≤(x0.n:Int)∧((0:Nat):Int)≤(0:Int)*1000000))∧(∀(cC:Int) (ga:Sl Int),let ze:=x0.at' (toNat cC);let zd:=decide (cC<(x0.n:Int));let za:=i64.wrap (cC+1);(0≤cC∧cC≤(x0.n:Int)∧(ga.n:Int)≤cC*1000000)→((zd=true→(((0:Int)≤cC∧cC<(x0.n:Int))∧(ga.n+ze.n≤549755813888)))∧(zd=true→((0≤za∧za≤(x0.n:Int)∧(((ga.n+ze.n):Nat):Int)≤za*1000000)∧(toNat ((x0.n:Int)-za))<(toNat ((x0.n:Int)-cC)))))))))) (bU (aH avq aQ)) Tryz.func117 (⟨⟨(by omega),(fun af ak dX=>⟨(fun h2=>⟨(by have:=ay h2;omega),(fun h3=>(by have:=ay h2;have:=ay h3;have:=hp.2 (toNat ak) (by omega);have:=aq (af+((x0.at' (toNat ak)).n:Int));omega))⟩),⟨(fun h4=>(fun h5=>(by have:=ay h4;have:=hp.2 (toNat ak) (by omega);have:=aq (ak+1);have:=aq (af+((x0.at' (toNat ak)).n:Int));omega))),(fun h6=>(by have:=hp.1;omega))⟩⟩)⟩,(fun CV=>⟨(by omega),⟨(by omega),(fun cC ga hI8=>⟨(fun h9=>⟨(by have:=ay h9;omega),(by have:=ay h9;have:=hp.1;have:=hp.2 (toNat cC) (by omega);omega)⟩),(fun dJ=>(by have:=ay dJ;have:=hp.2 (toNat cC) (by omega);have:=aq (cC+1);omega))⟩)⟩⟩)⟩)
def kT(x0:Int):Sl Int:=(Sl.lit ([(u8.wrap (x0/2^(toNat 16))),(u8.wrap (x0/2^(toNat 8))),(u8.wrap x0)]:List Int))
def alH:Fq:=⟨[.v kI],fun x0=>⟨⟨none,(Kd.ah E5).av (kT x0)⟩⟩⟩
theorem ahu:ba 118 alH:=bf Tryz.func118
 fun(x0:Int)=>bj ⟨.own E5,[.tmp 2],[(.h 0 0,.ah E5)],⟨[],[]⟩⟩ (.z) (((0:Int)≤16∧(16:Int)≤64)∧((0:Int)≤8∧(8:Int)≤64)) fK Tryz.func118 (⟨(by omega),(by omega)⟩)
theorem pg(x0:Int):(kT x0).n=3:=rfl
def l5(x0:Int)(x1:Int)(x2:Int)(x3:Int)(x4:Int)(x5:Int)(x6:Bool)(x7:Int)(x8:Int)(x9:Int)(au:ag)(a_:ag)(bF:ag)(bL:Int)(bY:Int)(c_:Int)(cV:Int)(cO:Sl ar)(cW:Int)(cP:Sl aG):Sl Int:=(bif(x0==1)then(Sl.app (Sl.app (Sl.lit ([1]:List Int)) (kT x1)) (Sl.lit ([(u8.wrap (i64.wrap (x2+1)))]:List Int)))else(bif(x0==2)then(Sl.app (Sl.app (Sl.lit ([2]:List Int)) (kT x3)) (yL x4 x5 x6 x7 x8 x9 au a_ bF bL))else(xK (Sl.lit ([(Sl.lit ([3]:List Int)),(kT bY),(kT c_),(om cV cO cW cP)]:List (Sl Int))))))
def alF:Fq:=⟨[.g [kI,kI,kI,kI,kI,kI,kB,kI,kI,kI,kS,kS,kS,kI,kI,kI,kI,.sl aZ,kI,.sl bG]],fun(x0:Int) (x1:Int) (x2:Int) (x3:Int) (x4:Int) (x5:Int) x6 (x7:Int) (x8:Int) (x9:Int) au a_ bF (bL:Int) (bY:Int) (c_:Int) (cV:Int) cO (cW:Int) cP=>⟨⟨some (au.size≤10000000000∧a_.size≤10000000000∧bF.size≤10000000000),(Kd.ah E5).av (l5 x0 x1 x2 x3 x4 x5 x6 x7 x8 x9 au a_ bF bL bY c_ cV cO cW cP)⟩⟩⟩
theorem au1:ba 116 alF:=bf Tryz.func116
 fun(x0:Int) (x1:Int) (x2:Int) (x3:Int) (x4:Int) (x5:Int) x6 (x7:Int) (x8:Int) (x9:Int) au oC a_ IH bF dL (bL:Int) (bY:Int) (c_:Int) (cV:Int) cO n17 f17 (cW:Int) cP n19 f19 hp=>bj ⟨.own E5,[.tmp 2],[(.h 0 0,.ah E5)],⟨[],[]⟩⟩ (.z) ((((x0==1)=true→((1+(kT x1).n≤549755813888)∧((1+(kT x1).n)+1≤549755813888)))∧((x0==1)=false→((x0==2)=true→((au.size≤10000000000∧a_.size≤10000000000∧bF.size≤10000000000)∧((1+(kT x3).n≤549755813888)∧((1+(kT x3).n)+(yL x4 x5 x6 x7 x8 x9 au a_ bF bL).n≤549755813888))))))∧((x0==1)=false→((x0==2)=false→(CK (Sl.lit ([(Sl.lit ([3]:List Int)),(kT bY),(kT c_),(om cV cO cW cP)]:List (Sl Int))))))) (bU (aH N_ (aH k90 (aH aht (aH ahu aQ))))) Tryz.func116 (have⟨cn,dv,ia⟩:=hp;have:=Bh f17;have:=Fo f19;⟨⟨(fun h1=>⟨(by have:=pg x1;omega),(by have:=pg x1;omega)⟩),(fun h2=>(fun h3=>⟨(by omega),⟨(by have:=pg x3;omega),(by have:=pg x3;have:=ahS x4 x5 x6 x7 x8 x9 au a_ bF bL;omega)⟩⟩))⟩,(fun h4=>(fun h5=>(by have:=cM h4;have:=cM h5;have:=pg bY;have:=pg c_;have:=ahT cV cO cW cP (by repeat first|assumption|apply s_|apply ta|apply uW|apply qP|apply wA|apply mM|apply rZ|apply uO|apply uN|apply ss|apply rD|apply rE|apply jt|apply uU|apply xg|apply mi|apply kD|apply oE|apply And.intro);have:(Sl.lit ([3]:List Int)).n=1:=rfl;have:(Sl.lit ([(Sl.lit ([3]:List Int)),(kT bY),(kT c_),(om cV cO cW cP)]:List (Sl Int))).n=4:=rfl;(first|exact ck3 (by omega) (by omega) (by omega)|exact R3 (by omega) (by omega) (by omega) (by omega)|assumption))))⟩)
theorem aki(s:Sl (Sl Int))(h:CK s):(xK s).B=cat (fun i=>(s.at' i).B) s.n 0:=by
 have h1:(KM s).B=(al:Sl Int).B++cat (fun i=>(s.at' i).B) s.n 0:=
  DG (KL s) s.n 1000000 0 (fun i t=>Sl.app t (s.at' (toNat i))) (fun i=>(s.at' i).B) (by have:=h.1;omega) (fun _ _ _=>rfl) (fun i t hi _=>by
   have:=h.2 i hi;simp only[aCZ];exact⟨u_ _ _,by rw[eJ];omega⟩) _ (aCK _)
 show(KM s).B=_;rw[h1,PB,aDD]
theorem akj{a b c d:Sl Int}(ha:a.n≤1000000)(hb:b.n≤1000000)(hc:c.n≤1000000)(hd:d.n≤1000000):(xK (Sl.lit [a,b,c,d])).B=a.B++(b.B++(c.B++d.B)):=by
 rw[aki _ (R3 ha hb hc hd)];show a.B++(b.B++(c.B++(d.B++[])))=_;rw[aDi]
theorem axa(x0 x1 x2 x3 x4 x5:Int)(x6:Bool)(x7 x8 x9:Int)(au a_ bF:ag)(bL bY c_ cV:Int)(cO:Sl ar)(cW:Int)(cP:Sl aG)(h:CZ cO∧CY cP):
  au.size≤10000000000∧a_.size≤10000000000∧bF.size≤10000000000→(l5 x0 x1 x2 x3 x4 x5 x6 x7 x8 x9 au a_ bF bL bY c_ cV cO cW cP).n≤50000000000:=fun hs=>by
 unfold l5
 cases (x0==1)
 ·simp only[aCI]
  cases (x0==2)
  ·simp only[aCI];have l:=ahT cV cO cW cP h;rw[←eJ,akj (by show 1≤_;omega) (by rw[pg];omega) (by rw[pg];omega) (by omega)];simp only[aC8,eJ,pg,Sl.nA,aC7,aDf];omega
  ·have l:=ahS x4 x5 x6 x7 x8 x9 au a_ bF bL hs;simp only[aCJ,Sl.pz,Sl.nA,pg,aC7,aDf];omega
 ·simp only[aCJ,Sl.pz,Sl.nA,pg,aC7,aDf];omega
section
variable(x0:Sl Int)(x1:Int)(x2:Int)(x3:Int)(x4:Int)(x5:Int)(x6:Int)(x7:Int)(x8:Bool)(x9:Int)(au:Int)(a_:Int)(bF:ag)(bL:ag)(bY:ag)(c_:Int)(cV:Int)(cO:Int)(cW:Int)(cP:Sl ar)(gf:Int)(gh:Sl aG)
def Bu:Bool:=(bif(decide (x1<0))then true else(bif(decide (x1>(x0.n:Int)))then true else(decide ((x0.n:Int)>400000))))
def bn:Sl Int:=(bif(Bu x0 x1)then(al:Sl Int)else x0)
def lZ:Int:=(bif(Bu x0 x1)then 0 else x1)
def iB:Bool:=(bif(Bu x0 x1)then false else true)
def akG:Fq:=⟨[.g [.sl E5,kI]],fun x0 x1=>⟨⟨none,.cU [.agg [aL 1 e5 (bn x0 x1),ae (lZ x0 x1)],.bool (iB x0 x1)]⟩⟩⟩
theorem N0:ba 108 akG:=bf Tryz.func108
 fun x0 _ _ (x1:Int)=>bj ⟨.pure,[.cell 2 85,.tmp 3],[(.c 0 0,.sl E5),(.c 0 1,kI),(.t 1,kB)],⟨[.agg (us 2 []),U],[]⟩⟩ (.ai (.s (.j ⟨1048590,[],[(.t 20,kB)],[],.f⟩ .z .z) .z)) True (bU (aH ahq aQ)) Tryz.func108 (trivial)
theorem rF(x0:Sl Int)(x1:Int)(h:iB x0 x1=true):(0≤lZ x0 x1∧lZ x0 x1≤((bn x0 x1).n:Int))∧(bn x0 x1).n≤400000:=by
 unfold iB at h
 cases hm:Bu x0 x1 with
 |true=>rw[hm]at h;simp at h
 |false=>
  simp only[lZ,bn,hm,aCI];simp [Bu]at hm;omega
theorem lO{x0:Sl Int}{x1:Int}(h:U8 x0):U8 (bn x0 x1):=by
 unfold bn
 cases Bu x0 x1
 ·exact h
 ·exact fun _=>⟨aCT 0,(by decide:(0:Int)≤255)⟩
def ML:Sl Int:=(bif(!(iB x0 x1))then(al:Sl Int)else(bif((kq x2 x3 x4 x5 x6 x7 x8 x9 au a_ bF bL bY c_ cV cO cW cP gf gh)!=0)then(al:Sl Int)else(bif(decide ((i64.wrap ((i64.wrap (((bn x0 x1).n:Int)+3))+(((l5 x2 x3 x4 x5 x6 x7 x8 x9 au a_ bF bL bY c_ cV cO cW cP gf gh).n:Nat):Int)))>400000))then(al:Sl Int)else(xK (Sl.lit ([(bn x0 x1),(kT (((l5 x2 x3 x4 x5 x6 x7 x8 x9 au a_ bF bL bY c_ cV cO cW cP gf gh).n:Nat):Int)),(l5 x2 x3 x4 x5 x6 x7 x8 x9 au a_ bF bL bY c_ cV cO cW cP gf gh)]:List (Sl Int)))))))
def agq:Int:=(bif(!(iB x0 x1))then 0 else(bif((kq x2 x3 x4 x5 x6 x7 x8 x9 au a_ bF bL bY c_ cV cO cW cP gf gh)!=0)then 0 else(bif(decide ((i64.wrap ((i64.wrap (((bn x0 x1).n:Int)+3))+(((l5 x2 x3 x4 x5 x6 x7 x8 x9 au a_ bF bL bY c_ cV cO cW cP gf gh).n:Nat):Int)))>400000))then 0 else(lZ x0 x1))))
def Hm:Int:=let z6:=kq x2 x3 x4 x5 x6 x7 x8 x9 au a_ bF bL bY c_ cV cO cW cP gf gh;(bif(!(iB x0 x1))then 13 else(bif(z6 !=0)then z6 else(bif(decide ((i64.wrap ((i64.wrap (((bn x0 x1).n:Int)+3))+(((l5 x2 x3 x4 x5 x6 x7 x8 x9 au a_ bF bL bY c_ cV cO cW cP gf gh).n:Nat):Int)))>400000))then 6 else 0)))
def F99:Fq:=⟨[.g [.sl E5,kI],.g [kI,kI,kI,kI,kI,kI,kB,kI,kI,kI,kS,kS,kS,kI,kI,kI,kI,.sl aZ,kI,.sl bG]],fun x0 (x1:Int) (x2:Int) (x3:Int) (x4:Int) (x5:Int) (x6:Int) (x7:Int) x8 (x9:Int) (au:Int) (a_:Int) bF bL bY (c_:Int) (cV:Int) (cO:Int) (cW:Int) cP (gf:Int) gh=>⟨⟨some (bF.size≤10000000000∧bL.size≤10000000000∧bY.size≤10000000000),.cU [.agg [aL 1 e5 (ML x0 x1 x2 x3 x4 x5 x6 x7 x8 x9 au a_ bF bL bY c_ cV cO cW cP gf gh),ae (agq x0 x1 x2 x3 x4 x5 x6 x7 x8 x9 au a_ bF bL bY c_ cV cO cW cP gf gh)],ae (Hm x0 x1 x2 x3 x4 x5 x6 x7 x8 x9 au a_ bF bL bY c_ cV cO cW cP gf gh)]⟩⟩⟩
theorem k99:ba 103 F99:=bf Tryz.func103
 fun x0 n0 _ (x1:Int) (x2:Int) (x3:Int) (x4:Int) (x5:Int) (x6:Int) (x7:Int) x8 (x9:Int) (au:Int) (a_:Int) bF dL bL n13 bY eD (c_:Int) (cV:Int) (cO:Int) (cW:Int) cP n19 f19 (gf:Int) gh n21 f21 hp=>bj ⟨.pure,[.cell 4 85,.tmp 5],[(.c 0 0,.sl E5),(.c 0 1,kI),(.t 1,kI)],⟨[.agg (us 2 []),U],[]⟩⟩ (.z) (let z6:=l5 x2 x3 x4 x5 x6 x7 x8 x9 au a_ bF bL bY c_ cV cO cW cP gf gh;(!(iB x0 x1))=false→(((kq x2 x3 x4 x5 x6 x7 x8 x9 au a_ bF bL bY c_ cV cO cW cP gf gh)!=0)=false→((bF.size≤10000000000∧bL.size≤10000000000∧bY.size≤10000000000)∧((decide ((i64.wrap ((i64.wrap (((bn x0 x1).n:Int)+3))+(z6.n:Int)))>400000))=false→(CK (Sl.lit ([(bn x0 x1),(kT (z6.n:Int)),z6]:List (Sl Int)))))))) (bU (aH WX (aH N0 (aH au1 (aH aht (aH ahu aQ)))))) Tryz.func103 (have⟨cn,dv,ia⟩:=hp;have:=Bh f19;have:=Fo f21;(fun h1=>(fun h2=>⟨(by omega),(fun h3=>(by have:=rF _ _ (by simpa using h1);have hM:=aof (by first|assumption|exact CE.z (by assumption)) (by first|assumption|exact CC.y (by assumption)) (bE h2);have:=iw h3;have:=pg (((l5 x2 x3 x4 x5 x6 x7 x8 x9 au a_ bF bL bY c_ cV cO cW cP gf gh).n:Nat):Int);have:=axa x2 x3 x4 x5 x6 x7 x8 x9 au a_ bF bL bY c_ cV cO cW cP gf gh (by repeat first|assumption|apply s_|apply ta|apply uW|apply qP|apply wA|apply mM|apply rZ|apply uO|apply uN|apply ss|apply rD|apply rE|apply jt|apply uU|apply xg|apply mi|apply kD|apply oE|apply And.intro);have:(Sl.lit ([(bn x0 x1),(kT (((l5 x2 x3 x4 x5 x6 x7 x8 x9 au a_ bF bL bY c_ cV cO cW cP gf gh).n:Nat):Int)),(l5 x2 x3 x4 x5 x6 x7 x8 x9 au a_ bF bL bY c_ cV cO cW cP gf gh)]:List (Sl Int))).n=3:=rfl;have:=aq (((bn x0 x1).n:Int)+3);have:=aq ((i64.wrap (((bn x0 x1).n:Int)+3))+(((l5 x2 x3 x4 x5 x6 x7 x8 x9 au a_ bF bL bY c_ cV cO cW cP gf gh).n:Nat):Int));(first|exact ck3 (by omega) (by omega) (by omega)|exact R3 (by omega) (by omega) (by omega) (by omega)|assumption)))⟩)))
end
section
variable(x0:Sl Int)(x1:Int)(x2:Int)
def L3:Sl Int:=(bif(!(iB x0 x1))then(al:Sl Int)else(bn x0 x1))
def afH:Int:=(bif(!(iB x0 x1))then 0 else((bn x0 x1).n:Int))
def arK:Int:=(bif(!(iB x0 x1))then 13 else 0)
def F39:Fq:=⟨[.g [.sl E5,kI]],fun x0 x1=>⟨⟨none,.cU [.agg [aL 1 e5 (L3 x0 x1),ae (afH x0 x1)],ae (arK x0 x1)]⟩⟩⟩
theorem k39:ba 96 F39:=bf Tryz.func96
 fun x0 _ _ (x1:Int)=>bj ⟨.pure,[.cell 2 85,.tmp 3],[(.c 0 0,.sl E5),(.c 0 1,kI),(.t 1,kI)],⟨[.agg (us 2 []),U],[]⟩⟩ (.z) True (bU (aH N0 aQ)) Tryz.func96 (trivial)
def CH:Sl Int:=(bif(!(iB x0 x1))then(al:Sl Int)else(bif(decide (x2<0))then(al:Sl Int)else(Sl.part (bn x0 x1) 0 (i64.wrap ((lZ x0 x1)+(gM x2 (i64.wrap (((bn x0 x1).n:Int)- (lZ x0 x1)))))))))
def U7:Int:=(bif(!(iB x0 x1))then 0 else(bif(decide (x2<0))then 0 else(i64.wrap ((lZ x0 x1)+(gM x2 (i64.wrap (((bn x0 x1).n:Int)- (lZ x0 x1))))))))
def arN:Int:=(bif(!(iB x0 x1))then 13 else(bif(decide (x2<0))then 2 else 0))
def F45:Fq:=⟨[.g [.sl E5,kI],.v kI],fun x0 x1 x2=>⟨⟨none,.cU [.agg [aL 1 e5 (CH x0 x1 x2),ae (U7 x0 x1 x2)],ae (arN x0 x1 x2)]⟩⟩⟩
theorem k45:ba 97 F45:=bf Tryz.func97
 fun x0 n0 _ (x1:Int) (x2:Int)=>bj ⟨.pure,[.cell 4 85,.tmp 5],[(.c 0 0,.sl E5),(.c 0 1,kI),(.t 1,kI)],⟨[.agg (us 2 []),U],[]⟩⟩ (.z) (let z6:=i64.wrap ((lZ x0 x1)+(gM x2 (i64.wrap (((bn x0 x1).n:Int)- (lZ x0 x1)))));(!(iB x0 x1))=false→((decide (x2<0))=false→(((0:Int)≤0)∧((0:Int)≤z6)∧((z6:Int)≤z6)∧((z6:Int)≤(((bn x0 x1).n:Nat):Int))))) (bU (aH N0 aQ)) Tryz.func97 ((fun h1=>(fun h2=>(by have:=rF _ _ (by simpa using h1);have:=iw h2;have:=rX x2 (i64.wrap (((bn x0 x1).n:Int)- (lZ x0 x1)));have:=aq (((bn x0 x1).n:Int)- (lZ x0 x1));have:=aq ((lZ x0 x1)+(gM x2 (i64.wrap (((bn x0 x1).n:Int)- (lZ x0 x1)))));omega))))
end
structure lU (x:aM):Prop where
 s6:x.c6.size≤10000000000
 s7:x.c7.size≤10000000000
 s8:x.c8.size≤10000000000
structure px (r:cj):Prop where
 s10:r.cF.size≤10000000000
 s11:r.cS.size≤10000000000
 s12:r.cD.size≤10000000000
theorem uO(a b c d:Int):px ⟨a,b,c,d,0,0,false,0,0,0,⟨#[]⟩,⟨#[]⟩,⟨#[]⟩,0,0,0,0,al,0,al⟩:=⟨aCQ _,aCQ _,aCQ _⟩
theorem uN{a b c d x0 x1:Int}{x2:Bool}{x3 x4 x5:Int}{x6 x7 x8:ag}{x9:Int}(h:lU ⟨x0,x1,x2,x3,x4,x5,x6,x7,x8,x9⟩):px ⟨a,b,c,d,x0,x1,x2,x3,x4,x5,x6,x7,x8,x9,0,0,0,al,0,al⟩:=⟨h.s6,h.s7,h.s8⟩
theorem ss{a b c d e f g:Int}{s:Sl ar}{k:Int}{l:Sl aG} :px ⟨a,b,c,d,0,0,false,0,0,0,⟨#[]⟩,⟨#[]⟩,⟨#[]⟩,0,e,f,g,s,k,l⟩:=⟨aCQ _,aCQ _,aCQ _⟩
theorem JE{α:Type}{s:Sl α}(c:Bool)(a b:Sl α)(h:s=bif c then a else b):s.n=a.n∨s.n=b.n:=by
 subst h
 cases c
 ·exact .inr rfl
 ·exact .inl rfl
section
variable(i:Nat)(nd:Nd)
def cy:Int:=(l8 nd.lb nd.lt nd.li)
def vG:Int:=(af6 nd.lb nd.lt nd.li)
def P6:Hr:=⟨[.po 0 (33*i)],bP,eC,dS,cg fun C=>⟨⟨none,[ae (cy (C.nd i)),ae (vG (C.nd i))],bN aJ 0 C⟩⟩⟩
def am7:RS:=⟨.dY true [] [] (gx i aJ 0 [0,0] 2) (gw i aJ),[.tmp 2,.tmp 3],[(.t 0,kI),(.t 1,kI)]++fL i aJ,⟨[],[]⟩⟩
theorem awE(i:Nat)(hi:i<3):fb Tryz.prog 57 (P6 i) bP [] (cg fun C=>⟨⟨none,[ae (cy (C.nd i)),ae (vG (C.nd i))],bN aJ 0 C⟩⟩) []:=by
 refine gv fun C hb=>dD (am7 i) (.z) True (bB 10 (aH k58 aQ) bA) Tryz.func57 [] ?_ ?_ trivial
 ·rcases bJ hi with rfl|rfl|rfl<;>kernel_rfl
 ·rcases bJ hi with rfl|rfl|rfl<;>kernel_rfl
theorem azn(i:Nat)(hi:i<3):gi 57 (P6 i):=
 awE i hi
theorem zU(i:Nat)(hi:i<3):gj 57 (P6 i):=gE gu Tryz.func57 (azn i hi)
def h_:Int:=(vG nd)
def Qo:Hr:=⟨[.po 0 (33*i)],bP,eC,dS,cg fun C=>⟨⟨none,[ae (h_ (C.nd i))],bN aJ 0 C⟩⟩⟩
def aax:RS:=⟨.dY true [] [] (gx i aJ 0 [0] 1) (gw i aJ),[.tmp 2],[(.t 0,kI)]++fL i aJ,⟨[],[]⟩⟩
def asG(C:Cr):Hn (aax i).kd:=(.ai (.ai (.ck ⟨([U,U,ae 0,U,ae (vG (C.nd i))]++(us 6 ([]))),bS aJ 0 C []⟩ .z)))
theorem awW(i:Nat)(hi:i<3):fb Tryz.prog 86 (Qo i) bP [] (cg fun C=>⟨⟨none,[ae (h_ (C.nd i))],bN aJ 0 C⟩⟩) []:=by
 refine gv fun C hb=>dD (aax i) (asG i C) True (bB 10 aQ (az (zU i hi) bA)) Tryz.func86 [] ?_ ?_ trivial
 ·rcases bJ hi with rfl|rfl|rfl<;>kernel_rfl
 ·rcases bJ hi with rfl|rfl|rfl<;>kernel_rfl
theorem azF(i:Nat)(hi:i<3):gi 86 (Qo i):=
 awW i hi
theorem avX(i:Nat)(hi:i<3):gj 86 (Qo i):=gE gu Tryz.func86 (azF i hi)
end
section
variable(i:Nat)(rc:cj)(nd:Nd)
def lB:Bool:=(bif((Hm nd.td nd.ts rc.c0 rc.c1 rc.c2 rc.c3 rc.c4 rc.c5 rc.c6 rc.c7 rc.c8 rc.c9 rc.cF rc.cS rc.cD rc.di rc.bO rc.gG rc.lj rc.j9 rc.lk rc.j_)!=0)then false else true)
def UL:Sl Int:=(bif((Hm nd.td nd.ts rc.c0 rc.c1 rc.c2 rc.c3 rc.c4 rc.c5 rc.c6 rc.c7 rc.c8 rc.c9 rc.cF rc.cS rc.cD rc.di rc.bO rc.gG rc.lj rc.j9 rc.lk rc.j_)!=0)then nd.td else(ML nd.td nd.ts rc.c0 rc.c1 rc.c2 rc.c3 rc.c4 rc.c5 rc.c6 rc.c7 rc.c8 rc.c9 rc.cF rc.cS rc.cD rc.di rc.bO rc.gG rc.lj rc.j9 rc.lk rc.j_))
def arF:Int:=(bif((Hm nd.td nd.ts rc.c0 rc.c1 rc.c2 rc.c3 rc.c4 rc.c5 rc.c6 rc.c7 rc.c8 rc.c9 rc.cF rc.cS rc.cD rc.di rc.bO rc.gG rc.lj rc.j9 rc.lk rc.j_)!=0)then nd.ts else(agq nd.td nd.ts rc.c0 rc.c1 rc.c2 rc.c3 rc.c4 rc.c5 rc.c6 rc.c7 rc.c8 rc.c9 rc.cF rc.cS rc.cD rc.di rc.bO rc.gG rc.lj rc.j9 rc.lk rc.j_))
def kg:Nd:={nd with td:=(UL rc nd),ts:=(arF rc nd)}
def Qp:Hr:=⟨[.po 0 (33*i),.g [kI,kI,kI,kI,kI,kI,kB,kI,kI,kI,kS,kS,kS,kI,kI,kI,kI,.sl aZ,kI,.sl bG]],bP,eC,dS,fun(y0:Int) (y1:Int) (y2:Int) (y3:Int) (y4:Int) (y5:Int) y6 (y7:Int) (y8:Int) (y9:Int) eS eV eW (eX:Int) (eY:Int) (Jk:Int) (ZC:Int) ZD (ZE:Int) ZF=>cg fun C=>⟨⟨some (px (⟨y0,y1,y2,y3,y4,y5,y6,y7,y8,y9,eS,eV,eW,eX,eY,Jk,ZC,ZD,ZE,ZF⟩:cj)),[.bool (lB (⟨y0,y1,y2,y3,y4,y5,y6,y7,y8,y9,eS,eV,eW,eX,eY,Jk,ZC,ZD,ZE,ZF⟩:cj) (C.nd i))],bN aJ 0 (C.set i (kg (⟨y0,y1,y2,y3,y4,y5,y6,y7,y8,y9,eS,eV,eW,eX,eY,Jk,ZC,ZD,ZE,ZF⟩:cj) (C.nd i)))⟩⟩⟩
def anb:RS:=⟨.dY true [] [] (gx i aJ 0 [0] 1) (gw i aJ),[.tmp 4],[(.t 0,kB)]++fL i aJ,⟨[],[]⟩⟩
def Yz(i:Nat)(rc:cj)(C:Cr):Prop:=(rc.cF.size≤10000000000∧rc.cS.size≤10000000000∧rc.cD.size≤10000000000)
theorem ay0(i:Nat)(hi:i<3)(rc:cj)(C:Cr)(hb:dA C)(oC:rc.cF.size≤549755813888)(IH:rc.cS.size≤549755813888)(dL:rc.cD.size≤549755813888)(n17:rc.j9.n≤549755813888)(n19:rc.j_.n≤549755813888)(hp:px rc):Yz i rc C:=by
 have hN:=fR hb i hi;unfold fq at hN;unfold Yz;exact have:=hp.s10;have:=hp.s11;have:=hp.s12;((by omega))
theorem awX(i:Nat)(hi:i<3)(rc:cj)(oC:rc.cF.size≤549755813888)(IH:rc.cS.size≤549755813888)(dL:rc.cD.size≤549755813888)(n17:rc.j9.n≤549755813888)(n19:rc.j_.n≤549755813888):fb Tryz.prog 87 (Qp i) bP [] (cg fun C=>⟨⟨some (px rc),[.bool (lB rc (C.nd i))],bN aJ 0 (C.set i (kg rc (C.nd i)))⟩⟩) [ae rc.c0,ae rc.c1,ae rc.c2,ae rc.c3,ae rc.c4,ae rc.c5,.bool rc.c6,ae rc.c7,ae rc.c8,ae rc.c9,.str rc.cF,.str rc.cS,.str rc.cD,ae rc.di,ae rc.bO,ae rc.gG,ae rc.lj,aL 8 gn rc.j9,ae rc.lk,aL 7 gP rc.j_]:=by
 refine gv fun C hb=>fun hp=>dD (anb i) (.z) (Yz i rc C) (bB 10 (aH k99 aQ) bA) Tryz.func87 ([.f]++List.replicate 29 .l++[.f,.f]++List.replicate 71 .l) ?_ ?_ (ay0 i hi rc C hb oC IH dL n17 n19 hp)
 ·rcases bJ hi with rfl|rfl|rfl<;>kernel_rfl
 ·rcases bJ hi with rfl|rfl|rfl<;>kernel_rfl
theorem azG(i:Nat)(hi:i<3):gi 87 (Qp i):=
 j4 (ks:=[kI,kI,kI,kI,kI,kI,kB,kI,kI,kI,kS,kS,kS,kI,kI,kI,kI,.sl aZ,kI,.sl bG]) fun s hs=>Eq.mp (by rcases bJ hi with rfl|rfl|rfl<;>kernel_rfl) (awX i hi ⟨s.1,s.2.1,s.2.2.1,s.2.2.2.1,s.2.2.2.2.1,s.2.2.2.2.2.1,s.2.2.2.2.2.2.1,s.2.2.2.2.2.2.2.1,s.2.2.2.2.2.2.2.2.1,s.2.2.2.2.2.2.2.2.2.1,s.2.2.2.2.2.2.2.2.2.2.1,s.2.2.2.2.2.2.2.2.2.2.2.1,s.2.2.2.2.2.2.2.2.2.2.2.2.1,s.2.2.2.2.2.2.2.2.2.2.2.2.2.1,s.2.2.2.2.2.2.2.2.2.2.2.2.2.2.1,s.2.2.2.2.2.2.2.2.2.2.2.2.2.2.2.1,s.2.2.2.2.2.2.2.2.2.2.2.2.2.2.2.2.1,s.2.2.2.2.2.2.2.2.2.2.2.2.2.2.2.2.2.1,s.2.2.2.2.2.2.2.2.2.2.2.2.2.2.2.2.2.2.1,s.2.2.2.2.2.2.2.2.2.2.2.2.2.2.2.2.2.2.2.1⟩ (hs.2.2.2.2.2.2.2.2.2.2.1 rfl) (hs.2.2.2.2.2.2.2.2.2.2.2.1 rfl) (hs.2.2.2.2.2.2.2.2.2.2.2.2.1 rfl) (hs.2.2.2.2.2.2.2.2.2.2.2.2.2.2.2.2.2.1 rfl) (hs.2.2.2.2.2.2.2.2.2.2.2.2.2.2.2.2.2.2.2.1 rfl))
theorem Iz(i:Nat)(hi:i<3):gj 87 (Qp i):=gE gu Tryz.func87 (azG i hi)
end
section
variable(i:Nat)(nd:Nd)(ka:Sl aF)
def LW(af:Int)(ak:Sl aF):Sl aF:=(bif(decide ((ak.n:Int)<300))then(Sl.app ak (Sl.lit ([(nd.ou.at' (toNat af))]:List aF)))else ak)
def GZ(nd:Nd):Nat→Int→Sl aF→Sl aF
 |0,_,_=>default
 |k+1,af,ak=>(bif(decide (af<(nd.ou.n:Int)))then(GZ nd k (i64.wrap (af+1)) (LW nd af ak))else ak)
def arD:Sl aF:=GZ nd ((toNat ((nd.ou.n:Int)-0))+1) 0 ka
def LU:Sl aF:=(arD nd ka)
def GY:Nd:={nd with td:=(L3 nd.td nd.ts),ts:=(afH nd.td nd.ts),ou:=(al:Sl aF)}
def Ql:Hr:=⟨[.p 0,.po 0 (33*i)],bP,eC,dS,cg fun C=>⟨⟨none,[],bN (aJ.set (2*i+1) 10) 1 (C.put i (GY (C.nd i)) (LU (C.nd i) C.ax) C.told C.aY)⟩⟩⟩
def aav:RS:=⟨.dY true [] [.kill (2*i+2),.own (.h 0 (33*i+32)) bK 10] (gx i (aJ.set (2*i+1) 10) 1 [] 0) (gw i (aJ.set (2*i+1) 10)),[],[]++fL i (aJ.set (2*i+1) 10),⟨[],[]⟩⟩
def asE(C:Cr):Hn (aav i).kd:=(.ai (.j ⟨2,[],[],[],.f⟩ (.ai (.lp ⟨7340035,[],[],[(.t 22,kI),(.h 7 0,.ah bK)],some 0,false,2,[],[(.h 7 0,.ah bK)],fun k (s:Int×Sl aF)=>GZ (C.nd i) k s.1 s.2,.f,fun(s:Int×Sl aF)=>((0≤s.1∧s.1≤(((C.nd i).ou.n:Nat):Int))∧(s.2.n:Int)≤C.ax.n+(s.1-0)),fun(s:Int×Sl aF)=>(toNat ((((C.nd i).ou.n:Nat):Int)-s.1)),some fun(r:Sl aF)=>(r.n:Int)≤C.ax.n+max ((((C.nd i).ou.n:Nat):Int)-0) 0⟩ (.ai (.ai (.j ⟨3757047843,[.b 11],[(.h 7 0,.ah bK)],[],.f⟩ .z .z))))) .z))
def Yw(i:Nat)(C:Cr):Prop:=((((0≤(0:Int)∧(0:Int)≤(((C.nd i).ou.n:Nat):Int))∧(C.ax.n:Int)≤C.ax.n+((0:Int)-0)))∧(∀(af:Int) (ak:Sl aF),((0≤af∧af≤(((C.nd i).ou.n:Nat):Int))∧(ak.n:Int)≤C.ax.n+(af-0))→(((decide (af<(((C.nd i).ou.n:Nat):Int)))=true→((((0:Int)≤af∧af<(((C.nd i).ou.n:Nat):Int))∧((toNat af)<(C.nd i).ou.n))∧((decide ((ak.n:Int)<300))=true→(ak.n+1≤549755813888))))∧(((decide (af<(((C.nd i).ou.n:Nat):Int)))=true→(((0≤(i64.wrap (af+1))∧(i64.wrap (af+1))≤(((C.nd i).ou.n:Nat):Int))∧(((LW (C.nd i) af ak).n:Nat):Int)≤C.ax.n+((i64.wrap (af+1))-0))∧(toNat ((((C.nd i).ou.n:Nat):Int)- (i64.wrap (af+1))))<(toNat ((((C.nd i).ou.n:Nat):Int)-af))))∧((decide (af<(((C.nd i).ou.n:Nat):Int)))=false→((ak.n:Int)≤C.ax.n+max ((((C.nd i).ou.n:Nat):Int)-0) 0))))))
theorem ayX(i:Nat)(hi:i<3)(C:Cr)(hb:dA C):Yw i C:=by
 have hN:=fR hb i hi;unfold fq at hN;unfold Yw;exact(⟨(by omega),(fun af ak dX=>⟨(fun h2=>⟨⟨(by have:=ay h2;omega),(by have:=ay h2;omega)⟩,(fun h3=>(by have:=ay h3;omega))⟩),⟨(fun h4=>(by have:=ay h4;have VD:=JE (s:=(LW (C.nd i) af ak)) _ _ _ rfl;(try simp only[Sl.pz,Sl.nA,Sl.An,aC7,aDf]at VD);have:=aq (af+1);omega)),(fun h5=>(by omega))⟩⟩)⟩)
theorem awT(i:Nat)(hi:i<3):fb Tryz.prog 73 (Ql i) bP [] (cg fun C=>⟨⟨none,[],bN (aJ.set (2*i+1) 10) 1 (C.put i (GY (C.nd i)) (LU (C.nd i) C.ax) C.told C.aY)⟩⟩) []:=by
 refine gv fun C hb=>dD (aav i) (asE i C) (Yw i C) (bB 10 (aH k39 aQ) bA) Tryz.func73 [] ?_ ?_ (ayX i hi C hb)
 ·rcases bJ hi with rfl|rfl|rfl<;>kernel_rfl
 ·rcases bJ hi with rfl|rfl|rfl<;>kernel_rfl
theorem azC(i:Nat)(hi:i<3):gi 73 (Ql i):=
 awT i hi
theorem avT(i:Nat)(hi:i<3):gj 73 (Ql i):=gE gu Tryz.func73 (azC i hi)
end
theorem rZ{t u a b c z:Int}{d:Bool}{s1 s2 s3:ag}(h1:s1.size≤10000000000)(h2:s2.size≤10000000000)(h3:s3.size≤10000000000):lU ⟨t,u,d,a,b,c,s1,s2,s3,z⟩:=⟨h1,h2,h3⟩
section
variable(x0:Int)(x2:ag)(x3:ag)(x4:Int)(x5:Int)(x6:ag)(x7:Int)(x8:Sl bk)(x9:Sl ag)(au:Sl bD)
def vu:Int:=(bif(x0==1)then oT else(bif(x0==2)then 0 else(bif(x0==3)then(bif(!(kR (i64.wrap (x7+x4))))then(qZ 7)else oT)else(bif(x0==17)then oT else(bif(x0==18)then 0 else(bif(x5==3)then(aeL x0 x2 x8)else(bif(x5==4)then(aeQ x0 x9)else(bif(x5==5)then(aeV x0 x3 x9)else(ae0 x0 x3 au)))))))))
def ad2:ag:=(bif(x0==1)then oU else(bif(x0==2)then x6 else(bif(x0==3)then(bif(!(kR (i64.wrap (x7+x4))))then tz else oU)else(bif(x0==17)then oU else(bif(x0==18)then⟨#[]⟩else(bif(x5==3)then(aeM x0 x2 x8)else(bif(x5==4)then(aeR x0 x9)else(bif(x5==5)then(aeW x0 x3 x9)else(ae1 x0 x3 au)))))))))
def ad3:Int:=let z6:=i64.wrap (x7+x4);(bif(x0==1)then(m5 0)else(bif(x0==2)then 0 else(bif(x0==3)then(bif(!(kR z6))then tC else(m5 z6))else(bif(x0==17)then(m5 (my x8 x9 au))else(bif(x0==18)then 0 else(bif(x5==3)then(aeN x0 x2 x8)else(bif(x5==4)then(aeS x0 x9)else(bif(x5==5)then(aeX x0 x3 x9)else(ae2 x0 x3 au)))))))))
def ad4:Sl ag:=(bif(x0==1)then oV else(bif(x0==2)then(al:Sl ag)else(bif(x0==3)then(bif(!(kR (i64.wrap (x7+x4))))then tD else oV)else(bif(x0==17)then oV else(bif(x0==18)then(aeK x8 x9 au)else(bif(x5==3)then(aeO x0 x2 x8)else(bif(x5==4)then(aeT x0 x9)else(bif(x5==5)then(aeY x0 x3 x9)else(ae3 x0 x3 au)))))))))
def TR:Int:=(bif(x0==1)then 1 else x5)
def ad5:ag:=(bif(x0==1)then x3 else x6)
def ad6:Int:=let z6:=i64.wrap (x7+x4);(bif(x0==1)then 0 else(bif(x0==2)then x7 else(bif(x0==3)then(bif(!(kR z6))then x7 else z6)else x7)))
def TS:Sl bk:=(bif(x0==1)then(al:Sl bk)else(bif(x0==2)then x8 else(bif(x0==3)then x8 else(bif(x0==17)then x8 else(bif(x0==18)then x8 else(bif(x5==3)then(aeP x0 x2 x3 x8)else x8))))))
def TT:Sl ag:=(bif(x0==1)then(al:Sl ag)else(bif(x0==2)then x9 else(bif(x0==3)then x9 else(bif(x0==17)then x9 else(bif(x0==18)then x9 else(bif(x5==3)then x9 else(bif(x5==4)then(aeU x0 x3 x9)else(bif(x5==5)then(aeZ x0 x3 x9)else x9))))))))
def TU:Sl bD:=(bif(x0==1)then(al:Sl bD)else(bif(x0==2)then au else(bif(x0==3)then au else(bif(x0==17)then au else(bif(x0==18)then au else(bif(x5==3)then au else(bif(x5==4)then au else(bif(x5==5)then au else(ae4 x0 x3 x4 au)))))))))
def alM:Hq:=⟨[.p 0,.g [kI,kS,kS,kS,kI]],[(.h 0 0,kI),(.h 0 1,kS),(.h 0 2,kI),(.h 1 0,.ah cN),(.h 2 0,.ah E9),(.h 3 0,.ah cH)],[[U,U,U,.own 1 0,.own 2 0,.own 3 0],[U],[U],[U]],fun(x0:Int) _ x2 x3 (x4:Int) (x5:Int) x6 (x7:Int) x8 x9 au=>⟨⟨some (x8.n≤1000000∧x9.n≤1000000∧au.n≤1000000∧(x5≠4∨(7≤x0∧x0≤8)∨1≤x9.n)),[.agg [ae (vu x0 x2 x3 x4 x5 x7 x8 x9 au),.str (ad2 x0 x2 x3 x4 x5 x6 x7 x8 x9 au),ae (ad3 x0 x2 x3 x4 x5 x7 x8 x9 au),aL 1 e9 (ad4 x0 x2 x3 x4 x5 x7 x8 x9 au)]],[[ae (TR x0 x5),.str (ad5 x0 x3 x6),ae (ad6 x0 x4 x7),aL 2 fM (TS x0 x2 x3 x5 x8),aL 1 e9 (TT x0 x3 x5 x9),aL 2 fN (TU x0 x3 x4 x5 au)],[dh],[dh],[dh]]⟩⟩⟩
theorem au5:dz 192 alM:=dE Tryz.func192
 fun(x0:Int) x1 n1 x2 n2 x3 n3 (x4:Int) (x5:Int) x6 n6 (x7:Int) x8 n8 x9 n9 au oC hp=>dy (ms:=[.f,.f,.f,.f,(.b .f .l),(.b .f .l),(.b .f (.b .f (.b .f .l))),(.b .f (.b .f (.b .l (.b .f (.b .f (.b .f .l)))))),(.b .f (.b .f (.b .l .f))),(.b .f (.b .f (.b .l .f)))]) ⟨.ma true [] [.lY (.h 0 3) cN,.kill 1,.lY (.h 0 4) E9,.kill 2,.lY (.h 0 5) cH,.kill 3],[.cell 4 99],[(.c 0 0,kI),(.c 0 1,kS),(.c 0 2,kI),(.c 0 3,.sl E9),(.h 0 0,kI),(.h 0 1,kS),(.h 0 2,kI),(.h 0 3,.sl cN),(.h 0 4,.sl E9),(.h 0 5,.sl cH)],⟨[.agg [U,U,U,U]],[[U,U,U,U,U,U],[dh],[dh],[dh]]⟩⟩ (.z) (((x0==1)=false→((x0==2)=false→((x0==3)=false→((x0==17)=false→((x0==18)=true→(x8.n≤100000000000∧x9.n≤100000000000∧au.n≤100000000000))))))∧((x0==1)=false→((x0==2)=false→((x0==3)=false→((x0==17)=false→((x0==18)=false→((((x5==3)=true→(x8.n≤1000000))∧((x5==3)=false→(((x5==4)=true→(x9.n≤1000000∧((7≤x0∧x0≤8)∨1≤x9.n)))∧((x5==4)=false→((x5==5)=true→(x9.n≤1000000))))))∧((x5==3)=false→((x5==4)=false→((x5==5)=false→(au.n≤1000000))))))))))) (bB 4 (aH N4 (aH WM (aH DB (aH Ix (aH avr aQ))))) (az avt (az avu (az avv (az avw bA))))) Tryz.func192 (have⟨cn,dv,ia,mH⟩:=hp;⟨(fun h1=>(fun h2=>(fun h3=>(fun h4=>(fun h5=>(by omega)))))),(fun h6=>(fun h7=>(fun h8=>(fun h9=>(fun dJ=>⟨⟨(fun jH=>(by omega)),(fun fw=>⟨(fun nh=>(by have:=eq_of_beq nh;omega)),(fun rG=>(fun v8=>(by omega)))⟩)⟩,(fun v_=>(fun MO=>(fun CT=>(by omega))))⟩)))))⟩)
end
structure anf (x0:Int) (x1:ag) (x2:Int) (s3:Sl bk) (s4:Sl ag) (s5:Sl bD):Prop where
 k:1≤x0∧x0≤6
 t:x0≠1→x1=⟨#[]⟩
 i:x0≠2→x2=0
 a3:x0≠3→s3.n=0
 a4:x0≠4→x0≠5→s4.n=0
 a5:x0≠6→s5.n=0
 b3:x0=3→1≤s3.n∧s3.n≤20
 b4:x0=4∨x0=5→1≤s4.n∧s4.n≤20
 b5:x0=6→1≤s5.n∧s5.n≤20
theorem aaY{x:ag}(h:(!(x.toList==(⟨#[]⟩:ag).toList))=false):x=⟨#[]⟩:=by
 have h:x.toList=(⟨#[]⟩:ag).toList:=by simpa using h
 have h2:x.data.toList=[]:=by
  have e: ∀y:ag,y.toList=y.data.toList:=fun y=>ByteArray.toList_eq y;rw[e,e]at h;exact h
 cases x with
 |mk d=>cases d with
  |mk l=>simp at h2;subst h2;rfl
theorem aAw(x0:Int)(x1:ag)(x2:Int)(s3:Sl bk)(s4:Sl ag)(s5:Sl bD)(h3:s3.n≤1048576)(h4:s4.n≤1048576)(h5:s5.n≤1048576)(h:ng x0 x1 x2 s3 s4 s5=0):anf x0 x1 x2 s3 s4 s5:=by
 unfold ng at h;obtain⟨a1,h⟩:=bz h (by decide);obtain⟨a2,h⟩:=bz h (by decide);obtain⟨a3,_⟩:=bz h (by decide);unfold vT at a1;obtain⟨b1,b2⟩:=bt a1;have c1:=df b1;have c2:=df b2;unfold tT af7 af8 ME MF MG at a2;obtain⟨d1,a2⟩:=bt a2;obtain⟨d2,a2⟩:=bt a2;unfold vU at a3;have k:x0=1∨x0=2∨x0=3∨x0=4∨x0=5∨x0=6:=by omega
 have z3:(al:Sl bk).n=0:=rfl;have z4:(al:Sl ag).n=0:=rfl;have z5:(al:Sl bD).n=0:=rfl;have a2:=df a2;have c3:3≤x0→ ¬(my s3 s4 s5<1)∧ ¬(my s3 s4 s5>20):=fun hx=>by
  rw[cx (show x0≥3 by omega)]at a3;obtain⟨e1,e2⟩:=bt a3;exact⟨df e1,df e2⟩
 rw[Zh _ _ _ h3 h4 h5]at c3;have t1:x0≠1→x1=⟨#[]⟩:=fun hx=>by
  rw[show(x0==1)=false from aDA.2 hx]at d1;exact aaY d1
 have t2:x0≠2→x2=0:=fun hx=>by
  rw[show(x0==2)=false from aDA.2 hx]at d2;have d2:=bE d2;revert d2
  cases (x0==1)<;>exact id
 rcases k with e|e|e|e|e|e<;>subst e<;>
 simp only[aEa,Int.reduceBEq,aCJ,aCI]at a2<;>
 rw[Zh _ _ _ (by omega) (by omega) (by omega)]at a2<;>
 exact⟨by omega,t1,t2,by omega,by omega,by omega,by omega,by omega,by omega⟩
section
variable(x0:Int)(x1:ag)(x2:Int)(x3:Sl bk)(x4:Sl ag)(x5:Sl bD)(x6:Int)(x7:ag)(x8:ag)(x9:ag)(au:Int)
def Bp:Bool:=(bif(x0==0)then(bif((x1:ag).toList==(⟨#[]⟩:ag).toList)then(bif(x2==0)then((my x3 x4 x5)==0)else false)else false)else false)
def mw:Bool:=(bif((ng x0 x1 x2 x3 x4 x5)!=0)then(!(Bp x0 x1 x2 x3 x4 x5))else false)
def Th:Bool:=(bif(Bp x0 x1 x2 x3 x4 x5)then(!(BK x6))else false)
def acE:Bool:=(bif((BJ x6)!=0)then((BJ x6)!=x0)else false)
def apX:Bool:=(bif(decide (x6≥17))then(decide (x0<3))else false)
def apY:Bool:=(bif(acE x0 x6)then(acE x0 x6)else(apX x0 x6))
def kP:Int:=(bif(Bp x0 x1 x2 x3 x4 x5)then(BJ x6)else(BH x0))
def nR:Bool:=(bif(Th x0 x1 x2 x3 x4 x5 x6)then false else(bif(Bp x0 x1 x2 x3 x4 x5)then true else(bif(apY x0 x6)then false else true)))
def Bq:Bool:=let z6:=kP x0 x1 x2 x3 x4 x5 x6;(bif(decide ((TR x6 z6)≥3))then((my (TS x6 x8 x9 z6 x3) (TT x6 x9 z6 x4) (TU x6 x9 au z6 x5))==0)else false)
def apR:Int:=(bif(Bq x0 x1 x2 x3 x4 x5 x6 x8 x9 au)then 0 else(TR x6 (kP x0 x1 x2 x3 x4 x5 x6)))
def apS:ag:=(bif(Bq x0 x1 x2 x3 x4 x5 x6 x8 x9 au)then⟨#[]⟩else(ad5 x6 x9 (BI x1)))
def apT:Int:=(bif(Bq x0 x1 x2 x3 x4 x5 x6 x8 x9 au)then 0 else(ad6 x6 au (mA x2)))
def apU:Sl bk:=(bif(Bq x0 x1 x2 x3 x4 x5 x6 x8 x9 au)then(al:Sl bk)else(TS x6 x8 x9 (kP x0 x1 x2 x3 x4 x5 x6) x3))
def apV:Sl ag:=(bif(Bq x0 x1 x2 x3 x4 x5 x6 x8 x9 au)then(al:Sl ag)else(TT x6 x9 (kP x0 x1 x2 x3 x4 x5 x6) x4))
def apW:Sl bD:=(bif(Bq x0 x1 x2 x3 x4 x5 x6 x8 x9 au)then(al:Sl bD)else(TU x6 x9 au (kP x0 x1 x2 x3 x4 x5 x6) x5))
def Kq:Int:=(bif(mw x0 x1 x2 x3 x4 x5)then 0 else(bif((fO x6 x7 x8 x9 au)!=0)then 0 else(bif(decide (x6>18))then 0 else(bif(nR x0 x1 x2 x3 x4 x5 x6)then(bif((vu x6 x8 x9 au (kP x0 x1 x2 x3 x4 x5 x6) (mA x2) x3 x4 x5)!=0)then(BH x0)else(BH (apR x0 x1 x2 x3 x4 x5 x6 x8 x9 au)))else(BH x0)))))
def acw:ag:=(bif(mw x0 x1 x2 x3 x4 x5)then⟨#[]⟩else(bif((fO x6 x7 x8 x9 au)!=0)then⟨#[]⟩else(bif(decide (x6>18))then⟨#[]⟩else(bif(nR x0 x1 x2 x3 x4 x5 x6)then(bif((vu x6 x8 x9 au (kP x0 x1 x2 x3 x4 x5 x6) (mA x2) x3 x4 x5)!=0)then(BI x1)else(BI (apS x0 x1 x2 x3 x4 x5 x6 x8 x9 au)))else(BI x1)))))
def acx:Int:=(bif(mw x0 x1 x2 x3 x4 x5)then 0 else(bif((fO x6 x7 x8 x9 au)!=0)then 0 else(bif(decide (x6>18))then 0 else(bif(nR x0 x1 x2 x3 x4 x5 x6)then(bif((vu x6 x8 x9 au (kP x0 x1 x2 x3 x4 x5 x6) (mA x2) x3 x4 x5)!=0)then(mA x2)else(mA (apT x0 x1 x2 x3 x4 x5 x6 x8 x9 au)))else(mA x2)))))
def acy:Sl bk:=(bif(mw x0 x1 x2 x3 x4 x5)then(al:Sl bk)else(bif((fO x6 x7 x8 x9 au)!=0)then(al:Sl bk)else(bif(decide (x6>18))then(al:Sl bk)else(bif(nR x0 x1 x2 x3 x4 x5 x6)then(bif((vu x6 x8 x9 au (kP x0 x1 x2 x3 x4 x5 x6) (mA x2) x3 x4 x5)!=0)then x3 else(apU x0 x1 x2 x3 x4 x5 x6 x8 x9 au))else x3))))
def acz:Sl ag:=(bif(mw x0 x1 x2 x3 x4 x5)then(al:Sl ag)else(bif((fO x6 x7 x8 x9 au)!=0)then(al:Sl ag)else(bif(decide (x6>18))then(al:Sl ag)else(bif(nR x0 x1 x2 x3 x4 x5 x6)then(bif((vu x6 x8 x9 au (kP x0 x1 x2 x3 x4 x5 x6) (mA x2) x3 x4 x5)!=0)then x4 else(apV x0 x1 x2 x3 x4 x5 x6 x8 x9 au))else x4))))
def acA:Sl bD:=(bif(mw x0 x1 x2 x3 x4 x5)then(al:Sl bD)else(bif((fO x6 x7 x8 x9 au)!=0)then(al:Sl bD)else(bif(decide (x6>18))then(al:Sl bD)else(bif(nR x0 x1 x2 x3 x4 x5 x6)then(bif((vu x6 x8 x9 au (kP x0 x1 x2 x3 x4 x5 x6) (mA x2) x3 x4 x5)!=0)then x5 else(apW x0 x1 x2 x3 x4 x5 x6 x8 x9 au))else x5))))
def FA:Int:=(bif(mw x0 x1 x2 x3 x4 x5)then 0 else(bif((fO x6 x7 x8 x9 au)!=0)then 0 else(bif(decide (x6>18))then 0 else(bif(nR x0 x1 x2 x3 x4 x5 x6)then(vu x6 x8 x9 au (kP x0 x1 x2 x3 x4 x5 x6) (mA x2) x3 x4 x5)else(bif(Th x0 x1 x2 x3 x4 x5 x6)then(qZ 5)else(qZ 4))))))
def acB:ag:=(bif(mw x0 x1 x2 x3 x4 x5)then⟨#[]⟩else(bif((fO x6 x7 x8 x9 au)!=0)then⟨#[]⟩else(bif(decide (x6>18))then⟨#[]⟩else(bif(nR x0 x1 x2 x3 x4 x5 x6)then(ad2 x6 x8 x9 au (kP x0 x1 x2 x3 x4 x5 x6) (BI x1) (mA x2) x3 x4 x5)else tz))))
def acC:Int:=(bif(mw x0 x1 x2 x3 x4 x5)then 0 else(bif((fO x6 x7 x8 x9 au)!=0)then 0 else(bif(decide (x6>18))then 0 else(bif(nR x0 x1 x2 x3 x4 x5 x6)then(ad3 x6 x8 x9 au (kP x0 x1 x2 x3 x4 x5 x6) (mA x2) x3 x4 x5)else tC))))
def acD:Sl ag:=(bif(mw x0 x1 x2 x3 x4 x5)then(al:Sl ag)else(bif((fO x6 x7 x8 x9 au)!=0)then(al:Sl ag)else(bif(decide (x6>18))then(al:Sl ag)else(bif(nR x0 x1 x2 x3 x4 x5 x6)then(ad4 x6 x8 x9 au (kP x0 x1 x2 x3 x4 x5 x6) (mA x2) x3 x4 x5)else tD))))
def apQ:Int:=(bif(mw x0 x1 x2 x3 x4 x5)then(ng x0 x1 x2 x3 x4 x5)else(bif((fO x6 x7 x8 x9 au)!=0)then(fO x6 x7 x8 x9 au)else(bif(decide (x6>18))then 3 else 0)))
theorem d185{x:Int}(h:BK x=true):BJ x≠4∨(7≤x∧x≤8):=by
 by_cases e7:x=7
 ·omega
 by_cases e8:x=8
 ·omega
 refine .inl fun e=> ?_;unfold BK ad1 at h;have k:x=1∨x=3∨x=4∨x=11∨x=14:=by
  by_cases a:x=1
  ·omega
  by_cases b:x=3
  ·omega
  by_cases c:x=4
  ·omega
  by_cases d:x=11
  ·omega
  by_cases f:x=14
  ·omega
  simp [a,b,c,d,f,e7,e8]at h
 rcases k with k|k|k|k|k<;>subst k<;>simp [BJ,adX,adY,adZ,ad0]at e
theorem d101(x0:Int)(x1:ag)(x2:Int)(x3:Sl bk)(x4:Sl ag)(x5:Sl bD)(x6:Int)(h1:mw x0 x1 x2 x3 x4 x5=false)(h:nR x0 x1 x2 x3 x4 x5 x6=true)(n3:x3.n≤1048576)(n4:x4.n≤1048576)(n5:x5.n≤1048576):
  x3.n≤20∧x4.n≤20∧x5.n≤20∧((kP x0 x1 x2 x3 x4 x5 x6)≠4∨(7≤x6∧x6≤8)∨1≤x4.n):=by
 unfold nR Th at h;unfold mw at h1;unfold kP
 cases e:Bp x0 x1 x2 x3 x4 x5 with
 |true=>
  simp only[e,aCJ]at h ⊢;have hk:BK x6=true:=by
   cases e2:BK x6 with
   |true=>rfl
   |false=>rw[e2]at h;cases h
  unfold Bp at e;have hz:(my x3 x4 x5==0)=true:=by
   cases e2:(my x3 x4 x5==0)with
   |true=>rfl
   |false=>rw[e2]at e;revert e;cases (x0==0)<;>cases (x1.toList==(⟨#[]⟩:ag).toList)<;>cases (x2==0)<;>simp
  have hz:=eq_of_beq hz;rw[Zh _ _ _ n3 n4 n5]at hz;have:=d185 hk;omega
 |false=>
  simp only[e,aCI,Bool.not_false]at h h1 ⊢;have g:ng x0 x1 x2 x3 x4 x5=0:=by
   cases e2:(ng x0 x1 x2 x3 x4 x5 !=0)with
   |false=>exact bE e2
   |true=>rw[e2]at h1;cases h1
  have v:=(aoe _ _ _ _ _ _ n3 n4 n5 g).2.1;have s:=(aAw _ _ _ _ _ _ n3 n4 n5 g).b4;unfold BH;omega
def akw:Fq:=⟨[.g [kI,kS,kI,.sl cN,.sl E9,.sl cH],.g [kI,kS,kS,kS,kI]],fun(x0:Int) x1 (x2:Int) x3 x4 x5 (x6:Int) x7 x8 x9 (au:Int)=>⟨⟨some (x3.n≤1048576∧x4.n≤1048576∧x5.n≤1048576),.cU [.agg [ae (Kq x0 x1 x2 x3 x4 x5 x6 x7 x8 x9 au),.str (acw x0 x1 x2 x3 x4 x5 x6 x7 x8 x9 au),ae (acx x0 x1 x2 x3 x4 x5 x6 x7 x8 x9 au),aL 2 fM (acy x0 x1 x2 x3 x4 x5 x6 x7 x8 x9 au),aL 1 e9 (acz x0 x1 x2 x3 x4 x5 x6 x7 x8 x9 au),aL 2 fN (acA x0 x1 x2 x3 x4 x5 x6 x7 x8 x9 au)],.agg [ae (FA x0 x1 x2 x3 x4 x5 x6 x7 x8 x9 au),.str (acB x0 x1 x2 x3 x4 x5 x6 x7 x8 x9 au),ae (acC x0 x1 x2 x3 x4 x5 x6 x7 x8 x9 au),aL 1 e9 (acD x0 x1 x2 x3 x4 x5 x6 x7 x8 x9 au)],ae (apQ x0 x1 x2 x3 x4 x5 x6 x7 x8 x9 au)]⟩⟩⟩
theorem aui:ba 166 akw:=bf Tryz.func166
 fun(x0:Int) x1 n1 (x2:Int) x3 n3 _ x4 n4 _ x5 n5 _ (x6:Int) x7 n7 x8 n8 x9 n9 (au:Int) hp=>bj (ms:=[(.b .f (.b .f (.b .f (.b .f .l)))),(.b .f (.b .f (.b .f (.b .f .l)))),(.b .f (.b .f (.b .f (.b .f .l)))),(.b .f (.b .f (.b .f (.b .f .l)))),(.b .f (.b .f (.b .f (.b .f .l)))),(.b .f (.b .f (.b .f (.b .f .l)))),(.b .f (.b .f (.b .f (.b .l .f)))),(.b .f (.b .f (.b .f (.b .l .l)))),(.b .f (.b .f (.b .f (.b .l .l)))),(.b .f (.b .f (.b .f (.b .l .l)))),(.b .f (.b .f (.b .f .l)))]) ⟨.pure,[.cell 4 125,.cell 5 99,.tmp 6],[(.c 0 0,kI),(.c 0 1,kS),(.c 0 2,kI),(.c 0 3,.sl cN),(.c 0 4,.sl E9),(.c 0 5,.sl cH),(.c 1 0,kI),(.c 1 1,kS),(.c 1 2,kI),(.c 1 3,.sl E9),(.t 2,kI)],⟨[.agg (us 6 []),.agg (us 4 []),U],[]⟩⟩ (.ai (.j ⟨252,[],[(.t 7,kB)],[],.f⟩ .z (.s (.ai (.j ⟨274877907452,[],[(.t 38,kB)],[],.f⟩ .z .z)) (.ai (.ai (.ai (.ai (.j ⟨1148,[],[(.h 7 0,kI)],[],.f⟩ (.j ⟨576460752303426812,[],[(.t 59,kB)],[],.f⟩ .z (.ai (.ai (.ai (.j ⟨9444732965739290428540,[],[(.t 73,kB)],[],.f⟩ (.j ⟨9444732965739290428540,[],[(.t 73,kB)],[],.f⟩ .z (.ai (.j ⟨9444732965739290428540,[],[(.t 73,kB)],[],.f⟩ .z .z))) .z))))) (.ai (.ai (.j ⟨5232,[],[(.h 7 0,kI),(.h 7 1,kS),(.h 7 2,kI),(.h 7 3,.sl cN),(.h 7 4,.sl E9),(.h 7 5,.sl cH)],[],.f⟩ (.j ⟨162259276829213363391578010293360,[.b 0,.b 1,.b 4,.b 5,.b 6],[(.t 107,kB)],[],.f⟩ .z .z) .z))))))))))) ((mw x0 x1 x2 x3 x4 x5)=false→(((fO x6 x7 x8 x9 au)!=0)=false→((decide (x6>18))=false→((nR x0 x1 x2 x3 x4 x5 x6)=true→(x3.n≤1000000∧x4.n≤1000000∧x5.n≤1000000∧((kP x0 x1 x2 x3 x4 x5 x6)≠4∨(7≤x6∧x6≤8)∨1≤x4.n)))))) (bB 0 (aH WU (aH k72 (aH WM (aH au3 (aH au4 (aH DB aQ)))))) (az au2 (az au5 bA))) Tryz.func166 (have⟨cn,dv,ia⟩:=hp;(fun h1=>(fun h2=>(fun h3=>(fun h4=>(by have:=h1;simp [mw]at this;have:=bE h2;have:=iw h3;have:=d101 _ _ _ _ _ _ _ (by assumption) h4 (by omega) (by omega) (by omega);omega))))))
end
section
def Tk(x8:Sl ar):Nat→Int→Sl ag→Sl ag
 |0,_,_=>default
 |k+1,af,ak=>(bif(decide (af<(x8.n:Int)))then(Tk x8 k (i64.wrap (af+1)) (Sl.app ak (Sl.lit ([(x8.at' (toNat af)).c0]:List ag))))else ak)
variable(x0:Int)(x1:ag)(x2:ag)(x3:ag)(x4:Int)(x5:Int)(x8:Sl ar)
def ap5:Sl ag:=Tk x8 ((toNat ((x8.n:Int)-0))+1) 0 (al:Sl ag)
def oO:Bool:=(bif(x0==20)then(x0==20)else(x0==21))
def ti:Int:=(bif(iC x1 x8)then(x8.at' (toNat (iT x1 x8))).c1 else 0)
def tj:ag:=(bif(iC x1 x8)then(x8.at' (toNat (iT x1 x8))).c2 else⟨#[]⟩)
def tl:Int:=(bif(iC x1 x8)then(x8.at' (toNat (iT x1 x8))).c3 else 0)
def qT:Sl bk:=(bif(iC x1 x8)then(x8.at' (toNat (iT x1 x8))).c4 else(al:Sl bk))
def qU:Sl ag:=(bif(iC x1 x8)then(x8.at' (toNat (iT x1 x8))).c5 else(al:Sl ag))
def qV:Sl bD:=(bif(iC x1 x8)then(x8.at' (toNat (iT x1 x8))).c6 else(al:Sl bD))
def Bt:Bool:=(bif((Kq (ti x1 x8) (tj x1 x8) (tl x1 x8) (qT x1 x8) (qU x1 x8) (qV x1 x8) x0 x1 x2 x3 x4)==0)then(iC x1 x8)else false)
def Tm:Bool:=(bif(!(iC x1 x8))then((x8.n:Int)==12)else false)
def ap4:Sl ar:=let ze:=qV x1 x8;let zd:=qU x1 x8;let zc:=qT x1 x8;let zb:=tl x1 x8;let za:=tj x1 x8;let z8:=ti x1 x8;let z6:=Kq z8 za zb zc zd ze x0 x1 x2 x3 x4;(bif((FA z8 za zb zc zd ze x0 x1 x2 x3 x4)!=0)then x8 else(bif(Bt x0 x1 x2 x3 x4 x8)then(Ku (iT x1 x8) x8)else(bif(z6 !=0)then(adv x0 x1 z6 (acw z8 za zb zc zd ze x0 x1 x2 x3 x4) (acx z8 za zb zc zd ze x0 x1 x2 x3 x4) (acy z8 za zb zc zd ze x0 x1 x2 x3 x4) (acz z8 za zb zc zd ze x0 x1 x2 x3 x4) (acA z8 za zb zc zd ze x0 x1 x2 x3 x4) (iT x1 x8) (iC x1 x8) x8)else x8)))
def FE:Bool:=(bif((FA (ti x1 x8) (tj x1 x8) (tl x1 x8) (qT x1 x8) (qU x1 x8) (qV x1 x8) x0 x1 x2 x3 x4)!=0)then true else(bif(Bt x0 x1 x2 x3 x4 x8)then true else(bif(Tm x1 x8)then false else true)))
def adl:Int:=(bif(x0==22)then 0 else(bif(x0==19)then 0 else(bif(oO x0)then(adq x0 x4 x5 (iC x1 x8))else(bif(FE x0 x1 x2 x3 x4 x8)then(FA (ti x1 x8) (tj x1 x8) (tl x1 x8) (qT x1 x8) (qU x1 x8) (qV x1 x8) x0 x1 x2 x3 x4)else 6))))
def adm:ag:=(bif(x0==22)then⟨#[]⟩else(bif(x0==19)then⟨#[]⟩else(bif(oO x0)then adr else(bif(FE x0 x1 x2 x3 x4 x8)then(acB (ti x1 x8) (tj x1 x8) (tl x1 x8) (qT x1 x8) (qU x1 x8) (qV x1 x8) x0 x1 x2 x3 x4)else⟨#[]⟩))))
def adn:Int:=(bif(x0==22)then 0 else(bif(x0==19)then(bif(!(iC x1 x8))then 0 else 1)else(bif(oO x0)then(ads x0 x5 (iT x1 x8) (iC x1 x8) x8)else(bif(FE x0 x1 x2 x3 x4 x8)then(acC (ti x1 x8) (tj x1 x8) (tl x1 x8) (qT x1 x8) (qU x1 x8) (qV x1 x8) x0 x1 x2 x3 x4)else 0))))
def ado:Sl ag:=(bif(x0==22)then(ap5 x8)else(bif(x0==19)then(al:Sl ag)else(bif(oO x0)then adt else(bif(FE x0 x1 x2 x3 x4 x8)then(acD (ti x1 x8) (tj x1 x8) (tl x1 x8) (qT x1 x8) (qU x1 x8) (qV x1 x8) x0 x1 x2 x3 x4)else(al:Sl ag)))))
def ap2:Int:=(iT x1 x8)
def ap3:Bool:=(iC x1 x8)
def adp:Sl ar:=(bif(x0==22)then x8 else(bif(x0==19)then(bif(!(iC x1 x8))then x8 else(Ku (iT x1 x8) x8))else(bif(oO x0)then(adu x0 x4 x5 (iT x1 x8) (iC x1 x8) x8)else(bif(FE x0 x1 x2 x3 x4 x8)then(ap4 x0 x1 x2 x3 x4 x8)else x8))))
theorem aAT(x0:Int)(x1 x2 x3:ag)(x4:Int)(x8:Sl ar)(h:Bt x0 x1 x2 x3 x4 x8=true):iT x1 x8<(x8.n:Int):=by
 refine Aw x1 x8 ?_;unfold Bt at h
 cases e:iC x1 x8 with
 |true=>rfl
 |false=>rw[e]at h;simp at h
theorem ax3(x1:ag)(x8:Sl ar)(h:SS x8):(((qT x1 x8).n:Nat):Int)≤1048576:=by
 unfold qT
 cases e:iC x1 x8 with
 |false=>show((0:Nat):Int)≤_;omega
 |true=>
  have h1:=xq x1 x8 (by have:=h.1;omega);have h2:=Aw x1 x8 e;have:=h.2 (toNat (iT x1 x8)) (by omega);simp only[aCJ];omega
theorem ax4(x1:ag)(x8:Sl ar)(h:SS x8):(((qU x1 x8).n:Nat):Int)≤1048576:=by
 unfold qU
 cases e:iC x1 x8 with
 |false=>show((0:Nat):Int)≤_;omega
 |true=>
  have h1:=xq x1 x8 (by have:=h.1;omega);have h2:=Aw x1 x8 e;have:=h.2 (toNat (iT x1 x8)) (by omega);simp only[aCJ];omega
theorem ax5(x1:ag)(x8:Sl ar)(h:SS x8):(((qV x1 x8).n:Nat):Int)≤1048576:=by
 unfold qV
 cases e:iC x1 x8 with
 |false=>show((0:Nat):Int)≤_;omega
 |true=>
  have h1:=xq x1 x8 (by have:=h.1;omega);have h2:=Aw x1 x8 e;have:=h.2 (toNat (iT x1 x8)) (by omega);simp only[aCJ];omega
def akF:Hq:=⟨[.p 0,.g [kI,kS,kS,kS,kI]],[(.h 0 0,kI),(.h 0 2,kI),(.h 0 3,kB),(.h 1 0,.ah aZ)],[[U,.own 1 0,U,U],[U]],fun(x0:Int) x1 x2 x3 (x4:Int) (x5:Int) _ _ x8=>let z6:=adp x0 x1 x2 x3 x4 x5 x8;⟨⟨some (SS x8∧x8.n≤1000000),[.agg [ae (adl x0 x1 x2 x3 x4 x5 x8),.str (adm x0 x1 x2 x3 x4 x8),ae (adn x0 x1 x2 x3 x4 x5 x8),aL 1 e9 (ado x0 x1 x2 x3 x4 x8)]],[[ae x5,.own 2 (z6).n,ae (ap2 x1 x8),.bool (ap3 x1 x8)],[dh],[(Kd.ah aZ).av z6]]⟩⟩⟩
theorem aup:dz 151 akF:=dE Tryz.func151
 fun(x0:Int) x1 n1 x2 n2 x3 n3 (x4:Int) (x5:Int) (x6:Int) x7 x8 n8 hp=>dy (ms:=[(.b .f (.b .l .f)),(.b .f (.b .l .f)),.f,(.b .f (.b .l .f)),.l,.l,.l,.f]) ⟨.ma true [.b 2] [.own (.h 0 1) aZ 2],[.cell 4 99],[(.c 0 0,kI),(.c 0 1,kS),(.c 0 2,kI),(.c 0 3,.sl E9),(.h 0 0,kI),(.h 0 2,kI),(.h 0 3,kB),(.h 2 0,.ah aZ)],⟨[.agg [U,U,U,U]],[[U,.own 2 0,U,U],[dh],[U]]⟩⟩ (.ai (.ai (.s (.ai (.ai (.s (.ai (.j ⟨57,[],[],[],.f⟩ (.ai (.lp ⟨117440569,[],[(.h 4 3,E9)],[(.t 26,kI),(.h 5 0,.ah E9)],some 1,false,57,[],[(.h 5 0,.ah E9)],fun k (s:Int×Sl ag)=>Tk x8 k s.1 s.2,.f,fun(s:Int×Sl ag)=>((0≤s.1∧s.1≤(x8.n:Int))∧(s.2.n:Int)≤0+(s.1-0)),fun(s:Int×Sl ag)=>(toNat ((x8.n:Int)-s.1)),some fun(r:Sl ag)=>(r.n:Int)≤0+max ((x8.n:Int)-0) 0⟩ .z)) .z)) (.ai (.ai (.j ⟨1125899906842649,[],[(.t 50,kB)],[],.f⟩ .z .z)))))) (.ai (.j ⟨281,[],[(.h 4 0,kI),(.h 4 1,kS),(.h 4 2,kI),(.h 4 3,.sl cN),(.h 4 4,.sl E9),(.h 4 5,.sl cH)],[],.f⟩ .z (.ai (.jc ⟨1040,[.b 2,.b 4,.b 5],[(.h 41 0,.ah aZ)],[],(.b .f (.b .f (.b .f .l)))⟩ [.own (.h 0 1) aZ 41] (.ai (.ai (.j ⟨9671406556917033397650969,[.b 4],[(.t 83,kB)],[],.f⟩ .z (.ai (.j ⟨39614081257132168796771976729,[],[(.t 95,kB)],[],.f⟩ .z .z))))) .z))))))) (let zf:=Bt x0 x1 x2 x3 x4 x8;let ze:=qV x1 x8;let zd:=qU x1 x8;let zc:=qT x1 x8;let zb:=iC x1 x8;let z6:=iT x1 x8;(((x0==22)=true→((((0≤(0:Int)∧(0:Int)≤(x8.n:Int))∧((0:Nat):Int)≤0+((0:Int)-0)))∧(∀(af:Int) (ak:Sl ag),let za:=decide (af<(x8.n:Int));let z8:=i64.wrap (af+1);((0≤af∧af≤(x8.n:Int))∧(ak.n:Int)≤0+(af-0))→((za=true→((((0:Int)≤af∧af<(x8.n:Int))∧((toNat af)<x8.n))∧(ak.n+1≤549755813888)))∧((za=true→(((0≤z8∧z8≤(x8.n:Int))∧(((ak.n+1):Nat):Int)≤0+(z8-0))∧(toNat ((x8.n:Int)-z8))<(toNat ((x8.n:Int)-af))))∧(za=false→((ak.n:Int)≤0+max ((x8.n:Int)-0) 0)))))))∧((x0==22)=false→(((x0==19)=true→((!zb)=false→(x8.n≤1000000∧0≤z6∧z6<(x8.n:Int))))∧((x0==19)=false→((oO x0)=true→(TH zb z6 x8.n∧x8.n≤1000000))))))∧((x0==22)=false→((x0==19)=false→((oO x0)=false→((zb=true→(((0:Int)≤z6∧z6<(x8.n:Int))∧((toNat z6)<x8.n)))∧((zc.n≤1048576∧zd.n≤1048576∧ze.n≤1048576)∧(((FA (ti x1 x8) (tj x1 x8) (tl x1 x8) zc zd ze x0 x1 x2 x3 x4)!=0)=false→((zf=true→(x8.n≤1000000∧0≤z6∧z6<(x8.n:Int)))∧(zf=false→((Tm x1 x8)=false→(((Kq (ti x1 x8) (tj x1 x8) (tl x1 x8) zc zd ze x0 x1 x2 x3 x4)!=0)=true→(TH zb z6 x8.n∧x8.n≤1000000)))))))))))) (bB 2 (aH aui aQ) (az aur (az aus (az aut (az auy bA))))) Tryz.func151 (have⟨cn,dv⟩:=hp;⟨⟨(fun h1=>⟨(by omega),(fun af ak jk=>⟨(fun h3=>⟨⟨(by have:=ay h3;omega),(by have:=ay h3;omega)⟩,(by omega)⟩),⟨(fun h4=>(by have:=ay h4;have:=aq (af+1);omega)),(fun h5=>(by omega))⟩⟩)⟩),(fun h6=>⟨(fun h7=>(fun h8=>(by have:=aA5 _ _ h8;have:=xq x1 x8 (by omega);omega))),(fun h9=>(fun dJ=>⟨(by repeat first|assumption|apply mi),(by omega)⟩))⟩)⟩,(fun jH=>(fun fw=>(fun nh=>⟨(fun rG=>⟨(by have:=cM jH;have:=cM fw;have:=nh;simp [oO]at this;have:=Aw _ _ rG;have:=xq x1 x8 (by omega);omega),(by have:=cM jH;have:=cM fw;have:=nh;simp [oO]at this;have:=Aw _ _ rG;have:=xq x1 x8 (by omega);omega)⟩),⟨(by have:=cM jH;have:=cM fw;have:=nh;simp [oO]at this;have:=ax3 x1 x8 (by repeat first|assumption|apply mi|apply w6|apply w5|apply kD|apply oE|apply And.intro|apply EY|apply EX);have:=ax4 x1 x8 (by repeat first|assumption|apply mi|apply w6|apply w5|apply kD|apply oE|apply And.intro|apply EY|apply EX);have:=ax5 x1 x8 (by repeat first|assumption|apply mi|apply w6|apply w5|apply kD|apply oE|apply And.intro|apply EY|apply EX);omega),(fun v8=>⟨(fun v_=>(by have:=cM jH;have:=cM fw;have:=nh;simp [oO]at this;have:=bE v8;have:=aAT _ _ _ _ _ _ v_;have:=xq x1 x8 (by omega);omega)),(fun MO=>(fun CT=>(fun Vr=>⟨(by repeat first|assumption|apply mi),(by have:=cM jH;have:=cM fw;have:=nh;simp [oO]at this;have:=bE v8;have:=MO;simp [Bt]at this;have:=CT;simp [Tm]at this;have:=bne_iff_ne.1 Vr;omega)⟩)))⟩)⟩⟩)))⟩)
end
theorem ZJ(s:Sl ar)(hn:s.n≤549755813888):(ly s).B=s.B:=by
 have:=axK (Kt s) s (fun x=>x) hn (fun _ _ _=>rfl) al;rw[List.map_id',PB,aDD]at this;exact this
theorem aih(s:Sl ar)(hn:s.n≤549755813888):(ly s).n=s.n:=nB' (ZJ s hn)
theorem take_one{α:Type}(s:Sl α){j:Nat}(h:j<s.n):s.B.take (j+1)=s.B.take j++[s.at' j]:=by
 rw[List.take_add_one,PC,aCL h];rfl
theorem aAY{α:Type}(s:Sl α)(i:Nat)(x:α)(h:i<s.n):(s.cp i x).B.take (i+1)=s.B.take i++[x]:=by
 rw[aAx s i x h,List.take_append,List.take_of_length_le (by rw[aDq];omega)];rw[aDq,eJ,show i+1-min i s.n=1 by omega];rfl
theorem ako{α:Type}(s:Sl α)(i:Nat)(z:α)(h:i≤s.n):(Sl.cut (Sl.w_ s i z) i).B=s.B.take i:=by
 apply aD_;intro q;rw[PC,aEv]
 by_cases hq:q<i
 ·have e:Nat.blt q i=true:=by simpa[aC9]using hq
  rw[aCL (show q<(Sl.cut (Sl.w_ s i z) i).n from hq),aCL hq,PC,aCL (by omega)];show some (bif Nat.blt q i then s.at' q else z)=some (s.at' q);rw[e];rfl
 ·rw[aCM (show¬q<(Sl.cut (Sl.w_ s i z) i).n from hq),aCM hq]
section
variable (x0:Int)
def pe(e:ar):Bool:= !(jC e.c7 x0)
theorem Xv(s:Sl ar)(hn:s.n≤1000000): ∀(m fu i j:Nat) (S:Sl ar),j+m=s.n→m≤fu→i<j→S.n=s.n→(∀q,j≤q→q<s.n→S.at' q=s.at' q)→S.B.take i=(s.B.take j).filter (pe x0)→
  ∃(i':Nat) (S':Sl ar),Br x0 (fu+1) (i:Int) (j:Int) S=((i':Int),S')∧i'<s.n∧S'.n=s.n∧S'.B.take i'=s.B.filter (pe x0)
 |0,fu,i,j,S,hj,_,iY,hS,_,hI=>by
  refine⟨i,S,?_,by omega,hS,?_⟩
  ·show(bif(decide ((j:Int)<(S.n:Int)))then _ else _)=_;rw[cq (by omega)];rfl
  ·rw[hI,List.take_of_length_le (by rw[eJ];omega)]
 |m+1,fu,i,j,S,hj,hf,iY,hS,ha,hI=>by
  obtain⟨fu,rfl⟩: ∃q,fu=q+1:=⟨fu-1,by omega⟩;have e:Br x0 (fu+1+1) (i:Int) (j:Int) S=Br x0 (fu+1) (xz x0 (i:Int) (j:Int) S) ((j+1:Nat):Int) (Bs x0 (i:Int) (j:Int) S):=by
   show(bif(decide ((j:Int)<(S.n:Int)))then _ else _)=_;rw[cx (by omega),aq _];rfl
  rw[e];unfold Bs xz;rw[aCZ,aCZ,ha j (aCK _) (by omega)];have hk:(!(jC (s.at' j).c7 x0))=pe x0 (s.at' j):=rfl;rw[hk]
  cases k:pe x0 (s.at' j)with
  |true=>
   simp only[aCJ];rw[aq _];refine Xv s hn m fu (i+1) (j+1) _ (by omega) (by omega) (by omega) hS (fun q h1 h2=> ?_) ?_
   ·show(bif Nat.beq q i then s.at' j else S.at' q)=s.at' q;rw[ayl (by omega)];exact ha q (by omega) h2
   ·rw[aAY S i _ (by omega),hI,take_one s (by omega),aEq,List.filter_cons_of_pos (by simpa using k),List.filter_nil]
  |false=>
   simp only[aCI];refine Xv s hn m fu i (j+1) S (by omega) (by omega) (by omega) hS (fun q h1 h2=>ha q (by omega) h2) ?_;rw[hI,take_one s (by omega),aEq,List.filter_cons_of_neg (by simp [k]),List.filter_nil,aDi]
theorem Oq{α:Type}{s:Sl α}{e:α}(h:e∈s.B): ∃i,i<s.n∧s.at' i=e:=by
 simp only[Sl.B,aDx,aDS]at h;exact h
theorem ZK(x1:Int)(x2:Bool)(s:Sl ar)(hn:s.n≤1000000):(nS x0 x1 x2 s).B=s.B.filter (pe x0):=by
 unfold nS FD;rcases(YF x0 x1 x2 s (by omega)).2 with⟨h,l9⟩|⟨t,ht,h,hp,l9⟩
 ·rw[h];show s.B=_;refine(List.filter_eq_self.2 fun e he=> ?_).symm;obtain⟨i,hi,rfl⟩:=Oq he;show(!(jC (s.at' i).c7 x0))=true;rw[l9 i hi];rfl
 ·rw[h];have e1:(((t:Int)== -1))=false:=aDA.2 (by omega);rw[e1];simp only[aCI];have e2:i64.wrap ((t:Int)+1)=((t+1:Nat):Int):=by rw[aq _];omega
  rw[e2];obtain⟨i',S',h1,h2,h3,h4⟩:=Xv x0 s hn (s.n- (t+1)) (toNat ((s.n:Int)- ((t+1:Nat):Int))) t (t+1) s (by omega) (by omega) (by omega) rfl (fun _ _ _=>rfl) (by
   rw[take_one s ht,aEq,List.filter_cons_of_neg (by simp [pe,hp]),List.filter_nil,aDi];refine(List.filter_eq_self.2 fun e he=> ?_).symm;obtain⟨q,hq,ia,rfl⟩:=axP s he;show(!(jC (s.at' q).c7 x0))=true;rw[l9 q ia];rfl)
  rw[h1];simp only;rw[aCZ,ako S' i' _ (by omega),h4]
end
def Eh(l:List ar):Prop:=l.Pairwise fun a b=>Op.bytesLess a.c0.toList b.c0.toList=true
theorem aAf{s:Sl ar}(h:Qx s.n (fun i=>(s.at' i).c0)):Eh s.B:=by
 unfold Eh;rw[List.pairwise_iff_getElem];intro i j hi hj iY;rw[eJ]at hi hj;simp only[Sl.B,List.getElem_map,List.getElem_range];exact h i j iY hj
theorem aAg{s:Sl ar}(h:Eh s.B):Qx s.n (fun i=>(s.at' i).c0):=by
 intro i j iY hj;unfold Eh at h;rw[List.pairwise_iff_getElem]at h;have:=h i j (by rw[eJ];omega) (by rw[eJ];exact hj) iY;simpa[Sl.B]using this
structure PE (x0:Int) (s:Sl ar):Prop where
 now:0≤x0∧x0≤1073741824
 n:s.n≤12
 D2:Eh s.B
 ok: ∀e∈s.B,ng e.c1 e.c2 e.c3 e.c4 e.c5 e.c6=0
 sz: ∀e∈s.B,e.c4.n≤1048576∧e.c5.n≤1048576∧e.c6.n≤1048576
 u: ∀e∈s.B,e.c7=0∨(x0<e.c7∧e.c7≤1073741824)
theorem cT{x0:Int}{s:Sl ar}(hc:CZ s)(h:ko x0 s=0):PE x0 s:=by
 have hn:=hc.1;obtain⟨⟨h0,hs⟩,hek⟩:=abg x0 s hc h;unfold ko at h;obtain⟨_,h⟩:=bz h (by decide);have hl:MI x0 s=scan (fun i=>pP s i||rA x0 s i) (fun _=>13) s.n 0:=qA (yQ x0 s) s.n _ _ (by omega) fun k i=>by
  show(bif decide (i<(s.n:Int))then(bif(pP s i)then(true,13)else(bif(rA x0 s i)then(true,13)else yQ x0 s k (i64.wrap (i+1))))else(false,default))=_;rw[EM]
 unfold Vh at h;rw[J3 hl]at h;obtain⟨hh,_⟩:=bz h (by decide);have hq: ∀i,i<s.n→pP s (i:Int)=false∧rA x0 s (i:Int)=false:=fun i hi=>by
  have q:=ud hh i hi;simpa only[aD7]using q
 have dw: ∀i,i<s.n→(s.at' i).c4.n≤1048576∧(s.at' i).c5.n≤1048576∧(s.at' i).c6.n≤1048576:=fun i hi=>by
  obtain⟨_,hv,_⟩:=hek i hi;obtain⟨w1,w2,w3⟩:=hv.2.1;exact⟨by omega,by omega,by omega⟩
 refine⟨h0,hs,aAf fun i j iY hj=> ?_,fun e he=> ?_,fun e he=> ?_,fun e he=> ?_⟩
 ·refine aoa (R:=fun i j=>Op.bytesLess (s.at' i).c0.toList (s.at' j).c0.toList=true) s.n (fun i hi=> ?_) (fun _ _ _ _ _ _=>ahX) i j iY hj;have q1:=(hq (i+1) hi).1;unfold pP at q1;obtain⟨_,q1⟩:=bt q1;obtain⟨_,q1⟩:=bt q1;obtain⟨_,q1⟩:=bt q1;rw[cx (show((i+1:Nat):Int)>0 by omega)]at q1;rw[show i64.wrap (((i+1:Nat):Int)-1)=(i:Int) by rw[aq _];omega]at q1;simpa using q1
 ·obtain⟨i,hi,rfl⟩:=Oq he;have q1:=(hq i hi).1;unfold pP at q1;simp only[aCZ]at q1;obtain⟨_,q1⟩:=bt q1;obtain⟨_,q1⟩:=bt q1;obtain⟨d3,_⟩:=bt q1;exact bE d3
 ·obtain⟨i,hi,rfl⟩:=Oq he;exact dw i hi
 ·obtain⟨i,hi,rfl⟩:=Oq he;have q1:=(hq i hi).2;unfold rA at q1;simp only[aCZ]at q1
  cases c:((s.at' i).c7 !=0)with
  |false=>exact .inl (bE c)
  |true=>
   rw[c]at q1;obtain⟨a,b⟩:=bt q1;have a:=df a;have b:=df b;exact .inr ⟨by omega,by omega⟩
theorem fit{x0 now:Int}{s t:Sl ar}(h:PE x0 s)(ht:t.B=s.B.filter (pe now)):Fit now t:=by
 have hm: ∀i,i<t.n→t.at' i∈s.B∧pe now (t.at' i)=true:=fun i hi=>by
  have:t.at' i∈t.B:=by simp only[Sl.B,aDx,aDS];exact⟨i,hi,rfl⟩
  rw[ht,aEf]at this;exact this
 refine⟨?_,aAg (by rw[ht];exact h.D2.filter _),fun i hi=>h.ok _ (hm i hi).1,fun i hi=>h.sz _ (hm i hi).1,fun i hi=> ?_⟩
 ·have h1:=List.length_filter_le (pe now) s.B;rw[←ht,eJ,eJ]at h1;have:=h.n;omega
 ·have hk:=(hm i hi).2;rcases h.u _ (hm i hi).1 with h1|⟨_,h2⟩
  ·exact .inl h1
  ·by_cases e:(t.at' i).c7=0
   ·exact .inl e
   ·unfold pe jC adk at hk;rw[show((t.at' i).c7 !=0)=true from bne_iff_ne.2 e]at hk;have:decide ((t.at' i).c7≤now)=false:=by simpa using hk
    have:=df this;exact .inr ⟨by omega,h2⟩
theorem aAM{now:Int}{t:Sl ar}(h:Fit now t):SS t:=⟨by have:=h.n;omega,h.sz⟩
theorem abe{x0:Int}{x1:Sl ar}(hc:CZ x1)(h:(ko x0 x1 !=0)=false):PE x0 x1:=cT hc (bE h)
theorem aif(x1:Sl ar){x0:Int}(h:CZ x1∧(ko x0 x1 !=0)=false):(ly x1).n≤12:=by
 have:=(abe h.1 h.2).n;rw[aih x1 (by omega)];exact this
theorem akf{x1:Sl ar}(now a:Int)(b:Bool)(hn:x1.n≤1000000):(nS now a b (ly x1)).B=x1.B.filter (pe now):=by
 rw[ZK now a b _ (by rw[aih x1 (by omega)];exact hn),ZJ x1 (by omega)]
theorem ax0(now a:Int)(b:Bool)(s:Sl ar)(hn:s.n≤1000000):(nS now a b s).n≤s.n:=by
 have h:=congrArg List.length (ZK now a b s hn);have:=List.length_filter_le (pe now) s.B;rw[eJ]at h this;omega
theorem aps{x0:Int}{x1:Sl ar}{now a:Int}{b:Bool}(hc:CZ x1)(h:(ko x0 x1 !=0)=false):Fit now (nS now a b (ly x1)):=by
 have hk:=abe hc h;exact fit hk (akf now a b (by have:=hk.n;omega))
theorem uU{x0:Int}{x1:Sl ar}{now a:Int}{b:Bool}(hc:CZ x1)(h:(ko x0 x1 !=0)=false):SS (nS now a b (ly x1)):=aAM (aps hc h)
section
variable(x0:Int)(x1:Sl ar)(x2:Int)(x3:Int)(x4:ag)(x5:ag)(x6:ag)(x7:Int)
def qS:Bool:=(bif(decide (x2<0))then true else(decide (x2>1073741824)))
def qR:Int:=(bif((ko x0 x1)!=0)then 0 else(bif(qS x2)then 0 else(bif((fO x3 x4 x5 x6 x7)!=0)then 0 else(mY (imax (mY x0) x2)))))
def th:Sl ar:=(bif((ko x0 x1)!=0)then(al:Sl ar)else(bif(qS x2)then(al:Sl ar)else(bif((fO x3 x4 x5 x6 x7)!=0)then(al:Sl ar)else(ly (adp x3 x4 x5 x6 x7 (imax (mY x0) x2) (nS (imax (mY x0) x2) 0 false (ly x1)))))))
def Tc:Int:=(bif((ko x0 x1)!=0)then 0 else(bif(qS x2)then 0 else(bif((fO x3 x4 x5 x6 x7)!=0)then 0 else(adl x3 x4 x5 x6 x7 (imax (mY x0) x2) (nS (imax (mY x0) x2) 0 false (ly x1))))))
def Te:ag:=(bif((ko x0 x1)!=0)then⟨#[]⟩else(bif(qS x2)then⟨#[]⟩else(bif((fO x3 x4 x5 x6 x7)!=0)then⟨#[]⟩else(adm x3 x4 x5 x6 x7 (nS (imax (mY x0) x2) 0 false (ly x1))))))
def Tf:Int:=(bif((ko x0 x1)!=0)then 0 else(bif(qS x2)then 0 else(bif((fO x3 x4 x5 x6 x7)!=0)then 0 else(adn x3 x4 x5 x6 x7 (imax (mY x0) x2) (nS (imax (mY x0) x2) 0 false (ly x1))))))
def Tg:Sl ag:=(bif((ko x0 x1)!=0)then(al:Sl ag)else(bif(qS x2)then(al:Sl ag)else(bif((fO x3 x4 x5 x6 x7)!=0)then(al:Sl ag)else(ado x3 x4 x5 x6 x7 (nS (imax (mY x0) x2) 0 false (ly x1))))))
def apP:Int:=(bif((ko x0 x1)!=0)then(ko x0 x1)else(bif(qS x2)then 2 else(bif((fO x3 x4 x5 x6 x7)!=0)then(fO x3 x4 x5 x6 x7)else 0)))
def aky:Fq:=⟨[.g [kI,.sl aZ],.v kI,.g [kI,kS,kS,kS,kI]],fun x0 x1 x2 x3 x4 x5 x6 x7=>⟨⟨none,.cU [.agg [ae (qR x0 x1 x2 x3 x4 x5 x6 x7),aL 8 gn (th x0 x1 x2 x3 x4 x5 x6 x7)],.agg [ae (Tc x0 x1 x2 x3 x4 x5 x6 x7),.str (Te x0 x1 x2 x3 x4 x5 x6 x7),ae (Tf x0 x1 x2 x3 x4 x5 x6 x7),aL 1 e9 (Tg x0 x1 x2 x3 x4 x5 x6 x7)],ae (apP x0 x1 x2 x3 x4 x5 x6 x7)]⟩⟩⟩
theorem auk:ba 121 aky:=bf Tryz.func121
 fun(x0:Int) x1 n1 f1 (x2:Int) (x3:Int) x4 n4 x5 n5 x6 n6 (x7:Int)=>bj ⟨.pure,[.cell 6 46,.cell 7 99,.tmp 8],[(.c 0 0,kI),(.c 0 1,.sl aZ),(.c 1 0,kI),(.c 1 1,kS),(.c 1 2,kI),(.c 1 3,.sl E9),(.t 2,kI)],⟨[.agg (us 2 []),.agg (us 4 []),U],[]⟩⟩ (.ai (.ai (.s (.j ⟨33554922,[],[(.t 25,kB)],[],.f⟩ .z .z) (.ai (.ai (.ai (.ai (.ai (.s (.cv [(.h 5 1,aZ)]) .z))))))))) (let z6:=nS (imax (mY x0) x2) 0 false (ly x1);((ko x0 x1)!=0)=false→((qS x2)=false→(((fO x3 x4 x5 x6 x7)!=0)=false→(((ly x1).n≤1000000)∧(SS z6∧z6.n≤1000000))))) (bB 0 (aH WU (aH k78 aQ)) (az aun (az auo (az aup bA)))) Tryz.func121 (have:=Bh f1;(fun h1=>(fun h2=>(fun h3=>⟨(by have:=bE h1;have:=h2;simp [qS]at this;have:=bE h3;have:=aif x1 (by repeat first|assumption|apply s_|apply ta|apply uW|apply qP|apply wA|apply mM|apply rZ|apply uO|apply uN|apply ss|apply rD|apply rE|apply jt|apply uU|apply xg|apply mi|apply kD|apply oE|apply And.intro);omega),⟨(by repeat first|assumption|apply uU),(by have:=bE h1;have:=h2;simp [qS]at this;have:=bE h3;have:=NR (mY x0) x2;have:=aif x1 (by repeat first|assumption|apply s_|apply ta|apply uW|apply qP|apply wA|apply mM|apply rZ|apply uO|apply uN|apply ss|apply rD|apply rE|apply jt|apply uU|apply xg|apply mi|apply kD|apply oE|apply And.intro);have:=ax0 (imax (mY x0) x2) 0 false (ly x1) (by omega);omega)⟩⟩))))
end
section
variable(x0:Int)(x1:Sl ar)(x2:Int)(x3:Sl aG)(x4:Int)(x5:Int)(x6:Int)(x7:Int)(x8:ag)(x9:ag)(au:ag)(a_:Int)
def kU:Bool:=(bif(decide (x4<0))then true else(decide (x4>1073741824)))
def aek:Int:=let z8:=mB (jE x3) x5;let z6:=qR x0 x1 x4 22 ⟨#[]⟩ ⟨#[]⟩ ⟨#[]⟩ 0;(bif((gJ x0 x1 x2 x3)!=0)then 0 else(bif(kU x4)then 0 else(bif((jG x5 x6 x7 x8 x9 au a_)!=0)then 0 else(bif(x5==0)then z6 else(bif(decide (z8<0))then z6 else(bif(x6==((jE x3).at' (toNat z8)).c1)then z6 else(bif(x6 !=(i64.wrap (((jE x3).at' (toNat z8)).c1+1)))then z6 else(qR z6 (th x0 x1 x4 22 ⟨#[]⟩ ⟨#[]⟩ ⟨#[]⟩ 0) x4 x7 x8 x9 au a_))))))))
def ael:Sl ar:=let z8:=mB (jE x3) x5;let z6:=th x0 x1 x4 22 ⟨#[]⟩ ⟨#[]⟩ ⟨#[]⟩ 0;(bif((gJ x0 x1 x2 x3)!=0)then(al:Sl ar)else(bif(kU x4)then(al:Sl ar)else(bif((jG x5 x6 x7 x8 x9 au a_)!=0)then(al:Sl ar)else(bif(x5==0)then z6 else(bif(decide (z8<0))then z6 else(bif(x6==((jE x3).at' (toNat z8)).c1)then z6 else(bif(x6 !=(i64.wrap (((jE x3).at' (toNat z8)).c1+1)))then z6 else(th (qR x0 x1 x4 22 ⟨#[]⟩ ⟨#[]⟩ ⟨#[]⟩ 0) z6 x4 x7 x8 x9 au a_))))))))
def aem:Int:=(bif((gJ x0 x1 x2 x3)!=0)then 0 else(bif(kU x4)then 0 else(bif((jG x5 x6 x7 x8 x9 au a_)!=0)then 0 else(bif(x5==0)then(aew x2)else x2))))
def aen:Sl aG:=let zd:=jE x3;let zc:=th x0 x1 x4 22 ⟨#[]⟩ ⟨#[]⟩ ⟨#[]⟩ 0;let zb:=qR x0 x1 x4 22 ⟨#[]⟩ ⟨#[]⟩ ⟨#[]⟩ 0;let za:=toNat (mB zd x5);let ze:=zd.at' za;let z6:=Sl.cp zd za (⟨ze.c0,x6,ze.c2,ze.c3,ze.c4,ze.c5,ze.c6⟩:aG);let zf:=z6.at' za;let z8:=Sl.cp z6 za (⟨zf.c0,zf.c1,(qR zb zc x4 x7 x8 x9 au a_),zf.c3,zf.c4,zf.c5,zf.c6⟩:aG);(bif((gJ x0 x1 x2 x3)!=0)then(al:Sl aG)else(bif(kU x4)then(al:Sl aG)else(bif((jG x5 x6 x7 x8 x9 au a_)!=0)then(al:Sl aG)else(bif(x5==0)then(T0 zb x2 zd)else(bif(decide ((mB zd x5)<0))then zd else(bif(x6==ze.c1)then zd else(bif(x6 !=(i64.wrap (ze.c1+1)))then zd else(Sl.cp z8 za (⟨(z8.at' za).c0,(z8.at' za).c1,(z8.at' za).c2,(KW (Tc zb zc x4 x7 x8 x9 au a_)),(KX (Te zb zc x4 x7 x8 x9 au a_)),(KY (Tf zb zc x4 x7 x8 x9 au a_)),(KZ (Tg zb zc x4 x7 x8 x9 au a_))⟩:aG)))))))))
def aeo:Int:=let za:=jE x3;let z6:=mB za x5;let z8:=toNat z6;(bif((gJ x0 x1 x2 x3)!=0)then 0 else(bif(kU x4)then 0 else(bif((jG x5 x6 x7 x8 x9 au a_)!=0)then 0 else(bif(x5==0)then(aes x2)else(bif(decide (z6<0))then 11 else(bif(x6==(za.at' z8).c1)then(KW (za.at' z8).c3)else(bif(x6 !=(i64.wrap ((za.at' z8).c1+1)))then 10 else(Tc (qR x0 x1 x4 22 ⟨#[]⟩ ⟨#[]⟩ ⟨#[]⟩ 0) (th x0 x1 x4 22 ⟨#[]⟩ ⟨#[]⟩ ⟨#[]⟩ 0) x4 x7 x8 x9 au a_))))))))
def aep:ag:=let za:=jE x3;let z6:=mB za x5;let z8:=toNat z6;(bif((gJ x0 x1 x2 x3)!=0)then⟨#[]⟩else(bif(kU x4)then⟨#[]⟩else(bif((jG x5 x6 x7 x8 x9 au a_)!=0)then⟨#[]⟩else(bif(x5==0)then aet else(bif(decide (z6<0))then⟨#[]⟩else(bif(x6==(za.at' z8).c1)then(KX (za.at' z8).c4)else(bif(x6 !=(i64.wrap ((za.at' z8).c1+1)))then⟨#[]⟩else(Te (qR x0 x1 x4 22 ⟨#[]⟩ ⟨#[]⟩ ⟨#[]⟩ 0) (th x0 x1 x4 22 ⟨#[]⟩ ⟨#[]⟩ ⟨#[]⟩ 0) x4 x7 x8 x9 au a_))))))))
def aeq:Int:=let za:=jE x3;let z6:=mB za x5;let z8:=toNat z6;(bif((gJ x0 x1 x2 x3)!=0)then 0 else(bif(kU x4)then 0 else(bif((jG x5 x6 x7 x8 x9 au a_)!=0)then 0 else(bif(x5==0)then(aeu x2)else(bif(decide (z6<0))then 0 else(bif(x6==(za.at' z8).c1)then(KY (za.at' z8).c5)else(bif(x6 !=(i64.wrap ((za.at' z8).c1+1)))then 0 else(Tf (qR x0 x1 x4 22 ⟨#[]⟩ ⟨#[]⟩ ⟨#[]⟩ 0) (th x0 x1 x4 22 ⟨#[]⟩ ⟨#[]⟩ ⟨#[]⟩ 0) x4 x7 x8 x9 au a_))))))))
def aer:Sl ag:=let za:=jE x3;let z6:=mB za x5;let z8:=toNat z6;(bif((gJ x0 x1 x2 x3)!=0)then(al:Sl ag)else(bif(kU x4)then(al:Sl ag)else(bif((jG x5 x6 x7 x8 x9 au a_)!=0)then(al:Sl ag)else(bif(x5==0)then aev else(bif(decide (z6<0))then(al:Sl ag)else(bif(x6==(za.at' z8).c1)then(KZ (za.at' z8).c6)else(bif(x6 !=(i64.wrap ((za.at' z8).c1+1)))then(al:Sl ag)else(Tg (qR x0 x1 x4 22 ⟨#[]⟩ ⟨#[]⟩ ⟨#[]⟩ 0) (th x0 x1 x4 22 ⟨#[]⟩ ⟨#[]⟩ ⟨#[]⟩ 0) x4 x7 x8 x9 au a_))))))))
def aqy:Int:=let z6:=jG x5 x6 x7 x8 x9 au a_;(bif((gJ x0 x1 x2 x3)!=0)then(gJ x0 x1 x2 x3)else(bif(kU x4)then 2 else(bif(z6 !=0)then z6 else 0)))
def alX:Fq:=⟨[.g [kI,.sl aZ,kI,.sl bG],.v kI,.g [kI,kI,kI,kS,kS,kS,kI]],fun x0 x1 x2 x3 x4 x5 x6 x7 x8 x9 au a_=>⟨⟨none,.cU [.agg [ae (aek x0 x1 x2 x3 x4 x5 x6 x7 x8 x9 au a_),aL 8 gn (ael x0 x1 x2 x3 x4 x5 x6 x7 x8 x9 au a_),ae (aem x0 x1 x2 x3 x4 x5 x6 x7 x8 x9 au a_),aL 7 gP (aen x0 x1 x2 x3 x4 x5 x6 x7 x8 x9 au a_)],.agg [ae (aeo x0 x1 x2 x3 x4 x5 x6 x7 x8 x9 au a_),.str (aep x0 x1 x2 x3 x4 x5 x6 x7 x8 x9 au a_),ae (aeq x0 x1 x2 x3 x4 x5 x6 x7 x8 x9 au a_),aL 1 e9 (aer x0 x1 x2 x3 x4 x5 x6 x7 x8 x9 au a_)],ae (aqy x0 x1 x2 x3 x4 x5 x6 x7 x8 x9 au a_)]⟩⟩⟩
theorem avf:ba 105 alX:=bf Tryz.func105
 fun(x0:Int) x1 n1 f1 (x2:Int) x3 n3 f3 (x4:Int) (x5:Int) (x6:Int) (x7:Int) x8 n8 x9 n9 au oC (a_:Int)=>bj (ms:=[.f,.f,(.b .f (.b .f (.b .f (.b .f .l)))),.f,.f,.f,.f,.f,(.b .f (.b .f (.b .f .l)))]) ⟨.pure,[.cell 6 49,.cell 7 99,.tmp 8],[(.c 0 0,kI),(.c 0 1,.sl aZ),(.c 0 2,kI),(.c 0 3,.sl bG),(.c 1 0,kI),(.c 1 1,kS),(.c 1 2,kI),(.c 1 3,.sl E9),(.t 2,kI)],⟨[.agg (us 4 []),.agg (us 4 []),U],[]⟩⟩ (.ai (.ai (.s (.j ⟨1073742314,[],[(.t 30,kB)],[],.f⟩ .z .z) (.ai (.ai (.ai (.ai (.s (.fz 5 1 (.cw [.t 46,.t 51,.t 56] [])) .z)))))))) (let z8:=jE x3;let za:=mB z8 x5;let z6:=toNat za;let zb:=z8.at' z6;((gJ x0 x1 x2 x3)!=0)=false→((kU x4)=false→(((jG x5 x6 x7 x8 x9 au a_)!=0)=false→(((x5==0)=true→(z8.n≤4))∧((x5==0)=false→((decide (za<0))=false→(((0:Int)≤za∧za<(z8.n:Int))∧(((z6<z8.n)∧(((x6==zb.c1)=true→(z6<z8.n))∧((x6==zb.c1)=false→(z6<z8.n))))∧((x6==zb.c1)=false→((x6 !=(i64.wrap (zb.c1+1)))=false→((z6<z8.n)∧((z6<z8.n)∧(z6<z8.n))))))))))))) (bB 0 (aH WV (aH Oa (aH auk (aH avg (aH avi (aH ahv aQ)))))) (az avh bA)) Tryz.func105 (have:=Bh f1;have:=Fo f3;(fun h1=>(fun h2=>(fun h3=>⟨(fun h4=>(by have hM:=ij _ _ _ _ (by first|assumption|exact CE.z (by assumption)) (by first|assumption|exact CC.y (by assumption)) (bE h1);have:=hM.1;have:=h2;simp [kU]at this;have:=bE h3;have:=eq_of_beq h4;have:=wD x3;omega)),(fun h5=>(fun h6=>⟨(by have hM:=ij _ _ _ _ (by first|assumption|exact CE.z (by assumption)) (by first|assumption|exact CC.y (by assumption)) (bE h1);have:=hM.1;have:=h2;simp [kU]at this;have:=bE h3;have:=cM h5;have:=iw h6;have:=wD x3;have:=xr (jE x3) x5 (by omega);omega),⟨⟨(by have hM:=ij _ _ _ _ (by first|assumption|exact CE.z (by assumption)) (by first|assumption|exact CC.y (by assumption)) (bE h1);have:=hM.1;have:=h2;simp [kU]at this;have:=bE h3;have:=cM h5;have:=iw h6;have:=wD x3;have:=xr (jE x3) x5 (by omega);omega),⟨(fun h7=>(by have hM:=ij _ _ _ _ (by first|assumption|exact CE.z (by assumption)) (by first|assumption|exact CC.y (by assumption)) (bE h1);have:=hM.1;have:=h2;simp [kU]at this;have:=bE h3;have:=cM h5;have:=iw h6;have:=eq_of_beq h7;have:=wD x3;have:=xr (jE x3) x5 (by omega);omega)),(fun h8=>(by have hM:=ij _ _ _ _ (by first|assumption|exact CE.z (by assumption)) (by first|assumption|exact CC.y (by assumption)) (bE h1);have:=hM.1;have:=h2;simp [kU]at this;have:=bE h3;have:=cM h5;have:=iw h6;have:=cM h8;have:=wD x3;have:=xr (jE x3) x5 (by omega);omega))⟩⟩,(fun h9=>(fun dJ=>⟨(by have hM:=ij _ _ _ _ (by first|assumption|exact CE.z (by assumption)) (by first|assumption|exact CC.y (by assumption)) (bE h1);have:=hM.1;have:=h2;simp [kU]at this;have:=bE h3;have:=cM h5;have:=iw h6;have:=cM h9;have:=bE dJ;have:=wD x3;have:=xr (jE x3) x5 (by omega);omega),⟨(by have hM:=ij _ _ _ _ (by first|assumption|exact CE.z (by assumption)) (by first|assumption|exact CC.y (by assumption)) (bE h1);have:=hM.1;have:=h2;simp [kU]at this;have:=bE h3;have:=cM h5;have:=iw h6;have:=cM h9;have:=bE dJ;have:=wD x3;have:=xr (jE x3) x5 (by omega);omega),(by have hM:=ij _ _ _ _ (by first|assumption|exact CE.z (by assumption)) (by first|assumption|exact CC.y (by assumption)) (bE h1);have:=hM.1;have:=h2;simp [kU]at this;have:=bE h3;have:=cM h5;have:=iw h6;have:=cM h9;have:=bE dJ;have:=wD x3;have:=xr (jE x3) x5 (by omega);omega)⟩⟩))⟩⟩))⟩))))
end
end Go.Proofs.YtfmgjpcmcjjoiaaGreatDoor
