/- Part of a proof: walks of the program. -/
import Derived.Test.YtfmgjpcmcjjoiaaGreatDoorXk
import Derived.Test.YtfmgjpcmcjjoiaaGreatDoorXl
open Go.IntKind (i64 u64 u8)
open Int (toNat)
set_option maxRecDepth 100000
set_option maxHeartbeats 4000000
set_option linter.all false
noncomputable section
namespace Go.Proofs.YtfmgjpcmcjjoiaaGreatDoor
open Go Go.RowKit Go.Vc
section
def G7(x0:Int)(x1:Int)(x2:Int):Nat→Int→Sl aS→Sl aS
 |0,_,_=>default
 |k+1,af,ak=>(bif(decide (af<x2))then(G7 x0 x1 x2 k (i64.wrap (af+1)) (Sl.cp (Sl.cp ak (toNat (i64.wrap (x0+af))) (ak.at' (toNat (i64.wrap (x1+af))))) (toNat (i64.wrap (x1+af))) (ak.at' (toNat (i64.wrap (x0+af))))))else ak)
variable(x0:Int)(x1:Int)(x2:Int)(x3:Sl aS)
def arJ:Sl aS:=G7 x0 x1 x2 ((toNat (x2-0))+1) 0 x3
def vN:Sl aS:=(arJ x0 x1 x2 x3)
theorem ais(x0 x1 x2:Int)(hx:x2≤900000): ∀(k:Nat) (v:Int) (s:Sl aS),0≤v→v≤x2→toNat (x2-v)<k→(G7 x0 x1 x2 k v s).n=s.n
 |0,_,_,_,_,hk=>absurd hk (fC _)
 |k+1,v,s,h0,h1,hk=>by
  rw[G7]
  by_cases e:v<x2
  ·rw[cx e,aCJ,aq (v+1)];exact ais x0 x1 x2 hx k (v+1) _ (by omega) (by omega) (by omega)
  ·rw[cq e,aCI]
theorem ayj(x0 x1 x2:Int)(x3:Sl aS)(hp:0≤x0∧0≤x1∧0≤x2∧x0+x2≤(x3.n:Int)∧x1+x2≤(x3.n:Int)∧x3.n≤900000):(vN x0 x1 x2 x3).n=x3.n:=
 ais x0 x1 x2 (by omega) _ 0 x3 (aCT _) hp.2.2.1 (by omega)
def amI:Hq:=⟨[.o 0,.v kI,.v kI,.v kI,.fp 34 []],[(.h 0 0,.ah cr)],[[U]],fun(x0:Int) (x1:Int) (x2:Int) x3=>⟨⟨some (0≤x0∧0≤x1∧0≤x2∧x0+x2≤(x3.n:Int)∧x1+x2≤(x3.n:Int)∧x3.n≤900000),[],[[(Kd.ah cr).av (Sl.cut (vN x0 x1 x2 x3) x3.n)]]⟩⟩⟩
theorem av1:dz 115 amI:=dE Tryz.func115
 fun(x0:Int) (x1:Int) (x2:Int) x3 n3 hp=>have e0:=Sl.A3 (ayj x0 x1 x2 x3 hp);zA (rs:=[]) (H':=[[(Kd.ah cr).av (vN x0 x1 x2 x3)]]) (dy ⟨.heap,[],[(.h 0 0,.ah cr)],⟨[],[[U]]⟩⟩ (.ai (.lp ⟨1039,[],[],[(.t 10,kI),(.h 0 0,.ah cr)],some 0,false,0,[],[(.h 0 0,.ah cr)],fun k (s:Int×Sl aS)=>G7 x0 x1 x2 k s.1 s.2,.f,fun(s:Int×Sl aS)=>((0≤s.1∧s.1≤x2)∧(s.2.n:Int)=x3.n),fun(s:Int×Sl aS)=>(toNat (x2-s.1)),some fun(r:Sl aS)=>(r.n:Int)=x3.n⟩ .z)) ((((0≤(0:Int)∧(0:Int)≤x2)∧(x3.n:Int)=x3.n))∧(∀(af:Int) (ak:Sl aS),let zb:=decide (af<x2);let za:=i64.wrap (af+1);let z8:=i64.wrap (x0+af);let z6:=i64.wrap (x1+af);((0≤af∧af≤x2)∧(ak.n:Int)=x3.n)→((zb=true→(((0:Int)≤z6∧z6<(ak.n:Int))∧(((toNat z6)<ak.n)∧(((0:Int)≤z8∧z8<(ak.n:Int))∧(((toNat z8)<ak.n)∧(((0:Int)≤z8∧z8<(ak.n:Int))∧(((toNat z8)<ak.n)∧(((0:Int)≤z6∧z6<(ak.n:Int))∧((toNat z6)<ak.n)))))))))∧((zb=true→(((0≤za∧za≤x2)∧(ak.n:Int)=x3.n)∧(toNat (x2-za))<(toNat (x2-af))))∧(zb=false→((ak.n:Int)=x3.n)))))) (bB 1 aQ bA) Tryz.func115 (have⟨cn,dv,ia,mH,wm,Dr⟩:=hp;⟨(by omega),(fun af ak dX=>⟨(fun h2=>⟨(by have:=ay h2;have:=aq (x1+af);omega),⟨(by have:=ay h2;have:=aq (x1+af);omega),⟨(by have:=ay h2;have:=aq (x0+af);omega),⟨(by have:=ay h2;have:=aq (x0+af);omega),⟨(by have:=ay h2;have:=aq (x0+af);omega),⟨(by have:=ay h2;have:=aq (x0+af);omega),⟨(by have:=ay h2;have:=aq (x1+af);omega),(by have:=ay h2;have:=aq (x1+af);omega)⟩⟩⟩⟩⟩⟩⟩),⟨(fun h3=>(by have:=ay h3;have:=aq (af+1);omega)),(fun h4=>(by omega))⟩⟩)⟩)) rfl (show([[(Kd.ah cr).av (vN x0 x1 x2 x3)]]:Heap)=[[(Kd.ah cr).av (Sl.cut (vN x0 x1 x2 x3) x3.n)]] by rw[e0])
end
section
def Ct(x1:Int):Nat→Int→Sl aS→Int→Int×Sl aS
 |0,_,_,_=>default
 |k+1,af,ak,aV=>(bif(af !=aV)then(bif(decide (af>aV))then(Ct x1 k (i64.wrap (af-aV)) (Sl.cut (vN (i64.wrap (x1-af)) x1 aV ak) ak.n) aV)else(Ct x1 k af (Sl.cut (vN (i64.wrap (x1-af)) (i64.wrap ((i64.wrap (x1+aV))-af)) af ak) ak.n) (i64.wrap (aV-af))))else(af,ak))
variable(x0:Int)(x1:Int)(x2:Int)(x3:Sl aS)
def G6:Int×Sl aS:=Ct x1 ((toNat ((i64.wrap (x1-x0))+(i64.wrap (x2-x1))))+1) (i64.wrap (x1-x0)) x3 (i64.wrap (x2-x1))
def Cq:Sl aS:=let z6:=G6 x0 x1 x2 x3;(Sl.cut (vN (i64.wrap (x1-z6.1)) x1 z6.1 z6.2) z6.2.n)
theorem XR(x0 x1 x2:Int)(h1:0≤x0∧x0<x1∧x1<x2∧x2≤900000): ∀(k:Nat) (i:Int) (s:Sl aS) (j:Int),1≤i→i≤x1-x0→1≤j→j≤x2-x1→toNat (i+j)<k→(Ct x1 k i s j).2.n=s.n
 |0,_,_,_,_,_,_,_,hk=>absurd hk (fC _)
 |k+1,i,s,j,a1,a2,a3,a4,hk=>by
  rw[Ct]
  by_cases e:i=j
  ·rw[show(i !=j)=false by simp [e],aCI]
  ·rw[show(i !=j)=true by simp [e],aCJ]
   by_cases c:i>j
   ·rw[cx c,aCJ,aq (i-j)];exact XR x0 x1 x2 h1 k (i-j) _ j (by omega) (by omega) a3 a4 (by omega)
   ·rw[cq c,aCI,aq (j-i)];exact XR x0 x1 x2 h1 k i _ (j-i) a1 a2 (by omega) (by omega) (by omega)
theorem ayi(x0 x1 x2:Int)(x3:Sl aS)(hp:0≤x0∧x0<x1∧x1<x2∧x2≤(x3.n:Int)∧x3.n≤900000):(Cq x0 x1 x2 x3).n=x3.n:=by
 show(G6 x0 x1 x2 x3).2.n=x3.n;unfold G6;rw[aq (x1-x0),aq (x2-x1)];exact XR x0 x1 x2 ⟨hp.1,hp.2.1,hp.2.2.1,by omega⟩ _ _ _ _ (by omega) (by omega) (by omega) (by omega) (by omega)
def amH:Hq:=⟨[.o 0,.v kI,.v kI,.v kI,.fp 34 []],[(.h 0 0,.ah cr)],[[U]],fun(x0:Int) (x1:Int) (x2:Int) x3=>⟨⟨some (0≤x0∧x0<x1∧x1<x2∧x2≤(x3.n:Int)∧x3.n≤900000),[],[[(Kd.ah cr).av (Sl.cut (Cq x0 x1 x2 x3) x3.n)]]⟩⟩⟩
theorem avZ:dz 101 amH:=dE Tryz.func101
 fun(x0:Int) (x1:Int) (x2:Int) x3 n3 hp=>have e0:=Sl.A3 (ayi x0 x1 x2 x3 hp);zA (rs:=[]) (H':=[[(Kd.ah cr).av (Cq x0 x1 x2 x3)]]) (dy ⟨.heap,[],[(.h 0 0,.ah cr)],⟨[],[[U]]⟩⟩ (.ai (.ai (.j ⟨1045,[],[],[],.f⟩ (.lp ⟨3093,[],[],[(.t 10,kI),(.h 0 0,.ah cr),(.t 11,kI)],some 0,false,1045,[],[(.t 10,kI),(.h 0 0,.ah cr)],fun k (s:Int×Sl aS×Int)=>Ct x1 k s.1 s.2.1 s.2.2,.f,fun(s:Int×Sl aS×Int)=>((1≤s.1∧s.1≤x1-x0)∧(1≤s.2.2∧s.2.2≤x2-x1)∧(s.2.1.n:Int)=x3.n),fun(s:Int×Sl aS×Int)=>(toNat (s.1+s.2.2)),some fun(r:Int×Sl aS)=>((1≤r.1∧r.1≤x1-x0∧r.1≤x2-x1)∧(r.2.n:Int)=x3.n)⟩ .z) .z))) (let zg:=i64.wrap (x2-x1);let zf:=i64.wrap (x1-x0);let z6:=G6 x0 x1 x2 x3;let ze:=i64.wrap (x1-z6.1);((((1≤zf∧zf≤x1-x0)∧(1≤zg∧zg≤x2-x1)∧(x3.n:Int)=x3.n))∧(∀(af:Int) (ak:Sl aS) (aV:Int),let zi:=toNat (af+aV);let zd:=i64.wrap ((i64.wrap (x1+aV))-af);let zc:=decide (af>aV);let zb:=i64.wrap (aV-af);let za:=i64.wrap (af-aV);let z8:=i64.wrap (x1-af);((1≤af∧af≤x1-x0)∧(1≤aV∧aV≤x2-x1)∧(ak.n:Int)=x3.n)→(((af !=aV)=true→((zc=true→(0≤z8∧0≤x1∧0≤aV∧z8+aV≤(ak.n:Int)∧x1+aV≤(ak.n:Int)∧ak.n≤900000))∧(zc=false→(0≤z8∧0≤zd∧0≤af∧z8+af≤(ak.n:Int)∧zd+af≤(ak.n:Int)∧ak.n≤900000))))∧(((af !=aV)=true→((zc=true→(((1≤za∧za≤x1-x0)∧(1≤aV∧aV≤x2-x1)∧(ak.n:Int)=x3.n)∧(toNat (za+aV))<zi))∧(zc=false→(((1≤af∧af≤x1-x0)∧(1≤zb∧zb≤x2-x1)∧(ak.n:Int)=x3.n)∧(toNat (af+zb))<zi))))∧((af !=aV)=false→(((1≤af∧af≤x1-x0∧af≤x2-x1)∧(ak.n:Int)=x3.n)))))))∧((((1≤z6.1∧z6.1≤x1-x0∧z6.1≤x2-x1)∧(z6.2.n:Int)=x3.n))→(0≤ze∧0≤x1∧0≤z6.1∧ze+z6.1≤(z6.2.n:Int)∧x1+z6.1≤(z6.2.n:Int)∧z6.2.n≤900000))) (bB 1 aQ (az av1 bA)) Tryz.func101 (have⟨cn,dv,ia,mH,wm⟩:=hp;⟨⟨(by have:=aq (x1-x0);have:=aq (x2-x1);omega),(fun af ak aV dX=>⟨(fun h2=>⟨(fun h3=>(by have:=aq (x1-af);omega)),(fun h4=>(by have:=aq (x1-af);have:=aq (x1+aV);have:=aq ((i64.wrap (x1+aV))-af);omega))⟩),⟨(fun h5=>⟨(fun h6=>(by have:=ay h6;have:=aq (af-aV);omega)),(fun h7=>(by have:=bne_iff_ne.1 h5;have:=iw h7;have:=aq (aV-af);omega))⟩),(fun h8=>(by have:=bE h8;omega))⟩⟩)⟩,(fun hF9=>(by have:=aq (x1- (G6 x0 x1 x2 x3).1);omega))⟩)) rfl (show([[(Kd.ah cr).av (Cq x0 x1 x2 x3)]]:Heap)=[[(Kd.ah cr).av (Sl.cut (Cq x0 x1 x2 x3) x3.n)]] by rw[e0])
end
section
def vJ(x0:Int)(x3:Sl aS):Nat→Int→Int→Int
 |0,_,_=>default
 |k+1,af,ak=>(bif(decide (af<ak))then(bif(decide ((q_ (x3.at' (toNat (i64.wrap ((u64.wrap (i64.wrap (af+ak)))/2^(toNat 1))))).c0 (x3.at' (toNat x0)).c0)<0))then(vJ x0 x3 k (i64.wrap ((i64.wrap ((u64.wrap (i64.wrap (af+ak)))/2^(toNat 1)))+1)) ak)else(vJ x0 x3 k af (i64.wrap ((u64.wrap (i64.wrap (af+ak)))/2^(toNat 1)))))else af)
variable(f:Int→Int→Int→Sl aS→Sl aS)(x0:Int)(x1:Int)(x2:Int)(x3:Sl aS)
def mD:Int:=vJ x0 x3 ((toNat (x2-x1))+1) x1 x2
def G4(x0:Int)(x1:Int)(x2:Int)(x3:Sl aS):Nat→Int→Sl aS→Sl aS
 |0,_,_=>default
 |k+1,cC,ga=>(bif(decide (cC<(i64.wrap ((mD x0 x1 x2 x3)-1))))then(G4 x0 x1 x2 x3 k (i64.wrap (cC+1)) (Sl.cp (Sl.cp ga (toNat cC) (ga.at' (toNat (i64.wrap (cC+1))))) (toNat (i64.wrap (cC+1))) (ga.at' (toNat cC))))else ga)
def afs:Sl aS:=G4 x0 x1 x2 x3 ((toNat (x2-x0))+1) x0 x3
def xZ(x1:Int)(x3:Sl aS):Nat→Int→Int→Int
 |0,_,_=>default
 |k+1,jb,j1=>(bif(decide (jb<j1))then(bif(!(decide ((q_ (x3.at' (toNat x1)).c0 (x3.at' (toNat (i64.wrap ((u64.wrap (i64.wrap (jb+j1)))/2^(toNat 1))))).c0)<0)))then(xZ x1 x3 k (i64.wrap ((i64.wrap ((u64.wrap (i64.wrap (jb+j1)))/2^(toNat 1)))+1)) j1)else(xZ x1 x3 k jb (i64.wrap ((u64.wrap (i64.wrap (jb+j1)))/2^(toNat 1)))))else jb)
def LZ:Int:=xZ x1 x3 ((toNat (x1-x0))+1) x0 x1
def G3(x0:Int)(x1:Int)(x3:Sl aS):Nat→Int→Sl aS→Sl aS
 |0,_,_=>default
 |k+1,iv,mj=>(bif(decide (iv>(LZ x0 x1 x3)))then(G3 x0 x1 x3 k (i64.wrap (iv-1)) (Sl.cp (Sl.cp mj (toNat iv) (mj.at' (toNat (i64.wrap (iv-1))))) (toNat (i64.wrap (iv-1))) (mj.at' (toNat iv))))else mj)
def aft:Sl aS:=G3 x0 x1 x3 ((toNat (x1-x0))+1) x1 x3
def rm:Int:=(bif(decide (x1>(i64.wrap ((u64.wrap (i64.wrap (x0+x2)))/2^(toNat 1)))))then(i64.wrap ((i64.wrap ((i64.wrap ((u64.wrap (i64.wrap (x0+x2)))/2^(toNat 1)))+x1))-x2))else x0)
def rn:Int:=(bif(decide (x1>(i64.wrap ((u64.wrap (i64.wrap (x0+x2)))/2^(toNat 1)))))then(i64.wrap ((u64.wrap (i64.wrap (x0+x2)))/2^(toNat 1)))else x1)
def LY(x0:Int)(x1:Int)(x2:Int)(x3:Sl aS):Nat→Int→Int→Int
 |0,_,_=>default
 |k+1,fH,eG=>let z6:=i64.wrap ((u64.wrap (i64.wrap (fH+eG)))/2^(toNat 1));(bif(decide (fH<eG))then(bif(!(decide ((q_ (x3.at' (toNat (i64.wrap ((i64.wrap ((i64.wrap ((i64.wrap ((u64.wrap (i64.wrap (x0+x2)))/2^(toNat 1)))+x1))-1))-z6)))).c0 (x3.at' (toNat z6)).c0)<0)))then(LY x0 x1 x2 x3 k (i64.wrap (z6+1)) eG)else(LY x0 x1 x2 x3 k fH z6))else fH)
def gr:Int:=let z8:=rm x0 x1 x2;let z6:=rn x0 x1 x2;LY x0 x1 x2 x3 ((toNat (z6-z8))+1) z8 z6
def Cm:Bool:=(bif(decide ((gr x0 x1 x2 x3)<x1))then(decide (x1<(i64.wrap ((i64.wrap ((i64.wrap ((u64.wrap (i64.wrap (x0+x2)))/2^(toNat 1)))+x1))- (gr x0 x1 x2 x3)))))else false)
def vL:Sl aS:=(bif(Cm x0 x1 x2 x3)then(Sl.cut (Cq (gr x0 x1 x2 x3) x1 (i64.wrap ((i64.wrap ((i64.wrap ((u64.wrap (i64.wrap (x0+x2)))/2^(toNat 1)))+x1))- (gr x0 x1 x2 x3))) x3) x3.n)else x3)
def Cl:Bool:=(bif(decide (x0<(gr x0 x1 x2 x3)))then(decide ((gr x0 x1 x2 x3)<(i64.wrap ((u64.wrap (i64.wrap (x0+x2)))/2^(toNat 1)))))else false)
def vK:Sl aS:=(bif(Cl x0 x1 x2 x3)then(Sl.cut (f x0 (gr x0 x1 x2 x3) (i64.wrap ((u64.wrap (i64.wrap (x0+x2)))/2^(toNat 1))) (vL x0 x1 x2 x3)) (vL x0 x1 x2 x3).n)else(vL x0 x1 x2 x3))
def G5:Bool:=(bif(decide ((i64.wrap ((u64.wrap (i64.wrap (x0+x2)))/2^(toNat 1)))<(i64.wrap ((i64.wrap ((i64.wrap ((u64.wrap (i64.wrap (x0+x2)))/2^(toNat 1)))+x1))- (gr x0 x1 x2 x3)))))then(decide ((i64.wrap ((i64.wrap ((i64.wrap ((u64.wrap (i64.wrap (x0+x2)))/2^(toNat 1)))+x1))- (gr x0 x1 x2 x3)))<x2))else false)
def Ch:Sl aS:=(bif((i64.wrap (x1-x0))==1)then(afs x0 x1 x2 x3)else(bif((i64.wrap (x2-x1))==1)then(aft x0 x1 x3)else(bif(G5 x0 x1 x2 x3)then(Sl.cut (f (i64.wrap ((u64.wrap (i64.wrap (x0+x2)))/2^(toNat 1))) (i64.wrap ((i64.wrap ((i64.wrap ((u64.wrap (i64.wrap (x0+x2)))/2^(toNat 1)))+x1))- (gr x0 x1 x2 x3))) x2 (vK f x0 x1 x2 x3)) (vK f x0 x1 x2 x3).n)else(vK f x0 x1 x2 x3))))
theorem qL(x0 x1 x2:Int)(h:0≤x0∧x0<x1∧x1<x2∧x2≤900000):(x1≤(x0+x2)/2∨(rm x0 x1 x2=(x0+x2)/2+x1-x2∧rn x0 x1 x2=(x0+x2)/2))∧((x0+x2)/2<x1∨(rm x0 x1 x2=x0∧rn x0 x1 x2=x1)):=by
 have hh:=half (x:=x0+x2) (by omega) (by omega);have w1:=aq ((x0+x2)/2+x1);have w2:=aq ((x0+x2)/2+x1-x2);unfold rm rn;rw[hh,w1,w2]
 by_cases c:x1>(x0+x2)/2
 ·rw[cx c];exact⟨.inr ⟨rfl,rfl⟩,.inl (by omega)⟩
 ·rw[cq c];exact⟨.inl (by omega),.inr ⟨rfl,rfl⟩⟩
theorem an1{x0 x1 x2:Int}{x3:Sl aS}(h:0≤x0∧x0<x1∧x1<x2∧x2≤900000)(hr:(rm x0 x1 x2)≤(gr x0 x1 x2 x3)∧(gr x0 x1 x2 x3)≤(rn x0 x1 x2))(hm:Cm x0 x1 x2 x3=true):gr x0 x1 x2 x3<x1∧x1<(x0+x2)/2+x1-gr x0 x1 x2 x3:=by
 have b:=qL x0 x1 x2 h;have hh:=half (x:=x0+x2) (by omega) (by omega);have w1:=aq ((x0+x2)/2+x1);have w2:=aq ((x0+x2)/2+x1-gr x0 x1 x2 x3);unfold Cm at hm;rw[hh,w1,w2]at hm
 by_cases c:gr x0 x1 x2 x3<x1
 ·rw[cx c,aCJ]at hm;exact⟨c,ay hm⟩
 ·rw[cq c]at hm;cases hm
theorem an8{x0 x1 x2:Int}{x3:Sl aS}(h:0≤x0∧x0<x1∧x1<x2∧x2≤900000)(hr:(rm x0 x1 x2)≤(gr x0 x1 x2 x3)∧(gr x0 x1 x2 x3)≤(rn x0 x1 x2))(hm:Cl x0 x1 x2 x3=true):x0<gr x0 x1 x2 x3∧gr x0 x1 x2 x3<(x0+x2)/2:=by
 have hh:=half (x:=x0+x2) (by omega) (by omega);unfold Cl at hm;rw[hh]at hm
 by_cases c:x0<gr x0 x1 x2 x3
 ·rw[cx c,aCJ]at hm;exact⟨c,ay hm⟩
 ·rw[cq c]at hm;cases hm
theorem an9{x0 x1 x2:Int}{x3:Sl aS}(h:0≤x0∧x0<x1∧x1<x2∧x2≤900000)(hr:(rm x0 x1 x2)≤(gr x0 x1 x2 x3)∧(gr x0 x1 x2 x3)≤(rn x0 x1 x2))(hm:G5 x0 x1 x2 x3=true):(x0+x2)/2<(x0+x2)/2+x1-gr x0 x1 x2 x3∧(x0+x2)/2+x1-gr x0 x1 x2 x3<x2:=by
 have b:=qL x0 x1 x2 h;have hh:=half (x:=x0+x2) (by omega) (by omega);have w1:=aq ((x0+x2)/2+x1);have w2:=aq ((x0+x2)/2+x1-gr x0 x1 x2 x3);unfold G5 at hm;rw[hh,w1,w2]at hm
 by_cases c:(x0+x2)/2<(x0+x2)/2+x1-gr x0 x1 x2 x3
 ·rw[cx c,aCJ]at hm;exact⟨c,ay hm⟩
 ·rw[cq c]at hm;cases hm
theorem XK(x0:Int)(x3:Sl aS)(lo hi:Int)(hl:0≤lo)(hh:hi≤900000): ∀(k:Nat) (i j:Int),lo≤i→i≤j→j≤hi→toNat (j-i)<k→lo≤vJ x0 x3 k i j∧vJ x0 x3 k i j≤hi
 |0,_,_,_,_,_,hk=>absurd hk (fC _)
 |k+1,i,j,h0,h1,h2,hk=>by
  rw[vJ,half (x:=i+j) (by omega) (by omega)]
  by_cases e:i<j
  ·rw[cx e,aCJ,aq ((i+j)/2+1)];generalize decide (q_ _ _<0)=b
   cases b
   ·exact XK x0 x3 lo hi hl hh k i ((i+j)/2) h0 (by omega) (by omega) (by omega)
   ·exact XK x0 x3 lo hi hl hh k ((i+j)/2+1) j (by omega) (by omega) h2 (by omega)
  ·rw[cq e,aCI];exact⟨h0,by omega⟩
theorem XL(x1:Int)(x3:Sl aS)(lo hi:Int)(hl:0≤lo)(hh:hi≤900000): ∀(k:Nat) (i j:Int),lo≤i→i≤j→j≤hi→toNat (j-i)<k→lo≤xZ x1 x3 k i j∧xZ x1 x3 k i j≤hi
 |0,_,_,_,_,_,hk=>absurd hk (fC _)
 |k+1,i,j,h0,h1,h2,hk=>by
  rw[xZ,half (x:=i+j) (by omega) (by omega)]
  by_cases e:i<j
  ·rw[cx e,aCJ,aq ((i+j)/2+1)];generalize (!(decide (q_ _ _<0)))=b
   cases b
   ·exact XL x1 x3 lo hi hl hh k i ((i+j)/2) h0 (by omega) (by omega) (by omega)
   ·exact XL x1 x3 lo hi hl hh k ((i+j)/2+1) j (by omega) (by omega) h2 (by omega)
  ·rw[cq e,aCI];exact⟨h0,by omega⟩
theorem ain(x0 x1 x2:Int)(x3:Sl aS)(hr:0≤mD x0 x1 x2 x3∧mD x0 x1 x2 x3≤x2)(hx:x2≤900000): ∀(k:Nat) (v:Int) (s:Sl aS),0≤v→v≤900001→toNat (x2-v)<k→(G4 x0 x1 x2 x3 k v s).n=s.n
 |0,_,_,_,_,hk=>absurd hk (fC _)
 |k+1,v,s,h0,h1,hk=>by
  rw[G4,aq (mD x0 x1 x2 x3-1)]
  by_cases e:v<mD x0 x1 x2 x3-1
  ·rw[cx e,aCJ,aq (v+1)];exact ain x0 x1 x2 x3 hr hx k (v+1) _ (by omega) (by omega) (by omega)
  ·rw[cq e,aCI]
theorem aio(x0 x1:Int)(x3:Sl aS)(hr:x0≤LZ x0 x1 x3)(h0:0≤x0): ∀(k:Nat) (v:Int) (s:Sl aS),v≤900001→toNat (v-x0)<k→(G3 x0 x1 x3 k v s).n=s.n
 |0,_,_,_,hk=>absurd hk (fC _)
 |k+1,v,s,h1,hk=>by
  rw[G3]
  by_cases e:v>LZ x0 x1 x3
  ·rw[cx e,aCJ,aq (v-1)];exact aio x0 x1 x3 hr h0 k (v-1) _ (by omega) (by omega)
  ·rw[cq e,aCI]
theorem XI(x0 x1 x2:Int)(x3:Sl aS):(vL x0 x1 x2 x3).n=x3.n:=by
 unfold vL
 cases Cm x0 x1 x2 x3<;>rfl
theorem ax6(f:Int→Int→Int→Sl aS→Sl aS)(x0 x1 x2:Int)(x3:Sl aS):(vK f x0 x1 x2 x3).n=x3.n:=by
 unfold vK
 cases Cl x0 x1 x2 x3
 ·exact XI x0 x1 x2 x3
 ·exact XI x0 x1 x2 x3
theorem ayh(f:Int→Int→Int→Sl aS→Sl aS)(x0 x1 x2:Int)(x3:Sl aS){Q:Prop}(hp:0≤x0∧x0<x1∧x1<x2∧x2≤(x3.n:Int)∧x3.n≤900000∧Q):(Ch f x0 x1 x2 x3).n=x3.n:=by
 obtain⟨h0,h1,h2,h3,h4,_⟩:=hp;have q1:=XK x0 x3 x1 x2 (by omega) (by omega) (toNat (x2-x1)+1) x1 x2 (aCT _) (by omega) (aCT _) (by omega);have q2:=XL x1 x3 x0 x1 (by omega) (by omega) (toNat (x1-x0)+1) x0 x1 (aCT _) (by omega) (aCT _) (by omega);have e1:(afs x0 x1 x2 x3).n=x3.n:=ain x0 x1 x2 x3 ⟨by show 0≤vJ x0 x3 _ x1 x2;omega,q1.2⟩ (by omega) _ x0 x3 h0 (by omega) (by omega);have e2:(aft x0 x1 x3).n=x3.n:=aio x0 x1 x3 q2.1 h0 _ x1 x3 (by omega) (by omega);have e3:(vL x0 x1 x2 x3).n=x3.n:=by
  unfold vL
  cases Cm x0 x1 x2 x3<;>rfl
 have e4:(vK f x0 x1 x2 x3).n=x3.n:=by
  unfold vK
  cases Cl x0 x1 x2 x3
  ·exact e3
  ·exact e3
 unfold Ch
 cases (i64.wrap (x1-x0)==1)
 ·cases (i64.wrap (x2-x1)==1)
  ·cases G5 x0 x1 x2 x3
   ·exact e4
   ·exact e4
  ·exact e2
 ·exact e1
def qF:Nat→Int→Int→Int→Sl aS→Sl aS
 |0=>fun _ _ _ s=>s
 |N+1=>Ch (qF N)
def AF(N:Nat):Hq:=⟨[.o 0,.v kI,.v kI,.v kI,.fp 34 []],[(.h 0 0,.ah cr)],[[U]],fun(x0:Int) (x1:Int) (x2:Int) x3=>⟨⟨some (0≤x0∧x0<x1∧x1<x2∧x2≤(x3.n:Int)∧x3.n≤900000∧x2-x0<(N:Int)),[],[[(Kd.ah cr).av (Sl.cut (qF N x0 x1 x2 x3) x3.n)]]⟩⟩⟩
theorem azR(N:Nat)(ih:jM Tryz.prog 77 (AF N).gW):Ef Tryz.prog 77 (AF (N+1)) _ ((AF (N+1)).sh.flatMap Sh.bs) (AF (N+1)).f []:=
 fun(x0:Int) (x1:Int) (x2:Int) x3 n3 hp=>have e0:=Sl.A3 (ayh (qF N) x0 x1 x2 x3 hp);zA (rs:=[]) (H':=[[(Kd.ah cr).av (Ch (qF N) x0 x1 x2 x3)]]) (dy ⟨.heap,[],[(.h 0 0,.ah cr)],⟨[],[[U]]⟩⟩ (.s (.ai (.s (.ai (.ai (.j ⟨1055,[],[],[],.f⟩ (.lp ⟨3103,[],[],[(.t 10,kI),(.t 11,kI)],some 0,false,1055,[],[(.t 10,kI)],fun k (s:Int×Int)=>vJ x0 x3 k s.1 s.2,.f,fun(s:Int×Int)=>(x1≤s.1∧s.1≤s.2∧s.2≤x2),fun(s:Int×Int)=>(toNat (s.2-s.1)),some fun(r:Int)=>(x1≤r∧r≤x2)⟩ .z) (.j ⟨31,[],[],[],.f⟩ (.ai (.lp ⟨9247,[],[],[(.t 13,kI),(.h 0 0,.ah cr)],some 2,false,31,[],[(.h 0 0,.ah cr)],fun k (s:Int×Sl aS)=>G4 x0 x1 x2 x3 k s.1 s.2,.f,fun(s:Int×Sl aS)=>(x0≤s.1∧s.1≤x2∧(s.2.n:Int)=x3.n),fun(s:Int×Sl aS)=>(toNat (x2-s.1)),none⟩ .z)) .z)))) .z)) (.s (.ai (.s (.ai (.ai (.j ⟨16415,[],[],[],.f⟩ (.lp ⟨49183,[],[],[(.t 14,kI),(.t 15,kI)],some 4,false,16415,[],[(.t 14,kI)],fun k (s:Int×Int)=>xZ x1 x3 k s.1 s.2,.f,fun(s:Int×Int)=>(x0≤s.1∧s.1≤s.2∧s.2≤x1),fun(s:Int×Int)=>(toNat (s.2-s.1)),some fun(r:Int)=>(x0≤r∧r≤x1)⟩ .z) (.j ⟨31,[],[],[],.f⟩ (.ai (.lp ⟨147487,[],[],[(.t 17,kI),(.h 0 0,.ah cr)],some 6,false,31,[],[(.h 0 0,.ah cr)],fun k (s:Int×Sl aS)=>G3 x0 x1 x3 k s.1 s.2,.f,fun(s:Int×Sl aS)=>(x0≤s.1∧s.1≤x1∧(s.2.n:Int)=x3.n),fun(s:Int×Sl aS)=>(toNat (s.1-x0)),none⟩ .z)) .z)))) .z)) (.ai (.ai (.ai (.j ⟨3932191,[],[(.t 20,kI),(.t 21,kI)],[],.f⟩ .z (.ai (.j ⟨1835039,[],[],[],.f⟩ (.lp ⟨8126495,[],[],[(.t 20,kI),(.t 21,kI)],some 8,false,1835039,[],[(.t 20,kI)],fun k (s:Int×Int)=>LY x0 x1 x2 x3 k s.1 s.2,.f,fun(s:Int×Int)=>((rm x0 x1 x2)≤s.1∧s.1≤s.2∧s.2≤(rn x0 x1 x2)),fun(s:Int×Int)=>(toNat (s.2-s.1)),some fun(r:Int)=>((rm x0 x1 x2)≤r∧r≤(rn x0 x1 x2))⟩ .z) (.ai (.j ⟨18087963,[],[(.h 0 0,.ah cr)],[],.f⟩ (.j ⟨49039857307708443467467104868809893875799651909893357599,[],[(.t 185,kB)],[],.f⟩ .z .z) (.j ⟨17039385,[],[(.h 0 0,.ah cr)],[],.f⟩ (.j ⟨803469022129495137770981046170581301261101496891396435738651,[],[(.t 199,kB)],[],.f⟩ .z .z) (.j ⟨13164036458569648337239753460458804039861886925068638906805911577,[],[(.t 213,kB)],[],.f⟩ .z .z)))))))))))) (let yj:=vL x0 x1 x2 x3;let yg:=i64.wrap (x2-x1);let yf:=i64.wrap (x1-x0);let yd:=toNat 1;let yb:=vK (qF N) x0 x1 x2 x3;let zq:=LZ x0 x1 x3;let zp:=mD x0 x1 x2 x3;let zj:=gr x0 x1 x2 x3;let zi:=rn x0 x1 x2;let zg:=rm x0 x1 x2;let z8:=i64.wrap ((u64.wrap (i64.wrap (x0+x2)))/2^yd);let ye:=i64.wrap (z8+x1);let zd:=i64.wrap (ye-zj);((yf==1)=true→((((x1≤x1∧x1≤x2∧x2≤x2))∧(∀(af:Int) (ak:Int),let yk:=toNat (ak-af);let yc:=decide (af<ak);let zb:=i64.wrap ((u64.wrap (i64.wrap (af+ak)))/2^yd);let zr:=i64.wrap (zb+1);let zk:=decide ((q_ (x3.at' (toNat zb)).c0 (x3.at' (toNat x0)).c0)<0);(x1≤af∧af≤ak∧ak≤x2)→((yc=true→(((0:Int)≤1∧(1:Int)≤64)∧(((0:Int)≤zb∧zb<(x3.n:Int))∧(((toNat zb)<x3.n)∧(((0:Int)≤x0∧x0<(x3.n:Int))∧((toNat x0)<x3.n))))))∧((yc=true→((zk=true→((x1≤zr∧zr≤ak∧ak≤x2)∧(toNat (ak-zr))<yk))∧(zk=false→((x1≤af∧af≤zb∧zb≤x2)∧(toNat (zb-af))<yk))))∧(yc=false→((x1≤af∧af≤x2)))))))∧(((x1≤zp∧zp≤x2))→(((x0≤x0∧x0≤x2∧(x3.n:Int)=x3.n))∧(∀(cC:Int) (ga:Sl aS),let zx:=decide (cC<(i64.wrap (zp-1)));let zf:=i64.wrap (cC+1);(x0≤cC∧cC≤x2∧(ga.n:Int)=x3.n)→((zx=true→(((0:Int)≤zf∧zf<(ga.n:Int))∧(((toNat zf)<ga.n)∧(((0:Int)≤cC∧cC<(ga.n:Int))∧(((toNat cC)<ga.n)∧(((0:Int)≤cC∧cC<(ga.n:Int))∧(((toNat cC)<ga.n)∧(((0:Int)≤zf∧zf<(ga.n:Int))∧((toNat zf)<ga.n)))))))))∧(zx=true→((x0≤zf∧zf≤x2∧(ga.n:Int)=x3.n)∧(toNat (x2-zf))<(toNat (x2-cC))))))))))∧((yf==1)=false→(((yg==1)=true→((((x0≤x0∧x0≤x1∧x1≤x1))∧(∀(jb:Int) (j1:Int),let yh:=toNat (j1-jb);let zy:=decide (jb<j1);let za:=i64.wrap ((u64.wrap (i64.wrap (jb+j1)))/2^yd);let zu:=i64.wrap (za+1);let zn:=decide ((q_ (x3.at' (toNat x1)).c0 (x3.at' (toNat za)).c0)<0);(x0≤jb∧jb≤j1∧j1≤x1)→((zy=true→(((0:Int)≤1∧(1:Int)≤64)∧(((0:Int)≤x1∧x1<(x3.n:Int))∧(((toNat x1)<x3.n)∧(((0:Int)≤za∧za<(x3.n:Int))∧((toNat za)<x3.n))))))∧((zy=true→(((!zn)=true→((x0≤zu∧zu≤j1∧j1≤x1)∧(toNat (j1-zu))<yh))∧((!zn)=false→((x0≤jb∧jb≤za∧za≤x1)∧(toNat (za-jb))<yh))))∧(zy=false→((x0≤jb∧jb≤x1)))))))∧(((x0≤zq∧zq≤x1))→(((x0≤x1∧x1≤x1∧(x3.n:Int)=x3.n))∧(∀(iv:Int) (mj:Sl aS),let ze:=i64.wrap (iv-1);(x0≤iv∧iv≤x1∧(mj.n:Int)=x3.n)→(((decide (iv>zq))=true→(((0:Int)≤ze∧ze<(mj.n:Int))∧(((toNat ze)<mj.n)∧(((0:Int)≤iv∧iv<(mj.n:Int))∧(((toNat iv)<mj.n)∧(((0:Int)≤iv∧iv<(mj.n:Int))∧(((toNat iv)<mj.n)∧(((0:Int)≤ze∧ze<(mj.n:Int))∧((toNat ze)<mj.n)))))))))∧((decide (iv>zq))=true→((x0≤ze∧ze≤x1∧(mj.n:Int)=x3.n)∧(toNat (ze-x0))<(toNat (iv-x0))))))))))∧((yg==1)=false→(((0:Int)≤1∧(1:Int)≤64)∧((((zg≤zg∧zg≤zi∧zi≤zi))∧(∀(fH:Int) (eG:Int),let yi:=toNat (eG-fH);let ya:=decide (fH<eG);let z6:=i64.wrap ((u64.wrap (i64.wrap (fH+eG)))/2^yd);let zw:=i64.wrap (z6+1);let zc:=i64.wrap ((i64.wrap (ye-1))-z6);let zo:=decide ((q_ (x3.at' (toNat zc)).c0 (x3.at' (toNat z6)).c0)<0);(zg≤fH∧fH≤eG∧eG≤zi)→((ya=true→(((0:Int)≤1∧(1:Int)≤64)∧(((0:Int)≤zc∧zc<(x3.n:Int))∧(((toNat zc)<x3.n)∧(((0:Int)≤z6∧z6<(x3.n:Int))∧((toNat z6)<x3.n))))))∧((ya=true→(((!zo)=true→((zg≤zw∧zw≤eG∧eG≤zi)∧(toNat (eG-zw))<yi))∧((!zo)=false→((zg≤fH∧fH≤z6∧z6≤zi)∧(toNat (z6-fH))<yi))))∧(ya=false→((zg≤fH∧fH≤zi)))))))∧(((zg≤zj∧zj≤zi))→(((Cm x0 x1 x2 x3)=true→(0≤zj∧zj<x1∧x1<zd∧zd≤(x3.n:Int)∧x3.n≤900000))∧(((Cl x0 x1 x2 x3)=true→(0≤x0∧x0<zj∧zj<z8∧z8≤(yj.n:Int)∧yj.n≤900000∧z8-x0<(N:Int)))∧((G5 x0 x1 x2 x3)=true→(0≤z8∧z8<zd∧zd<x2∧x2≤(yb.n:Int)∧yb.n≤900000∧x2-z8<(N:Int)))))))))))) (bB 1 (aH ahy aQ) (az ih (az avZ bA))) Tryz.func77 (have⟨cn,dv,ia,mH,wm,Dr⟩:=hp;⟨(fun h1=>⟨⟨(by omega),(fun af ak jk=>⟨(fun h3=>⟨(by omega),⟨(by have:=ay h3;have:=half (x:=(af+ak)) (by omega) (by omega);omega),⟨(by have:=ay h3;have:=half (x:=(af+ak)) (by omega) (by omega);omega),⟨(by omega),(by omega)⟩⟩⟩⟩),⟨(fun h4=>⟨(fun h5=>(by have:=ay h4;have:=half (x:=(af+ak)) (by omega) (by omega);have:=aq ((i64.wrap ((u64.wrap (i64.wrap (af+ak)))/2^(toNat 1)))+1);omega)),(fun h6=>(by have:=ay h4;have:=half (x:=(af+ak)) (by omega) (by omega);omega))⟩),(fun h7=>(by omega))⟩⟩)⟩,(fun hF8=>⟨(by omega),(fun cC ga hI9=>⟨(fun dJ=>⟨(by have:=ay dJ;have:=aq ((mD x0 x1 x2 x3)-1);have:=aq (cC+1);omega),⟨(by have:=ay dJ;have:=aq ((mD x0 x1 x2 x3)-1);have:=aq (cC+1);omega),⟨(by have:=ay dJ;have:=aq ((mD x0 x1 x2 x3)-1);omega),⟨(by have:=ay dJ;have:=aq ((mD x0 x1 x2 x3)-1);omega),⟨(by have:=ay dJ;have:=aq ((mD x0 x1 x2 x3)-1);omega),⟨(by have:=ay dJ;have:=aq ((mD x0 x1 x2 x3)-1);omega),⟨(by have:=ay dJ;have:=aq ((mD x0 x1 x2 x3)-1);have:=aq (cC+1);omega),(by have:=ay dJ;have:=aq ((mD x0 x1 x2 x3)-1);have:=aq (cC+1);omega)⟩⟩⟩⟩⟩⟩⟩),(fun jH=>(by have:=ay jH;have:=aq ((mD x0 x1 x2 x3)-1);have:=aq (cC+1);omega))⟩)⟩)⟩),(fun fw=>⟨(fun nh=>⟨⟨(by omega),(fun jb j1 aB9=>⟨(fun v8=>⟨(by omega),⟨(by omega),⟨(by omega),⟨(by have:=half (x:=(jb+j1)) (by omega) (by omega);omega),(by have:=half (x:=(jb+j1)) (by omega) (by omega);omega)⟩⟩⟩⟩),⟨(fun v_=>⟨(fun MO=>(by have:=ay v_;have:=half (x:=(jb+j1)) (by omega) (by omega);have:=aq ((i64.wrap ((u64.wrap (i64.wrap (jb+j1)))/2^(toNat 1)))+1);omega)),(fun CT=>(by have:=ay v_;have:=half (x:=(jb+j1)) (by omega) (by omega);omega))⟩),(fun Vr=>(by omega))⟩⟩)⟩,(fun aB4=>⟨(by omega),(fun iv mj aB_=>⟨(fun h22=>⟨(by have:=ay h22;have:=aq (iv-1);omega),⟨(by have:=aq (iv-1);omega),⟨(by omega),⟨(by omega),⟨(by omega),⟨(by omega),⟨(by have:=ay h22;have:=aq (iv-1);omega),(by have:=aq (iv-1);omega)⟩⟩⟩⟩⟩⟩⟩),(fun h23=>(by have:=ay h23;have:=aq (iv-1);omega))⟩)⟩)⟩),(fun h24=>⟨(by omega),⟨⟨(by have:=qL x0 x1 x2 (by omega);omega),(fun fH eG aCa=>⟨(fun h26=>⟨(by omega),⟨(by have:=qL x0 x1 x2 (by omega);have:=half (x:=(x0+x2)) (by omega) (by omega);have:=half (x:=(fH+eG)) (by omega) (by omega);have:=aq ((i64.wrap ((u64.wrap (i64.wrap (x0+x2)))/2^(toNat 1)))+x1);have:=aq ((i64.wrap ((i64.wrap ((u64.wrap (i64.wrap (x0+x2)))/2^(toNat 1)))+x1))-1);have:=aq ((i64.wrap ((i64.wrap ((i64.wrap ((u64.wrap (i64.wrap (x0+x2)))/2^(toNat 1)))+x1))-1))- (i64.wrap ((u64.wrap (i64.wrap (fH+eG)))/2^(toNat 1))));omega),⟨(by have:=qL x0 x1 x2 (by omega);have:=half (x:=(x0+x2)) (by omega) (by omega);have:=half (x:=(fH+eG)) (by omega) (by omega);have:=aq ((i64.wrap ((u64.wrap (i64.wrap (x0+x2)))/2^(toNat 1)))+x1);have:=aq ((i64.wrap ((i64.wrap ((u64.wrap (i64.wrap (x0+x2)))/2^(toNat 1)))+x1))-1);have:=aq ((i64.wrap ((i64.wrap ((i64.wrap ((u64.wrap (i64.wrap (x0+x2)))/2^(toNat 1)))+x1))-1))- (i64.wrap ((u64.wrap (i64.wrap (fH+eG)))/2^(toNat 1))));omega),⟨(by have:=qL x0 x1 x2 (by omega);have:=half (x:=(fH+eG)) (by omega) (by omega);omega),(by have:=qL x0 x1 x2 (by omega);have:=half (x:=(fH+eG)) (by omega) (by omega);omega)⟩⟩⟩⟩),⟨(fun h27=>⟨(fun h28=>(by have:=ay h27;have:=qL x0 x1 x2 (by omega);have:=half (x:=(fH+eG)) (by omega) (by omega);have:=aq ((i64.wrap ((u64.wrap (i64.wrap (fH+eG)))/2^(toNat 1)))+1);omega)),(fun h29=>(by have:=ay h27;have:=qL x0 x1 x2 (by omega);have:=half (x:=(fH+eG)) (by omega) (by omega);omega))⟩),(fun h30=>(by omega))⟩⟩)⟩,(fun aB5=>⟨(fun h32=>(by have:=qL x0 x1 x2 (by omega);(try have h8:=an1 (x0:=x0) (x1:=x1) (x2:=x2) (x3:=x3) (by omega) (by assumption) (by assumption));have:=half (x:=(x0+x2)) (by omega) (by omega);have:=aq ((i64.wrap ((u64.wrap (i64.wrap (x0+x2)))/2^(toNat 1)))+x1);have:=aq ((i64.wrap ((i64.wrap ((u64.wrap (i64.wrap (x0+x2)))/2^(toNat 1)))+x1))- (gr x0 x1 x2 x3));omega)),⟨(fun h33=>(by have:=XI x0 x1 x2 x3;(try have dJ:=an8 (x0:=x0) (x1:=x1) (x2:=x2) (x3:=x3) (by omega) (by assumption) (by assumption));have:=half (x:=(x0+x2)) (by omega) (by omega);omega)),(fun h34=>(by have:=ax6 (qF N) x0 x1 x2 x3;(try have fw:=an9 (x0:=x0) (x1:=x1) (x2:=x2) (x3:=x3) (by omega) (by assumption) (by assumption));have:=half (x:=(x0+x2)) (by omega) (by omega);have:=aq ((i64.wrap ((u64.wrap (i64.wrap (x0+x2)))/2^(toNat 1)))+x1);have:=aq ((i64.wrap ((i64.wrap ((u64.wrap (i64.wrap (x0+x2)))/2^(toNat 1)))+x1))- (gr x0 x1 x2 x3));omega))⟩⟩)⟩⟩)⟩)⟩)) rfl (show([[(Kd.ah cr).av (Ch (qF N) x0 x1 x2 x3)]]:Heap)=[[(Kd.ah cr).av (Sl.cut (Ch (qF N) x0 x1 x2 x3) x3.n)]] by rw[e0])
theorem ahF: ∀N,jM Tryz.prog 77 (AF N).gW
 |0=>let z6:=AF 0;Hq.ok ⟨_,_,Tryz.func77,rfl,by kernel_rfl⟩ (by kernel_rfl) (show akd 77 z6 from fun(x0:Int) (x1:Int) (x2:Int) x3 n3 hp=>(by have hp:0≤x0∧x0<x1∧x1<x2∧x2≤(x3.n:Int)∧x3.n≤900000∧x2-x0<((0:Nat):Int):=hp;omega:False).elim)
 |N+1=>Hq.ok ⟨_,_,Tryz.func77,rfl,by kernel_rfl⟩ (by kernel_rfl) (azR N (ahF N))
end
end Go.Proofs.YtfmgjpcmcjjoiaaGreatDoor
