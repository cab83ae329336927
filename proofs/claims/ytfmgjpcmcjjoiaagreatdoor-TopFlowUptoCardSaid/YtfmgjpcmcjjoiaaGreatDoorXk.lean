/- Part of a proof: walks of the program. -/
import Derived.Test.YtfmgjpcmcjjoiaaGreatDoorXj
open Go.IntKind (i64 u64 u8)
open Int (toNat)
set_option maxRecDepth 100000
set_option maxHeartbeats 4000000
set_option linter.all false
noncomputable section
namespace Go.Proofs.YtfmgjpcmcjjoiaaGreatDoor
open Go Go.RowKit Go.Vc
section
def T5(x3:Sl bk):Nat→Int→Sl ag→Sl ag
 |0,_,_=>default
 |k+1,af,ak=>(bif(decide (af<(x3.n:Int)))then(T5 x3 k (i64.wrap (af+1)) (Sl.app ak (Sl.lit ([(x3.at' (toNat af)).c0]:List ag))))else ak)
variable(x0:ag)(x1:ag)(x3:Sl bk)(x4:Sl ag)(x5:Sl bD)
def K9:Sl ag:=T5 x3 ((toNat ((x3.n:Int)-0))+1) 0 x4
def T6(x5:Sl bD):Nat→Int→Sl ag→Sl ag
 |0,_,_=>default
 |k+1,bg,ju=>(bif(decide (bg<(x5.n:Int)))then(T6 x5 k (i64.wrap (bg+1)) (Sl.app ju (Sl.lit ([(x5.at' (toNat bg)).c0]:List ag))))else ju)
def aqH:Sl ag:=T6 x5 ((toNat ((x5.n:Int)-0))+1) 0 (K9 x3 x4)
def aeK:Sl ag:=(aqH x3 x4 x5)
def ame:Fq:=⟨[.g [kI,kS,kI,.sl cN,.sl E9,.sl cH]],fun _ _ _ x3 x4 x5=>⟨⟨some (x3.n≤100000000000∧x4.n≤100000000000∧x5.n≤100000000000),(Kd.ah E9).av (aeK x3 x4 x5)⟩⟩⟩
theorem avr:ba 203 ame:=bf Tryz.func203
 fun(x0:Int) x1 n1 (x2:Int) x3 n3 _ x4 n4 _ x5 n5 _ hp=>bj ⟨.own E9,[.tmp 2],[(.h 0 0,.ah E9)],⟨[],[]⟩⟩ (.ai (.ai (.j ⟨14,[],[],[],.f⟩ (.ai (.lp ⟨28686,[],[],[(.t 14,kI),(.h 1 0,.ah E9)],some 0,false,14,[],[(.h 1 0,.ah E9)],fun k (s:Int×Sl ag)=>T5 x3 k s.1 s.2,.f,fun(s:Int×Sl ag)=>((0≤s.1∧s.1≤(x3.n:Int))∧(s.2.n:Int)≤x4.n+(s.1-0)),fun(s:Int×Sl ag)=>(toNat ((x3.n:Int)-s.1)),some fun(r:Sl ag)=>(r.n:Int)≤x4.n+max ((x3.n:Int)-0) 0⟩ .z)) (.j ⟨12,[],[],[],.f⟩ (.ai (.lp ⟨234881036,[.b 0],[],[(.t 27,kI),(.h 1 0,.ah E9)],some 2,false,12,[],[(.h 1 0,.ah E9)],fun k (s:Int×Sl ag)=>T6 x5 k s.1 s.2,.f,fun(s:Int×Sl ag)=>((0≤s.1∧s.1≤(x5.n:Int))∧(s.2.n:Int)≤(K9 x3 x4).n+(s.1-0)),fun(s:Int×Sl ag)=>(toNat ((x5.n:Int)-s.1)),some fun(r:Sl ag)=>(r.n:Int)≤(K9 x3 x4).n+max ((x5.n:Int)-0) 0⟩ .z)) .z)))) (let za:=K9 x3 x4;((((0≤(0:Int)∧(0:Int)≤(x3.n:Int))∧(x4.n:Int)≤x4.n+((0:Int)-0)))∧(∀(af:Int) (ak:Sl ag),let zb:=decide (af<(x3.n:Int));let z6:=i64.wrap (af+1);((0≤af∧af≤(x3.n:Int))∧(ak.n:Int)≤x4.n+(af-0))→((zb=true→(((0:Int)≤af∧af<(x3.n:Int))∧(ak.n+1≤549755813888)))∧((zb=true→(((0≤z6∧z6≤(x3.n:Int))∧(((ak.n+1):Nat):Int)≤x4.n+(z6-0))∧(toNat ((x3.n:Int)-z6))<(toNat ((x3.n:Int)-af))))∧(zb=false→((ak.n:Int)≤x4.n+max ((x3.n:Int)-0) 0))))))∧(((za.n:Int)≤x4.n+max ((x3.n:Int)-0) 0)→((((0≤(0:Int)∧(0:Int)≤(x5.n:Int))∧(za.n:Int)≤za.n+((0:Int)-0)))∧(∀(bg:Int) (ju:Sl ag),let zc:=decide (bg<(x5.n:Int));let z8:=i64.wrap (bg+1);((0≤bg∧bg≤(x5.n:Int))∧(ju.n:Int)≤za.n+(bg-0))→((zc=true→(((0:Int)≤bg∧bg<(x5.n:Int))∧(ju.n+1≤549755813888)))∧((zc=true→(((0≤z8∧z8≤(x5.n:Int))∧(((ju.n+1):Nat):Int)≤za.n+(z8-0))∧(toNat ((x5.n:Int)-z8))<(toNat ((x5.n:Int)-bg))))∧(zc=false→((ju.n:Int)≤za.n+max ((x5.n:Int)-0) 0)))))))) (bU (aH DC aQ)) Tryz.func203 (have⟨cn,dv,ia⟩:=hp;⟨⟨(by omega),(fun af ak dX=>⟨(fun h2=>⟨(by have:=ay h2;omega),(by omega)⟩),⟨(fun h3=>(by have:=ay h3;have:=aq (af+1);omega)),(fun h4=>(by omega))⟩⟩)⟩,(fun Vt=>⟨(by omega),(fun bg ju MV=>⟨(fun h7=>⟨(by have:=ay h7;omega),(by omega)⟩),⟨(fun h8=>(by have:=ay h8;have:=aq (bg+1);omega)),(fun h9=>(by omega))⟩⟩)⟩)⟩)
def T8:Bool:=(!((x0:ag).toList==(x0:ag).toList))
def amy:Fq:=⟨[.v kS],fun x0=>⟨⟨none,.bool (T8 x0)⟩⟩⟩
theorem avK:ba 234 amy:=bf Tryz.func234
 fun x0 _=>bj ⟨.pure,[.tmp 2],[(.t 0,kB)],⟨[U],[]⟩⟩ (.z) True fK Tryz.func234 (trivial)
def aqO:Bool:=let z6:=Op.bytesLess ((x0:ag).toList) ((x1:ag).toList);(bif(T8 x0)then(bif(!(T8 x1))then true else z6)else z6)
def Lk:Bool:=(aqO x0 x1)
def amw:Fq:=⟨[.v kS,.v kS],fun x0 x1=>⟨⟨none,.bool (Lk x0 x1)⟩⟩⟩
theorem avI:ba 227 amw:=bf Tryz.func227
 fun x0 _ x1 _=>bj ⟨.pure,[.tmp 4],[(.t 0,kB)],⟨[U],[]⟩⟩ (.ai (.j ⟨16,[],[(.t 4,kB)],[],.f⟩ .z .z)) True (bU (aH avK aQ)) Tryz.func227 (trivial)
def T7:Bool:=(!((x0:ag).toList==(x0:ag).toList))
def amx:Fq:=⟨[.v kS],fun x0=>⟨⟨none,.bool (T7 x0)⟩⟩⟩
theorem avJ:ba 228 amx:=bf Tryz.func228
 fun x0 _=>bj ⟨.pure,[.tmp 2],[(.t 0,kB)],⟨[U],[]⟩⟩ (.z) True fK Tryz.func228 (trivial)
def vA(x0:Sl bk)(x1:ag):Nat→Int→Int→Int
 |0,_,_=>default
 |k+1,af,ak=>(bif(decide (af<ak))then(bif(decide ((xD (x0.at' (toNat (i64.wrap ((u64.wrap (i64.wrap (af+ak)))/2^(toNat 1))))).c0 x1)<0))then(vA x0 x1 k (i64.wrap ((i64.wrap ((u64.wrap (i64.wrap (af+ak)))/2^(toNat 1)))+1)) ak)else(vA x0 x1 k af (i64.wrap ((u64.wrap (i64.wrap (af+ak)))/2^(toNat 1)))))else af)
def Ge(x0:Sl bk)(x1:ag):Int:=vA x0 x1 ((toNat ((x0.n:Int)-0))+1) 0 (x0.n:Int)
def afb(x0:Sl bk)(x1:ag):Bool:=(bif(decide ((Ge x0 x1)<(x0.n:Int)))then((xD (x0.at' (toNat (Ge x0 x1))).c0 x1)==0)else false)
def oW(x0:Sl bk)(x1:ag):Int:=(Ge x0 x1)
def vz(x0:Sl bk)(x1:ag):Bool:=(afb x0 x1)
def amm:Fq:=⟨[.v (.sl cN),.g [kS,kS],.fn 178 []],fun x0 x1 _=>⟨⟨none,.cU [ae (oW x0 x1),.bool (vz x0 x1)]⟩⟩⟩
theorem avA:ba 212 amm:=bf Tryz.func212
 fun x0 n0 _ x1 n1 x2 n2=>bj ⟨.pure,[.tmp 6,.tmp 7],[(.t 0,kI),(.t 1,kB)],⟨[U,U],[]⟩⟩ (.ai (.ai (.ai (.j ⟨981,[],[],[],.f⟩ (.lp ⟨2005,[],[],[(.t 9,kI),(.t 10,kI)],some 0,false,981,[],[(.t 9,kI)],fun k (s:Int×Int)=>vA x0 x1 k s.1 s.2,.f,fun(s:Int×Int)=>(0≤s.1∧s.1≤s.2∧s.2≤(x0.n:Int)),fun(s:Int×Int)=>(toNat (s.2-s.1)),some fun(r:Int)=>0≤r∧r≤(x0.n:Int)⟩ .z) (.j ⟨192,[.b 0],[(.t 7,kB)],[],.f⟩ .z .z))))) (let z8:=Ge x0 x1;(((0≤(0:Int)∧(0:Int)≤(x0.n:Int)∧(x0.n:Int)≤(x0.n:Int)))∧(∀(af:Int) (ak:Int),let zd:=toNat (ak-af);let zc:=decide (af<ak);let z6:=i64.wrap ((u64.wrap (i64.wrap (af+ak)))/2^(toNat 1));let zb:=i64.wrap (z6+1);let za:=decide ((xD (x0.at' (toNat z6)).c0 x1)<0);(0≤af∧af≤ak∧ak≤(x0.n:Int))→((zc=true→(((0:Int)≤1∧(1:Int)≤64)∧((0:Int)≤z6∧z6<(x0.n:Int))))∧((zc=true→((za=true→((0≤zb∧zb≤ak∧ak≤(x0.n:Int))∧(toNat (ak-zb))<zd))∧(za=false→((0≤af∧af≤z6∧z6≤(x0.n:Int))∧(toNat (z6-af))<zd))))∧(zc=false→(0≤af∧af≤(x0.n:Int)))))))∧((0≤z8∧z8≤(x0.n:Int))→((decide (z8<(x0.n:Int)))=true→((0:Int)≤z8∧z8<(x0.n:Int))))) (bU (aH ahk aQ)) Tryz.func212 (⟨⟨(by omega),(fun af ak dX=>⟨(fun h2=>⟨(by omega),(by have:=ay h2;have:=aq (af+ak);have:=oI (x:=(i64.wrap (af+ak))) (by omega) (by omega);have:=oq (u64.wrap (i64.wrap (af+ak)));have:=aq ((u64.wrap (i64.wrap (af+ak)))/2^(toNat 1));omega)⟩),⟨(fun h3=>⟨(fun h4=>(by have:=ay h3;have:=aq (af+ak);have:=oI (x:=(i64.wrap (af+ak))) (by omega) (by omega);have:=oq (u64.wrap (i64.wrap (af+ak)));have:=aq ((u64.wrap (i64.wrap (af+ak)))/2^(toNat 1));have:=aq ((i64.wrap ((u64.wrap (i64.wrap (af+ak)))/2^(toNat 1)))+1);omega)),(fun h5=>(by have:=ay h3;have:=aq (af+ak);have:=oI (x:=(i64.wrap (af+ak))) (by omega) (by omega);have:=oq (u64.wrap (i64.wrap (af+ak)));have:=aq ((u64.wrap (i64.wrap (af+ak)))/2^(toNat 1));omega))⟩),(fun h6=>(by omega))⟩⟩)⟩,(fun CV=>(fun h8=>(by have:=ay h8;omega)))⟩)
theorem aaV(x0:Sl bk)(x1:ag): ∀k i j,vA x0 x1 k i j=nI (fun m=>decide ((xD (x0.at' m).c0 x1)<0)) k i j
 |0,_,_=>rfl
 |k+1,i,j=>by simp only[vA,nI,aaV x0 x1 k]
theorem Bc(x0:Sl bk)(x1:ag)(hn:x0.n≤549755813888):0≤oW x0 x1∧oW x0 x1≤(x0.n:Int):=by
 show 0≤vA x0 x1 _ _ _∧vA x0 x1 _ _ _≤_;rw[aaV];exact AS (by omega) _ _ _ (by omega) (by omega) (by omega)
theorem Zi(x0:Sl bk)(x1:ag)(h:vz x0 x1=true):oW x0 x1<(x0.n:Int):=by
 unfold vz afb at h
 cases e:decide (Ge x0 x1<(x0.n:Int))with
 |true=>exact ay e
 |false=>rw[e]at h;cases h
def vC(x0:Sl bD)(x1:ag)(x2:Int):Nat→Int→Int→Int
 |0,_,_=>default
 |k+1,af,ak=>(bif(decide (af<ak))then(bif(decide ((xE (x0.at' (toNat (i64.wrap ((u64.wrap (i64.wrap (af+ak)))/2^(toNat 1))))).c0 (x0.at' (toNat (i64.wrap ((u64.wrap (i64.wrap (af+ak)))/2^(toNat 1))))).c1 x1 x2)<0))then(vC x0 x1 x2 k (i64.wrap ((i64.wrap ((u64.wrap (i64.wrap (af+ak)))/2^(toNat 1)))+1)) ak)else(vC x0 x1 x2 k af (i64.wrap ((u64.wrap (i64.wrap (af+ak)))/2^(toNat 1)))))else af)
def Lj(x0:Sl bD)(x1:ag)(x2:Int):Int:=vC x0 x1 x2 ((toNat ((x0.n:Int)-0))+1) 0 (x0.n:Int)
def aqN(x0:Sl bD)(x1:ag)(x2:Int):Bool:=let z6:=x0.at' (toNat (Lj x0 x1 x2));(bif(decide ((Lj x0 x1 x2)<(x0.n:Int)))then((xE z6.c0 z6.c1 x1 x2)==0)else false)
def BQ(x0:Sl bD)(x1:ag)(x2:Int):Int:=(Lj x0 x1 x2)
def aqM(x0:Sl bD)(x1:ag)(x2:Int):Bool:=(aqN x0 x1 x2)
def amu:Fq:=⟨[.v (.sl cH),.g [kS,kI],.fn 180 []],fun x0 x1 x2=>⟨⟨none,.cU [ae (BQ x0 x1 x2),.bool (aqM x0 x1 x2)]⟩⟩⟩
theorem avG:ba 220 amu:=bf Tryz.func220
 fun x0 n0 _ x1 n1 (x2:Int)=>bj ⟨.pure,[.tmp 6,.tmp 7],[(.t 0,kI),(.t 1,kB)],⟨[U,U],[]⟩⟩ (.ai (.ai (.ai (.j ⟨981,[],[],[],.f⟩ (.lp ⟨2005,[],[],[(.t 9,kI),(.t 10,kI)],some 0,false,981,[],[(.t 9,kI)],fun k (s:Int×Int)=>vC x0 x1 x2 k s.1 s.2,.f,fun(s:Int×Int)=>(0≤s.1∧s.1≤s.2∧s.2≤(x0.n:Int)),fun(s:Int×Int)=>(toNat (s.2-s.1)),some fun(r:Int)=>0≤r∧r≤(x0.n:Int)⟩ .z) (.j ⟨192,[.b 0],[(.t 7,kB)],[],.f⟩ .z .z))))) (let za:=Lj x0 x1 x2;(((0≤(0:Int)∧(0:Int)≤(x0.n:Int)∧(x0.n:Int)≤(x0.n:Int)))∧(∀(af:Int) (ak:Int),let zd:=toNat (ak-af);let zc:=decide (af<ak);let z6:=i64.wrap ((u64.wrap (i64.wrap (af+ak)))/2^(toNat 1));let zb:=i64.wrap (z6+1);let z8:=decide ((xE (x0.at' (toNat z6)).c0 (x0.at' (toNat z6)).c1 x1 x2)<0);(0≤af∧af≤ak∧ak≤(x0.n:Int))→((zc=true→(((0:Int)≤1∧(1:Int)≤64)∧((0:Int)≤z6∧z6<(x0.n:Int))))∧((zc=true→((z8=true→((0≤zb∧zb≤ak∧ak≤(x0.n:Int))∧(toNat (ak-zb))<zd))∧(z8=false→((0≤af∧af≤z6∧z6≤(x0.n:Int))∧(toNat (z6-af))<zd))))∧(zc=false→(0≤af∧af≤(x0.n:Int)))))))∧((0≤za∧za≤(x0.n:Int))→((decide (za<(x0.n:Int)))=true→((0:Int)≤za∧za<(x0.n:Int))))) (bU (aH ahl aQ)) Tryz.func220 (⟨⟨(by omega),(fun af ak dX=>⟨(fun h2=>⟨(by omega),(by have:=ay h2;have:=aq (af+ak);have:=oI (x:=(i64.wrap (af+ak))) (by omega) (by omega);have:=oq (u64.wrap (i64.wrap (af+ak)));have:=aq ((u64.wrap (i64.wrap (af+ak)))/2^(toNat 1));omega)⟩),⟨(fun h3=>⟨(fun h4=>(by have:=ay h3;have:=aq (af+ak);have:=oI (x:=(i64.wrap (af+ak))) (by omega) (by omega);have:=oq (u64.wrap (i64.wrap (af+ak)));have:=aq ((u64.wrap (i64.wrap (af+ak)))/2^(toNat 1));have:=aq ((i64.wrap ((u64.wrap (i64.wrap (af+ak)))/2^(toNat 1)))+1);omega)),(fun h5=>(by have:=ay h3;have:=aq (af+ak);have:=oI (x:=(i64.wrap (af+ak))) (by omega) (by omega);have:=oq (u64.wrap (i64.wrap (af+ak)));have:=aq ((u64.wrap (i64.wrap (af+ak)))/2^(toNat 1));omega))⟩),(fun h6=>(by omega))⟩⟩)⟩,(fun CV=>(fun h8=>(by have:=ay h8;omega)))⟩)
theorem aaX(x0:Sl bD)(x1:ag)(x2:Int): ∀k i j,vC x0 x1 x2 k i j=nI (fun m=>decide ((xE (x0.at' m).c0 (x0.at' m).c1 x1 x2)<0)) k i j
 |0,_,_=>rfl
 |k+1,i,j=>by simp only[vC,nI,aaX x0 x1 x2 k]
theorem apd(x0:Sl bD)(x1:ag)(x2:Int)(hn:x0.n≤549755813888):0≤BQ x0 x1 x2∧BQ x0 x1 x2≤(x0.n:Int):=by
 show 0≤vC x0 x1 x2 _ _ _∧vC x0 x1 x2 _ _ _≤_;rw[aaX];exact AS (by omega) _ _ _ (by omega) (by omega) (by omega)
def vB(x0:Sl ag)(x1:ag):Nat→Int→Int→Int
 |0,_,_=>default
 |k+1,af,ak=>(bif(decide (af<ak))then(bif(Lk (x0.at' (toNat (i64.wrap ((u64.wrap (i64.wrap (af+ak)))/2^(toNat 1))))) x1)then(vB x0 x1 k (i64.wrap ((i64.wrap ((u64.wrap (i64.wrap (af+ak)))/2^(toNat 1)))+1)) ak)else(vB x0 x1 k af (i64.wrap ((u64.wrap (i64.wrap (af+ak)))/2^(toNat 1)))))else af)
def BP(x0:Sl ag)(x1:ag):Int:=vB x0 x1 ((toNat ((x0.n:Int)-0))+1) 0 (x0.n:Int)
def afc(x0:Sl ag)(x1:ag):Bool:=(bif(decide ((BP x0 x1)<(x0.n:Int)))then(bif(((x0.at' (toNat (BP x0 x1))):ag).toList==(x1:ag).toList)then true else(bif(T7 (x0.at' (toNat (BP x0 x1))))then(T7 x1)else false))else false)
def q9(x0:Sl ag)(x1:ag):Int:=(BP x0 x1)
def xM(x0:Sl ag)(x1:ag):Bool:=(afc x0 x1)
def amr:Fq:=⟨[.v (.sl E9),.v kS],fun x0 x1=>⟨⟨none,.cU [ae (q9 x0 x1),.bool (xM x0 x1)]⟩⟩⟩
theorem avD:ba 217 amr:=bf Tryz.func217
 fun x0 n0 _ x1 n1=>bj ⟨.pure,[.tmp 4,.tmp 5],[(.t 0,kI),(.t 1,kB)],⟨[U,U],[]⟩⟩ (.ai (.ai (.ai (.j ⟨243,[],[],[],.f⟩ (.lp ⟨499,[],[],[(.t 7,kI),(.t 8,kI)],some 0,false,243,[],[(.t 7,kI)],fun k (s:Int×Int)=>vB x0 x1 k s.1 s.2,.f,fun(s:Int×Int)=>(0≤s.1∧s.1≤s.2∧s.2≤(x0.n:Int)),fun(s:Int×Int)=>(toNat (s.2-s.1)),some fun(r:Int)=>0≤r∧r≤(x0.n:Int)⟩ .z) (.j ⟨48,[],[(.t 5,kB)],[],.f⟩ .z .z))))) (let z8:=BP x0 x1;(((0≤(0:Int)∧(0:Int)≤(x0.n:Int)∧(x0.n:Int)≤(x0.n:Int)))∧(∀(af:Int) (ak:Int),let zd:=toNat (ak-af);let zb:=decide (af<ak);let z6:=i64.wrap ((u64.wrap (i64.wrap (af+ak)))/2^(toNat 1));let zc:=Lk (x0.at' (toNat z6)) x1;let za:=i64.wrap (z6+1);(0≤af∧af≤ak∧ak≤(x0.n:Int))→((zb=true→(((0:Int)≤1∧(1:Int)≤64)∧((0:Int)≤z6∧z6<(x0.n:Int))))∧((zb=true→((zc=true→((0≤za∧za≤ak∧ak≤(x0.n:Int))∧(toNat (ak-za))<zd))∧(zc=false→((0≤af∧af≤z6∧z6≤(x0.n:Int))∧(toNat (z6-af))<zd))))∧(zb=false→(0≤af∧af≤(x0.n:Int)))))))∧((0≤z8∧z8≤(x0.n:Int))→((decide (z8<(x0.n:Int)))=true→(((0:Int)≤z8∧z8<(x0.n:Int))∧((((x0.at' (toNat z8)):ag).toList==(x1:ag).toList)=false→((0:Int)≤z8∧z8<(x0.n:Int))))))) (bU (aH avI (aH avJ aQ))) Tryz.func217 (⟨⟨(by omega),(fun af ak dX=>⟨(fun h2=>⟨(by omega),(by have:=ay h2;have:=aq (af+ak);have:=oI (x:=(i64.wrap (af+ak))) (by omega) (by omega);have:=oq (u64.wrap (i64.wrap (af+ak)));have:=aq ((u64.wrap (i64.wrap (af+ak)))/2^(toNat 1));omega)⟩),⟨(fun h3=>⟨(fun h4=>(by have:=ay h3;have:=aq (af+ak);have:=oI (x:=(i64.wrap (af+ak))) (by omega) (by omega);have:=oq (u64.wrap (i64.wrap (af+ak)));have:=aq ((u64.wrap (i64.wrap (af+ak)))/2^(toNat 1));have:=aq ((i64.wrap ((u64.wrap (i64.wrap (af+ak)))/2^(toNat 1)))+1);omega)),(fun h5=>(by have:=ay h3;have:=aq (af+ak);have:=oI (x:=(i64.wrap (af+ak))) (by omega) (by omega);have:=oq (u64.wrap (i64.wrap (af+ak)));have:=aq ((u64.wrap (i64.wrap (af+ak)))/2^(toNat 1));omega))⟩),(fun h6=>(by omega))⟩⟩)⟩,(fun CV=>(fun h8=>⟨(by have:=ay h8;omega),(fun h9=>(by have:=ay h8;omega))⟩))⟩)
theorem aaW(x0:Sl ag)(x1:ag): ∀k i j,vB x0 x1 k i j=nI (fun m=>(Lk (x0.at' m) x1)) k i j
 |0,_,_=>rfl
 |k+1,i,j=>by simp only[vB,nI,aaW x0 x1 k]
theorem f233(x0:Sl ag)(x1:ag)(hn:x0.n≤549755813888):0≤q9 x0 x1∧q9 x0 x1≤(x0.n:Int):=by
 show 0≤vB x0 x1 _ _ _∧vB x0 x1 _ _ _≤_;rw[aaW];exact AS (by omega) _ _ _ (by omega) (by omega) (by omega)
theorem t233(x0:Sl ag)(x1:ag)(h:xM x0 x1=true):q9 x0 x1<(x0.n:Int):=by
 unfold xM afc at h
 cases e:decide (BP x0 x1<(x0.n:Int))with
 |true=>exact ay e
 |false=>rw[e]at h;cases h
end
section
variable(x0:Int)(x2:ag)(x3:ag)(au:Sl bD)(x8:Sl bk)(x9:Sl ag)
def BH:Int:=x0
def BI(x1:ag):ag:=x1
def mA(x2:Int):Int:=x2
def alI:Hq:=⟨[.g [kI,kS,kI,.sl cN,.sl E9,.sl cH]],[],[],fun x0 x1 x2 x3 x4 x5=>⟨⟨none,[.agg [ae (BH x0),.str (BI x1),ae (mA x2),.own 0 (x3).n,.own 1 (x4).n,.own 2 (x5).n]],[[(Kd.ah cN).av x3],[(Kd.ah E9).av x4],[(Kd.ah cH).av x5]]⟩⟩⟩
theorem au2:dz 188 alI:=dE Tryz.func188
 fun(x0:Int) x1 _ (x2:Int) x3 _ x4 _ x5 _=>dy ⟨.ma false [.b 0,.b 1] [.own (.c 0 3) cN 0,.own (.c 0 4) E9 1,.own (.c 0 5) cH 2],[.cell 2 125],[(.c 0 0,kI),(.c 0 1,kS),(.c 0 2,kI),(.h 0 0,.ah cN),(.h 1 0,.ah E9),(.h 2 0,.ah cH)],⟨[.agg [U,U,U,.own 0 0,.own 1 0,.own 2 0]],[[U],[U],[U]]⟩⟩ (.z) True (bU (aH WO (aH DC (aH WQ aQ)))) Tryz.func188 (trivial)
def m6:Bool:=(bif(x0==4)then(vz x8 x2)else false)
def pL:Bool:=(bif(x0==4)then((x8.n:Int)==20)else false)
def vw:Bool:=(bif(x0==5)then(!(vz x8 x2))else false)
def aqI:Sl bk:=(bif(vz x8 x2)then(Sl.del x8 (toNat (oW x8 x2)) (toNat (i64.wrap ((oW x8 x2)+1))))else x8)
def Ga:Bool:=(bif(m6 x0 x2 x8)then false else(bif(pL x0 x8)then false else(bif(x0==4)then false else(bif(vw x0 x2 x8)then false else(bif(x0==5)then false else true)))))
def aeL:Int:=(bif(Ga x0 x2 x8)then oT else(bif(m6 x0 x2 x8)then oT else(bif(pL x0 x8)then(qZ 6)else(bif(x0==4)then oT else(bif(vw x0 x2 x8)then(qZ 5)else 0)))))
def aeM:ag:=(bif(Ga x0 x2 x8)then oU else(bif(m6 x0 x2 x8)then oU else(bif(pL x0 x8)then tz else(bif(x0==4)then oU else(bif(vw x0 x2 x8)then tz else(x8.at' (toNat (oW x8 x2))).c1)))))
def aeN:Int:=(bif(Ga x0 x2 x8)then(m5 (Gf (vz x8 x2)))else(bif(m6 x0 x2 x8)then(m5 0)else(bif(pL x0 x8)then tC else(bif(x0==4)then(m5 1)else(bif(vw x0 x2 x8)then tC else 0)))))
def aeO:Sl ag:=(bif(Ga x0 x2 x8)then oV else(bif(m6 x0 x2 x8)then oV else(bif(pL x0 x8)then tD else(bif(x0==4)then oV else(bif(vw x0 x2 x8)then tD else(al:Sl ag))))))
def aeP:Sl bk:=let z6:=toNat (oW x8 x2);(bif(Ga x0 x2 x8)then(aqI x2 x8)else(bif(m6 x0 x2 x8)then(Sl.cp x8 z6 (⟨(x8.at' z6).c0,x3⟩:bk))else(bif(pL x0 x8)then x8 else(bif(x0==4)then(Sl.ins x8 z6 (⟨x2,x3⟩:bk))else x8))))
theorem ah6(x0:Int)(x2:ag)(x8:Sl bk)(h:m6 x0 x2 x8=true):oW x8 x2<(x8.n:Int):=by
 unfold m6 at h
 cases e:(x0==4)with
 |true=>rw[e]at h;exact Zi _ _ h
 |false=>rw[e]at h;cases h
theorem Xz(x0:Int)(x2:ag)(x8:Sl bk)(h:vw x0 x2 x8=false):x0=5→oW x8 x2<(x8.n:Int):=by
 intro h5;unfold vw at h;rw[show(x0==5)=true from aDG.2 h5]at h;exact Zi _ _ (by simpa using h)
def amf:Hq:=⟨[.p 0,.g [kI,kS,kS,kS,kI]],[(.h 0 0,kI),(.h 0 1,kS),(.h 0 2,kI),(.h 1 0,.ah cN),(.h 2 0,.ah E9),(.h 3 0,.ah cH)],[[U,U,U,.own 1 0,.own 2 0,.own 3 0],[U],[U],[U]],fun(x0:Int) _ x2 x3 _ (x5:Int) x6 (x7:Int) x8 x9 au=>⟨⟨some (x8.n≤1000000),[.agg [ae (aeL x0 x2 x8),.str (aeM x0 x2 x8),ae (aeN x0 x2 x8),aL 1 e9 (aeO x0 x2 x8)]],[[ae x5,.str x6,ae x7,aL 2 fM (aeP x0 x2 x3 x8),aL 1 e9 x9,aL 2 fN au],[dh],[dh],[dh]]⟩⟩⟩
theorem avt:dz 204 amf:=dE Tryz.func204
 fun(x0:Int) x1 n1 x2 n2 x3 n3 (x4:Int) (x5:Int) x6 n6 (x7:Int) x8 n8 x9 n9 au oC hp=>dy (ms:=[.f,.f,.f,.f,.l,.l,.l,(.b .f (.b .f (.b .f (.b .f .l)))),.l,.l]) ⟨.ma true [] [.lY (.h 0 3) cN,.kill 1,.lY (.h 0 4) E9,.kill 2,.lY (.h 0 5) cH,.kill 3],[.cell 4 99],[(.c 0 0,kI),(.c 0 1,kS),(.c 0 2,kI),(.c 0 3,.sl E9),(.h 0 0,kI),(.h 0 1,kS),(.h 0 2,kI),(.h 0 3,.sl cN),(.h 0 4,.sl E9),(.h 0 5,.sl cH)],⟨[.agg [U,U,U,U]],[[U,U,U,U,U,U],[dh],[dh],[dh]]⟩⟩ (.ai (.ai (.jc ⟨80,[.b 4],[(.h 8 0,.ah cN)],[],(.b .f (.b .f (.b .f (.b .f (.b .f .l)))))⟩ [.own (.h 0 3) cN 8] (.j ⟨262265,[],[(.t 18,kB)],[],.f⟩ .z (.ai (.j ⟨34359738489,[],[(.t 35,kB)],[],.f⟩ .z (.ai (.ai (.ai (.j ⟨295147905179352825977,[],[(.t 68,kB)],[],.f⟩ .z .z))))))) .z))) (let z6:=oW x8 x2;let z8:=i64.wrap (z6+1);((m6 x0 x2 x8)=true→(((0:Int)≤z6∧z6<(x8.n:Int))∧((toNat z6)<x8.n)))∧((m6 x0 x2 x8)=false→((pL x0 x8)=false→(((x0==4)=true→((0:Int)≤z6∧(z6:Int)≤(x8.n:Int)∧x8.n+1≤549755813888∧1=1))∧((x0==4)=false→((vw x0 x2 x8)=false→(((x0==5)=true→(((0:Int)≤z6∧z6<(x8.n:Int))∧((toNat z6)<x8.n)))∧((x0==5)=false→((vz x8 x2)=true→((0:Int)≤z6∧(z6:Int)<z8∧(z8:Int)≤(x8.n:Int))))))))))) (bB 4 (aH DB (aH Ix (aH avA (aH WR aQ)))) (az avB (az avC bA))) Tryz.func204 (⟨(fun h1=>⟨(by have:=ah6 _ _ _ h1;have:=Bc x8 x2 (by omega);omega),(by have:=ah6 _ _ _ h1;have:=Bc x8 x2 (by omega);omega)⟩),(fun h2=>(fun h3=>⟨(fun h4=>(by have:=h2;simp [m6]at this;have:=h3;simp [pL]at this;have:=eq_of_beq h4;have:=Bc x8 x2 (by omega);omega)),(fun h5=>(fun h6=>⟨(fun h7=>⟨(by have:=h2;simp [m6]at this;have:=h3;simp [pL]at this;have:=cM h5;have:=Xz _ _ _ h6;have:=eq_of_beq h7;have:=Bc x8 x2 (by omega);omega),(by have:=h2;simp [m6]at this;have:=h3;simp [pL]at this;have:=cM h5;have:=Xz _ _ _ h6;have:=eq_of_beq h7;have:=Bc x8 x2 (by omega);omega)⟩),(fun h8=>(fun h9=>(by have:=h2;simp [m6]at this;have:=h3;simp [pL]at this;have:=cM h5;have:=Xz _ _ _ h6;have:=cM h8;have:=Zi _ _ h9;have:=Bc x8 x2 (by omega);first|omega|(have:=aq ((oW x8 x2)+1);omega))))⟩))⟩))⟩)
def oe:Bool:=(bif(decide (x0≤8))then((x9.n:Int)==20)else false)
def aqJ:Sl ag:=(bif(x0==9)then(Sl.part x9 0 (i64.wrap ((x9.n:Int)-1)))else(Sl.part x9 1 (x9.n:Int)))
def aqK:ag:=(bif(x0==9)then(x9.at' (toNat (i64.wrap ((x9.n:Int)-1))))else(x9.at' (toNat 0)))
def Gb:Bool:=(bif(oe x0 x9)then false else(bif(x0==7)then false else(bif(x0==8)then false else true)))
def aeQ:Int:=(bif(Gb x0 x9)then 0 else(bif(oe x0 x9)then(qZ 6)else oT))
def aeR:ag:=(bif(Gb x0 x9)then(aqK x0 x9)else(bif(oe x0 x9)then tz else oU))
def aeS:Int:=(bif(Gb x0 x9)then 0 else(bif(oe x0 x9)then tC else(m5 (i64.wrap ((x9.n:Int)+1)))))
def aeT:Sl ag:=(bif(Gb x0 x9)then(al:Sl ag)else(bif(oe x0 x9)then tD else oV))
def aeU:Sl ag:=(bif(Gb x0 x9)then(aqJ x0 x9)else(bif(oe x0 x9)then x9 else(bif(x0==7)then(Sl.app x9 (Sl.lit ([x3]:List ag)))else(Sl.ins x9 (toNat 0) x3))))
def amg:Hq:=⟨[.p 0,.g [kI,kS,kS,kS,kI]],[(.h 0 0,kI),(.h 0 1,kS),(.h 0 2,kI),(.h 1 0,.ah cN),(.h 2 0,.ah E9),(.h 3 0,.ah cH)],[[U,U,U,.own 1 0,.own 2 0,.own 3 0],[U],[U],[U]],fun(x0:Int) _ _ x3 _ (x5:Int) x6 (x7:Int) x8 x9 au=>⟨⟨some (x9.n≤1000000∧((7≤x0∧x0≤8)∨1≤x9.n)),[.agg [ae (aeQ x0 x9),.str (aeR x0 x9),ae (aeS x0 x9),aL 1 e9 (aeT x0 x9)]],[[ae x5,.str x6,ae x7,aL 2 fM x8,aL 1 e9 (aeU x0 x3 x9),aL 2 fN au],[dh],[dh],[dh]]⟩⟩⟩
theorem avu:dz 205 amg:=dE Tryz.func205
 fun(x0:Int) x1 n1 x2 n2 x3 n3 (x4:Int) (x5:Int) x6 n6 (x7:Int) x8 n8 x9 n9 au oC hp=>dy (ms:=[(.b .f (.b .f .l)),(.b .f (.b .f .l)),(.b .f (.b .f .l)),(.b .f (.b .f .l)),.l,.l,.l,.l,.f,.l]) ⟨.ma true [] [.lY (.h 0 3) cN,.kill 1,.lY (.h 0 4) E9,.kill 2,.lY (.h 0 5) cH,.kill 3],[.cell 4 99],[(.c 0 0,kI),(.c 0 1,kS),(.c 0 2,kI),(.c 0 3,.sl E9),(.h 0 0,kI),(.h 0 1,kS),(.h 0 2,kI),(.h 0 3,.sl cN),(.h 0 4,.sl E9),(.h 0 5,.sl cH)],⟨[.agg [U,U,U,U]],[[U,U,U,U,U,U],[dh],[dh],[dh]]⟩⟩ (.ai (.ai (.ai (.j ⟨80,[.b 4],[(.h 0 4,.sl E9),(.t 6,kS)],[],(.b .f (.b .f (.b .f .l)))⟩ (.j ⟨67108985,[],[(.t 26,kB)],[],.f⟩ .z (.ai (.ai (.ai (.ai (.ai (.ai (.s (.cv [(.h 0 4,E9)]) (.cv [(.h 0 4,E9)]))))))))) .z)))) (let z6:=i64.wrap ((x9.n:Int)-1);(oe x0 x9)=false→(((x0==7)=true→(x9.n+1≤549755813888))∧((x0==7)=false→(((x0==8)=true→((0:Int)≤0∧(0:Int)≤(x9.n:Int)∧x9.n+1≤549755813888∧1=1))∧((x0==8)=false→(((x0==9)=true→(((0:Int)≤z6∧z6<(x9.n:Int))∧(((0:Int)≤0)∧((0:Int)≤z6)∧((z6:Int)≤z6)∧((z6:Int)≤(x9.n:Int)))))∧((x0==9)=false→(((0:Int)≤0∧0<(x9.n:Int))∧(((0:Int)≤1)∧((1:Int)≤(x9.n:Int))∧(((x9.n:Int):Int)≤(x9.n:Int))∧(((x9.n:Int):Int)≤(x9.n:Int))))))))))) (bB 4 (aH DB (aH Ix aQ)) (az ahw bA)) Tryz.func205 (have⟨cn,dv⟩:=hp;(fun h1=>⟨(fun h2=>(by have:=h1;simp [oe]at this;have:=eq_of_beq h2;omega)),(fun h3=>⟨(fun h4=>(by have:=h1;simp [oe]at this;have:=cM h3;have:=eq_of_beq h4;omega)),(fun h5=>⟨(fun h6=>⟨(by have:=h1;simp [oe]at this;have:=cM h3;have:=cM h5;have:=eq_of_beq h6;first|omega|(have:=aq ((x9.n:Int)-1);omega)),(by have:=h1;simp [oe]at this;have:=cM h3;have:=cM h5;have:=eq_of_beq h6;first|omega|(have:=aq ((x9.n:Int)-1);omega))⟩),(fun h7=>⟨(by have:=h1;simp [oe]at this;have:=cM h3;have:=cM h5;have:=cM h7;omega),(by have:=h1;simp [oe]at this;have:=cM h3;have:=cM h5;have:=cM h7;omega)⟩)⟩)⟩)⟩))
def tF:Bool:=(bif(x0==11)then(bif(!(xM x9 x3))then((x9.n:Int)==20)else false)else false)
def xL:Bool:=(bif(x0==11)then(!(xM x9 x3))else false)
def K_:Bool:=(bif(x0==12)then(xM x9 x3)else false)
def aqL:Sl ag:=(bif(K_ x0 x3 x9)then(Sl.del x9 (toNat (q9 x9 x3)) (toNat (i64.wrap ((q9 x9 x3)+1))))else x9)
def Gc:Bool:=(bif(tF x0 x3 x9)then false else(bif(xL x0 x3 x9)then false else(bif(x0==11)then false else true)))
def aeV:Int:=(bif(Gc x0 x3 x9)then oT else(bif(tF x0 x3 x9)then(qZ 6)else oT))
def aeW:ag:=(bif(Gc x0 x3 x9)then oU else(bif(tF x0 x3 x9)then tz else oU))
def aeX:Int:=(bif(Gc x0 x3 x9)then(m5 (Gf (xM x9 x3)))else(bif(tF x0 x3 x9)then tC else(bif(xL x0 x3 x9)then(m5 1)else(m5 0))))
def aeY:Sl ag:=(bif(Gc x0 x3 x9)then oV else(bif(tF x0 x3 x9)then tD else oV))
def aeZ:Sl ag:=(bif(Gc x0 x3 x9)then(aqL x0 x3 x9)else(bif(tF x0 x3 x9)then x9 else(bif(xL x0 x3 x9)then(Sl.ins x9 (toNat (q9 x9 x3)) x3)else x9)))
theorem axE(x0:Int)(x3:ag)(x9:Sl ag)(h:K_ x0 x3 x9=true):q9 x9 x3<(x9.n:Int):=by
 unfold K_ at h
 cases e:(x0==12)with
 |true=>rw[e]at h;exact t233 _ _ h
 |false=>rw[e]at h;cases h
def amh:Hq:=⟨[.p 0,.g [kI,kS,kS,kS,kI]],[(.h 0 0,kI),(.h 0 1,kS),(.h 0 2,kI),(.h 1 0,.ah cN),(.h 2 0,.ah E9),(.h 3 0,.ah cH)],[[U,U,U,.own 1 0,.own 2 0,.own 3 0],[U],[U],[U]],fun(x0:Int) _ _ x3 _ (x5:Int) x6 (x7:Int) x8 x9 au=>⟨⟨some (x9.n≤1000000),[.agg [ae (aeV x0 x3 x9),.str (aeW x0 x3 x9),ae (aeX x0 x3 x9),aL 1 e9 (aeY x0 x3 x9)]],[[ae x5,.str x6,ae x7,aL 2 fM x8,aL 1 e9 (aeZ x0 x3 x9),aL 2 fN au],[dh],[dh],[dh]]⟩⟩⟩
theorem avv:dz 206 amh:=dE Tryz.func206
 fun(x0:Int) x1 n1 x2 n2 x3 n3 (x4:Int) (x5:Int) x6 n6 (x7:Int) x8 n8 x9 n9 au oC hp=>dy (ms:=[(.b .f (.b .f .l)),(.b .f (.b .f .l)),.f,(.b .f (.b .f .l)),.l,.l,.l,.l,.f,.l]) ⟨.ma true [] [.lY (.h 0 3) cN,.kill 1,.lY (.h 0 4) E9,.kill 2,.lY (.h 0 5) cH,.kill 3],[.cell 4 99],[(.c 0 0,kI),(.c 0 1,kS),(.c 0 2,kI),(.c 0 3,.sl E9),(.h 0 0,kI),(.h 0 1,kS),(.h 0 2,kI),(.h 0 3,.sl cN),(.h 0 4,.sl E9),(.h 0 5,.sl cH)],⟨[.agg [U,U,U,U]],[[U,U,U,U,U,U],[dh],[dh],[dh]]⟩⟩ (.ai (.ai (.jc ⟨80,[],[(.h 8 0,.ah E9)],[],(.b .f (.b .f (.b .f .l)))⟩ [.own (.h 0 4) E9 8] (.j ⟨131193,[],[(.t 17,kB)],[],.f⟩ .z (.ai (.j ⟨17179869305,[],[(.t 34,kB)],[],.f⟩ .z (.ai (.ai (.ai (.j ⟨1152921504606847089,[.b 4],[(.t 60,kB)],[],.f⟩ .z .z))))))) .z))) (let z6:=q9 x9 x3;let z8:=i64.wrap (z6+1);(tF x0 x3 x9)=false→(((xL x0 x3 x9)=true→((0:Int)≤z6∧(z6:Int)≤(x9.n:Int)∧x9.n+1≤549755813888∧1=1))∧((xL x0 x3 x9)=false→((x0==11)=false→((K_ x0 x3 x9)=true→((0:Int)≤z6∧(z6:Int)<z8∧(z8:Int)≤(x9.n:Int))))))) (bB 4 (aH DB (aH Ix (aH WR (aH avD aQ)))) (az ahw (az avE bA))) Tryz.func206 ((fun h1=>⟨(fun h2=>(by have:=h1;simp [tF]at this;have:=h2;(try simp [xL]at this);have:=f233 x9 x3 (by omega);omega)),(fun h3=>(fun h4=>(fun h5=>(by have:=h1;simp [tF]at this;have:=h3;simp [xL]at this;have:=cM h4;have:=axE _ _ _ h5;have:=f233 x9 x3 (by omega);first|omega|(have:=aq ((q9 x9 x3)+1);omega)))))⟩))
def vx:Bool:=(bif(x0==16)then(decide ((l4 au x3)<0))else false)
def vy:Bool:=(bif(x0==14)then(bif(decide ((l4 au x3)<0))then((au.n:Int)==20)else false)else false)
def Gd:Sl bD:=(bif(decide ((l4 au x3)≥0))then(Sl.del au (toNat (l4 au x3)) (toNat (i64.wrap ((l4 au x3)+1))))else au)
def ae0:Int:=(bif(vx x0 x3 au)then(qZ 5)else(bif(x0==16)then oT else(bif(vy x0 x3 au)then(qZ 6)else oT)))
def ae1:ag:=(bif(vx x0 x3 au)then tz else(bif(x0==16)then oU else(bif(vy x0 x3 au)then tz else oU)))
def ae2:Int:=(bif(vx x0 x3 au)then tC else(bif(x0==16)then(m5 (l4 au x3))else(bif(vy x0 x3 au)then tC else(bif(x0==15)then(m5 (Gf (decide ((l4 au x3)≥0))))else(m5 (Gf (decide ((l4 au x3)<0))))))))
def ae3:Sl ag:=(bif(vx x0 x3 au)then tD else(bif(x0==16)then oV else(bif(vy x0 x3 au)then tD else oV)))
def ae4(x4:Int)(au:Sl bD):Sl bD:=let z6:=Gd x3 au;(bif(vx x0 x3 au)then au else(bif(x0==16)then au else(bif(vy x0 x3 au)then au else(bif(x0==15)then z6 else(Sl.ins z6 (toNat (BQ z6 x3 x4)) (⟨x3,x4⟩:bD))))))
theorem f144(x0:Sl bD)(x1:ag)(hn:x0.n≤549755813888): -1≤l4 x0 x1∧l4 x0 x1<(x0.n:Int):=by
 have e:TX x0 x1=scan (fun i=>F7 (x0.at' (toNat i)).c0 x1) (fun i=>i) x0.n 0:=qA (fun k i=>KT x0 x1 k i) x0.n _ _ hn fun _ _=>rfl;unfold l4 TW aeg;rw[e]
 cases h:(scan (fun i=>F7 (x0.at' (toNat i)).c0 x1) (fun i=>i) x0.n 0).1 with
 |true=>
  obtain⟨j,h1,h2,_,h4⟩:=Pf _ _ h;show-1≤(scan _ _ _ _).2∧(scan _ _ _ _).2<_;rw[h4];omega
 |false=>show-1≤(-1:Int)∧(-1:Int)<_;omega
theorem apc(x3:ag)(au:Sl bD)(hn:au.n≤549755813888):((Gd x3 au).n:Int)≤(au.n:Int):=by
 unfold Gd
 cases decide (l4 au x3≥0)
 ·exact aCT _
 ·show(((Sl.del au _ _).n:Nat):Int)≤_;unfold Sl.del;simp only[];omega
def ami:Hq:=⟨[.p 0,.g [kI,kS,kS,kS,kI]],[(.h 0 0,kI),(.h 0 1,kS),(.h 0 2,kI),(.h 1 0,.ah cN),(.h 2 0,.ah E9),(.h 3 0,.ah cH)],[[U,U,U,.own 1 0,.own 2 0,.own 3 0],[U],[U],[U]],fun(x0:Int) _ _ x3 (x4:Int) (x5:Int) x6 (x7:Int) x8 x9 au=>⟨⟨some (au.n≤1000000),[.agg [ae (ae0 x0 x3 au),.str (ae1 x0 x3 au),ae (ae2 x0 x3 au),aL 1 e9 (ae3 x0 x3 au)]],[[ae x5,.str x6,ae x7,aL 2 fM x8,aL 1 e9 x9,aL 2 fN (ae4 x0 x3 x4 au)],[dh],[dh],[dh]]⟩⟩⟩
theorem avw:dz 207 ami:=dE Tryz.func207
 fun(x0:Int) x1 n1 x2 n2 x3 n3 (x4:Int) (x5:Int) x6 n6 (x7:Int) x8 n8 x9 n9 au oC hp=>dy (ms:=[(.b .f (.b .f (.b .f .l))),(.b .f (.b .f (.b .f .l))),.f,(.b .f (.b .f (.b .f .l))),.l,.l,.l,.l,.l,.f]) ⟨.ma true [] [.lY (.h 0 3) cN,.kill 1,.lY (.h 0 4) E9,.kill 2,.lY (.h 0 5) cH,.kill 3],[.cell 4 99],[(.c 0 0,kI),(.c 0 1,kS),(.c 0 2,kI),(.c 0 3,.sl E9),(.h 0 0,kI),(.h 0 1,kS),(.h 0 2,kI),(.h 0 3,.sl cN),(.h 0 4,.sl E9),(.h 0 5,.sl cH)],⟨[.agg [U,U,U,U]],[[U,U,U,U,U,U],[dh],[dh],[dh]]⟩⟩ (.ai (.ai (.s (.j ⟨65593,[],[(.t 16,kB)],[],.f⟩ .z (.ai (.ai (.ai (.j ⟨2147483705,[],[(.t 31,kB)],[],.f⟩ .z .z))))) (.jc ⟨57,[],[(.h 8 0,.ah cH)],[],.f⟩ [.own (.h 0 5) cH 8] .z .z)))) (let z8:=Gd x3 au;let z6:=l4 au x3;let za:=i64.wrap (z6+1);(vx x0 x3 au)=false→((x0==16)=false→((vy x0 x3 au)=false→(((decide (z6≥0))=true→((0:Int)≤z6∧(z6:Int)<za∧(za:Int)≤(au.n:Int)))∧((x0==15)=false→((0:Int)≤(BQ z8 x3 x4)∧((BQ z8 x3 x4):Int)≤(z8.n:Int)∧z8.n+1≤549755813888∧1=1)))))) (bB 4 (aH ahm (aH DB (aH Ix (aH WR (aH avG aQ))))) (az avF (az avH bA))) Tryz.func207 ((fun h1=>(fun h2=>(fun h3=>⟨(fun h4=>(by have:=h1;simp [vx]at this;have:=cM h2;have:=h3;simp [vy]at this;have:=ay h4;have:=f144 au x3 (by omega);first|omega|(have:=aq ((l4 au x3)+1);omega))),(fun h5=>(by have:=h1;simp [vx]at this;have:=cM h2;have:=h3;simp [vy]at this;have:=cM h5;have:=apc x3 au (by omega);have:=apd (Gd x3 au) x3 x4 (by omega);omega))⟩))))
end
section
def FL(x0:ag)(x8:ag):Int:=(BB x0 x8)
def akR:Fq:=⟨[.g [kS,kI,kS,kI,.sl cN,.sl E9,.sl cH,kI],.v kS],fun x0 _ _ _ _ _ _ _ x8=>⟨⟨none,ae (FL x0 x8)⟩⟩⟩
theorem auA:ba 186 akR:=bf Tryz.func186
 fun x0 _ (x1:Int) x2 _ (x3:Int) x4 _ _ x5 _ _ x6 _ _ (x7:Int) x8 _=>bj ⟨.pure,[.tmp 4],[(.t 0,kI)],⟨[U],[]⟩⟩ (.z) True (bU (aH N6 aQ)) Tryz.func186 (trivial)
def vq(x0:Sl ar)(x1:ag):Nat→Int→Int→Int
 |0,_,_=>default
 |k+1,af,ak=>(bif(decide (af<ak))then(bif(decide ((FL (x0.at' (toNat (i64.wrap ((u64.wrap (i64.wrap (af+ak)))/2^(toNat 1))))).c0 x1)<0))then(vq x0 x1 k (i64.wrap ((i64.wrap ((u64.wrap (i64.wrap (af+ak)))/2^(toNat 1)))+1)) ak)else(vq x0 x1 k af (i64.wrap ((u64.wrap (i64.wrap (af+ak)))/2^(toNat 1)))))else af)
variable(x0:Sl ar)(x1:ag)
def FK:Int:=vq x0 x1 ((toNat ((x0.n:Int)-0))+1) 0 (x0.n:Int)
def adw:Bool:=(bif(decide ((FK x0 x1)<(x0.n:Int)))then((FL (x0.at' (toNat (FK x0 x1))).c0 x1)==0)else false)
def Bz:Int:=(FK x0 x1)
def FJ:Bool:=(adw x0 x1)
def akQ:Fq:=⟨[.v (.sl aZ),.v kS,.fn 186 []],fun x0 x1=>⟨⟨none,.cU [ae (Bz x0 x1),.bool (FJ x0 x1)]⟩⟩⟩
theorem auz:ba 185 akQ:=bf Tryz.func185
 fun x0 n0 _ x1 n1=>bj ⟨.pure,[.tmp 6,.tmp 7],[(.t 0,kI),(.t 1,kB)],⟨[U,U],[]⟩⟩ (.ai (.ai (.ai (.j ⟨967,[],[],[],.f⟩ (.lp ⟨1991,[],[],[(.t 9,kI),(.t 10,kI)],some 0,false,967,[],[(.t 9,kI)],fun k (s:Int×Int)=>vq x0 x1 k s.1 s.2,.f,fun(s:Int×Int)=>(0≤s.1∧s.1≤s.2∧s.2≤(x0.n:Int)),fun(s:Int×Int)=>(toNat (s.2-s.1)),some fun(r:Int)=>0≤r∧r≤(x0.n:Int)⟩ .z) (.j ⟨192,[],[(.t 7,kB)],[],.f⟩ .z .z))))) (let z8:=FK x0 x1;(((0≤(0:Int)∧(0:Int)≤(x0.n:Int)∧(x0.n:Int)≤(x0.n:Int)))∧(∀(af:Int) (ak:Int),let zd:=toNat (ak-af);let zc:=decide (af<ak);let z6:=i64.wrap ((u64.wrap (i64.wrap (af+ak)))/2^(toNat 1));let zb:=i64.wrap (z6+1);let za:=decide ((FL (x0.at' (toNat z6)).c0 x1)<0);(0≤af∧af≤ak∧ak≤(x0.n:Int))→((zc=true→(((0:Int)≤1∧(1:Int)≤64)∧((0:Int)≤z6∧z6<(x0.n:Int))))∧((zc=true→((za=true→((0≤zb∧zb≤ak∧ak≤(x0.n:Int))∧(toNat (ak-zb))<zd))∧(za=false→((0≤af∧af≤z6∧z6≤(x0.n:Int))∧(toNat (z6-af))<zd))))∧(zc=false→(0≤af∧af≤(x0.n:Int)))))))∧((0≤z8∧z8≤(x0.n:Int))→((decide (z8<(x0.n:Int)))=true→((0:Int)≤z8∧z8<(x0.n:Int))))) (bU (aH auA aQ)) Tryz.func185 (⟨⟨(by omega),(fun af ak dX=>⟨(fun h2=>⟨(by omega),(by have:=ay h2;have:=aq (af+ak);have:=oI (x:=(i64.wrap (af+ak))) (by omega) (by omega);have:=oq (u64.wrap (i64.wrap (af+ak)));have:=aq ((u64.wrap (i64.wrap (af+ak)))/2^(toNat 1));omega)⟩),⟨(fun h3=>⟨(fun h4=>(by have:=ay h3;have:=aq (af+ak);have:=oI (x:=(i64.wrap (af+ak))) (by omega) (by omega);have:=oq (u64.wrap (i64.wrap (af+ak)));have:=aq ((u64.wrap (i64.wrap (af+ak)))/2^(toNat 1));have:=aq ((i64.wrap ((u64.wrap (i64.wrap (af+ak)))/2^(toNat 1)))+1);omega)),(fun h5=>(by have:=ay h3;have:=aq (af+ak);have:=oI (x:=(i64.wrap (af+ak))) (by omega) (by omega);have:=oq (u64.wrap (i64.wrap (af+ak)));have:=aq ((u64.wrap (i64.wrap (af+ak)))/2^(toNat 1));omega))⟩),(fun h6=>(by omega))⟩⟩)⟩,(fun CV=>(fun h8=>(by have:=ay h8;omega)))⟩)
theorem aaU(x0:Sl ar)(x1:ag): ∀k i j,vq x0 x1 k i j=nI (fun m=>decide ((FL (x0.at' m).c0 x1)<0)) k i j
 |0,_,_=>rfl
 |k+1,i,j=>by simp only[vq,nI,aaU x0 x1 k]
theorem abR(x0:Sl ar)(x1:ag)(hn:x0.n≤549755813888):0≤Bz x0 x1∧Bz x0 x1≤(x0.n:Int):=by
 show 0≤vq x0 x1 _ _ _∧vq x0 x1 _ _ _≤_;rw[aaU];exact AS (by omega) _ _ _ (by omega) (by omega) (by omega)
theorem ajQ(x0:Sl ar)(x1:ag)(h:FJ x0 x1=true):Bz x0 x1<(x0.n:Int):=by
 unfold FJ adw at h
 cases e:decide (FK x0 x1<(x0.n:Int))with
 |true=>exact ay e
 |false=>rw[e]at h;cases h
def TH(b:Bool)(i:Int)(n:Nat):Prop:=(0≤i∧i≤(n:Int))∧(b=true→i<(n:Int))
theorem aA1{b:Bool}{i:Int}{n:Nat}(h:TH b i n):0≤i∧i≤(n:Int):=h.1
theorem Zk{b:Bool}{i:Int}{n:Nat}(h:TH b i n)(hb:(!b)=false):0≤i∧i<(n:Int):=⟨h.1.1,h.2 (by simpa using hb)⟩
theorem aA0(x0:Sl ar)(x1:ag)(hn:x0.n≤549755813888):TH (FJ x0 x1) (Bz x0 x1) x0.n:=⟨abR x0 x1 hn,ajQ x0 x1⟩
def SS(s:Sl ar):Prop:=s.n≤1000000∧ ∀i,i<s.n→(s.at' i).c4.n≤1048576∧(s.at' i).c5.n≤1048576∧(s.at' i).c6.n≤1048576
end
section
def iT(x0:ag)(x4:Sl ar):Int:=(Bz x4 x0)
def iC(x0:ag)(x4:Sl ar):Bool:=(FJ x4 x0)
def akI:Hq:=⟨[.p 0,.v kS],[(.h 0 0,kI),(.h 0 2,kI),(.h 0 3,kB),(.h 1 0,.ah aZ)],[[U,.own 1 0,U,U],[U]],fun x0 x1 _ _ x4=>⟨⟨none,[],[[ae x1,.own 1 (x4).n,ae (iT x0 x4),.bool (iC x0 x4)],[(Kd.ah aZ).av x4]]⟩⟩⟩
theorem aur:dz 163 akI:=dE Tryz.func163
 fun x0 _ (x1:Int) (x2:Int) x3 x4 _=>dy ⟨.heap,[],[(.h 0 0,kI),(.h 0 2,kI),(.h 0 3,kB),(.h 1 0,.ah aZ)],⟨[],[[U,.own 1 0,U,U],[U]]⟩⟩ (.z) True (bB 2 (aH auz aQ) bA) Tryz.func163 (trivial)
theorem xq(x1:ag)(x8:Sl ar)(hn:x8.n≤549755813888):0≤iT x1 x8∧iT x1 x8≤(x8.n:Int):=abR x8 x1 hn
theorem Aw(x1:ag)(x8:Sl ar)(h:iC x1 x8=true):iT x1 x8<(x8.n:Int):=ajQ x8 x1 h
theorem aA5(x1:ag)(x8:Sl ar)(h:(!(iC x1 x8))=false):iT x1 x8<(x8.n:Int):=Aw x1 x8 (by simpa using h)
theorem mi{x1:ag}{x8:Sl ar}(h:SS x8):TH (iC x1 x8) (iT x1 x8) x8.n:=aA0 x8 x1 (by have:=h.1;omega)
def Ku(x1:Int)(x3:Sl ar):Sl ar:=(Sl.del x3 (toNat x1) (toNat (i64.wrap (x1+1))))
def akJ:Hq:=⟨[.p 0],[(.h 0 0,kI),(.h 0 2,kI),(.h 0 3,kB),(.h 1 0,.ah aZ)],[[U,.own 1 0,U,U],[U]],fun(x0:Int) (x1:Int) x2 x3=>⟨⟨some (x3.n≤1000000∧0≤x1∧x1<(x3.n:Int)),[],[[ae x0,.own 2 ((Ku x1 x3)).n,ae x1,.bool x2],[dh],[(Kd.ah aZ).av (Ku x1 x3)]]⟩⟩⟩
theorem aus:dz 164 akJ:=dE Tryz.func164
 fun(x0:Int) (x1:Int) x2 x3 n3 hp=>dy ⟨.ma true [] [.own (.h 0 1) aZ 2],[],[(.h 0 0,kI),(.h 0 2,kI),(.h 0 3,kB),(.h 2 0,.ah aZ)],⟨[],[[U,.own 2 0,U,U],[dh],[U]]⟩⟩ (.z) (let z6:=i64.wrap (x1+1);(0:Int)≤x1∧(x1:Int)<z6∧(z6:Int)≤(x3.n:Int)) (bB 2 aQ (az auB bA)) Tryz.func164 (have⟨cn,dv,ia⟩:=hp;(by have:=aq (x1+1);omega))
variable(x0:Int)(x1:ag)(x4:Int)(x5:Int)(bF:Int)(bL:Bool)(bY:Sl ar)(x6:Int)(x7:Bool)(x8:Sl ar)
def Kv:Bool:=(bif(decide (x4<1))then true else(decide (x4>(i64.wrap (1073741824-x5)))))
def adq:Int:=(bif(!x7)then 5 else(bif(x0==21)then 0 else(bif(Kv x4 x5)then 2 else 0)))
def adr:ag:=⟨#[]⟩
def ads:Int:=(bif(!x7)then 0 else(bif(x0==21)then(imax (i64.wrap ((x8.at' (toNat x6)).c7-x5)) 0)else 0))
def adt:Sl ag:=(al:Sl ag)
def adu:Sl ar:=let z6:=x8.at' (toNat x6);(bif(!x7)then x8 else(bif(x0==21)then x8 else(bif(Kv x4 x5)then x8 else(Sl.cp x8 (toNat x6) (⟨z6.c0,z6.c1,z6.c2,z6.c3,z6.c4,z6.c5,z6.c6,(i64.wrap (x5+x4))⟩:ar)))))
def akK:Hq:=⟨[.p 0,.g [kI,kS,kS,kS,kI]],[(.h 0 0,kI),(.h 0 2,kI),(.h 0 3,kB),(.h 1 0,.ah aZ)],[[U,.own 1 0,U,U],[U]],fun(x0:Int) _ _ _ (x4:Int) (x5:Int) (x6:Int) x7 x8=>let z6:=adu x0 x4 x5 x6 x7 x8;⟨⟨some (TH x7 x6 x8.n∧x8.n≤1000000),[.agg [ae (adq x0 x4 x5 x7),.str adr,ae (ads x0 x5 x6 x7 x8),aL 1 e9 adt]],[[ae x5,.own 1 (z6).n,ae x6,.bool x7],[(Kd.ah aZ).av z6]]⟩⟩⟩
theorem aut:dz 165 akK:=dE Tryz.func165
 fun(x0:Int) x1 n1 x2 n2 x3 n3 (x4:Int) (x5:Int) (x6:Int) x7 x8 n8 hp=>dy (ms:=[.f,.l,(.b .f (.b .f .l)),.l,.l,.l,.l,.f]) ⟨.heap,[.cell 4 99],[(.c 0 0,kI),(.c 0 1,kS),(.c 0 2,kI),(.c 0 3,.sl E9),(.h 0 0,kI),(.h 0 2,kI),(.h 0 3,kB),(.h 1 0,.ah aZ)],⟨[.agg (us 4 [])],[[U,.own 1 0,U,U],[U]]⟩⟩ (.ai (.ai (.ai (.ai (.s (.j ⟨1125899906842681,[],[(.t 50,kB)],[],.f⟩ .z .z) .z))))) ((!x7)=false→(((0:Int)≤x6∧x6<(x8.n:Int))∧(((x0==21)=true→((toNat x6)<x8.n))∧((x0==21)=false→((Kv x4 x5)=false→((toNat x6)<x8.n)))))) (bB 2 aQ bA) Tryz.func165 (have⟨cn,dv⟩:=hp;(fun h1=>⟨(by have:=Zk (by assumption) h1;omega),⟨(fun h2=>(by have:=Zk (by assumption) h1;omega)),(fun h3=>(fun h4=>(by have:=Zk (by assumption) h1;have:=cM h3;have:=h4;simp [Kv]at this;omega)))⟩⟩))
def Kw:Sl ar:=(bif(!bL)then(Sl.ins bY (toNat bF) (⟨x1,0,⟨#[]⟩,0,(al:Sl bk),(al:Sl ag),(al:Sl bD),0⟩:ar))else bY)
def adv(x6:ag)(x7:Int)(x8:Sl bk)(x9:Sl ag)(au:Sl bD)(bF:Int)(bL:Bool)(bY:Sl ar):Sl ar:=let zb:=Kw x1 bF bL bY;let za:=toNat bF;let z6:=Sl.cp zb za (⟨(zb.at' za).c0,x5,x6,x7,x8,x9,au,(zb.at' za).c7⟩:ar);let z8:=z6.at' za;(bif(x0==1)then(Sl.cp z6 za (⟨z8.c0,z8.c1,z8.c2,z8.c3,z8.c4,z8.c5,z8.c6,0⟩:ar))else z6)
theorem XG(x1:ag)(bF:Int)(bL:Bool)(bY:Sl ar)(h:TH bL bF bY.n):0≤bF∧bF<(((Kw x1 bF bL bY).n:Nat):Int):=by
 unfold Kw
 cases bL with
 |true=>exact⟨h.1.1,h.2 rfl⟩
 |false=>
  refine⟨h.1.1,?_⟩;show bF<((bY.n+1:Nat):Int);have:=h.1.2;omega
def akO:Hq:=⟨[.p 0,.g [kI,kS,kS,kS,kI],.g [kI,kS,kI,.sl cN,.sl E9,.sl cH]],[(.h 0 0,kI),(.h 0 2,kI),(.h 0 3,kB),(.h 1 0,.ah aZ)],[[U,.own 1 0,U,U],[U]],fun(x0:Int) x1 _ _ _ (x5:Int) x6 (x7:Int) x8 x9 au (a_:Int) (bF:Int) bL bY=>let z6:=adv x0 x1 x5 x6 x7 x8 x9 au bF bL bY;⟨⟨some (TH bL bF bY.n∧bY.n≤1000000),[],[[ae a_,.own 1 (z6).n,ae bF,.bool bL],[(Kd.ah aZ).av z6]]⟩⟩⟩
theorem auy:dz 167 akO:=dE Tryz.func167
 fun(x0:Int) x1 n1 x2 n2 x3 n3 (x4:Int) (x5:Int) x6 n6 (x7:Int) x8 n8 x9 n9 au oC (a_:Int) (bF:Int) bL bY eD hp=>dy (ms:=[.l,.l,.l,.f]) ⟨.heap,[],[(.h 0 0,kI),(.h 0 2,kI),(.h 0 3,kB),(.h 1 0,.ah aZ)],⟨[],[[U,.own 1 0,U,U],[U]]⟩⟩ (.ai (.j ⟨49,[.b 4],[(.h 1 0,.ah aZ)],[],.f⟩ .z .z)) (let z6:=Kw x1 bF bL bY;((!bL)=true→((0:Int)≤bF∧(bF:Int)≤(bY.n:Int)∧bY.n+1≤549755813888∧1=1))∧(((0:Int)≤bF∧bF<(z6.n:Int))∧(((toNat bF)<z6.n)∧((x0==1)=true→((toNat bF)<z6.n))))) (bB 2 aQ (az auC bA)) Tryz.func167 (have⟨cn,dv⟩:=hp;⟨(fun h1=>(by have:=aA1 (b:=bL) (i:=bF) (n:=bY.n) (by assumption);omega)),⟨(by have:=XG x1 bF bL bY (by repeat first|assumption|apply w6|apply w5|apply kD|apply oE|apply And.intro|apply EY|apply EX|apply mi);omega),⟨(by have:=XG x1 bF bL bY (by repeat first|assumption|apply w6|apply w5|apply kD|apply oE|apply And.intro|apply EY|apply EX|apply mi);omega),(fun h2=>(by have:=XG x1 bF bL bY (by repeat first|assumption|apply w6|apply w5|apply kD|apply oE|apply And.intro|apply EY|apply EX|apply mi);omega))⟩⟩⟩)
def Kt(x1:Sl ar):Nat→Int→Sl ar→Sl ar
 |0,_,_=>default
 |k+1,af,ak=>(bif(decide (af<(x1.n:Int)))then(Kt x1 k (i64.wrap (af+1)) (Sl.app ak (Sl.lit ([(x1.at' (toNat af))]:List ar))))else ak)
def ap1(x1:Sl ar):Sl ar:=Kt x1 ((toNat ((x1.n:Int)-0))+1) 0 (al:Sl ar)
def mY:Int:=x0
def ly(x1:Sl ar):Sl ar:=(ap1 x1)
def akC:Hq:=⟨[.g [kI,.sl aZ]],[],[],fun x0 x1=>⟨⟨none,[.agg [ae (mY x0),.own 0 ((ly x1)).n]],[[(Kd.ah aZ).av (ly x1)]]⟩⟩⟩
theorem aun:dz 148 akC:=dE Tryz.func148
 fun(x0:Int) x1 n1=>dy ⟨.ma false [] [.own (.c 0 1) aZ 0],[.cell 2 46],[(.c 0 0,kI),(.h 0 0,.ah aZ)],⟨[.agg [U,.own 0 0]],[[U]]⟩⟩ (.ai (.ai (.j ⟨12,[],[],[],.f⟩ (.ai (.lp ⟨14348,[.b 0],[(.h 2 1,aZ)],[(.t 13,kI),(.h 3 0,.ah aZ)],some 0,false,12,[],[(.h 3 0,.ah aZ)],fun k (s:Int×Sl ar)=>Kt x1 k s.1 s.2,.f,fun(s:Int×Sl ar)=>((0≤s.1∧s.1≤(x1.n:Int))∧(s.2.n:Int)≤0+(s.1-0)),fun(s:Int×Sl ar)=>(toNat ((x1.n:Int)-s.1)),some fun(r:Sl ar)=>(r.n:Int)≤0+max ((x1.n:Int)-0) 0⟩ .z)) .z))) ((((0≤(0:Int)∧(0:Int)≤(x1.n:Int))∧((0:Nat):Int)≤0+((0:Int)-0)))∧(∀(af:Int) (ak:Sl ar),let z8:=decide (af<(x1.n:Int));let z6:=i64.wrap (af+1);((0≤af∧af≤(x1.n:Int))∧(ak.n:Int)≤0+(af-0))→((z8=true→(((0:Int)≤af∧af<(x1.n:Int))∧(ak.n+1≤549755813888)))∧((z8=true→(((0≤z6∧z6≤(x1.n:Int))∧(((ak.n+1):Nat):Int)≤0+(z6-0))∧(toNat ((x1.n:Int)-z6))<(toNat ((x1.n:Int)-af))))∧(z8=false→((ak.n:Int)≤0+max ((x1.n:Int)-0) 0)))))) (bU (aH WO (aH DC (aH WQ aQ)))) Tryz.func148 (⟨(by omega),(fun af ak dX=>⟨(fun h2=>⟨(by have:=ay h2;omega),(by have:=ay h2;omega)⟩),⟨(fun h3=>(by have:=ay h3;have:=aq (af+1);omega)),(fun h4=>(by omega))⟩⟩)⟩)
end
def adk(x7:Int)(x8:Int):Bool:=(bif(x7 !=0)then(decide (x7≤x8))else false)
def jC(x7:Int)(x8:Int):Bool:=(adk x7 x8)
def akE:Hq:=⟨[.g [kS,kI,kS,kI,.sl cN,.sl E9,.sl cH,kI],.p 0],[(.h 1 0,kI),(.h 1 2,kI),(.h 1 3,kB)],[[.ptr 1 0],[U,.gone,U,U]],fun _ _ _ _ _ _ _ x7 x8 x9 au=>⟨⟨none,[.bool (jC x7 x8)],[[.ptr 1 0],[ae x8,.gone,ae x9,.bool au]]⟩⟩⟩
theorem ahh:dz 150 akE:=dE Tryz.func150
 fun x0 _ (x1:Int) x2 _ (x3:Int) x4 _ x5 _ x6 _ (x7:Int) (x8:Int) (x9:Int) au=>dy ⟨.heap,[.tmp 3],[(.t 0,kB),(.h 1 0,kI),(.h 1 2,kI),(.h 1 3,kB)],⟨[U],[[.ptr 1 0],[U,.gone,U,U]]⟩⟩ (.ai (.j ⟨8,[.b 2],[(.t 3,kB)],[],.f⟩ .z .z)) True (bB 2 aQ bA) Tryz.func150 (trivial)
section
def tp(x0:Int)(x1:Int)(x2:Bool)(x3:Sl ar):Nat→Int→Bool×Int×Int×Int×Bool×Sl ar
 |0,_=>default
 |k+1,af=>(bif(decide (af<(x3.n:Int)))then(bif(jC (x3.at' (toNat af)).c7 x0)then(true,af,x0,x1,x2,x3)else(tp x0 x1 x2 x3 k (i64.wrap (af+1))))else(false,default,default,default,default,default))
variable(x0:Int)(x1:Int)(x2:Bool)(x3:Sl ar)
def xA:Bool×Int×Int×Int×Bool×Sl ar:=tp x0 x1 x2 x3 ((toNat ((x3.n:Int)-0))+1) 0
def Bx:Bool:=(bif(xA x0 x1 x2 x3).1 then false else true)
def nT:Int:=(bif(Bx x0 x1 x2 x3)then(-1)else(xA x0 x1 x2 x3).2.1)
def To:Int:=(bif(Bx x0 x1 x2 x3)then x0 else(xA x0 x1 x2 x3).2.2.1)
def Tp:Int:=(bif(Bx x0 x1 x2 x3)then x1 else(xA x0 x1 x2 x3).2.2.2.1)
def Tq:Bool:=(bif(Bx x0 x1 x2 x3)then x2 else(xA x0 x1 x2 x3).2.2.2.2.1)
def Tr:Sl ar:=(bif(Bx x0 x1 x2 x3)then x3 else(xA x0 x1 x2 x3).2.2.2.2.2)
theorem zA{P:Program}{f:FuncId}{xs:List AV}{H:Heap}{rs rs2:List AV}{H' H2:Heap}(h:fj P f xs H rs H')(e1:rs=rs2)(e2:H'=H2):fj P f xs H rs2 H2:=by subst e1 e2;exact h
theorem ahL(x0:Int)(x1:Int)(x2:Bool)(x3:Sl ar)(hn:x3.n≤549755813888): ∀(m fu i:Nat),i+m=x3.n→m≤fu→(tp x0 x1 x2 x3 (fu+1) (i:Int)=(false,default,default,default,default,default)∧ ∀t,i≤t→t<x3.n→jC (x3.at' t).c7 x0=false)∨ ∃t,i≤t∧t<x3.n∧tp x0 x1 x2 x3 (fu+1) (i:Int)=(true,(t:Int),x0,x1,x2,x3)∧jC (x3.at' t).c7 x0=true∧ ∀u,i≤u→u<t→jC (x3.at' u).c7 x0=false
 |0,fu,i,hi,_=>by
  refine .inl ⟨?_,fun t h1 h2=>by omega⟩;show(bif(decide ((i:Int)<(x3.n:Int)))then _ else _)=_;rw[cq (by omega)];rfl
 |m+1,fu,i,hi,hf=>by
  obtain⟨fu,rfl⟩: ∃q,fu=q+1:=⟨fu-1,by omega⟩;have e:tp x0 x1 x2 x3 (fu+1+1) (i:Int)=(bif(jC (x3.at' i).c7 x0)then(true,(i:Int),x0,x1,x2,x3)else tp x0 x1 x2 x3 (fu+1) ((i+1:Nat):Int)):=by
   show(bif(decide ((i:Int)<(x3.n:Int)))then _ else _)=_;rw[cx (by omega),aCZ,aq _];rfl
  rw[e]
  cases g:jC (x3.at' i).c7 x0 with
  |true=>exact .inr ⟨i,aCK _,by omega,rfl,g,fun u h1 h2=>by omega⟩
  |false=>
   rcases ahL x0 x1 x2 x3 hn m fu (i+1) (by omega) (by omega)with⟨h1,h2⟩|⟨t,h1,h2,h3,h4,h5⟩
   ·refine .inl ⟨h1,fun t a b=> ?_⟩
    by_cases q:t=i
    ·subst q;exact g
    ·exact h2 t (by omega) b
   ·refine .inr ⟨t,by omega,h2,h3,h4,fun u a b=> ?_⟩
    by_cases q:u=i
    ·subst q;exact g
    ·exact h5 u (by omega) b
theorem YF(x0:Int)(x1:Int)(x2:Bool)(x3:Sl ar)(hn:x3.n≤549755813888):(To x0 x1 x2 x3=x0∧Tp x0 x1 x2 x3=x1∧Tq x0 x1 x2 x3=x2∧Tr x0 x1 x2 x3=x3)∧
  ((nT x0 x1 x2 x3= -1∧ ∀t,t<x3.n→jC (x3.at' t).c7 x0=false)∨ ∃t:Nat,t<x3.n∧nT x0 x1 x2 x3=(t:Int)∧jC (x3.at' t).c7 x0=true∧ ∀u,u<t→jC (x3.at' u).c7 x0=false):=by
 unfold To Tp Tq Tr nT Bx xA;rcases ahL x0 x1 x2 x3 hn x3.n (toNat ((x3.n:Int)-0)) 0 (by omega) (by omega)with⟨h1,h2⟩|⟨t,h1,h2,h3,h4,h5⟩
 ·rw[show tp x0 x1 x2 x3 (toNat ((x3.n:Int)-0)+1) 0=_ from h1];exact⟨⟨rfl,rfl,rfl,rfl⟩,.inl ⟨rfl,fun t ht=>h2 t (aCQ _) ht⟩⟩
 ·rw[show tp x0 x1 x2 x3 (toNat ((x3.n:Int)-0)+1) 0=_ from h3];exact⟨⟨rfl,rfl,rfl,rfl⟩,.inr ⟨t,h2,rfl,h4,fun u hu=>h5 u (aCQ _) hu⟩⟩
theorem apb(x0:Int)(x1:Int)(x2:Bool)(x3:Sl ar)(hn:x3.n≤549755813888): -1≤nT x0 x1 x2 x3∧nT x0 x1 x2 x3<(x3.n:Int):=by
 rcases(YF x0 x1 x2 x3 hn).2 with⟨h,_⟩|⟨t,h1,h,_⟩<;>rw[h]<;>omega
def akH:Hq:=⟨[.o 2,.fp 150 [0]],[(.h 1 0,kI),(.h 1 2,kI),(.h 1 3,kB),(.h 2 0,.ah aZ)],[[.ptr 1 0],[U,.gone,U,U],[U]],fun x0 x1 x2 x3=>⟨⟨none,[ae (nT x0 x1 x2 x3)],[[.ptr 1 0],[ae x0,.gone,ae x1,.bool x2],[(Kd.ah aZ).av x3]]⟩⟩⟩
theorem auq:dz 162 akH:=dE Tryz.func162
 fun(x0:Int) (x1:Int) x2 x3 n3=>have⟨e0,e1,e2,e3⟩:=(YF x0 x1 x2 x3 n3).1;zA (rs:=[ae (nT x0 x1 x2 x3)]) (H':=[[.ptr 1 0],[ae (To x0 x1 x2 x3),.gone,ae (Tp x0 x1 x2 x3),.bool (Tq x0 x1 x2 x3)],[(Kd.ah aZ).av (Tr x0 x1 x2 x3)]]) (dy ⟨.heap,[.tmp 4],[(.t 0,kI),(.h 1 0,kI),(.h 1 2,kI),(.h 1 3,kB),(.h 2 0,.ah aZ)],⟨[U],[[.ptr 1 0],[U,.gone,U,U],[U]]⟩⟩ (.ai (.j ⟨16,[],[],[],.f⟩ (.ai (.lp ⟨403,[],[],[(.t 8,kI)],some 0,true,16,[],[],fun k (s:Int)=>tp x0 x1 x2 x3 k s,.f,fun(s:Int)=>(0≤s∧s≤(x3.n:Int)),fun(s:Int)=>(toNat ((x3.n:Int)-s)),none⟩ .z)) .z)) (((0≤(0:Int)∧(0:Int)≤(x3.n:Int)))∧(∀(af:Int),let z8:=decide (af<(x3.n:Int));let z6:=i64.wrap (af+1);(0≤af∧af≤(x3.n:Int))→((z8=true→(((0:Int)≤af∧af<(x3.n:Int))∧((toNat af)<x3.n)))∧(z8=true→((jC (x3.at' (toNat af)).c7 x0)=false→((0≤z6∧z6≤(x3.n:Int))∧(toNat ((x3.n:Int)-z6))<(toNat ((x3.n:Int)-af)))))))) (bB 3 aQ (az ahh bA)) Tryz.func162 (⟨(by omega),(fun af dX=>⟨(fun h2=>⟨(by have:=ay h2;omega),(by have:=ay h2;omega)⟩),(fun h3=>(fun h4=>(by have:=ay h3;have:=aq (af+1);omega)))⟩)⟩)) rfl (by rw[e0,e1,e2,e3];rfl)
end
section
variable(x0:Int)(aB:Int)(cu:Int)(hX:Sl ar)(x1:Int)(x2:Bool)(x3:Sl ar)
def Bs:Sl ar:=(bif(!(jC (hX.at' (toNat cu)).c7 x0))then(Sl.cp hX (toNat aB) (hX.at' (toNat cu)))else hX)
def xz:Int:=(bif(!(jC (hX.at' (toNat cu)).c7 x0))then(i64.wrap (aB+1))else aB)
def Br(x0:Int):Nat→Int→Int→Sl ar→Int×Sl ar
 |0,_,_,_=>default
 |k+1,aB,cu,hX=>(bif(decide (cu<(hX.n:Int)))then(Br x0 k (xz x0 aB cu hX) (i64.wrap (cu+1)) (Bs x0 aB cu hX))else(aB,hX))
def FD:Int×Sl ar:=Br x0 ((toNat ((x3.n:Int)- (i64.wrap ((nT x0 x1 x2 x3)+1))))+1) (nT x0 x1 x2 x3) (i64.wrap ((nT x0 x1 x2 x3)+1)) x3
def nS:Sl ar:=(bif((nT x0 x1 x2 x3)==(-1))then x3 else(Sl.cut (Sl.w_ (FD x0 x1 x2 x3).2 (toNat (FD x0 x1 x2 x3).1) ((⟨⟨#[]⟩,0,⟨#[]⟩,0,(al:Sl bk),(al:Sl ag),(al:Sl bD),0⟩:ar):ar)) (toNat (FD x0 x1 x2 x3).1)))
theorem ax1(x0 i j:Int)(s:Sl ar):(Bs x0 i j s).n=s.n:=by
 unfold Bs
 cases (!(jC (s.at' (toNat j)).c7 x0))<;>rfl
theorem ax2(x0 i j:Int)(s:Sl ar)(h:0≤i∧i<549755813888):i≤xz x0 i j s∧xz x0 i j s≤i+1:=by
 unfold xz;have:=aq (i+1)
 cases (!(jC (s.at' (toNat j)).c7 x0))<;>simp only[aCJ,aCI]<;>omega
def akD:Hq:=⟨[.o 2,.fp 150 [0]],[(.h 1 0,kI),(.h 1 2,kI),(.h 1 3,kB),(.h 2 0,.ah aZ)],[[.ptr 1 0],[U,.gone,U,U],[U]],fun(x0:Int) (x1:Int) x2 x3=>let z6:=nS x0 x1 x2 x3;⟨⟨some (x3.n≤1000000),[.own 3 (z6).n],[[.ptr 1 0],[ae x0,.gone,ae x1,.bool x2],[dh],[(Kd.ah aZ).av z6]]⟩⟩⟩
theorem auo:dz 149 akD:=dE Tryz.func149
 fun(x0:Int) (x1:Int) x2 x3 n3 hp=>dy (ms:=[.f,.l,.l,.l]) ⟨.ma false [] [.own (.t 0) aZ 3],[.tmp 4],[(.h 3 0,.ah aZ),(.h 1 0,kI),(.h 1 2,kI),(.h 1 3,kB)],⟨[.own 3 0],[[.ptr 1 0],[U,.gone,U,U],[dh],[U]]⟩⟩ (.ai (.ai (.ai (.j ⟨49,[],[],[],.f⟩ (.ai (.lp ⟨115,[],[],[(.t 5,kI),(.t 6,kI),(.h 2 0,.ah aZ)],some 0,false,49,[],[(.t 5,kI),(.h 2 0,.ah aZ)],fun k (s:Int×Int×Sl ar)=>Br x0 k s.1 s.2.1 s.2.2,.f,fun(s:Int×Int×Sl ar)=>(0≤s.1∧s.1<s.2.1∧s.2.1≤(s.2.2.n:Int)∧s.2.2.n=x3.n),fun(s:Int×Int×Sl ar)=>(toNat ((s.2.2.n:Int)-s.2.1)),some fun(r:Int×Sl ar)=>(0≤r.1∧r.1<(r.2.n:Int)∧r.2.n=x3.n)⟩ (.ai (.j ⟨1070530803,[],[(.h 2 0,.ah aZ),(.t 5,kI)],[],.f⟩ .z .z)))) (.s .ow (.s .ow .z)))))) (let z8:=nT x0 x1 x2 x3;let ze:=i64.wrap (z8+1);let z6:=FD x0 x1 x2 x3;(z8==(-1))=false→((((0≤z8∧z8<ze∧ze≤(x3.n:Int)∧x3.n=x3.n))∧(∀(aB:Int) (cu:Int) (hX:Sl ar),let zd:=xz x0 aB cu hX;let zc:=i64.wrap (cu+1);let zb:=Bs x0 aB cu hX;let za:=decide (cu<(hX.n:Int));(0≤aB∧aB<cu∧cu≤(hX.n:Int)∧hX.n=x3.n)→((za=true→((((0:Int)≤cu∧cu<(hX.n:Int))∧((toNat cu)<hX.n))∧((!(jC (hX.at' (toNat cu)).c7 x0))=true→(((0:Int)≤aB∧aB<(hX.n:Int))∧((toNat aB)<hX.n)))))∧((za=true→((0≤zd∧zd<zc∧zc≤(zb.n:Int)∧zb.n=x3.n)∧(toNat ((zb.n:Int)-zc))<(toNat ((hX.n:Int)-cu))))∧(za=false→((0≤aB∧aB<(hX.n:Int)∧hX.n=x3.n)))))))∧(((0≤z6.1∧z6.1<(z6.2.n:Int)∧z6.2.n=x3.n))→(((0:Int)≤z6.1∧z6.1<(z6.2.n:Int))∧((0:Int)≤z6.1∧z6.1<(z6.2.n:Int)))))) (bB 3 aQ (az ahh (az auq bA))) Tryz.func149 ((fun h1=>⟨⟨(by have:=cM h1;have:=apb x0 x1 x2 x3 (by omega);have:=aq ((nT x0 x1 x2 x3)+1);omega),(fun aB cu hX jk=>⟨(fun h3=>⟨⟨(by have:=ay h3;omega),(by have:=ay h3;omega)⟩,(fun h4=>⟨(by omega),(by omega)⟩)⟩),⟨(fun h5=>(by have:=ay h5;have:=ax2 x0 aB cu hX (by omega);have:=ax1 x0 aB cu hX;have:=aq (cu+1);omega)),(fun h6=>(by omega))⟩⟩)⟩,(fun CV=>⟨(by omega),(by omega)⟩)⟩))
end
end Go.Proofs.YtfmgjpcmcjjoiaaGreatDoor
namespace Go.Vc
open Go
theorem axk{x y:UInt8}{a b:List UInt8} :Op.bytesLess (x::a) (y::b)=true↔x<y∨(x=y∧Op.bytesLess a b=true):=by
 simp only[Op.bytesLess,aEg,aCN,aDd,aDG]
theorem ahX: ∀{a b c:List UInt8},Op.bytesLess a b=true→Op.bytesLess b c=true→Op.bytesLess a c=true
 |_,_,[],_,h=>by simp [Op.bytesLess]at h
 |[],_,_::_,_,_=>rfl
 |_::_,[],_::_,h,_=>by simp [Op.bytesLess]at h
 |x::a,y::b,z::c,h1,h2=>by
  rw[axk]at h1 h2 ⊢;rcases h1 with h1|⟨e1,h1⟩
  ·rcases h2 with h2|⟨e2,h2⟩
   ·exact .inl (UInt8.lt_trans h1 h2)
   ·subst e2;exact .inl h1
  ·subst e1;rcases h2 with h2|⟨e2,h2⟩
   ·exact .inl h2
   ·exact .inr ⟨e2,ahX h1 h2⟩
theorem chain{R:Nat→Nat→Prop}(n:Nat)(h1: ∀i,i+1<n→R i (i+1))(ht: ∀i j k,i<j→j<k→k<n→R i j→R j k→R i k): ∀(d i:Nat),i+d+1<n→R i (i+d+1)
 |0,i,h=>h1 i h
 |d+1,i,h=>ht i (i+d+1) (i+(d+1)+1) (by omega) (by omega) h (chain n h1 ht d i (by omega)) (h1 (i+d+1) h)
theorem aoa{R:Nat→Nat→Prop}(n:Nat)(h1: ∀i,i+1<n→R i (i+1))(ht: ∀i j k,i<j→j<k→k<n→R i j→R j k→R i k)(i j:Nat)(iY:i<j)(hj:j<n):R i j:=by
 have:=chain n h1 ht (j-i-1) i (by omega);rwa [show i+(j-i-1)+1=j by omega]at this
theorem ab5{σ ρ:Type}(F:Nat→Int→σ→ρ)(n:Nat)(step:Nat→σ→σ)(out:σ→ρ)(hn:n≤549755813888)(hF: ∀k i s,F (k+1) i s=bif decide (i<(n:Int))then F k (i64.wrap (i+1)) (step (toNat i) s)else out s):
  ∀(m k i:Nat) (s:σ),i+m=n→m≤k→F (k+1) (i:Int) s=out ((List.range' i m).foldl (fun s j=>step j s) s)
 |0,k,i,s,hi,_=>by
  rw[hF,show decide ((i:Int)<(n:Int))=false by simp;omega];rfl
 |m+1,k,i,s,hi,hk=>by
  obtain⟨k,rfl⟩: ∃k',k=k'+1:=⟨k-1,by omega⟩;rw[hF,show decide ((i:Int)<(n:Int))=true by simp;omega];simp only[aCJ];rw[aq ((i:Int)+1)];have:=ab5 F n step out hn hF m k (i+1) (step i s) (by omega) (by omega);rw[show(((i+1:Nat)):Int)=(i:Int)+1 by omega]at this;rw[show toNat (i:Int)=i from aCZ i,this];rfl
theorem apw{σ ρ:Type}(F:Nat→Int→σ→ρ)(n:Nat)(step:Nat→σ→σ)(out:σ→ρ)(hn:n≤549755813888)(hF: ∀k i s,F (k+1) i s=bif decide (i<(n:Int))then F k (i64.wrap (i+1)) (step (toNat i) s)else out s)(s:σ):
  F (toNat ((n:Int)-0)+1) 0 s=out ((List.range n).foldl (fun s j=>step j s) s):=by
 have:=ab5 F n step out hn hF n (toNat ((n:Int)-0)) 0 s (by omega) (by omega);rw[List.range_eq_range'];exact this
section
variable {α:Type}
theorem apx{σ:Type}(s:Sl α)(step:α→σ→σ)(st:σ):(List.range s.n).foldl (fun st j=>step (s.at' j) st) st=s.B.foldl (fun st a=>step a st) st:=by
 unfold Sl.B;rw[List.foldl_map]
theorem ayl{a b:Nat}(h:a≠b):Nat.beq a b=false:=by
 cases e:Nat.beq a b with
 |false=>rfl
 |true=>exact absurd (aCS e) h
theorem akn(s:Sl α){i:Nat}(h:i<s.n):s.B.drop i=s.at' i::s.B.drop (i+1):=by
 rw[aEk (by rw[eJ];exact h)];simp [Sl.B]
end
end Go.Vc
namespace Go.Proofs.YtfmgjpcmcjjoiaaGreatDoor
open Go Go.RowKit Go.Vc
theorem axP{α:Type}(s:Sl α){t:Nat}{a:α}(h:a∈s.B.take t): ∃i,i<s.n∧i<t∧s.at' i=a:=by
 obtain⟨i,hi,he⟩:=List.mem_take_iff_getElem.1 h;rw[eJ]at hi;refine⟨i,by omega,by omega,?_⟩;rw[←he];simp [Sl.B]
theorem PC{α:Type}(s:Sl α)(t:Nat):s.B[t]? =if t<s.n then some (s.at' t)else none:=by
 by_cases h:t<s.n
 ·rw[aCL h,qE s h]
 ·rw[aCM h];exact aCW (by rw[eJ];omega)
theorem nB'{α:Type}{s t:Sl α}(h:s.B=t.B):s.n=t.n:=by rw[←eJ s,←eJ t,h]
section
variable {α γ:Type}
theorem ab6(f:α→γ): ∀(l:List α) (a:List γ),l.foldl (fun b x=>b++[f x]) a=a++l.map f
 |[],a=>by simp
 |x::l,a=>by rw[aEe,ab6 f l];simp
theorem axK[Inhabited γ](F:Nat→Int→Sl γ→Sl γ)(s:Sl α)(f:α→γ)(hn:s.n≤549755813888)(hF: ∀k i a,F (k+1) i a=bif decide (i<(s.n:Int))then F k (i64.wrap (i+1)) (Sl.app a (Sl.lit [f (s.at' (toNat i))]))else a)(a:Sl γ):
  (F (toNat ((s.n:Int)-0)+1) 0 a).B=a.B++s.B.map f:=by
 rw[apw F s.n (fun j a=>Sl.app a (Sl.lit [f (s.at' j)])) id hn (fun k i a=>hF k i a) a];rw[←ab6 f s.B a.B,←apx s (fun x b=>b++[f x])];exact(List.foldl_hom Sl.B fun st j=>by rw[u_,wT]).symm
end
structure Fit (now:Int) (s:Sl ar):Prop where
 n:s.n≤12
 D2:Qx s.n (fun i=>(s.at' i).c0)
 ok: ∀i,i<s.n→ng (s.at' i).c1 (s.at' i).c2 (s.at' i).c3 (s.at' i).c4 (s.at' i).c5 (s.at' i).c6=0
 sz: ∀i,i<s.n→(s.at' i).c4.n≤1048576∧(s.at' i).c5.n≤1048576∧(s.at' i).c6.n≤1048576
 u: ∀i,i<s.n→(s.at' i).c7=0∨(now<(s.at' i).c7∧(s.at' i).c7≤1073741824)
theorem aAy{α:Type}(l m:List α)(x y:α){i:Nat}(h:l.length=i):(l++x::m).set i y=l++y::m:=by
 subst h;rw[List.set_append_right _ _ (aCK _)];simp
theorem aAx{α:Type}(s:Sl α)(i:Nat)(y:α)(h:i<s.n):(s.cp i y).B=s.B.take i++y::s.B.drop (i+1):=by
 rw[ZM];have h1:s.B=s.B.take i++s.at' i::s.B.drop (i+1):=by rw[←akn s h,aDz]
 have h2:=aAy (s.B.take i) (s.B.drop (i+1)) (s.at' i) y (i:=i) (by rw[aDq,eJ];omega);rw[←h1]at h2;exact h2
end Go.Proofs.YtfmgjpcmcjjoiaaGreatDoor
namespace Go.Proofs.YtfmgjpcmcjjoiaaGreatDoor
open Go Go.Proofs Go.RowKit Go.Shelf Go.Vc
abbrev al5:Hq:=xj bG
theorem avm:jM Tryz.prog 152 al5.gW:=A7 (E:=bG) (z:=(.agg #[.int .i64 0,.int .i64 0,.int .i64 0,.int .i64 0,.string ⟨#[]⟩,.int .i64 0,.slice none 0 0])) (A6 (ρ:=A5 152 47 135) (b:=80) mixed ⟨ "slices.Delete[[]rostrum/api.Client,rostrum/api.Client]",by kernel_rfl,by kernel_rfl⟩ (by kernel_rfl) (by kernel_rfl)) ⟨_,_,Tryz.func152,rfl,by kernel_rfl⟩ (sF rfl (by kernel_rfl))
end Go.Proofs.YtfmgjpcmcjjoiaaGreatDoor
namespace Go.Proofs.YtfmgjpcmcjjoiaaGreatDoor
open Go Go.RowKit Go.Vc
section
def KW(x0:Int):Int:=x0
def KX(x1:ag):ag:=x1
def KY(x2:Int):Int:=x2
def KZ(x3:Sl ag):Sl ag:=x3
def al2:Fq:=⟨[.g [kI,kS,kI,.sl E9]],fun x0 x1 x2 x3=>⟨⟨none,.agg [ae (KW x0),.str (KX x1),ae (KY x2),aL 1 e9 (KZ x3)]⟩⟩⟩
theorem ahv:ba 125 al2:=bf Tryz.func125
 fun(x0:Int) x1 _ (x2:Int) x3 _ _=>bj ⟨.pure,[.cell 2 99],[(.c 0 0,kI),(.c 0 1,kS),(.c 0 2,kI),(.c 0 3,.sl E9)],⟨[.agg (us 4 [])],[]⟩⟩ (.z) True (bU (aH DC aQ)) Tryz.func125 (trivial)
def BN(x0:Sl aG):Nat→Int→Sl aG→Sl aG
 |0,_,_=>default
 |k+1,af,ak=>(bif(decide (af<(x0.n:Int)))then(BN x0 k (i64.wrap (af+1)) (Sl.app ak (Sl.lit ([(⟨(x0.at' (toNat af)).c0,(x0.at' (toNat af)).c1,(x0.at' (toNat af)).c2,(KW (x0.at' (toNat af)).c3),(KX (x0.at' (toNat af)).c4),(KY (x0.at' (toNat af)).c5),(KZ (x0.at' (toNat af)).c6)⟩:aG)]:List aG))))else ak)
variable(x0:Sl aG)(x1:Int)
def TZ:Sl aG:=BN x0 ((toNat ((x0.n:Int)-0))+1) 0 (al:Sl aG)
def jE:Sl aG:=(TZ x0)
def alY:Fq:=⟨[.v (.sl bG)],fun x0=>⟨⟨none,(Kd.ah bG).av (jE x0)⟩⟩⟩
theorem avg:ba 120 alY:=bf Tryz.func120
 fun x0 n0 _=>bj ⟨.own bG,[.tmp 2],[(.h 0 0,.ah bG)],⟨[],[]⟩⟩ (.ai (.ai (.j ⟨12,[],[],[],.f⟩ (.ai (.lp ⟨460,[],[(.t 3,bG)],[(.t 8,kI),(.h 0 0,.ah bG)],some 0,false,12,[],[(.h 0 0,.ah bG)],fun k (s:Int×Sl aG)=>BN x0 k s.1 s.2,.f,fun(s:Int×Sl aG)=>((0≤s.1∧s.1≤(x0.n:Int))∧(s.2.n:Int)≤0+(s.1-0)),fun(s:Int×Sl aG)=>(toNat ((x0.n:Int)-s.1)),some fun(r:Sl aG)=>(r.n:Int)≤0+max ((x0.n:Int)-0) 0⟩ .z)) .z))) ((((0≤(0:Int)∧(0:Int)≤(x0.n:Int))∧((0:Nat):Int)≤0+((0:Int)-0)))∧(∀(af:Int) (ak:Sl aG),let z8:=decide (af<(x0.n:Int));let z6:=i64.wrap (af+1);((0≤af∧af≤(x0.n:Int))∧(ak.n:Int)≤0+(af-0))→((z8=true→(((0:Int)≤af∧af<(x0.n:Int))∧(ak.n+1≤549755813888)))∧((z8=true→(((0≤z6∧z6≤(x0.n:Int))∧(((ak.n+1):Nat):Int)≤0+(z6-0))∧(toNat ((x0.n:Int)-z6))<(toNat ((x0.n:Int)-af))))∧(z8=false→((ak.n:Int)≤0+max ((x0.n:Int)-0) 0)))))) (bU (aH ahv aQ)) Tryz.func120 (⟨(by omega),(fun af ak dX=>⟨(fun h2=>⟨(by have:=ay h2;omega),(by have:=ay h2;omega)⟩),⟨(fun h3=>(by have:=ay h3;have:=aq (af+1);omega)),(fun h4=>(by omega))⟩⟩)⟩)
theorem ahR(x0:Sl aG)(hn:x0.n≤549755813888): ∀(m:Nat) (v:Int) (s:Sl aG),0≤v→v≤x0.n→m=toNat ((x0.n:Int)-v)→((BN x0 (m+1) v s).n:Int)=s.n+((x0.n:Int)-v)
 |0,v,s,h0,h1,hm=>by
  have: ¬v<(x0.n:Int):=by omega
  simp only[BN,this,aDU,aCI];omega
 |m+1,v,s,h0,h1,hm=>by
  have hv:v<(x0.n:Int):=by omega
  have hw:=aq (v+1);rw[BN];simp only[hv,aDO,aCJ];rw[hw,ahR x0 hn m (v+1) _ (by omega) (by omega) (by omega)];simp only[Sl.pz,Sl.nA,aC7,aDf];omega
theorem wD(x0:Sl aG):x0.n≤549755813888→(jE x0).n=x0.n:=fun h=>by
 have h1:((TZ x0).n:Int)=0+((x0.n:Int)-0):=ahR x0 h _ 0 al (by omega) (by omega) rfl;show(TZ x0).n=_;omega
def pK(x0:Int)(x7:Int):Bool:=(x0==x7)
def al1:Fq:=⟨[.g [kI,kI,kI,kI,kS,kI,.sl E9],.r [kI,kI,kI,kS,kS,kS,kI]],fun x0 _ _ _ _ _ _ x7 _ _ _ _ _ _=>⟨⟨none,.bool (pK x0 x7)⟩⟩⟩
theorem avj:ba 124 al1:=bf Tryz.func124
 fun(x0:Int) (x1:Int) (x2:Int) (x3:Int) x4 _ (x5:Int) x6 _ _ (x7:Int) (x8:Int) (x9:Int) au a_ bF (bL:Int)=>bj ⟨.pure,[.tmp 3],[(.t 0,kB)],⟨[U],[]⟩⟩ (.z) True fK Tryz.func124 (trivial)
def pJ(x0:Sl aG)(x1:Int):Nat→Int→Bool×Int
 |0,_=>default
 |k+1,af=>(bif(decide (af<(x0.n:Int)))then(bif(pK (x0.at' (toNat af)).c0 x1)then(true,af)else(pJ x0 x1 k (i64.wrap (af+1))))else(false,default))
def T3:Bool×Int:=pJ x0 x1 ((toNat ((x0.n:Int)-0))+1) 0
def aex:Bool:=(bif(T3 x0 x1).1 then false else true)
def mB:Int:=(bif(aex x0 x1)then(-1)else(T3 x0 x1).2)
def al0:Fq:=⟨[.v (.sl bG),.fn 124 [[kI,kI,kI,kS,kS,kS,kI]]],fun x0 x1 _ _ _ _ _ _=>⟨⟨none,ae (mB x0 x1)⟩⟩⟩
theorem avi:ba 123 al0:=bf Tryz.func123
 fun x0 n0 _ (x1:Int) (x2:Int) (x3:Int) x4 x5 x6 (x7:Int)=>bj ⟨.pure,[.tmp 4],[(.t 0,kI)],⟨[U],[]⟩⟩ (.ai (.j ⟨16,[],[],[],.f⟩ (.ai (.lp ⟨403,[],[],[(.t 8,kI)],some 0,true,16,[],[],fun k (s:Int)=>pJ x0 x1 k s,.f,fun(s:Int)=>(0≤s∧s≤(x0.n:Int)),fun(s:Int)=>(toNat ((x0.n:Int)-s)),none⟩ .z)) .z)) (((0≤(0:Int)∧(0:Int)≤(x0.n:Int)))∧(∀(af:Int),let z8:=decide (af<(x0.n:Int));let z6:=i64.wrap (af+1);(0≤af∧af≤(x0.n:Int))→((z8=true→((0:Int)≤af∧af<(x0.n:Int)))∧(z8=true→((pK (x0.at' (toNat af)).c0 x1)=false→((0≤z6∧z6≤(x0.n:Int))∧(toNat ((x0.n:Int)-z6))<(toNat ((x0.n:Int)-af)))))))) (bU (aH avj aQ)) Tryz.func123 (⟨(by omega),(fun af dX=>⟨(fun h2=>(by have:=ay h2;omega)),(fun h3=>(fun h4=>(by have:=ay h3;have:=aq (af+1);omega)))⟩)⟩)
theorem ahM(x0:Sl aG)(x1:Int)(hn:x0.n≤549755813888): ∀(m fu i:Nat),i+m=x0.n→m≤fu→(pJ x0 x1 (fu+1) (i:Int)=(false,default)∧ ∀t,i≤t→t<x0.n→pK (x0.at' t).c0 x1=false)∨ ∃t,i≤t∧t<x0.n∧pJ x0 x1 (fu+1) (i:Int)=(true,(t:Int))∧pK (x0.at' t).c0 x1=true∧ ∀u,i≤u→u<t→pK (x0.at' u).c0 x1=false
 |0,fu,i,h1,h2=>by
  have: ¬((i:Int)<(x0.n:Int)):=by omega
  refine .inl ⟨?_,fun t a b=>by omega⟩;simp only[pJ,this,aDU,aCI]
 |m+1,fu,i,h1,h2=>by
  obtain⟨fu,rfl⟩: ∃k,fu=k+1:=⟨fu-1,by omega⟩;have hv:(i:Int)<(x0.n:Int):=by omega
  have hw:i64.wrap ((i:Int)+1)=((i+1:Nat):Int):=by rw[aq _];rfl
  have e:pJ x0 x1 (fu+1+1) (i:Int)=(bif(pK (x0.at' i).c0 x1)then(true,(i:Int))else pJ x0 x1 (fu+1) ((i+1:Nat):Int)):=by
   rw[pJ];simp only[hv,aDO,aCJ,aCZ,hw]
  rw[e]
  cases g:pK (x0.at' i).c0 x1 with
  |true=>exact .inr ⟨i,aCK _,by omega,rfl,g,fun u a b=>by omega⟩
  |false=>
   simp only[aCI];rcases ahM x0 x1 hn m fu (i+1) (by omega) (by omega)with⟨a1,a2⟩|⟨t,a1,a2,a3,a4,a5⟩
   ·refine .inl ⟨a1,fun t b1 b2=> ?_⟩
    by_cases e:t=i
    ·rw[e];exact g
    ·exact a2 t (by omega) b2
   ·refine .inr ⟨t,by omega,a2,a3,a4,fun u b1 b2=> ?_⟩
    by_cases e:u=i
    ·rw[e];exact g
    ·exact a5 u (by omega) b2
theorem azV(x0:Sl aG)(x1:Int)(hn:x0.n≤549755813888):(mB x0 x1= -1∧ ∀t,t<x0.n→pK (x0.at' t).c0 x1=false)∨ ∃t:Nat,t<x0.n∧mB x0 x1=(t:Int)∧pK (x0.at' t).c0 x1=true∧ ∀u,u<t→pK (x0.at' u).c0 x1=false:=by
 unfold mB aex T3;rcases ahM x0 x1 hn x0.n (toNat ((x0.n:Int)-0)) 0 (by omega) (by omega)with⟨h1,h2⟩|⟨t,h1,h2,h3,h4,h5⟩
 ·rw[show pJ x0 x1 (toNat ((x0.n:Int)-0)+1) 0=_ from h1];exact .inl ⟨rfl,fun t ht=>h2 t (aCQ _) ht⟩
 ·rw[show pJ x0 x1 (toNat ((x0.n:Int)-0)+1) 0=_ from h3];exact .inr ⟨t,h2,rfl,h4,fun u hu=>h5 u (aCQ _) hu⟩
theorem xr(x0:Sl aG)(x1:Int)(hn:x0.n≤549755813888): -1≤mB x0 x1∧mB x0 x1<(x0.n:Int):=by
 rcases azV x0 x1 hn with⟨h,_⟩|⟨t,h1,h,_⟩<;>rw[h]<;>omega
end
section
variable(x2:Int)(x3:Sl aG)
def F6(aB:Int)(cu:Int):Int:=(bif(decide ((x3.at' (toNat aB)).c2<(x3.at' (toNat cu)).c2))then aB else cu)
def T1(x3:Sl aG):Nat→Int→Int→Int
 |0,_,_=>default
 |k+1,aB,cu=>(bif(decide (aB<(x3.n:Int)))then(T1 x3 k (i64.wrap (aB+1)) (F6 x3 aB cu))else cu)
def KV:Int:=T1 x3 ((toNat ((x3.n:Int)-0))+1) 0 0
def KU:Sl aG:=(bif((x3.n:Int)==4)then(Sl.del x3 (toNat (KV x3)) (toNat (i64.wrap ((KV x3)+1))))else x3)
def aes:Int:=(bif(decide (x2>1048576))then 6 else 0)
def aet:ag:=⟨#[]⟩
def aeu:Int:=(bif(decide (x2>1048576))then 0 else(i64.wrap ((i64.wrap (x2+1))-1)))
def aev:Sl ag:=(al:Sl ag)
def aew:Int:=(bif(decide (x2>1048576))then x2 else(i64.wrap (x2+1)))
def T0(x0:Int)(x2:Int)(x3:Sl aG):Sl aG:=(bif(decide (x2>1048576))then x3 else(Sl.app (KU x3) (Sl.lit ([(⟨x2,0,x0,0,⟨#[]⟩,0,(al:Sl ag)⟩:aG)]:List aG))))
theorem anH(x3:Sl aG)(a b:Int):F6 x3 a b=a∨F6 x3 a b=b:=by
 unfold F6
 cases decide ((x3.at' (toNat a)).c2<(x3.at' (toNat b)).c2)
 ·exact .inr rfl
 ·exact .inl rfl
theorem ax7(x3:Sl aG):(KU x3).n≤x3.n:=by
 unfold KU
 cases ((x3.n:Int)==4)
 ·exact aCK _
 ·exact Nat.sub_le _ _
def alZ:Hq:=⟨[.p 0],[(.h 0 0,kI),(.h 0 1,.sl aZ),(.h 0 2,kI),(.h 1 0,.ah bG)],[[U,U,U,.own 1 0],[U]],fun(x0:Int) x1 (x2:Int) x3=>⟨⟨some (x3.n≤4),[.agg [ae (aes x2),.str aet,ae (aeu x2),aL 1 e9 aev]],[[ae x0,aL 8 gn x1,ae (aew x2),.own 2 ((T0 x0 x2 x3)).n],[dh],[(Kd.ah bG).av (T0 x0 x2 x3)]]⟩⟩⟩
theorem avh:dz 122 alZ:=dE Tryz.func122
 fun(x0:Int) x1 n1 (x2:Int) x3 n3 hp=>dy (ms:=[.f,.l,.f,.l,.l,.l,.f,.f]) ⟨.ma true [.b 2] [.own (.h 0 3) bG 2],[.cell 2 99],[(.c 0 0,kI),(.c 0 1,kS),(.c 0 2,kI),(.c 0 3,.sl E9),(.h 0 0,kI),(.h 0 1,.sl aZ),(.h 0 2,kI),(.h 2 0,.ah bG)],⟨[.agg [U,U,U,U]],[[U,U,U,.own 2 0],[dh],[U]]⟩⟩ (.ai (.ai (.jc ⟨5,[],[(.h 5 0,.ah bG)],[],.f⟩ [.own (.h 0 3) bG 5] (.ai (.s (.ai (.j ⟨13,[],[],[],.f⟩ (.ai (.lp ⟨14680077,[],[],[(.t 23,kI),(.t 3,kI)],some 0,false,13,[],[(.t 3,kI)],fun k (s:Int×Int)=>T1 x3 k s.1 s.2,.f,fun(s:Int×Int)=>(0≤s.1∧s.1≤(x3.n:Int)∧0≤s.2∧(s.2<s.1∨s.2=0)),fun(s:Int×Int)=>(toNat ((x3.n:Int)-s.1)),some fun(r:Int)=>0≤r∧(r<(x3.n:Int)∨r=0)⟩ (.ai (.ai (.j ⟨549753716797,[],[(.t 3,kI)],[],.f⟩ .z .z))))) .z)) .z)) .z))) (let za:=KV x3;let zc:=i64.wrap (za+1);(decide (x2>1048576))=false→((((x3.n:Int)==4)=true→((((0≤(0:Int)∧(0:Int)≤(x3.n:Int)∧0≤(0:Int)∧((0:Int)<(0:Int)∨(0:Int)=0)))∧(∀(aB:Int) (cu:Int),let zb:=F6 x3 aB cu;let z8:=decide (aB<(x3.n:Int));let z6:=i64.wrap (aB+1);(0≤aB∧aB≤(x3.n:Int)∧0≤cu∧(cu<aB∨cu=0))→((z8=true→((((0:Int)≤aB∧aB<(x3.n:Int))∧((toNat aB)<x3.n))∧(((0:Int)≤cu∧cu<(x3.n:Int))∧((toNat cu)<x3.n))))∧((z8=true→((0≤z6∧z6≤(x3.n:Int)∧0≤zb∧(zb<z6∨zb=0))∧(toNat ((x3.n:Int)-z6))<(toNat ((x3.n:Int)-aB))))∧(z8=false→(0≤cu∧(cu<(x3.n:Int)∨cu=0)))))))∧((0≤za∧(za<(x3.n:Int)∨za=0))→((0:Int)≤za∧(za:Int)<zc∧(zc:Int)≤(x3.n:Int)))))∧((KU x3).n+1≤549755813888))) (bB 2 aQ (az avm bA)) Tryz.func122 ((fun h1=>⟨(fun h2=>⟨⟨(by omega),(fun aB cu hI3=>⟨(fun h4=>⟨⟨(by have:=ay h4;omega),(by have:=ay h4;omega)⟩,⟨(by have:=eq_of_beq h2;omega),(by have:=eq_of_beq h2;omega)⟩⟩),⟨(fun h5=>(by have:=ay h5;have:=anH x3 aB cu;have:=aq (aB+1);omega)),(fun h6=>(by omega))⟩⟩)⟩,(fun CV=>(by have:=eq_of_beq h2;have:=aq ((KV x3)+1);omega))⟩),(by have:=ax7 x3;omega)⟩))
end
section
def tE(x0:Int)(x1:Sl Int)(x2:Bool):Bool:=(bif x2 then true else(decide ((x1.n:Int)<x0)))
def ke(x0:Int)(x1:Sl Int)(x2:Bool):Sl Int:=(bif(tE x0 x1 x2)then(al:Sl Int)else(Sl.part x1 0 x0))
def BO(x0:Int)(x1:Sl Int)(x2:Bool):Sl Int:=(bif(tE x0 x1 x2)then x1 else(Sl.part x1 x0 (x1.n:Int)))
def K0(x0:Int)(x1:Sl Int)(x2:Bool):Bool:=(bif(tE x0 x1 x2)then true else x2)
def al6:Hq:=⟨[.p 0,.v kI],[(.h 0 0,.sl E5),(.h 0 1,kB)],[[U,U]],fun(x0:Int) x1 x2=>⟨⟨some (0≤x0),[aL 1 e5 (ke x0 x1 x2)],[[aL 1 e5 (BO x0 x1 x2),.bool (K0 x0 x1 x2)]]⟩⟩⟩
theorem WN:dz 154 al6:=dE Tryz.func154
 fun(x0:Int) x1 n1 x2 hp=>dy ⟨.heap,[.tmp 4],[(.t 0,.sl E5),(.h 0 0,.sl E5),(.h 0 1,kB)],⟨[U],[[U,U]]⟩⟩ (.ai (.s (.j ⟨262163,[],[(.t 18,kB)],[],.f⟩ .z .z) .z)) ((tE x0 x1 x2)=false→((((0:Int)≤0)∧((0:Int)≤x0)∧((x0:Int)≤x0)∧((x0:Int)≤(x1.n:Int)))∧(((0:Int)≤x0)∧((x0:Int)≤(x1.n:Int))∧(((x1.n:Int):Int)≤(x1.n:Int))∧(((x1.n:Int):Int)≤(x1.n:Int))))) (bB 1 aQ bA) Tryz.func154 ((fun h1=>⟨(by have:=h1;simp [tE]at this;omega),(by have:=h1;simp [tE]at this;omega)⟩))
theorem dx{x0:Int}{x1:Sl Int}{x2:Bool}(h:U8 x1):U8 (BO x0 x1 x2):=by
 unfold BO
 cases tE x0 x1 x2
 ·exact fun i=>h _
 ·exact h
theorem aBg{x0:Int}{x1:Sl Int}{x2:Bool}(h:U8 x1):U8 (ke x0 x1 x2):=by
 unfold ke
 cases tE x0 x1 x2
 ·exact fun i=>h _
 ·exact fun i=>⟨by show(0:Int)≤default;decide,by show(default:Int)≤255;decide⟩
theorem axd(x0:Int)(x1:Sl Int)(x2:Bool):(ke x0 x1 x2).n≤toNat x0:=by
 unfold ke
 cases tE x0 x1 x2
 ·simp only[aCI,Sl.An];omega
 ·simp only[aCJ,DN];omega
def TF(x0:Sl Int)(x1:Bool):Nat→Int→Int→Int
 |0,_,_=>default
 |k+1,af,ak=>(bif(decide (ak<((ke 8 x0 x1).n:Int)))then(TF x0 x1 k (bits .or .u64 (u64.wrap (af*2^(toNat 8))) (u64.wrap ((ke 8 x0 x1).at' (toNat ak)))) (i64.wrap (ak+1)))else af)
variable(x0:Sl Int)(x1:Bool)
def aqo:Int:=TF x0 x1 ((toNat (((ke 8 x0 x1).n:Int)-0))+1) 0 0
def fA:Int:=(i64.wrap (u64.wrap ((aqo x0 x1)-4611686018427387904)))
def bu:Sl Int:=(BO 8 x0 x1)
def bx:Bool:=(K0 8 x0 x1)
def alq:Hq:=⟨[.p 0],[(.h 0 0,.sl E5),(.h 0 1,kB)],[[U,U]],fun x0 x1=>⟨⟨none,[ae (fA x0 x1)],[[aL 1 e5 (bu x0 x1),.bool (bx x0 x1)]]⟩⟩⟩
theorem wB:dz 135 alq:=dE Tryz.func135
 fun x0 n0 x1=>dy ⟨.heap,[.tmp 2],[(.t 0,kI),(.h 0 0,.sl E5),(.h 0 1,kB)],⟨[U],[[U,U]]⟩⟩ (.ai (.ai (.j ⟨12,[],[],[],.f⟩ (.ai (.lp ⟨908,[],[],[(.t 3,.int .u64),(.t 9,kI)],some 0,false,12,[],[(.t 3,.int .u64)],fun k (s:Int×Int)=>TF x0 x1 k s.1 s.2,.f,fun(s:Int×Int)=>(0≤s.2∧s.2≤((ke 8 x0 x1).n:Int)),fun(s:Int×Int)=>(toNat (((ke 8 x0 x1).n:Int)-s.2)),none⟩ .z)) .z))) (let z6:=ke 8 x0 x1;(0≤(8:Int))∧(((0≤(0:Int)∧(0:Int)≤(z6.n:Int)))∧(∀(af:Int) (ak:Int),let za:=decide (ak<(z6.n:Int));let z8:=i64.wrap (ak+1);(0≤ak∧ak≤(z6.n:Int))→((za=true→(((0:Int)≤ak∧ak<(z6.n:Int))∧((0:Int)≤8∧(8:Int)≤64)))∧(za=true→((0≤z8∧z8≤(z6.n:Int))∧(toNat ((z6.n:Int)-z8))<(toNat ((z6.n:Int)-ak)))))))) (bB 1 aQ (az WN bA)) Tryz.func135 (⟨(by omega),⟨(by omega),(fun af ak dX=>⟨(fun h2=>⟨(by have:=ay h2;omega),(by omega)⟩),(fun h3=>(by have:=ay h3;have:=axd 8 x0 x1;have:=aq (ak+1);omega))⟩)⟩⟩)
theorem ff{x0:Sl Int}{x1:Bool}(h:U8 x0):U8 (bu x0 x1):=dx h
def dI:Int:=(bif(decide (0<((ke 1 x0 x1).n:Int)))then(i64.wrap ((ke 1 x0 x1).at' (toNat 0)))else 0)
def cX:Sl Int:=(BO 1 x0 x1)
def dm:Bool:=(K0 1 x0 x1)
def alB:Hq:=⟨[.p 0],[(.h 0 0,.sl E5),(.h 0 1,kB)],[[U,U]],fun x0 x1=>⟨⟨none,[ae (dI x0 x1)],[[aL 1 e5 (cX x0 x1),.bool (dm x0 x1)]]⟩⟩⟩
theorem r8:dz 141 alB:=dE Tryz.func141
 fun x0 n0 x1=>dy (ms:=[.f,.l,.l]) ⟨.heap,[.tmp 2],[(.t 0,kI),(.h 0 0,.sl E5),(.h 0 1,kB)],⟨[U],[[U,U]]⟩⟩ (.ai (.s (.ai (.l1 .z)) .z)) ((0≤(1:Int))∧((decide (0<((ke 1 x0 x1).n:Int)))=true→((0:Int)≤0∧0<(((ke 1 x0 x1).n:Nat):Int)))) (bB 1 aQ (az WN bA)) Tryz.func141 (⟨(by omega),(fun h1=>(by have:=ay h1;omega))⟩)
theorem fh{x0:Sl Int}{x1:Bool}(h:U8 x0):U8 (cX x0 x1):=dx h
theorem DX(x0:Sl Int)(x1:Bool)(h:U8 x0):0≤dI x0 x1∧dI x0 x1≤255:=by
 unfold dI;have h2:0≤(ke 1 x0 x1).at' (toNat 0)∧(ke 1 x0 x1).at' (toNat 0)≤255:=aBg h _
 cases decide (0<((ke 1 x0 x1).n:Int))
 ·simp
 ·simp only[aCJ];rw[aq _];exact h2
def pI:ag:=(Sl.toStr (ke (dI x0 x1) (cX x0 x1) (dm x0 x1)))
def dR:Sl Int:=(BO (dI x0 x1) (cX x0 x1) (dm x0 x1))
def eH:Bool:=(K0 (dI x0 x1) (cX x0 x1) (dm x0 x1))
def aly:Hq:=⟨[.p 0],[(.h 0 0,.sl E5),(.h 0 1,kB)],[[U,U]],fun x0 x1=>⟨⟨some (U8 x0),[.str (pI x0 x1)],[[aL 1 e5 (dR x0 x1),.bool (eH x0 x1)]]⟩⟩⟩
theorem zT:dz 138 aly:=dE Tryz.func138
 fun x0 n0 x1 hp=>dy ⟨.heap,[.tmp 2],[(.t 0,kS),(.h 0 0,.sl E5),(.h 0 1,kB)],⟨[U],[[U,U]]⟩⟩ (.z) (0≤(dI x0 x1)) (bB 1 aQ (az r8 (az WN bA))) Tryz.func138 ((by have:=DX x0 x1 (by repeat first|assumption|apply dx|apply ff|apply fh|apply fg|apply gD|apply gA);omega))
theorem fg{x0:Sl Int}{x1:Bool}(h:U8 x0):U8 (dR x0 x1):=dx (fh h)
def ae5:Int:=(dI x0 x1)
def ae6:ag:=(pI (cX x0 x1) (dm x0 x1))
def ae7:ag:=(pI (dR (cX x0 x1) (dm x0 x1)) (eH (cX x0 x1) (dm x0 x1)))
def ae8:ag:=let z8:=eH (cX x0 x1) (dm x0 x1);let z6:=dR (cX x0 x1) (dm x0 x1);(pI (dR z6 z8) (eH z6 z8))
def ae9:Int:=let z8:=eH (cX x0 x1) (dm x0 x1);let z6:=dR (cX x0 x1) (dm x0 x1);(fA (dR (dR z6 z8) (eH z6 z8)) (eH (dR z6 z8) (eH z6 z8)))
def ae_:Sl Int:=let z8:=eH (cX x0 x1) (dm x0 x1);let z6:=dR (cX x0 x1) (dm x0 x1);(bu (dR (dR z6 z8) (eH z6 z8)) (eH (dR z6 z8) (eH z6 z8)))
def afa:Bool:=let z8:=eH (cX x0 x1) (dm x0 x1);let z6:=dR (cX x0 x1) (dm x0 x1);(bx (dR (dR z6 z8) (eH z6 z8)) (eH (dR z6 z8) (eH z6 z8)))
def aml:Hq:=⟨[.p 0],[(.h 0 0,.sl E5),(.h 0 1,kB)],[[U,U]],fun x0 x1=>⟨⟨some (U8 x0),[.agg [ae (ae5 x0 x1),.str (ae6 x0 x1),.str (ae7 x0 x1),.str (ae8 x0 x1),ae (ae9 x0 x1)]],[[aL 1 e5 (ae_ x0 x1),.bool (afa x0 x1)]]⟩⟩⟩
theorem avz:dz 194 aml:=dE Tryz.func194
 fun x0 _ x1 hp=>dy ⟨.heap,[.cell 2 34],[(.c 0 0,kI),(.c 0 1,kS),(.c 0 2,kS),(.c 0 3,kS),(.c 0 4,kI),(.h 0 0,.sl E5),(.h 0 1,kB)],⟨[.agg (us 5 [])],[[U,U]]⟩⟩ (.z) (let z8:=cX x0 x1;let z6:=dR z8 (dm x0 x1);(U8 z8)∧((U8 z6)∧(U8 (dR z6 (eH z8 (dm x0 x1)))))) (bB 1 aQ (az wB (az zT (az r8 bA)))) Tryz.func194 (⟨(by repeat first|assumption|apply dx),⟨(by repeat first|assumption|apply dx),(by repeat first|assumption|apply dx)⟩⟩)
def aqz:Sl Int:=let z6:=bu x0 x1;(bif((fA x0 x1)!=0)then(ae_ (bu z6 (bx x0 x1)) (bx z6 (bx x0 x1)))else z6)
def aqA:Bool:=let z6:=bx x0 x1;(bif((fA x0 x1)!=0)then(afa (bu (bu x0 x1) z6) (bx (bu x0 x1) z6))else z6)
def aqB:Int:=(bif((fA x0 x1)!=0)then(fA (bu x0 x1) (bx x0 x1))else 0)
def aqC:Int:=(bif((fA x0 x1)!=0)then(ae5 (bu (bu x0 x1) (bx x0 x1)) (bx (bu x0 x1) (bx x0 x1)))else 0)
def aqD:ag:=(bif((fA x0 x1)!=0)then(ae6 (bu (bu x0 x1) (bx x0 x1)) (bx (bu x0 x1) (bx x0 x1)))else⟨#[]⟩)
def aqE:ag:=(bif((fA x0 x1)!=0)then(ae7 (bu (bu x0 x1) (bx x0 x1)) (bx (bu x0 x1) (bx x0 x1)))else⟨#[]⟩)
def aqF:ag:=(bif((fA x0 x1)!=0)then(ae8 (bu (bu x0 x1) (bx x0 x1)) (bx (bu x0 x1) (bx x0 x1)))else⟨#[]⟩)
def aqG:Int:=(bif((fA x0 x1)!=0)then(ae9 (bu (bu x0 x1) (bx x0 x1)) (bx (bu x0 x1) (bx x0 x1)))else 0)
def aey:Int:=(fA x0 x1)
def aez:Int:=(aqB x0 x1)
def aeA:Int:=(aqC x0 x1)
def aeB:ag:=(aqD x0 x1)
def aeC:ag:=(aqE x0 x1)
def aeD:ag:=(aqF x0 x1)
def aeE:Int:=(aqG x0 x1)
def aeF:Sl Int:=(aqz x0 x1)
def aeG:Bool:=(aqA x0 x1)
def al4:Hq:=⟨[.p 0],[(.h 0 0,.sl E5),(.h 0 1,kB)],[[U,U]],fun x0 x1=>⟨⟨some (U8 x0),[.agg [ae (aey x0 x1),ae (aez x0 x1),ae (aeA x0 x1),.str (aeB x0 x1),.str (aeC x0 x1),.str (aeD x0 x1),ae (aeE x0 x1)]],[[aL 1 e5 (aeF x0 x1),.bool (aeG x0 x1)]]⟩⟩⟩
theorem avl:dz 168 al4:=dE Tryz.func168
 fun x0 _ x1 hp=>dy ⟨.heap,[.cell 2 36],[(.c 0 0,kI),(.c 0 1,kI),(.c 0 2,kI),(.c 0 3,kS),(.c 0 4,kS),(.c 0 5,kS),(.c 0 6,kI),(.h 0 0,.sl E5),(.h 0 1,kB)],⟨[.agg (us 7 [])],[[U,U]]⟩⟩ (.ai (.ai (.j ⟨12,[],[(.h 0 0,.sl E5),(.h 0 1,kB),(.h 2 1,kI),(.h 2 2,kI),(.h 2 3,kS),(.h 2 4,kS),(.h 2 5,kS),(.h 2 6,kI)],[],.f⟩ .z .z))) (((fA x0 x1)!=0)=true→(U8 (bu (bu x0 x1) (bx x0 x1)))) (bB 1 aQ (az wB (az avz bA))) Tryz.func168 ((fun h1=>(by repeat first|assumption|apply dx)))
def aqd:Sl Int:=let z8:=bx (bu x0 x1) (bx x0 x1);let z6:=bu (bu x0 x1) (bx x0 x1);(bif((dI z6 z8)==0)then(aeF (cX z6 z8) (dm z6 z8))else(cX z6 z8))
def aqf:Bool:=let z8:=bx (bu x0 x1) (bx x0 x1);let z6:=bu (bu x0 x1) (bx x0 x1);(bif((dI z6 z8)==0)then(aeG (cX z6 z8) (dm z6 z8))else(dm z6 z8))
def aqg:Bool:=(bif((dI (bu (bu x0 x1) (bx x0 x1)) (bx (bu x0 x1) (bx x0 x1)))==0)then false else true)
def aqh:Int:=let z8:=bx (bu x0 x1) (bx x0 x1);let z6:=bu (bu x0 x1) (bx x0 x1);(bif((dI z6 z8)==0)then(aey (cX z6 z8) (dm z6 z8))else 0)
def aqi:Int:=let z8:=bx (bu x0 x1) (bx x0 x1);let z6:=bu (bu x0 x1) (bx x0 x1);(bif((dI z6 z8)==0)then(aez (cX z6 z8) (dm z6 z8))else 0)
def aqj:Int:=let z8:=bx (bu x0 x1) (bx x0 x1);let z6:=bu (bu x0 x1) (bx x0 x1);(bif((dI z6 z8)==0)then(aeA (cX z6 z8) (dm z6 z8))else 0)
def aqk:ag:=let z8:=bx (bu x0 x1) (bx x0 x1);let z6:=bu (bu x0 x1) (bx x0 x1);(bif((dI z6 z8)==0)then(aeB (cX z6 z8) (dm z6 z8))else⟨#[]⟩)
def aql:ag:=let z8:=bx (bu x0 x1) (bx x0 x1);let z6:=bu (bu x0 x1) (bx x0 x1);(bif((dI z6 z8)==0)then(aeC (cX z6 z8) (dm z6 z8))else⟨#[]⟩)
def aqm:ag:=let z8:=bx (bu x0 x1) (bx x0 x1);let z6:=bu (bu x0 x1) (bx x0 x1);(bif((dI z6 z8)==0)then(aeD (cX z6 z8) (dm z6 z8))else⟨#[]⟩)
def aqe:Int:=let z8:=bx (bu x0 x1) (bx x0 x1);let z6:=bu (bu x0 x1) (bx x0 x1);(bif((dI z6 z8)==0)then(aeE (cX z6 z8) (dm z6 z8))else 0)
def pH:Bool:=let z6:=dI (bu (bu x0 x1) (bx x0 x1)) (bx (bu x0 x1) (bx x0 x1));(bif(z6==0)then true else(bif(z6==1)then true else false))
def nU:Int:=(fA x0 x1)
def nV:Int:=(fA (bu x0 x1) (bx x0 x1))
def nW:Bool:=(bif(pH x0 x1)then(aqg x0 x1)else false)
def nX:Int:=(bif(pH x0 x1)then(aqh x0 x1)else 0)
def nY:Int:=(bif(pH x0 x1)then(aqi x0 x1)else 0)
def nZ:Int:=(bif(pH x0 x1)then(aqj x0 x1)else 0)
def n_:ag:=(bif(pH x0 x1)then(aqk x0 x1)else⟨#[]⟩)
def oa:ag:=(bif(pH x0 x1)then(aql x0 x1)else⟨#[]⟩)
def oc:ag:=(bif(pH x0 x1)then(aqm x0 x1)else⟨#[]⟩)
def od:Int:=(bif(pH x0 x1)then(aqe x0 x1)else 0)
def oQ:Bool:=(bif(pH x0 x1)then true else false)
def oR:Sl Int:=(bif(pH x0 x1)then(aqd x0 x1)else(cX (bu (bu x0 x1) (bx x0 x1)) (bx (bu x0 x1) (bx x0 x1))))
def oS:Bool:=(bif(pH x0 x1)then(aqf x0 x1)else(dm (bu (bu x0 x1) (bx x0 x1)) (bx (bu x0 x1) (bx x0 x1))))
def alg:Hq:=⟨[.p 0],[(.h 0 0,.sl E5),(.h 0 1,kB)],[[U,U]],fun x0 x1=>⟨⟨some (U8 x0),[.agg [ae (nU x0 x1),ae (nV x0 x1),.bool (nW x0 x1),ae (nX x0 x1),ae (nY x0 x1),ae (nZ x0 x1),.str (n_ x0 x1),.str (oa x0 x1),.str (oc x0 x1),ae (od x0 x1)],.bool (oQ x0 x1)],[[aL 1 e5 (oR x0 x1),.bool (oS x0 x1)]]⟩⟩⟩
theorem auQ:dz 153 alg:=dE Tryz.func153
 fun x0 _ x1 hp=>dy (ms:=[.l,.l,.f,.f,.f,.f,.f,.f,.f,.f,.f,.f,.f]) ⟨.heap,[.cell 2 53,.tmp 3],[(.c 0 0,kI),(.c 0 1,kI),(.c 0 2,kB),(.c 0 3,kI),(.c 0 4,kI),(.c 0 5,kI),(.c 0 6,kS),(.c 0 7,kS),(.c 0 8,kS),(.c 0 9,kI),(.t 1,kB),(.h 0 0,.sl E5),(.h 0 1,kB)],⟨[.agg (us 10 []),U],[[U,U]]⟩⟩ (.ai (.ai (.j ⟨28,[],[(.h 0 0,.sl E5),(.h 0 1,kB),(.h 2 2,kB),(.h 2 3,kI),(.h 2 4,kI),(.h 2 5,kI),(.h 2 6,kS),(.h 2 7,kS),(.h 2 8,kS),(.h 2 9,kI)],[],.f⟩ .z .z))) (let z8:=bx (bu x0 x1) (bx x0 x1);let z6:=bu (bu x0 x1) (bx x0 x1);((dI z6 z8)==0)=true→(U8 (cX z6 z8))) (bB 1 aQ (az wB (az r8 (az avl bA)))) Tryz.func153 ((fun h1=>(by repeat first|assumption|apply dx)))
def aqn(x0:Bool)(x1:Sl Int):Bool:=(bif(!x0)then true else(decide ((x1.n:Int)>0)))
def lA(x0:Bool)(x1:Sl Int)(x2:Bool):Int:=(bif x2 then 9 else(bif(aqn x0 x1)then 8 else 0))
def alh:Hq:=⟨[.p 0,.v kB],[(.h 0 0,.sl E5),(.h 0 1,kB)],[[U,U]],fun x0 x1 x2=>⟨⟨none,[ae (lA x0 x1 x2)],[[aL 1 e5 x1,.bool x2]]⟩⟩⟩
theorem ahn:dz 143 alh:=dE Tryz.func143
 fun x0 x1 _ x2=>dy (ms:=[.f,.l,.l]) ⟨.heap,[.tmp 4],[(.t 0,kI),(.h 0 0,.sl E5),(.h 0 1,kB)],⟨[U],[[U,U]]⟩⟩ (.ai (.s (.ai (.ai (.j ⟨1040,[],[(.t 10,kB)],[],.f⟩ .z .z))) .z)) True (bB 1 aQ bA) Tryz.func143 (trivial)
def af9:Int:=(bif(decide ((x0.n:Int)>20000))then 0 else(bif((lA (oQ x0 false) (oR x0 false) (oS x0 false))!=0)then 0 else(bif((il (nU x0 false) (nV x0 false) (nW x0 false) (nX x0 false) (nY x0 false) (nZ x0 false) (n_ x0 false) (oa x0 false) (oc x0 false) (od x0 false))!=0)then 0 else(nU x0 false))))
def af_:Int:=(bif(decide ((x0.n:Int)>20000))then 0 else(bif((lA (oQ x0 false) (oR x0 false) (oS x0 false))!=0)then 0 else(bif((il (nU x0 false) (nV x0 false) (nW x0 false) (nX x0 false) (nY x0 false) (nZ x0 false) (n_ x0 false) (oa x0 false) (oc x0 false) (od x0 false))!=0)then 0 else(nV x0 false))))
def aga:Bool:=(bif(decide ((x0.n:Int)>20000))then false else(bif((lA (oQ x0 false) (oR x0 false) (oS x0 false))!=0)then false else(bif((il (nU x0 false) (nV x0 false) (nW x0 false) (nX x0 false) (nY x0 false) (nZ x0 false) (n_ x0 false) (oa x0 false) (oc x0 false) (od x0 false))!=0)then false else(nW x0 false))))
def agb:Int:=(bif(decide ((x0.n:Int)>20000))then 0 else(bif((lA (oQ x0 false) (oR x0 false) (oS x0 false))!=0)then 0 else(bif((il (nU x0 false) (nV x0 false) (nW x0 false) (nX x0 false) (nY x0 false) (nZ x0 false) (n_ x0 false) (oa x0 false) (oc x0 false) (od x0 false))!=0)then 0 else(nX x0 false))))
def agc:Int:=(bif(decide ((x0.n:Int)>20000))then 0 else(bif((lA (oQ x0 false) (oR x0 false) (oS x0 false))!=0)then 0 else(bif((il (nU x0 false) (nV x0 false) (nW x0 false) (nX x0 false) (nY x0 false) (nZ x0 false) (n_ x0 false) (oa x0 false) (oc x0 false) (od x0 false))!=0)then 0 else(nY x0 false))))
def agd:Int:=(bif(decide ((x0.n:Int)>20000))then 0 else(bif((lA (oQ x0 false) (oR x0 false) (oS x0 false))!=0)then 0 else(bif((il (nU x0 false) (nV x0 false) (nW x0 false) (nX x0 false) (nY x0 false) (nZ x0 false) (n_ x0 false) (oa x0 false) (oc x0 false) (od x0 false))!=0)then 0 else(nZ x0 false))))
def age:ag:=(bif(decide ((x0.n:Int)>20000))then⟨#[]⟩else(bif((lA (oQ x0 false) (oR x0 false) (oS x0 false))!=0)then⟨#[]⟩else(bif((il (nU x0 false) (nV x0 false) (nW x0 false) (nX x0 false) (nY x0 false) (nZ x0 false) (n_ x0 false) (oa x0 false) (oc x0 false) (od x0 false))!=0)then⟨#[]⟩else(n_ x0 false))))
def agf:ag:=(bif(decide ((x0.n:Int)>20000))then⟨#[]⟩else(bif((lA (oQ x0 false) (oR x0 false) (oS x0 false))!=0)then⟨#[]⟩else(bif((il (nU x0 false) (nV x0 false) (nW x0 false) (nX x0 false) (nY x0 false) (nZ x0 false) (n_ x0 false) (oa x0 false) (oc x0 false) (od x0 false))!=0)then⟨#[]⟩else(oa x0 false))))
def agh:ag:=(bif(decide ((x0.n:Int)>20000))then⟨#[]⟩else(bif((lA (oQ x0 false) (oR x0 false) (oS x0 false))!=0)then⟨#[]⟩else(bif((il (nU x0 false) (nV x0 false) (nW x0 false) (nX x0 false) (nY x0 false) (nZ x0 false) (n_ x0 false) (oa x0 false) (oc x0 false) (od x0 false))!=0)then⟨#[]⟩else(oc x0 false))))
def agi:Int:=(bif(decide ((x0.n:Int)>20000))then 0 else(bif((lA (oQ x0 false) (oR x0 false) (oS x0 false))!=0)then 0 else(bif((il (nU x0 false) (nV x0 false) (nW x0 false) (nX x0 false) (nY x0 false) (nZ x0 false) (n_ x0 false) (oa x0 false) (oc x0 false) (od x0 false))!=0)then 0 else(od x0 false))))
def agj:Int:=let z8:=lA (oQ x0 false) (oR x0 false) (oS x0 false);let z6:=il (nU x0 false) (nV x0 false) (nW x0 false) (nX x0 false) (nY x0 false) (nZ x0 false) (n_ x0 false) (oa x0 false) (oc x0 false) (od x0 false);(bif(decide ((x0.n:Int)>20000))then 1 else(bif(z8 !=0)then z8 else(bif(z6 !=0)then z6 else 0)))
def F81:Fq:=⟨[.v (.sl E5)],fun x0=>⟨⟨some (U8 x0),.cU [.agg [ae (af9 x0),ae (af_ x0),.bool (aga x0),ae (agb x0),ae (agc x0),ae (agd x0),.str (age x0),.str (agf x0),.str (agh x0),ae (agi x0)],ae (agj x0)]⟩⟩⟩
theorem k81:ba 128 F81:=bf Tryz.func128
 fun x0 _ _ hp=>bj ⟨.pure,[.cell 2 53,.tmp 3],[(.c 0 0,kI),(.c 0 1,kI),(.c 0 2,kB),(.c 0 3,kI),(.c 0 4,kI),(.c 0 5,kI),(.c 0 6,kS),(.c 0 7,kS),(.c 0 8,kS),(.c 0 9,kI),(.t 1,kI)],⟨[.agg (us 10 []),U],[]⟩⟩ (.z) ((decide ((x0.n:Int)>20000))=false→(U8 x0)) (bB 0 (aH N8 aQ) (az auQ (az ahn bA))) Tryz.func128 ((fun h1=>(by assumption)))
end
section
variable(x0:Sl Int)(x1:Bool)(x2:Sl ag)
def K8:Sl Int:=(dR x0 x1)
def aeJ:Bool:=(eH x0 x1)
def F_:Sl ag:=(Sl.app x2 (Sl.lit ([(pI x0 x1)]:List ag)))
def al9:Hq:=⟨[.p 0,.p 1],[(.h 2 0,.sl E5),(.h 2 1,kB),(.h 3 0,.ah E9)],[[.own 3 0],[.ptr 2 0],[U,U],[U]],fun x0 x1 x2=>⟨⟨some (U8 x0∧x2.n≤1000),[],[[.own 3 ((F_ x0 x1 x2)).n],[.ptr 2 0],[aL 1 e5 (K8 x0 x1),.bool (aeJ x0 x1)],[(Kd.ah E9).av (F_ x0 x1 x2)]]⟩⟩⟩
theorem avp:dz 157 al9:=dE Tryz.func157
 fun x0 n0 x1 x2 n2 hp=>dy ⟨.heap,[],[(.h 2 0,.sl E5),(.h 2 1,kB),(.h 3 0,.ah E9)],⟨[],[[.own 3 0],[.ptr 2 0],[U,U],[U]]⟩⟩ (.z) ((U8 x0)∧(x2.n+1≤549755813888)) (bB 4 aQ (az zT bA)) Tryz.func157 (have⟨cn,dv⟩:=hp;⟨(by assumption),(by omega)⟩)
theorem f_{x0:Sl Int}{x1:Bool}(h:U8 x0):U8 (K8 x0 x1):=fg h
theorem axg(x0:Sl Int)(x1:Bool)(x2:Sl ag):(F_ x0 x1 x2).n=x2.n+1:=rfl
def FV(af:Int)(aV:Bool):Bool:=(bif(decide (af>0))then(!aV)else false)
def FU:Nat→Int→Sl Int→Bool→Sl ag→Sl Int×Bool×Sl ag
 |0,_,_,_,_=>default
 |k+1,af,ak,aV,bw=>(bif(FV af aV)then(FU k (i64.wrap (af-1)) (K8 ak aV) (aeJ ak aV) (F_ ak aV bw))else(ak,aV,bw))
def TO:Sl Int×Bool×Sl ag:=FU ((toNat (dI x0 x1))+1) (dI x0 x1) (cX x0 x1) (dm x0 x1) x2
def TN:Sl Int:=(TO x0 x1 x2).1
def adM:Bool:=(TO x0 x1 x2).2.1
def adN:Sl ag:=(TO x0 x1 x2).2.2
def alw:Hq:=⟨[.p 2,.fp 157 [0,1]],[(.h 2 0,.sl E5),(.h 2 1,kB),(.h 3 0,.ah E9)],[[.own 3 0],[.ptr 2 0],[U,U],[U]],fun x0 x1 x2=>let z6:=adN x0 x1 x2;⟨⟨some (U8 x0∧x2.n≤10),[],[[.own 3 (z6).n],[.ptr 2 0],[aL 1 e5 (TN x0 x1 x2),.bool (adM x0 x1 x2)],[(Kd.ah E9).av z6]]⟩⟩⟩
theorem auW:dz 136 alw:=dE Tryz.func136
 fun x0 n0 x1 x2 n2 hp=>dy ⟨.heap,[],[(.h 2 0,.sl E5),(.h 2 1,kB),(.h 3 0,.ah E9)],⟨[],[[.own 3 0],[.ptr 2 0],[U,U],[U]]⟩⟩ (.ai (.lp ⟨19,[],[],[(.t 4,kI),(.h 2 0,.sl E5),(.h 2 1,kB),(.h 3 0,.ah E9)],some 0,false,0,[],[(.h 2 0,.sl E5),(.h 2 1,kB),(.h 3 0,.ah E9)],fun k (s:Int×Sl Int×Bool×Sl ag)=>FU k s.1 s.2.1 s.2.2.1 s.2.2.2,.f,fun(s:Int×Sl Int×Bool×Sl ag)=>(U8 s.2.1∧0≤s.1∧s.1≤255∧(s.2.2.2.n:Int)≤(x2.n:Int)+255-s.1),fun(s:Int×Sl Int×Bool×Sl ag)=>(toNat s.1),none⟩ (.s (.j ⟨33683,[],[(.t 9,kB),(.t 15,kB)],[],.f⟩ .z .z) .z))) (((U8 (cX x0 x1)∧0≤(dI x0 x1)∧(dI x0 x1)≤255∧(x2.n:Int)≤(x2.n:Int)+255- (dI x0 x1)))∧(∀(af:Int) (ak:Sl Int) (aV:Bool) (bw:Sl ag),let z8:=FV af aV;let z6:=i64.wrap (af-1);(U8 ak∧0≤af∧af≤255∧(bw.n:Int)≤(x2.n:Int)+255-af)→((z8=true→(U8 ak∧bw.n≤1000))∧(z8=true→((U8 (K8 ak aV)∧0≤z6∧z6≤255∧(((F_ ak aV bw).n:Nat):Int)≤(x2.n:Int)+255-z6)∧(toNat z6)<(toNat af)))))) (bB 4 aQ (az r8 (az avp bA))) Tryz.func136 (have⟨cn,dv⟩:=hp;⟨⟨(by repeat first|assumption|apply dx),(by have:=DX x0 x1 (by repeat first|assumption|apply dx|apply ff|apply fh|apply fg|apply gD|apply gA|apply f_|apply fU|apply fV);omega)⟩,(fun af ak aV bw dX=>have oy:=dX.1;⟨(fun h2=>⟨(by assumption),(by omega)⟩),(fun h3=>⟨⟨(by repeat first|assumption|apply dx),(by have:=h3;(try simp [FV]at this);have:=axg ak aV bw;have:=aq (af-1);omega)⟩,(by have:=h3;(try simp [FV]at this);have:=aq (af-1);omega)⟩)⟩)⟩)
theorem aj0: ∀(m:Nat) (n:Int) (s:Sl Int) (b:Bool) (l:Sl ag),U8 s→U8 (FU m n s b l).1
 |0,_,_,_,_,_=>fun i=>by show(0:Int)≤0∧(0:Int)≤255;omega
 |m+1,n,s,b,l,h=>by
  rw[FU]
  cases FV n b
  ·exact h
  ·exact aj0 m _ _ _ _ (f_ h)
theorem fU{x0:Sl Int}{x1:Bool}{x2:Sl ag}(h:U8 x0):U8 (TN x0 x1 x2):=aj0 _ _ _ _ _ (fh h)
def TP:Sl ag:=(adN x0 x1 (al:Sl ag))
def xI:Sl Int:=(TN x0 x1 (al:Sl ag))
def F3:Bool:=(adM x0 x1 (al:Sl ag))
def alC:Hq:=⟨[.p 0],[(.h 0 0,.sl E5),(.h 0 1,kB)],[[U,U]],fun x0 x1=>⟨⟨some (U8 x0),[aL 1 e9 (TP x0 x1)],[[aL 1 e5 (xI x0 x1),.bool (F3 x0 x1)]]⟩⟩⟩
theorem ahr:dz 142 alC:=dE Tryz.func142
 fun x0 n0 x1 hp=>dy ⟨.heap,[.tmp 2],[(.t 0,.sl E9),(.h 0 0,.sl E5),(.h 0 1,kB)],⟨[U],[[U,U]]⟩⟩ (.ai (.ai (.s (.cv [(.h 2 0,E9)]) .z))) (U8 x0∧0≤10) (bB 1 aQ (az auW bA)) Tryz.func142 (⟨(by assumption),(by omega)⟩)
theorem fV{x0:Sl Int}{x1:Bool}(h:U8 x0):U8 (xI x0 x1):=fU h
end
section
variable(af:Int)(aV:Bool)(x0:Sl Int)(x1:Bool)(x4:Sl Int)(x5:Bool)(x6:Sl bk)(x7:Sl bD)
def K6:Sl Int:=(dR (dR x4 x5) (eH x4 x5))
def aeH:Bool:=(eH (dR x4 x5) (eH x4 x5))
def F8:Sl bk:=(Sl.app x6 (Sl.lit ([(⟨(pI x4 x5),(pI (dR x4 x5) (eH x4 x5))⟩:bk)]:List bk)))
def al7:Hq:=⟨[.p 0,.p 1],[(.h 0 0,kI),(.h 0 1,kS),(.h 0 2,kI),(.h 0 4,.sl E9),(.h 2 0,.sl E5),(.h 2 1,kB),(.h 3 0,.ah cN),(.h 4 0,.ah cH)],[[U,U,U,.own 3 0,U,.own 4 0],[.ptr 2 0],[U,U],[U],[U]],fun(x0:Int) x1 (x2:Int) x3 x4 x5 x6 x7=>⟨⟨some (U8 x4∧x6.n≤1000),[],[[ae x0,.str x1,ae x2,.own 3 ((F8 x4 x5 x6)).n,aL 1 e9 x3,.own 4 (x7).n],[.ptr 2 0],[aL 1 e5 (K6 x4 x5),.bool (aeH x4 x5)],[(Kd.ah cN).av (F8 x4 x5 x6)],[(Kd.ah cH).av x7]]⟩⟩⟩
theorem avn:dz 155 al7:=dE Tryz.func155
 fun(x0:Int) x1 n1 (x2:Int) x3 n3 x4 n4 x5 x6 n6 x7 n7 hp=>dy ⟨.heap,[],[(.h 0 0,kI),(.h 0 1,kS),(.h 0 2,kI),(.h 0 4,.sl E9),(.h 2 0,.sl E5),(.h 2 1,kB),(.h 3 0,.ah cN),(.h 4 0,.ah cH)],⟨[],[[U,U,U,.own 3 0,U,.own 4 0],[.ptr 2 0],[U,U],[U],[U]]⟩⟩ (.z) ((U8 x4)∧((U8 (dR x4 x5))∧(x6.n+1≤549755813888))) (bB 5 aQ (az zT bA)) Tryz.func155 (have⟨cn,dv⟩:=hp;⟨(by assumption),⟨(by repeat first|assumption|apply dx),(by omega)⟩⟩)
theorem gB{x4:Sl Int}{x5:Bool}(h:U8 x4):U8 (K6 x4 x5):=fg (fg h)
theorem axe(x4:Sl Int)(x5:Bool)(x6:Sl bk):(F8 x4 x5 x6).n=x6.n+1:=rfl
def FQ:Bool:=(bif(decide (af>0))then(!aV)else false)
def FP:Nat→Int→Sl Int→Bool→Sl bk→Sl Int×Bool×Sl bk
 |0,_,_,_,_=>default
 |k+1,af,ak,aV,bw=>(bif(FQ af aV)then(FP k (i64.wrap (af-1)) (K6 ak aV) (aeH ak aV) (F8 ak aV bw))else(ak,aV,bw))
def TK:Sl Int×Bool×Sl bk:=FP ((toNat (dI x4 x5))+1) (dI x4 x5) (cX x4 x5) (dm x4 x5) x6
def xH:Sl Int:=(TK x4 x5 x6).1
def BG:Bool:=(TK x4 x5 x6).2.1
def adJ:Sl bk:=(TK x4 x5 x6).2.2
def alu:Hq:=⟨[.p 2,.fp 155 [0,1]],[(.h 0 0,kI),(.h 0 1,kS),(.h 0 2,kI),(.h 0 4,.sl E9),(.h 2 0,.sl E5),(.h 2 1,kB),(.h 3 0,.ah cN),(.h 4 0,.ah cH)],[[U,U,U,.own 3 0,U,.own 4 0],[.ptr 2 0],[U,U],[U],[U]],fun(x0:Int) x1 (x2:Int) x3 x4 x5 x6 x7=>let z6:=adJ x4 x5 x6;⟨⟨some (U8 x4∧x6.n≤10),[],[[ae x0,.str x1,ae x2,.own 3 (z6).n,aL 1 e9 x3,.own 4 (x7).n],[.ptr 2 0],[aL 1 e5 (xH x4 x5 x6),.bool (BG x4 x5 x6)],[(Kd.ah cN).av z6],[(Kd.ah cH).av x7]]⟩⟩⟩
theorem auU:dz 136 alu:=dE Tryz.func136
 fun(x0:Int) x1 n1 (x2:Int) x3 n3 x4 n4 x5 x6 n6 x7 n7 hp=>dy ⟨.heap,[],[(.h 0 0,kI),(.h 0 1,kS),(.h 0 2,kI),(.h 0 4,.sl E9),(.h 2 0,.sl E5),(.h 2 1,kB),(.h 3 0,.ah cN),(.h 4 0,.ah cH)],⟨[],[[U,U,U,.own 3 0,U,.own 4 0],[.ptr 2 0],[U,U],[U],[U]]⟩⟩ (.ai (.lp ⟨19,[],[],[(.t 4,kI),(.h 2 0,.sl E5),(.h 2 1,kB),(.h 3 0,.ah cN)],some 0,false,0,[],[(.h 2 0,.sl E5),(.h 2 1,kB),(.h 3 0,.ah cN)],fun k (s:Int×Sl Int×Bool×Sl bk)=>FP k s.1 s.2.1 s.2.2.1 s.2.2.2,.f,fun(s:Int×Sl Int×Bool×Sl bk)=>(U8 s.2.1∧0≤s.1∧s.1≤255∧(s.2.2.2.n:Int)≤(x6.n:Int)+255-s.1),fun(s:Int×Sl Int×Bool×Sl bk)=>(toNat s.1),none⟩ (.s (.j ⟨33683,[],[(.t 9,kB),(.t 15,kB)],[],.f⟩ .z .z) .z))) (((U8 (cX x4 x5)∧0≤(dI x4 x5)∧(dI x4 x5)≤255∧(x6.n:Int)≤(x6.n:Int)+255- (dI x4 x5)))∧(∀(af:Int) (ak:Sl Int) (aV:Bool) (bw:Sl bk),let z8:=FQ af aV;let z6:=i64.wrap (af-1);(U8 ak∧0≤af∧af≤255∧(bw.n:Int)≤(x6.n:Int)+255-af)→((z8=true→(U8 ak∧bw.n≤1000))∧(z8=true→((U8 (K6 ak aV)∧0≤z6∧z6≤255∧(((F8 ak aV bw).n:Nat):Int)≤(x6.n:Int)+255-z6)∧(toNat z6)<(toNat af)))))) (bB 5 aQ (az r8 (az avn bA))) Tryz.func136 (have⟨cn,dv⟩:=hp;⟨⟨(by repeat first|assumption|apply dx),(by have:=DX x4 x5 (by repeat first|assumption|apply dx|apply ff|apply fh|apply fg|apply gD|apply gA|apply f_|apply fU|apply fV|apply gB|apply fT|apply gC|apply gy|apply gz);omega)⟩,(fun af ak aV bw dX=>have oy:=dX.1;⟨(fun h2=>⟨(by assumption),(by omega)⟩),(fun h3=>⟨⟨(by repeat first|assumption|apply dx),(by have:=h3;(try simp [FQ]at this);have:=axe ak aV bw;have:=aq (af-1);omega)⟩,(by have:=h3;(try simp [FQ]at this);have:=aq (af-1);omega)⟩)⟩)⟩)
theorem ajY: ∀(m:Nat) (n:Int) (s:Sl Int) (b:Bool) (l:Sl bk),U8 s→U8 (FP m n s b l).1
 |0,_,_,_,_,_=>fun i=>by show(0:Int)≤0∧(0:Int)≤255;omega
 |m+1,n,s,b,l,h=>by
  rw[FP]
  cases FQ n b
  ·exact h
  ·exact ajY m _ _ _ _ (gB h)
theorem fT{x4:Sl Int}{x5:Bool}{x6:Sl bk}(h:U8 x4):U8 (xH x4 x5 x6):=ajY _ _ _ _ _ (fh h)
def K7:Sl Int:=(bu (dR x4 x5) (eH x4 x5))
def aeI:Bool:=(bx (dR x4 x5) (eH x4 x5))
def F9:Sl bD:=(Sl.app x7 (Sl.lit ([(⟨(pI x4 x5),(fA (dR x4 x5) (eH x4 x5))⟩:bD)]:List bD)))
def al8:Hq:=⟨[.p 0,.p 1],[(.h 0 0,kI),(.h 0 1,kS),(.h 0 2,kI),(.h 0 4,.sl E9),(.h 2 0,.sl E5),(.h 2 1,kB),(.h 3 0,.ah cN),(.h 4 0,.ah cH)],[[U,U,U,.own 3 0,U,.own 4 0],[.ptr 2 0],[U,U],[U],[U]],fun(x0:Int) x1 (x2:Int) x3 x4 x5 x6 x7=>⟨⟨some (U8 x4∧x7.n≤1000),[],[[ae x0,.str x1,ae x2,.own 3 (x6).n,aL 1 e9 x3,.own 4 ((F9 x4 x5 x7)).n],[.ptr 2 0],[aL 1 e5 (K7 x4 x5),.bool (aeI x4 x5)],[(Kd.ah cN).av x6],[(Kd.ah cH).av (F9 x4 x5 x7)]]⟩⟩⟩
theorem avo:dz 156 al8:=dE Tryz.func156
 fun(x0:Int) x1 n1 (x2:Int) x3 n3 x4 n4 x5 x6 n6 x7 n7 hp=>dy ⟨.heap,[],[(.h 0 0,kI),(.h 0 1,kS),(.h 0 2,kI),(.h 0 4,.sl E9),(.h 2 0,.sl E5),(.h 2 1,kB),(.h 3 0,.ah cN),(.h 4 0,.ah cH)],⟨[],[[U,U,U,.own 3 0,U,.own 4 0],[.ptr 2 0],[U,U],[U],[U]]⟩⟩ (.z) ((U8 x4)∧(x7.n+1≤549755813888)) (bB 5 aQ (az wB (az zT bA))) Tryz.func156 (have⟨cn,dv⟩:=hp;⟨(by assumption),(by omega)⟩)
theorem gC{x4:Sl Int}{x5:Bool}(h:U8 x4):U8 (K7 x4 x5):=ff (fg h)
theorem axf(x4:Sl Int)(x5:Bool)(x7:Sl bD):(F9 x4 x5 x7).n=x7.n+1:=rfl
def FT:Bool:=(bif(decide (af>0))then(!aV)else false)
def FR:Nat→Int→Sl Int→Bool→Sl bD→Sl Int×Bool×Sl bD
 |0,_,_,_,_=>default
 |k+1,af,ak,aV,bw=>(bif(FT af aV)then(FR k (i64.wrap (af-1)) (K7 ak aV) (aeI ak aV) (F9 ak aV bw))else(ak,aV,bw))
def TM:Sl Int×Bool×Sl bD:=FR ((toNat (dI x4 x5))+1) (dI x4 x5) (cX x4 x5) (dm x4 x5) x7
def TL:Sl Int:=(TM x4 x5 x7).1
def adK:Bool:=(TM x4 x5 x7).2.1
def adL:Sl bD:=(TM x4 x5 x7).2.2
def alv:Hq:=⟨[.p 2,.fp 156 [0,1]],[(.h 0 0,kI),(.h 0 1,kS),(.h 0 2,kI),(.h 0 4,.sl E9),(.h 2 0,.sl E5),(.h 2 1,kB),(.h 3 0,.ah cN),(.h 4 0,.ah cH)],[[U,U,U,.own 3 0,U,.own 4 0],[.ptr 2 0],[U,U],[U],[U]],fun(x0:Int) x1 (x2:Int) x3 x4 x5 x6 x7=>let z6:=adL x4 x5 x7;⟨⟨some (U8 x4∧x7.n≤10),[],[[ae x0,.str x1,ae x2,.own 3 (x6).n,aL 1 e9 x3,.own 4 (z6).n],[.ptr 2 0],[aL 1 e5 (TL x4 x5 x7),.bool (adK x4 x5 x7)],[(Kd.ah cN).av x6],[(Kd.ah cH).av z6]]⟩⟩⟩
theorem auV:dz 136 alv:=dE Tryz.func136
 fun(x0:Int) x1 n1 (x2:Int) x3 n3 x4 n4 x5 x6 n6 x7 n7 hp=>dy ⟨.heap,[],[(.h 0 0,kI),(.h 0 1,kS),(.h 0 2,kI),(.h 0 4,.sl E9),(.h 2 0,.sl E5),(.h 2 1,kB),(.h 3 0,.ah cN),(.h 4 0,.ah cH)],⟨[],[[U,U,U,.own 3 0,U,.own 4 0],[.ptr 2 0],[U,U],[U],[U]]⟩⟩ (.ai (.lp ⟨19,[],[],[(.t 4,kI),(.h 2 0,.sl E5),(.h 2 1,kB),(.h 4 0,.ah cH)],some 0,false,0,[],[(.h 2 0,.sl E5),(.h 2 1,kB),(.h 4 0,.ah cH)],fun k (s:Int×Sl Int×Bool×Sl bD)=>FR k s.1 s.2.1 s.2.2.1 s.2.2.2,.f,fun(s:Int×Sl Int×Bool×Sl bD)=>(U8 s.2.1∧0≤s.1∧s.1≤255∧(s.2.2.2.n:Int)≤(x7.n:Int)+255-s.1),fun(s:Int×Sl Int×Bool×Sl bD)=>(toNat s.1),none⟩ (.s (.j ⟨33683,[],[(.t 9,kB),(.t 15,kB)],[],.f⟩ .z .z) .z))) (((U8 (cX x4 x5)∧0≤(dI x4 x5)∧(dI x4 x5)≤255∧(x7.n:Int)≤(x7.n:Int)+255- (dI x4 x5)))∧(∀(af:Int) (ak:Sl Int) (aV:Bool) (bw:Sl bD),let z8:=FT af aV;let z6:=i64.wrap (af-1);(U8 ak∧0≤af∧af≤255∧(bw.n:Int)≤(x7.n:Int)+255-af)→((z8=true→(U8 ak∧bw.n≤1000))∧(z8=true→((U8 (K7 ak aV)∧0≤z6∧z6≤255∧(((F9 ak aV bw).n:Nat):Int)≤(x7.n:Int)+255-z6)∧(toNat z6)<(toNat af)))))) (bB 5 aQ (az r8 (az avo bA))) Tryz.func136 (have⟨cn,dv⟩:=hp;⟨⟨(by repeat first|assumption|apply dx),(by have:=DX x4 x5 (by repeat first|assumption|apply dx|apply ff|apply fh|apply fg|apply gD|apply gA|apply f_|apply fU|apply fV|apply gB|apply fT|apply gC|apply gy|apply gz);omega)⟩,(fun af ak aV bw dX=>have oy:=dX.1;⟨(fun h2=>⟨(by assumption),(by omega)⟩),(fun h3=>⟨⟨(by repeat first|assumption|apply dx),(by have:=h3;(try simp [FT]at this);have:=axf ak aV bw;have:=aq (af-1);omega)⟩,(by have:=h3;(try simp [FT]at this);have:=aq (af-1);omega)⟩)⟩)⟩)
theorem ajZ: ∀(m:Nat) (n:Int) (s:Sl Int) (b:Bool) (l:Sl bD),U8 s→U8 (FR m n s b l).1
 |0,_,_,_,_,_=>fun i=>by show(0:Int)≤0∧(0:Int)≤255;omega
 |m+1,n,s,b,l,h=>by
  rw[FR]
  cases FT n b
  ·exact h
  ·exact ajZ m _ _ _ _ (gC h)
theorem gy{x4:Sl Int}{x5:Bool}{x7:Sl bD}(h:U8 x4):U8 (TL x4 x5 x7):=ajZ _ _ _ _ _ (fh h)
def adP:Int:=(dI x0 x1)
def adQ:ag:=(pI (cX x0 x1) (dm x0 x1))
def adR:Int:=(fA (dR (cX x0 x1) (dm x0 x1)) (eH (cX x0 x1) (dm x0 x1)))
def adS:Sl bk:=let z8:=eH (cX x0 x1) (dm x0 x1);let z6:=dR (cX x0 x1) (dm x0 x1);(adJ (bu z6 z8) (bx z6 z8) (al:Sl bk))
def adT:Sl ag:=let z8:=eH (cX x0 x1) (dm x0 x1);let z6:=dR (cX x0 x1) (dm x0 x1);(TP (xH (bu z6 z8) (bx z6 z8) (al:Sl bk)) (BG (bu z6 z8) (bx z6 z8) (al:Sl bk)))
def adU:Sl bD:=let zb:=eH (cX x0 x1) (dm x0 x1);let za:=dR (cX x0 x1) (dm x0 x1);let z8:=bx za zb;let z6:=bu za zb;let zd:=BG z6 z8 (al:Sl bk);let zc:=xH z6 z8 (al:Sl bk);(adL (xI zc zd) (F3 zc zd) (al:Sl bD))
def FX:Sl Int:=let zb:=eH (cX x0 x1) (dm x0 x1);let za:=dR (cX x0 x1) (dm x0 x1);let z8:=bx za zb;let z6:=bu za zb;let zd:=BG z6 z8 (al:Sl bk);let zc:=xH z6 z8 (al:Sl bk);(TL (xI zc zd) (F3 zc zd) (al:Sl bD))
def KJ:Bool:=let zb:=eH (cX x0 x1) (dm x0 x1);let za:=dR (cX x0 x1) (dm x0 x1);let z8:=bx za zb;let z6:=bu za zb;let zd:=BG z6 z8 (al:Sl bk);let zc:=xH z6 z8 (al:Sl bk);(adK (xI zc zd) (F3 zc zd) (al:Sl bD))
def alz:Hq:=⟨[.p 0],[(.h 0 0,.sl E5),(.h 0 1,kB)],[[U,U]],fun x0 x1=>⟨⟨some (U8 x0),[.agg [ae (adP x0 x1),.str (adQ x0 x1),ae (adR x0 x1),aL 2 fM (adS x0 x1),aL 1 e9 (adT x0 x1),aL 2 fN (adU x0 x1)]],[[aL 1 e5 (FX x0 x1),.bool (KJ x0 x1)]]⟩⟩⟩
theorem auY:dz 139 alz:=dE Tryz.func139
 fun x0 n0 x1 hp=>dy ⟨.heap,[.cell 2 125],[(.c 0 0,kI),(.c 0 1,kS),(.c 0 2,kI),(.c 0 3,.sl cN),(.c 0 4,.sl E9),(.c 0 5,.sl cH),(.h 0 0,.sl E5),(.h 0 1,kB)],⟨[.agg (us 6 [])],[[U,U]]⟩⟩ (.ai (.ai (.s (.cv [(.h 3 3,cN),(.h 3 5,cH)]) .z))) (let zb:=dm x0 x1;let za:=cX x0 x1;let z8:=bx (dR za zb) (eH za zb);let z6:=bu (dR za zb) (eH za zb);let zc:=xH z6 z8 (al:Sl bk);(U8 za)∧((U8 z6∧0≤10)∧((U8 zc)∧(U8 (xI zc (BG z6 z8 (al:Sl bk)))∧0≤10)))) (bB 1 aQ (az wB (az auU (az auV (az zT (az r8 (az ahr bA))))))) Tryz.func139 (⟨(by repeat first|assumption|apply dx),⟨⟨(by repeat first|assumption|apply dx),(by omega)⟩,⟨(by repeat first|assumption|apply fT|apply dx),⟨(by repeat first|assumption|apply fU|apply fT|apply dx),(by omega)⟩⟩⟩⟩)
theorem gz{x0:Sl Int}{x1:Bool}(h:U8 x0):U8 (FX x0 x1):=gy (fV (fT (ff (fg (fh h)))))
end
def fm(x0:Sl Int):Int:=(bits .or .i64 (bits .or .i64 (i64.wrap ((i64.wrap (x0.at' (toNat 0)))*2^(toNat 16))) (i64.wrap ((i64.wrap (x0.at' (toNat 1)))*2^(toNat 8)))) (i64.wrap (x0.at' (toNat 2))))
def akz:Fq:=⟨[.v (.sl E5)],fun x0=>⟨⟨some (U8 x0∧3≤x0.n),ae (fm x0)⟩⟩⟩
theorem ahg:ba 109 akz:=bf Tryz.func109
 fun x0 n0 _ hp=>bj ⟨.pure,[.tmp 2],[(.t 0,kI)],⟨[U],[]⟩⟩ (.z) (((0:Int)≤0∧0<(x0.n:Int))∧(((0:Int)≤16∧(16:Int)≤64)∧(((0:Int)≤1∧1<(x0.n:Int))∧(((0:Int)≤8∧(8:Int)≤64)∧((0:Int)≤2∧2<(x0.n:Int)))))) fK Tryz.func109 (have⟨cn,dv⟩:=hp;⟨(by omega),⟨(by omega),⟨(by omega),⟨(by omega),(by omega)⟩⟩⟩⟩)
theorem aiG(v b k:Nat)(h1:v*2^k<9223372036854775808)(h2:b<2^k)(h3:b<9223372036854775808):bits .or .i64 ((v*2^k:Nat):Int) (b:Int)=((v*2^k:Nat):Int)+b:=by
 have e:=Nat.shiftLeft_add_eq_or_of_lt h2 v;rw[Nat.shiftLeft_eq]at e;have hs:v*2^k+b<9223372036854775808:=by
  rw[e];exact Nat.or_lt_two_pow (n:=63) h1 h3
 unfold bits;simp only[BitVec.toNat_or,BitVec.toNat_ofInt];have e1:((((v*2^k:Nat):Int))%((2^i64.bits:Nat):Int)).toNat=v*2^k:=by
  show((((v*2^k:Nat):Int))%18446744073709551616).toNat=v*2^k;omega
 have e2:((b:Int)%((2^i64.bits:Nat):Int)).toNat=b:=by
  show((b:Int)%18446744073709551616).toNat=b;omega
 rw[e1,e2,←e,aq _];omega
theorem aoK(x0:Sl Int)(h:U8 x0):fm x0=65536*x0.at' 0+256*x0.at' 1+x0.at' 2:=by
 obtain⟨a,ha⟩:=aEm (h 0).1;obtain⟨b,hb⟩:=aEm (h 1).1;obtain⟨c,hc⟩:=aEm (h 2).1;have ra:=(h 0).2;have rb:=(h 1).2;have rc:=(h 2).2;unfold fm;show bits .or .i64 (bits .or .i64 (i64.wrap ((i64.wrap (x0.at' 0))*65536)) (i64.wrap ((i64.wrap (x0.at' 1))*256))) (i64.wrap (x0.at' 2))=_;rw[ha]at ra ⊢;rw[hb]at rb ⊢;rw[hc]at rc ⊢;rw[aq (a:Int),aq (b:Int),aq (c:Int),aq ((a:Int)*65536),aq ((b:Int)*256)];have o1:=aiG a (b*256) 16 (by omega) (by omega) (by omega);have o2:=aiG (a*256+b) c 8 (by omega) (by omega) (by omega);rw[show(a:Int)*65536=((a*2^16:Nat):Int) by omega,show(b:Int)*256=((b*256:Nat):Int) by omega,o1];rw[show((a*2^16:Nat):Int)+((b*256:Nat):Int)=(((a*256+b)*2^8:Nat):Int) by omega,o2];omega
theorem ai4(x0:Sl Int)(h:U8 x0):0≤fm x0∧fm x0≤16777215:=by
 have:=h 0;have:=h 1;have:=h 2;rw[aoK x0 h];omega
theorem mP{s:Sl Int}{l h:Int}(hs:U8 s):U8 (Sl.part s l h):=fun i=>hs _
theorem lp3{v n:Int}(h:decide (i64.wrap (v+3)≤n)=true)(hv:0≤v)(hb:v≤1000000):v+3≤n:=by
 have:=ay h;rw[aq (v+3)]at this;exact this
theorem lp4{v g n:Int}(h:decide (i64.wrap (i64.wrap (v+3)+g)>n)=false)(hv:0≤v)(hb:v≤1000000):0≤g∧g≤16777215→v+3+g≤n:=fun hg=>by
 have:=iw h;rw[aq (v+3),aq (v+3+g)]at this;omega
end Go.Proofs.YtfmgjpcmcjjoiaaGreatDoor
