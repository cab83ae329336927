/- Part of a proof: walks of the program. -/
import Derived.Test.YtfmgjpcmcjjoiaaGreatDoorXi
import Derived.Shelf.Spec.SlicesGrow
open Go.IntKind (i64 u64 u8)
open Int (toNat)
set_option maxRecDepth 100000
set_option maxHeartbeats 4000000
set_option linter.all false
noncomputable section
namespace Go.Proofs.YtfmgjpcmcjjoiaaGreatDoor
open Go Go.RowKit Go.Vc
section
def BB(x0:ag)(x1:ag):Int:=(BM x0 x1)
def ale:Fq:=⟨[.v kS,.v kS],fun x0 x1=>⟨⟨none,ae (BB x0 x1)⟩⟩⟩
theorem N6:ba 182 ale:=bf Tryz.func182
 fun x0 _ x1 _=>bj ⟨.pure,[.tmp 4],[(.t 0,kI)],⟨[U],[]⟩⟩ (.z) True (bU (aH ave aQ)) Tryz.func182 (trivial)
def xD(x0:ag)(x2:ag):Int:=(BB x0 x2)
def ala:Fq:=⟨[.g [kS,kS],.g [kS,kS]],fun x0 _ x2 _=>⟨⟨none,ae (xD x0 x2)⟩⟩⟩
theorem ahk:ba 178 ala:=bf Tryz.func178
 fun x0 _ x1 _ x2 _ x3 _=>bj ⟨.pure,[.tmp 4],[(.t 0,kI)],⟨[U],[]⟩⟩ (.z) True (bU (aH N6 aQ)) Tryz.func178 (trivial)
def TB(x0:Sl bk):Nat→Int→Bool×Bool
 |0,_=>default
 |k+1,af=>(bif(decide (af<(x0.n:Int)))then(bif(decide ((xD (x0.at' (toNat (i64.wrap (af-1)))).c0 (x0.at' (toNat af)).c0)≥0))then(true,false)else(TB x0 k (i64.wrap (af+1))))else(false,default))
def adB(x0:Sl bk):Bool×Bool:=TB x0 ((toNat ((x0.n:Int)-1))+1) 1
def aqa(x0:Sl bk):Bool:=(bif(adB x0).1 then false else true)
def adA(x0:Sl bk):Bool:=(bif(aqa x0)then true else(adB x0).2)
def ak_:Fq:=⟨[.v (.sl cN),.fn 178 []],fun x0=>⟨⟨none,.bool (adA x0)⟩⟩⟩
theorem auN:ba 177 ak_:=bf Tryz.func177
 fun x0 n0 _=>bj ⟨.pure,[.tmp 4],[(.t 0,kB)],⟨[U],[]⟩⟩ (.ai (.j ⟨16,[],[],[],.f⟩ (.ai (.lp ⟨51,[],[],[(.t 5,kI)],some 0,true,16,[],[],fun k (s:Int)=>TB x0 k s,.f,fun(s:Int)=>(1≤s∧(s≤(x0.n:Int)∨s=1)),fun(s:Int)=>(toNat ((x0.n:Int)-s)),none⟩ .z)) .z)) (((1≤(1:Int)∧((1:Int)≤(x0.n:Int)∨(1:Int)=1)))∧(∀(af:Int),let za:=decide (af<(x0.n:Int));let z8:=i64.wrap (af-1);let z6:=i64.wrap (af+1);(1≤af∧(af≤(x0.n:Int)∨af=1))→((za=true→((0≤z8∧z8<(x0.n:Int))∧(0≤af∧af<(x0.n:Int))))∧(za=true→((decide ((xD (x0.at' (toNat z8)).c0 (x0.at' (toNat af)).c0)≥0))=false→((1≤z6∧(z6≤(x0.n:Int)∨z6=1))∧(toNat ((x0.n:Int)-z6))<(toNat ((x0.n:Int)-af)))))))) (bU (aH ahk aQ)) Tryz.func177 (⟨(by omega),(fun af dX=>⟨(fun h2=>⟨(by have:=ay h2;have:=aq (af-1);omega),(by have:=ay h2;omega)⟩),(fun h3=>(fun h4=>(by have:=ay h3;have:=aq (af+1);omega)))⟩)⟩)
def TY(x0:Sl Int):Nat→Int→Bool×Int
 |0,_=>default
 |k+1,af=>let z6:=x0.at' (toNat af);(bif(decide (af<(x0.n:Int)))then(bif(z6 !=0)then(true,z6)else(TY x0 k (i64.wrap (af+1))))else(false,default))
def aei(x0:Sl Int):Bool×Int:=TY x0 ((toNat ((x0.n:Int)-0))+1) 0
def aqx(x0:Sl Int):Bool:=(bif(aei x0).1 then false else true)
def aeh(x0:Sl Int):Int:=(bif(aqx x0)then 0 else(aei x0).2)
def alU:Fq:=⟨[.v (.sl E3)],fun x0=>⟨⟨none,ae (aeh x0)⟩⟩⟩
theorem avc:ba 198 alU:=bf Tryz.func198
 fun x0 n0 _=>bj ⟨.pure,[.tmp 2],[(.t 0,kI)],⟨[U],[]⟩⟩ (.ai (.ai (.j ⟨12,[],[],[],.f⟩ (.ai (.lp ⟨460,[],[],[(.t 8,kI)],some 0,true,12,[],[],fun k (s:Int)=>TY x0 k s,.f,fun(s:Int)=>(0≤s∧s≤(x0.n:Int)),fun(s:Int)=>(toNat ((x0.n:Int)-s)),none⟩ .z)) .z))) (((0≤(0:Int)∧(0:Int)≤(x0.n:Int)))∧(∀(af:Int),let z8:=decide (af<(x0.n:Int));let z6:=i64.wrap (af+1);(0≤af∧af≤(x0.n:Int))→((z8=true→(0≤af∧af<(x0.n:Int)))∧(z8=true→(((x0.at' (toNat af))!=0)=false→((0≤z6∧z6≤(x0.n:Int))∧(toNat ((x0.n:Int)-z6))<(toNat ((x0.n:Int)-af)))))))) fK Tryz.func198 (⟨(by omega),(fun af dX=>⟨(fun h2=>(by have:=ay h2;omega)),(fun h3=>(fun h4=>(by have:=ay h3;have:=aq (af+1);omega)))⟩)⟩)
def Li(x0:Int):Bool:=(x0 !=x0)
def amk:Fq:=⟨[.v kI],fun x0=>⟨⟨none,.bool (Li x0)⟩⟩⟩
theorem avy:ba 210 amk:=bf Tryz.func210
 fun(x0:Int)=>bj ⟨.pure,[.tmp 2],[(.t 0,kB)],⟨[U],[]⟩⟩ (.z) True fK Tryz.func210 (trivial)
def aej(x0:Int)(x1:Int):Int:=(bif(Li x0)then(bif(Li x1)then 0 else(-1))else(bif(Li x1)then 1 else(bif(decide (x0<x1))then(-1)else(bif(decide (x0>x1))then 1 else 0))))
def alV:Fq:=⟨[.v kI,.v kI],fun x0 x1=>⟨⟨none,ae (aej x0 x1)⟩⟩⟩
theorem avd:ba 199 alV:=bf Tryz.func199
 fun(x0:Int) (x1:Int)=>bj ⟨.pure,[.tmp 4],[(.t 0,kI)],⟨[U],[]⟩⟩ (.z) True (bU (aH avy aQ)) Tryz.func199 (trivial)
def xE(x0:ag)(x1:Int)(x2:ag)(x3:Int):Int:=(aeh (Sl.lit ([(aej x1 x3),(BB x0 x2)]:List Int)))
def alc:Fq:=⟨[.g [kS,kI],.g [kS,kI]],fun x0 x1 x2 x3=>⟨⟨none,ae (xE x0 x1 x2 x3)⟩⟩⟩
theorem ahl:ba 180 alc:=bf Tryz.func180
 fun x0 _ (x1:Int) x2 _ (x3:Int)=>bj ⟨.pure,[.tmp 4],[(.t 0,kI)],⟨[U],[]⟩⟩ (.z) True (bU (aH N6 (aH avc (aH avd aQ)))) Tryz.func180 (trivial)
def TC(x0:Sl bD):Nat→Int→Bool×Bool
 |0,_=>default
 |k+1,af=>let z8:=x0.at' (toNat af);let z6:=x0.at' (toNat (i64.wrap (af-1)));(bif(decide (af<(x0.n:Int)))then(bif(decide ((xE z6.c0 z6.c1 z8.c0 z8.c1)≥0))then(true,false)else(TC x0 k (i64.wrap (af+1))))else(false,default))
variable(x0:Sl bD)(x1:ag)(x2:Int)(x3:Sl bk)(x4:Sl ag)(x5:Sl bD)
def adD:Bool×Bool:=TC x0 ((toNat ((x0.n:Int)-1))+1) 1
def aqb:Bool:=(bif(adD x0).1 then false else true)
def adC:Bool:=(bif(aqb x0)then true else(adD x0).2)
def alb:Fq:=⟨[.v (.sl cH),.fn 180 []],fun x0=>⟨⟨none,.bool (adC x0)⟩⟩⟩
theorem auO:ba 179 alb:=bf Tryz.func179
 fun x0 n0 _=>bj ⟨.pure,[.tmp 4],[(.t 0,kB)],⟨[U],[]⟩⟩ (.ai (.j ⟨16,[],[],[],.f⟩ (.ai (.lp ⟨51,[],[],[(.t 5,kI)],some 0,true,16,[],[],fun k (s:Int)=>TC x0 k s,.f,fun(s:Int)=>(1≤s∧(s≤(x0.n:Int)∨s=1)),fun(s:Int)=>(toNat ((x0.n:Int)-s)),none⟩ .z)) .z)) (((1≤(1:Int)∧((1:Int)≤(x0.n:Int)∨(1:Int)=1)))∧(∀(af:Int),let zb:=x0.at' (toNat af);let za:=decide (af<(x0.n:Int));let z8:=i64.wrap (af+1);let z6:=i64.wrap (af-1);(1≤af∧(af≤(x0.n:Int)∨af=1))→((za=true→((0≤z6∧z6<(x0.n:Int))∧(0≤af∧af<(x0.n:Int))))∧(za=true→((decide ((xE (x0.at' (toNat z6)).c0 (x0.at' (toNat z6)).c1 zb.c0 zb.c1)≥0))=false→((1≤z8∧(z8≤(x0.n:Int)∨z8=1))∧(toNat ((x0.n:Int)-z8))<(toNat ((x0.n:Int)-af)))))))) (bU (aH ahl aQ)) Tryz.func179 (⟨(by omega),(fun af dX=>⟨(fun h2=>⟨(by have:=ay h2;have:=aq (af-1);omega),(by have:=ay h2;omega)⟩),(fun h3=>(fun h4=>(by have:=ay h3;have:=aq (af+1);omega)))⟩)⟩)
def TD(x0:Sl ag):Nat→Int→Bool×Bool
 |0,_=>default
 |k+1,af=>(bif(decide (af<(x0.n:Int)))then(bif(decide ((BB (x0.at' (toNat (i64.wrap (af-1)))) (x0.at' (toNat af)))≥0))then(true,false)else(TD x0 k (i64.wrap (af+1))))else(false,default))
def adF(x0:Sl ag):Bool×Bool:=TD x0 ((toNat ((x0.n:Int)-1))+1) 1
def aqc(x0:Sl ag):Bool:=(bif(adF x0).1 then false else true)
def adE(x0:Sl ag):Bool:=(bif(aqc x0)then true else(adF x0).2)
def ald:Fq:=⟨[.v (.sl E9),.fn 182 []],fun x0=>⟨⟨none,.bool (adE x0)⟩⟩⟩
theorem auP:ba 181 ald:=bf Tryz.func181
 fun x0 n0 _=>bj ⟨.pure,[.tmp 4],[(.t 0,kB)],⟨[U],[]⟩⟩ (.ai (.j ⟨16,[],[],[],.f⟩ (.ai (.lp ⟨51,[],[],[(.t 5,kI)],some 0,true,16,[],[],fun k (s:Int)=>TD x0 k s,.f,fun(s:Int)=>(1≤s∧(s≤(x0.n:Int)∨s=1)),fun(s:Int)=>(toNat ((x0.n:Int)-s)),none⟩ .z)) .z)) (((1≤(1:Int)∧((1:Int)≤(x0.n:Int)∨(1:Int)=1)))∧(∀(af:Int),let za:=decide (af<(x0.n:Int));let z8:=i64.wrap (af-1);let z6:=i64.wrap (af+1);(1≤af∧(af≤(x0.n:Int)∨af=1))→((za=true→((0≤z8∧z8<(x0.n:Int))∧(0≤af∧af<(x0.n:Int))))∧(za=true→((decide ((BB (x0.at' (toNat z8)) (x0.at' (toNat af)))≥0))=false→((1≤z6∧(z6≤(x0.n:Int)∨z6=1))∧(toNat ((x0.n:Int)-z6))<(toNat ((x0.n:Int)-af)))))))) (bU (aH N6 aQ)) Tryz.func181 (⟨(by omega),(fun af dX=>⟨(fun h2=>⟨(by have:=ay h2;have:=aq (af-1);omega),(by have:=ay h2;omega)⟩),(fun h3=>(fun h4=>(by have:=ay h3;have:=aq (af+1);omega)))⟩)⟩)
def Tw(x0:ag):Bool:=(!(jP x0))
def ak3:Fq:=⟨[.v kS],fun x0=>⟨⟨none,.bool (Tw x0)⟩⟩⟩
theorem auG:ba 171 ak3:=bf Tryz.func171
 fun x0 _=>bj ⟨.pure,[.tmp 2],[(.t 0,kB)],⟨[U],[]⟩⟩ (.z) True (bU (aH Iu aQ)) Tryz.func171 (trivial)
def KO(x0:Sl ag):Nat→Int→Bool×Int
 |0,_=>default
 |k+1,af=>(bif(decide (af<(x0.n:Int)))then(bif(Tw (x0.at' (toNat af)))then(true,af)else(KO x0 k (i64.wrap (af+1))))else(false,default))
def ad9(x0:Sl ag):Bool×Int:=KO x0 ((toNat ((x0.n:Int)-0))+1) 0
def aqs(x0:Sl ag):Bool:=(bif(ad9 x0).1 then false else true)
def ad8(x0:Sl ag):Int:=(bif(aqs x0)then(-1)else(ad9 x0).2)
def alO:Fq:=⟨[.v (.sl E9),.fn 171 []],fun x0=>⟨⟨none,ae (ad8 x0)⟩⟩⟩
theorem au7:ba 184 alO:=bf Tryz.func184
 fun x0 n0 _=>bj ⟨.pure,[.tmp 4],[(.t 0,kI)],⟨[U],[]⟩⟩ (.ai (.j ⟨16,[],[],[],.f⟩ (.ai (.lp ⟨403,[],[],[(.t 8,kI)],some 0,true,16,[],[],fun k (s:Int)=>KO x0 k s,.f,fun(s:Int)=>(0≤s∧s≤(x0.n:Int)),fun(s:Int)=>(toNat ((x0.n:Int)-s)),none⟩ .z)) .z)) (((0≤(0:Int)∧(0:Int)≤(x0.n:Int)))∧(∀(af:Int),let z8:=decide (af<(x0.n:Int));let z6:=i64.wrap (af+1);(0≤af∧af≤(x0.n:Int))→((z8=true→(0≤af∧af<(x0.n:Int)))∧(z8=true→((Tw (x0.at' (toNat af)))=false→((0≤z6∧z6≤(x0.n:Int))∧(toNat ((x0.n:Int)-z6))<(toNat ((x0.n:Int)-af)))))))) (bU (aH auG aQ)) Tryz.func184 (⟨(by omega),(fun af dX=>⟨(fun h2=>(by have:=ay h2;omega)),(fun h3=>(fun h4=>(by have:=ay h3;have:=aq (af+1);omega)))⟩)⟩)
def Tu(x0:Sl ag):Bool:=(decide ((ad8 x0)≥0))
def akM:Fq:=⟨[.v (.sl E9),.fn 171 []],fun x0=>⟨⟨none,.bool (Tu x0)⟩⟩⟩
theorem auv:ba 160 akM:=bf Tryz.func160
 fun x0 _ _=>bj ⟨.pure,[.tmp 4],[(.t 0,kB)],⟨[U],[]⟩⟩ (.z) True (bU (aH au7 aQ)) Tryz.func160 (trivial)
def adz(x0:ag)(x1:ag):Bool:=(bif(!(lz x0))then true else(!(jP x1)))
def BA(x0:ag)(x1:ag):Bool:=(adz x0 x1)
def ak5:Fq:=⟨[.g [kS,kS]],fun x0 x1=>⟨⟨none,.bool (BA x0 x1)⟩⟩⟩
theorem auI:ba 173 ak5:=bf Tryz.func173
 fun x0 _ x1 _=>bj ⟨.pure,[.tmp 2],[(.t 0,kB)],⟨[U],[]⟩⟩ (.ai (.j ⟨4,[.b 0],[(.t 2,kB)],[],.f⟩ .z .z)) True (bU (aH ahi (aH Iu aQ))) Tryz.func173 (trivial)
def KQ(x0:Sl bk):Nat→Int→Bool×Int
 |0,_=>default
 |k+1,af=>let z6:=x0.at' (toNat af);(bif(decide (af<(x0.n:Int)))then(bif(BA z6.c0 z6.c1)then(true,af)else(KQ x0 k (i64.wrap (af+1))))else(false,default))
def aeb(x0:Sl bk):Bool×Int:=KQ x0 ((toNat ((x0.n:Int)-0))+1) 0
def aqu(x0:Sl bk):Bool:=(bif(aeb x0).1 then false else true)
def aea(x0:Sl bk):Int:=(bif(aqu x0)then(-1)else(aeb x0).2)
def alQ:Fq:=⟨[.v (.sl cN),.fn 173 []],fun x0=>⟨⟨none,ae (aea x0)⟩⟩⟩
theorem au9:ba 196 alQ:=bf Tryz.func196
 fun x0 n0 _=>bj ⟨.pure,[.tmp 4],[(.t 0,kI)],⟨[U],[]⟩⟩ (.ai (.j ⟨16,[],[],[],.f⟩ (.ai (.lp ⟨403,[],[],[(.t 8,kI)],some 0,true,16,[],[],fun k (s:Int)=>KQ x0 k s,.f,fun(s:Int)=>(0≤s∧s≤(x0.n:Int)),fun(s:Int)=>(toNat ((x0.n:Int)-s)),none⟩ .z)) .z)) (((0≤(0:Int)∧(0:Int)≤(x0.n:Int)))∧(∀(af:Int),let za:=x0.at' (toNat af);let z8:=decide (af<(x0.n:Int));let z6:=i64.wrap (af+1);(0≤af∧af≤(x0.n:Int))→((z8=true→(0≤af∧af<(x0.n:Int)))∧(z8=true→((BA za.c0 za.c1)=false→((0≤z6∧z6≤(x0.n:Int))∧(toNat ((x0.n:Int)-z6))<(toNat ((x0.n:Int)-af)))))))) (bU (aH auI aQ)) Tryz.func196 (⟨(by omega),(fun af dX=>⟨(fun h2=>(by have:=ay h2;omega)),(fun h3=>(fun h4=>(by have:=ay h3;have:=aq (af+1);omega)))⟩)⟩)
def KB(x0:Sl bk):Bool:=(decide ((aea x0)≥0))
def ak4:Fq:=⟨[.v (.sl cN),.fn 173 []],fun x0=>⟨⟨none,.bool (KB x0)⟩⟩⟩
theorem auH:ba 172 ak4:=bf Tryz.func172
 fun x0 _ _=>bj ⟨.pure,[.tmp 4],[(.t 0,kB)],⟨[U],[]⟩⟩ (.z) True (bU (aH au9 aQ)) Tryz.func172 (trivial)
def Tz(x0:ag):Bool:=(!(jP x0))
def ak8:Fq:=⟨[.g [kS,kI]],fun x0 _=>⟨⟨none,.bool (Tz x0)⟩⟩⟩
theorem auL:ba 175 ak8:=bf Tryz.func175
 fun x0 _ (x1:Int)=>bj ⟨.pure,[.tmp 2],[(.t 0,kB)],⟨[U],[]⟩⟩ (.z) True (bU (aH Iu aQ)) Tryz.func175 (trivial)
def KR(x0:Sl bD):Nat→Int→Bool×Int
 |0,_=>default
 |k+1,af=>(bif(decide (af<(x0.n:Int)))then(bif(Tz (x0.at' (toNat af)).c0)then(true,af)else(KR x0 k (i64.wrap (af+1))))else(false,default))
def aed:Bool×Int:=KR x0 ((toNat ((x0.n:Int)-0))+1) 0
def aqv:Bool:=(bif(aed x0).1 then false else true)
def aec:Int:=(bif(aqv x0)then(-1)else(aed x0).2)
def alR:Fq:=⟨[.v (.sl cH),.fn 175 []],fun x0=>⟨⟨none,ae (aec x0)⟩⟩⟩
theorem au_:ba 197 alR:=bf Tryz.func197
 fun x0 n0 _=>bj ⟨.pure,[.tmp 4],[(.t 0,kI)],⟨[U],[]⟩⟩ (.ai (.j ⟨16,[],[],[],.f⟩ (.ai (.lp ⟨403,[],[],[(.t 8,kI)],some 0,true,16,[],[],fun k (s:Int)=>KR x0 k s,.f,fun(s:Int)=>(0≤s∧s≤(x0.n:Int)),fun(s:Int)=>(toNat ((x0.n:Int)-s)),none⟩ .z)) .z)) (((0≤(0:Int)∧(0:Int)≤(x0.n:Int)))∧(∀(af:Int),let z8:=decide (af<(x0.n:Int));let z6:=i64.wrap (af+1);(0≤af∧af≤(x0.n:Int))→((z8=true→(0≤af∧af<(x0.n:Int)))∧(z8=true→((Tz (x0.at' (toNat af)).c0)=false→((0≤z6∧z6≤(x0.n:Int))∧(toNat ((x0.n:Int)-z6))<(toNat ((x0.n:Int)-af)))))))) (bU (aH auL aQ)) Tryz.func197 (⟨(by omega),(fun af dX=>⟨(fun h2=>(by have:=ay h2;omega)),(fun h3=>(fun h4=>(by have:=ay h3;have:=aq (af+1);omega)))⟩)⟩)
def KC:Bool:=(decide ((aec x0)≥0))
def ak6:Fq:=⟨[.v (.sl cH),.fn 175 []],fun x0=>⟨⟨none,.bool (KC x0)⟩⟩⟩
theorem auJ:ba 174 ak6:=bf Tryz.func174
 fun x0 _ _=>bj ⟨.pure,[.tmp 4],[(.t 0,kB)],⟨[U],[]⟩⟩ (.z) True (bU (aH au_ aQ)) Tryz.func174 (trivial)
def TA(x1:Int):Bool:=(!(kR x1))
def ak9:Fq:=⟨[.g [kS,kI]],fun _ x1=>⟨⟨none,.bool (TA x1)⟩⟩⟩
theorem auM:ba 176 ak9:=bf Tryz.func176
 fun x0 _ (x1:Int)=>bj ⟨.pure,[.tmp 2],[(.t 0,kB)],⟨[U],[]⟩⟩ (.z) True (bU (aH N4 aQ)) Tryz.func176 (trivial)
def KS(x0:Sl bD):Nat→Int→Bool×Int
 |0,_=>default
 |k+1,af=>(bif(decide (af<(x0.n:Int)))then(bif(TA (x0.at' (toNat af)).c1)then(true,af)else(KS x0 k (i64.wrap (af+1))))else(false,default))
def aef:Bool×Int:=KS x0 ((toNat ((x0.n:Int)-0))+1) 0
def aqw:Bool:=(bif(aef x0).1 then false else true)
def aee:Int:=(bif(aqw x0)then(-1)else(aef x0).2)
def alS:Fq:=⟨[.v (.sl cH),.fn 176 []],fun x0=>⟨⟨none,ae (aee x0)⟩⟩⟩
theorem ava:ba 197 alS:=bf Tryz.func197
 fun x0 n0 _=>bj ⟨.pure,[.tmp 4],[(.t 0,kI)],⟨[U],[]⟩⟩ (.ai (.j ⟨16,[],[],[],.f⟩ (.ai (.lp ⟨403,[],[],[(.t 8,kI)],some 0,true,16,[],[],fun k (s:Int)=>KS x0 k s,.f,fun(s:Int)=>(0≤s∧s≤(x0.n:Int)),fun(s:Int)=>(toNat ((x0.n:Int)-s)),none⟩ .z)) .z)) (((0≤(0:Int)∧(0:Int)≤(x0.n:Int)))∧(∀(af:Int),let z8:=decide (af<(x0.n:Int));let z6:=i64.wrap (af+1);(0≤af∧af≤(x0.n:Int))→((z8=true→(0≤af∧af<(x0.n:Int)))∧(z8=true→((TA (x0.at' (toNat af)).c1)=false→((0≤z6∧z6≤(x0.n:Int))∧(toNat ((x0.n:Int)-z6))<(toNat ((x0.n:Int)-af)))))))) (bU (aH auM aQ)) Tryz.func197 (⟨(by omega),(fun af dX=>⟨(fun h2=>(by have:=ay h2;omega)),(fun h3=>(fun h4=>(by have:=ay h3;have:=aq (af+1);omega)))⟩)⟩)
def Tx:Bool:=(decide ((aee x0)≥0))
def ak7:Fq:=⟨[.v (.sl cH),.fn 176 []],fun x0=>⟨⟨none,.bool (Tx x0)⟩⟩⟩
theorem auK:ba 174 ak7:=bf Tryz.func174
 fun x0 _ _=>bj ⟨.pure,[.tmp 4],[(.t 0,kB)],⟨[U],[]⟩⟩ (.z) True (bU (aH ava aQ)) Tryz.func174 (trivial)
def my:Int:=(i64.wrap ((i64.wrap ((x3.n:Int)+(x4.n:Int)))+(x5.n:Int)))
def ak2:Fq:=⟨[.g [kI,kS,kI,.sl cN,.sl E9,.sl cH]],fun _ _ _ x3 x4 x5=>⟨⟨none,ae (my x3 x4 x5)⟩⟩⟩
theorem WM:ba 170 ak2:=bf Tryz.func170
 fun(x0:Int) x1 _ (x2:Int) x3 _ _ x4 _ _ x5 _ _=>bj ⟨.pure,[.tmp 2],[(.t 0,kI)],⟨[U],[]⟩⟩ (.z) True fK Tryz.func170 (trivial)
def F7(x0:ag)(x2:ag):Bool:=((x0:ag).toList==(x2:ag).toList)
def al3:Fq:=⟨[.g [kS,kI],.r [kS]],fun x0 _ x2=>⟨⟨none,.bool (F7 x0 x2)⟩⟩⟩
theorem avk:ba 201 al3:=bf Tryz.func201
 fun x0 _ (x1:Int) x2=>bj ⟨.pure,[.tmp 3],[(.t 0,kB)],⟨[U],[]⟩⟩ (.z) True fK Tryz.func201 (trivial)
def KT(x0:Sl bD)(x1:ag):Nat→Int→Bool×Int
 |0,_=>default
 |k+1,af=>(bif(decide (af<(x0.n:Int)))then(bif(F7 (x0.at' (toNat af)).c0 x1)then(true,af)else(KT x0 x1 k (i64.wrap (af+1))))else(false,default))
def TX:Bool×Int:=KT x0 x1 ((toNat ((x0.n:Int)-0))+1) 0
def aeg:Bool:=(bif(TX x0 x1).1 then false else true)
def TW:Int:=(bif(aeg x0 x1)then(-1)else(TX x0 x1).2)
def alT:Fq:=⟨[.v (.sl cH),.fn 201 [[kS]]],fun x0 x1=>⟨⟨none,ae (TW x0 x1)⟩⟩⟩
theorem avb:ba 197 alT:=bf Tryz.func197
 fun x0 n0 _ x1=>bj ⟨.pure,[.tmp 4],[(.t 0,kI)],⟨[U],[]⟩⟩ (.ai (.j ⟨16,[],[],[],.f⟩ (.ai (.lp ⟨403,[],[],[(.t 8,kI)],some 0,true,16,[],[],fun k (s:Int)=>KT x0 x1 k s,.f,fun(s:Int)=>(0≤s∧s≤(x0.n:Int)),fun(s:Int)=>(toNat ((x0.n:Int)-s)),none⟩ .z)) .z)) (((0≤(0:Int)∧(0:Int)≤(x0.n:Int)))∧(∀(af:Int),let z8:=decide (af<(x0.n:Int));let z6:=i64.wrap (af+1);(0≤af∧af≤(x0.n:Int))→((z8=true→(0≤af∧af<(x0.n:Int)))∧(z8=true→((F7 (x0.at' (toNat af)).c0 x1)=false→((0≤z6∧z6≤(x0.n:Int))∧(toNat ((x0.n:Int)-z6))<(toNat ((x0.n:Int)-af)))))))) (bU (aH avk aQ)) Tryz.func197 (⟨(by omega),(fun af dX=>⟨(fun h2=>(by have:=ay h2;omega)),(fun h3=>(fun h4=>(by have:=ay h3;have:=aq (af+1);omega)))⟩)⟩)
def l4:Int:=(TW x0 x1)
def alf:Fq:=⟨[.v (.sl cH),.v kS],fun x0 x1=>⟨⟨none,ae (l4 x0 x1)⟩⟩⟩
theorem ahm:ba 183 alf:=bf Tryz.func183
 fun x0 _ _ x1 _=>bj ⟨.pure,[.tmp 4],[(.t 0,kI)],⟨[U],[]⟩⟩ (.ai (.s (.fz 3 0 .z) .z)) True (bU (aH avb aQ)) Tryz.func183 (trivial)
def vT(x0:Int):Bool:=(bif(decide (x0<1))then true else(decide (x0>6)))
def af7(x0:Int)(x1:ag):ag:=(bif(x0==1)then⟨#[]⟩else x1)
def af8(x0:Int)(x2:Int):Int:=(bif(x0==1)then x2 else(bif(x0==2)then 0 else x2))
def ME(x0:Int)(x3:Sl bk):Sl bk:=(bif(x0==1)then x3 else(bif(x0==2)then x3 else(bif(x0==3)then(al:Sl bk)else x3)))
def MF(x0:Int)(x4:Sl ag):Sl ag:=(bif(x0==1)then x4 else(bif(x0==2)then x4 else(bif(x0==3)then x4 else(bif(x0==6)then x4 else(al:Sl ag)))))
def MG(x0:Int)(x5:Sl bD):Sl bD:=(bif(x0==1)then x5 else(bif(x0==2)then x5 else(bif(x0==3)then x5 else(bif(x0==6)then(al:Sl bD)else x5))))
def tT(x0:Int)(x1:ag)(x2:Int)(x3:Sl bk)(x4:Sl ag)(x5:Sl bD):Bool:=(bif(!(((af7 x0 x1):ag).toList==(⟨#[]⟩:ag).toList))then true else(bif((af8 x0 x2)!=0)then true else(decide ((my (ME x0 x3) (MF x0 x4) (MG x0 x5))>0))))
def vU(x0:Int)(x3:Sl bk)(x4:Sl ag)(x5:Sl bD):Bool:=(bif(decide (x0≥3))then(bif(decide ((my x3 x4 x5)<1))then true else(decide ((my x3 x4 x5)>20)))else false)
def yN:Bool:=(bif(!(jP x1))then true else(Tu x4))
def yM:Bool:=(bif(!(kR x2))then true else(Tx x5))
def arX(x0:Int)(x3:Sl bk)(x4:Sl ag)(x5:Sl bD):Bool:=(bif(adA x3)then(bif(adC x5)then(bif(x0 !=5)then true else(adE x4))else false)else false)
def arY(fH:Bool)(eG:Int):Bool:=(bif fH then(decide ((l4 (Sl.part x5 0 eG) (x5.at' (toNat eG)).c0)<0))else false)
def Vg(x5:Sl bD):Nat→Bool→Int→Bool
 |0,_,_=>default
 |k+1,fH,eG=>(bif(decide (eG<(x5.n:Int)))then(Vg x5 k (arY x5 fH eG) (i64.wrap (eG+1)))else fH)
def arZ(x0:Int)(x3:Sl bk)(x4:Sl ag)(x5:Sl bD):Bool:=Vg x5 ((toNat ((x5.n:Int)-0))+1) (arX x0 x3 x4 x5) 0
def ng(x0:Int)(x1:ag)(x2:Int)(x3:Sl bk)(x4:Sl ag)(x5:Sl bD):Int:=(bif(vT x0)then 3 else(bif(tT x0 x1 x2 x3 x4 x5)then 8 else(bif(vU x0 x3 x4 x5)then 1 else(bif(yN x1 x4)then 1 else(bif(KB x3)then 1 else(bif(KC x5)then 1 else(bif(yM x2 x5)then 2 else(bif(!(arZ x0 x3 x4 x5))then 10 else 0))))))))
def F72:Fq:=⟨[.g [kI,kS,kI,.sl cN,.sl E9,.sl cH]],fun x0 x1 x2 x3 x4 x5=>⟨⟨none,ae (ng x0 x1 x2 x3 x4 x5)⟩⟩⟩
theorem k72:ba 159 F72:=bf Tryz.func159
 fun(x0:Int) x1 n1 (x2:Int) x3 n3 _ x4 n4 _ x5 n5 _=>bj ⟨.pure,[.tmp 2],[(.t 0,kI)],⟨[U],[]⟩⟩ (.ai (.s (.j ⟨16390,[],[(.t 14,kB)],[],.f⟩ .z .z) (.ai (.j ⟨14,[],[(.h 1 1,kS),(.h 1 2,kI),(.h 1 3,.sl cN),(.h 1 4,.sl E9),(.h 1 5,.sl cH)],[(.b .f .l),(.b .f (.b .f .l)),(.b .f (.b .f (.b .f .l))),.f,.f],.f⟩ .z (.s (.j ⟨8796093022214,[.b 1],[(.t 43,kB)],[],.f⟩ .z .z) (.s (.j ⟨72057594037927942,[],[(.t 56,kB)],[],.f⟩ .z .z) (.s (.j ⟨36893488147419103238,[],[(.t 65,kB)],[],.f⟩ .z .z) (.ai (.ai (.s (.j ⟨1208925819614629174706182,[],[(.t 80,kB)],[],.f⟩ .z .z) (.j ⟨22,[],[(.t 4,kB)],[],.f⟩ .z (.j ⟨20,[],[],[],.f⟩ (.ai (.lp ⟨8873554201597605810476922437654,[],[],[(.t 4,kB),(.t 102,kI)],some 1,false,20,[.b 0],[(.t 4,kB)],fun k (s:Bool×Int)=>Vg x5 k s.1 s.2,.f,fun(s:Bool×Int)=>(0≤s.2∧s.2≤(x5.n:Int)),fun(s:Bool×Int)=>(toNat ((x5.n:Int)-s.2)),none⟩ (.ai (.ai (.s (.ai (.j ⟨166801268929831109337140697872990326,[],[(.t 4,kB),(.t 108,kB),(.t 117,kB)],[],.f⟩ .z .z)) .z))))) .z)))))))))))) ((vT x0)=false→((tT x0 x1 x2 x3 x4 x5)=false→((vU x0 x3 x4 x5)=false→((yN x1 x4)=false→((KB x3)=false→((KC x5)=false→((yM x2 x5)=false→(((0≤(0:Int)∧(0:Int)≤(x5.n:Int)))∧(∀(fH:Bool) (eG:Int),let z8:=decide (eG<(x5.n:Int));let z6:=i64.wrap (eG+1);(0≤eG∧eG≤(x5.n:Int))→((z8=true→((0≤eG∧eG<(x5.n:Int))∧(fH=true→(((0:Int)≤0)∧((0:Int)≤eG)∧((eG:Int)≤eG)∧((eG:Int)≤(x5.n:Int))))))∧(z8=true→((0≤z6∧z6≤(x5.n:Int))∧(toNat ((x5.n:Int)-z6))<(toNat ((x5.n:Int)-eG)))))))))))))) (bU (aH auv (aH Iu (aH N4 (aH WM (aH auH (aH auJ (aH auK (aH auN (aH auO (aH auP (aH ahm aQ)))))))))))) Tryz.func159 ((fun h1=>(fun h2=>(fun h3=>(fun h4=>(fun h5=>(fun h6=>(fun h7=>⟨(by have:=h1;simp [vT]at this;have:=h2;simp [tT]at this;have:=h3;simp [vU]at this;have:=h4;simp [yN]at this;have:=h7;simp [yM]at this;omega),(fun fH eG hI8=>⟨(fun h9=>⟨(by have:=h1;simp [vT]at this;have:=h2;simp [tT]at this;have:=h3;simp [vU]at this;have:=h4;simp [yN]at this;have:=h7;simp [yM]at this;have:=ay h9;omega),(fun dJ=>(by have:=h1;simp [vT]at this;have:=h2;simp [tT]at this;have:=h3;simp [vU]at this;have:=h4;simp [yN]at this;have:=h7;simp [yM]at this;have:=ay h9;omega))⟩),(fun jH=>(by have:=h1;simp [vT]at this;have:=h2;simp [tT]at this;have:=h3;simp [vU]at this;have:=h4;simp [yN]at this;have:=h7;simp [yM]at this;have:=ay jH;first|omega|(have:=aq (eG+1);omega)))⟩)⟩))))))))
end
section
variable(x0:Int)(x1:Sl ar)(bC:Int)
def yR:Bool:=(bif(decide (x0<0))then true else(bif(decide (x0>1073741824))then true else(decide ((x1.n:Int)>12))))
def pP:Bool:=(bif(decide ((((x1.at' (toNat bC)).c0:ag).size:Int)<1))then true else(bif(decide ((((x1.at' (toNat bC)).c0:ag).size:Int)>12))then true else(bif((ng (x1.at' (toNat bC)).c1 (x1.at' (toNat bC)).c2 (x1.at' (toNat bC)).c3 (x1.at' (toNat bC)).c4 (x1.at' (toNat bC)).c5 (x1.at' (toNat bC)).c6)!=0)then true else(bif(decide (bC>0))then(!(Op.bytesLess (((x1.at' (toNat (i64.wrap (bC-1)))).c0:ag).toList) (((x1.at' (toNat bC)).c0:ag).toList)))else false))))
def rA:Bool:=(bif((x1.at' (toNat bC)).c7 !=0)then(bif(decide ((x1.at' (toNat bC)).c7≤x0))then true else(decide ((x1.at' (toNat bC)).c7>1073741824)))else false)
def yQ(x0:Int)(x1:Sl ar):Nat→Int→Bool×Int
 |0,_=>default
 |k+1,bC=>(bif(decide (bC<(x1.n:Int)))then(bif(pP x1 bC)then(true,13)else(bif(rA x0 x1 bC)then(true,13)else(yQ x0 x1 k (i64.wrap (bC+1)))))else(false,default))
def MI:Bool×Int:=yQ x0 x1 ((toNat ((x1.n:Int)-0))+1) 0
def Vh:Bool:=(bif(MI x0 x1).1 then false else true)
def ko:Int:=(bif(yR x0 x1)then 13 else(bif(Vh x0 x1)then 0 else(MI x0 x1).2))
def F78:Fq:=⟨[.g [kI,.sl aZ]],fun x0 x1=>⟨⟨none,ae (ko x0 x1)⟩⟩⟩
theorem k78:ba 146 F78:=bf Tryz.func146
 fun(x0:Int) x1 n1 _=>bj ⟨.pure,[.tmp 2],[(.t 0,kI)],⟨[U],[]⟩⟩ (.ai (.s (.j ⟨262150,[],[(.t 18,kB)],[],.f⟩ .z .z) (.j ⟨4,[],[],[],.f⟩ (.ai (.lp ⟨7340038,[],[],[(.t 22,kI)],some 0,true,4,[.b 0],[],fun k (s:Int)=>yQ x0 x1 k s,.f,fun(s:Int)=>(0≤s∧s≤(x1.n:Int)),fun(s:Int)=>(toNat ((x1.n:Int)-s)),none⟩ (.ai (.ai (.s (.ai (.s (.j ⟨288243780743594014,[],[(.t 31,kB),(.t 36,kB),(.t 37,kB),(.t 42,kB),(.t 43,kB),(.t 58,kB)],[(.b .f .l),(.b .f .l),(.b .f (.b .f .l)),(.b .f (.b .f .l)),(.b .f (.b .f (.b .f .l))),.f],.f⟩ .z .z) (.j ⟨9453668120804585373726,[],[(.t 62,kB),(.t 73,kB)],[(.b .l .f),.f],.f⟩ .z .z))) .z))))) .z))) ((yR x0 x1)=false→(((0≤(0:Int)∧(0:Int)≤(x1.n:Int)))∧(∀(bC:Int),let zb:=i64.wrap (bC-1);let za:=decide (bC<(x1.n:Int));let z8:=i64.wrap (bC+1);let z6:=x1.at' (toNat bC);(0≤bC∧bC≤(x1.n:Int))→((za=true→((0≤bC∧bC<(x1.n:Int))∧((decide (((z6.c0:ag).size:Int)<1))=false→((decide (((z6.c0:ag).size:Int)>12))=false→(((ng z6.c1 z6.c2 z6.c3 z6.c4 z6.c5 z6.c6)!=0)=false→((decide (bC>0))=true→(0≤zb∧zb<(x1.n:Int))))))))∧(za=true→((pP x1 bC)=false→((rA x0 x1 bC)=false→((0≤z8∧z8≤(x1.n:Int))∧(toNat ((x1.n:Int)-z8))<(toNat ((x1.n:Int)-bC)))))))))) (bU (aH k72 aQ)) Tryz.func146 ((fun h1=>⟨(by have:=h1;simp [yR]at this;omega),(fun bC jk=>⟨(fun h3=>⟨(by have:=h1;simp [yR]at this;have:=ay h3;omega),(fun h4=>(fun h5=>(fun h6=>(fun h7=>(by have:=h1;simp [yR]at this;have:=ay h3;have:=iw h4;have:=iw h5;have:=bE h6;have:=ay h7;first|omega|(have:=aq (bC-1);omega))))))⟩),(fun h8=>(fun h9=>(fun dJ=>(by have:=h1;simp [yR]at this;have:=ay h8;have:=h9;simp [pP]at this;have:=dJ;simp [rA]at this;first|omega|(have:=aq (bC+1);omega)))))⟩)⟩))
end
section
variable(x0:Int)(x1:Sl ar)(x2:Int)(x3:Sl aG)(bg:Int)
def yS:Bool:=(bif((ko x0 x1)!=0)then true else(bif(decide (x2<1))then true else(bif(decide (x2>1048577))then true else(decide ((x3.n:Int)>4)))))
def CQ:Bool:=(bif(decide ((x3.at' (toNat bg)).c0<1))then true else(bif(decide ((x3.at' (toNat bg)).c0≥x2))then true else(bif(decide (bg>0))then(decide ((x3.at' (toNat (i64.wrap (bg-1)))).c0≥(x3.at' (toNat bg)).c0))else false)))
def CP:Bool:=(bif(decide ((x3.at' (toNat bg)).c1<0))then true else(bif(decide ((x3.at' (toNat bg)).c1>1048576))then true else(bif(decide ((x3.at' (toNat bg)).c2<0))then true else(bif(decide ((x3.at' (toNat bg)).c2>x0))then true else((yE (x3.at' (toNat bg)).c3 (x3.at' (toNat bg)).c4 (x3.at' (toNat bg)).c5 (x3.at' (toNat bg)).c6)!=0)))))
def Hk(x0:Int)(x2:Int)(x3:Sl aG):Nat→Int→Bool×Int
 |0,_=>default
 |k+1,bg=>(bif(decide (bg<(x3.n:Int)))then(bif(CQ x2 x3 bg)then(true,13)else(bif(CP x0 x3 bg)then(true,13)else(Hk x0 x2 x3 k (i64.wrap (bg+1)))))else(false,default))
def Vi:Bool×Int:=Hk x0 x2 x3 ((toNat ((x3.n:Int)-0))+1) 0
def agk:Bool:=(bif(Vi x0 x2 x3).1 then false else true)
def gJ:Int:=(bif(yS x0 x1 x2 x3)then 13 else(bif(agk x0 x2 x3)then 0 else(Vi x0 x2 x3).2))
def F84:Fq:=⟨[.g [kI,.sl aZ,kI,.sl bG]],fun x0 x1 x2 x3=>⟨⟨none,ae (gJ x0 x1 x2 x3)⟩⟩⟩
theorem Oa:ba 119 F84:=bf Tryz.func119
 fun(x0:Int) x1 n1 _ (x2:Int) x3 n3 _=>bj ⟨.pure,[.tmp 2],[(.t 0,kI)],⟨[U],[]⟩⟩ (.ai (.s (.j ⟨16777222,[],[(.t 24,kB)],[],.f⟩ .z .z) (.j ⟨4,[],[],[],.f⟩ (.ai (.lp ⟨469762054,[],[],[(.t 28,kI)],some 0,true,4,[.b 0],[],fun k (s:Int)=>Hk x0 x2 x3 k s,.f,fun(s:Int)=>(0≤s∧s≤(x3.n:Int)),fun(s:Int)=>(toNat ((x3.n:Int)-s)),none⟩ (.ai (.ai (.s (.ai (.s (.j ⟨288243707663089694,[],[(.t 36,kB),(.t 42,kB),(.t 43,kB),(.t 58,kB)],[(.b .f .l),(.b .f .l),(.b .f (.b .f .l)),.f],.f⟩ .z .z) (.j ⟨40506328802898258549538846,[],[(.t 62,kB),(.t 66,kB),(.t 67,kB),(.t 71,kB),(.t 72,kB),(.t 79,kB),(.t 80,kB),(.t 85,kB)],[(.b .f .l),(.b .f .l),(.b .f (.b .f .l)),(.b .f (.b .f .l)),(.b .f (.b .f (.b .f .l))),(.b .f (.b .f (.b .f .l))),.f,.f],.f⟩ .z .z))) .z))))) .z))) ((yS x0 x1 x2 x3)=false→(((0≤(0:Int)∧(0:Int)≤(x3.n:Int)))∧(∀(bg:Int),let zb:=x3.at' (toNat bg);let za:=i64.wrap (bg-1);let z8:=decide (bg<(x3.n:Int));let z6:=i64.wrap (bg+1);(0≤bg∧bg≤(x3.n:Int))→((z8=true→((0≤bg∧bg<(x3.n:Int))∧((decide (zb.c0<1))=false→((decide (zb.c0≥x2))=false→((decide (bg>0))=true→(0≤za∧za<(x3.n:Int)))))))∧(z8=true→((CQ x2 x3 bg)=false→((CP x0 x3 bg)=false→((0≤z6∧z6≤(x3.n:Int))∧(toNat ((x3.n:Int)-z6))<(toNat ((x3.n:Int)-bg)))))))))) (bU (aH k42 (aH k78 aQ))) Tryz.func119 ((fun h1=>⟨(by have:=h1;simp [yS]at this;omega),(fun bg jk=>⟨(fun h3=>⟨(by have:=h1;simp [yS]at this;have:=ay h3;omega),(fun h4=>(fun h5=>(fun h6=>(by have:=h1;simp [yS]at this;have:=ay h3;have:=iw h4;have:=iw h5;have:=ay h6;first|omega|(have:=aq (bg-1);omega)))))⟩),(fun h7=>(fun h8=>(fun h9=>(by have:=h1;simp [yS]at this;have:=ay h7;have:=h8;simp [CQ]at this;have:=h9;simp [CP]at this;first|omega|(have:=aq (bg+1);omega)))))⟩)⟩))
end
section
variable(x0:Int)(x1:Int)
def adG:Bool:=(bif(decide (x0≥1))then(decide (x0≤1048576))else false)
def xF:Bool:=(adG x0)
def ali:Fq:=⟨[.v kI],fun x0=>⟨⟨none,.bool (xF x0)⟩⟩⟩
theorem aho:ba 126 ali:=bf Tryz.func126
 fun(x0:Int)=>bj ⟨.pure,[.tmp 2],[(.t 0,kB)],⟨[U],[]⟩⟩ (.ai (.j ⟨4,[],[(.t 2,kB)],[],.f⟩ .z .z)) True fK Tryz.func126 (trivial)
def agl:Bool:=(bif(!(xF x0))then true else(!(xF x1)))
def rB(x2:Int)(x3:Sl ar)(x4:Int)(x5:Sl aG):Int:=(bif(agl x0 x1)then 2 else(gJ x2 x3 x4 x5))
def F87:Fq:=⟨[.g [kI,kI,kI,.sl aZ,kI,.sl bG]],fun x0 x1 x2 x3 x4 x5=>⟨⟨none,ae (rB x0 x1 x2 x3 x4 x5)⟩⟩⟩
theorem k87:ba 106 F87:=bf Tryz.func106
 fun(x0:Int) (x1:Int) (x2:Int) x3 _ _ (x4:Int) x5 _ _=>bj ⟨.pure,[.tmp 2],[(.t 0,kI)],⟨[U],[]⟩⟩ (.ai (.s (.j ⟨4102,[],[(.t 12,kB)],[],.f⟩ .z .z) .z)) True (bU (aH Oa (aH aho aQ))) Tryz.func106 (trivial)
end
section
variable(x0:Int)(x1:Int)(x2:Int)(x3:Sl ar)(x4:Int)(x5:Sl aG)
def aqp:Bool:=(bif(x0==0)then(bif(x1==0)then(bif(x4==0)then(bif((x5.n:Int)==0)then(bif(x2==0)then((x3.n:Int)==0)else false)else false)else false)else false)else false)
def adW:Bool:=(aqp x0 x1 x2 x3 x4 x5)
def alD:Fq:=⟨[.g [kI,kI,kI,.sl aZ,kI,.sl bG]],fun x0 x1 x2 x3 x4 x5=>⟨⟨none,.bool (adW x0 x1 x2 x3 x4 x5)⟩⟩⟩
theorem au0:ba 129 alD:=bf Tryz.func129
 fun(x0:Int) (x1:Int) (x2:Int) x3 _ _ (x4:Int) x5 _ _=>bj ⟨.pure,[.tmp 2],[(.t 0,kB)],⟨[U],[]⟩⟩ (.ai (.ai (.j ⟨4,[.b 0,.b 1],[(.t 2,kB)],[],.f⟩ .z .z))) True fK Tryz.func129 (trivial)
def agn:Bool:=(bif(decide (x0<1))then true else(decide (x0>3)))
def ar1(x3:Int)(x4:Int)(x5:Int)(x6:Bool)(x7:Int)(x8:Int)(x9:Int)(au:ag)(a_:ag)(bF:ag)(bL:Int)(bY:Int)(c_:Int)(cV:Int)(cO:Sl ar)(cW:Int)(cP:Sl aG):Bool:=let z6:=adW bY c_ cV cO cW cP;(bif(x0 !=1)then(bif(x1 !=0)then true else(bif(x2 !=0)then true else(bif(x0 !=2)then(bif(x3 !=0)then true else(bif(!((x4==0)&&((x5==0)&&((x6==false)&&((x7==0)&&((x8==0)&&((x9==0)&&(((au:ag).toList==(⟨#[]⟩:ag).toList)&&(((a_:ag).toList==(⟨#[]⟩:ag).toList)&&(((bF:ag).toList==(⟨#[]⟩:ag).toList)&&((bL==0)&&true)))))))))))then true else(bif(x0 !=3)then(!z6)else false)))else(bif(x0 !=3)then(!z6)else false))))else(bif(x0 !=2)then(bif(x3 !=0)then true else(bif(!((x4==0)&&((x5==0)&&((x6==false)&&((x7==0)&&((x8==0)&&((x9==0)&&(((au:ag).toList==(⟨#[]⟩:ag).toList)&&(((a_:ag).toList==(⟨#[]⟩:ag).toList)&&(((bF:ag).toList==(⟨#[]⟩:ag).toList)&&((bL==0)&&true)))))))))))then true else(bif(x0 !=3)then(!z6)else false)))else(bif(x0 !=3)then(!z6)else false)))
def ago:Bool:=(bif(!(xF x1))then true else(bif(decide (x2<(-1)))then true else(decide (x2≥3))))
def kq(x3:Int)(x4:Int)(x5:Int)(x6:Bool)(x7:Int)(x8:Int)(x9:Int)(au:ag)(a_:ag)(bF:ag)(bL:Int)(bY:Int)(c_:Int)(cV:Int)(cO:Sl ar)(cW:Int)(cP:Sl aG):Int:=(bif(agn x0)then 3 else(bif(ar1 x0 x1 x2 x3 x4 x5 x6 x7 x8 x9 au a_ bF bL bY c_ cV cO cW cP)then 8 else(bif(x0==1)then(bif(ago x1 x2)then 2 else 0)else(bif(x0==2)then(bif(!(xF x3))then 2 else(il x4 x5 x6 x7 x8 x9 au a_ bF bL))else(rB bY c_ cV cO cW cP)))))
def F94:Fq:=⟨[.g [kI,kI,kI,kI,kI,kI,kB,kI,kI,kI,kS,kS,kS,kI,kI,kI,kI,.sl aZ,kI,.sl bG]],fun x0 x1 x2 x3 x4 x5 x6 x7 x8 x9 au a_ bF bL bY c_ cV cO cW cP=>⟨⟨none,ae (kq x0 x1 x2 x3 x4 x5 x6 x7 x8 x9 au a_ bF bL bY c_ cV cO cW cP)⟩⟩⟩
theorem WX:ba 111 F94:=bf Tryz.func111
 fun(x0:Int) (x1:Int) (x2:Int) (x3:Int) (x4:Int) (x5:Int) x6 (x7:Int) (x8:Int) (x9:Int) au _ a_ _ bF _ (bL:Int) (bY:Int) (c_:Int) (cV:Int) cO _ _ (cW:Int) cP _ _=>bj ⟨.pure,[.tmp 2],[(.t 0,kI)],⟨[U],[]⟩⟩ (.ai (.s (.j ⟨2054,[],[(.t 11,kB)],[],.f⟩ .z .z) (.ai (.s (.j ⟨4503599627370502,[.b 1],[(.t 52,kB)],[],.f⟩ .z .z) (.s (.ai (.ai (.s (.s (.j ⟨1180591620717411303430,[],[(.t 70,kB)],[],.f⟩ .z .z) .z) .z))) .z))))) True (bU (aH N8 (aH k87 (aH aho (aH au0 aQ))))) Tryz.func111 (trivial)
end
section
variable(x0:Int)(x1:Int)(x2:Sl aM)(x3:Int)(x4:Int)
def tQ:Bool:=(bif(decide (x0<0))then true else(bif(decide (x1<0))then true else(bif(decide (x1>1048576))then true else(bif(!((x0==0)==(x1==0)))then true else(bif(decide ((x2.n:Int)>200))then true else(decide (x0>(i64.wrap (1048576- (x2.n:Int))))))))))
def Hi(cC:Int)(ga:Int)(gO:Int):Bool:=(bif((il (x2.at' (toNat gO)).c0 (x2.at' (toNat gO)).c1 (x2.at' (toNat gO)).c2 (x2.at' (toNat gO)).c3 (x2.at' (toNat gO)).c4 (x2.at' (toNat gO)).c5 (x2.at' (toNat gO)).c6 (x2.at' (toNat gO)).c7 (x2.at' (toNat gO)).c8 (x2.at' (toNat gO)).c9)!=0)then true else(bif(decide ((x2.at' (toNat gO)).c0<cC))then true else(decide ((x2.at' (toNat gO)).c1<ga))))
def CI(x2:Sl aM):Nat→Int→Int→Int→Bool×Int
 |0,_,_,_=>default
 |k+1,cC,ga,gO=>(bif(decide (gO<(x2.n:Int)))then(bif(Hi x2 cC ga gO)then(true,13)else(CI x2 k (x2.at' (toNat gO)).c0 (x2.at' (toNat gO)).c1 (i64.wrap (gO+1))))else(false,default))
def Ve:Bool×Int:=CI x2 ((toNat ((x2.n:Int)-0))+1) x1 0 0
def af5:Bool:=(bif(Ve x1 x2).1 then false else true)
def cK:Int:=(bif(tQ x0 x1 x2)then 13 else(bif(af5 x1 x2)then 0 else(Ve x1 x2).2))
def F53:Fq:=⟨[.g [kI,kI,.sl cZ]],fun x0 x1 x2=>⟨⟨none,ae (cK x0 x1 x2)⟩⟩⟩
theorem wC:ba 18 F53:=bf Tryz.func18
 fun(x0:Int) (x1:Int) x2 n2 _=>bj ⟨.pure,[.tmp 2],[(.t 0,kI)],⟨[U],[]⟩⟩ (.ai (.s (.j ⟨8796093022214,[],[(.t 43,kB)],[],.f⟩ .z .z) (.ai (.j ⟨4,[],[],[],.f⟩ (.ai (.lp ⟨985162418487324,[.b 0],[],[(.t 3,kI),(.t 4,kI),(.t 49,kI)],some 0,true,4,[],[],fun k (s:Int×Int×Int)=>CI x2 k s.1 s.2.1 s.2.2,.f,fun(s:Int×Int×Int)=>(0≤s.2.2∧s.2.2≤(x2.n:Int)),fun(s:Int×Int×Int)=>(toNat ((x2.n:Int)-s.2.2)),none⟩ (.ai (.ai (.s (.ai (.s (.j ⟨154635456067904995420,[],[(.t 56,kB),(.t 61,kB),(.t 62,kB),(.t 67,kB)],[(.b .f .l),(.b .f .l),.f,.f],.f⟩ .z .z) .z)) .z))))) .z)))) ((tQ x0 x1 x2)=false→(((0≤(0:Int)∧(0:Int)≤(x2.n:Int)))∧(∀(cC:Int) (ga:Int) (gO:Int),let z8:=decide (gO<(x2.n:Int));let z6:=i64.wrap (gO+1);(0≤gO∧gO≤(x2.n:Int))→((z8=true→(0≤gO∧gO<(x2.n:Int)))∧(z8=true→((Hi x2 cC ga gO)=false→((0≤z6∧z6≤(x2.n:Int))∧(toNat ((x2.n:Int)-z6))<(toNat ((x2.n:Int)-gO))))))))) (bU (aH N8 aQ)) Tryz.func18 ((fun h1=>⟨(by have:=h1;simp [tQ]at this;omega),(fun cC ga gO jk=>⟨(fun h3=>(by have:=h1;simp [tQ]at this;have:=ay h3;omega)),(fun h4=>(fun h5=>(by have:=h1;simp [tQ]at this;have:=ay h4;have:=h5;simp [Hi]at this;first|omega|(have:=aq (gO+1);omega))))⟩)⟩))
theorem fx(x0 x1:Int)(x2:Sl aM)(h:cK x0 x1 x2=0):(0≤x0∧x0≤1048576)∧(0≤x1∧x1≤1048576)∧x2.n≤200∧x0+x2.n≤1048576:=by
 unfold cK at h
 cases hm:tQ x0 x1 x2 with
 |true=>rw[hm]at h;simp at h
 |false=>
  simp [tQ]at hm;have:=aq (1048576- (x2.n:Int));omega
def qW:Int:=(bif(decide ((x2.n:Int)>0))then(i64.wrap (x0+(x2.n:Int)))else x0)
def Kz:Int:=(bif(decide ((x2.n:Int)>0))then(x2.at' (toNat (i64.wrap ((x2.n:Int)-1)))).c0 else x1)
def akY:Fq:=⟨[.g [kI,kI,.sl cZ]],fun x0 x1 x2=>⟨⟨none,.cU [ae (qW x0 x2),ae (Kz x1 x2)]⟩⟩⟩
theorem ahj:ba 104 akY:=bf Tryz.func104
 fun(x0:Int) (x1:Int) x2 n2 _=>bj ⟨.pure,[.tmp 2,.tmp 3],[(.t 0,kI),(.t 1,kI)],⟨[U,U],[]⟩⟩ (.z) (let z6:=i64.wrap ((x2.n:Int)-1);(decide ((x2.n:Int)>0))=true→(0≤z6∧z6<(x2.n:Int))) fK Tryz.func104 ((fun h1=>(by have:=ay h1;have:=aq ((x2.n:Int)-1);omega)))
def l8:Int:=(bif((cK x0 x1 x2)!=0)then 0 else(qW x0 x2))
def af6:Int:=(bif((cK x0 x1 x2)!=0)then 0 else(Kz x1 x2))
def arR:Int:=(bif((cK x0 x1 x2)!=0)then(cK x0 x1 x2)else 0)
def F58:Fq:=⟨[.g [kI,kI,.sl cZ]],fun x0 x1 x2=>⟨⟨none,.cU [ae (l8 x0 x1 x2),ae (af6 x0 x1 x2),ae (arR x0 x1 x2)]⟩⟩⟩
theorem k58:ba 88 F58:=bf Tryz.func88
 fun(x0:Int) (x1:Int) x2 _ _=>bj ⟨.pure,[.tmp 2,.tmp 3,.tmp 4],[(.t 0,kI),(.t 1,kI),(.t 2,kI)],⟨[U,U,U],[]⟩⟩ (.z) True (bU (aH wC (aH ahj aQ))) Tryz.func88 (trivial)
def arT:Bool:=(bif(decide (x4>(Kz x1 x2)))then true else(bif(x4==(Kz x1 x2))then(decide (x3≥(qW x0 x2)))else false))
def vR:Bool:=(bif((cK x0 x1 x2)!=0)then false else(arT x0 x1 x2 x3 x4))
def arS:Int:=(bif((cK x0 x1 x2)!=0)then(cK x0 x1 x2)else 0)
def F60:Fq:=⟨[.g [kI,kI,.sl cZ],.v kI,.v kI],fun x0 x1 x2 x3 x4=>⟨⟨none,.cU [.bool (vR x0 x1 x2 x3 x4),ae (arS x0 x1 x2)]⟩⟩⟩
theorem WW:ba 89 F60:=bf Tryz.func89
 fun(x0:Int) (x1:Int) x2 _ _ (x3:Int) (x4:Int)=>bj ⟨.pure,[.tmp 6,.tmp 7],[(.t 0,kB),(.t 1,kI)],⟨[U,U],[]⟩⟩ (.ai (.ai (.ai (.j ⟨192,[.b 0],[(.t 6,kB)],[],.f⟩ .z .z)))) True (bU (aH wC (aH ahj aQ))) Tryz.func89 (trivial)
def qX:Int:=(bif(decide (x3<x0))then 0 else(bif(x3==x0)then x1 else(bif(decide ((i64.wrap (x3-x0))>(x2.n:Int)))then 0 else(x2.at' (toNat (i64.wrap ((i64.wrap (x3-x0))-1)))).c0)))
def jD:Int:=(bif(decide (x3<x0))then 11 else(bif(x3==x0)then 0 else(bif(decide ((i64.wrap (x3-x0))>(x2.n:Int)))then 5 else 0)))
def akZ:Fq:=⟨[.g [kI,kI,.sl cZ],.v kI],fun(x0:Int) (x1:Int) x2 (x3:Int)=>⟨⟨some (0≤x0∧x0≤1048576∧x3≤9223372036854775807),.cU [ae (qX x0 x1 x2 x3),ae (jD x0 x2 x3)]⟩⟩⟩
theorem N5:ba 102 akZ:=bf Tryz.func102
 fun(x0:Int) (x1:Int) x2 n2 _ (x3:Int) hp=>bj ⟨.pure,[.tmp 4,.tmp 5],[(.t 0,kI),(.t 1,kI)],⟨[U,U],[]⟩⟩ (.z) (let z6:=i64.wrap (x3-x0);let z8:=i64.wrap (z6-1);(decide (x3<x0))=false→((x3==x0)=false→((decide (z6>(x2.n:Int)))=false→(0≤z8∧z8<(x2.n:Int))))) fK Tryz.func102 (have⟨cn,dv,ia⟩:=hp;(fun h1=>(fun h2=>(fun h3=>(by have:=iw h1;have:=cM h2;have:=iw h3;have:=aq (x3-x0);have:=aq ((i64.wrap (x3-x0))-1);omega)))))
theorem AX(x0:Int)(x2:Sl aM)(x3:Int):jD x0 x2 x3=0∧(0≤x0∧x0≤1048576)∧x2.n≤549755813888∧x3≤9223372036854775807→x0≤x3∧x3≤x0+(x2.n:Int):=fun⟨h1,h3,h4,h5⟩=>by
 simp only[jD]at h1
 by_cases a:x3<x0
 ·simp [a]at h1
 ·rw[aq (x3-x0)]at h1
  by_cases b:x3=x0
  ·omega
  ·by_cases c:x3-x0>(x2.n:Int)
   ·rw[aDA.2 b]at h1;simp [a,c]at h1
   ·omega
def CM:Bool:=(bif(decide (x3<0))then true else(decide (x3>1048576)))
def lE:Int:=(bif((cK x0 x1 x2)!=0)then 0 else(bif(CM x3)then 0 else(qX x0 x1 x2 x3)))
def yK:Int:=(bif((cK x0 x1 x2)!=0)then(cK x0 x1 x2)else(bif(CM x3)then 2 else(jD x0 x2 x3)))
def F62:Fq:=⟨[.g [kI,kI,.sl cZ],.v kI],fun x0 x1 x2 x3=>⟨⟨none,.cU [ae (lE x0 x1 x2 x3),ae (yK x0 x1 x2 x3)]⟩⟩⟩
theorem N9:ba 94 F62:=bf Tryz.func94
 fun(x0:Int) (x1:Int) x2 n2 _ (x3:Int)=>bj ⟨.pure,[.tmp 4,.tmp 5],[(.t 0,kI),(.t 1,kI)],⟨[U,U],[]⟩⟩ (.ai (.ai (.s (.j ⟨131126,[],[(.t 17,kB)],[],.f⟩ .z .z) .z))) (((cK x0 x1 x2)!=0)=false→((CM x3)=false→(0≤x0∧x0≤1048576∧x3≤9223372036854775807))) (bU (aH wC (aH N5 aQ))) Tryz.func94 ((fun h1=>(fun h2=>(by have:=fx _ _ _ (bE h1);have:=h2;simp [CM]at this;omega))))
end
section
variable(x0:Int)(x1:Int)(x2:Sl aM)(x3:Int)
def tS:Int:=(bif((cK x0 x1 x2)!=0)then 0 else(bif((jD x0 x2 x3)!=0)then 0 else x3))
def MD:Int:=(bif((cK x0 x1 x2)!=0)then 0 else(bif((jD x0 x2 x3)!=0)then 0 else(qX x0 x1 x2 x3)))
def vS:Sl aM:=(bif((cK x0 x1 x2)!=0)then(al:Sl aM)else(bif((jD x0 x2 x3)!=0)then(al:Sl aM)else(Sl.part x2 (i64.wrap (x3-x0)) (x2.n:Int))))
def arV:Int:=(bif((cK x0 x1 x2)!=0)then(cK x0 x1 x2)else(bif((jD x0 x2 x3)!=0)then(jD x0 x2 x3)else 0))
def F66:Fq:=⟨[.g [kI,kI,.sl cZ],.v kI],fun(x0:Int) (x1:Int) x2 (x3:Int)=>⟨⟨some (x3≤9223372036854775807),.cU [.agg [ae (tS x0 x1 x2 x3),ae (MD x0 x1 x2 x3),aL 10 dH (vS x0 x1 x2 x3)],ae (arV x0 x1 x2 x3)]⟩⟩⟩
theorem k66:ba 100 F66:=bf Tryz.func100
 fun(x0:Int) (x1:Int) x2 n2 _ (x3:Int) hp=>bj ⟨.pure,[.cell 4 43,.tmp 5],[(.c 0 0,kI),(.c 0 1,kI),(.c 0 2,.sl cZ),(.t 1,kI)],⟨[.agg (us 3 []),U],[]⟩⟩ (.z) (let z6:=i64.wrap (x3-x0);((cK x0 x1 x2)!=0)=false→((0≤x0∧x0≤1048576∧x3≤9223372036854775807)∧(((jD x0 x2 x3)!=0)=false→(((0:Int)≤z6)∧((z6:Int)≤(x2.n:Int))∧(((x2.n:Int):Int)≤(x2.n:Int))∧(((x2.n:Int):Int)≤(x2.n:Int)))))) (bU (aH wC (aH N5 (aH Dz aQ)))) Tryz.func100 ((fun h1=>⟨(by have:=fx _ _ _ (bE h1);omega),(fun h2=>(by have:=fx _ _ _ (bE h1);have:=bE h2;have:=AX x0 x2 x3;have:=aq (x3-x0);omega))⟩))
end
section
variable(x0:Int)(x1:Int)(x2:Sl aM)(x3:Int)(x4:Int)(x5:Int)(x6:Sl ar)(x7:Int)(x8:Sl aG)
def qY:Bool:=(bif((yK x0 x1 x2 x3)==0)then((lE x0 x1 x2 x3)==x4)else false)
def vt:Int:=(bif(qY x0 x1 x2 x3 x4)then(tS x0 x1 x2 x3)else x3)
def F4:Int:=(bif(qY x0 x1 x2 x3 x4)then(MD x0 x1 x2 x3)else x4)
def xJ:Sl aM:=(bif(qY x0 x1 x2 x3 x4)then(vS x0 x1 x2 x3)else(al:Sl aM))
def alE:Fq:=⟨[.g [kI,kI,.sl cZ],.g [kI,kI,kI,.sl aZ,kI,.sl bG]],fun(x0:Int) (x1:Int) x2 (x3:Int) (x4:Int) _ _ _ _=>⟨⟨some (x3≤9223372036854775807),.agg [ae (vt x0 x1 x2 x3 x4),ae (F4 x0 x1 x2 x3 x4),aL 10 dH (xJ x0 x1 x2 x3 x4)]⟩⟩⟩
theorem ahs:ba 107 alE:=bf Tryz.func107
 fun(x0:Int) (x1:Int) x2 n2 _ (x3:Int) (x4:Int) (x5:Int) x6 n6 _ (x7:Int) x8 n8 _ hp=>bj ⟨.pure,[.cell 4 43],[(.c 0 0,kI),(.c 0 1,kI),(.c 0 2,.sl cZ)],⟨[.agg (us 3 [])],[]⟩⟩ (.ai (.s (.ai (.j ⟨8388636,[],[(.t 23,kB)],[],.f⟩ .z .z)) .z)) ((qY x0 x1 x2 x3 x4)=true→(x3≤9223372036854775807)) (bU (aH N9 (aH k66 aQ))) Tryz.func107 ((fun h1=>(by omega)))
def yT:Int:=(bif((cK x0 x1 x2)!=0)then 0 else(bif((rB x3 x4 x5 x6 x7 x8)!=0)then 0 else(vt x0 x1 x2 x3 x4)))
def agp:Int:=(bif((cK x0 x1 x2)!=0)then 0 else(bif((rB x3 x4 x5 x6 x7 x8)!=0)then 0 else(F4 x0 x1 x2 x3 x4)))
def yU:Sl aM:=(bif((cK x0 x1 x2)!=0)then(al:Sl aM)else(bif((rB x3 x4 x5 x6 x7 x8)!=0)then(al:Sl aM)else(xJ x0 x1 x2 x3 x4)))
def ar2:Int:=(bif((cK x0 x1 x2)!=0)then(cK x0 x1 x2)else(bif((rB x3 x4 x5 x6 x7 x8)!=0)then(rB x3 x4 x5 x6 x7 x8)else 0))
def F97:Fq:=⟨[.g [kI,kI,.sl cZ],.g [kI,kI,kI,.sl aZ,kI,.sl bG]],fun(x0:Int) (x1:Int) x2 (x3:Int) (x4:Int) (x5:Int) x6 (x7:Int) x8=>⟨⟨some (x3≤9223372036854775807),.cU [.agg [ae (yT x0 x1 x2 x3 x4 x5 x6 x7 x8),ae (agp x0 x1 x2 x3 x4 x5 x6 x7 x8),aL 10 dH (yU x0 x1 x2 x3 x4 x5 x6 x7 x8)],ae (ar2 x0 x1 x2 x3 x4 x5 x6 x7 x8)]⟩⟩⟩
theorem k97:ba 92 F97:=bf Tryz.func92
 fun(x0:Int) (x1:Int) x2 n2 _ (x3:Int) (x4:Int) (x5:Int) x6 n6 _ (x7:Int) x8 n8 _ hp=>bj ⟨.pure,[.cell 4 43,.tmp 5],[(.c 0 0,kI),(.c 0 1,kI),(.c 0 2,.sl cZ),(.t 1,kI)],⟨[.agg (us 3 []),U],[]⟩⟩ (.z) (((cK x0 x1 x2)!=0)=false→(((rB x3 x4 x5 x6 x7 x8)!=0)=false→(x3≤9223372036854775807))) (bU (aH wC (aH k87 (aH ahs aQ)))) Tryz.func92 ((fun h1=>(fun h2=>(by omega))))
end
section
variable(x0:Int)(x1:Sl Int)
def da:Sl Int:=(Sl.app x1 (Sl.lit ([(u8.wrap x0)]:List Int)))
def alk:Hq:=⟨[.p 0,.v kI],[(.h 1 0,.ah E5)],[[.own 1 0],[U]],fun(x0:Int) x1=>⟨⟨some (x1.n≤400000000000),[],[[.own 1 ((da x0 x1)).n],[(Kd.ah E5).av (da x0 x1)]]⟩⟩⟩
theorem DA:dz 131 alk:=dE Tryz.func131
 fun(x0:Int) x1 n1 hp=>dy ⟨.heap,[],[(.h 1 0,.ah E5)],⟨[],[[.own 1 0],[U]]⟩⟩ (.z) (x1.n+1≤549755813888) (bB 2 aQ bA) Tryz.func131 ((by omega))
theorem iZ(x0:Int)(x1:Sl Int):(da x0 x1).n=x1.n+1:=rfl
def TE(x0:Int):Nat→Int→Sl Int→Sl Int
 |0,_,_=>default
 |k+1,af,ak=>(bif(decide (af≥0))then(TE x0 k (i64.wrap (af-8)) (Sl.app ak (Sl.lit ([(u8.wrap ((u64.wrap (i64.wrap (x0+4611686018427387904)))/2^(toNat af)))]:List Int))))else ak)
def adH:Sl Int:=TE x0 ((toNat (56+8))+1) 56 x1
def bo:Sl Int:=(adH x0 x1)
def alj:Hq:=⟨[.p 0,.v kI],[(.h 1 0,.ah E5)],[[.own 1 0],[U]],fun(x0:Int) x1=>⟨⟨some (x1.n≤400000000000),[],[[.own 1 ((bo x0 x1)).n],[(Kd.ah E5).av (bo x0 x1)]]⟩⟩⟩
theorem Iw:dz 130 alj:=dE Tryz.func130
 fun(x0:Int) x1 n1 hp=>dy ⟨.heap,[],[(.h 1 0,.ah E5)],⟨[],[[.own 1 0],[U]]⟩⟩ (.ai (.ai (.lp ⟨49,[],[],[(.t 5,kI),(.h 1 0,.ah E5)],some 0,false,0,[],[(.h 1 0,.ah E5)],fun k (s:Int×Sl Int)=>TE x0 k s.1 s.2,.f,fun(s:Int×Sl Int)=>(s.1%8=0∧ -8≤s.1∧s.1≤56∧(s.2.n:Int)*8=(x1.n:Int)*8+56-s.1),fun(s:Int×Sl Int)=>(toNat (s.1+8)),none⟩ .z))) ((((56:Int)%8=0∧ -8≤(56:Int)∧(56:Int)≤56∧(x1.n:Int)*8=(x1.n:Int)*8+56- (56:Int)))∧(∀(af:Int) (ak:Sl Int),let z6:=i64.wrap (af-8);(af%8=0∧ -8≤af∧af≤56∧(ak.n:Int)*8=(x1.n:Int)*8+56-af)→(((decide (af≥0))=true→(((0:Int)≤af∧(af:Int)≤64)∧(ak.n+1≤549755813888)))∧((decide (af≥0))=true→((z6%8=0∧ -8≤z6∧z6≤56∧(((ak.n+1):Nat):Int)*8=(x1.n:Int)*8+56-z6)∧(toNat (z6+8))<(toNat (af+8))))))) (bB 2 aQ bA) Tryz.func130 (⟨(by omega),(fun af ak dX=>⟨(fun h2=>⟨(by have:=ay h2;omega),(by omega)⟩),(fun h3=>(by have:=ay h3;have:=aq (af-8);omega))⟩)⟩)
theorem eP(x0:Int)(x1:Sl Int):(bo x0 x1).n=x1.n+8:=by kernel_rfl
def dk(x0:ag)(x1:Sl Int):Sl Int:=(Sl.app (da ((x0:ag).size:Int) x1) (Sl.ofStr x0))
def alm:Hq:=⟨[.p 0,.v kS],[(.h 1 0,.ah E5)],[[.own 1 0],[U]],fun x0 x1=>⟨⟨some (x1.n≤300000000000∧x0.size≤10000000000),[],[[.own 1 ((dk x0 x1)).n],[(Kd.ah E5).av (dk x0 x1)]]⟩⟩⟩
theorem N7:dz 132 alm:=dE Tryz.func132
 fun x0 n0 x1 n1 hp=>dy ⟨.heap,[],[(.h 1 0,.ah E5)],⟨[],[[.own 1 0],[U]]⟩⟩ (.z) ((x1.n≤400000000000)∧((da ((x0:ag).size:Int) x1).n+(x0:ag).size≤549755813888)) (bB 2 aQ (az DA bA)) Tryz.func132 (have⟨cn,dv⟩:=hp;⟨(by omega),(by have:=iZ ((x0:ag).size:Int) x1;omega)⟩)
theorem jq(x0:ag)(x1:Sl Int):(dk x0 x1).n=x1.n+1+x0.size:=rfl
def Ld(x1:ag)(x2:ag)(x3:ag)(x4:Int)(x5:Sl Int):Sl Int:=(bo x4 (dk x3 (dk x2 (dk x1 (da x0 x5)))))
def amj:Hq:=⟨[.p 0,.g [kI,kS,kS,kS,kI]],[(.h 1 0,.ah E5)],[[.own 1 0],[U]],fun(x0:Int) x1 x2 x3 (x4:Int) x5=>let z6:=Ld x0 x1 x2 x3 x4 x5;⟨⟨some (x5.n≤200000000000∧x1.size≤10000000000∧x2.size≤10000000000∧x3.size≤10000000000),[],[[.own 1 (z6).n],[(Kd.ah E5).av z6]]⟩⟩⟩
theorem avx:dz 195 amj:=dE Tryz.func195
 fun(x0:Int) x1 n1 x2 n2 x3 n3 (x4:Int) x5 n5 hp=>dy ⟨.heap,[],[(.h 1 0,.ah E5)],⟨[],[[.own 1 0],[U]]⟩⟩ (.z) (let z6:=dk x1 (da x0 x5);(x5.n≤400000000000)∧(((da x0 x5).n≤300000000000∧x1.size≤10000000000)∧((z6.n≤300000000000∧x2.size≤10000000000)∧(((dk x2 z6).n≤300000000000∧x3.size≤10000000000)∧((dk x3 (dk x2 z6)).n≤400000000000))))) (bB 2 aQ (az Iw (az DA (az N7 bA)))) Tryz.func195 (have⟨cn,dv,ia,mH⟩:=hp;⟨(by omega),⟨(by have:=iZ x0 x5;omega),⟨(by have:=jq x1 (da x0 x5);have:=iZ x0 x5;omega),⟨(by have:=jq x2 (dk x1 (da x0 x5));have:=jq x1 (da x0 x5);have:=iZ x0 x5;omega),(by have:=jq x3 (dk x2 (dk x1 (da x0 x5)));have:=jq x2 (dk x1 (da x0 x5));have:=jq x1 (da x0 x5);have:=iZ x0 x5;omega)⟩⟩⟩⟩)
def KP(x1:Int)(x2:Int)(x3:ag)(x4:ag)(x5:ag)(x6:Int)(x7:Sl Int):Sl Int:=(bif(decide (x0>0))then(Ld x2 x3 x4 x5 x6 (bo x1 (bo x0 x7)))else(bo x0 x7))
def alP:Hq:=⟨[.p 0,.g [kI,kI,kI,kS,kS,kS,kI]],[(.h 1 0,.ah E5)],[[.own 1 0],[U]],fun(x0:Int) (x1:Int) (x2:Int) x3 x4 x5 (x6:Int) x7=>let z6:=KP x0 x1 x2 x3 x4 x5 x6 x7;⟨⟨some (x7.n≤150000000000∧x3.size≤10000000000∧x4.size≤10000000000∧x5.size≤10000000000),[],[[.own 1 (z6).n],[(Kd.ah E5).av z6]]⟩⟩⟩
theorem au8:dz 169 alP:=dE Tryz.func169
 fun(x0:Int) (x1:Int) (x2:Int) x3 n3 x4 n4 x5 n5 (x6:Int) x7 n7 hp=>dy ⟨.heap,[],[(.h 1 0,.ah E5)],⟨[],[[.own 1 0],[U]]⟩⟩ (.z) ((x7.n≤400000000000)∧((decide (x0>0))=true→(((bo x0 x7).n≤400000000000)∧((bo x1 (bo x0 x7)).n≤200000000000∧x3.size≤10000000000∧x4.size≤10000000000∧x5.size≤10000000000)))) (bB 2 aQ (az Iw (az avx bA))) Tryz.func169 (have⟨cn,dv,ia,mH⟩:=hp;⟨(by omega),(fun h1=>⟨(by have:=eP x0 x7;omega),(by have:=eP x1 (bo x0 x7);have:=eP x0 x7;omega)⟩)⟩)
def KA(x1:Int)(x2:Bool)(x3:Int)(x4:Int)(x5:Int)(x6:ag)(x7:ag)(x8:ag)(x9:Int)(au:Sl Int):Sl Int:=(bif x2 then(da 1 (bo x1 (bo x0 au)))else(KP x3 x4 x5 x6 x7 x8 x9 (da 0 (bo x1 (bo x0 au)))))
def ak0:Hq:=⟨[.p 0,.g [kI,kI,kB,kI,kI,kI,kS,kS,kS,kI]],[(.h 1 0,.ah E5)],[[.own 1 0],[U]],fun(x0:Int) (x1:Int) x2 (x3:Int) (x4:Int) (x5:Int) x6 x7 x8 (x9:Int) au=>let z6:=KA x0 x1 x2 x3 x4 x5 x6 x7 x8 x9 au;⟨⟨some (au.n≤100000000000∧x6.size≤10000000000∧x7.size≤10000000000∧x8.size≤10000000000),[],[[.own 1 (z6).n],[(Kd.ah E5).av z6]]⟩⟩⟩
theorem auF:dz 158 ak0:=dE Tryz.func158
 fun(x0:Int) (x1:Int) x2 (x3:Int) (x4:Int) (x5:Int) x6 n6 x7 n7 x8 n8 (x9:Int) au oC hp=>dy ⟨.heap,[],[(.h 1 0,.ah E5)],⟨[],[[.own 1 0],[U]]⟩⟩ (.z) (let z6:=bo x1 (bo x0 au);(au.n≤400000000000)∧(((bo x0 au).n≤400000000000)∧((x2=true→(z6.n≤400000000000))∧(x2=false→((z6.n≤400000000000)∧((da 0 z6).n≤150000000000∧x6.size≤10000000000∧x7.size≤10000000000∧x8.size≤10000000000)))))) (bB 2 aQ (az Iw (az DA (az au8 bA)))) Tryz.func158 (have⟨cn,dv,ia,mH⟩:=hp;⟨(by omega),⟨(by have:=eP x0 au;omega),⟨(fun h1=>(by have:=eP x1 (bo x0 au);have:=eP x0 au;omega)),(fun h2=>⟨(by have:=eP x1 (bo x0 au);have:=eP x0 au;omega),(by have:=iZ 0 (bo x1 (bo x0 au));have:=eP x1 (bo x0 au);have:=eP x0 au;omega)⟩)⟩⟩⟩)
def yL(x1:Int)(x2:Bool)(x3:Int)(x4:Int)(x5:Int)(x6:ag)(x7:ag)(x8:ag)(x9:Int):Sl Int:=(bif((il x0 x1 x2 x3 x4 x5 x6 x7 x8 x9)!=0)then(al:Sl Int)else(KA x0 x1 x2 x3 x4 x5 x6 x7 x8 x9 (al:Sl Int)))
def arU(x1:Int)(x2:Bool)(x3:Int)(x4:Int)(x5:Int)(x6:ag)(x7:ag)(x8:ag)(x9:Int):Int:=let z6:=il x0 x1 x2 x3 x4 x5 x6 x7 x8 x9;(bif(z6 !=0)then z6 else 0)
def F64:Fq:=⟨[.g [kI,kI,kB,kI,kI,kI,kS,kS,kS,kI]],fun(x0:Int) (x1:Int) x2 (x3:Int) (x4:Int) (x5:Int) x6 x7 x8 (x9:Int)=>⟨⟨some (x6.size≤10000000000∧x7.size≤10000000000∧x8.size≤10000000000),.cU [aL 1 e5 (yL x0 x1 x2 x3 x4 x5 x6 x7 x8 x9),ae (arU x0 x1 x2 x3 x4 x5 x6 x7 x8 x9)]⟩⟩⟩
theorem N_:ba 144 F64:=bf Tryz.func144
 fun(x0:Int) (x1:Int) x2 (x3:Int) (x4:Int) (x5:Int) x6 n6 x7 n7 x8 n8 (x9:Int) hp=>bj ⟨.pure,[.tmp 2,.tmp 3],[(.t 0,.sl E5),(.t 1,kI)],⟨[U,U],[]⟩⟩ (.ai (.ai (.ai (.s (.cv [(.h 1 0,E5)]) .z)))) (((il x0 x1 x2 x3 x4 x5 x6 x7 x8 x9)!=0)=false→(0≤100000000000∧x6.size≤10000000000∧x7.size≤10000000000∧x8.size≤10000000000)) (bB 0 (aH N8 aQ) (az auF bA)) Tryz.func144 (have⟨cn,dv,ia⟩:=hp;(fun h1=>(by omega)))
end
def ad_:Nat→Int→Int→Sl Int→Sl Int
 |0,_,_,_=>default
 |k+1,af,ak,aV=>(bif(decide (ak≥0))then(ad_ k (i64.wrap (af.tdiv 256)) (i64.wrap (ak-1)) (Sl.cp aV (toNat ak) (u8.wrap (af.tmod 256))))else aV)
def aqt(x0:Int):Sl Int:=ad_ ((toNat (7+1))+1) (i64.wrap (x0+4611686018427387904)) 7 (Sl.rep (toNat 8) (0:Int))
def F5(x0:Int):Sl Int:=(aqt x0)
theorem axb(x0:Int):(F5 x0).n=8:=by kernel_rfl
def BL(x0:ag):Sl Int:=(Tn (Sl.lit ([(u8.wrap ((x0:ag).size:Int))]:List Int)) (Sl.ofStr x0))
theorem axc(x0:ag):x0.size≤10000000000→(BL x0).n=x0.size+1:=fun h=>by
 unfold BL;rw[aw8 _ _ (by simp only[Sl.nA,Sl.ofStr,aC7,aDf];omega)];simp only[Sl.nA,Sl.ofStr,aC7,aDf];omega
theorem tq(n l h:Int):kQ n l h=(decide (n≥l)&&decide (n≤h)):=by
 unfold kQ FI;cases decide (n≥l)<;>rfl
theorem ap9(x:ag):lz x=xB x:=by
 unfold xB lz FM;rw[tq];cases decide ((x.size:Int)≥1)<;>rfl
theorem ap7(x:ag):jP x=oP x:=rfl
theorem ap8(x:Int):kR x=Kx x:=by
 unfold kR Ky Kx;rw[tq];cases decide (x≥(-1099511627776))<;>rfl
theorem ap_(x:Int):xC x=tu x:=by
 unfold xC Tv tu;rw[tq];cases decide (x≥1)<;>rfl
theorem ang(s:Sl ag)(hn:s.n≤549755813888):Tu s=ku (fun i=> !(oP (s.at' (toNat i)))) s.n 0:=
 Ih _ _ _ (qA (KO s) s.n (fun i=> !(oP (s.at' (toNat i)))) (fun i=>i) hn fun _ _=>rfl)
theorem ani(s:Sl bk)(hn:s.n≤549755813888):KB s=ku (fun i=>BA (s.at' (toNat i)).c0 (s.at' (toNat i)).c1) s.n 0:=
 Ih _ _ _ (qA (KQ s) s.n (fun i=>BA (s.at' (toNat i)).c0 (s.at' (toNat i)).c1) (fun i=>i) hn fun _ _=>rfl)
theorem anj(s:Sl bD)(hn:s.n≤549755813888):KC s=ku (fun i=> !(oP (s.at' (toNat i)).c0)) s.n 0:=
 Ih _ _ _ (qA (KR s) s.n (fun i=> !(oP (s.at' (toNat i)).c0)) (fun i=>i) hn fun _ _=>rfl)
theorem ank(s:Sl bD)(hn:s.n≤549755813888):Tx s=ku (fun i=> !(kR (s.at' (toNat i)).c1)) s.n 0:=
 Ih _ _ _ (qA (KS s) s.n (fun i=> !(kR (s.at' (toNat i)).c1)) (fun i=>i) hn fun _ _=>rfl)
theorem J3{F:Bool×Int}{bad:Int→Bool}{c:Int}{m:Nat}{i:Int}(h:F=scan bad (fun _=>c) m i)(X:Int):(bif(bif F.1 then false else true)then X else F.2)=bif ku bad m i then c else X:=by
 rw[h,aAv]
 cases ku bad m i<;>rfl
theorem Zh(s3:Sl bk)(s4:Sl ag)(s5:Sl bD)(h3:s3.n≤1048576)(h4:s4.n≤1048576)(h5:s5.n≤1048576):my s3 s4 s5=(s3.n:Int)+s4.n+s5.n:=by
 unfold my;rw[aq ((s3.n:Int)+s4.n),aq _]
theorem aAu(s:Sl ag)(hn:s.n≤549755813888):TV s=scan (fun i=>By (s.at' (toNat i))) (fun i=>i) s.n 0:=qA (KN s) s.n _ _ hn fun _ _=>rfl
theorem agJ{bad:Int→Bool} : ∀(m:Nat) (i:Int),ku bad m i=false→ ∀j:Int,i≤j→j<i+m→bad j=false
 |0,i,_,j,h1,h2=>by omega
 |m+1,i,h,j,h1,h2=>by
  simp only[ku,aD7]at h
  by_cases e:j=i
  ·rw[e];exact h.1
  ·exact agJ m (i+1) h.2 j (by omega) (by omega)
theorem ud{bad:Int→Bool}{n:Nat}(h:ku bad n 0=false)(i:Nat)(hi:i<n):bad (i:Int)=false:=agJ n 0 h i (by omega) (by omega)
theorem bz{b:Bool}{c X:Int}(h:(bif b then c else X)=0)(hc:c≠0):b=false∧X=0:=by
 cases b with
 |true=>exact absurd h hc
 |false=>exact⟨rfl,h⟩
theorem bt{a b:Bool}(h:(bif a then true else b)=false):a=false∧b=false:=by
 cases a with
 |true=>simp at h
 |false=>exact⟨rfl,h⟩
theorem df{p:Prop}[Decidable p](h:decide p=false): ¬p:=iw h
def sM(x1:ag)(x2:Int)(x3:Sl bk)(x4:Sl ag)(x5:Sl bD):Prop:=
 (x1.size≤20∧ -1099511627776≤x2∧x2≤1099511627776)∧(x3.n≤20∧x4.n≤20∧x5.n≤20)∧(∀i,i<x3.n→(x3.at' i).c0.size≤20∧(x3.at' i).c1.size≤20)∧(∀i,i<x4.n→(x4.at' i).size≤20)∧(∀i,i<x5.n→(x5.at' i).c0.size≤20∧ -1099511627776≤(x5.at' i).c1∧(x5.at' i).c1≤1099511627776)
def sK(x:Sl ag):Prop:=x.n≤20∧ ∀i,i<x.n→(x.at' i).size≤20
def PI(x:ar):Prop:=x.c0.size≤20∧sM x.c2 x.c3 x.c4 x.c5 x.c6∧0≤x.c7∧x.c7≤1073741824
def ZW(x:aG):Prop:=((0≤x.c0∧x.c0≤1048577)∧(0≤x.c1∧x.c1≤1048576)∧(0≤x.c2∧x.c2≤1073741824))∧((0≤x.c3∧x.c3≤13)∧x.c4.size≤20∧ -1099511627776≤x.c5∧x.c5≤1099511627776)∧sK x.c6
def Jr(x0:Int)(x1:Sl ar)(x2:Int)(x3:Sl aG):Prop:=((0≤x0∧x0≤1073741824)∧(1≤x2∧x2≤1048577)∧x1.n≤12∧x3.n≤4)∧(∀i,i<x1.n→PI (x1.at' i))∧(∀i,i<x3.n→ZW (x3.at' i))
theorem kD{x1:ag}{x2:Int}{x3:Sl bk}{x4:Sl ag}{x5:Sl bD}(h:sM x1 x2 x3 x4 x5):sK x4:=⟨h.2.1.2.1,h.2.2.2.1⟩
def CZ(s:Sl ar):Prop:=s.n≤549755813888∧ ∀i,i<s.n→(s.at' i).c4.n≤549755813888∧(s.at' i).c5.n≤549755813888∧(s.at' i).c6.n≤549755813888
def CY(s:Sl aG):Prop:=s.n≤549755813888∧ ∀i,i<s.n→(s.at' i).c6.n≤549755813888
theorem O_{x:ag}(h:(!(oP x))=false):x.size≤20:=by
 unfold oP at h
 by_cases a:(x.size:Int)≤20
 ·omega
 ·simp [a]at h
theorem aAs{x:ag}(h:(!(lz x))=false):x.size≤20:=by
 unfold lz FM at h
 by_cases a:(x.size:Int)≤12
 ·omega
 ·simp [a]at h
theorem ajv{x:Int}(h:(!(kR x))=false): -1099511627776≤x∧x≤1099511627776:=by
 unfold kR Ky at h
 by_cases a:x≥ -1099511627776
 ·by_cases b:x≤1099511627776
  ·omega
  ·simp [b]at h
 ·simp [a]at h
theorem anh(s:Sl ag)(hn:s.n≤549755813888):Tt s=ku (fun i=>By (s.at' (toNat i))) s.n 0:=Ih _ _ _ (aAu s hn)
theorem Zg(s3:Sl bk)(s4:Sl ag)(s5:Sl bD)(h3:s3.n≤549755813888)(h4:s4.n≤549755813888)(h5:s5.n≤549755813888):my s3 s4 s5=(s3.n:Int)+s4.n+s5.n:=by
 unfold my;rw[aq ((s3.n:Int)+s4.n),aq _]
theorem aob(x0:Int)(x1:ag)(x2:Int)(x3:Sl ag)(hn:x3.n≤549755813888)(h:yE x0 x1 x2 x3=0):((0≤x0∧x0≤13)∧x1.size≤20∧ -1099511627776≤x2∧x2≤1099511627776)∧sK x3:=by
 unfold yE at h;obtain⟨a1,h⟩:=bz h (by decide);obtain⟨a2,h⟩:=bz h (by decide);obtain⟨a3,h⟩:=bz h (by decide);obtain⟨a4,_⟩:=bz h (by decide);unfold afW at a1;unfold afX at a2;unfold afY at a4;obtain⟨b1,b2⟩:=bt a1;obtain⟨b3,b4⟩:=bt a2;obtain⟨b5,b6⟩:=bt a4;have c1:=df b1;have c2:=df b2;have c3:=df b3;have c4:=df b4;have c5:=df b5;have c6:=df b6;refine⟨⟨⟨by omega,by omega⟩,by omega,by omega,by omega⟩,by omega,fun i hi=> ?_⟩;rw[anh _ (by omega)]at a3;have:=ud a3 i hi;simp only[aCZ,By]at this;have:=df this;omega
theorem abf(x0:Int)(x1:ag)(x2:Int)(s3:Sl bk)(s4:Sl ag)(s5:Sl bD)(h3:s3.n≤549755813888)(h4:s4.n≤549755813888)(h5:s5.n≤549755813888)(h:ng x0 x1 x2 s3 s4 s5=0):sM x1 x2 s3 s4 s5:=by
 unfold ng at h;obtain⟨a1,h⟩:=bz h (by decide);obtain⟨a2,h⟩:=bz h (by decide);obtain⟨a3,h⟩:=bz h (by decide);obtain⟨a4,h⟩:=bz h (by decide);obtain⟨a5,h⟩:=bz h (by decide);obtain⟨a6,h⟩:=bz h (by decide);obtain⟨a7,_⟩:=bz h (by decide);have hs:s3.n≤20∧s4.n≤20∧s5.n≤20:=by
  unfold vT at a1;obtain⟨b1,b2⟩:=bt a1;have c1:=df b1;have c2:=df b2
  by_cases e1:x0=1
  ·subst e1;unfold tT ME MF MG at a2;simp only[aEa,aCJ]at a2;obtain⟨_,a2⟩:=bt a2;obtain⟨_,a2⟩:=bt a2;rw[Zg _ _ _ h3 h4 h5]at a2;have:=df a2;omega
  ·by_cases e2:x0=2
   ·subst e2;unfold tT ME MF MG at a2;simp only[aEa,Int.reduceBEq,aCJ,aCI]at a2;obtain⟨_,a2⟩:=bt a2;obtain⟨_,a2⟩:=bt a2;rw[Zg _ _ _ h3 h4 h5]at a2;have:=df a2;omega
   ·unfold vU at a3;rw[cx (show x0≥3 by omega)]at a3;simp only[aCJ]at a3;obtain⟨_,a3⟩:=bt a3;rw[Zg _ _ _ h3 h4 h5]at a3;have:=df a3;omega
 unfold yN at a4;obtain⟨b1,b2⟩:=bt a4;unfold yM at a7;obtain⟨b3,b4⟩:=bt a7;rw[ang _ (by omega)]at b2;rw[ani _ (by omega)]at a5;rw[anj _ (by omega)]at a6;rw[ank _ (by omega)]at b4;refine⟨⟨O_ b1,ajv b3⟩,hs,fun i hi=> ?_,fun i hi=> ?_,fun i hi=> ?_⟩
 ·have:=ud a5 i hi;simp only[aCZ,BA,adz]at this;obtain⟨c1,c2⟩:=bt this;exact⟨aAs c1,O_ c2⟩
 ·have:=ud b2 i hi;simp only[aCZ]at this;exact O_ this
 ·have t1:=ud a6 i hi;have t2:=ud b4 i hi;simp only[aCZ]at t1 t2;exact⟨O_ t1,ajv t2⟩
theorem aoe(x0:Int)(x1:ag)(x2:Int)(s3:Sl bk)(s4:Sl ag)(s5:Sl bD)(h3:s3.n≤1048576)(h4:s4.n≤1048576)(h5:s5.n≤1048576)(h:ng x0 x1 x2 s3 s4 s5=0):sM x1 x2 s3 s4 s5:=abf x0 x1 x2 s3 s4 s5 (by omega) (by omega) (by omega) h
theorem abg(x0:Int)(s:Sl ar)(hc:CZ s)(h:ko x0 s=0):((0≤x0∧x0≤1073741824)∧s.n≤12)∧ ∀i,i<s.n→PI (s.at' i):=by
 have hn:=hc.1;unfold ko at h;obtain⟨a1,h⟩:=bz h (by decide);unfold yR at a1;obtain⟨b1,a1⟩:=bt a1;obtain⟨b2,b3⟩:=bt a1;have c1:=df b1;have c2:=df b2;have c3:=df b3;have hl:MI x0 s=scan (fun i=>pP s i||rA x0 s i) (fun _=>13) s.n 0:=qA (yQ x0 s) s.n _ _ (by omega) fun k i=>by
  show(bif decide (i<(s.n:Int))then(bif(pP s i)then(true,13)else(bif(rA x0 s i)then(true,13)else yQ x0 s k (i64.wrap (i+1))))else(false,default))=_;rw[EM]
 unfold Vh at h;rw[J3 hl]at h;obtain⟨hh,_⟩:=bz h (by decide);refine⟨⟨⟨by omega,by omega⟩,by omega⟩,fun i hi=> ?_⟩;have q:=ud hh i hi;simp only[aD7]at q;obtain⟨q1,q2⟩:=q;obtain⟨w1,w2,w3⟩:=hc.2 i hi;unfold pP at q1;unfold rA at q2;simp only[aCZ]at q1 q2;obtain⟨d1,q1⟩:=bt q1;obtain⟨d2,q1⟩:=bt q1;obtain⟨d3,q1⟩:=bt q1;have e2:=df d2;refine⟨by omega,abf _ _ _ _ _ _ w1 w2 w3 (bE d3),?_⟩
 by_cases z:(s.at' i).c7=0
 ·rw[z];omega
 ·rw[show((s.at' i).c7 !=0)=true by simp [z]]at q2;simp only[aCJ]at q2;obtain⟨d4,d5⟩:=bt q2;have:=df d4;have:=df d5;omega
theorem ij(x0:Int)(x1:Sl ar)(x2:Int)(x3:Sl aG)(hc:CZ x1)(hk:CY x3)(h:gJ x0 x1 x2 x3=0):Jr x0 x1 x2 x3:=by
 have hn:=hk.1;unfold gJ at h;obtain⟨a1,h⟩:=bz h (by decide);unfold yS at a1;obtain⟨b1,a1⟩:=bt a1;obtain⟨b2,a1⟩:=bt a1;obtain⟨b3,b4⟩:=bt a1;have c2:=df b2;have c3:=df b3;have c4:=df b4;obtain⟨⟨m1,m2⟩,m3⟩:=abg x0 x1 hc (bE b1);have hl:Vi x0 x2 x3=scan (fun i=>CQ x2 x3 i||CP x0 x3 i) (fun _=>13) x3.n 0:=qA (Hk x0 x2 x3) x3.n _ _ (by omega) fun k i=>by
  show(bif decide (i<(x3.n:Int))then(bif(CQ x2 x3 i)then(true,13)else(bif(CP x0 x3 i)then(true,13)else Hk x0 x2 x3 k (i64.wrap (i+1))))else(false,default))=_;rw[EM]
 unfold agk at h;rw[J3 hl]at h;obtain⟨hh,_⟩:=bz h (by decide);refine⟨⟨m1,⟨by omega,by omega⟩,m2,by omega⟩,m3,fun i hi=> ?_⟩;have q:=ud hh i hi;simp only[aD7]at q;obtain⟨q1,q2⟩:=q;unfold CQ at q1;unfold CP at q2;simp only[aCZ]at q1 q2;obtain⟨d1,q1⟩:=bt q1;obtain⟨d2,_⟩:=bt q1;obtain⟨d3,q2⟩:=bt q2;obtain⟨d4,q2⟩:=bt q2;obtain⟨d5,q2⟩:=bt q2;obtain⟨d6,q2⟩:=bt q2;have e1:=df d1;have e2:=df d2;have e3:=df d3;have e4:=df d4;have e5:=df d5;have e6:=df d6;obtain⟨k1,k2⟩:=aob _ _ _ _ (hk.2 i hi) (bE q2);exact⟨⟨⟨by omega,by omega⟩,⟨by omega,by omega⟩,⟨by omega,by omega⟩⟩,k1,k2⟩
theorem e47(x0:Int)(x1 x2 x3:ag)(x4:Int):(fO x0 x1 x2 x3 x4==Hg x0 x1 x2 x3 x4)=true:=by
 by_cases h:1≤x0∧x0≤22
 ·have hx:x0=1∨x0=2∨x0=3∨x0=4∨x0=5∨x0=6∨x0=7∨x0=8∨x0=9∨x0=10∨x0=11∨x0=12∨x0=13∨x0=14∨x0=15∨x0=16∨x0=17∨x0=18∨x0=19∨x0=20∨x0=21∨x0=22:=by omega
  unfold fO Hg tO U_ U9 Hf MB yH yG yF MA af1 af0 Hh afZ;simp only[ap9,ap7,ap8,tq];generalize xB x1=b1;generalize xB x2=b2;generalize oP x3=b3;generalize Kx x4=b4;rcases hx with rfl|rfl|rfl|rfl|rfl|rfl|rfl|rfl|rfl|rfl|rfl|rfl|rfl|rfl|rfl|rfl|rfl|rfl|rfl|rfl|rfl|rfl<;>
  simp only[Int.reduceBEq,Int.reduceLE,Int.reduceLT,ge_iff_le,gt_iff_lt,aDO,aDU,Bool.and_true,Bool.true_and,Bool.and_false,aCJ,aCI,Bool.not_true,Bool.not_false,aEa,bne]<;>
  (generalize (x1.toList==ByteArray.toList ⟨#[]⟩)=e1;generalize (x2.toList==ByteArray.toList ⟨#[]⟩)=e2;generalize (x3.toList==ByteArray.toList ⟨#[]⟩)=e3;generalize (x4==0)=e4
   revert e1 e2 e3 e4 b1 b2 b3 b4;decide)
 ·unfold fO Hg MA;have h1:kQ x0 1 22=false:=by rw[tq];simp;omega
  have h2:(bif decide (x0<1)then true else decide (x0>22))=true:=by
   by_cases h3:x0<1
   ·simp [h3]
   ·simp [h3];omega
  rw[h1,h2];rfl
theorem arO(x0:Int)(x1 x2 x3:ag)(x4:Int):fO x0 x1 x2 x3 x4=Hg x0 x1 x2 x3 x4:=eq_of_beq (e47 x0 x1 x2 x3 x4)
theorem arP(x0 x1 x2:Int)(x3 x4 x5:ag)(x6:Int):jG x0 x1 x2 x3 x4 x5 x6=Vb x0 x1 x2 x3 x4 x5 x6:=by
 unfold jG Vb Va af2 af3;rw[arO];simp only[ap_,bne]
 cases x0==0
 ·rfl
 ·simp only[aCJ,Bool.true_and]
  cases x1==0<;>simp
theorem arQ(x0 x1:Int)(x2:Bool)(x3 x4 x5:Int)(x6 x7 x8:ag)(x9:Int):il x0 x1 x2 x3 x4 x5 x6 x7 x8 x9=tP x0 x1 x2 x3 x4 x5 x6 x7 x8 x9:=by
 unfold il tP;have h:Vd x0 x1=yI x0 x1:=by
  unfold Vd yI tu;simp only[tq]
  by_cases a:x0<1
  ·have: ¬(1≤x0):=by omega
   simp [a,this]
  ·have a':1≤x0:=by omega
   by_cases b:x0>1048576
   ·have: ¬(x0≤1048576):=by omega
    simp [b,this]
   ·have b':x0≤1048576:=by omega
    by_cases c:x1<0
    ·have: ¬(0≤x1):=by omega
     simp [a,b,c,a',b',this]
    ·have c':0≤x1:=by omega
     by_cases d:x1>1073741824
     ·have: ¬(x1≤1073741824):=by omega
      simp [a,b,c,d,a',b',c',this]
     ·have d':x1≤1073741824:=by omega
      simp [a,b,c,d,a',b',c',d']
 rw[h,arP]
 cases yI x0 x1<;>cases x2<;>rfl
end Go.Proofs.YtfmgjpcmcjjoiaaGreatDoor
namespace Go.Vc
open Go Go.RowKit
section
variable {α:Type}
def Sl.B(s:Sl α):List α:=(List.range s.n).map s.at'
theorem eJ(s:Sl α):s.B.length=s.n:=by simp [Sl.B]
theorem qE(s:Sl α){i:Nat}(h:i<s.n):s.B[i]? =some (s.at' i):=by simp [Sl.B,h]
theorem u_(s t:Sl α):(s.app t).B=s.B++t.B:=by
 apply aD_;intro i
 by_cases h:i<s.n
 ·rw[qE _ (by simp only[Sl.pz];omega),aDH (by rw[eJ];exact h),qE _ h];simp only[Sl.app,anO h,aCJ]
 ·by_cases h2:i<s.n+t.n
  ·rw[qE _ (by simp only[Sl.pz];omega),aD4 (by rw[eJ];omega),eJ,qE _ (by omega)];simp only[Sl.app,anN (show s.n≤i by omega),aCI]
  ·rw[aCW (by rw[eJ,Sl.pz];omega),aCW (by rw[aC8,eJ,eJ];omega)]
theorem wT[Inhabited α](l:List α):(Sl.lit l).B=l:=by
 apply aD_;intro i
 by_cases h:i<l.length
 ·rw[qE _ (by simp only[Sl.nA];exact h)];simp only[Sl.lit,List.getD,aCP h,aDk]
 ·rw[aCW (by rw[eJ,Sl.nA];omega),aCW (by omega)]
theorem PB[Inhabited α]:(al:Sl α).B=[]:=rfl
theorem ZM(s:Sl α)(i:Nat)(x:α):(s.cp i x).B=s.B.set i x:=by
 apply aD_;intro j
 by_cases h:j<s.n
 ·rw[qE _ (by simp only[Sl.aj5];exact h)];simp only[Sl.cp]
  by_cases e:j=i
  ·subst e;rw[aDp,List.getElem?_set_self (by rw[eJ];exact h)];rfl
  ·have:Nat.beq j i=false:=by
    cases e2:Nat.beq j i with
    |false=>rfl
    |true=>exact absurd (aCS e2) e
   rw[this,aD6 (fun h=>e h.symm),qE _ h];rfl
 ·rw[aCW (by rw[eJ,Sl.aj5];omega),aCW (by rw[List.length_set,eJ];omega)]
theorem akq(n:Nat)(x:α):(Sl.rep n x).B=List.replicate n x:=by
 apply aD_;intro j
 by_cases h:j<n
 ·rw[qE _ (by simp only[Sl.ajf];exact h),aEC,aCL h];rfl
 ·rw[aCW (by rw[eJ,Sl.ajf];omega),aCW (by simp;omega)]
end
theorem Sf{α:Type}[Inhabited α](F:Nat→Int→Sl α→Sl α)(t:Sl α)(hn:t.n≤549755813888)(hF: ∀k i s,F (k+1) i s=bif decide (i<(t.n:Int))then F k (i64.wrap (i+1)) (Sl.app s (Sl.lit [t.at' (toNat i)]))else s):
  ∀(m:Nat) (i:Nat) (s:Sl α),m=t.n-i→i≤t.n→(F (m+1) (i:Int) s).B=s.B++t.B.drop i
 |0,i,s,hm,hi=>by
  have: ¬((i:Int)<(t.n:Int)):=by omega
  rw[hF];simp only[this,aDU,aCI];rw[List.drop_eq_nil_of_le (by rw[eJ];omega),aDi]
 |m+1,i,s,hm,hi=>by
  have hv:(i:Int)<(t.n:Int):=by omega
  rw[hF];simp only[hv,aDO,aCJ];rw[aq _,show(i:Int)+1=((i+1:Nat):Int) by omega,Sf F t hn hF m (i+1) _ (by omega) (by omega),u_,wT,aDe]
  congr 1
  rw[aCZ];have cI:i<t.B.length:=by rw[eJ];omega
  rw[aEk cI];have:=qE t (show i<t.n by omega);rw[aCP cI]at this;rw[aDZ this];rfl
end Go.Vc
namespace Go.Proofs.YtfmgjpcmcjjoiaaGreatDoor
open Go Go.RowKit Go.Vc
def pb(x:Int)(s:Nat):Int:=u8.wrap ((u64.wrap (i64.wrap (x+4611686018427387904)))/2^s)
theorem akh(x0:Int)(x1:Sl Int):(bo x0 x1).B=x1.B++[pb x0 56,pb x0 48,pb x0 40,pb x0 32,pb x0 24,pb x0 16,pb x0 8,pb x0 0]:=by
 have h:bo x0 x1=Sl.app (Sl.app (Sl.app (Sl.app (Sl.app (Sl.app (Sl.app (Sl.app x1 (Sl.lit [pb x0 56])) (Sl.lit [pb x0 48])) (Sl.lit [pb x0 40])) (Sl.lit [pb x0 32])) (Sl.lit [pb x0 24])) (Sl.lit [pb x0 16])) (Sl.lit [pb x0 8])) (Sl.lit [pb x0 0]):=by kernel_rfl
 rw[h];simp only[u_,wT,aDe,aEd,aDD]
def nC(y:Int):Nat→Int
 |0=>y
 |k+1=>i64.wrap ((nC y k).tdiv 256)
def rb(y:Int)(k:Nat):Int:=u8.wrap ((nC y k).tmod 256)
theorem akk(x0:Int):(F5 x0).B=[rb (i64.wrap (x0+4611686018427387904)) 7,rb (i64.wrap (x0+4611686018427387904)) 6,rb (i64.wrap (x0+4611686018427387904)) 5,rb (i64.wrap (x0+4611686018427387904)) 4,rb (i64.wrap (x0+4611686018427387904)) 3,rb (i64.wrap (x0+4611686018427387904)) 2,rb (i64.wrap (x0+4611686018427387904)) 1,rb (i64.wrap (x0+4611686018427387904)) 0]:=by
 generalize hy:i64.wrap (x0+4611686018427387904)=y;have h:F5 x0=Sl.cp (Sl.cp (Sl.cp (Sl.cp (Sl.cp (Sl.cp (Sl.cp (Sl.cp (Sl.rep 8 0) 7 (rb (i64.wrap (x0+4611686018427387904)) 0)) 6 (rb (i64.wrap (x0+4611686018427387904)) 1)) 5 (rb (i64.wrap (x0+4611686018427387904)) 2)) 4 (rb (i64.wrap (x0+4611686018427387904)) 3)) 3 (rb (i64.wrap (x0+4611686018427387904)) 4)) 2 (rb (i64.wrap (x0+4611686018427387904)) 5)) 1 (rb (i64.wrap (x0+4611686018427387904)) 6)) 0 (rb (i64.wrap (x0+4611686018427387904)) 7):=by kernel_rfl
 rw[h,hy];simp only[ZM,akq];rfl
theorem ai3(y:Int)(h0:0≤y)(h1:y<9223372036854775808): ∀k,0≤nC y k∧nC y k≤y∧nC y k=y/2^(8*k)
 |0=>⟨h0,aCT _,by simp [nC]⟩
 |k+1=>by
  obtain⟨a,b,c⟩:=ai3 y h0 h1 k;have e1:(nC y k).tdiv 256=nC y k/256:=Int.tdiv_eq_ediv_of_nonneg a;have e2:0≤nC y k/256:=by omega
  have e3:nC y k/256≤nC y k:=by omega
  have e4:nC y (k+1)=nC y k/256:=by
   simp only[nC,e1];exact aq _
  refine⟨by omega,by omega,?_⟩;rw[e4,c,Int.ediv_ediv_of_nonneg (Int.pow_nonneg (by omega)),show(256:Int)=2^8 by decide,←Int.pow_add,show 8*k+8=8*(k+1) by omega]
theorem vg(x:Int)(k:Nat)(h0:0≤x+4611686018427387904)(h1:x+4611686018427387904<9223372036854775808):rb (i64.wrap (x+4611686018427387904)) k=pb x (8*k):=by
 have hw:i64.wrap (x+4611686018427387904)=x+4611686018427387904:=aq _;have hu:u64.wrap (x+4611686018427387904)=x+4611686018427387904:=by
  rw[IntKind.wrap_u64];omega
 unfold rb pb;rw[hw,hu];obtain⟨a,b,c⟩:=ai3 _ h0 h1 k;rw[c]at a ⊢;rw[IntKind.wrap_u8,IntKind.wrap_u8,Int.tmod_eq_emod_of_nonneg a];omega
theorem akl(x0:Int)(x1:Sl Int)(h0:0≤x0+4611686018427387904)(h1:x0+4611686018427387904<9223372036854775808):(bo x0 x1).B=x1.B++(F5 x0).B:=by
 rw[akh,akk];rw[vg x0 7 h0 h1,vg x0 6 h0 h1,vg x0 5 h0 h1,vg x0 4 h0 h1,vg x0 3 h0 h1,vg x0 2 h0 h1,vg x0 1 h0 h1,vg x0 0 h0 h1]
theorem akg(x0 x1:Sl Int)(h:x0.n+x1.n≤549755813888):(Tn x0 x1).B=x0.B++x1.B:=by
 have h1:(FF x0).B=[]++x0.B.drop 0:=Sf (Bv x0) x0 (by omega) (fun _ _ _=>rfl) _ 0 al (by omega) (by omega);have h2:(FH x0 x1).B=(FF x0).B++x1.B.drop 0:=Sf (Bw x1) x1 (by omega) (fun _ _ _=>rfl) _ 0 _ (by omega) (by omega);show(FH x0 x1).B=_;rw[h2,h1];rfl
theorem akm(x:ag)(h:x.size≤10000000000)(w:Sl Int):(dk x w).B=w.B++(BL x).B:=by
 have h1:(BL x).B=[u8.wrap (x.size:Int)]++(Sl.ofStr x).B:=by
  unfold BL;rw[akg _ _ (by simp only[Sl.nA,Sl.ofStr,aC7,aDf];omega),wT]
 rw[h1];unfold dk da;rw[u_,u_,wT,aDe]
end Go.Proofs.YtfmgjpcmcjjoiaaGreatDoor
namespace Go.Vc
open Go Go.RowKit
def cat{β:Type}(f:Nat→List β):Nat→Nat→List β
 |0,_=>[]
 |m+1,i=>f i++cat f m (i+1)
theorem AU{β:Type}{f:Nat→List β}{D:Nat} : ∀m i,(∀j,i≤j→j<i+m→(f j).length≤D)→(cat f m i).length≤m*D
 |0,_,_=>by simp [cat]
 |m+1,i,h=>by
  simp only[cat,aC8];have h1:=h i (aCK _) (by omega);have h2:=AU m (i+1) fun j h1 h2=>h j (by omega) (by omega);rw[aDb];omega
theorem ah1{α:Type}(F:Nat→Int→Sl α→Sl α)(n D L:Nat)(step:Int→Sl α→Sl α)(f:Nat→List α)(hn:n≤549755813888)
  (hF: ∀k i s,F (k+1) i s=bif decide (i<(n:Int))then F k (i64.wrap (i+1)) (step i s)else s)
  (hs: ∀(i:Nat) (s:Sl α),i<n→s.n≤L+i*D→(step (i:Int) s).B=s.B++f i∧(f i).length≤D):
  ∀(m i:Nat) (s:Sl α),i+m=n→s.n≤L+i*D→(F (m+1) (i:Int) s).B=s.B++cat f m i
 |0,i,s,hm,hl=>by
  rw[hF,cq (show¬((i:Int)<(n:Int)) by omega)];simp only[aCI,cat,aDi]
 |m+1,i,s,hm,hl=>by
  obtain⟨h1,h2⟩:=hs i s (by omega) hl;rw[hF,cx (show(i:Int)<(n:Int) by omega)];simp only[aCJ];have HE:(step (i:Int) s).n≤L+(i+1)*D:=by
   rw[←eJ,h1,aC8,eJ,aDb];omega
  rw[aq _,show(i:Int)+1=((i+1:Nat):Int) by omega,ah1 F n D L step f hn hF hs m (i+1) _ (by omega) HE,h1,aDe];rfl
theorem DG{α:Type}(F:Nat→Int→Sl α→Sl α)(n D L:Nat)(step:Int→Sl α→Sl α)(f:Nat→List α)(hn:n≤549755813888)
  (hF: ∀k i s,F (k+1) i s=bif decide (i<(n:Int))then F k (i64.wrap (i+1)) (step i s)else s)
  (hs: ∀(i:Nat) (s:Sl α),i<n→s.n≤L+i*D→(step (i:Int) s).B=s.B++f i∧(f i).length≤D) (s:Sl α) (hl:s.n≤L):
  (F (toNat ((n:Int)-0)+1) 0 s).B=s.B++cat f n 0:=by
 have:=ah1 F n D L step f hn hF hs n 0 s (by omega) (by omega);rw[show toNat ((n:Int)-0)=n by omega];exact this
end Go.Vc
namespace Go.Proofs.YtfmgjpcmcjjoiaaGreatDoor
open Go Go.RowKit Go.Vc
def nb(x:Int):List Int:=(F5 x).B
def tb(x:ag):List Int:=(BL x).B
def sb(x:Int):List Int:=[u8.wrap x]
theorem IJ(x:Int):(nb x).length=8:=by unfold nb;rw[eJ,axb]
theorem aAZ(x:ag)(h:x.size≤10000000000):(tb x).length=x.size+1:=by unfold tb;rw[eJ,axc x h]
theorem Pe(x:Int):(sb x).length=1:=rfl
theorem u7{x:Int}(w:Sl Int)(h0: -4611686018427387904≤x)(h1:x<4611686018427387904):(bo x w).B=w.B++nb x:=akl x w (by omega) (by omega)
theorem AA{x:ag}(w:Sl Int)(h:x.size≤10000000000):(dk x w).B=w.B++tb x:=akm x h w
theorem Az(x:Int)(w:Sl Int):(da x w).B=w.B++sb x:=by unfold da;rw[u_,wT];rfl
def agv:Go.Shelf.Ren:=⟨fun n=>bif n==4 then 145 else n,fun n=>bif n==22 then 83 else bif n==25 then 5 else n,fun x=>x⟩
theorem agu:Lays8.n4 Tryz.prog agv where
 mixed:=by kernel_rfl
 f4:=⟨Tryz.f145.name,by kernel_rfl,by kernel_rfl⟩
 t0:=Tryz.underlying0
 a0:=Tryz.isAgg0
 z0:=Tryz.sizeOf0
 v0:=Tryz.zeroValue0
 t3:=Tryz.underlying3
 a3:=Tryz.isAgg3
 z3:=Tryz.sizeOf3
 v3:=Tryz.zeroValue3
 t4:=Tryz.underlying4
 a4:=Tryz.isAgg4
 z4:=Tryz.sizeOf4
 v4:=Tryz.zeroValue4
 t9:=Tryz.underlying9
 a9:=Tryz.isAgg9
 z9:=Tryz.sizeOf9
 v9:=Tryz.zeroValue9
 t20:=Tryz.underlying20
 a20:=Tryz.isAgg20
 z20:=Tryz.sizeOf20
 v20:=Tryz.zeroValue20
 t22:=Tryz.underlying83
 a22:=Tryz.isAgg83
 z22:=Tryz.sizeOf83
 v22:=Tryz.zeroValue83
theorem ar8(w:World)(F:Nat→Prop)(G:Nat)(C:Array Value)(T:TypeId)(f:Nat→List AV)(hC:C.size=G):
  ∃v,Ending.returned (.slice (some ⟨w.heap.size,0,none⟩) 0 G)= .returned v∧qJ w.heap.size (w.drew.alloc (.cells C T)) F (.ah false 1 0 f) v∧Below w.heap.size w (w.drew.alloc (.cells C T)):=
 ⟨_,rfl,.inr ⟨w.heap.size,G,C,T,aCK _,(aDy.1 (aDE w.drew (.cells C T))).1,rfl,aCQ _,aCQ _,aDE w.drew _,by rw[hC,Nat.mul_one],fun i j hi=>absurd hi (fC i)⟩,(Below.drew (Below.refl _ w)).alloc (aCK _) _⟩
theorem azc(n:Int)(h0:0≤n)(h1:n≤549755813888):fk Tryz.prog 145 [.aE,ae n] ((Kd.ah E5).av (al:Sl Int)):=by
 intro w F vs hF hv;obtain⟨m,rfl⟩:=aEm h0;have e:vs=[.slice none 0 0,.int .i64 (m:Int)]:=by
  match vs,hv with
  |[a,b],⟨ha,hb,_⟩=>
   simp only[fD]at ha hb
   cases ha;cases hb;rfl
 subst e;rcases aDW m with h|h
 ·subst h;refine Calls.mono (Any8.slices_Grow_room agu none 0 0 0 w (by omega) (by omega) (by omega) (by omega)) fun e w' ⟨h1,h2⟩=> ?_;subst h2;exact⟨_,h1,.inl ⟨rfl,rfl⟩,Below.refl _ _⟩
 ·obtain⟨i,hi⟩: ∃i,Tryz.prog.info? 5=some i:=⟨_,rfl⟩;have hs:i.size=1:=by
   have:(Tryz.prog.info? 5).map TypeInfo.size=some 1:=by kernel_rfl
   rw[hi]at this;simpa using this
  have hb:i.bytes=1:=by
   have:(Tryz.prog.info? 5).map TypeInfo.bytes=some 1:=by kernel_rfl
   rw[hi]at this;simpa using this
  obtain⟨z,hz,hzc⟩: ∃z,i.zero=some z∧z.cells.size=1:=by
   have:(Tryz.prog.info? 5).map TypeInfo.zero=some (some (.int .u8 0)):=by kernel_rfl
   rw[hi]at this;exact⟨.int .u8 0,by simpa using this,rfl⟩
  refine Calls.mono (Any8.slices_Grow_grow agu i z hi hz (by omega) none 0 0 m [] w (by omega) (by omega) (by rw[hb];omega) (by omega) (by simp) (fun _=>rfl) (fun a h=>by cases h)) fun e w' ⟨h1,h2⟩=> ?_;have ox:0+m≤grownCap w (0+m) 0 5:=aDP w _ _ _;rw[h1,h2];refine ar8 w _ _ _ _ _ ?_;simp only[aDQ,aDw,size_zeroCells,hzc,aDf];show _=grownCap w (0+m) 0 5;have:grownCap w (0+m) 0 (agv.t 25)=grownCap w (0+m) 0 5:=rfl;rw[this];omega
def QA:List AV→Option (Ob×AV)
 |[.aE,.int .i64 n]=>some (.p (0≤n∧n≤549755813888),(Kd.ah E5).av (al:Sl Int))
 |_=>none
structure Fx where
 gW:List AV→Option (Ob×AV)
def al_:Fx:=⟨QA⟩
theorem avq:Ei Tryz.prog 145 al_.gW:=⟨⟨_,_,Tryz.func145,rfl,by kernel_rfl⟩,fun args o r e ho=>by
 show fk Tryz.prog 145 args r
 change QA args=some (o,r)at e
 unfold QA at e
 split at e
 ·cases e
  exact azc _ ho.1 ho.2
 ·cases e⟩
section
variable(x0:Int)(x1:Int)(x2:Sl aM)(x3:Int)(x4:Int)
def CN:Bool:=(bif(decide (x3<0))then true else(bif(decide (x3>1048576))then true else(decide (x4<0))))
def rz:Sl aM:=(bif((cK x0 x1 x2)!=0)then(al:Sl aM)else(bif(CN x3 x4)then(al:Sl aM)else(bif((jD x0 x2 x3)!=0)then(al:Sl aM)else(Sl.part (Sl.part x2 (i64.wrap (x3-x0)) (x2.n:Int)) 0 (gM (((toNat ((x2.n:Int)- (i64.wrap (x3-x0)))):Nat):Int) x4)))))
def arW:Int:=(bif((cK x0 x1 x2)!=0)then(cK x0 x1 x2)else(bif(CN x3 x4)then 2 else(bif((jD x0 x2 x3)!=0)then(jD x0 x2 x3)else 0)))
def F69:Fq:=⟨[.g [kI,kI,.sl cZ],.v kI,.v kI],fun(x0:Int) (x1:Int) x2 (x3:Int) (x4:Int)=>⟨⟨some (x3≤9223372036854775807∧ -9223372036854775808≤x3∧x4≤9223372036854775807∧ -9223372036854775808≤x4),.cU [aL 10 dH (rz x0 x1 x2 x3 x4),ae (arW x0 x1 x2 x3 x4)]⟩⟩⟩
theorem k69:ba 95 F69:=bf Tryz.func95
 fun(x0:Int) (x1:Int) x2 n2 _ (x3:Int) (x4:Int) hp=>bj ⟨.pure,[.tmp 6,.tmp 7],[(.t 0,.sl cZ),(.t 1,kI)],⟨[U,U],[]⟩⟩ (.ai (.ai (.s (.j ⟨67109070,[],[(.t 26,kB)],[],.f⟩ .z .z) .z))) (let z8:=i64.wrap (x3-x0);let za:=toNat ((x2.n:Int)-z8);let z6:=gM (za:Int) x4;((cK x0 x1 x2)!=0)=false→((CN x3 x4)=false→((0≤x0∧x0≤1048576∧x3≤9223372036854775807)∧(((jD x0 x2 x3)!=0)=false→((((0:Int)≤z8)∧((z8:Int)≤(x2.n:Int))∧(((x2.n:Int):Int)≤(x2.n:Int))∧(((x2.n:Int):Int)≤(x2.n:Int)))∧(((0:Int)≤0)∧((0:Int)≤z6)∧((z6:Int)≤z6)∧((z6:Int)≤(za:Int)))))))) (bU (aH wC (aH N5 (aH Dz aQ)))) Tryz.func95 (have⟨cn,dv,ia,mH⟩:=hp;(fun h1=>(fun h2=>⟨(by have:=fx _ _ _ (bE h1);have:=h2;simp [CN]at this;have:=AX x0 x2 x3;omega),(fun h3=>⟨(by have:=fx _ _ _ (bE h1);have:=h2;simp [CN]at this;have:=bE h3;have:=AX x0 x2 x3;first|omega|(have:=aq (x3-x0);omega)),(by have:=fx _ _ _ (bE h1);have:=h2;simp [CN]at this;have:=bE h3;have:=AX x0 x2 x3;have:=rX (((toNat ((x2.n:Int)- (i64.wrap (x3-x0)))):Nat):Int) x4;first|omega|(have:=aq (x3-x0);omega))⟩)⟩)))
end
section
variable(x0:Int)(x1:Int)(x2:Sl aM)(x3:Int)(x4:Int)(x5:Sl aM)
def MH:Bool:=(bif((jD x0 x2 x3)!=0)then true else((qX x0 x1 x2 x3)!=x4))
def dW:Int:=(bif(decide (x3<x0))then(i64.wrap (x3+(gM (i64.wrap (x0-x3)) (x5.n:Int))))else x3)
def gI:Sl aM:=(bif(decide (x3<x0))then(Sl.part x5 (gM (i64.wrap (x0-x3)) (x5.n:Int)) (x5.n:Int))else x5)
def pO:Bool:=(bif(decide (x3<x0))then(bif(decide ((i64.wrap (x3+(gM (i64.wrap (x0-x3)) (x5.n:Int))))<x0))then false else true)else(bif(MH x0 x1 x2 x3 x4)then false else true))
def vV(fa:Int):Bool:=(bif(decide ((i64.wrap ((i64.wrap ((dW x0 x3 x5)-x0))+fa))<(x2.n:Int)))then((x2.at' (toNat (i64.wrap ((i64.wrap ((dW x0 x3 x5)-x0))+fa)))).c0==((gI x0 x3 x5).at' (toNat fa)).c0)else false)
def CO(x0:Int)(x1:Int)(x2:Sl aM)(x3:Int)(x5:Sl aM):Nat→Int→Bool×Int×Int×Sl aM×Bool×Int×Int
 |0,_=>default
 |k+1,fa=>(bif(decide (fa<((gI x0 x3 x5).n:Int)))then(bif(vV x0 x2 x3 x5 fa)then(CO x0 x1 x2 x3 x5 k (i64.wrap (fa+1)))else(bif((cK x0 x1 (Sl.app (Sl.part x2 0 (i64.wrap ((i64.wrap ((dW x0 x3 x5)-x0))+fa))) (Sl.part (gI x0 x3 x5) fa (((gI x0 x3 x5).n:Nat):Int))))!=0)then(true,0,0,(al:Sl aM),false,0,6)else(true,x0,x1,(Sl.app (Sl.part x2 0 (i64.wrap ((i64.wrap ((dW x0 x3 x5)-x0))+fa))) (Sl.part (gI x0 x3 x5) fa (((gI x0 x3 x5).n:Nat):Int))),true,(i64.wrap ((i64.wrap ((dW x0 x3 x5)+fa))+1)),0)))else(false,default,default,default,default,default,default))
def vW:Bool×Int×Int×Sl aM×Bool×Int×Int:=CO x0 x1 x2 x3 x5 ((toNat (((gI x0 x3 x5).n:Int)-0))+1) 0
def yP:Bool:=(bif(vW x0 x1 x2 x3 x5).1 then false else true)
def bZ:Int:=(bif((cK x0 x1 x2)!=0)then 0 else(bif((cK x3 x4 x5)!=0)then 0 else(bif(pO x0 x1 x2 x3 x4 x5)then(bif(yP x0 x1 x2 x3 x5)then x0 else(vW x0 x1 x2 x3 x5).2.1)else x0)))
def yO:Int:=(bif((cK x0 x1 x2)!=0)then 0 else(bif((cK x3 x4 x5)!=0)then 0 else(bif(pO x0 x1 x2 x3 x4 x5)then(bif(yP x0 x1 x2 x3 x5)then x1 else(vW x0 x1 x2 x3 x5).2.2.1)else x1)))
def bT:Sl aM:=(bif((cK x0 x1 x2)!=0)then(al:Sl aM)else(bif((cK x3 x4 x5)!=0)then(al:Sl aM)else(bif(pO x0 x1 x2 x3 x4 x5)then(bif(yP x0 x1 x2 x3 x5)then x2 else(vW x0 x1 x2 x3 x5).2.2.2.1)else x2)))
def ki:Bool:=(bif((cK x0 x1 x2)!=0)then false else(bif((cK x3 x4 x5)!=0)then false else(bif(pO x0 x1 x2 x3 x4 x5)then(bif(yP x0 x1 x2 x3 x5)then true else(vW x0 x1 x2 x3 x5).2.2.2.2.1)else(bif(decide (x3<x0))then true else false))))
def d_:Int:=(bif((cK x0 x1 x2)!=0)then 0 else(bif((cK x3 x4 x5)!=0)then 0 else(bif(pO x0 x1 x2 x3 x4 x5)then(bif(yP x0 x1 x2 x3 x5)then 0 else(vW x0 x1 x2 x3 x5).2.2.2.2.2.1)else 0)))
def kj:Int:=(bif((cK x0 x1 x2)!=0)then(cK x0 x1 x2)else(bif((cK x3 x4 x5)!=0)then 10 else(bif(pO x0 x1 x2 x3 x4 x5)then(bif(yP x0 x1 x2 x3 x5)then 0 else(vW x0 x1 x2 x3 x5).2.2.2.2.2.2)else 0)))
theorem f75(x0 x1:Int)(x2:Sl aM)(x3 x4:Int)(x5:Sl aM)(h:pO x0 x1 x2 x3 x4 x5=true)(r:((0≤x0∧x0≤1048576)∧x2.n≤200)∧(0≤x3∧x3≤1048576)∧x5.n≤200):(x0≤dW x0 x3 x5∧dW x0 x3 x5≤x0+(x2.n:Int))∧(gI x0 x3 x5).n≤x5.n:=by
 unfold pO at h;unfold dW gI
 by_cases c:x3<x0
 ·rw[cx c]at h ⊢;simp only[aCJ]at h ⊢;have k:=rX (i64.wrap (x0-x3)) (x5.n:Int);rw[aq (x0-x3)]at h k ⊢;generalize gM (x0-x3) (x5.n:Int)=q at*
  rw[aq (x3+q)]at h ⊢;have hq: ¬(x3+q<x0):=by
   intro e;rw[cx e]at h
   cases h
  refine⟨by omega,?_⟩;show toNat ((x5.n:Int)-q)≤x5.n;omega
 ·rw[cq c]at h ⊢;simp only[aCI]at h ⊢;have hm:MH x0 x1 x2 x3 x4=false:=by
   cases e:MH x0 x1 x2 x3 x4 with
   |false=>rfl
   |true=>rw[e]at h;cases h
  unfold MH at hm;have hz:jD x0 x2 x3=0:=by
   cases e:(jD x0 x2 x3 !=0)with
   |true=>rw[e]at hm;cases hm
   |false=>exact bE e
  have:=AX x0 x2 x3 ⟨hz,by omega,by omega,by omega⟩;exact⟨this,aCK _⟩
def F75:Fq:=⟨[.g [kI,kI,.sl cZ],.v kI,.v kI,.v (.sl cZ)],fun x0 x1 x2 x3 x4 x5=>⟨⟨none,.cU [.agg [ae (bZ x0 x1 x2 x3 x4 x5),ae (yO x0 x1 x2 x3 x4 x5),aL 10 dH (bT x0 x1 x2 x3 x4 x5)],.bool (ki x0 x1 x2 x3 x4 x5),ae (d_ x0 x1 x2 x3 x4 x5),ae (kj x0 x1 x2 x3 x4 x5)]⟩⟩⟩
theorem k75:ba 85 F75:=bf Tryz.func85
 fun(x0:Int) (x1:Int) x2 n2 _ (x3:Int) (x4:Int) x5 n5 _=>bj (ms:=[(.b .f (.b .f (.b .f .l))),(.b .f (.b .f (.b .f .l))),(.b .f (.b .f (.b .f .l))),.f,(.b .f (.b .f (.b .f .l))),(.b .f (.b .f (.b .f .l)))]) ⟨.pure,[.cell 8 43,.tmp 9,.tmp 10,.tmp 11],[(.c 0 0,kI),(.c 0 1,kI),(.c 0 2,.sl cZ),(.t 1,kB),(.t 2,kI),(.t 3,kI)],⟨[.agg (us 3 []),U,U,U],[]⟩⟩ (.ai (.ai (.ai (.ai (.j ⟨3866,[],[(.t 1,kI),(.t 3,.sl cZ)],[],.f⟩ (.ai (.ai (.ai (.j ⟨18889465931478580858650,[],[(.t 74,kB)],[],.f⟩ .z .z)))) (.ai (.j ⟨3840,[],[],[],.f⟩ (.ai (.lp ⟨8462480737302404223012618,[.b 0],[],[(.t 82,kI)],some 0,true,3840,[],[],fun k (s:Int)=>CO x0 x1 x2 x3 x5 k s,.f,fun(s:Int)=>(0≤s∧s≤((gI x0 x3 x5).n:Int)∧(i64.wrap ((i64.wrap ((dW x0 x3 x5)-x0))+s))≤(x2.n:Int)),fun(s:Int)=>(toNat (((gI x0 x3 x5).n:Int)-s)),none⟩ (.ai (.ai (.s (.ai (.s (.j ⟨81169251286937994249956602875658,[],[(.t 94,kB),(.t 106,kB)],[],.f⟩ .z .z) .z)) .z))))) .z))))))) (let zc:=gM (i64.wrap (x0-x3)) (x5.n:Int);let za:=i64.wrap ((dW x0 x3 x5)-x0);let z8:=gI x0 x3 x5;((cK x0 x1 x2)!=0)=false→(((cK x3 x4 x5)!=0)=false→((((decide (x3<x0))=true→(((0:Int)≤zc)∧((zc:Int)≤(x5.n:Int))∧(((x5.n:Int):Int)≤(x5.n:Int))∧(((x5.n:Int):Int)≤(x5.n:Int))))∧((decide (x3<x0))=false→(0≤x0∧x0≤1048576∧x3≤9223372036854775807)))∧((pO x0 x1 x2 x3 x4 x5)=true→(((0≤(0:Int)∧(0:Int)≤(z8.n:Int)∧(i64.wrap (za+(0:Int)))≤(x2.n:Int)))∧(∀(fa:Int),let zf:=vV x0 x2 x3 x5 fa;let ze:=decide (fa<(z8.n:Int));let zd:=toNat ((z8.n:Int)-fa);let zb:=i64.wrap (fa+1);let z6:=i64.wrap (za+fa);(0≤fa∧fa≤(z8.n:Int)∧z6≤(x2.n:Int))→((ze=true→(((0:Int)≤fa∧fa<(z8.n:Int))∧(((decide (z6<(x2.n:Int)))=true→(((0:Int)≤z6∧z6<(x2.n:Int))∧((toNat z6)<x2.n)))∧(zf=false→(((z6=z6)∧((0:Int)≤0)∧((0:Int)≤z6)∧((z6:Int)≤z6)∧((z6:Int)≤(x2.n:Int)))∧((((0:Int)≤fa)∧((fa:Int)≤(z8.n:Int))∧(((z8.n:Int):Int)≤(z8.n:Int))∧(((z8.n:Int):Int)≤(z8.n:Int)))∧(0<zd∧(toNat (z6-0))+zd≤549755813888)))))))∧(ze=true→(zf=true→((0≤zb∧zb≤(z8.n:Int)∧(i64.wrap (za+zb))≤(x2.n:Int))∧(toNat ((z8.n:Int)-zb))<(toNat ((z8.n:Int)-fa)))))))))))) (bU (aH wC (aH N5 (aH Dz aQ)))) Tryz.func85 ((fun h1=>(fun h2=>⟨⟨(fun h3=>(by have:=fx _ _ _ (bE h1);have:=fx _ _ _ (bE h2);have:=ay h3;have:=rX (i64.wrap (x0-x3)) (x5.n:Int);have:=aq (x0-x3);omega)),(fun h4=>(by have:=fx _ _ _ (bE h1);have:=fx _ _ _ (bE h2);omega))⟩,(fun h5=>⟨(by have:=fx _ _ _ (bE h1);have:=fx _ _ _ (bE h2);have:=f75 _ _ _ _ _ _ h5 (by omega);have:=aq ((dW x0 x3 x5)-x0);have:=aq ((i64.wrap ((dW x0 x3 x5)-x0))+(0:Int));omega),(fun fa MV=>⟨(fun h7=>⟨(by have:=ay h7;omega),⟨(fun h8=>⟨(by have:=fx _ _ _ (bE h1);have:=fx _ _ _ (bE h2);have:=f75 _ _ _ _ _ _ h5 (by omega);have:=ay h8;have:=aq ((dW x0 x3 x5)-x0);have:=aq ((i64.wrap ((dW x0 x3 x5)-x0))+fa);omega),(by have:=fx _ _ _ (bE h1);have:=fx _ _ _ (bE h2);have:=f75 _ _ _ _ _ _ h5 (by omega);have:=ay h8;have:=aq ((dW x0 x3 x5)-x0);have:=aq ((i64.wrap ((dW x0 x3 x5)-x0))+fa);omega)⟩),(fun h9=>⟨(by have:=fx _ _ _ (bE h1);have:=fx _ _ _ (bE h2);have:=f75 _ _ _ _ _ _ h5 (by omega);have:=ay h7;have:=h9;simp [vV]at this;first|omega|(have:=aq ((dW x0 x3 x5)-x0);have:=aq ((i64.wrap ((dW x0 x3 x5)-x0))+fa);omega)),⟨(by have:=fx _ _ _ (bE h1);have:=fx _ _ _ (bE h2);have:=f75 _ _ _ _ _ _ h5 (by omega);have:=ay h7;have:=h9;simp [vV]at this;first|omega|(have:=aq ((dW x0 x3 x5)-x0);have:=aq ((i64.wrap ((dW x0 x3 x5)-x0))+fa);omega)),(by have:=fx _ _ _ (bE h1);have:=fx _ _ _ (bE h2);have:=f75 _ _ _ _ _ _ h5 (by omega);have:=ay h7;have:=h9;simp [vV]at this;first|omega|(have:=aq ((dW x0 x3 x5)-x0);have:=aq ((i64.wrap ((dW x0 x3 x5)-x0))+fa);omega))⟩⟩)⟩⟩),(fun dJ=>(fun jH=>(by have:=fx _ _ _ (bE h1);have:=fx _ _ _ (bE h2);have:=f75 _ _ _ _ _ _ h5 (by omega);have:=ay dJ;have:=jH;(try simp [vV]at this);have:=aq ((dW x0 x3 x5)-x0);have:=aq (fa+1);have:=aq ((i64.wrap ((dW x0 x3 x5)-x0))+fa);have:=aq ((i64.wrap ((dW x0 x3 x5)-x0))+(i64.wrap (fa+1)));omega)))⟩)⟩)⟩)))
end
def aCG:Fq:=⟨[.v kI],fun(x0:Int)=>⟨⟨some (0≤x0∧x0<3),.agg [.bool (x0==0),.bool (x0==1),.bool (x0==2)]⟩⟩⟩
theorem avS:ba 70 aCG:=bf Tryz.func70
 fun(x0:Int) hp=>by
  have:x0=0∨x0=1∨x0=2:=by omega
  rcases this with rfl|rfl|rfl
  ·exact bj ⟨.pure,[.cell 2 80],[(.c 0 0,kB),(.c 0 1,kB),(.c 0 2,kB)],⟨[.agg (us 3 [])],[]⟩⟩ (.z) True fK Tryz.func70 trivial
  ·exact bj ⟨.pure,[.cell 2 80],[(.c 0 0,kB),(.c 0 1,kB),(.c 0 2,kB)],⟨[.agg (us 3 [])],[]⟩⟩ (.z) True fK Tryz.func70 trivial
  ·exact bj ⟨.pure,[.cell 2 80],[(.c 0 0,kB),(.c 0 1,kB),(.c 0 2,kB)],⟨[.agg (us 3 [])],[]⟩⟩ (.z) True fK Tryz.func70 trivial
end Go.Proofs.YtfmgjpcmcjjoiaaGreatDoor
namespace Go.Vc
open Go Go.Proofs Go.RowKit Go.Shelf
section
variable {P:Program} {ρ:Ren}
theorem oI{x:Int}(h1:0≤x)(h2:x≤18446744073709551615):u64.wrap x=x:=by
 have h:u64.wrap x=x%18446744073709551616:=by simp [IntKind.wrap,IntKind.bits,IntKind.signed]
 rw[h];omega
theorem oq(x:Int):x/2^(toNat 1)=x/2:=rfl
def Sl.ins{α:Type}(s:Sl α)(i:Nat)(x:α):Sl α:=⟨s.n+1,fun t=>bif Nat.blt t i then s.at' t else bif Nat.beq t i then x else s.at' (t-1)⟩
def Sl.del{α:Type}(s:Sl α)(i j:Nat):Sl α:=⟨s.n- (j-i),fun t=>bif Nat.blt t i then s.at' t else s.at' (t+(j-i))⟩
def Ip(E:El):Hq:=⟨[.o 0,.v (.int .i64),.o 1],[(.h 0 0,.ah E),(.h 1 0,.ah E)],[[.undef],[.undef]],
 fun(x1:Int) (x0 x2:Sl E.T)=>⟨⟨some (0≤x1∧x1≤(x0.n:Int)∧x0.n+1≤549755813888∧x2.n=1),[.own 0 (x0.n+1)],[[(Kd.ah E).av (Sl.ins x0 (toNat x1) (x2.at' 0))],[(Kd.ah E).av x2]]⟩⟩⟩
def xj(E:El):Hq:=⟨[.o 0,.v (.int .i64),.v (.int .i64)],[(.h 0 0,.ah E)],[[.undef]],
 fun(x1 x2:Int) (x0:Sl E.T)=>⟨⟨some (0≤x1∧x1<x2∧x2≤(x0.n:Int)),[.own 1 (x0.n- (toNat x2-toNat x1))],[[dh],[(Kd.ah E).av (Sl.del x0 (toNat x1) (toNat x2))]]⟩⟩⟩
theorem NU{E:El}{bytes:Nat}{z:Value}(L:qG P ρ E.sz bytes z)(hc:ml P (ρ.f 22))(p5:0<E.sz)(pT:bytes≤255)(um: ∀m,(Builtin.zeroCells z.cells m).size=m*E.sz):jM P (ρ.f 22) (Ip E).gW:=
 Hq.ok hc rfl fun(x1:Int) (x0:Sl E.T) _ (x2:Sl E.T) _ (hp:0≤x1∧x1≤(x0.n:Int)∧x0.n+1≤549755813888∧x2.n=1)=>by
  have key: ∀(i m:Nat),x1=(i:Int)→x2.n=m→m=1→fj P (ρ.f 22) [.own 0 x0.n,.int .i64 x1,.own 1 x2.n] [[.ah false E.sz x0.n fun t=>E.e (x0.at' t)],[.ah false E.sz x2.n fun t=>E.e (x2.at' t)]] [.own 0 (x0.n+1)]
    [[.ah false E.sz (x0.n+1) fun t=>E.e ((Sl.ins x0 (toNat x1) (x2.at' 0)).at' t)],[.ah false E.sz x2.n fun t=>E.e (x2.at' t)]]:=by
   intro i m h1 h2 h3;rw[h2,h3,h1];have h:=atM L p5 pT um x0.n i (fun t=>E.e (x0.at' t)) (fun t=>E.e (x2.at' t)) (by omega) hp.2.2.1;have e:lK (fun t=>E.e (x0.at' t)) i (fun t=>E.e (x2.at' t))=fun t=>E.e ((Sl.ins x0 i (x2.at' 0)).at' t):=by
    funext t
    unfold lK Sl.ins;simp only
    cases Nat.blt t i with
    |true=>rfl
    |false=>cases Nat.beq t i<;>rfl
   rw[e]at h;rw[aCZ];exact h
  exact key x1.toNat x2.n (by omega) rfl hp.2.2.2
theorem A7{f:FuncId}{E:El}{z:Value}(b_:PG P f E.sz z)(hc:ml P f)(hz: ∀m,(Builtin.zeroCells z.cells m).toList.length=m*E.sz∧ ∀v∈(Builtin.zeroCells z.cells m).toList,v.oneCell'=true):jM P f (xj E).gW:=
 Hq.ok hc rfl fun(x1:Int) (x2:Int) (x0:Sl E.T) _ (hp:0≤x1∧x1<x2∧x2≤(x0.n:Int))=>by
  have key: ∀(i j:Nat),x1=(i:Int)→x2=(j:Int)→fj P f [.own 0 x0.n,.int .i64 x1,.int .i64 x2] [[.ah false E.sz x0.n fun t=>E.e (x0.at' t)]] [.own 1 (x0.n- (toNat x2-toNat x1))]
    [[dh],[.ah false E.sz (x0.n- (toNat x2-toNat x1)) fun t=>E.e ((Sl.del x0 (toNat x1) (toNat x2)).at' t)]]:=by
   intro i j h1 h2;rw[h1,h2,aCZ,aCZ];have h:=aoG b_ hz x0.n i j (fun t=>E.e (x0.at' t)) (by omega) (by omega);have e:xi (fun t=>E.e (x0.at' t)) i j=fun t=>E.e ((Sl.del x0 i j).at' t):=by
    funext t
    unfold xi Sl.del;simp only
    cases Nat.blt t i<;>rfl
   rw[e]at h;exact h
  exact key x1.toNat x2.toNat (by omega) (by omega)
theorem uT{P:Program}{T:TypeId}{z:Value}{k b:Nat}(h:(P.info? T).map (fun i=>(i.zero,i.size,i.bytes))=some (some z,k,b))(w:World):(Go.sizeOf T).run P w= .ok k w:=by
 obtain⟨i,h1,_,h3,_⟩:=info_parts h;simp [sizeOf,typeInfo,h1,h3]
theorem aBF{P:Program}{T:TypeId}{z:Value}{k b:Nat}(h:(P.info? T).map (fun i=>(i.zero,i.size,i.bytes))=some (some z,k,b))(w:World):(zeroValue T).run P w= .ok z w:=by
 obtain⟨i,h1,h2,_,_⟩:=info_parts h;simp [zeroValue,typeInfo,h1,h2]
theorem sF{z:Value}{k:Nat}(hk:z.cells.size=k)(h1:z.cells.all (fun v=>v.oneCell')=true)(m:Nat):(Builtin.zeroCells z.cells m).toList.length=m*k∧ ∀v∈(Builtin.zeroCells z.cells m).toList,v.oneCell'=true:=by
 subst hk;refine⟨by simp [Builtin.zeroCells],fun v hv=> ?_⟩;simp only[Builtin.zeroCells,Array.toList_map,aDx,Array.mem_toList_iff,Array.mem_range]at hv;obtain⟨i,hi,rfl⟩:=hv;have rN:0<z.cells.size:=by
  rcases aDW z.cells.size with e|e
  ·rw[e]at hi;simp at hi
  ·exact e
 have cI:=Nat.mod_lt i rN;rw[getElem!_pos z.cells _ cI];exact Array.all_eq_true.1 h1 _ cI
theorem A6{k b:Nat}{z:Value}(mixed:P.follows .mixedOrders=true)(F:Bears P (ρ.f 45) (SlBodyN.n45 ρ))(t22:P.underlying (ρ.t 22)=some (TypeDesc.slice (ρ.t 23)))(h:(P.info? (ρ.t 23)).map (fun i=>(i.zero,i.size,i.bytes))=some (some z,k,b)):PG P (ρ.f 45) k z:=by
 obtain⟨i0,h1,h2,h3,_⟩:=info_parts h;intro ah cap n i j w news zs a1 a2 a3 a4 a5 a6 a7 a8 a9 jy jz;exact aoH k mixed F t22 (uT h) z (aBF h) i0 h1 h3 ah cap n i j w news zs a1 a2 a3 a4 a5 a6 a7 a8 a9 jy jz
end
end Go.Vc
namespace Go.Proofs.YtfmgjpcmcjjoiaaGreatDoor
open Go Go.Proofs Go.RowKit Go.Shelf Go.Vc
def NT(f ov rot T E:Nat):Ren:=⟨fun n=>match n with
 |22=>f
 |29=>ov
 |30=>rot
 |n=>n,fun n=>match n with
 |24=>T
 |9=>E
 |n=>n,fun n=>n⟩
def A5(f T E:Nat):Ren:=⟨fun n=>match n with
 |45=>f
 |n=>n,fun n=>match n with
 |22=>T
 |23=>E
 |n=>n,fun n=>n⟩
theorem atF:qG Tryz.prog (NT 213 223 224 122 130) 2 32 (.agg #[.string ⟨#[]⟩,.string ⟨#[]⟩]):=
 have i9:(Tryz.prog.info? 130).map (fun i=>(i.zero,i.size,i.bytes))=some (some ((.agg #[.string ⟨#[]⟩,.string ⟨#[]⟩]):Value),2,32):=by kernel_rfl
 ⟨mixed,⟨ "slices.Insert[[]rostrum/api.Pair,rostrum/api.Pair]",by kernel_rfl,by kernel_rfl⟩,by kernel_rfl,by kernel_rfl,uT i9,i9,fun w vb b o m vc lb cb tA tB kA kB h1 h2 h3 h4 h5 h6=>by
  show(callFunc 223 _).run Tryz.prog w=_;rw[run_callFunc_extern Tryz.func223 (by kernel_rfl) (by kernel_rfl) (by kernel_rfl) (e:=Extern.SlicesOverlaps.overlaps #[122,122] #[4]) (by kernel_rfl),Lib.run_overlaps_apart w 122 4 130 (by kernel_rfl) 2 (uT i9) ⟨vb,0,none⟩ ⟨b,o,none⟩ m vc lb cb h1 tA tB kA kB h2 h3 h4 h5 h6];rfl⟩
abbrev amn:Hq:=Ip cN
theorem avB:jM Tryz.prog 213 amn.gW:=NU (E:=cN) atF ⟨_,_,Tryz.func213,rfl,by kernel_rfl⟩ (by decide) (by omega) fun m=>Array.length_toList.symm.trans (sF (k:=2) (z:=(.agg #[.string ⟨#[]⟩,.string ⟨#[]⟩])) rfl (by kernel_rfl) m).1
theorem atG:qG Tryz.prog (NT 216 225 226 97 9) 1 16 (.string ⟨#[]⟩):=
 have i9:(Tryz.prog.info? 9).map (fun i=>(i.zero,i.size,i.bytes))=some (some ((.string ⟨#[]⟩):Value),1,16):=by kernel_rfl
 ⟨mixed,⟨ "slices.Insert[[]string,string]",by kernel_rfl,by kernel_rfl⟩,by kernel_rfl,by kernel_rfl,uT i9,i9,fun w vb b o m vc lb cb tA tB kA kB h1 h2 h3 h4 h5 h6=>by
  show(callFunc 225 _).run Tryz.prog w=_;rw[run_callFunc_extern Tryz.func225 (by kernel_rfl) (by kernel_rfl) (by kernel_rfl) (e:=Extern.SlicesOverlaps.overlaps #[97,97] #[4]) (by kernel_rfl),Lib.run_overlaps_apart w 97 4 9 (by kernel_rfl) 1 (uT i9) ⟨vb,0,none⟩ ⟨b,o,none⟩ m vc lb cb h1 tA tB kA kB h2 h3 h4 h5 h6];rfl⟩
abbrev amq:Hq:=Ip E9
theorem ahw:jM Tryz.prog 216 amq.gW:=NU (E:=E9) atG ⟨_,_,Tryz.func216,rfl,by kernel_rfl⟩ (by decide) (by omega) fun m=>Array.length_toList.symm.trans (sF (k:=1) (z:=(.string ⟨#[]⟩)) rfl (by kernel_rfl) m).1
theorem atH:qG Tryz.prog (NT 221 229 230 123 133) 2 24 (.agg #[.string ⟨#[]⟩,.int .i64 0]):=
 have i9:(Tryz.prog.info? 133).map (fun i=>(i.zero,i.size,i.bytes))=some (some ((.agg #[.string ⟨#[]⟩,.int .i64 0]):Value),2,24):=by kernel_rfl
 ⟨mixed,⟨ "slices.Insert[[]rostrum/api.Score,rostrum/api.Score]",by kernel_rfl,by kernel_rfl⟩,by kernel_rfl,by kernel_rfl,uT i9,i9,fun w vb b o m vc lb cb tA tB kA kB h1 h2 h3 h4 h5 h6=>by
  show(callFunc 229 _).run Tryz.prog w=_;rw[run_callFunc_extern Tryz.func229 (by kernel_rfl) (by kernel_rfl) (by kernel_rfl) (e:=Extern.SlicesOverlaps.overlaps #[123,123] #[4]) (by kernel_rfl),Lib.run_overlaps_apart w 123 4 133 (by kernel_rfl) 2 (uT i9) ⟨vb,0,none⟩ ⟨b,o,none⟩ m vc lb cb h1 tA tB kA kB h2 h3 h4 h5 h6];rfl⟩
abbrev amv:Hq:=Ip cH
theorem avH:jM Tryz.prog 221 amv.gW:=NU (E:=cH) atH ⟨_,_,Tryz.func221,rfl,by kernel_rfl⟩ (by decide) (by omega) fun m=>Array.length_toList.symm.trans (sF (k:=2) (z:=(.agg #[.string ⟨#[]⟩,.int .i64 0])) rfl (by kernel_rfl) m).1
abbrev amo:Hq:=xj cN
theorem avC:jM Tryz.prog 214 amo.gW:=A7 (E:=cN) (z:=(.agg #[.string ⟨#[]⟩,.string ⟨#[]⟩])) (A6 (ρ:=A5 214 122 130) (b:=32) mixed ⟨ "slices.Delete[[]rostrum/api.Pair,rostrum/api.Pair]",by kernel_rfl,by kernel_rfl⟩ (by kernel_rfl) (by kernel_rfl)) ⟨_,_,Tryz.func214,rfl,by kernel_rfl⟩ (sF rfl (by kernel_rfl))
abbrev ams:Hq:=xj E9
theorem avE:jM Tryz.prog 218 ams.gW:=A7 (E:=E9) (z:=(.string ⟨#[]⟩)) (A6 (ρ:=A5 218 97 9) (b:=16) mixed ⟨ "slices.Delete[[]string,string]",by kernel_rfl,by kernel_rfl⟩ (by kernel_rfl) (by kernel_rfl)) ⟨_,_,Tryz.func218,rfl,by kernel_rfl⟩ (sF rfl (by kernel_rfl))
abbrev amt:Hq:=xj cH
theorem avF:jM Tryz.prog 219 amt.gW:=A7 (E:=cH) (z:=(.agg #[.string ⟨#[]⟩,.int .i64 0])) (A6 (ρ:=A5 219 123 133) (b:=24) mixed ⟨ "slices.Delete[[]rostrum/api.Score,rostrum/api.Score]",by kernel_rfl,by kernel_rfl⟩ (by kernel_rfl) (by kernel_rfl)) ⟨_,_,Tryz.func219,rfl,by kernel_rfl⟩ (sF rfl (by kernel_rfl))
theorem atE:qG Tryz.prog (NT 193 208 209 44 127) 8 128 (.agg #[.string ⟨#[]⟩,.int .i64 0,.string ⟨#[]⟩,.int .i64 0,.slice none 0 0,.slice none 0 0,.slice none 0 0,.int .i64 0]):=
 have i9:(Tryz.prog.info? 127).map (fun i=>(i.zero,i.size,i.bytes))=some (some ((.agg #[.string ⟨#[]⟩,.int .i64 0,.string ⟨#[]⟩,.int .i64 0,.slice none 0 0,.slice none 0 0,.slice none 0 0,.int .i64 0]):Value),8,128):=by kernel_rfl
 ⟨mixed,⟨ "slices.Insert[[]rostrum/api.Entry,rostrum/api.Entry]",by kernel_rfl,by kernel_rfl⟩,by kernel_rfl,by kernel_rfl,uT i9,i9,fun w vb b o m vc lb cb tA tB kA kB h1 h2 h3 h4 h5 h6=>by
  show(callFunc 208 _).run Tryz.prog w=_;rw[run_callFunc_extern Tryz.func208 (by kernel_rfl) (by kernel_rfl) (by kernel_rfl) (e:=Extern.SlicesOverlaps.overlaps #[44,44] #[4]) (by kernel_rfl),Lib.run_overlaps_apart w 44 4 127 (by kernel_rfl) 8 (uT i9) ⟨vb,0,none⟩ ⟨b,o,none⟩ m vc lb cb h1 tA tB kA kB h2 h3 h4 h5 h6];rfl⟩
abbrev akT:Hq:=Ip aZ
theorem auC:jM Tryz.prog 193 akT.gW:=NU (E:=aZ) atE ⟨_,_,Tryz.func193,rfl,by kernel_rfl⟩ (by decide) (by omega) fun m=>Array.length_toList.symm.trans (sF (k:=8) (z:=(.agg #[.string ⟨#[]⟩,.int .i64 0,.string ⟨#[]⟩,.int .i64 0,.slice none 0 0,.slice none 0 0,.slice none 0 0,.int .i64 0])) rfl (by kernel_rfl) m).1
abbrev akS:Hq:=xj aZ
theorem auB:jM Tryz.prog 187 akS.gW:=A7 (E:=aZ) (z:=(.agg #[.string ⟨#[]⟩,.int .i64 0,.string ⟨#[]⟩,.int .i64 0,.slice none 0 0,.slice none 0 0,.slice none 0 0,.int .i64 0])) (A6 (ρ:=A5 187 44 127) (b:=128) mixed ⟨ "slices.Delete[[]rostrum/api.Entry,rostrum/api.Entry]",by kernel_rfl,by kernel_rfl⟩ (by kernel_rfl) (by kernel_rfl)) ⟨_,_,Tryz.func187,rfl,by kernel_rfl⟩ (sF rfl (by kernel_rfl))
end Go.Proofs.YtfmgjpcmcjjoiaaGreatDoor
namespace Go.Proofs.YtfmgjpcmcjjoiaaGreatDoor
open Go Go.RowKit Go.Vc
section
variable(x0:Int)
def adX:Bool:=(bif(x0==4)then(x0==4)else(bif(x0==5)then(x0==5)else(x0==6)))
def adY:Bool:=(bif(x0==7)then(x0==7)else(bif(x0==8)then(x0==8)else(bif(x0==9)then(x0==9)else(x0==10))))
def adZ:Bool:=(bif(x0==11)then(x0==11)else(bif(x0==12)then(x0==12)else(x0==13)))
def ad0:Bool:=(bif(x0==14)then(x0==14)else(bif(x0==15)then(x0==15)else(x0==16)))
def BJ:Int:=(bif(x0==2)then 1 else(bif(x0==3)then 2 else(bif(adX x0)then 3 else(bif(adY x0)then 4 else(bif(adZ x0)then 5 else(bif(ad0 x0)then 6 else 0))))))
def alJ:Fq:=⟨[.v kI],fun x0=>⟨⟨none,ae (BJ x0)⟩⟩⟩
theorem au3:ba 189 alJ:=bf Tryz.func189
 fun(x0:Int)=>bj ⟨.pure,[.tmp 2],[(.t 0,kI)],⟨[U],[]⟩⟩ (.ai (.s (.ai (.ai (.ai (.ai (.ai (.j ⟨268,[],[(.t 8,kB)],[],.f⟩ .z (.ai (.j ⟨4108,[],[(.t 12,kB)],[],.f⟩ .z (.ai (.j ⟨131084,[],[(.t 17,kB)],[],.f⟩ .z (.ai (.j ⟨2097156,[],[(.t 21,kB)],[],.f⟩ .z .z)))))))))))) .z)) True fK Tryz.func189 (trivial)
def ad1:Bool:=(bif(x0==1)then(x0==1)else(bif(x0==3)then(x0==3)else(bif(x0==4)then(x0==4)else(bif(x0==7)then(x0==7)else(bif(x0==8)then(x0==8)else(bif(x0==11)then(x0==11)else(x0==14)))))))
def BK:Bool:=(bif(ad1 x0)then true else false)
def alK:Fq:=⟨[.v kI],fun x0=>⟨⟨none,.bool (BK x0)⟩⟩⟩
theorem au4:ba 190 alK:=bf Tryz.func190
 fun(x0:Int)=>bj ⟨.pure,[.tmp 2],[(.t 0,kB)],⟨[U],[]⟩⟩ (.ai (.s (.ai (.j ⟨20,[],[(.t 4,kB)],[],.f⟩ .z .z)) .z)) True fK Tryz.func190 (trivial)
def qZ:Int:=x0
def tz:ag:=⟨#[]⟩
def tC:Int:=0
def tD:Sl ag:=(al:Sl ag)
def alL:Fq:=⟨[.v kI],fun x0=>⟨⟨none,.agg [ae (qZ x0),.str tz,ae tC,aL 1 e9 tD]⟩⟩⟩
theorem DB:ba 191 alL:=bf Tryz.func191
 fun(x0:Int)=>bj ⟨.pure,[.cell 2 99],[(.c 0 0,kI),(.c 0 1,kS),(.c 0 2,kI),(.c 0 3,.sl E9)],⟨[.agg (us 4 [])],[]⟩⟩ (.z) True fK Tryz.func191 (trivial)
def oT:Int:=0
def oU:ag:=⟨#[]⟩
def m5:Int:=x0
def oV:Sl ag:=(al:Sl ag)
def amd:Fq:=⟨[.v kI],fun x0=>⟨⟨none,.agg [ae oT,.str oU,ae (m5 x0),aL 1 e9 oV]⟩⟩⟩
theorem Ix:ba 202 amd:=bf Tryz.func202
 fun(x0:Int)=>bj ⟨.pure,[.cell 2 99],[(.c 0 0,kI),(.c 0 1,kS),(.c 0 2,kI),(.c 0 3,.sl E9)],⟨[.agg (us 4 [])],[]⟩⟩ (.z) True fK Tryz.func202 (trivial)
def Gf(x0:Bool):Int:=(bif x0 then 1 else 0)
def amp:Fq:=⟨[.v kB],fun x0=>⟨⟨none,ae (Gf x0)⟩⟩⟩
theorem WR:ba 215 amp:=bf Tryz.func215
 fun x0=>bj ⟨.pure,[.tmp 2],[(.t 0,kI)],⟨[U],[]⟩⟩ (.z) True fK Tryz.func215 (trivial)
end
end Go.Proofs.YtfmgjpcmcjjoiaaGreatDoor
namespace Go.Vc
open Go
def nI(p:Nat→Bool):Nat→Int→Int→Int
 |0,_,_=>default
 |k+1,i,j=>bif decide (i<j)then(bif p (toNat (i64.wrap ((u64.wrap (i64.wrap (i+j)))/2^(toNat 1))))then nI p k (i64.wrap ((i64.wrap ((u64.wrap (i64.wrap (i+j)))/2^(toNat 1)))+1)) j
   else nI p k i (i64.wrap ((u64.wrap (i64.wrap (i+j)))/2^(toNat 1))))else i
theorem anR{i j:Int}(hi:0≤i)(iY:i<j)(hj:j≤549755813888):(i64.wrap ((u64.wrap (i64.wrap (i+j)))/2^(toNat 1)))=(i+j)/2∧i≤(i+j)/2∧(i+j)/2<j:=by
 rw[aq (i+j),oI (x:=i+j) (by omega) (by omega),oq,aq _];omega
theorem AS{p:Nat→Bool}{n:Int}(hn:n≤549755813888): ∀(k:Nat) (i j:Int),0≤i→i≤j→j≤n→0≤nI p k i j∧nI p k i j≤n
 |0,_,_,h1,h2,h3=>⟨aCT _,by show(0:Int)≤n;omega⟩
 |k+1,i,j,h1,h2,h3=>by
  simp only[nI]
  by_cases h:i<j
  ·obtain⟨e,e1,e2⟩:=anR h1 h (by omega);simp only[h,aDO,aCJ,e]
   cases p (toNat ((i+j)/2))with
   |true=>
    simp only[aCJ];rw[aq _];exact AS hn k _ _ (by omega) (by omega) h3
   |false=>
    simp only[aCI];exact AS hn k _ _ h1 (by omega) (by omega)
  ·simp only[h,aDU,aCI];omega
end Go.Vc
