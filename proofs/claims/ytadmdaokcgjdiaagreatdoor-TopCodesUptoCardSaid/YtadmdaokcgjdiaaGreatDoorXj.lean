import Derived.Test.YtadmdaokcgjdiaaGreatDoorXi
import Derived.Shelf.Spec.SlicesGrow
open Go.IntKind (i64 u64 u8)
open Int (toNat)
set_option maxRecDepth 100000
set_option maxHeartbeats 4000000
set_option linter.all false
noncomputable section
namespace Go.Proofs.YtadmdaokcgjdiaaGreatDoor
open Go Go.RowKit Go.af
section
def vm(A:u)(g:u):Int:=(Bp A g)
def alo:bq:=⟨[.v al,.v al],λA g=>⟨⟨none,b (vm A g)⟩⟩⟩
def Nb:bx 170 alo:=bA Tryz.func170
 λA _ g _=>bD ⟨.pure,[.tmp 4],[(.t 0,a)],⟨[U],[]⟩⟩ (.z) True (ct (aJ axe a2)) Tryz.func170 (trivial)
def s8(A:u)(r:u):Int:=(vm A r)
def alj:bq:=⟨[.g [al,al],.g [al,al]],λA _ r _=>⟨⟨none,b (s8 A r)⟩⟩⟩
def agi:bx 166 alj:=bA Tryz.func166
 λA _ g _ r _ h _=>bD ⟨.pure,[.tmp 4],[(.t 0,a)],⟨[U],[]⟩⟩ (.z) True (ct (aJ Nb a2)) Tryz.func166 (trivial)
def E0(A:G bt):Nat->Int->Bool×Bool
 |0,_=>default
 |k+1,e=>(cond (decide (e<(A.n:Int))) (cond (decide ((s8 (A.at' (toNat (i64 (e-1)))).q (A.at' (toNat e)).q)>=0)) (true,false) (E0 A k (i64 (e+1)))) (false,default))
def E1(A:G bt):Bool×Bool:=E0 A ((toNat ((A.n:Int)-1))+1) 1
def acO(A:G bt):Bool:=(cond (E1 A).1 false true)
def EZ(A:G bt):Bool:=(cond (acO A) true (E1 A).2)
def ali:bq:=⟨[.v (.ab dd),.fn 166 []],λA=>⟨⟨none,.bool (EZ A)⟩⟩⟩
def awN:bx 165 ali:=bA Tryz.func165
 λA j _=>bD ⟨.pure,[.tmp 4],[(.t 0,K)],⟨[U],[]⟩⟩ (.ae (.j ⟨16,[],[],[],.f⟩ (.ae (.cX ⟨51,[],[],[(.t 5,a)],some 0,true,16,[],[],λk (s:Int)=>E0 A k s,.f,λ(s:Int)=>(1<=s/\(s<=(A.n:Int)\/s=1)),λ(s:Int)=>(toNat ((A.n:Int)-s)),none⟩ .z)) .z)) (((1<=(1:Int)/\((1:Int)<=(A.n:Int)\/(1:Int)=1)))/\(∀(e:Int),let f:=decide (e<(A.n:Int));let c:=i64 (e-1);let b:=i64 (e+1);(1<=e/\(e<=(A.n:Int)\/e=1))->((f=true->((0<=c/\c<(A.n:Int))/\(0<=e/\e<(A.n:Int))))/\(f=true->((decide ((s8 (A.at' (toNat c)).q (A.at' (toNat e)).q)>=0))=false->((1<=b/\(b<=(A.n:Int)\/b=1))/\(toNat ((A.n:Int)-b))<(toNat ((A.n:Int)-e)))))))) (ct (aJ agi a2)) Tryz.func165 (⟨Ω,(λe i=>⟨(λd=>⟨(by have:=an d;have:=E (e-1);omega),(by have:=an d;omega)⟩),(λg=>(λh=>(by have:=an g;have:=E (e+1);omega)))⟩)⟩)
def Tc(A:G Int):Nat->Int->Bool×Int
 |0,_=>default
 |k+1,e=>let a:=A.at' (toNat e);(cond (decide (e<(A.n:Int))) (cond (a !=0) (true,a) (Tc A k (i64 (e+1)))) (false,default))
def adg(A:G Int):Bool×Int:=Tc A ((toNat ((A.n:Int)-0))+1) 0
def art(A:G Int):Bool:=(cond (adg A).1 false true)
def adf(A:G Int):Int:=(cond (art A) 0 (adg A).2)
def al3:bq:=⟨[.v (.ab Zp)],λA=>⟨⟨none,b (adf A)⟩⟩⟩
def axc:bx 186 al3:=bA Tryz.func186
 λA i _=>bD ⟨.pure,[.tmp 2],[(.t 0,a)],⟨[U],[]⟩⟩ (.ae (.ae (.j ⟨12,[],[],[],.f⟩ (.ae (.cX ⟨460,[],[],[(.t 8,a)],some 0,true,12,[],[],λk (s:Int)=>Tc A k s,.f,λ(s:Int)=>(0<=s/\s<=(A.n:Int)),λ(s:Int)=>(toNat ((A.n:Int)-s)),none⟩ .z)) .z))) (((0<=(0:Int)/\(0:Int)<=(A.n:Int)))/\(∀(e:Int),let c:=decide (e<(A.n:Int));let b:=i64 (e+1);(0<=e/\e<=(A.n:Int))->((c=true->(0<=e/\e<(A.n:Int)))/\(c=true->(((A.at' (toNat e))!=0)=false->((0<=b/\b<=(A.n:Int))/\(toNat ((A.n:Int)-b))<(toNat ((A.n:Int)-e)))))))) fx Tryz.func186 (⟨Ω,(λe h=>⟨(λd=>(by have:=an d;omega)),(λf=>(λg=>(by have:=an f;have:=E (e+1);omega)))⟩)⟩)
def KY(A:Int):Bool:=(A !=A)
def amt:bq:=⟨[.v a],λA=>⟨⟨none,.bool (KY A)⟩⟩⟩
def axx:bx 198 amt:=bA Tryz.func198
 λ(A:Int)=>bD ⟨.pure,[.tmp 2],[(.t 0,K)],⟨[U],[]⟩⟩ (.z) True fx Tryz.func198 (trivial)
def adh(A:Int)(g:Int):Int:=(cond (KY A) (cond (KY g) 0 (-1)) (cond (KY g) 1 (cond (decide (A<g)) (-1) (cond (decide (A>g)) 1 0))))
def al4:bq:=⟨[.v a,.v a],λA g=>⟨⟨none,b (adh A g)⟩⟩⟩
def axd:bx 187 al4:=bA Tryz.func187
 λ(A:Int) (g:Int)=>bD ⟨.pure,[.tmp 4],[(.t 0,a)],⟨[U],[]⟩⟩ (.z) True (ct (aJ axx a2)) Tryz.func187 (trivial)
def s9(A:u)(g:Int)(r:u)(h:Int):Int:=(adf (G.lit ([(adh g h),(vm A r)]:List Int)))
def alm:bq:=⟨[.g [al,a],.g [al,a]],λA g r h=>⟨⟨none,b (s9 A g r h)⟩⟩⟩
def agj:bx 168 alm:=bA Tryz.func168
 λA _ (g:Int) r _ (h:Int)=>bD ⟨.pure,[.tmp 4],[(.t 0,a)],⟨[U],[]⟩⟩ (.z) True (ct (aJ Nb (aJ axc (aJ axd a2)))) Tryz.func168 (trivial)
def E3(A:G bG):Nat->Int->Bool×Bool
 |0,_=>default
 |k+1,e=>(cond (decide (e<(A.n:Int))) (cond (decide ((s9 (A.at' (toNat (i64 (e-1)))).q (A.at' (toNat (i64 (e-1)))).F (A.at' (toNat e)).q (A.at' (toNat e)).F)>=0)) (true,false) (E3 A k (i64 (e+1)))) (false,default))
variable(A:G bG)(g:u)(r:Int)(h:G bt)(o:G u)(c:G bG)
def E4:Bool×Bool:=E3 A ((toNat ((A.n:Int)-1))+1) 1
def acP:Bool:=(cond (E4 A).1 false true)
def E2:Bool:=(cond (acP A) true (E4 A).2)
def alk:bq:=⟨[.v (.ab c3),.fn 168 []],λA=>⟨⟨none,.bool (E2 A)⟩⟩⟩
theorem awO:bx 167 alk:=bA Tryz.func167
 λA l _=>bD ⟨.pure,[.tmp 4],[(.t 0,K)],⟨[U],[]⟩⟩ (.ae (.j ⟨16,[],[],[],.f⟩ (.ae (.cX ⟨51,[],[],[(.t 5,a)],some 0,true,16,[],[],λk (s:Int)=>E3 A k s,.f,λ(s:Int)=>(1<=s/\(s<=(A.n:Int)\/s=1)),λ(s:Int)=>(toNat ((A.n:Int)-s)),none⟩ .z)) .z)) (((1<=(1:Int)/\((1:Int)<=(A.n:Int)\/(1:Int)=1)))/\(∀(e:Int),let g:=A.at' (toNat e);let f:=decide (e<(A.n:Int));let c:=i64 (e+1);let b:=i64 (e-1);(1<=e/\(e<=(A.n:Int)\/e=1))->((f=true->((0<=b/\b<(A.n:Int))/\(0<=e/\e<(A.n:Int))))/\(f=true->((decide ((s9 (A.at' (toNat b)).q (A.at' (toNat b)).F g.q g.F)>=0))=false->((1<=c/\(c<=(A.n:Int)\/c=1))/\(toNat ((A.n:Int)-c))<(toNat ((A.n:Int)-e)))))))) (ct (aJ agj a2)) Tryz.func167 (⟨Ω,(λe j=>⟨(λd=>⟨(by have:=an d;have:=E (e-1);omega),(by have:=an d;omega)⟩),(λh=>(λi=>(by have:=an h;have:=E (e+1);omega)))⟩)⟩)
def E6(A:G u):Nat->Int->Bool×Bool
 |0,_=>default
 |k+1,e=>(cond (decide (e<(A.n:Int))) (cond (decide ((vm (A.at' (toNat (i64 (e-1)))) (A.at' (toNat e)))>=0)) (true,false) (E6 A k (i64 (e+1)))) (false,default))
def E7(A:G u):Bool×Bool:=E6 A ((toNat ((A.n:Int)-1))+1) 1
def acQ(A:G u):Bool:=(cond (E7 A).1 false true)
def E5(A:G u):Bool:=(cond (acQ A) true (E7 A).2)
def aln:bq:=⟨[.v (.ab bV),.fn 170 []],λA=>⟨⟨none,.bool (E5 A)⟩⟩⟩
theorem awP:bx 169 aln:=bA Tryz.func169
 λA j _=>bD ⟨.pure,[.tmp 4],[(.t 0,K)],⟨[U],[]⟩⟩ (.ae (.j ⟨16,[],[],[],.f⟩ (.ae (.cX ⟨51,[],[],[(.t 5,a)],some 0,true,16,[],[],λk (s:Int)=>E6 A k s,.f,λ(s:Int)=>(1<=s/\(s<=(A.n:Int)\/s=1)),λ(s:Int)=>(toNat ((A.n:Int)-s)),none⟩ .z)) .z)) (((1<=(1:Int)/\((1:Int)<=(A.n:Int)\/(1:Int)=1)))/\(∀(e:Int),let f:=decide (e<(A.n:Int));let c:=i64 (e-1);let b:=i64 (e+1);(1<=e/\(e<=(A.n:Int)\/e=1))->((f=true->((0<=c/\c<(A.n:Int))/\(0<=e/\e<(A.n:Int))))/\(f=true->((decide ((vm (A.at' (toNat c)) (A.at' (toNat e)))>=0))=false->((1<=b/\(b<=(A.n:Int)\/b=1))/\(toNat ((A.n:Int)-b))<(toNat ((A.n:Int)-e)))))))) (ct (aJ Nb a2)) Tryz.func169 (⟨Ω,(λe i=>⟨(λd=>⟨(by have:=an d;have:=E (e-1);omega),(by have:=an d;omega)⟩),(λg=>(λh=>(by have:=an g;have:=E (e+1);omega)))⟩)⟩)
def SC(A:u):Bool:=(!(jz A))
def alb:bq:=⟨[.v al],λA=>⟨⟨none,.bool (SC A)⟩⟩⟩
theorem awG:bx 159 alb:=bA Tryz.func159
 λA _=>bD ⟨.pure,[.tmp 2],[(.t 0,K)],⟨[U],[]⟩⟩ (.z) True (ct (aJ Hk a2)) Tryz.func159 (trivial)
def KI(A:G u):Nat->Int->Bool×Int
 |0,_=>default
 |k+1,e=>(cond (decide (e<(A.n:Int))) (cond (SC (A.at' (toNat e))) (true,e) (KI A k (i64 (e+1)))) (false,default))
def ac6(A:G u):Bool×Int:=KI A ((toNat ((A.n:Int)-0))+1) 0
def arn(A:G u):Bool:=(cond (ac6 A).1 false true)
def ac5(A:G u):Int:=(cond (arn A) (-1) (ac6 A).2)
def alX:bq:=⟨[.v (.ab bV),.fn 159 []],λA=>⟨⟨none,b (ac5 A)⟩⟩⟩
theorem aw7:bx 172 alX:=bA Tryz.func172
 λA i _=>bD ⟨.pure,[.tmp 4],[(.t 0,a)],⟨[U],[]⟩⟩ (.ae (.j ⟨16,[],[],[],.f⟩ (.ae (.cX ⟨403,[],[],[(.t 8,a)],some 0,true,16,[],[],λk (s:Int)=>KI A k s,.f,λ(s:Int)=>(0<=s/\s<=(A.n:Int)),λ(s:Int)=>(toNat ((A.n:Int)-s)),none⟩ .z)) .z)) (((0<=(0:Int)/\(0:Int)<=(A.n:Int)))/\(∀(e:Int),let c:=decide (e<(A.n:Int));let b:=i64 (e+1);(0<=e/\e<=(A.n:Int))->((c=true->(0<=e/\e<(A.n:Int)))/\(c=true->((SC (A.at' (toNat e)))=false->((0<=b/\b<=(A.n:Int))/\(toNat ((A.n:Int)-b))<(toNat ((A.n:Int)-e)))))))) (ct (aJ awG a2)) Tryz.func172 (⟨Ω,(λe h=>⟨(λd=>(by have:=an d;omega)),(λf=>(λg=>(by have:=an f;have:=E (e+1);omega)))⟩)⟩)
def EO(A:G u):Bool:=(decide ((ac5 A)>=0))
def akV:bq:=⟨[.v (.ab bV),.fn 159 []],λA=>⟨⟨none,.bool (EO A)⟩⟩⟩
theorem aww:bx 148 akV:=bA Tryz.func148
 λA _ _=>bD ⟨.pure,[.tmp 4],[(.t 0,K)],⟨[U],[]⟩⟩ (.z) True (ct (aJ aw7 a2)) Tryz.func148 (trivial)
def SD(A:u)(g:u):Bool:=(cond (!(kS A)) true (!(jz g)))
def xK(A:u)(g:u):Bool:=(SD A g)
def ald:bq:=⟨[.g [al,al]],λA g=>⟨⟨none,.bool (xK A g)⟩⟩⟩
theorem awI:bx 161 ald:=bA Tryz.func161
 λA _ g _=>bD ⟨.pure,[.tmp 2],[(.t 0,K)],⟨[U],[]⟩⟩ (.ae (.j ⟨4,[.b 0],[(.t 2,K)],[],.f⟩ .z .z)) True (ct (aJ agf (aJ Hk a2))) Tryz.func161 (trivial)
def KJ(A:G bt):Nat->Int->Bool×Int
 |0,_=>default
 |k+1,e=>let a:=A.at' (toNat e);(cond (decide (e<(A.n:Int))) (cond (xK a.q a.F) (true,e) (KJ A k (i64 (e+1)))) (false,default))
def ac9(A:G bt):Bool×Int:=KJ A ((toNat ((A.n:Int)-0))+1) 0
def arp(A:G bt):Bool:=(cond (ac9 A).1 false true)
def ac8(A:G bt):Int:=(cond (arp A) (-1) (ac9 A).2)
def alZ:bq:=⟨[.v (.ab dd),.fn 161 []],λA=>⟨⟨none,b (ac8 A)⟩⟩⟩
theorem aw9:bx 184 alZ:=bA Tryz.func184
 λA j _=>bD ⟨.pure,[.tmp 4],[(.t 0,a)],⟨[U],[]⟩⟩ (.ae (.j ⟨16,[],[],[],.f⟩ (.ae (.cX ⟨403,[],[],[(.t 8,a)],some 0,true,16,[],[],λk (s:Int)=>KJ A k s,.f,λ(s:Int)=>(0<=s/\s<=(A.n:Int)),λ(s:Int)=>(toNat ((A.n:Int)-s)),none⟩ .z)) .z)) (((0<=(0:Int)/\(0:Int)<=(A.n:Int)))/\(∀(e:Int),let d:=A.at' (toNat e);let c:=decide (e<(A.n:Int));let b:=i64 (e+1);(0<=e/\e<=(A.n:Int))->((c=true->(0<=e/\e<(A.n:Int)))/\(c=true->((xK d.q d.F)=false->((0<=b/\b<=(A.n:Int))/\(toNat ((A.n:Int)-b))<(toNat ((A.n:Int)-e)))))))) (ct (aJ awI a2)) Tryz.func184 (⟨Ω,(λe i=>⟨(λf=>(by have:=an f;omega)),(λg=>(λh=>(by have:=an g;have:=E (e+1);omega)))⟩)⟩)
def A_(A:G bt):Bool:=(decide ((ac8 A)>=0))
def alc:bq:=⟨[.v (.ab dd),.fn 161 []],λA=>⟨⟨none,.bool (A_ A)⟩⟩⟩
theorem awH:bx 160 alc:=bA Tryz.func160
 λA _ _=>bD ⟨.pure,[.tmp 4],[(.t 0,K)],⟨[U],[]⟩⟩ (.z) True (ct (aJ aw9 a2)) Tryz.func160 (trivial)
def SE(A:u):Bool:=(!(jz A))
def alg:bq:=⟨[.g [al,a]],λA _=>⟨⟨none,.bool (SE A)⟩⟩⟩
theorem awL:bx 163 alg:=bA Tryz.func163
 λA _ (g:Int)=>bD ⟨.pure,[.tmp 2],[(.t 0,K)],⟨[U],[]⟩⟩ (.z) True (ct (aJ Hk a2)) Tryz.func163 (trivial)
def KK(A:G bG):Nat->Int->Bool×Int
 |0,_=>default
 |k+1,e=>(cond (decide (e<(A.n:Int))) (cond (SE (A.at' (toNat e)).q) (true,e) (KK A k (i64 (e+1)))) (false,default))
def ada:Bool×Int:=KK A ((toNat ((A.n:Int)-0))+1) 0
def arq:Bool:=(cond (ada A).1 false true)
def ac_:Int:=(cond (arq A) (-1) (ada A).2)
def al0:bq:=⟨[.v (.ab c3),.fn 163 []],λA=>⟨⟨none,b (ac_ A)⟩⟩⟩
theorem aw_:bx 185 al0:=bA Tryz.func185
 λA i _=>bD ⟨.pure,[.tmp 4],[(.t 0,a)],⟨[U],[]⟩⟩ (.ae (.j ⟨16,[],[],[],.f⟩ (.ae (.cX ⟨403,[],[],[(.t 8,a)],some 0,true,16,[],[],λk (s:Int)=>KK A k s,.f,λ(s:Int)=>(0<=s/\s<=(A.n:Int)),λ(s:Int)=>(toNat ((A.n:Int)-s)),none⟩ .z)) .z)) (((0<=(0:Int)/\(0:Int)<=(A.n:Int)))/\(∀(e:Int),let c:=decide (e<(A.n:Int));let b:=i64 (e+1);(0<=e/\e<=(A.n:Int))->((c=true->(0<=e/\e<(A.n:Int)))/\(c=true->((SE (A.at' (toNat e)).q)=false->((0<=b/\b<=(A.n:Int))/\(toNat ((A.n:Int)-b))<(toNat ((A.n:Int)-e)))))))) (ct (aJ awL a2)) Tryz.func185 (⟨Ω,(λe h=>⟨(λd=>(by have:=an d;omega)),(λf=>(λg=>(by have:=an f;have:=E (e+1);omega)))⟩)⟩)
def Ba:Bool:=(decide ((ac_ A)>=0))
def ale:bq:=⟨[.v (.ab c3),.fn 163 []],λA=>⟨⟨none,.bool (Ba A)⟩⟩⟩
theorem awJ:bx 162 ale:=bA Tryz.func162
 λA _ _=>bD ⟨.pure,[.tmp 4],[(.t 0,K)],⟨[U],[]⟩⟩ (.z) True (ct (aJ aw_ a2)) Tryz.func162 (trivial)
def SF(g:Int):Bool:=(!(jf g))
def alh:bq:=⟨[.g [al,a]],λ_ g=>⟨⟨none,.bool (SF g)⟩⟩⟩
theorem awM:bx 164 alh:=bA Tryz.func164
 λA _ (g:Int)=>bD ⟨.pure,[.tmp 2],[(.t 0,K)],⟨[U],[]⟩⟩ (.z) True (ct (aJ M_ a2)) Tryz.func164 (trivial)
def KL(A:G bG):Nat->Int->Bool×Int
 |0,_=>default
 |k+1,e=>(cond (decide (e<(A.n:Int))) (cond (SF (A.at' (toNat e)).F) (true,e) (KL A k (i64 (e+1)))) (false,default))
def ade:Bool×Int:=KL A ((toNat ((A.n:Int)-0))+1) 0
def ars:Bool:=(cond (ade A).1 false true)
def adb:Int:=(cond (ars A) (-1) (ade A).2)
def al1:bq:=⟨[.v (.ab c3),.fn 164 []],λA=>⟨⟨none,b (adb A)⟩⟩⟩
theorem axa:bx 185 al1:=bA Tryz.func185
 λA i _=>bD ⟨.pure,[.tmp 4],[(.t 0,a)],⟨[U],[]⟩⟩ (.ae (.j ⟨16,[],[],[],.f⟩ (.ae (.cX ⟨403,[],[],[(.t 8,a)],some 0,true,16,[],[],λk (s:Int)=>KL A k s,.f,λ(s:Int)=>(0<=s/\s<=(A.n:Int)),λ(s:Int)=>(toNat ((A.n:Int)-s)),none⟩ .z)) .z)) (((0<=(0:Int)/\(0:Int)<=(A.n:Int)))/\(∀(e:Int),let c:=decide (e<(A.n:Int));let b:=i64 (e+1);(0<=e/\e<=(A.n:Int))->((c=true->(0<=e/\e<(A.n:Int)))/\(c=true->((SF (A.at' (toNat e)).F)=false->((0<=b/\b<=(A.n:Int))/\(toNat ((A.n:Int)-b))<(toNat ((A.n:Int)-e)))))))) (ct (aJ awM a2)) Tryz.func185 (⟨Ω,(λe h=>⟨(λd=>(by have:=an d;omega)),(λf=>(λg=>(by have:=an f;have:=E (e+1);omega)))⟩)⟩)
def EY:Bool:=(decide ((adb A)>=0))
def alf:bq:=⟨[.v (.ab c3),.fn 164 []],λA=>⟨⟨none,.bool (EY A)⟩⟩⟩
theorem awK:bx 162 alf:=bA Tryz.func162
 λA _ _=>bD ⟨.pure,[.tmp 4],[(.t 0,K)],⟨[U],[]⟩⟩ (.z) True (ct (aJ axa a2)) Tryz.func162 (trivial)
def km:Int:=(i64 ((i64 ((h.n:Int)+(o.n:Int)))+(c.n:Int)))
def ala:bq:=⟨[.g [a,al,a,.ab dd,.ab bV,.ab c3]],λ_ _ _ h o c=>⟨⟨none,b (km h o c)⟩⟩⟩
theorem V0:bx 158 ala:=bA Tryz.func158
 λ(A:Int) g _ (r:Int) h _ _ o _ _ c _ _=>bD ⟨.pure,[.tmp 2],[(.t 0,a)],⟨[U],[]⟩⟩ (.z) True fx Tryz.func158 (trivial)
def xV(A:u)(r:u):Bool:=((A:u).toList==(r:u).toList)
def amb:bq:=⟨[.g [al,a],.r [al]],λA _ r=>⟨⟨none,.bool (xV A r)⟩⟩⟩
theorem axk:bx 189 amb:=bA Tryz.func189
 λA _ (g:Int) r=>bD ⟨.pure,[.tmp 3],[(.t 0,K)],⟨[U],[]⟩⟩ (.z) True fx Tryz.func189 (trivial)
def Bn(A:G bG)(g:u):Nat->Int->Bool×Int
 |0,_=>default
 |k+1,e=>(cond (decide (e<(A.n:Int))) (cond (xV (A.at' (toNat e)).q g) (true,e) (Bn A g k (i64 (e+1)))) (false,default))
def Bo:Bool×Int:=Bn A g ((toNat ((A.n:Int)-0))+1) 0
def Tb:Bool:=(cond (Bo A g).1 false true)
def KM:Int:=(cond (Tb A g) (-1) (Bo A g).2)
def al2:bq:=⟨[.v (.ab c3),.fn 189 [[al]]],λA g=>⟨⟨none,b (KM A g)⟩⟩⟩
theorem axb:bx 185 al2:=bA Tryz.func185
 λA j _ g=>bD ⟨.pure,[.tmp 4],[(.t 0,a)],⟨[U],[]⟩⟩ (.ae (.j ⟨16,[],[],[],.f⟩ (.ae (.cX ⟨403,[],[],[(.t 8,a)],some 0,true,16,[],[],λk (s:Int)=>Bn A g k s,.f,λ(s:Int)=>(0<=s/\s<=(A.n:Int)),λ(s:Int)=>(toNat ((A.n:Int)-s)),none⟩ .z)) .z)) (((0<=(0:Int)/\(0:Int)<=(A.n:Int)))/\(∀(e:Int),let c:=decide (e<(A.n:Int));let b:=i64 (e+1);(0<=e/\e<=(A.n:Int))->((c=true->(0<=e/\e<(A.n:Int)))/\(c=true->((xV (A.at' (toNat e)).q g)=false->((0<=b/\b<=(A.n:Int))/\(toNat ((A.n:Int)-b))<(toNat ((A.n:Int)-e)))))))) (ct (aJ axk a2)) Tryz.func185 (⟨Ω,(λe i=>⟨(λd=>(by have:=an d;omega)),(λf=>(λh=>(by have:=an f;have:=E (e+1);omega)))⟩)⟩)
def jV:Int:=(KM A g)
def alp:bq:=⟨[.v (.ab c3),.v al],λA g=>⟨⟨none,b (jV A g)⟩⟩⟩
theorem agk:bx 171 alp:=bA Tryz.func171
 λA _ _ g _=>bD ⟨.pure,[.tmp 4],[(.t 0,a)],⟨[U],[]⟩⟩ (.ae (.s (.h5 3 0 .z) .z)) True (ct (aJ axb a2)) Tryz.func171 (trivial)
def tD(A:Int):Bool:=(cond (decide (A<1)) true (decide (A>6)))
def aeJ(A:Int)(g:u):u:=(cond (A==1) ⟨#[]⟩ g)
def aeK(A:Int)(r:Int):Int:=(cond (A==1) r (cond (A==2) 0 r))
def tE(A:Int)(h:G bt):G bt:=(cond (A==1) h (cond (A==2) h (cond (A==3) (B:G bt) h)))
def tF(A:Int)(o:G u):G u:=(cond (A==1) o (cond (A==2) o (cond (A==3) o (cond (A==6) o (B:G u)))))
def tG(A:Int)(c:G bG):G bG:=(cond (A==1) c (cond (A==2) c (cond (A==3) c (cond (A==6) (B:G bG) c))))
def m0(A:Int)(g:u)(r:Int)(h:G bt)(o:G u)(c:G bG):Bool:=(cond (!(((aeJ A g):u).toList==(⟨#[]⟩:u).toList)) true (cond ((aeK A r)!=0) true (decide ((km (tE A h) (tF A o) (tG A c))>0))))
def o_(A:Int)(h:G bt)(o:G u)(c:G bG):Bool:=(cond (decide (A>=3)) (cond (decide ((km h o c)<1)) true (decide ((km h o c)>20))) false)
def rL:Bool:=(cond (!(jz g)) true (EO o))
def rK:Bool:=(cond (!(jf r)) true (EY c))
def L1(A:Int)(h:G bt)(o:G u)(c:G bG):Bool:=(cond (EZ h) (cond (E2 c) (cond (A !=5) true (E5 o)) false) false)
def L2(b:Bool)(a:Int):Bool:=(cond b (decide ((jV (G.part c 0 a) (c.at' (toNat a)).q)<0)) false)
def yK(c:G bG):Nat->Bool->Int->Bool
 |0,_,_=>default
 |k+1,b,a=>(cond (decide (a<(c.n:Int))) (yK c k (L2 c b a) (i64 (a+1))) b)
def L3(A:Int)(h:G bt)(o:G u)(c:G bG):Bool:=yK c ((toNat ((c.n:Int)-0))+1) (L1 A h o c) 0
def iT(A:Int)(g:u)(r:Int)(h:G bt)(o:G u)(c:G bG):Int:=(cond (tD A) 3 (cond (m0 A g r h o c) 8 (cond (o_ A h o c) 1 (cond (rL g o) 1 (cond (A_ h) 1 (cond (Ba c) 1 (cond (rK r c) 2 (cond (!(L3 A h o c)) 10 0))))))))
def anr:bq:=⟨[.g [a,al,a,.ab dd,.ab bV,.ab c3]],λA g r h o c=>⟨⟨none,b (iT A g r h o c)⟩⟩⟩
theorem agL:bx 147 anr:=bA Tryz.func147
 λ(A:Int) g x (r:Int) h y _ o z _ c B _=>bD ⟨.pure,[.tmp 2],[(.t 0,a)],⟨[U],[]⟩⟩ (.ae (.s (.j ⟨16390,[],[(.t 14,K)],[],.f⟩ .z .z) (.ae (.j ⟨14,[],[(.h 1 1,al),(.h 1 2,a),(.h 1 3,.ab dd),(.h 1 4,.ab bV),(.h 1 5,.ab c3)],[(.b .f .l),(.b .f (.b .f .l)),(.b .f (.b .f (.b .f .l))),.f,.f],.f⟩ .z (.s (.j ⟨8796093022214,[.b 1],[(.t 43,K)],[],.f⟩ .z .z) (.s (.j ⟨72057594037927942,[],[(.t 56,K)],[],.f⟩ .z .z) (.s (.j ⟨36893488147419103238,[],[(.t 65,K)],[],.f⟩ .z .z) (.ae (.ae (.s (.j ⟨1208925819614629174706182,[],[(.t 80,K)],[],.f⟩ .z .z) (.j ⟨22,[],[(.t 4,K)],[],.f⟩ .z (.j ⟨20,[],[],[],.f⟩ (.ae (.cX ⟨8873554201597605810476922437654,[],[],[(.t 4,K),(.t 102,a)],some 1,false,20,[.b 0],[(.t 4,K)],λk (s:Bool×Int)=>yK c k s.1 s.2,.f,λ(s:Bool×Int)=>(0<=s.2/\s.2<=(c.n:Int)),λ(s:Bool×Int)=>(toNat ((c.n:Int)-s.2)),none⟩ (.ae (.ae (.s (.ae (.j ⟨166801268929831109337140697872990326,[],[(.t 4,K),(.t 108,K),(.t 117,K)],[],.f⟩ .z .z)) .z))))) .z)))))))))))) ((tD A)=false->((m0 A g r h o c)=false->((o_ A h o c)=false->((rL g o)=false->((A_ h)=false->((Ba c)=false->((rK r c)=false->(((0<=(0:Int)/\(0:Int)<=(c.n:Int)))/\(∀(n:Bool) (b:Int),let p:=decide (b<(c.n:Int));let l:=i64 (b+1);(0<=b/\b<=(c.n:Int))->((p=true->((0<=b/\b<(c.n:Int))/\(n=true->(((0:Int)<=0)/\((0:Int)<=b)/\((b:Int)<=b)/\((b:Int)<=(c.n:Int))))))/\(p=true->((0<=l/\l<=(c.n:Int))/\(toNat ((c.n:Int)-l))<(toNat ((c.n:Int)-b)))))))))))))) (ct (aJ aww (aJ Hk (aJ M_ (aJ V0 (aJ awH (aJ awJ (aJ awK (aJ awN (aJ awO (aJ awP (aJ agk a2)))))))))))) Tryz.func147 ((λd=>(λe=>(λf=>(λi=>(λu=>(λv=>(λj=>⟨(by have:=d;simp [tD]at this;have:=e;simp [m0]at this;have:=f;simp [o_]at this;have:=i;simp [rL]at this;have:=j;simp [rK]at this;omega),(λn b w=>⟨(λm=>⟨(by have:=d;simp [tD]at this;have:=e;simp [m0]at this;have:=f;simp [o_]at this;have:=i;simp [rL]at this;have:=j;simp [rK]at this;have:=an m;omega),(λt=>(by have:=d;simp [tD]at this;have:=e;simp [m0]at this;have:=f;simp [o_]at this;have:=i;simp [rL]at this;have:=j;simp [rK]at this;have:=an m;omega))⟩),(λq=>(by have:=d;simp [tD]at this;have:=e;simp [m0]at this;have:=f;simp [o_]at this;have:=i;simp [rL]at this;have:=j;simp [rK]at this;have:=an q;first|omega|(have:=E (b+1);omega)))⟩)⟩))))))))
end
section
variable(A:Int)(g:G N)(bW:Int)
def vV:Bool:=(cond (decide (A<0)) true (cond (decide (A>1073741824)) true (decide ((g.n:Int)>12))))
def m3:Bool:=(cond (decide ((((g.at' (toNat bW)).q:u).size:Int)<1)) true (cond (decide ((((g.at' (toNat bW)).q:u).size:Int)>12)) true (cond ((iT (g.at' (toNat bW)).F (g.at' (toNat bW)).z (g.at' (toNat bW)).M (g.at' (toNat bW)).w (g.at' (toNat bW)).C (g.at' (toNat bW)).P)!=0) true (cond (decide (bW>0)) (!(Op.bytesLess (((g.at' (toNat (i64 (bW-1)))).q:u).toList) (((g.at' (toNat bW)).q:u).toList))) false))))
def ob:Bool:=(cond ((g.at' (toNat bW)).aw !=0) (cond (decide ((g.at' (toNat bW)).aw<=A)) true (decide ((g.at' (toNat bW)).aw>1073741824))) false)
def qg(A:Int)(g:G N):Nat->Int->Bool×Int
 |0,_=>default
 |k+1,bW=>(cond (decide (bW<(g.n:Int))) (cond (m3 g bW) (true,13) (cond (ob A g bW) (true,13) (qg A g k (i64 (bW+1))))) (false,default))
def GC:Bool×Int:=qg A g ((toNat ((g.n:Int)-0))+1) 0
def L4:Bool:=(cond (GC A g).1 false true)
def hU:Int:=(cond (vV A g) 13 (cond (L4 A g) 0 (GC A g).2))
def ant:bq:=⟨[.g [a,.ab bp]],λA g=>⟨⟨none,b (hU A g)⟩⟩⟩
def agN:bx 134 ant:=bA Tryz.func134
 λ(A:Int) g r _=>bD ⟨.pure,[.tmp 2],[(.t 0,a)],⟨[U],[]⟩⟩ (.ae (.s (.j ⟨262150,[],[(.t 18,K)],[],.f⟩ .z .z) (.j ⟨4,[],[],[],.f⟩ (.ae (.cX ⟨7340038,[],[],[(.t 22,a)],some 0,true,4,[.b 0],[],λk (s:Int)=>qg A g k s,.f,λ(s:Int)=>(0<=s/\s<=(g.n:Int)),λ(s:Int)=>(toNat ((g.n:Int)-s)),none⟩ (.ae (.ae (.s (.ae (.s (.j ⟨288243780743594014,[],[(.t 31,K),(.t 36,K),(.t 37,K),(.t 42,K),(.t 43,K),(.t 58,K)],[(.b .f .l),(.b .f .l),(.b .f (.b .f .l)),(.b .f (.b .f .l)),(.b .f (.b .f (.b .f .l))),.f],.f⟩ .z .z) (.j ⟨9453668120804585373726,[],[(.t 62,K),(.t 73,K)],[(.b .l .f),.f],.f⟩ .z .z))) .z))))) .z))) ((vV A g)=false->(((0<=(0:Int)/\(0:Int)<=(g.n:Int)))/\(∀(bW:Int),let h:=i64 (bW-1);let f:=decide (bW<(g.n:Int));let d:=i64 (bW+1);let b:=g.at' (toNat bW);(0<=bW/\bW<=(g.n:Int))->((f=true->((0<=bW/\bW<(g.n:Int))/\((decide (((b.q:u).size:Int)<1))=false->((decide (((b.q:u).size:Int)>12))=false->(((iT b.F b.z b.M b.w b.C b.P)!=0)=false->((decide (bW>0))=true->(0<=h/\h<(g.n:Int))))))))/\(f=true->((m3 g bW)=false->((ob A g bW)=false->((0<=d/\d<=(g.n:Int))/\(toNat ((g.n:Int)-d))<(toNat ((g.n:Int)-bW)))))))))) (ct (aJ agL a2)) Tryz.func134 ((λc=>⟨(by have:=c;simp [vV]at this;omega),(λbW q=>⟨(λe=>⟨(by have:=c;simp [vV]at this;have:=an e;omega),(λj=>(λl=>(λm=>(λn=>(by have:=c;simp [vV]at this;have:=an e;have:=hX j;have:=hX l;have:=bK m;have:=an n;first|omega|(have:=E (bW-1);omega))))))⟩),(λo=>(λp=>(λi=>(by have:=c;simp [vV]at this;have:=an o;have:=p;simp [m3]at this;have:=i;simp [ob]at this;first|omega|(have:=E (bW+1);omega)))))⟩)⟩))
end
section
variable(A:Int)(g:G N)(r:Int)(h:G ar)(bC:Int)
def tJ:Bool:=(cond ((hU A g)!=0) true (cond (decide (r<1)) true (cond (decide (r>1048577)) true (decide ((h.n:Int)>4)))))
def tL:Bool:=(cond (decide ((h.at' (toNat bC)).q<1)) true (cond (decide ((h.at' (toNat bC)).q>=r)) true (cond (decide (bC>0)) (decide ((h.at' (toNat (i64 (bC-1)))).q>=(h.at' (toNat bC)).q)) false)))
def tK:Bool:=(cond (decide ((h.at' (toNat bC)).F<0)) true (cond (decide ((h.at' (toNat bC)).F>1048576)) true (cond (decide ((h.at' (toNat bC)).z<0)) true (cond (decide ((h.at' (toNat bC)).z>A)) true ((rG (h.at' (toNat bC)).M (h.at' (toNat bC)).w (h.at' (toNat bC)).C (h.at' (toNat bC)).P)!=0)))))
def tI(A:Int)(r:Int)(h:G ar):Nat->Int->Bool×Int
 |0,_=>default
 |k+1,bC=>(cond (decide (bC<(h.n:Int))) (cond (tL r h bC) (true,13) (cond (tK A h bC) (true,13) (tI A r h k (i64 (bC+1))))) (false,default))
def Mf:Bool×Int:=tI A r h ((toNat ((h.n:Int)-0))+1) 0
def UF:Bool:=(cond (Mf A r h).1 false true)
def ed:Int:=(cond (tJ A g r h) 13 (cond (UF A r h) 0 (Mf A r h).2))
def anv:bq:=⟨[.g [a,.ab bp,a,.ab bZ]],λA g r h=>⟨⟨none,b (ed A g r h)⟩⟩⟩
theorem Nq:bx 107 anv:=bA Tryz.func107
 λ(A:Int) g t _ (r:Int) h u _=>bD ⟨.pure,[.tmp 2],[(.t 0,a)],⟨[U],[]⟩⟩ (.ae (.s (.j ⟨16777222,[],[(.t 24,K)],[],.f⟩ .z .z) (.j ⟨4,[],[],[],.f⟩ (.ae (.cX ⟨469762054,[],[],[(.t 28,a)],some 0,true,4,[.b 0],[],λk (s:Int)=>tI A r h k s,.f,λ(s:Int)=>(0<=s/\s<=(h.n:Int)),λ(s:Int)=>(toNat ((h.n:Int)-s)),none⟩ (.ae (.ae (.s (.ae (.s (.j ⟨288243707663089694,[],[(.t 36,K),(.t 42,K),(.t 43,K),(.t 58,K)],[(.b .f .l),(.b .f .l),(.b .f (.b .f .l)),.f],.f⟩ .z .z) (.j ⟨40506328802898258549538846,[],[(.t 62,K),(.t 66,K),(.t 67,K),(.t 71,K),(.t 72,K),(.t 79,K),(.t 80,K),(.t 85,K)],[(.b .f .l),(.b .f .l),(.b .f (.b .f .l)),(.b .f (.b .f .l)),(.b .f (.b .f (.b .f .l))),(.b .f (.b .f (.b .f .l))),.f,.f],.f⟩ .z .z))) .z))))) .z))) ((tJ A g r h)=false->(((0<=(0:Int)/\(0:Int)<=(h.n:Int)))/\(∀(bC:Int),let i:=h.at' (toNat bC);let f:=i64 (bC-1);let e:=decide (bC<(h.n:Int));let c:=i64 (bC+1);(0<=bC/\bC<=(h.n:Int))->((e=true->((0<=bC/\bC<(h.n:Int))/\((decide (i.q<1))=false->((decide (i.q>=r))=false->((decide (bC>0))=true->(0<=f/\f<(h.n:Int)))))))/\(e=true->((tL r h bC)=false->((tK A h bC)=false->((0<=c/\c<=(h.n:Int))/\(toNat ((h.n:Int)-c))<(toNat ((h.n:Int)-bC)))))))))) (ct (aJ ayh (aJ agN a2))) Tryz.func107 ((λb=>⟨(by have:=b;simp [tJ]at this;omega),(λbC q=>⟨(λd=>⟨(by have:=b;simp [tJ]at this;have:=an d;omega),(λj=>(λl=>(λm=>(by have:=b;simp [tJ]at this;have:=an d;have:=hX j;have:=hX l;have:=an m;first|omega|(have:=E (bC-1);omega)))))⟩),(λn=>(λo=>(λp=>(by have:=b;simp [tJ]at this;have:=an n;have:=o;simp [tL]at this;have:=p;simp [tK]at this;first|omega|(have:=E (bC+1);omega)))))⟩)⟩))
end
section
variable(A:Int)(g:Int)
def KB:Bool:=(cond (decide (A>=1)) (decide (A<=1048576)) false)
def n6:Bool:=(KB A)
def als:bq:=⟨[.v a],λA=>⟨⟨none,.bool (n6 A)⟩⟩⟩
def agm:bx 114 als:=bA Tryz.func114
 λ(A:Int)=>bD ⟨.pure,[.tmp 2],[(.t 0,K)],⟨[U],[]⟩⟩ (.ae (.j ⟨4,[],[(.t 2,K)],[],.f⟩ .z .z)) True fx Tryz.func114 (trivial)
def GD:Bool:=(cond (!(n6 A)) true (!(n6 g)))
def mm(r:Int)(h:G N)(o:Int)(c:G ar):Int:=(cond (GD A g) 2 (ed r h o c))
def anw:bq:=⟨[.g [a,a,a,.ab bp,a,.ab bZ]],λA g r h o c=>⟨⟨none,b (mm A g r h o c)⟩⟩⟩
def agP:bx 93 anw:=bA Tryz.func93
 λ(A:Int) (g:Int) (r:Int) h _ _ (o:Int) c _ _=>bD ⟨.pure,[.tmp 2],[(.t 0,a)],⟨[U],[]⟩⟩ (.ae (.s (.j ⟨4102,[],[(.t 12,K)],[],.f⟩ .z .z) .z)) True (ct (aJ Nq (aJ agm a2))) Tryz.func93 (trivial)
end
section
variable(A:Int)(g:Int)(r:Int)(h:G N)(o:Int)(c:G ar)
def arj:Bool:=(cond (A==0) (cond (g==0) (cond (o==0) (cond ((c.n:Int)==0) (cond (r==0) ((h.n:Int)==0) false) false) false) false) false)
def Fo:Bool:=(arj A g r h o c)
def alM:bq:=⟨[.g [a,a,a,.ab bp,a,.ab bZ]],λA g r h o c=>⟨⟨none,.bool (Fo A g r h o c)⟩⟩⟩
theorem aw0:bx 117 alM:=bA Tryz.func117
 λ(A:Int) (g:Int) (r:Int) h _ _ (o:Int) c _ _=>bD ⟨.pure,[.tmp 2],[(.t 0,K)],⟨[U],[]⟩⟩ (.ae (.ae (.j ⟨4,[.b 0,.b 1],[(.t 2,K)],[],.f⟩ .z .z))) True fx Tryz.func117 (trivial)
def UG:Bool:=(cond (decide (A<1)) true (decide (A>3)))
def UH(h:Int)(o:Int)(c:Int)(v:Bool)(y:Int)(p:Int)(x:Int)(ai:u)(bn:u)(bY:u)(b9:Int)(ch:Int)(dj:Int)(c8:Int)(c4:G N)(c9:Int)(c5:G ar):Bool:=(cond (A !=1) (cond (g !=0) true (cond (r !=0) true (cond (A !=2) (cond (h !=0) true (cond (!((o==0)&&((c==0)&&((v==false)&&((y==0)&&((p==0)&&((x==0)&&(((ai:u).toList==(⟨#[]⟩:u).toList)&&(((bn:u).toList==(⟨#[]⟩:u).toList)&&(((bY:u).toList==(⟨#[]⟩:u).toList)&&((b9==0)&&true))))))))))) true (cond (A !=3) (!(Fo ch dj c8 c4 c9 c5)) false))) (cond (A !=3) (!(Fo ch dj c8 c4 c9 c5)) false)))) (cond (A !=2) (cond (h !=0) true (cond (!((o==0)&&((c==0)&&((v==false)&&((y==0)&&((p==0)&&((x==0)&&(((ai:u).toList==(⟨#[]⟩:u).toList)&&(((bn:u).toList==(⟨#[]⟩:u).toList)&&(((bY:u).toList==(⟨#[]⟩:u).toList)&&((b9==0)&&true))))))))))) true (cond (A !=3) (!(Fo ch dj c8 c4 c9 c5)) false))) (cond (A !=3) (!(Fo ch dj c8 c4 c9 c5)) false)))
def Cd:Bool:=(cond (!(n6 g)) true (cond (decide (r<(-1))) true (decide (r>=3))))
def fA(h:Int)(o:Int)(c:Int)(v:Bool)(y:Int)(p:Int)(x:Int)(ai:u)(bn:u)(bY:u)(b9:Int)(ch:Int)(dj:Int)(c8:Int)(c4:G N)(c9:Int)(c5:G ar):Int:=(cond (UG A) 3 (cond (UH A g r h o c v y p x ai bn bY b9 ch dj c8 c4 c9 c5) 8 (cond (A==1) (cond (Cd g r) 2 0) (cond (A==2) (cond (!(n6 h)) 2 (fc o c v y p x ai bn bY b9)) (mm ch dj c8 c4 c9 c5)))))
def anA:bq:=⟨[.g [a,a,a,a,a,a,K,a,a,a,al,al,al,a,a,a,a,.ab bp,a,.ab bZ]],λA g r h o c v y p x ai bn bY b9 ch dj c8 c4 c9 c5=>⟨⟨none,b (fA A g r h o c v y p x ai bn bY b9 ch dj c8 c4 c9 c5)⟩⟩⟩
theorem Wa:bx 98 anA:=bA Tryz.func98
 λ(A:Int) (g:Int) (r:Int) (h:Int) (o:Int) (c:Int) v (y:Int) (p:Int) (x:Int) ai _ bn _ bY _ (b9:Int) (ch:Int) (dj:Int) (c8:Int) c4 _ _ (c9:Int) c5 _ _=>bD ⟨.pure,[.tmp 2],[(.t 0,a)],⟨[U],[]⟩⟩ (.ae (.s (.j ⟨2054,[],[(.t 11,K)],[],.f⟩ .z .z) (.ae (.s (.j ⟨4503599627370502,[.b 1],[(.t 52,K)],[],.f⟩ .z .z) (.s (.ae (.ae (.s (.s (.j ⟨1180591620717411303430,[],[(.t 70,K)],[],.f⟩ .z .z) .z) .z))) .z))))) True (ct (aJ Nd (aJ agP (aJ agm (aJ aw0 a2))))) Tryz.func98 (trivial)
end
section
variable(A:Int)(g:Int)(r:G R)(h:Int)(o:Int)
def o8:Bool:=(cond (decide (A<0)) true (cond (decide (g<0)) true (cond (decide (g>1048576)) true (cond (!((A==0)==(g==0))) true (cond (decide ((r.n:Int)>200)) true (decide (A>(i64 (1048576- (r.n:Int))))))))))
def vS(b:Int)(c:Int)(a:Int):Bool:=(cond ((fc (r.at' (toNat a)).q (r.at' (toNat a)).F (r.at' (toNat a)).z (r.at' (toNat a)).M (r.at' (toNat a)).w (r.at' (toNat a)).C (r.at' (toNat a)).P (r.at' (toNat a)).aw (r.at' (toNat a)).f (r.at' (toNat a)).aD)!=0) true (cond (decide ((r.at' (toNat a)).q<b)) true (decide ((r.at' (toNat a)).F<c))))
def qc(r:G R):Nat->Int->Int->Int->Bool×Int
 |0,_,_,_=>default
 |k+1,b,c,a=>(cond (decide (a<(r.n:Int))) (cond (vS r b c a) (true,13) (qc r k (r.at' (toNat a)).q (r.at' (toNat a)).F (i64 (a+1)))) (false,default))
def B7:Bool×Int:=qc r ((toNat ((r.n:Int)-0))+1) g 0 0
def LY:Bool:=(cond (B7 g r).1 false true)
def cE:Int:=(cond (o8 A g r) 13 (cond (LY g r) 0 (B7 g r).2))
def anj:bq:=⟨[.g [a,a,.ab dk]],λA g r=>⟨⟨none,b (cE A g r)⟩⟩⟩
theorem wv:bx 88 anj:=bA Tryz.func88
 λ(A:Int) (g:Int) r n _=>bD ⟨.pure,[.tmp 2],[(.t 0,a)],⟨[U],[]⟩⟩ (.ae (.s (.j ⟨8796093022214,[],[(.t 43,K)],[],.f⟩ .z .z) (.ae (.j ⟨4,[],[],[],.f⟩ (.ae (.cX ⟨985162418487324,[.b 0],[],[(.t 3,a),(.t 4,a),(.t 49,a)],some 0,true,4,[],[],λk (s:Int×Int×Int)=>qc r k s.1 s.2.1 s.2.2,.f,λ(s:Int×Int×Int)=>(0<=s.2.2/\s.2.2<=(r.n:Int)),λ(s:Int×Int×Int)=>(toNat ((r.n:Int)-s.2.2)),none⟩ (.ae (.ae (.s (.ae (.s (.j ⟨154635456067904995420,[],[(.t 56,K),(.t 61,K),(.t 62,K),(.t 67,K)],[(.b .f .l),(.b .f .l),.f,.f],.f⟩ .z .z) .z)) .z))))) .z)))) ((o8 A g r)=false->(((0<=(0:Int)/\(0:Int)<=(r.n:Int)))/\(∀(e:Int) (f:Int) (b:Int),let h:=decide (b<(r.n:Int));let d:=i64 (b+1);(0<=b/\b<=(r.n:Int))->((h=true->(0<=b/\b<(r.n:Int)))/\(h=true->((vS r e f b)=false->((0<=d/\d<=(r.n:Int))/\(toNat ((r.n:Int)-d))<(toNat ((r.n:Int)-b))))))))) (ct (aJ Nd a2)) Tryz.func88 ((λc=>⟨(by have:=c;simp [o8]at this;omega),(λe f b m=>⟨(λi=>(by have:=c;simp [o8]at this;have:=an i;omega)),(λj=>(λl=>(by have:=c;simp [o8]at this;have:=an j;have:=l;simp [vS]at this;first|omega|(have:=E (b+1);omega))))⟩)⟩))
theorem fb(A g:Int)(r:G R)(h:cE A g r=0):(0<=A/\A<=1048576)/\(0<=g/\g<=1048576)/\r.n<=200/\A+r.n<=1048576:=by
 unfold cE at h
 cases a:o8 A g r with
 |true=>rw[a]at h;simp at h
 |false=>
  simp [o8]at a;have:=E (1048576- (r.n:Int));omega
def pU:Int:=(cond (decide ((r.n:Int)>0)) (i64 (A+(r.n:Int))) A)
def EW:Int:=(cond (decide ((r.n:Int)>0)) (r.at' (toNat (i64 ((r.n:Int)-1)))).q g)
def ak7:bq:=⟨[.g [a,a,.ab dk]],λA g r=>⟨⟨none,.dp [b (pU A r),b (EW g r)]⟩⟩⟩
theorem agh:bx 91 ak7:=bA Tryz.func91
 λ(A:Int) (g:Int) r d _=>bD ⟨.pure,[.tmp 2,.tmp 3],[(.t 0,a),(.t 1,a)],⟨[U,U],[]⟩⟩ (.z) (let b:=i64 ((r.n:Int)-1);(decide ((r.n:Int)>0))=true->(0<=b/\b<(r.n:Int))) fx Tryz.func91 ((λc=>(by have:=an c;have:=E ((r.n:Int)-1);omega)))
def ks:Int:=(cond ((cE A g r)!=0) 0 (pU A r))
def yI:Int:=(cond ((cE A g r)!=0) 0 (EW g r))
def aso:Int:=(cond ((cE A g r)!=0) (cE A g r) 0)
def anl:bq:=⟨[.g [a,a,.ab dk]],λA g r=>⟨⟨none,.dp [b (ks A g r),b (yI A g r),b (aso A g r)]⟩⟩⟩
theorem agJ:bx 74 anl:=bA Tryz.func74
 λ(A:Int) (g:Int) r _ _=>bD ⟨.pure,[.tmp 2,.tmp 3,.tmp 4],[(.t 0,a),(.t 1,a),(.t 2,a)],⟨[U,U,U],[]⟩⟩ (.z) True (ct (aJ wv (aJ agh a2))) Tryz.func74 (trivial)
def asq:Bool:=(cond (decide (o>(EW g r))) true (cond (o==(EW g r)) (decide (h>=(pU A r))) false))
def rI:Bool:=(cond ((cE A g r)!=0) false (asq A g r h o))
def asp:Int:=(cond ((cE A g r)!=0) (cE A g r) 0)
def anm:bq:=⟨[.g [a,a,.ab dk],.v a,.v a],λA g r h o=>⟨⟨none,.dp [.bool (rI A g r h o),b (asp A g r)]⟩⟩⟩
theorem V9:bx 75 anm:=bA Tryz.func75
 λ(A:Int) (g:Int) r _ _ (h:Int) (o:Int)=>bD ⟨.pure,[.tmp 6,.tmp 7],[(.t 0,K),(.t 1,a)],⟨[U,U],[]⟩⟩ (.ae (.ae (.ae (.j ⟨192,[.b 0],[(.t 6,K)],[],.f⟩ .z .z)))) True (ct (aJ wv (aJ agh a2))) Tryz.func75 (trivial)
def h7:Int:=(cond (decide (h<A)) 0 (cond (h==A) g (cond (decide ((i64 (h-A))>(r.n:Int))) 0 (r.at' (toNat (i64 ((i64 (h-A))-1)))).q)))
def gx:Int:=(cond (decide (h<A)) 11 (cond (h==A) 0 (cond (decide ((i64 (h-A))>(r.n:Int))) 5 0)))
def ak8:bq:=⟨[.g [a,a,.ab dk],.v a],λ(A:Int) (g:Int) r (h:Int)=>⟨⟨some (0<=A/\A<=1048576/\h<=9223372036854775807),.dp [b (h7 A g r h),b (gx A r h)]⟩⟩⟩
theorem Na:bx 89 ak8:=bA Tryz.func89
 λ(A:Int) (g:Int) r m _ (h:Int) i=>bD ⟨.pure,[.tmp 4,.tmp 5],[(.t 0,a),(.t 1,a)],⟨[U,U],[]⟩⟩ (.z) (let b:=i64 (h-A);let c:=i64 (b-1);(decide (h<A))=false->((h==A)=false->((decide (b>(r.n:Int)))=false->(0<=c/\c<(r.n:Int))))) fx Tryz.func89 (have⟨j,k,l⟩:=i;(λd=>(λe=>(λf=>(by have:=hX d;have:=dc e;have:=hX f;have:=E (h-A);have:=E ((i64 (h-A))-1);omega)))))
theorem As(A:Int)(r:G R)(h:Int):gx A r h=0/\(0<=A/\A<=1048576)/\r.n<=549755813888/\h<=9223372036854775807->A<=h/\h<=A+(r.n:Int):=λ⟨d,e,f,g⟩=>by
 simp only[gx]at d
 by_cases a:h<A
 .simp [a]at d
 .rw[E (h-A)]at d
  by_cases b:h=A
  .omega
  .by_cases c:h-A>(r.n:Int)
   .rw[fl.2 b]at d;simp [a,c]at d
   .omega
def yJ:Bool:=(cond (decide (h<0)) true (decide (h>1048576)))
def hS:Int:=(cond ((cE A g r)!=0) 0 (cond (yJ h) 0 (h7 A g r h)))
def tC:Int:=(cond ((cE A g r)!=0) (cE A g r) (cond (yJ h) 2 (gx A r h)))
def ann:bq:=⟨[.g [a,a,.ab dk],.v a],λA g r h=>⟨⟨none,.dp [b (hS A g r h),b (tC A g r h)]⟩⟩⟩
theorem Nh:bx 80 ann:=bA Tryz.func80
 λ(A:Int) (g:Int) r d _ (h:Int)=>bD ⟨.pure,[.tmp 4,.tmp 5],[(.t 0,a),(.t 1,a)],⟨[U,U],[]⟩⟩ (.ae (.ae (.s (.j ⟨131126,[],[(.t 17,K)],[],.f⟩ .z .z) .z))) (((cE A g r)!=0)=false->((yJ h)=false->(0<=A/\A<=1048576/\h<=9223372036854775807))) (ct (aJ wv (aJ Na a2))) Tryz.func80 ((λb=>(λc=>(by have:=fb _ _ _ (bK b);have:=c;simp [yJ]at this;omega))))
end
section
variable(A:Int)(g:Int)(r:G R)(h:Int)
def qe:Int:=(cond ((cE A g r)!=0) 0 (cond ((gx A r h)!=0) 0 h))
def B_:Int:=(cond ((cE A g r)!=0) 0 (cond ((gx A r h)!=0) 0 (h7 A g r h)))
def rJ:G R:=(cond ((cE A g r)!=0) (B:G R) (cond ((gx A r h)!=0) (B:G R) (G.part r (i64 (h-A)) (r.n:Int))))
def ass:Int:=(cond ((cE A g r)!=0) (cE A g r) (cond ((gx A r h)!=0) (gx A r h) 0))
def anp:bq:=⟨[.g [a,a,.ab dk],.v a],λ(A:Int) (g:Int) r (h:Int)=>⟨⟨some (h<=9223372036854775807),.dp [.agg [b (qe A g r h),b (B_ A g r h),aP 10 eo (rJ A g r h)],b (ass A g r h)]⟩⟩⟩
theorem agK:bx 86 anp:=bA Tryz.func86
 λ(A:Int) (g:Int) r f _ (h:Int) e=>bD ⟨.pure,[.cell 4 43,.tmp 5],[(.c 0 0,a),(.c 0 1,a),(.c 0 2,.ab dk),(.t 1,a)],⟨[.agg (us 3 []),U],[]⟩⟩ (.z) (let c:=i64 (h-A);((cE A g r)!=0)=false->((0<=A/\A<=1048576/\h<=9223372036854775807)/\(((gx A r h)!=0)=false->(((0:Int)<=c)/\((c:Int)<=(r.n:Int))/\(((r.n:Int):Int)<=(r.n:Int))/\(((r.n:Int):Int)<=(r.n:Int)))))) (ct (aJ wv (aJ Na (aJ Cz a2)))) Tryz.func86 ((λb=>⟨(by have:=fb _ _ _ (bK b);omega),(λd=>(by have:=fb _ _ _ (bK b);have:=bK d;have:=As A r h;have:=E (h-A);omega))⟩))
end
section
variable(A:Int)(g:Int)(r:G R)(h:Int)(o:Int)(c:Int)(v:G N)(y:Int)(p:G ar)
def oX:Bool:=(cond ((tC A g r h)==0) ((hS A g r h)==o) false)
def oV:Int:=(cond (oX A g r h o) (qe A g r h) h)
def td:Int:=(cond (oX A g r h o) (B_ A g r h) o)
def oW:G R:=(cond (oX A g r h o) (rJ A g r h) (B:G R))
def alN:bq:=⟨[.g [a,a,.ab dk],.g [a,a,a,.ab bp,a,.ab bZ]],λ(A:Int) (g:Int) r (h:Int) (o:Int) _ _ _ _=>⟨⟨some (h<=9223372036854775807),.agg [b (oV A g r h o),b (td A g r h o),aP 10 eo (oW A g r h o)]⟩⟩⟩
theorem agq:bx 94 alN:=bA Tryz.func94
 λ(A:Int) (g:Int) r e _ (h:Int) (o:Int) (c:Int) v f _ (y:Int) p i _ d=>bD ⟨.pure,[.cell 4 43],[(.c 0 0,a),(.c 0 1,a),(.c 0 2,.ab dk)],⟨[.agg (us 3 [])],[]⟩⟩ (.ae (.s (.ae (.j ⟨8388636,[],[(.t 23,K)],[],.f⟩ .z .z)) .z)) ((oX A g r h o)=true->(h<=9223372036854775807)) (ct (aJ Nh (aJ agK a2))) Tryz.func94 ((λb=>Ω))
def vX:Int:=(cond ((cE A g r)!=0) 0 (cond ((mm h o c v y p)!=0) 0 (oV A g r h o)))
def UI:Int:=(cond ((cE A g r)!=0) 0 (cond ((mm h o c v y p)!=0) 0 (td A g r h o)))
def vY:G R:=(cond ((cE A g r)!=0) (B:G R) (cond ((mm h o c v y p)!=0) (B:G R) (oW A g r h o)))
def asw:Int:=(cond ((cE A g r)!=0) (cE A g r) (cond ((mm h o c v y p)!=0) (mm h o c v y p) 0))
def anB:bq:=⟨[.g [a,a,.ab dk],.g [a,a,a,.ab bp,a,.ab bZ]],λ(A:Int) (g:Int) r (h:Int) (o:Int) (c:Int) v (y:Int) p=>⟨⟨some (h<=9223372036854775807),.dp [.agg [b (vX A g r h o c v y p),b (UI A g r h o c v y p),aP 10 eo (vY A g r h o c v y p)],b (asw A g r h o c v y p)]⟩⟩⟩
theorem aym:bx 78 anB:=bA Tryz.func78
 λ(A:Int) (g:Int) r f _ (h:Int) (o:Int) (c:Int) v i _ (y:Int) p j _ e=>bD ⟨.pure,[.cell 4 43,.tmp 5],[(.c 0 0,a),(.c 0 1,a),(.c 0 2,.ab dk),(.t 1,a)],⟨[.agg (us 3 []),U],[]⟩⟩ (.z) (((cE A g r)!=0)=false->(((mm h o c v y p)!=0)=false->(h<=9223372036854775807))) (ct (aJ wv (aJ agP (aJ agq a2)))) Tryz.func78 ((λb=>(λd=>Ω)))
end
section
variable(A:Int)(g:G Int)
def cH:G Int:=(G.app g (G.lit ([(u8 A)]:List Int)))
def alv:cf:=⟨[.p 0,.v a],[(.h 1 0,.ad bo)],[[.own 1 0],[U]],λ(A:Int) g=>⟨⟨some (g.n<=400000000000),[],[[.own 1 ((cH A g)).n],[(aH.ad bo).av (cH A g)]]⟩⟩⟩
def CA:dV 119 alv:=ea Tryz.func119
 λ(A:Int) g b a=>dU ⟨.heap,[],[(.h 1 0,.ad bo)],⟨[],[[.own 1 0],[U]]⟩⟩ (.z) (g.n+1<=549755813888) (b1 2 a2 b0) Tryz.func119 (Ω)
def iD(A:Int)(g:G Int):(cH A g).n=g.n+1:=rfl
def SR(A:Int):Nat->Int->G Int->G Int
 |0,_,_=>default
 |k+1,e,l=>(cond (decide (e>=0)) (SR A k (i64 (e-8)) (G.app l (G.lit ([(u8 ((u64 (i64 (A+4611686018427387904)))/2^(toNat e)))]:List Int)))) l)
def acR:G Int:=SR A ((toNat (56+8))+1) 56 g
def bu:G Int:=(acR A g)
def alu:cf:=⟨[.p 0,.v a],[(.h 1 0,.ad bo)],[[.own 1 0],[U]],λ(A:Int) g=>⟨⟨some (g.n<=400000000000),[],[[.own 1 ((bu A g)).n],[(aH.ad bo).av (bu A g)]]⟩⟩⟩
def Hl:dV 118 alu:=ea Tryz.func118
 λ(A:Int) g i h=>dU ⟨.heap,[],[(.h 1 0,.ad bo)],⟨[],[[.own 1 0],[U]]⟩⟩ (.ae (.ae (.cX ⟨49,[],[],[(.t 5,a),(.h 1 0,.ad bo)],some 0,false,0,[],[(.h 1 0,.ad bo)],λk (s:Int×G Int)=>SR A k s.1 s.2,.f,λ(s:Int×G Int)=>(s.1%8=0/\ -8<=s.1/\s.1<=56/\(s.2.n:Int)*8=(g.n:Int)*8+56-s.1),λ(s:Int×G Int)=>(toNat (s.1+8)),none⟩ .z))) ((((56:Int)%8=0/\ -8<=(56:Int)/\(56:Int)<=56/\(g.n:Int)*8=(g.n:Int)*8+56- (56:Int)))/\(∀(e:Int) (l:G Int),let b:=i64 (e-8);(e%8=0/\ -8<=e/\e<=56/\(l.n:Int)*8=(g.n:Int)*8+56-e)->(((decide (e>=0))=true->(((0:Int)<=e/\(e:Int)<=64)/\(l.n+1<=549755813888)))/\((decide (e>=0))=true->((b%8=0/\ -8<=b/\b<=56/\(((l.n+1):Nat):Int)*8=(g.n:Int)*8+56-b)/\(toNat (b+8))<(toNat (e+8))))))) (b1 2 a2 b0) Tryz.func118 (⟨Ω,(λe l f=>⟨(λc=>⟨(by have:=an c;omega),Ω⟩),(λd=>(by have:=an d;have:=E (e-8);omega))⟩)⟩)
def eS(A:Int)(g:G Int):(bu A g).n=g.n+8:=by kernel_rfl
def c7(A:u)(g:G Int):G Int:=(G.app (cH ((A:u).size:Int) g) (G.ofStr A))
def alw:cf:=⟨[.p 0,.v al],[(.h 1 0,.ad bo)],[[.own 1 0],[U]],λA g=>⟨⟨some (g.n<=300000000000/\A.size<=10000000000),[],[[.own 1 ((c7 A g)).n],[(aH.ad bo).av (c7 A g)]]⟩⟩⟩
def Nc:dV 120 alw:=ea Tryz.func120
 λA d g e a=>dU ⟨.heap,[],[(.h 1 0,.ad bo)],⟨[],[[.own 1 0],[U]]⟩⟩ (.z) ((g.n<=400000000000)/\((cH ((A:u).size:Int) g).n+(A:u).size<=549755813888)) (b1 2 a2 (ay CA b0)) Tryz.func120 (have⟨b,c⟩:=a;⟨Ω,(by have:=iD ((A:u).size:Int) g;omega)⟩)
def iV(A:u)(g:G Int):(c7 A g).n=g.n+1+A.size:=rfl
def Fz(g:u)(r:u)(h:u)(o:Int)(c:G Int):G Int:=(bu o (c7 h (c7 r (c7 g (cH A c)))))
def ams:cf:=⟨[.p 0,.g [a,al,al,al,a]],[(.h 1 0,.ad bo)],[[.own 1 0],[U]],λ(A:Int) g r h (o:Int) c=>let b:=Fz A g r h o c;⟨⟨some (c.n<=200000000000/\g.size<=10000000000/\r.size<=10000000000/\h.size<=10000000000),[],[[.own 1 (b).n],[(aH.ad bo).av b]]⟩⟩⟩
def axw:dV 183 ams:=ea Tryz.func183
 λ(A:Int) g j r k h l (o:Int) c m b=>dU ⟨.heap,[],[(.h 1 0,.ad bo)],⟨[],[[.own 1 0],[U]]⟩⟩ (.z) (let a:=c7 g (cH A c);(c.n<=400000000000)/\(((cH A c).n<=300000000000/\g.size<=10000000000)/\((a.n<=300000000000/\r.size<=10000000000)/\(((c7 r a).n<=300000000000/\h.size<=10000000000)/\((c7 h (c7 r a)).n<=400000000000))))) (b1 2 a2 (ay Hl (ay CA (ay Nc b0)))) Tryz.func183 (have⟨d,e,f,i⟩:=b;⟨Ω,⟨(by have:=iD A c;omega),⟨(by have:=iV g (cH A c);have:=iD A c;omega),⟨(by have:=iV r (c7 g (cH A c));have:=iV g (cH A c);have:=iD A c;omega),(by have:=iV h (c7 r (c7 g (cH A c)));have:=iV r (c7 g (cH A c));have:=iV g (cH A c);have:=iD A c;omega)⟩⟩⟩⟩)
def Fp(g:Int)(r:Int)(h:u)(o:u)(c:u)(v:Int)(y:G Int):G Int:=(cond (decide (A>0)) (Fz r h o c v (bu g (bu A y))) (bu A y))
def alY:cf:=⟨[.p 0,.g [a,a,a,al,al,al,a]],[(.h 1 0,.ad bo)],[[.own 1 0],[U]],λ(A:Int) (g:Int) (r:Int) h o c (v:Int) y=>let b:=Fp A g r h o c v y;⟨⟨some (y.n<=150000000000/\h.size<=10000000000/\o.size<=10000000000/\c.size<=10000000000),[],[[.own 1 (b).n],[(aH.ad bo).av b]]⟩⟩⟩
def aw8:dV 157 alY:=ea Tryz.func157
 λ(A:Int) (g:Int) (r:Int) h j o k c l (v:Int) y m a=>dU ⟨.heap,[],[(.h 1 0,.ad bo)],⟨[],[[.own 1 0],[U]]⟩⟩ (.z) ((y.n<=400000000000)/\((decide (A>0))=true->(((bu A y).n<=400000000000)/\((bu g (bu A y)).n<=200000000000/\h.size<=10000000000/\o.size<=10000000000/\c.size<=10000000000)))) (b1 2 a2 (ay Hl (ay axw b0))) Tryz.func157 (have⟨d,e,f,i⟩:=a;⟨Ω,(λb=>⟨(by have:=eS A y;omega),(by have:=eS g (bu A y);have:=eS A y;omega)⟩)⟩)
def EX(g:Int)(r:Bool)(h:Int)(o:Int)(c:Int)(v:u)(y:u)(p:u)(x:Int)(ai:G Int):G Int:=(cond r (cH 1 (bu g (bu A ai))) (Fp h o c v y p x (cH 0 (bu g (bu A ai)))))
def ak9:cf:=⟨[.p 0,.g [a,a,K,a,a,a,al,al,al,a]],[(.h 1 0,.ad bo)],[[.own 1 0],[U]],λ(A:Int) (g:Int) r (h:Int) (o:Int) (c:Int) v y p (x:Int) ai=>let b:=EX A g r h o c v y p x ai;⟨⟨some (ai.n<=100000000000/\v.size<=10000000000/\y.size<=10000000000/\p.size<=10000000000),[],[[.own 1 (b).n],[(aH.ad bo).av b]]⟩⟩⟩
def awF:dV 146 ak9:=ea Tryz.func146
 λ(A:Int) (g:Int) r (h:Int) (o:Int) (c:Int) v m y n p q (x:Int) ai l b=>dU ⟨.heap,[],[(.h 1 0,.ad bo)],⟨[],[[.own 1 0],[U]]⟩⟩ (.z) (let a:=bu g (bu A ai);(ai.n<=400000000000)/\(((bu A ai).n<=400000000000)/\((r=true->(a.n<=400000000000))/\(r=false->((a.n<=400000000000)/\((cH 0 a).n<=150000000000/\v.size<=10000000000/\y.size<=10000000000/\p.size<=10000000000)))))) (b1 2 a2 (ay Hl (ay CA (ay aw8 b0)))) Tryz.func146 (have⟨f,i,j,k⟩:=b;⟨Ω,⟨(by have:=eS A ai;omega),⟨(λd=>(by have:=eS g (bu A ai);have:=eS A ai;omega)),(λe=>⟨(by have:=eS g (bu A ai);have:=eS A ai;omega),(by have:=iD 0 (bu g (bu A ai));have:=eS g (bu A ai);have:=eS A ai;omega)⟩)⟩⟩⟩)
def qd(g:Int)(r:Bool)(h:Int)(o:Int)(c:Int)(v:u)(y:u)(p:u)(x:Int):G Int:=(cond ((fc A g r h o c v y p x)!=0) (B:G Int) (EX A g r h o c v y p x (B:G Int)))
def asr(g:Int)(r:Bool)(h:Int)(o:Int)(c:Int)(v:u)(y:u)(p:u)(x:Int):Int:=let a:=fc A g r h o c v y p x;(cond (a !=0) a 0)
def ano:bq:=⟨[.g [a,a,K,a,a,a,al,al,al,a]],λ(A:Int) (g:Int) r (h:Int) (o:Int) (c:Int) v y p (x:Int)=>⟨⟨some (v.size<=10000000000/\y.size<=10000000000/\p.size<=10000000000),.dp [aP 1 cZ (qd A g r h o c v y p x),b (asr A g r h o c v y p x)]⟩⟩⟩
def Nn:bx 132 ano:=bA Tryz.func132
 λ(A:Int) (g:Int) r (h:Int) (o:Int) (c:Int) v j y k p l (x:Int) b=>bD ⟨.pure,[.tmp 2,.tmp 3],[(.t 0,.ab bo),(.t 1,a)],⟨[U,U],[]⟩⟩ (.ae (.ae (.ae (.s (.jb [(.h 1 0,bo)]) .z)))) (((fc A g r h o c v y p x)!=0)=false->(0<=100000000000/\v.size<=10000000000/\y.size<=10000000000/\p.size<=10000000000)) (b1 0 (aJ Nd a2) (ay awF b0)) Tryz.func132 (have⟨e,f,i⟩:=b;(λd=>Ω))
end
def ac7:Nat->Int->Int->G Int->G Int
 |0,_,_,_=>default
 |k+1,e,l,bg=>(cond (decide (l>=0)) (ac7 k (i64 (e.tdiv 256)) (i64 (l-1)) (G.cF bg (toNat l) (u8 (e.tmod 256)))) bg)
def aro(A:Int):G Int:=ac7 ((toNat (7+1))+1) (i64 (A+4611686018427387904)) 7 (G.rep (toNat 8) (0:Int))
def Fq(A:Int):G Int:=(aro A)
def azo(A:Int):(Fq A).n=8:=by kernel_rfl
def Bm(A:u):G Int:=(Sx (G.lit ([(u8 ((A:u).size:Int))]:List Int)) (G.ofStr A))
def azp(A:u):A.size<=10000000000->(Bm A).n=A.size+1:=λh=>by
 unfold Bm;rw[azk _ _ (by simp only[G.na,G.ofStr,dy,fs];omega)];simp only[G.na,G.ofStr,dy,fs];omega
def s6(n l h:Int):kl n l h=(decide (n>=l)&&decide (n<=h)):=by
 unfold kl EP;cases decide (n>=l)<;>rfl
def arh(x:u):kS x=xJ x:=by
 unfold xJ kS EU;rw[s6];cases decide ((x.size:Int)>=1)<;>rfl
def are(x:u):jz x=oT x:=rfl
def arf(x:Int):jf x=Kz x:=by
 unfold jf EV Kz;rw[s6];cases decide (x>=(-1099511627776))<;>rfl
def ari(x:Int):pT x=s7 x:=by
 unfold pT KA s7;rw[s6];cases decide (x>=1)<;>rfl
def P_(s:G u)(a:s.n<=549755813888):EO s=jj (λi=> !(oT (s.at' (toNat i)))) s.n 0:=
 Hc _ _ _ (oz (KI s) s.n (λi=> !(oT (s.at' (toNat i)))) (λi=>i) a λ_ _=>rfl)
def I_(s:G bt)(a:s.n<=549755813888):A_ s=jj (λi=>xK (s.at' (toNat i)).q (s.at' (toNat i)).F) s.n 0:=
 Hc _ _ _ (oz (KJ s) s.n (λi=>xK (s.at' (toNat i)).q (s.at' (toNat i)).F) (λi=>i) a λ_ _=>rfl)
def Qb(s:G bG)(a:s.n<=549755813888):Ba s=jj (λi=> !(oT (s.at' (toNat i)).q)) s.n 0:=
 Hc _ _ _ (oz (KK s) s.n (λi=> !(oT (s.at' (toNat i)).q)) (λi=>i) a λ_ _=>rfl)
def Qc(s:G bG)(a:s.n<=549755813888):EY s=jj (λi=> !(jf (s.at' (toNat i)).F)) s.n 0:=
 Hc _ _ _ (oz (KL s) s.n (λi=> !(jf (s.at' (toNat i)).F)) (λi=>i) a λ_ _=>rfl)
def JN{F:Bool×Int}{a:Int->Bool}{c:Int}{m:Nat}{i:Int}(h:F=scan a (λ_=>c) m i)(X:Int):(cond (cond F.1 false true) X F.2)=bif jj a m i then c else X:=by
 rw[h,aDq]
 cases jj a m i<;>rfl
def YN(a:G bt)(b:G u)(c:G bG)(d:a.n<=1048576)(e:b.n<=1048576)(f:c.n<=1048576):km a b c=(a.n:Int)+b.n+c.n:=by
 unfold km;rw[E ((a.n:Int)+b.n),E _]
def aDp(s:G u)(a:s.n<=549755813888):Ta s=scan (λi=>A7 (s.at' (toNat i))) (λi=>i) s.n 0:=oz (KH s) s.n _ _ a λ_ _=>rfl
def afu{a:Int->Bool} : ∀(m:Nat) (i:Int),jj a m i=false-> ∀j:Int,i<=j->j<i+m->a j=false
 |0,i,_,j,b,c=>by omega
 |m+1,i,h,j,b,c=>by
  simp only[jj,DB]at h
  by_cases e:j=i
  .rw[e];exact h.1
  .exact afu m (i+1) h.2 j Ω Ω
def rW{a:Int->Bool}{n:Nat}(h:jj a n 0=false)(i:Nat)(b:i<n):a (i:Int)=false:=afu n 0 h i Ω Ω
def dv{b:Bool}{c X:Int}(h:(cond b c X)=0)(a:c≠0):b=false/\X=0:=by
 cases b with
 |true=>exact absurd h a
 |false=>exact⟨rfl,h⟩
def c2{a b:Bool}(h:(cond a true b)=false):a=false/\b=false:=by
 cases a with
 |true=>simp at h
 |false=>exact⟨rfl,h⟩
def df{p:Prop}[Decidable p](h:decide p=false): ¬p:=hX h
def sH(g:u)(r:Int)(h:G bt)(o:G u)(c:G bG):Prop:=
 (g.size<=20/\ -1099511627776<=r/\r<=1099511627776)/\(h.n<=20/\o.n<=20/\c.n<=20)/\(∀i,i<h.n->(h.at' i).q.size<=20/\(h.at' i).F.size<=20)/\(∀i,i<o.n->(o.at' i).size<=20)/\(∀i,i<c.n->(c.at' i).q.size<=20/\ -1099511627776<=(c.at' i).F/\(c.at' i).F<=1099511627776)
def sF(x:G u):Prop:=x.n<=20/\ ∀i,i<x.n->(x.at' i).size<=20
def IX(x:N):Prop:=x.q.size<=20/\sH x.z x.M x.w x.C x.P/\0<=x.aw/\x.aw<=1073741824
def P3(x:ar):Prop:=((0<=x.q/\x.q<=1048577)/\(0<=x.F/\x.F<=1048576)/\(0<=x.z/\x.z<=1073741824))/\((0<=x.M/\x.M<=13)/\x.w.size<=20/\ -1099511627776<=x.C/\x.C<=1099511627776)/\sF x.P
def I5(A:Int)(g:G N)(r:Int)(h:G ar):Prop:=((0<=A/\A<=1073741824)/\(1<=r/\r<=1048577)/\g.n<=12/\h.n<=4)/\(∀i,i<g.n->IX (g.at' i))/\(∀i,i<h.n->P3 (h.at' i))
def j3{g:u}{r:Int}{h:G bt}{o:G u}{c:G bG}(a:sH g r h o c):sF o:=⟨a.2.1.2.1,a.2.2.2.1⟩
def dA(s:G N):Prop:=s.n<=549755813888/\ ∀i,i<s.n->(s.at' i).w.n<=549755813888/\(s.at' i).C.n<=549755813888/\(s.at' i).P.n<=549755813888
def eH(s:G ar):Prop:=s.n<=549755813888/\ ∀i,i<s.n->(s.at' i).P.n<=549755813888
def OA{x:u}(h:(!(oT x))=false):x.size<=20:=by
 unfold oT at h
 by_cases a:(x.size:Int)<=20
 .omega
 .simp [a]at h
def ajc{x:u}(h:(!(kS x))=false):x.size<=12:=by
 unfold kS EU at h
 by_cases a:(x.size:Int)<=12
 .omega
 .simp [a]at h
def ajd{x:Int}(h:(!(jf x))=false): -1099511627776<=x/\x<=1099511627776:=by
 unfold jf EV at h
 by_cases a:x>= -1099511627776
 .by_cases b:x<=1099511627776
  .omega
  .simp [b]at h
 .simp [a]at h
def Qa(s:G u)(a:s.n<=549755813888):EN s=jj (λi=>A7 (s.at' (toNat i))) s.n 0:=Hc _ _ _ (aDp s a)
def Di(a:G bt)(b:G u)(c:G bG)(d:a.n<=549755813888)(e:b.n<=549755813888)(f:c.n<=549755813888):km a b c=(a.n:Int)+b.n+c.n:=by
 unfold km;rw[E ((a.n:Int)+b.n),E _]
def ao9(A:Int)(g:u)(r:Int)(h:G u)(w:h.n<=549755813888)(a:rG A g r h=0):((0<=A/\A<=13)/\g.size<=20/\ -1099511627776<=r/\r<=1099511627776)/\sF h:=by
 unfold rG at a;obtain⟨b,a⟩:=dv a Δ;obtain⟨c,a⟩:=dv a Δ;obtain⟨d,a⟩:=dv a Δ;obtain⟨e,_⟩:=dv a Δ;unfold aey at b;unfold UB at c;unfold aez at e;obtain⟨f,j⟩:=c2 b;obtain⟨k,l⟩:=c2 c;obtain⟨m,n⟩:=c2 e;have p:=df f;have z:=df j;have q:=df k;have s:=df l;have t:=df m;have v:=df n;refine⟨⟨⟨Ω,Ω⟩,Ω,Ω,Ω⟩,Ω,λi o=> ?_⟩;rw[Qa _ Ω]at d;have:=rW d i o;simp only[gi,A7]at this;have:=df this;omega
def aaV(A:Int)(g:u)(r:Int)(e:G bt)(f:G u)(j:G bG)(l:e.n<=549755813888)(m:f.n<=549755813888)(n:j.n<=549755813888)(h:iT A g r e f j=0):sH g r e f j:=by
 unfold iT at h;obtain⟨o,h⟩:=dv h Δ;obtain⟨a,h⟩:=dv h Δ;obtain⟨b,h⟩:=dv h Δ;obtain⟨p,h⟩:=dv h Δ;obtain⟨q,h⟩:=dv h Δ;obtain⟨s,h⟩:=dv h Δ;obtain⟨t,_⟩:=dv h Δ;have E:e.n<=20/\f.n<=20/\j.n<=20:=by
  unfold tD at o;obtain⟨k,d⟩:=c2 o;have w:=df k;have z:=df d
  by_cases C:A=1
  .subst C;unfold m0 tE tF tG at a;simp only[pA,aR]at a;obtain⟨_,a⟩:=c2 a;obtain⟨_,a⟩:=c2 a;rw[Di _ _ _ l m n]at a;have:=df a;omega
  .by_cases D:A=2
   .subst D;unfold m0 tE tF tG at a;simp only[pA,Int.reduceBEq,aR,aX]at a;obtain⟨_,a⟩:=c2 a;obtain⟨_,a⟩:=c2 a;rw[Di _ _ _ l m n]at a;have:=df a;omega
   .unfold o_ at b;rw[bM (show A>=3 by omega)]at b;simp only[aR]at b;obtain⟨_,b⟩:=c2 b;rw[Di _ _ _ l m n]at b;have:=df b;omega
 unfold rL at p;obtain⟨k,d⟩:=c2 p;unfold rK at t;obtain⟨B,v⟩:=c2 t;rw[P_ _ Ω]at d;rw[I_ _ Ω]at q;rw[Qb _ Ω]at s;rw[Qc _ Ω]at v;refine⟨⟨OA k,ajd B⟩,E,λi c=> ?_,λi c=> ?_,λi c=> ?_⟩
 .have:=rW q i c;simp only[gi,xK,SD]at this;obtain⟨w,z⟩:=c2 this;exact⟨dP (ajc w) Δ,OA z⟩
 .have:=rW d i c;simp only[gi]at this;exact OA this
 .have x:=rW s i c;have y:=rW v i c;simp only[gi]at x y;exact⟨OA x,ajd y⟩
def apb(A:Int)(g:u)(r:Int)(a:G bt)(b:G u)(c:G bG)(d:a.n<=1048576)(e:b.n<=1048576)(f:c.n<=1048576)(h:iT A g r a b c=0):sH g r a b c:=aaV A g r a b c Ω Ω Ω h
def aaW(A:Int)(s:G N)(c:dA s)(h:hU A s=0):((0<=A/\A<=1073741824)/\s.n<=12)/\ ∀i,i<s.n->IX (s.at' i):=by
 have x:=c.1;unfold hU at h;obtain⟨b,h⟩:=dv h Δ;unfold vV at b;obtain⟨f,b⟩:=c2 b;obtain⟨g,j⟩:=c2 b;have t:=df f;have z:=df g;have u:=df j;have n:GC A s=scan (λi=>m3 s i||ob A s i) (λ_=>13) s.n 0:=oz (qg A s) s.n _ _ Ω λk i=>by
  show(cond (decide (i<(s.n:Int))) (cond (m3 s i) (true,13) (cond (ob A s i) (true,13) (qg A s k (i64 (i+1))))) (false,default))=_;rw[D4]
 unfold L4 at h;rw[JN n]at h;obtain⟨hh,_⟩:=dv h Δ;refine⟨⟨⟨Ω,Ω⟩,Ω⟩,λi d=> ?_⟩;have q:=rW hh i d;simp only[DB]at q;obtain⟨q1,a⟩:=q;obtain⟨o,p,r⟩:=c.2 i d;unfold m3 at q1;unfold ob at a;simp only[gi]at q1 a;obtain⟨v,q1⟩:=c2 q1;obtain⟨l,q1⟩:=c2 q1;obtain⟨d3,q1⟩:=c2 q1;have w:=df l;refine⟨Ω,aaV _ _ _ _ _ _ o p r (bK d3),?_⟩
 by_cases e:(s.at' i).aw=0
 .rw[e];omega
 .rw[show((s.at' i).aw !=0)=true by simp [e]]at a;simp only[aR]at a;obtain⟨m,d5⟩:=c2 a;have:=df m;have:=df d5;omega
def g2(A:Int)(g:G N)(r:Int)(h:G ar)(t:dA g)(e:eH h)(c:ed A g r h=0):I5 A g r h:=by
 have J:=e.1;unfold ed at c;obtain⟨b,c⟩:=dv c Δ;unfold tJ at b;obtain⟨f,b⟩:=c2 b;obtain⟨j,b⟩:=c2 b;obtain⟨l,m⟩:=c2 b;have z:=df j;have C:=df l;have D:=df m;obtain⟨⟨x,y⟩,B⟩:=aaW A g t (bK f);have u:Mf A r h=scan (λi=>tL r h i||tK A h i) (λ_=>13) h.n 0:=oz (tI A r h) h.n _ _ Ω λk i=>by
  show(cond (decide (i<(h.n:Int))) (cond (tL r h i) (true,13) (cond (tK A h i) (true,13) (tI A r h k (i64 (i+1))))) (false,default))=_;rw[D4]
 unfold UF at c;rw[JN u]at c;obtain⟨hh,_⟩:=dv c Δ;refine⟨⟨x,⟨Ω,Ω⟩,y,Ω⟩,B,λi d=> ?_⟩;have q:=rW hh i d;simp only[DB]at q;obtain⟨q1,a⟩:=q;unfold tL at q1;unfold tK at a;simp only[gi]at q1 a;obtain⟨n,q1⟩:=c2 q1;obtain⟨o,_⟩:=c2 q1;obtain⟨d3,a⟩:=c2 a;obtain⟨p,a⟩:=c2 a;obtain⟨d5,a⟩:=c2 a;obtain⟨s,a⟩:=c2 a;have E:=df n;have F:=df o;have bk:=df d3;have H:=df p;have cZ:=df d5;have I:=df s;obtain⟨v,w⟩:=ao9 _ _ _ _ (e.2 i d) (bK a);exact⟨⟨⟨Ω,Ω⟩,⟨Ω,Ω⟩,⟨Ω,Ω⟩⟩,v,w⟩
def apO(A:Int)(g r h:u)(o:Int):(fw A g r h o==Gw A g r h o)=true:=by
 by_cases n:1<=A/\A<=22
 .have m:A=1\/A=2\/A=3\/A=4\/A=5\/A=6\/A=7\/A=8\/A=9\/A=10\/A=11\/A=12\/A=13\/A=14\/A=15\/A=16\/A=17\/A=18\/A=19\/A=20\/A=21\/A=22:=by omega
  unfold fw Gw rH LX LW B6 Gv yE yD yC yB aeD aeC Gx aeB;simp only[arh,are,arf,s6];generalize xJ g=b;generalize xJ r=c;generalize oT h=d;generalize Kz o=e;rcases m with rfl|rfl|rfl|rfl|rfl|rfl|rfl|rfl|rfl|rfl|rfl|rfl|rfl|rfl|rfl|rfl|rfl|rfl|rfl|rfl|rfl|rfl<;>
  simp only[Int.reduceBEq,Int.reduceLE,Int.reduceLT,ge_iff_le,gt_iff_lt,wU,zU,Bool.and_true,Bool.true_and,Bool.and_false,aR,aX,Bool.not_true,Bool.not_false,pA,bne]<;>
  (generalize (g.toList==ByteArray.toList ⟨#[]⟩)=f;generalize (r.toList==ByteArray.toList ⟨#[]⟩)=i;generalize (h.toList==ByteArray.toList ⟨#[]⟩)=bk;generalize (o==0)=j
   revert f i bk j b c d e;decide)
 .unfold fw Gw yB;have k:kl A 1 22=false:=by rw[s6];simp;omega
  have l:(cond (decide (A<1)) true (decide (A>22)))=true:=by
   by_cases a:A<1
   .simp [a]
   .simp [a];omega
  rw[k,l];rfl
def asi(A:Int)(g r h:u)(o:Int):fw A g r h o=Gw A g r h o:=eq_of_beq (apO A g r h o)
def asj(A g r:Int)(h o c:u)(v:Int):g3 A g r h o c v=UC A g r h o c v:=by
 unfold g3 UC Gy aeG aeH;rw[asi];simp only[ari,bne]
 cases A==0
 .rfl
 .simp only[aR,Bool.true_and]
  cases g==0<;>simp
def asn(A g:Int)(r:Bool)(h o c:Int)(v y p:u)(x:Int):fc A g r h o c v y p x=tA A g r h o c v y p x:=by
 unfold fc tA;have k:yF A g=yG A g:=by
  unfold yF yG s7;simp only[s6]
  by_cases a:A<1
  .have: ¬(1<=A):=by omega
   simp [a,this]
  .have e:1<=A:=by omega
   by_cases b:A>1048576
   .have: ¬(A<=1048576):=by omega
    simp [b,this]
   .have b':A<=1048576:=by omega
    by_cases f:g<0
    .have: ¬(0<=g):=by omega
     simp [a,b,f,e,b',this]
    .have i:0<=g:=by omega
     by_cases d:g>1073741824
     .have: ¬(g<=1073741824):=by omega
      simp [a,b,f,d,e,b',i,this]
     .have j:g<=1073741824:=by omega
      simp [a,b,f,d,e,b',i,j]
 rw[k,asj]
 cases yG A g<;>cases r<;>rfl
end Go.Proofs.YtadmdaokcgjdiaaGreatDoor
namespace Go.af
open Go Go.RowKit
section
variable {α:Type}
def G.B(s:G α):List α:=(List.range s.n).map s.at'
def bc(s:G α):s.B.length=s.n:=by simp [G.B]
def hz(s:G α){i:Nat}(h:i<s.n):s.B[i]? =some (s.at' i):=by simp [G.B,h]
def iL(s t:G α):(s.app t).B=s.B++t.B:=by
 apply w0;intro i
 by_cases h:i<s.n
 .rw[hz _ (by simp only[G.pI];omega),uO (by rw[bc];exact h),hz _ h];simp only[G.app,aaB h,aR]
 .by_cases a:i<s.n+t.n
  .rw[hz _ (by simp only[G.pI];omega),zW (by rw[bc];omega),bc,hz _ Ω];simp only[G.app,aaz (show s.n<=i by omega),aX]
  .rw[eX (by rw[bc,G.pI];omega),eX (by rw[dq,bc,bc];omega)]
def iq[Inhabited α](l:List α):(G.lit l).B=l:=by
 apply w0;intro i
 by_cases h:i<l.length
 .rw[hz _ (by simp only[G.na];exact h)];simp only[G.lit,List.getD,cM h,lY]
 .rw[eX (by rw[bc,G.na];omega),eX Ω]
def w2[Inhabited α]:(B:G α).B=[]:=rfl
def l0(s:G α)(a b:Int)(c:0<=a)(d:a<=b)(e:b<=s.n):(s.part a b).B=(s.B.drop a.toNat).take (b-a).toNat:=by
 apply w0;intro i
 by_cases h:i<(b-a).toNat
 .rw[hz _ (by simp only[G.uw];exact h),IK,a5 h,pv,hz _ Ω];rfl
 .rw[eX (by rw[bc,G.uw];omega),eX (by rw[iJ];omega)]
def Zj(s:G α)(i:Nat)(x:α):(s.cF i x).B=s.B.set i x:=by
 apply w0;intro j
 by_cases h:j<s.n
 .rw[hz _ (by simp only[G.ajZ];exact h)];simp only[G.cF]
  by_cases e:j=i
  .subst e;rw[oC,List.getElem?_set_self (by rw[bc];exact h)];rfl
  .have:Nat.beq j i=false:=by
    cases a:Nat.beq j i with
    |false=>rfl
    |true=>exact absurd (eg a) e
   rw[this,DA (λh=>e h.symm),hz _ h];rfl
 .rw[eX (by rw[bc,G.ajZ];omega),eX (by rw[List.length_set,bc];omega)]
def akx(n:Nat)(x:α):(G.rep n x).B=List.replicate n x:=by
 apply w0;intro j
 by_cases h:j<n
 .rw[hz _ (by simp only[G.aiP];exact h),Za,a5 h];rfl
 .rw[eX (by rw[bc,G.aiP];omega),eX (by simp;omega)]
end
def OH(l:List Int):u:=⟨(l.map λz=>UInt8.ofNat z.toNat).toArray⟩
def aEf(s:G Int):G.toStr s=OH s.B:=by
 unfold G.toStr bytesOf OH G.B;rw[List.map_map];rfl
def RB{α:Type}[Inhabited α](F:Nat->Int->G α->G α)(t:G α)(e:t.n<=549755813888)(a: ∀k i s,F (k+1) i s=bif decide (i<(t.n:Int))then F k (i64 (i+1)) (G.app s (G.lit [t.at' (toNat i)]))else s):
  ∀(m:Nat) (i:Nat) (s:G α),m=t.n-i->i<=t.n->(F (m+1) (i:Int) s).B=s.B++t.B.drop i
 |0,i,s,d,c=>by
  have: ¬((i:Int)<(t.n:Int)):=by omega
  rw[a];simp only[this,zU,aX];rw[List.drop_eq_nil_of_le (by rw[bc];omega),im]
 |m+1,i,s,d,c=>by
  have f:(i:Int)<(t.n:Int):=by omega
  rw[a];simp only[f,wU,aR];rw[E _,show(i:Int)+1=((i+1:Nat):Int) by omega,RB F t e a m (i+1) _ Ω Ω,iL,iq,fk]
  congr 1
  rw[gi];have b:i<t.B.length:=by rw[bc];omega
  rw[qR b];have:=hz t (show i<t.n by omega);rw[cM b]at this;rw[jM this];rfl
end Go.af
namespace Go.Proofs.YtadmdaokcgjdiaaGreatDoor
open Go Go.RowKit Go.af
def gp(x:Int)(s:Nat):Int:=u8 ((u64 (i64 (x+4611686018427387904)))/2^s)
def Ze(A:Int)(g:G Int):(bu A g).B=g.B++[gp A 56,gp A 48,gp A 40,gp A 32,gp A 24,gp A 16,gp A 8,gp A 0]:=by
 have h:bu A g=G.app (G.app (G.app (G.app (G.app (G.app (G.app (G.app g (G.lit [gp A 56])) (G.lit [gp A 48])) (G.lit [gp A 40])) (G.lit [gp A 32])) (G.lit [gp A 24])) (G.lit [gp A 16])) (G.lit [gp A 8])) (G.lit [gp A 0]):=by kernel_rfl
 rw[h];simp only[iL,iq,fk,w1,qP]
def ng(y:Int):Nat->Int
 |0=>y
 |k+1=>i64 ((ng y k).tdiv 256)
def f_(y:Int)(k:Nat):Int:=u8 ((ng y k).tmod 256)
def akr(A:Int):(Fq A).B=[f_ (i64 (A+4611686018427387904)) 7,f_ (i64 (A+4611686018427387904)) 6,f_ (i64 (A+4611686018427387904)) 5,f_ (i64 (A+4611686018427387904)) 4,f_ (i64 (A+4611686018427387904)) 3,f_ (i64 (A+4611686018427387904)) 2,f_ (i64 (A+4611686018427387904)) 1,f_ (i64 (A+4611686018427387904)) 0]:=by
 generalize a:i64 (A+4611686018427387904)=y;have h:Fq A=G.cF (G.cF (G.cF (G.cF (G.cF (G.cF (G.cF (G.cF (G.rep 8 0) 7 (f_ (i64 (A+4611686018427387904)) 0)) 6 (f_ (i64 (A+4611686018427387904)) 1)) 5 (f_ (i64 (A+4611686018427387904)) 2)) 4 (f_ (i64 (A+4611686018427387904)) 3)) 3 (f_ (i64 (A+4611686018427387904)) 4)) 2 (f_ (i64 (A+4611686018427387904)) 5)) 1 (f_ (i64 (A+4611686018427387904)) 6)) 0 (f_ (i64 (A+4611686018427387904)) 7):=by kernel_rfl
 rw[h,a];simp only[Zj,akx];rfl
def aiA(y:Int)(d:0<=y)(g:y<9223372036854775808): ∀k,0<=ng y k/\ng y k<=y/\ng y k=y/2^(8*k)
 |0=>⟨d,aZ _,by simp [ng]⟩
 |k+1=>by
  obtain⟨a,b,c⟩:=aiA y d g k;have e:(ng y k).tdiv 256=ng y k/256:=Int.tdiv_eq_ediv_of_nonneg a;have h:0<=ng y k/256:=by omega
  have bk:ng y k/256<=ng y k:=by omega
  have f:ng y (k+1)=ng y k/256:=by
   simp only[ng,e];exact E _
  refine⟨Ω,Ω,?_⟩;rw[f,c,Int.ediv_ediv_of_nonneg (Int.pow_nonneg Ω),show(256:Int)=2^8 by decide,<-Int.pow_add,show 8*k+8=8*(k+1) by omega]
def u_(x:Int)(k:Nat)(d:0<=x+4611686018427387904)(e:x+4611686018427387904<9223372036854775808):f_ (i64 (x+4611686018427387904)) k=gp x (8*k):=by
 have g:i64 (x+4611686018427387904)=x+4611686018427387904:=E _;have f:u64 (x+4611686018427387904)=x+4611686018427387904:=by
  rw[IntKind.wrap_u64];omega
 unfold f_ gp;rw[g,f];obtain⟨a,b,c⟩:=aiA _ d e k;rw[c]at a |-;rw[IntKind.wrap_u8,IntKind.wrap_u8,Int.tmod_eq_emod_of_nonneg a];omega
def aks(A:Int)(g:G Int)(a:0<=A+4611686018427387904)(b:A+4611686018427387904<9223372036854775808):(bu A g).B=g.B++(Fq A).B:=by
 rw[Ze,akr];rw[u_ A 7 a b,u_ A 6 a b,u_ A 5 a b,u_ A 4 a b,u_ A 3 a b,u_ A 2 a b,u_ A 1 a b,u_ A 0 a b]
def akp(A g:G Int)(h:A.n+g.n<=549755813888):(Sx A g).B=A.B++g.B:=by
 have a:(EK A).B=[]++A.B.drop 0:=RB (A4 A) A Ω (λ_ _ _=>rfl) _ 0 B Ω Ω;have b:(EL A g).B=(EK A).B++g.B.drop 0:=RB (A5 g) g Ω (λ_ _ _=>rfl) _ 0 _ Ω Ω;show(EL A g).B=_;rw[b,a];rfl
def t119(x:Int):pT x=true->1<=x/\x<=1048576:=by
 intro h;simp only[pT,KA]at h
 by_cases a:x>=1
 .simp [a]at h;omega
 .simp [a]at h
def t117(x:Int):jf x=true-> -1099511627776<=x/\x<=1099511627776:=by
 intro h;simp only[jf,EV]at h
 by_cases a:x>= -1099511627776
 .simp [a]at h;omega
 .simp [a]at h
def t47(A:Int)(g r h:u)(o:Int)(a:fw A g r h o=0): -1099511627776<=o/\o<=1099511627776:=by
 unfold fw at a
 cases c:yB A with
 |true=>rw[c]at a;cases a
 |false=>
  rw[c]at a;simp only[aX]at a;generalize (!((A==A)&&((g.toList==(Gv A g).toList)&&((r.toList==(B6 A r).toList)&&((h.toList==(LW A h).toList)&&((o==LX A o)&&true))))))=b at a
  cases b with
  |true=>cases a
  |false=>
   simp only[aX]at a
   cases d:rH A g r h with
   |true=>rw[d]at a;cases a
   |false=>
    rw[d]at a;simp only[aX]at a
    cases e:jf o with
    |true=>exact t117 o e
    |false=>rw[e]at a;cases a
def t49(A g r:Int)(h o c:u)(v:Int)(b:g3 A g r h o c v=0):A=0\/((1<=A/\A<=1048576)/\(1<=g/\g<=1048576)/\ -1099511627776<=v/\v<=1099511627776):=by
 unfold g3 at b
 by_cases a:A=0
 .exact .inl a
 .rw[fl.2 a]at b;simp only[aX,Gy]at b
  cases d:pT A with
  |false=>rw[d]at b;cases b
  |true=>
   cases e:pT g with
   |false=>rw[d,e]at b;cases b
   |true=>
    rw[d,e]at b;exact .inr ⟨t119 _ d,t119 _ e,t47 _ _ _ _ _ b⟩
def t51(A g:Int)(r:Bool)(h o c:Int)(v y p:u)(x:Int)(d:fc A g r h o c v y p x=0):((1<=A/\A<=1048576)/\0<=g/\g<=1073741824)/\(r=false->g3 h o c v y p x=0):=by
 unfold fc at d
 cases f:yF A g with
 |true=>rw[f]at d;cases d
 |false=>
  rw[f]at d;simp only[aX]at d;refine⟨?_,λe=>by rw[e]at d;exact d⟩;unfold yF at f
  by_cases a:A<1
  .simp [a]at f
  .by_cases b:A>1048576
   .simp [a,b]at f
   .by_cases i:g<0
    .simp [a,b,i]at f
    .simp [a,b,i]at f;omega
def akt(x:u)(h:x.size<=10000000000)(w:G Int):(c7 x w).B=w.B++(Bm x).B:=by
 have a:(Bm x).B=[u8 (x.size:Int)]++(G.ofStr x).B:=by
  unfold Bm;rw[akp _ _ (by simp only[G.na,G.ofStr,dy,fs];omega),iq]
 rw[a];unfold c7 cH;rw[iL,iL,iq,fk]
end Go.Proofs.YtadmdaokcgjdiaaGreatDoor
namespace Go.af
open Go Go.RowKit
def cat{β:Type}(f:Nat->List β):Nat->Nat->List β
 |0,_=>[]
 |m+1,i=>f i++cat f m (i+1)
def Aq{β:Type}{f:Nat->List β}{D:Nat} : ∀m i,(∀j,i<=j->j<i+m->(f j).length<=D)->(cat f m i).length<=m*D
 |0,_,_=>by simp [cat]
 |m+1,i,h=>by
  simp only[cat,dq];have a:=h i (bN _) Ω;have b:=Aq m (i+1) λj a b=>h j Ω Ω;rw[iX];omega
def ahi{α:Type}(F:Nat->Int->G α->G α)(n D L:Nat)(step:Int->G α->G α)(f:Nat->List α)(h:n<=549755813888)
  (a: ∀k i s,F (k+1) i s=bif decide (i<(n:Int))then F k (i64 (i+1)) (step i s)else s)
  (d: ∀(i:Nat) (s:G α),i<n->s.n<=L+i*D->(step (i:Int) s).B=s.B++f i/\(f i).length<=D):
  ∀(m i:Nat) (s:G α),i+m=n->s.n<=L+i*D->(F (m+1) (i:Int) s).B=s.B++cat f m i
 |0,i,s,g,c=>by
  rw[a,bj (show¬((i:Int)<(n:Int)) by omega)];simp only[aX,cat,im]
 |m+1,i,s,g,c=>by
  obtain⟨b,j⟩:=d i s Ω c;rw[a,bM (show(i:Int)<(n:Int) by omega)];simp only[aR];have e:(step (i:Int) s).n<=L+(i+1)*D:=by
   rw[<-bc,b,dq,bc,iX];omega
  rw[E _,show(i:Int)+1=((i+1:Nat):Int) by omega,ahi F n D L step f h a d m (i+1) _ Ω e,b,fk];rfl
def CH{α:Type}(F:Nat->Int->G α->G α)(n D L:Nat)(step:Int->G α->G α)(f:Nat->List α)(b:n<=549755813888)
  (a: ∀k i s,F (k+1) i s=bif decide (i<(n:Int))then F k (i64 (i+1)) (step i s)else s)
  (c: ∀(i:Nat) (s:G α),i<n->s.n<=L+i*D->(step (i:Int) s).B=s.B++f i/\(f i).length<=D) (s:G α) (d:s.n<=L):
  (F (toNat ((n:Int)-0)+1) 0 s).B=s.B++cat f n 0:=by
 have:=ahi F n D L step f b a c n 0 s Ω Ω;rw[show toNat ((n:Int)-0)=n by omega];exact this
end Go.af
namespace Go.Proofs.YtadmdaokcgjdiaaGreatDoor
open Go Go.RowKit Go.af
def aC(x:Int):List Int:=(Fq x).B
def ga(x:u):List Int:=(Bm x).B
def uE(x:Int):List Int:=[u8 x]
def HF(x:Int):(aC x).length=8:=by unfold aC;rw[bc,azo]
def aD5(x:u)(h:x.size<=10000000000):(ga x).length=x.size+1:=by unfold ga;rw[bc,azp x h]
def OB(x:Int):(uE x).length=1:=rfl
def uN{x:Int}(w:G Int)(a: -4611686018427387904<=x)(b:x<4611686018427387904):(bu x w).B=w.B++aC x:=aks x w Ω Ω
def zS{x:u}(w:G Int)(h:x.size<=10000000000):(c7 x w).B=w.B++ga x:=akt x h w
def zR(x:Int)(w:G Int):(cH x w).B=w.B++uE x:=by unfold cH;rw[iL,iq];rfl
def ae1:Go.Shelf.Ren:=⟨λn=>bif n==4 then 133 else n,λn=>bif n==22 then 76 else bif n==25 then 5 else n,λx=>x⟩
def ae0:Lays8.n4 Tryz.prog ae1 where
 mixed:=by kernel_rfl
 f4:=⟨Tryz.f133.name,Ξ,Ξ⟩
 t0:=Tryz.underlying0
 a0:=Tryz.isAgg0
 z0:=Tryz.sizeOf0
 v0:=Tryz.zeroValue0
 t3:=Tryz.underlying3
 a3:=Tryz.isAgg3
 z3:=Tryz.sizeOf3
 v3:=Tryz.zeroValue3
 t4:=Tryz.underlying4
 a4:=Tryz.isAgg4
 z4:=Tryz.sizeOf4
 v4:=Tryz.zeroValue4
 t9:=Tryz.underlying9
 a9:=Tryz.isAgg9
 z9:=Tryz.sizeOf9
 v9:=Tryz.zeroValue9
 t20:=Tryz.underlying20
 a20:=Tryz.isAgg20
 z20:=Tryz.sizeOf20
 v20:=Tryz.zeroValue20
 t22:=Tryz.underlying76
 a22:=Tryz.isAgg76
 z22:=Tryz.sizeOf76
 v22:=Tryz.zeroValue76
def asW(w:World)(F:Nat->Prop)(G:Nat)(C:Array Value)(T:TypeId)(f:Nat->List J)(a:C.size=G):
  ∃v,Ending.returned (.slice (some ⟨w.heap.size,0,none⟩) 0 G)= .returned v/\q0 w.heap.size (w.drew.alloc (.cells C T)) F (.ad false 1 0 f) v/\Below w.heap.size w (w.drew.alloc (.cells C T)):=
 ⟨_,rfl,.inr ⟨w.heap.size,G,C,T,bN _,(so.1 (ss w.drew (.cells C T))).1,rfl,cp _,cp _,ss w.drew _,by rw[a,Nat.mul_one],λi j b=>absurd b (eD i)⟩,(Below.drew (Below.refl _ w)).alloc (bN _) _⟩
def aBH(n:Int)(l:0<=n)(c:n<=549755813888):fo Tryz.prog 133 [.aG,b n] ((aH.ad bo).av (B:G Int)):=by
 intro w F k s o;obtain⟨m,rfl⟩:=wY l;have e:k=[.slice none 0 0,.int .i64 (m:Int)]:=by
  match k,o with
  |[a,r],⟨j,d,_⟩=>
   simp only[fK]at j d
   cases j;cases d;rfl
 subst e;rcases wX m with h|h
 .subst h;refine Calls.mono (Any8.slices_Grow_room ae0 none 0 0 0 w Ω Ω Ω Ω) λe w' ⟨c,g⟩=> ?_;subst g;exact⟨_,c,.inl ⟨rfl,rfl⟩,Below.refl _ _⟩
 .obtain⟨i,f⟩: ∃i,Tryz.prog.info? 5=some i:=⟨_,rfl⟩;have u:i.size=1:=by
   have:(Tryz.prog.info? 5).map TypeInfo.size=some 1:=by kernel_rfl
   rw[f]at this;simpa using this
  have d:i.bytes=1:=by
   have:(Tryz.prog.info? 5).map TypeInfo.bytes=some 1:=by kernel_rfl
   rw[f]at this;simpa using this
  obtain⟨z,p,q⟩: ∃z,i.zero=some z/\z.cells.size=1:=by
   have:(Tryz.prog.info? 5).map TypeInfo.zero=some (some (.int .u8 0)):=by kernel_rfl
   rw[f]at this;exact⟨.int .u8 0,by simpa using this,rfl⟩
  refine Calls.mono (Any8.slices_Grow_grow ae0 i z f p Ω none 0 0 m [] w Ω Ω (by rw[d];omega) Ω (by simp) (λ_=>rfl) (λa h=>by cases h)) λe w' ⟨c,g⟩=> ?_;have t:0+m<=grownCap w (0+m) 0 5:=wV w _ _ _;rw[c,g];refine asW w _ _ _ _ _ ?_;simp only[wW,qM,size_zeroCells,q,fs];show _=grownCap w (0+m) 0 5;have:grownCap w (0+m) 0 (ae1.t 25)=grownCap w (0+m) 0 5:=rfl;rw[this];omega
def Qd:List J->Option (aW×J)
 |[.aG,.int .i64 n]=>some (.p (0<=n/\n<=549755813888),(aH.ad bo).av (B:G Int))
 |_=>none
structure anE where
 hd:List J->Option (aW×J)
def ami:anE:=⟨Qd⟩
def axq:DR Tryz.prog 133 ami.hd:=⟨⟨_,_,Tryz.func133,rfl,Ξ⟩,λa o r e b=>by
 show fo Tryz.prog 133 a r
 change Qd a=some (o,r)at e
 unfold Qd at e
 split at e
 .cases e
  exact aBH _ b.1 b.2
 .cases e⟩
section
variable(A:Int)(g:Int)(r:G R)(h:Int)(o:Int)
def Ca:Bool:=(cond (decide (h<0)) true (cond (decide (h>1048576)) true (decide (o<0))))
def kt:G R:=(cond ((cE A g r)!=0) (B:G R) (cond (Ca h o) (B:G R) (cond ((gx A r h)!=0) (B:G R) (G.part (G.part r (i64 (h-A)) (r.n:Int)) 0 (ff (((toNat ((r.n:Int)- (i64 (h-A)))):Nat):Int) o)))))
def ast:Int:=(cond ((cE A g r)!=0) (cE A g r) (cond (Ca h o) 2 (cond ((gx A r h)!=0) (gx A r h) 0)))
def anq:bq:=⟨[.g [a,a,.ab dk],.v a,.v a],λ(A:Int) (g:Int) r (h:Int) (o:Int)=>⟨⟨some (h<=9223372036854775807/\ -9223372036854775808<=h/\o<=9223372036854775807/\ -9223372036854775808<=o),.dp [aP 10 eo (kt A g r h o),b (ast A g r h o)]⟩⟩⟩
theorem ayk:bx 81 anq:=bA Tryz.func81
 λ(A:Int) (g:Int) r p _ (h:Int) (o:Int) j=>bD ⟨.pure,[.tmp 6,.tmp 7],[(.t 0,.ab dk),(.t 1,a)],⟨[U,U],[]⟩⟩ (.ae (.ae (.s (.j ⟨67109070,[],[(.t 26,K)],[],.f⟩ .z .z) .z))) (let e:=i64 (h-A);let i:=toNat ((r.n:Int)-e);let b:=ff (i:Int) o;((cE A g r)!=0)=false->((Ca h o)=false->((0<=A/\A<=1048576/\h<=9223372036854775807)/\(((gx A r h)!=0)=false->((((0:Int)<=e)/\((e:Int)<=(r.n:Int))/\(((r.n:Int):Int)<=(r.n:Int))/\(((r.n:Int):Int)<=(r.n:Int)))/\(((0:Int)<=0)/\((0:Int)<=b)/\((b:Int)<=b)/\((b:Int)<=(i:Int)))))))) (ct (aJ wv (aJ Na (aJ Cz a2)))) Tryz.func81 (have⟨k,l,m,n⟩:=j;(λc=>(λd=>⟨(by have:=fb _ _ _ (bK c);have:=d;simp [Ca]at this;have:=As A r h;omega),(λf=>⟨(by have:=fb _ _ _ (bK c);have:=d;simp [Ca]at this;have:=bK f;have:=As A r h;first|omega|(have:=E (h-A);omega)),(by have:=fb _ _ _ (bK c);have:=d;simp [Ca]at this;have:=bK f;have:=As A r h;have:=lP (((toNat ((r.n:Int)- (i64 (h-A)))):Nat):Int) o;first|omega|(have:=E (h-A);omega))⟩)⟩)))
end
section
variable(A:Int)(g:Int)(r:G R)(h:Int)(o:Int)(c:G R)
def Cb:Bool:=(cond ((gx A r h)!=0) true ((h7 A g r h)!=o))
def cv:Int:=(cond (decide (h<A)) (i64 (h+(ff (i64 (A-h)) (c.n:Int)))) h)
def dC:G R:=(cond (decide (h<A)) (G.part c (ff (i64 (A-h)) (c.n:Int)) (c.n:Int)) c)
def m2:Bool:=(cond (decide (h<A)) (cond (decide ((i64 (h+(ff (i64 (A-h)) (c.n:Int))))<A)) false true) (cond (Cb A g r h o) false true))
def pa(a:Int):Bool:=(cond (decide ((i64 ((i64 ((cv A h c)-A))+a))<(r.n:Int))) ((r.at' (toNat (i64 ((i64 ((cv A h c)-A))+a)))).q==((dC A h c).at' (toNat a)).q) false)
def m1(A:Int)(g:Int)(r:G R)(h:Int)(c:G R):Nat->Int->Bool×Int×Int×G R×Bool×Int×Int
 |0,_=>default
 |k+1,a=>(cond (decide (a<((dC A h c).n:Int))) (cond (pa A r h c a) (m1 A g r h c k (i64 (a+1))) (cond ((cE A g (G.app (G.part r 0 (i64 ((i64 ((cv A h c)-A))+a))) (G.part (dC A h c) a (((dC A h c).n:Nat):Int))))!=0) (true,0,0,(B:G R),false,0,6) (true,A,g,(G.app (G.part r 0 (i64 ((i64 ((cv A h c)-A))+a))) (G.part (dC A h c) a (((dC A h c).n:Nat):Int))),true,(i64 ((i64 ((cv A h c)+a))+1)),0))) (false,default,default,default,default,default,default))
def pb:Bool×Int×Int×G R×Bool×Int×Int:=m1 A g r h c ((toNat (((dC A h c).n:Int)-0))+1) 0
def qf:Bool:=(cond (pb A g r h c).1 false true)
def cn:Int:=(cond ((cE A g r)!=0) 0 (cond ((cE h o c)!=0) 0 (cond (m2 A g r h o c) (cond (qf A g r h c) A (pb A g r h c).2.1) A)))
def tH:Int:=(cond ((cE A g r)!=0) 0 (cond ((cE h o c)!=0) 0 (cond (m2 A g r h o c) (cond (qf A g r h c) g (pb A g r h c).2.2.1) g)))
def cd:G R:=(cond ((cE A g r)!=0) (B:G R) (cond ((cE h o c)!=0) (B:G R) (cond (m2 A g r h o c) (cond (qf A g r h c) r (pb A g r h c).2.2.2.1) r)))
def hT:Bool:=(cond ((cE A g r)!=0) false (cond ((cE h o c)!=0) false (cond (m2 A g r h o c) (cond (qf A g r h c) true (pb A g r h c).2.2.2.2.1) (cond (decide (h<A)) true false))))
def dt:Int:=(cond ((cE A g r)!=0) 0 (cond ((cE h o c)!=0) 0 (cond (m2 A g r h o c) (cond (qf A g r h c) 0 (pb A g r h c).2.2.2.2.2.1) 0)))
def hk:Int:=(cond ((cE A g r)!=0) (cE A g r) (cond ((cE h o c)!=0) 10 (cond (m2 A g r h o c) (cond (qf A g r h c) 0 (pb A g r h c).2.2.2.2.2.2) 0)))
theorem f75(A g:Int)(r:G R)(h o:Int)(c:G R)(a:m2 A g r h o c=true)(j:((0<=A/\A<=1048576)/\r.n<=200)/\(0<=h/\h<=1048576)/\c.n<=200):(A<=cv A h c/\cv A h c<=A+(r.n:Int))/\(dC A h c).n<=c.n:=by
 unfold m2 at a;unfold cv dC
 by_cases d:h<A
 .rw[bM d]at a |-;simp only[aR]at a |-;have k:=lP (i64 (A-h)) (c.n:Int);rw[E (A-h)]at a k |-;generalize ff (A-h) (c.n:Int)=q at*
  rw[E (h+q)]at a |-;have i: ¬(h+q<A):=by
   intro e;rw[bM e]at a
   cases a
  refine⟨Ω,?_⟩;show toNat ((c.n:Int)-q)<=c.n;omega
 .rw[bj d]at a |-;simp only[aX]at a |-;have b:Cb A g r h o=false:=by
   cases e:Cb A g r h o with
   |false=>rfl
   |true=>rw[e]at a;cases a
  unfold Cb at b;have f:gx A r h=0:=by
   cases e:(gx A r h !=0)with
   |true=>rw[e]at b;cases b
   |false=>exact bK e
  have:=As A r h ⟨f,Ω,Ω,Ω⟩;exact⟨this,bN _⟩
def ans:bq:=⟨[.g [a,a,.ab dk],.v a,.v a,.v (.ab dk)],λA g r h o c=>⟨⟨none,.dp [.agg [b (cn A g r h o c),b (tH A g r h o c),aP 10 eo (cd A g r h o c)],.bool (hT A g r h o c),b (dt A g r h o c),b (hk A g r h o c)]⟩⟩⟩
theorem agM:bx 71 ans:=bA Tryz.func71
 λ(A:Int) (g:Int) r D _ (h:Int) (o:Int) c F _=>bD (ms:=[(.b .f (.b .f (.b .f .l))),(.b .f (.b .f (.b .f .l))),(.b .f (.b .f (.b .f .l))),.f,(.b .f (.b .f (.b .f .l))),(.b .f (.b .f (.b .f .l)))]) ⟨.pure,[.cell 8 43,.tmp 9,.tmp 10,.tmp 11],[(.c 0 0,a),(.c 0 1,a),(.c 0 2,.ab dk),(.t 1,K),(.t 2,a),(.t 3,a)],⟨[.agg (us 3 []),U,U,U],[]⟩⟩ (.ae (.ae (.ae (.ae (.j ⟨3866,[],[(.t 1,a),(.t 3,.ab dk)],[],.f⟩ (.ae (.ae (.ae (.j ⟨18889465931478580858650,[],[(.t 74,K)],[],.f⟩ .z .z)))) (.ae (.j ⟨3840,[],[],[],.f⟩ (.ae (.cX ⟨8462480737302404223012618,[.b 0],[],[(.t 82,a)],some 0,true,3840,[],[],λk (s:Int)=>m1 A g r h c k s,.f,λ(s:Int)=>(0<=s/\s<=((dC A h c).n:Int)/\(i64 ((i64 ((cv A h c)-A))+s))<=(r.n:Int)),λ(s:Int)=>(toNat (((dC A h c).n:Int)-s)),none⟩ (.ae (.ae (.s (.ae (.s (.j ⟨81169251286937994249956602875658,[],[(.t 94,K),(.t 106,K)],[],.f⟩ .z .z) .z)) .z))))) .z))))))) (let t:=ff (i64 (A-h)) (c.n:Int);let p:=i64 ((cv A h c)-A);let d:=dC A h c;((cE A g r)!=0)=false->(((cE h o c)!=0)=false->((((decide (h<A))=true->(((0:Int)<=t)/\((t:Int)<=(c.n:Int))/\(((c.n:Int):Int)<=(c.n:Int))/\(((c.n:Int):Int)<=(c.n:Int))))/\((decide (h<A))=false->(0<=A/\A<=1048576/\h<=9223372036854775807)))/\((m2 A g r h o c)=true->(((0<=(0:Int)/\(0:Int)<=(d.n:Int)/\(i64 (p+(0:Int)))<=(r.n:Int)))/\(∀(b:Int),let w:=pa A r h c b;let v:=decide (b<(d.n:Int));let u:=toNat ((d.n:Int)-b);let m:=i64 (b+1);let e:=i64 (p+b);(0<=b/\b<=(d.n:Int)/\e<=(r.n:Int))->((v=true->(((0:Int)<=b/\b<(d.n:Int))/\(((decide (e<(r.n:Int)))=true->(((0:Int)<=e/\e<(r.n:Int))/\((toNat e)<r.n)))/\(w=false->(((e=e)/\((0:Int)<=0)/\((0:Int)<=e)/\((e:Int)<=e)/\((e:Int)<=(r.n:Int)))/\((((0:Int)<=b)/\((b:Int)<=(d.n:Int))/\(((d.n:Int):Int)<=(d.n:Int))/\(((d.n:Int):Int)<=(d.n:Int)))/\(0<u/\(toNat (e-0))+u<=549755813888)))))))/\(v=true->(w=true->((0<=m/\m<=(d.n:Int)/\(i64 (p+m))<=(r.n:Int))/\(toNat ((d.n:Int)-m))<(toNat ((d.n:Int)-b)))))))))))) (ct (aJ wv (aJ Na (aJ Cz a2)))) Tryz.func71 ((λf=>(λi=>⟨⟨(λz=>(by have:=fb _ _ _ (bK f);have:=fb _ _ _ (bK i);have:=an z;have:=lP (i64 (A-h)) (c.n:Int);have:=E (A-h);omega)),(λB=>(by have:=fb _ _ _ (bK f);have:=fb _ _ _ (bK i);omega))⟩,(λj=>⟨(by have:=fb _ _ _ (bK f);have:=fb _ _ _ (bK i);have:=f75 _ _ _ _ _ _ j Ω;have:=E ((cv A h c)-A);have:=E ((i64 ((cv A h c)-A))+(0:Int));omega),(λb C=>⟨(λl=>⟨(by have:=an l;omega),⟨(λq=>⟨(by have:=fb _ _ _ (bK f);have:=fb _ _ _ (bK i);have:=f75 _ _ _ _ _ _ j Ω;have:=an q;have:=E ((cv A h c)-A);have:=E ((i64 ((cv A h c)-A))+b);omega),(by have:=fb _ _ _ (bK f);have:=fb _ _ _ (bK i);have:=f75 _ _ _ _ _ _ j Ω;have:=an q;have:=E ((cv A h c)-A);have:=E ((i64 ((cv A h c)-A))+b);omega)⟩),(λn=>⟨(by have:=fb _ _ _ (bK f);have:=fb _ _ _ (bK i);have:=f75 _ _ _ _ _ _ j Ω;have:=an l;have:=n;simp [pa]at this;first|omega|(have:=E ((cv A h c)-A);have:=E ((i64 ((cv A h c)-A))+b);omega)),⟨(by have:=fb _ _ _ (bK f);have:=fb _ _ _ (bK i);have:=f75 _ _ _ _ _ _ j Ω;have:=an l;have:=n;simp [pa]at this;first|omega|(have:=E ((cv A h c)-A);have:=E ((i64 ((cv A h c)-A))+b);omega)),(by have:=fb _ _ _ (bK f);have:=fb _ _ _ (bK i);have:=f75 _ _ _ _ _ _ j Ω;have:=an l;have:=n;simp [pa]at this;first|omega|(have:=E ((cv A h c)-A);have:=E ((i64 ((cv A h c)-A))+b);omega))⟩⟩)⟩⟩),(λx=>(λy=>(by have:=fb _ _ _ (bK f);have:=fb _ _ _ (bK i);have:=f75 _ _ _ _ _ _ j Ω;have:=an x;have:=y;(try simp [pa]at this);have:=E ((cv A h c)-A);have:=E (b+1);have:=E ((i64 ((cv A h c)-A))+b);have:=E ((i64 ((cv A h c)-A))+(i64 (b+1)));omega)))⟩)⟩)⟩)))
end
def amP:bq:=⟨[.v a],λ(A:Int)=>⟨⟨some (0<=A/\A<3),.agg [.bool (A==0),.bool (A==1),.bool (A==2)]⟩⟩⟩
def agC:bx 58 amP:=bA Tryz.func58
 λ(A:Int) a=>by
  have:A=0\/A=1\/A=2:=by omega
  rcases this with rfl|rfl|rfl
  .exact bD ⟨.pure,[.cell 2 73],[(.c 0 0,K),(.c 0 1,K),(.c 0 2,K)],⟨[.agg (us 3 [])],[]⟩⟩ (.z) True fx Tryz.func58 trivial
  .exact bD ⟨.pure,[.cell 2 73],[(.c 0 0,K),(.c 0 1,K),(.c 0 2,K)],⟨[.agg (us 3 [])],[]⟩⟩ (.z) True fx Tryz.func58 trivial
  .exact bD ⟨.pure,[.cell 2 73],[(.c 0 0,K),(.c 0 1,K),(.c 0 2,K)],⟨[.agg (us 3 [])],[]⟩⟩ (.z) True fx Tryz.func58 trivial
end Go.Proofs.YtadmdaokcgjdiaaGreatDoor
namespace Go.af
open Go Go.Proofs Go.RowKit Go.Shelf
section
variable {P:Program} {ρ:Ren}
def oB{x:Int}(a:0<=x)(b:x<=18446744073709551615):u64 x=x:=by
 have h:u64 x=x%18446744073709551616:=by simp [IntKind.wrap,IntKind.bits,IntKind.signed]
 rw[h];omega
def oe(x:Int):x/2^(toNat 1)=x/2:=rfl
def G.ins{α:Type}(s:G α)(i:Nat)(x:α):G α:=⟨s.n+1,λt=>bif Nat.blt t i then s.at' t else bif Nat.beq t i then x else s.at' (t-1)⟩
def G.del{α:Type}(s:G α)(i j:Nat):G α:=⟨s.n- (j-i),λt=>bif Nat.blt t i then s.at' t else s.at' (t+(j-i))⟩
def Hf(E:cR):cf:=⟨[.o 0,.v (.int .i64),.o 1],[(.h 0 0,.ad E),(.h 1 0,.ad E)],[[.undef],[.undef]],
 λ(g:Int) (A r:G E.T)=>⟨⟨some (0<=g/\g<=(A.n:Int)/\A.n+1<=549755813888/\r.n=1),[.own 0 (A.n+1)],[[(aH.ad E).av (G.ins A (toNat g) (r.at' 0))],[(aH.ad E).av r]]⟩⟩⟩
def xn(E:cR):cf:=⟨[.o 0,.v (.int .i64),.v (.int .i64)],[(.h 0 0,.ad E)],[[.undef]],
 λ(g r:Int) (A:G E.T)=>⟨⟨some (0<=g/\g<r/\r<=(A.n:Int)),[.own 1 (A.n- (toNat r-toNat g))],[[dB],[(aH.ad E).av (G.del A (toNat g) (toNat r))]]⟩⟩⟩
def M3{E:cR}{bytes:Nat}{z:Value}(L:qV P ρ E.V bytes z)(j:l1 P (ρ.f 22))(k:0<E.V)(f:bytes<=255)(l: ∀m,(Builtin.zeroCells z.cells m).size=m*E.V):ju P (ρ.f 22) (Hf E).hd:=
 cf.ok j rfl λ(g:Int) (A:G E.T) _ (r:G E.T) _ (a:0<=g/\g<=(A.n:Int)/\A.n+1<=549755813888/\r.n=1)=>by
  have n: ∀(i m:Nat),g=(i:Int)->r.n=m->m=1->fL P (ρ.f 22) [.own 0 A.n,.int .i64 g,.own 1 r.n] [[.ad false E.V A.n λt=>E.e (A.at' t)],[.ad false E.V r.n λt=>E.e (r.at' t)]] [.own 0 (A.n+1)]
    [[.ad false E.V (A.n+1) λt=>E.e ((G.ins A (toNat g) (r.at' 0)).at' t)],[.ad false E.V r.n λt=>E.e (r.at' t)]]:=by
   intro i m b c d;rw[c,d,b];have h:=avK L k f l A.n i (λt=>E.e (A.at' t)) (λt=>E.e (r.at' t)) Ω a.2.2.1;have e:lf (λt=>E.e (A.at' t)) i (λt=>E.e (r.at' t))=λt=>E.e ((G.ins A i (r.at' 0)).at' t):=by
    funext t
    unfold lf G.ins;simp only
    cases Nat.blt t i with
    |true=>rfl
    |false=>cases Nat.beq t i<;>rfl
   rw[e]at h;rw[gi];exact h
  exact n g.toNat r.n Ω rfl a.2.2.2
def AF{f:FuncId}{E:cR}{z:Value}(d:O9 P f E.V z)(c:l1 P f)(k: ∀m,(Builtin.zeroCells z.cells m).toList.length=m*E.V/\ ∀v∈(Builtin.zeroCells z.cells m).toList,v.oneCell'=true):ju P f (xn E).hd:=
 cf.ok c rfl λ(g:Int) (r:Int) (A:G E.T) _ (n:0<=g/\g<r/\r<=(A.n:Int))=>by
  have l: ∀(i j:Nat),g=(i:Int)->r=(j:Int)->fL P f [.own 0 A.n,.int .i64 g,.int .i64 r] [[.ad false E.V A.n λt=>E.e (A.at' t)]] [.own 1 (A.n- (toNat r-toNat g))]
    [[dB],[.ad false E.V (A.n- (toNat r-toNat g)) λt=>E.e ((G.del A (toNat g) (toNat r)).at' t)]]:=by
   intro i j a b;rw[a,b,gi,gi];have h:=apJ d k A.n i j (λt=>E.e (A.at' t)) Ω Ω;have e:xm (λt=>E.e (A.at' t)) i j=λt=>E.e ((G.del A i j).at' t):=by
    funext t
    unfold xm G.del;simp only
    cases Nat.blt t i<;>rfl
   rw[e]at h;exact h
  exact l g.toNat r.toNat Ω Ω
def uH{P:Program}{T:TypeId}{z:Value}{k b:Nat}(h:(P.info? T).map (λi=>(i.zero,i.size,i.bytes))=some (some z,k,b))(w:World):(Go.sizeOf T).run P w= .ok k w:=by
 obtain⟨i,a,_,c,_⟩:=info_parts h;simp [sizeOf,typeInfo,a,c]
def aFd{P:Program}{T:TypeId}{z:Value}{k b:Nat}(h:(P.info? T).map (λi=>(i.zero,i.size,i.bytes))=some (some z,k,b))(w:World):(zeroValue T).run P w= .ok z w:=by
 obtain⟨i,a,c,_,_⟩:=info_parts h;simp [zeroValue,typeInfo,a,c]
def sn{z:Value}{k:Nat}(f:z.cells.size=k)(d:z.cells.all (λv=>v.oneCell')=true)(m:Nat):(Builtin.zeroCells z.cells m).toList.length=m*k/\ ∀v∈(Builtin.zeroCells z.cells m).toList,v.oneCell'=true:=by
 subst f;refine⟨by simp [Builtin.zeroCells],λv c=> ?_⟩;simp only[Builtin.zeroCells,Array.toList_map,px,Array.mem_toList_iff,Array.mem_range]at c;obtain⟨i,a,rfl⟩:=c;have g:0<z.cells.size:=by
  rcases wX z.cells.size with e|e
  .rw[e]at a;simp at a
  .exact e
 have b:=Nat.mod_lt i g;rw[getElem!_pos z.cells _ b];exact Array.all_eq_true.1 d _ b
def AE{k b:Nat}{z:Value}(mixed:P.follows .mixedOrders=true)(F:Bears P (ρ.f 45) (SlBodyN.n45 ρ))(y:P.underlying (ρ.t 22)=some (TypeDesc.slice (ρ.t 23)))(h:(P.info? (ρ.t 23)).map (λi=>(i.zero,i.size,i.bytes))=some (some z,k,b)):O9 P (ρ.f 45) k z:=by
 obtain⟨v,t,B,u,_⟩:=info_parts h;intro r s n i j w x A a e f g l m o p q c d;exact apK k mixed F y (uH h) z (aFd h) v t u r s n i j w x A a e f g l m o p q c d
end
end Go.af
namespace Go.Proofs.YtadmdaokcgjdiaaGreatDoor
open Go Go.Proofs Go.RowKit Go.Shelf Go.af
def M0(f a rot T E:Nat):Ren:=⟨λn=>match n with
 |22=>f
 |29=>a
 |30=>rot
 |n=>n,λn=>match n with
 |24=>T
 |9=>E
 |n=>n,λn=>n⟩
def AD(f T E:Nat):Ren:=⟨λn=>match n with
 |45=>f
 |n=>n,λn=>match n with
 |22=>T
 |23=>E
 |n=>n,λn=>n⟩
def avD:qV Tryz.prog (M0 201 211 212 112 120) 2 32 (.agg #[.string ⟨#[]⟩,.string ⟨#[]⟩]):=
 have a:(Tryz.prog.info? 120).map (λi=>(i.zero,i.size,i.bytes))=some (some ((.agg #[.string ⟨#[]⟩,.string ⟨#[]⟩]):Value),2,32):=by kernel_rfl
 ⟨mixed,⟨ "slices.Insert[[]rostrum/api.Pair,rostrum/api.Pair]",Ξ,Ξ⟩,Ξ,Ξ,uH a,a,λw dT b o m r n c p q l K d f g h j k=>by
  show(callFunc 211 _).run Tryz.prog w=_;rw[run_callFunc_extern Tryz.func211 Ξ Ξ Ξ (e:=Extern.SlicesOverlaps.overlaps #[112,112] #[4]) Ξ,Lib.run_overlaps_apart w 112 4 120 Ξ 2 (uH a) ⟨dT,0,none⟩ ⟨b,o,none⟩ m r n c d p q l K f g h j k];rfl⟩
abbrev amw:cf:=Hf dd
def axA:ju Tryz.prog 201 amw.hd:=M3 (E:=dd) avD ⟨_,_,Tryz.func201,rfl,Ξ⟩ Δ Ω λm=>Array.length_toList.symm.trans (sn (k:=2) (z:=(.agg #[.string ⟨#[]⟩,.string ⟨#[]⟩])) rfl Ξ m).1
def avE:qV Tryz.prog (M0 204 213 214 53 9) 1 16 (.string ⟨#[]⟩):=
 have a:(Tryz.prog.info? 9).map (λi=>(i.zero,i.size,i.bytes))=some (some ((.string ⟨#[]⟩):Value),1,16):=by kernel_rfl
 ⟨mixed,⟨ "slices.Insert[[]string,string]",Ξ,Ξ⟩,Ξ,Ξ,uH a,a,λw dT b o m r n c p q l K d f g h j k=>by
  show(callFunc 213 _).run Tryz.prog w=_;rw[run_callFunc_extern Tryz.func213 Ξ Ξ Ξ (e:=Extern.SlicesOverlaps.overlaps #[53,53] #[4]) Ξ,Lib.run_overlaps_apart w 53 4 9 Ξ 1 (uH a) ⟨dT,0,none⟩ ⟨b,o,none⟩ m r n c d p q l K f g h j k];rfl⟩
abbrev amz:cf:=Hf bV
def agv:ju Tryz.prog 204 amz.hd:=M3 (E:=bV) avE ⟨_,_,Tryz.func204,rfl,Ξ⟩ Δ Ω λm=>Array.length_toList.symm.trans (sn (k:=1) (z:=(.string ⟨#[]⟩)) rfl Ξ m).1
def avF:qV Tryz.prog (M0 209 217 218 113 123) 2 24 (.agg #[.string ⟨#[]⟩,.int .i64 0]):=
 have a:(Tryz.prog.info? 123).map (λi=>(i.zero,i.size,i.bytes))=some (some ((.agg #[.string ⟨#[]⟩,.int .i64 0]):Value),2,24):=by kernel_rfl
 ⟨mixed,⟨ "slices.Insert[[]rostrum/api.Score,rostrum/api.Score]",Ξ,Ξ⟩,Ξ,Ξ,uH a,a,λw dT b o m r n c p q l K d f g h j k=>by
  show(callFunc 217 _).run Tryz.prog w=_;rw[run_callFunc_extern Tryz.func217 Ξ Ξ Ξ (e:=Extern.SlicesOverlaps.overlaps #[113,113] #[4]) Ξ,Lib.run_overlaps_apart w 113 4 123 Ξ 2 (uH a) ⟨dT,0,none⟩ ⟨b,o,none⟩ m r n c d p q l K f g h j k];rfl⟩
abbrev amE:cf:=Hf c3
def axG:ju Tryz.prog 209 amE.hd:=M3 (E:=c3) avF ⟨_,_,Tryz.func209,rfl,Ξ⟩ Δ Ω λm=>Array.length_toList.symm.trans (sn (k:=2) (z:=(.agg #[.string ⟨#[]⟩,.int .i64 0])) rfl Ξ m).1
abbrev amx:cf:=xn dd
def axB:ju Tryz.prog 202 amx.hd:=AF (E:=dd) (z:=(.agg #[.string ⟨#[]⟩,.string ⟨#[]⟩])) (AE (ρ:=AD 202 112 120) (b:=32) mixed ⟨ "slices.Delete[[]rostrum/api.Pair,rostrum/api.Pair]",Ξ,Ξ⟩ Ξ Ξ) ⟨_,_,Tryz.func202,rfl,Ξ⟩ (sn rfl Ξ)
abbrev amB:cf:=xn bV
def axD:ju Tryz.prog 206 amB.hd:=AF (E:=bV) (z:=(.string ⟨#[]⟩)) (AE (ρ:=AD 206 53 9) (b:=16) mixed ⟨ "slices.Delete[[]string,string]",Ξ,Ξ⟩ Ξ Ξ) ⟨_,_,Tryz.func206,rfl,Ξ⟩ (sn rfl Ξ)
abbrev amC:cf:=xn c3
def axE:ju Tryz.prog 207 amC.hd:=AF (E:=c3) (z:=(.agg #[.string ⟨#[]⟩,.int .i64 0])) (AE (ρ:=AD 207 113 123) (b:=24) mixed ⟨ "slices.Delete[[]rostrum/api.Score,rostrum/api.Score]",Ξ,Ξ⟩ Ξ Ξ) ⟨_,_,Tryz.func207,rfl,Ξ⟩ (sn rfl Ξ)
def avC:qV Tryz.prog (M0 181 196 197 44 117) 8 128 (.agg #[.string ⟨#[]⟩,.int .i64 0,.string ⟨#[]⟩,.int .i64 0,.slice none 0 0,.slice none 0 0,.slice none 0 0,.int .i64 0]):=
 have a:(Tryz.prog.info? 117).map (λi=>(i.zero,i.size,i.bytes))=some (some ((.agg #[.string ⟨#[]⟩,.int .i64 0,.string ⟨#[]⟩,.int .i64 0,.slice none 0 0,.slice none 0 0,.slice none 0 0,.int .i64 0]):Value),8,128):=by kernel_rfl
 ⟨mixed,⟨ "slices.Insert[[]rostrum/api.Entry,rostrum/api.Entry]",Ξ,Ξ⟩,Ξ,Ξ,uH a,a,λw dT b o m r n c p q l K d f g h j k=>by
  show(callFunc 196 _).run Tryz.prog w=_;rw[run_callFunc_extern Tryz.func196 Ξ Ξ Ξ (e:=Extern.SlicesOverlaps.overlaps #[44,44] #[4]) Ξ,Lib.run_overlaps_apart w 44 4 117 Ξ 8 (uH a) ⟨dT,0,none⟩ ⟨b,o,none⟩ m r n c d p q l K f g h j k];rfl⟩
abbrev ak2:cf:=Hf bp
def awC:ju Tryz.prog 181 ak2.hd:=M3 (E:=bp) avC ⟨_,_,Tryz.func181,rfl,Ξ⟩ Δ Ω λm=>Array.length_toList.symm.trans (sn (k:=8) (z:=(.agg #[.string ⟨#[]⟩,.int .i64 0,.string ⟨#[]⟩,.int .i64 0,.slice none 0 0,.slice none 0 0,.slice none 0 0,.int .i64 0])) rfl Ξ m).1
abbrev ak1:cf:=xn bp
def awB:ju Tryz.prog 175 ak1.hd:=AF (E:=bp) (z:=(.agg #[.string ⟨#[]⟩,.int .i64 0,.string ⟨#[]⟩,.int .i64 0,.slice none 0 0,.slice none 0 0,.slice none 0 0,.int .i64 0])) (AE (ρ:=AD 175 44 117) (b:=128) mixed ⟨ "slices.Delete[[]rostrum/api.Entry,rostrum/api.Entry]",Ξ,Ξ⟩ Ξ Ξ) ⟨_,_,Tryz.func175,rfl,Ξ⟩ (sn rfl Ξ)
end Go.Proofs.YtadmdaokcgjdiaaGreatDoor
namespace Go.Proofs.YtadmdaokcgjdiaaGreatDoor
open Go Go.RowKit Go.af
section
variable(A:Int)
def acU:Bool:=(cond (A==4) (A==4) (cond (A==5) (A==5) (A==6)))
def acV:Bool:=(cond (A==7) (A==7) (cond (A==8) (A==8) (cond (A==9) (A==9) (A==10))))
def acW:Bool:=(cond (A==11) (A==11) (cond (A==12) (A==12) (A==13)))
def acX:Bool:=(cond (A==14) (A==14) (cond (A==15) (A==15) (A==16)))
def Bk:Int:=(cond (A==2) 1 (cond (A==3) 2 (cond (acU A) 3 (cond (acV A) 4 (cond (acW A) 5 (cond (acX A) 6 0))))))
def alS:bq:=⟨[.v a],λA=>⟨⟨none,b (Bk A)⟩⟩⟩
def aw3:bx 177 alS:=bA Tryz.func177
 λ(A:Int)=>bD ⟨.pure,[.tmp 2],[(.t 0,a)],⟨[U],[]⟩⟩ (.ae (.s (.ae (.ae (.ae (.ae (.ae (.j ⟨268,[],[(.t 8,K)],[],.f⟩ .z (.ae (.j ⟨4108,[],[(.t 12,K)],[],.f⟩ .z (.ae (.j ⟨131084,[],[(.t 17,K)],[],.f⟩ .z (.ae (.j ⟨2097156,[],[(.t 21,K)],[],.f⟩ .z .z)))))))))))) .z)) True fx Tryz.func177 (trivial)
def acY:Bool:=(cond (A==1) (A==1) (cond (A==3) (A==3) (cond (A==4) (A==4) (cond (A==7) (A==7) (cond (A==8) (A==8) (cond (A==11) (A==11) (A==14)))))))
def Bl:Bool:=(cond (acY A) true false)
def alT:bq:=⟨[.v a],λA=>⟨⟨none,.bool (Bl A)⟩⟩⟩
def aw4:bx 178 alT:=bA Tryz.func178
 λ(A:Int)=>bD ⟨.pure,[.tmp 2],[(.t 0,K)],⟨[U],[]⟩⟩ (.ae (.s (.ae (.j ⟨20,[],[(.t 4,K)],[],.f⟩ .z .z)) .z)) True fx Tryz.func178 (trivial)
def rk:Int:=A
def tf:u:=⟨#[]⟩
def tg:Int:=0
def th:G u:=(B:G u)
def alU:bq:=⟨[.v a],λA=>⟨⟨none,.agg [b (rk A),.str tf,b tg,aP 1 cU th]⟩⟩⟩
def CB:bx 179 alU:=bA Tryz.func179
 λ(A:Int)=>bD ⟨.pure,[.cell 2 55],[(.c 0 0,a),(.c 0 1,al),(.c 0 2,a),(.c 0 3,.ab bV)],⟨[.agg (us 4 [])],[]⟩⟩ (.z) True fx Tryz.func179 (trivial)
def oY:Int:=0
def oZ:u:=⟨#[]⟩
def mU:Int:=A
def o0:G u:=(B:G u)
def amm:bq:=⟨[.v a],λA=>⟨⟨none,.agg [b oY,.str oZ,b (mU A),aP 1 cU o0]⟩⟩⟩
def Hm:bx 190 amm:=bA Tryz.func190
 λ(A:Int)=>bD ⟨.pure,[.cell 2 55],[(.c 0 0,a),(.c 0 1,al),(.c 0 2,a),(.c 0 3,.ab bV)],⟨[.agg (us 4 [])],[]⟩⟩ (.z) True fx Tryz.func190 (trivial)
def FB(A:Bool):Int:=(cond A 1 0)
def amy:bq:=⟨[.v K],λA=>⟨⟨none,b (FB A)⟩⟩⟩
def V4:bx 203 amy:=bA Tryz.func203
 λA=>bD ⟨.pure,[.tmp 2],[(.t 0,a)],⟨[U],[]⟩⟩ (.z) True fx Tryz.func203 (trivial)
end
end Go.Proofs.YtadmdaokcgjdiaaGreatDoor
namespace Go.af
open Go
def nv(p:Nat->Bool):Nat->Int->Int->Int
 |0,_,_=>default
 |k+1,i,j=>bif decide (i<j)then(bif p (toNat (i64 ((u64 (i64 (i+j)))/2^(toNat 1))))then nv p k (i64 ((i64 ((u64 (i64 (i+j)))/2^(toNat 1)))+1)) j
   else nv p k i (i64 ((u64 (i64 (i+j)))/2^(toNat 1))))else i
def aow{i j:Int}(a:0<=i)(b:i<j)(c:j<=549755813888):(i64 ((u64 (i64 (i+j)))/2^(toNat 1)))=(i+j)/2/\i<=(i+j)/2/\(i+j)/2<j:=by
 rw[E (i+j),oB (x:=i+j) Ω Ω,oe,E _];omega
def Ao{p:Nat->Bool}{n:Int}(c:n<=549755813888): ∀(k:Nat) (i j:Int),0<=i->i<=j->j<=n->0<=nv p k i j/\nv p k i j<=n
 |0,_,_,a,d,b=>⟨aZ _,by show(0:Int)<=n;omega⟩
 |k+1,i,j,a,d,b=>by
  simp only[nv]
  by_cases h:i<j
  .obtain⟨e,f,g⟩:=aow a h Ω;simp only[h,wU,aR,e]
   cases p (toNat ((i+j)/2))with
   |true=>
    simp only[aR];rw[E _];exact Ao c k _ _ Ω Ω b
   |false=>
    simp only[aX];exact Ao c k _ _ a Ω Ω
  .simp only[h,zU,aX];omega
end Go.af
