import Derived.Test.YtcpfnfkibnjcfaaGreatDoorXf
import Derived.Shelf.Spec.SlicesGrow
open Go.IntKind (i64 u64 u8)
open Int (toNat)
set_option maxRecDepth 100000
set_option maxHeartbeats 4000000
set_option linter.all false
noncomputable section
namespace Go.Proofs.YtcpfnfkibnjcfaaGreatDoor
open Go Go.RowKit Go.ag
section
def wU(A g:z):Int:=CW A g
def anF:bt:=⟨[.v ar,.v ar],λA g=>⟨⟨none,c (wU A g)⟩⟩⟩
def OU:bE 167 anF:=bG Tryz.func167
 λA _ g _=>bJ ⟨.pure,[.tmp 4],[(.t 0,a)],⟨[U],[]⟩⟩ .z True (cK (aR azo ba)) Tryz.func167 trivial
def uF(A u:z):Int:=wU A u
def anB:bt:=⟨[.g [ar,ar],.g [ar,ar]],λA _ u _=>⟨⟨none,c (uF A u)⟩⟩⟩
def aib:bE 163 anB:=bG Tryz.func163
 λA _ g _ u _ o _=>bJ ⟨.pure,[.tmp 4],[(.t 0,a)],⟨[U],[]⟩⟩ .z True (cK (aR OU ba)) Tryz.func163 trivial
def Gw(A:I bD):Nat->Int->Bool×Bool
 |0,_=>default
 |k+1,b=>cond (decide (b<A.n)) (cond (decide (uF (A.at' (toNat (i64 (b-1)))).r (A.at' b.toNat).r>=0)) (true,false) (Gw A k (i64 (b+1)))) (false,default)
def Gx(A:I bD):Bool×Bool:=Gw A (toNat ((A.n:Int)-1)+1) 1
def ae0(A:I bD):Bool:=cond (Gx A).1 false true
def Gv(A:I bD):Bool:=cond (ae0 A) true (Gx A).2
def anA:bt:=⟨[.v (.ab ds),.fn 163 []],λA=>⟨⟨none,.bool (Gv A)⟩⟩⟩
def ayX:bE 162 anA:=bG Tryz.func162
 λA j _=>bJ ⟨.pure,[.tmp 4],[(.t 0,l)],⟨[U],[]⟩⟩ (.ae (.j ⟨16,[],[],[],.f⟩ (.ae (.c6 ⟨51,[],[],[(.t 5,a)],some 0,true,16,[],[],λk (s:Int)=>Gw A k s,.f,λ(s:Int)=>1<=s/\(s<=(A.n:Int)\/s=1),λ(s:Int)=>toNat ((A.n:Int)-s),none⟩ .z)) .z)) ((1<=(1:Int)/\((1:Int)<=(A.n:Int)\/(1:Int)=1))/\∀(b:Int),let f:=decide (b<A.n);let d:=i64 (b-1);let c:=i64 (b+1);(1<=b/\(b<=(A.n:Int)\/b=1))->(f=true->(0<=d/\d<A.n)/\0<=b/\b<A.n)/\(f=true->decide (uF (A.at' d.toNat).r (A.at' b.toNat).r>=0)=false->(1<=c/\(c<=(A.n:Int)\/c=1))/\toNat ((A.n:Int)-c)<toNat ((A.n:Int)-b))) (cK (aR aib ba)) Tryz.func162 (⟨Ω,λb i=>⟨λe=>⟨have:=al e;have:=E (b-1);Ω,have:=al e;Ω⟩,λg h=>have:=al g;have:=E (b+1);Ω⟩⟩)
def U4(A:I Int):Nat->Int->Bool×Int
 |0,_=>default
 |k+1,b=>let a:=A.at' b.toNat;(cond (decide (b<A.n)) (cond (a !=0) (true,a) (U4 A k (i64 (b+1)))) (false,default))
def afq(A:I Int):Bool×Int:=U4 A (toNat ((A.n:Int)-0)+1) 0
def at5(A:I Int):Bool:=cond (afq A).1 false true
def afp(A:I Int):Int:=cond (at5 A) 0 (afq A).2
def aoi:bt:=⟨[.v (.ab aba)],λA=>⟨⟨none,c (afp A)⟩⟩⟩
def azm:bE 183 aoi:=bG Tryz.func183
 λA i _=>bJ ⟨.pure,[.tmp 2],[(.t 0,a)],⟨[U],[]⟩⟩ (.ae (.ae (.j ⟨12,[],[],[],.f⟩ (.ae (.c6 ⟨460,[],[],[(.t 8,a)],some 0,true,12,[],[],λk (s:Int)=>U4 A k s,.f,λ(s:Int)=>(0<=s/\s<=(A.n:Int)),λ(s:Int)=>(toNat ((A.n:Int)-s)),none⟩ .z)) .z))) (((0<=(0:Int)/\(0:Int)<=(A.n:Int)))/\(∀(b:Int),let d:=decide (b<(A.n:Int));let c:=i64 (b+1);(0<=b/\b<=(A.n:Int))->((d=true->(0<=b/\b<(A.n:Int)))/\(d=true->(((A.at' (toNat b))!=0)=false->((0<=c/\c<=(A.n:Int))/\(toNat ((A.n:Int)-c))<(toNat ((A.n:Int)-b)))))))) gb Tryz.func183 (⟨Ω,(λb h=>⟨(λe=>(by have:=al e;omega)),(λf=>(λg=>(by have:=al f;have:=E (b+1);omega)))⟩)⟩)
def Mx(A:Int):Bool:=A !=A
def aoJ:bt:=⟨[.v a],λA=>⟨⟨none,.bool (Mx A)⟩⟩⟩
def azH:bE 195 aoJ:=bG Tryz.func195
 λ(A:Int)=>bJ ⟨.pure,[.tmp 2],[(.t 0,l)],⟨[U],[]⟩⟩ .z True gb Tryz.func195 trivial
def afr(A g:Int):Int:=cond (Mx A) (cond (Mx g) 0 (-1)) (cond (Mx g) 1 (cond (decide (A<g)) (-1) (cond (decide (A>g)) 1 0)))
def aoj:bt:=⟨[.v a,.v a],λA g=>⟨⟨none,c (afr A g)⟩⟩⟩
def azn:bE 184 aoj:=bG Tryz.func184
 λ(A g:Int)=>bJ ⟨.pure,[.tmp 4],[(.t 0,a)],⟨[U],[]⟩⟩ .z True (cK (aR azH ba)) Tryz.func184 trivial
def uG(A:z)(g:Int)(u:z)(o:Int):Int:=afp (I.lit ([afr g o,wU A u]:List Int))
def anD:bt:=⟨[.g [ar,a],.g [ar,a]],λA g u o=>⟨⟨none,c (uG A g u o)⟩⟩⟩
def aic:bE 165 anD:=bG Tryz.func165
 λA _ (g:Int) u _ (o:Int)=>bJ ⟨.pure,[.tmp 4],[(.t 0,a)],⟨[U],[]⟩⟩ .z True (cK (aR OU (aR azm (aR azn ba)))) Tryz.func165 trivial
def Gz(A:I bW):Nat->Int->Bool×Bool
 |0,_=>default
 |k+1,b=>cond (decide (b<A.n)) (cond (decide (uG (A.at' (toNat (i64 (b-1)))).r (A.at' (toNat (i64 (b-1)))).K (A.at' b.toNat).r (A.at' b.toNat).K>=0)) (true,false) (Gz A k (i64 (b+1)))) (false,default)
variable(A:I bW)(g:z)(u:Int)(o:I bD)(v:I z)(d:I bW)
def GC:Bool×Bool:=Gz A (toNat ((A.n:Int)-1)+1) 1
def ae1:Bool:=cond (GC A).1 false true
def Gy:Bool:=cond (ae1 A) true (GC A).2
def anC:bt:=⟨[.v (.ab dc),.fn 165 []],λA=>⟨⟨none,.bool (Gy A)⟩⟩⟩
def ayY:bE 164 anC:=bG Tryz.func164
 λA m _=>bJ ⟨.pure,[.tmp 4],[(.t 0,l)],⟨[U],[]⟩⟩ (.ae (.j ⟨16,[],[],[],.f⟩ (.ae (.c6 ⟨51,[],[],[(.t 5,a)],some 0,true,16,[],[],λk (s:Int)=>Gz A k s,.f,λ(s:Int)=>1<=s/\(s<=(A.n:Int)\/s=1),λ(s:Int)=>toNat ((A.n:Int)-s),none⟩ .z)) .z)) ((1<=(1:Int)/\((1:Int)<=(A.n:Int)\/(1:Int)=1))/\∀(b:Int),let g:=A.at' b.toNat;let f:=decide (b<A.n);let d:=i64 (b+1);let c:=i64 (b-1);(1<=b/\(b<=(A.n:Int)\/b=1))->(f=true->(0<=c/\c<A.n)/\0<=b/\b<A.n)/\(f=true->decide (uG (A.at' c.toNat).r (A.at' c.toNat).K g.r g.K>=0)=false->(1<=d/\(d<=(A.n:Int)\/d=1))/\toNat ((A.n:Int)-d)<toNat ((A.n:Int)-b))) (cK (aR aic ba)) Tryz.func164 (⟨Ω,λb j=>⟨λe=>⟨have:=al e;have:=E (b-1);Ω,have:=al e;Ω⟩,λh i=>have:=al h;have:=E (b+1);Ω⟩⟩)
def GF(A:I z):Nat->Int->Bool×Bool
 |0,_=>default
 |k+1,b=>cond (decide (b<A.n)) (cond (decide (wU (A.at' (toNat (i64 (b-1)))) (A.at' b.toNat)>=0)) (true,false) (GF A k (i64 (b+1)))) (false,default)
def GG(A:I z):Bool×Bool:=GF A (toNat ((A.n:Int)-1)+1) 1
def ae2(A:I z):Bool:=cond (GG A).1 false true
def GD(A:I z):Bool:=cond (ae2 A) true (GG A).2
def anE:bt:=⟨[.v (.ab b1),.fn 167 []],λA=>⟨⟨none,.bool (GD A)⟩⟩⟩
def ayZ:bE 166 anE:=bG Tryz.func166
 λA j _=>bJ ⟨.pure,[.tmp 4],[(.t 0,l)],⟨[U],[]⟩⟩ (.ae (.j ⟨16,[],[],[],.f⟩ (.ae (.c6 ⟨51,[],[],[(.t 5,a)],some 0,true,16,[],[],λk (s:Int)=>GF A k s,.f,λ(s:Int)=>1<=s/\(s<=(A.n:Int)\/s=1),λ(s:Int)=>toNat ((A.n:Int)-s),none⟩ .z)) .z)) ((1<=(1:Int)/\((1:Int)<=(A.n:Int)\/(1:Int)=1))/\∀(b:Int),let f:=decide (b<A.n);let d:=i64 (b-1);let c:=i64 (b+1);(1<=b/\(b<=(A.n:Int)\/b=1))->(f=true->(0<=d/\d<A.n)/\0<=b/\b<A.n)/\(f=true->decide (wU (A.at' d.toNat) (A.at' b.toNat)>=0)=false->(1<=c/\(c<=(A.n:Int)\/c=1))/\toNat ((A.n:Int)-c)<toNat ((A.n:Int)-b))) (cK (aR OU ba)) Tryz.func166 (⟨Ω,λb i=>⟨λe=>⟨have:=al e;have:=E (b-1);Ω,have:=al e;Ω⟩,λg h=>have:=al g;have:=E (b+1);Ω⟩⟩)
def Ux(A:z):Bool:=(!(kf A))
def ans:bt:=⟨[.v ar],λA=>⟨⟨none,.bool (Ux A)⟩⟩⟩
def ayQ:bE 156 ans:=bG Tryz.func156
 λA _=>bJ ⟨.pure,[.tmp 2],[(.t 0,l)],⟨[U],[]⟩⟩ .z True (cK (aR IP ba)) Tryz.func156 trivial
def Mh(A:I z):Nat->Int->Bool×Int
 |0,_=>default
 |k+1,b=>cond (decide (b<A.n)) (cond (Ux (A.at' b.toNat)) (true,b) (Mh A k (i64 (b+1)))) (false,default)
def afh(A:I z):Bool×Int:=Mh A (toNat ((A.n:Int)-0)+1) 0
def at0(A:I z):Bool:=cond (afh A).1 false true
def afg(A:I z):Int:=cond (at0 A) (-1) (afh A).2
def aoc:bt:=⟨[.v (.ab b1),.fn 156 []],λA=>⟨⟨none,c (afg A)⟩⟩⟩
def azg:bE 169 aoc:=bG Tryz.func169
 λA i _=>bJ ⟨.pure,[.tmp 4],[(.t 0,a)],⟨[U],[]⟩⟩ (.ae (.j ⟨16,[],[],[],.f⟩ (.ae (.c6 ⟨403,[],[],[(.t 8,a)],some 0,true,16,[],[],λk (s:Int)=>Mh A k s,.f,λ(s:Int)=>0<=s/\s<=A.n,λ(s:Int)=>toNat ((A.n:Int)-s),none⟩ .z)) .z)) ((0<=(0:Int)/\(0:Int)<=(A.n:Int))/\∀(b:Int),let d:=decide (b<A.n);let c:=i64 (b+1);(0<=b/\b<=A.n)->(d=true->0<=b/\b<A.n)/\(d=true->Ux (A.at' b.toNat)=false->(0<=c/\c<=A.n)/\toNat ((A.n:Int)-c)<toNat ((A.n:Int)-b))) (cK (aR ayQ ba)) Tryz.func169 (⟨Ω,λb h=>⟨λe=>have:=al e;Ω,λf g=>have:=al f;have:=E (b+1);Ω⟩⟩)
def Gk(A:I z):Bool:=decide (afg A>=0)
def ana:bt:=⟨[.v (.ab b1),.fn 156 []],λA=>⟨⟨none,.bool (Gk A)⟩⟩⟩
def ayG:bE 145 ana:=bG Tryz.func145
 λA _ _=>bJ ⟨.pure,[.tmp 4],[(.t 0,l)],⟨[U],[]⟩⟩ .z True (cK (aR azg ba)) Tryz.func145 trivial
def Uy(A g:z):Bool:=cond (!(lM A)) true (!(kf g))
def zd(A g:z):Bool:=Uy A g
def anu:bt:=⟨[.g [ar,ar]],λA g=>⟨⟨none,.bool (zd A g)⟩⟩⟩
def ayS:bE 158 anu:=bG Tryz.func158
 λA _ g _=>bJ ⟨.pure,[.tmp 2],[(.t 0,l)],⟨[U],[]⟩⟩ (.ae (.j ⟨4,[.b 0],[(.t 2,l)],[],.f⟩ .z .z)) True (cK (aR ah_ (aR IP ba))) Tryz.func158 trivial
def Mi(A:I bD):Nat->Int->Bool×Int
 |0,_=>default
 |k+1,b=>let a:=A.at' b.toNat;(cond (decide (b<A.n)) (cond (zd a.r a.K) (true,b) (Mi A k (i64 (b+1)))) (false,default))
def afk(A:I bD):Bool×Int:=Mi A (toNat ((A.n:Int)-0)+1) 0
def at2(A:I bD):Bool:=cond (afk A).1 false true
def afj(A:I bD):Int:=cond (at2 A) (-1) (afk A).2
def aoe:bt:=⟨[.v (.ab ds),.fn 158 []],λA=>⟨⟨none,c (afj A)⟩⟩⟩
def azi:bE 181 aoe:=bG Tryz.func181
 λA j _=>bJ ⟨.pure,[.tmp 4],[(.t 0,a)],⟨[U],[]⟩⟩ (.ae (.j ⟨16,[],[],[],.f⟩ (.ae (.c6 ⟨403,[],[],[(.t 8,a)],some 0,true,16,[],[],λk (s:Int)=>Mi A k s,.f,λ(s:Int)=>0<=s/\s<=A.n,λ(s:Int)=>toNat ((A.n:Int)-s),none⟩ .z)) .z)) ((0<=(0:Int)/\(0:Int)<=(A.n:Int))/\∀(b:Int),let e:=A.at' b.toNat;let d:=decide (b<A.n);let c:=i64 (b+1);(0<=b/\b<=A.n)->(d=true->0<=b/\b<A.n)/\(d=true->zd e.r e.K=false->(0<=c/\c<=A.n)/\toNat ((A.n:Int)-c)<toNat ((A.n:Int)-b))) (cK (aR ayS ba)) Tryz.func181 (⟨Ω,λb i=>⟨λf=>have:=al f;Ω,λg h=>have:=al g;have:=E (b+1);Ω⟩⟩)
def CG(A:I bD):Bool:=decide (afj A>=0)
def ant:bt:=⟨[.v (.ab ds),.fn 158 []],λA=>⟨⟨none,.bool (CG A)⟩⟩⟩
def ayR:bE 157 ant:=bG Tryz.func157
 λA _ _=>bJ ⟨.pure,[.tmp 4],[(.t 0,l)],⟨[U],[]⟩⟩ .z True (cK (aR azi ba)) Tryz.func157 trivial
def Uz(A:z):Bool:=(!(kf A))
def anx:bt:=⟨[.g [ar,a]],λA _=>⟨⟨none,.bool (Uz A)⟩⟩⟩
def ayV:bE 160 anx:=bG Tryz.func160
 λA _ (g:Int)=>bJ ⟨.pure,[.tmp 2],[(.t 0,l)],⟨[U],[]⟩⟩ .z True (cK (aR IP ba)) Tryz.func160 trivial
def Mj(A:I bW):Nat->Int->Bool×Int
 |0,_=>default
 |k+1,b=>cond (decide (b<A.n)) (cond (Uz (A.at' b.toNat).r) (true,b) (Mj A k (i64 (b+1)))) (false,default)
def afm:Bool×Int:=Mj A (toNat ((A.n:Int)-0)+1) 0
def at3:Bool:=cond (afm A).1 false true
def afl:Int:=cond (at3 A) (-1) (afm A).2
def aof:bt:=⟨[.v (.ab dc),.fn 160 []],λA=>⟨⟨none,c (afl A)⟩⟩⟩
def azj:bE 182 aof:=bG Tryz.func182
 λA i _=>bJ ⟨.pure,[.tmp 4],[(.t 0,a)],⟨[U],[]⟩⟩ (.ae (.j ⟨16,[],[],[],.f⟩ (.ae (.c6 ⟨403,[],[],[(.t 8,a)],some 0,true,16,[],[],λk (s:Int)=>Mj A k s,.f,λ(s:Int)=>0<=s/\s<=A.n,λ(s:Int)=>toNat ((A.n:Int)-s),none⟩ .z)) .z)) ((0<=(0:Int)/\(0:Int)<=(A.n:Int))/\∀(b:Int),let d:=decide (b<A.n);let c:=i64 (b+1);(0<=b/\b<=A.n)->(d=true->0<=b/\b<A.n)/\(d=true->Uz (A.at' b.toNat).r=false->(0<=c/\c<=A.n)/\toNat ((A.n:Int)-c)<toNat ((A.n:Int)-b))) (cK (aR ayV ba)) Tryz.func182 (⟨Ω,λb h=>⟨λe=>have:=al e;Ω,λf g=>have:=al f;have:=E (b+1);Ω⟩⟩)
def CH:Bool:=decide (afl A>=0)
def anv:bt:=⟨[.v (.ab dc),.fn 160 []],λA=>⟨⟨none,.bool (CH A)⟩⟩⟩
def ayT:bE 159 anv:=bG Tryz.func159
 λA _ _=>bJ ⟨.pure,[.tmp 4],[(.t 0,l)],⟨[U],[]⟩⟩ .z True (cK (aR azj ba)) Tryz.func159 trivial
def UA(g:Int):Bool:=(!(jV g))
def anz:bt:=⟨[.g [ar,a]],λ_ g=>⟨⟨none,.bool (UA g)⟩⟩⟩
def ayW:bE 161 anz:=bG Tryz.func161
 λA _ (g:Int)=>bJ ⟨.pure,[.tmp 2],[(.t 0,l)],⟨[U],[]⟩⟩ .z True (cK (aR OS ba)) Tryz.func161 trivial
def Mk(A:I bW):Nat->Int->Bool×Int
 |0,_=>default
 |k+1,b=>cond (decide (b<A.n)) (cond (UA (A.at' b.toNat).K) (true,b) (Mk A k (i64 (b+1)))) (false,default)
def afo:Bool×Int:=Mk A (toNat ((A.n:Int)-0)+1) 0
def at4:Bool:=cond (afo A).1 false true
def afn:Int:=cond (at4 A) (-1) (afo A).2
def aog:bt:=⟨[.v (.ab dc),.fn 161 []],λA=>⟨⟨none,c (afn A)⟩⟩⟩
def azk:bE 182 aog:=bG Tryz.func182
 λA i _=>bJ ⟨.pure,[.tmp 4],[(.t 0,a)],⟨[U],[]⟩⟩ (.ae (.j ⟨16,[],[],[],.f⟩ (.ae (.c6 ⟨403,[],[],[(.t 8,a)],some 0,true,16,[],[],λk (s:Int)=>Mk A k s,.f,λ(s:Int)=>0<=s/\s<=A.n,λ(s:Int)=>toNat ((A.n:Int)-s),none⟩ .z)) .z)) ((0<=(0:Int)/\(0:Int)<=(A.n:Int))/\∀(b:Int),let d:=decide (b<A.n);let c:=i64 (b+1);(0<=b/\b<=A.n)->(d=true->0<=b/\b<A.n)/\(d=true->UA (A.at' b.toNat).K=false->(0<=c/\c<=A.n)/\toNat ((A.n:Int)-c)<toNat ((A.n:Int)-b))) (cK (aR ayW ba)) Tryz.func182 (⟨Ω,λb h=>⟨λe=>have:=al e;Ω,λf g=>have:=al f;have:=E (b+1);Ω⟩⟩)
def Gu:Bool:=decide (afn A>=0)
def anw:bt:=⟨[.v (.ab dc),.fn 161 []],λA=>⟨⟨none,.bool (Gu A)⟩⟩⟩
def ayU:bE 159 anw:=bG Tryz.func159
 λA _ _=>bJ ⟨.pure,[.tmp 4],[(.t 0,l)],⟨[U],[]⟩⟩ .z True (cK (aR azk ba)) Tryz.func159 trivial
def k6:Int:=i64 (i64 ((o.n:Int)+(v.n:Int))+(d.n:Int))
def anr:bt:=⟨[.g [a,ar,a,.ab ds,.ab b1,.ab dc]],λ_ _ _ o v d=>⟨⟨none,c (k6 o v d)⟩⟩⟩
def XG:bE 155 anr:=bG Tryz.func155
 λ(A:Int) g _ (u:Int) o _ _ v _ _ d _ _=>bJ ⟨.pure,[.tmp 2],[(.t 0,a)],⟨[U],[]⟩⟩ .z True gb Tryz.func155 trivial
def zo(A u:z):Bool:=(A:z).toList==(u:z).toList
def aor:bt:=⟨[.g [ar,a],.r [ar]],λA _ u=>⟨⟨none,.bool (zo A u)⟩⟩⟩
def azu:bE 186 aor:=bG Tryz.func186
 λA _ (g:Int) u=>bJ ⟨.pure,[.tmp 3],[(.t 0,l)],⟨[U],[]⟩⟩ .z True gb Tryz.func186 trivial
def CU(A:I bW)(g:z):Nat->Int->Bool×Int
 |0,_=>default
 |k+1,b=>cond (decide (b<A.n)) (cond (zo (A.at' b.toNat).r g) (true,b) (CU A g k (i64 (b+1)))) (false,default)
def CV:Bool×Int:=CU A g (toNat ((A.n:Int)-0)+1) 0
def U3:Bool:=cond (CV A g).1 false true
def Ml:Int:=cond (U3 A g) (-1) (CV A g).2
def aoh:bt:=⟨[.v (.ab dc),.fn 186 [[ar]]],λA g=>⟨⟨none,c (Ml A g)⟩⟩⟩
def azl:bE 182 aoh:=bG Tryz.func182
 λA j _ g=>bJ ⟨.pure,[.tmp 4],[(.t 0,a)],⟨[U],[]⟩⟩ (.ae (.j ⟨16,[],[],[],.f⟩ (.ae (.c6 ⟨403,[],[],[(.t 8,a)],some 0,true,16,[],[],λk (s:Int)=>CU A g k s,.f,λ(s:Int)=>0<=s/\s<=A.n,λ(s:Int)=>toNat ((A.n:Int)-s),none⟩ .z)) .z)) ((0<=(0:Int)/\(0:Int)<=(A.n:Int))/\∀(b:Int),let d:=decide (b<A.n);let c:=i64 (b+1);(0<=b/\b<=A.n)->(d=true->0<=b/\b<A.n)/\(d=true->zo (A.at' b.toNat).r g=false->(0<=c/\c<=A.n)/\toNat ((A.n:Int)-c)<toNat ((A.n:Int)-b))) (cK (aR azu ba)) Tryz.func182 (⟨Ω,λb i=>⟨λe=>have:=al e;Ω,λf h=>have:=al f;have:=E (b+1);Ω⟩⟩)
def kE:Int:=Ml A g
def anG:bt:=⟨[.v (.ab dc),.v ar],λA g=>⟨⟨none,c (kE A g)⟩⟩⟩
def aid:bE 168 anG:=bG Tryz.func168
 λA _ _ g _=>bJ ⟨.pure,[.tmp 4],[(.t 0,a)],⟨[U],[]⟩⟩ (.ae (.s (.iL 3 0 .z) .z)) True (cK (aR azl ba)) Tryz.func168 trivial
def u6(A:Int):Bool:=cond (decide (A<1)) true (decide (A>6))
def agM(A:Int)(g:z):z:=cond (A==1) ε g
def agN(A u:Int):Int:=cond (A==1) u (cond (A==2) 0 u)
def u7(A:Int)(o:I bD):I bD:=cond (A==1) o (cond (A==2) o (cond (A==3) (B:I bD) o))
def u9(A:Int)(v:I z):I z:=cond (A==1) v (cond (A==2) v (cond (A==3) v (cond (A==6) v (B:I z))))
def u_(A:Int)(d:I bW):I bW:=cond (A==1) d (cond (A==2) d (cond (A==3) d (cond (A==6) (B:I bW) d)))
def nR(A:Int)(g:z)(u:Int)(o:I bD)(v:I z)(d:I bW):Bool:=cond (!(((agM A g):z).toList==ε.toList)) true (cond (agN A u !=0) true (decide (k6 (u7 A o) (u9 A v) (u_ A d)>0)))
def qi(A:Int)(o:I bD)(v:I z)(d:I bW):Bool:=cond (decide (A>=3)) (cond (decide (k6 o v d<1)) true (decide (k6 o v d>20))) false
def s0:Bool:=cond (!(kf g)) true (Gk v)
def sZ:Bool:=cond (!(jV u)) true (Gu d)
def ND(A:Int)(o:I bD)(v:I z)(d:I bW):Bool:=cond (Gv o) (cond (Gy d) (cond (A !=5) true (GD v)) false) false
def NF(b:Bool)(a:Int):Bool:=cond b (decide (kE (I.part d 0 a) (d.at' a.toNat).r<0)) false
def z5(d:I bW):Nat->Bool->Int->Bool
 |0,_,_=>default
 |k+1,b,a=>cond (decide (a<d.n)) (z5 d k (NF d b a) (i64 (a+1))) b
def NG(A:Int)(o:I bD)(v:I z)(d:I bW):Bool:=z5 d (toNat ((d.n:Int)-0)+1) (ND A o v d) 0
def jE(A:Int)(g:z)(u:Int)(o:I bD)(v:I z)(d:I bW):Int:=cond (u6 A) 3 (cond (nR A g u o v d) 8 (cond (qi A o v d) 1 (cond (s0 g v) 1 (cond (CG o) 1 (cond (CH d) 1 (cond (sZ u d) 2 (cond (!(NG A o v d)) 10 0)))))))
def apz:bt:=⟨[.g [a,ar,a,.ab ds,.ab b1,.ab dc]],λA g u o v d=>⟨⟨none,c (jE A g u o v d)⟩⟩⟩
def aiF:bE 144 apz:=bG Tryz.func144
 λ(A:Int) g y (u:Int) o z _ v B _ d C _=>bJ ⟨.pure,[.tmp 2],[(.t 0,a)],⟨[U],[]⟩⟩ (.ae (.s (.j ⟨16390,[],[(.t 14,l)],[],.f⟩ .z .z) (.ae (.j ⟨14,[],[(.h 1 1,ar),(.h 1 2,a),(.h 1 3,.ab ds),(.h 1 4,.ab b1),(.h 1 5,.ab dc)],[.b .f .l,.b .f (.b .f .l),.b .f (.b .f (.b .f .l)),.f,.f],.f⟩ .z (.s (.j ⟨8796093022214,[.b 1],[(.t 43,l)],[],.f⟩ .z .z) (.s (.j ⟨72057594037927942,[],[(.t 56,l)],[],.f⟩ .z .z) (.s (.j ⟨36893488147419103238,[],[(.t 65,l)],[],.f⟩ .z .z) (.ae (.ae (.s (.j ⟨1208925819614629174706182,[],[(.t 80,l)],[],.f⟩ .z .z) (.j ⟨22,[],[(.t 4,l)],[],.f⟩ .z (.j ⟨20,[],[],[],.f⟩ (.ae (.c6 ⟨8873554201597605810476922437654,[],[],[(.t 4,l),(.t 102,a)],some 1,false,20,[.b 0],[(.t 4,l)],λk (s:Bool×Int)=>z5 d k s.1 s.2,.f,λ(s:Bool×Int)=>0<=s.2/\s.2<=(d.n:Int),λ(s:Bool×Int)=>toNat ((d.n:Int)-s.2),none⟩ (.ae (.ae (.s (.ae (.j ⟨166801268929831109337140697872990326,[],[(.t 4,l),(.t 108,l),(.t 117,l)],[],.f⟩ .z .z)) .z))))) .z)))))))))))) (u6 A=false->nR A g u o v d=false->qi A o v d=false->s0 g v=false->CG o=false->CH d=false->sZ u d=false->(0<=(0:Int)/\(0:Int)<=(d.n:Int))/\∀(n:Bool) (b:Int),let p:=decide (b<d.n);let j:=i64 (b+1);(0<=b/\b<=d.n)->(p=true->(0<=b/\b<d.n)/\(n=true->(0:Int)<=0/\(0:Int)<=b/\(b:Int)<=b/\(b:Int)<=(d.n:Int)))/\(p=true->(0<=j/\j<=d.n)/\toNat ((d.n:Int)-j)<toNat ((d.n:Int)-b))) (cK (aR ayG (aR IP (aR OS (aR XG (aR ayR (aR ayT (aR ayU (aR ayX (aR ayY (aR ayZ (aR aid ba)))))))))))) Tryz.func144 (λc e f h t w i=>⟨by have:=c;simp [u6]at this;have:=e;simp [nR]at this;have:=f;simp [qi]at this;have:=h;simp [s0]at this;have:=i;simp [sZ]at this;omega,(λn b x=>⟨λm=>⟨by have:=c;simp [u6]at this;have:=e;simp [nR]at this;have:=f;simp [qi]at this;have:=h;simp [s0]at this;have:=i;simp [sZ]at this;have:=al m;omega,λr=>by have:=c;simp [u6]at this;have:=e;simp [nR]at this;have:=f;simp [qi]at this;have:=h;simp [s0]at this;have:=i;simp [sZ]at this;have:=al m;omega⟩,(λq=>by have:=c;simp [u6]at this;have:=e;simp [nR]at this;have:=f;simp [qi]at this;have:=h;simp [s0]at this;have:=i;simp [sZ]at this;have:=al q;first|omega|(have:=E (b+1);omega))⟩)⟩)
end
section
variable(A:Int)(g:I ah)(eu:Int)
def xC:Bool:=cond (decide (A<0)) true (cond (decide (A>1073741824)) true (decide ((g.n:Int)>12)))
def nS:Bool:=cond (decide ((((g.at' eu.toNat).r:z).size:Int)<1)) true (cond (decide ((((g.at' eu.toNat).r:z).size:Int)>12)) true (cond (jE (g.at' eu.toNat).K (g.at' eu.toNat).G (g.at' eu.toNat).q (g.at' eu.toNat).j (g.at' eu.toNat).m (g.at' eu.toNat).ak !=0) true (cond (decide (eu>0)) (!(Op.bytesLess (((g.at' (toNat (i64 (eu-1)))).r:z).toList) (((g.at' eu.toNat).r:z).toList))) false)))
def o7:Bool:=cond ((g.at' eu.toNat).aA !=0) (cond (decide ((g.at' eu.toNat).aA<=A)) true (decide ((g.at' eu.toNat).aA>1073741824))) false
def rz(A:Int)(g:I ah):Nat->Int->Bool×Int
 |0,_=>default
 |k+1,eu=>cond (decide (eu<g.n)) (cond (nS g eu) (true,13) (cond (o7 A g eu) (true,13) (rz A g k (i64 (eu+1))))) (false,default)
def H4:Bool×Int:=rz A g (toNat ((g.n:Int)-0)+1) 0
def NI:Bool:=cond (H4 A g).1 false true
def iv:Int:=cond (xC A g) 13 (cond (NI A g) 0 (H4 A g).2)
def apB:bt:=⟨[.g [a,.ab bx]],λA g=>⟨⟨none,c (iv A g)⟩⟩⟩
def aiH:bE 131 apB:=bG Tryz.func131
 λ(A:Int) g t _=>bJ ⟨.pure,[.tmp 2],[(.t 0,a)],⟨[U],[]⟩⟩ (.ae (.s (.j ⟨262150,[],[(.t 18,l)],[],.f⟩ .z .z) (.j ⟨4,[],[],[],.f⟩ (.ae (.c6 ⟨7340038,[],[],[(.t 22,a)],some 0,true,4,[.b 0],[],λk (s:Int)=>rz A g k s,.f,λ(s:Int)=>0<=s/\s<=g.n,λ(s:Int)=>toNat ((g.n:Int)-s),none⟩ (.ae (.ae (.s (.ae (.s (.j ⟨288243780743594014,[],[(.t 31,l),(.t 36,l),(.t 37,l),(.t 42,l),(.t 43,l),(.t 58,l)],[.b .f .l,.b .f .l,.b .f (.b .f .l),.b .f (.b .f .l),.b .f (.b .f (.b .f .l)),.f],.f⟩ .z .z) (.j ⟨9453668120804585373726,[],[(.t 62,l),(.t 73,l)],[.b .l .f,.f],.f⟩ .z .z))) .z))))) .z))) (xC A g=false->(0<=(0:Int)/\(0:Int)<=(g.n:Int))/\∀(eu:Int),let h:=i64 (eu-1);let f:=decide (eu<g.n);let d:=i64 (eu+1);let b:=g.at' eu.toNat;(0<=eu/\eu<=g.n)->(f=true->(0<=eu/\eu<g.n)/\(decide (((b.r:z).size:Int)<1)=false->decide (((b.r:z).size:Int)>12)=false->(jE b.K b.G b.q b.j b.m b.ak !=0)=false->decide (eu>0)=true->0<=h/\h<g.n))/\(f=true->nS g eu=false->o7 A g eu=false->(0<=d/\d<=g.n)/\toNat ((g.n:Int)-d)<toNat ((g.n:Int)-eu))) (cK (aR aiF ba)) Tryz.func131 (λc=>⟨by have:=c;simp [xC]at this;omega,(λeu r=>⟨(λe=>⟨by have:=c;simp [xC]at this;have:=al e;omega,(λj m n o=>by have:=c;simp [xC]at this;have:=al e;have:=hy j;have:=hy m;have:=bP n;have:=al o;first|omega|(have:=E (eu-1);omega))⟩),(λp q i=>by have:=c;simp [xC]at this;have:=al p;have:=q;simp [nS]at this;have:=i;simp [o7]at this;first|omega|(have:=E (eu+1);omega))⟩)⟩)
end
section
variable(A:Int)(g:I ah)(u:Int)(o:I ay)(bC:Int)
def vd:Bool:=cond (iv A g !=0) true (cond (decide (u<1)) true (cond (decide (u>1048577)) true (decide ((o.n:Int)>4))))
def vf:Bool:=cond (decide ((o.at' bC.toNat).r<1)) true (cond (decide ((o.at' bC.toNat).r>=u)) true (cond (decide (bC>0)) (decide ((o.at' (toNat (i64 (bC-1)))).r>=(o.at' bC.toNat).r)) false))
def ve:Bool:=cond (decide ((o.at' bC.toNat).K<0)) true (cond (decide ((o.at' bC.toNat).K>1048576)) true (cond (decide ((o.at' bC.toNat).G<0)) true (cond (decide ((o.at' bC.toNat).G>A)) true (sV (o.at' bC.toNat).q (o.at' bC.toNat).j (o.at' bC.toNat).m (o.at' bC.toNat).ak !=0))))
def vc(A u:Int)(o:I ay):Nat->Int->Bool×Int
 |0,_=>default
 |k+1,bC=>cond (decide (bC<o.n)) (cond (vf u o bC) (true,13) (cond (ve A o bC) (true,13) (vc A u o k (i64 (bC+1))))) (false,default)
def NU:Bool×Int:=vc A u o (toNat ((o.n:Int)-0)+1) 0
def V4:Bool:=cond (NU A u o).1 false true
def eK:Int:=cond (vd A g u o) 13 (cond (V4 A u o) 0 (NU A u o).2)
def apD:bt:=⟨[.g [a,.ab bx,a,.ab b8]],λA g u o=>⟨⟨none,c (eK A g u o)⟩⟩⟩
def OZ:bE 104 apD:=bG Tryz.func104
 λ(A:Int) g t _ (u:Int) o v _=>bJ ⟨.pure,[.tmp 2],[(.t 0,a)],⟨[U],[]⟩⟩ (.ae (.s (.j ⟨16777222,[],[(.t 24,l)],[],.f⟩ .z .z) (.j ⟨4,[],[],[],.f⟩ (.ae (.c6 ⟨469762054,[],[],[(.t 28,a)],some 0,true,4,[.b 0],[],λk (s:Int)=>vc A u o k s,.f,λ(s:Int)=>0<=s/\s<=o.n,λ(s:Int)=>toNat ((o.n:Int)-s),none⟩ (.ae (.ae (.s (.ae (.s (.j ⟨288243707663089694,[],[(.t 36,l),(.t 42,l),(.t 43,l),(.t 58,l)],[.b .f .l,.b .f .l,.b .f (.b .f .l),.f],.f⟩ .z .z) (.j ⟨40506328802898258549538846,[],[(.t 62,l),(.t 66,l),(.t 67,l),(.t 71,l),(.t 72,l),(.t 79,l),(.t 80,l),(.t 85,l)],[.b .f .l,.b .f .l,.b .f (.b .f .l),.b .f (.b .f .l),.b .f (.b .f (.b .f .l)),.b .f (.b .f (.b .f .l)),.f,.f],.f⟩ .z .z))) .z))))) .z))) (vd A g u o=false->(0<=(0:Int)/\(0:Int)<=(o.n:Int))/\∀(bC:Int),let h:=o.at' bC.toNat;let f:=i64 (bC-1);let e:=decide (bC<o.n);let c:=i64 (bC+1);(0<=bC/\bC<=o.n)->(e=true->(0<=bC/\bC<o.n)/\(decide (h.r<1)=false->decide (h.r>=u)=false->decide (bC>0)=true->0<=f/\f<o.n))/\(e=true->vf u o bC=false->ve A o bC=false->(0<=c/\c<=o.n)/\toNat ((o.n:Int)-c)<toNat ((o.n:Int)-bC))) (cK (aR aAl (aR aiH ba))) Tryz.func104 (λb=>⟨by have:=b;simp [vd]at this;omega,(λbC r=>⟨(λd=>⟨by have:=b;simp [vd]at this;have:=al d;omega,(λi j m=>by have:=b;simp [vd]at this;have:=al d;have:=hy i;have:=hy j;have:=al m;first|omega|(have:=E (bC-1);omega))⟩),(λn p q=>by have:=b;simp [vd]at this;have:=al n;have:=p;simp [vf]at this;have:=q;simp [ve]at this;first|omega|(have:=E (bC+1);omega))⟩)⟩)
end
section
variable(A g:Int)
def Ma:Bool:=cond (decide (A>=1)) (decide (A<=1048576)) false
def pW:Bool:=Ma A
def anJ:bt:=⟨[.v a],λA=>⟨⟨none,.bool (pW A)⟩⟩⟩
def aif:bE 111 anJ:=bG Tryz.func111
 λ(A:Int)=>bJ ⟨.pure,[.tmp 2],[(.t 0,l)],⟨[U],[]⟩⟩ (.ae (.j ⟨4,[],[(.t 2,l)],[],.f⟩ .z .z)) True gb Tryz.func111 trivial
def H_:Bool:=cond (!(pW A)) true (!(pW g))
def nf(u:Int)(o:I ah)(v:Int)(d:I ay):Int:=cond (H_ A g) 2 (eK u o v d)
def apE:bt:=⟨[.g [a,a,a,.ab bx,a,.ab b8]],λA g u o v d=>⟨⟨none,c (nf A g u o v d)⟩⟩⟩
def aiJ:bE 91 apE:=bG Tryz.func91
 λ(A g u:Int) o _ _ (v:Int) d _ _=>bJ ⟨.pure,[.tmp 2],[(.t 0,a)],⟨[U],[]⟩⟩ (.ae (.s (.j ⟨4102,[],[(.t 12,l)],[],.f⟩ .z .z) .z)) True (cK (aR OZ (aR aif ba))) Tryz.func91 trivial
end
section
variable(A g u:Int)(o:I ah)(v:Int)(d:I ay)
def atX:Bool:=cond (A==0) (cond (g==0) (cond (v==0) (cond ((d.n:Int)==0) (cond (u==0) ((o.n:Int)==0) false) false) false) false) false
def GZ:Bool:=atX A g u o v d
def an2:bt:=⟨[.g [a,a,a,.ab bx,a,.ab b8]],λA g u o v d=>⟨⟨none,.bool (GZ A g u o v d)⟩⟩⟩
def ay_:bE 114 an2:=bG Tryz.func114
 λ(A g u:Int) o _ _ (v:Int) d _ _=>bJ ⟨.pure,[.tmp 2],[(.t 0,l)],⟨[U],[]⟩⟩ (.ae (.ae (.j ⟨4,[.b 0,.b 1],[(.t 2,l)],[],.f⟩ .z .z))) True gb Tryz.func114 trivial
def NW:Bool:=cond (decide (A<1)) true (decide (A>3))
def NY(o v d:Int)(y:Bool)(F p x:Int)(ao bR b6:z)(cl cF dX dH:Int)(dy:I ah)(dI:Int)(dz:I ay):Bool:=cond (A !=1) (cond (g !=0) true (cond (u !=0) true (cond (A !=2) (cond (o !=0) true (cond (!((v==0)&&((d==0)&&((y==false)&&((F==0)&&((p==0)&&((x==0)&&(((ao:z).toList==ε.toList)&&(((bR:z).toList==ε.toList)&&(((b6:z).toList==ε.toList)&&((cl==0)&&true))))))))))) true (cond (A !=3) (!(GZ cF dX dH dy dI dz)) false))) (cond (A !=3) (!(GZ cF dX dH dy dI dz)) false)))) (cond (A !=2) (cond (o !=0) true (cond (!((v==0)&&((d==0)&&((y==false)&&((F==0)&&((p==0)&&((x==0)&&(((ao:z).toList==ε.toList)&&(((bR:z).toList==ε.toList)&&(((b6:z).toList==ε.toList)&&((cl==0)&&true))))))))))) true (cond (A !=3) (!(GZ cF dX dH dy dI dz)) false))) (cond (A !=3) (!(GZ cF dX dH dy dI dz)) false))
def z8:Bool:=cond (!(pW g)) true (cond (decide (u<(-1))) true (decide (u>=3)))
def fJ(o v d:Int)(y:Bool)(F p x:Int)(ao bR b6:z)(cl cF dX dH:Int)(dy:I ah)(dI:Int)(dz:I ay):Int:=cond (NW A) 3 (cond (NY A g u o v d y F p x ao bR b6 cl cF dX dH dy dI dz) 8 (cond (A==1) (cond (z8 g u) 2 0) (cond (A==2) (cond (!(pW o)) 2 (fX v d y F p x ao bR b6 cl)) (nf cF dX dH dy dI dz))))
def apH:bt:=⟨[.g [a,a,a,a,a,a,l,a,a,a,ar,ar,ar,a,a,a,a,.ab bx,a,.ab b8]],λA g u o v d y F p x ao bR b6 cl cF dX dH dy dI dz=>⟨⟨none,c (fJ A g u o v d y F p x ao bR b6 cl cF dX dH dy dI dz)⟩⟩⟩
def XQ:bE 96 apH:=bG Tryz.func96
 λ(A g u o v d:Int) y (F p x:Int) ao _ bR _ b6 _ (cl cF dX dH:Int) dy _ _ (dI:Int) dz _ _=>bJ ⟨.pure,[.tmp 2],[(.t 0,a)],⟨[U],[]⟩⟩ (.ae (.s (.j ⟨2054,[],[(.t 11,l)],[],.f⟩ .z .z) (.ae (.s (.j ⟨4503599627370502,[.b 1],[(.t 52,l)],[],.f⟩ .z .z) (.s (.ae (.ae (.s (.s (.j ⟨1180591620717411303430,[],[(.t 70,l)],[],.f⟩ .z .z) .z) .z))) .z))))) True (cK (aR OW (aR aiJ (aR aif (aR ay_ ba))))) Tryz.func96 trivial
end
section
variable(A g:Int)(u:I ax)(o v:Int)
def qg:Bool:=cond (decide (A<0)) true (cond (decide (g<0)) true (cond (decide (g>1048576)) true (cond (!((A==0)==(g==0))) true (cond (decide ((u.n:Int)>200)) true (decide (A>(i64 (1048576- (u.n:Int)))))))))
def xw(b c a:Int):Bool:=cond (fX (u.at' a.toNat).r (u.at' a.toNat).K (u.at' a.toNat).G (u.at' a.toNat).q (u.at' a.toNat).j (u.at' a.toNat).m (u.at' a.toNat).ak (u.at' a.toNat).aA (u.at' a.toNat).i (u.at' a.toNat).aJ !=0) true (cond (decide ((u.at' a.toNat).r<b)) true (decide ((u.at' a.toNat).K<c)))
def rr(u:I ax):Nat->Int->Int->Int->Bool×Int
 |0,_,_,_=>default
 |k+1,b,c,a=>cond (decide (a<u.n)) (cond (xw u b c a) (true,13) (rr u k (u.at' a.toNat).r (u.at' a.toNat).K (i64 (a+1)))) (false,default)
def DD:Bool×Int:=rr u (toNat ((u.n:Int)-0)+1) g 0 0
def Ns:Bool:=cond (DD g u).1 false true
def cV:Int:=cond (qg A g u) 13 (cond (Ns g u) 0 (DD g u).2)
def apq:bt:=⟨[.g [a,a,.ab dT]],λA g u=>⟨⟨none,c (cV A g u)⟩⟩⟩
def x0:bE 12 apq:=bG Tryz.func12
 λ(A g:Int) u o _=>bJ ⟨.pure,[.tmp 2],[(.t 0,a)],⟨[U],[]⟩⟩ (.ae (.s (.j ⟨8796093022214,[],[(.t 43,l)],[],.f⟩ .z .z) (.ae (.j ⟨4,[],[],[],.f⟩ (.ae (.c6 ⟨985162418487324,[.b 0],[],[(.t 3,a),(.t 4,a),(.t 49,a)],some 0,true,4,[],[],λk (s:Int×Int×Int)=>rr u k s.1 s.2.1 s.2.2,.f,λ(s:Int×Int×Int)=>0<=s.2.2/\s.2.2<=(u.n:Int),λ(s:Int×Int×Int)=>toNat ((u.n:Int)-s.2.2),none⟩ (.ae (.ae (.s (.ae (.s (.j ⟨154635456067904995420,[],[(.t 56,l),(.t 61,l),(.t 62,l),(.t 67,l)],[.b .f .l,.b .f .l,.f,.f],.f⟩ .z .z) .z)) .z))))) .z)))) (qg A g u=false->(0<=(0:Int)/\(0:Int)<=(u.n:Int))/\∀(e f b:Int),let h:=decide (b<u.n);let d:=i64 (b+1);(0<=b/\b<=u.n)->(h=true->0<=b/\b<u.n)/\(h=true->xw u e f b=false->(0<=d/\d<=u.n)/\toNat ((u.n:Int)-d)<toNat ((u.n:Int)-b))) (cK (aR OW ba)) Tryz.func12 (λc=>⟨by have:=c;simp [qg]at this;omega,(λe f b n=>⟨λi=>by have:=c;simp [qg]at this;have:=al i;omega,(λj m=>by have:=c;simp [qg]at this;have:=al j;have:=m;simp [xw]at this;first|omega|(have:=E (b+1);omega))⟩)⟩)
def fF(A g:Int)(u:I ax)(h:cV A g u=0):(0<=A/\A<=1048576)/\(0<=g/\g<=1048576)/\u.n<=200/\A+u.n<=1048576:=by
 unfold cV at h
 cases a:qg A g u with
 |true=>rw[a]at h;simp at h
 |false=>
  simp [qg]at a;have:=E (1048576- (u.n:Int));omega
def pV:Int:=cond (decide ((u.n:Int)>0)) (i64 (A+(u.n:Int))) A
def CF:Int:=cond (decide ((u.n:Int)>0)) (u.at' (toNat (i64 ((u.n:Int)-1)))).r g
def ann:bt:=⟨[.g [a,a,.ab dT]],λA g u=>⟨⟨none,.du [c (pV A u),c (CF g u)]⟩⟩⟩
def aia:bE 89 ann:=bG Tryz.func89
 λ(A g:Int) u d _=>bJ ⟨.pure,[.tmp 2,.tmp 3],[(.t 0,a),(.t 1,a)],⟨[U,U],[]⟩⟩ .z (let b:=i64 ((u.n:Int)-1);(decide ((u.n:Int)>0))=true->0<=b/\b<u.n) gb Tryz.func89 (λc=>have:=al c;have:=E ((u.n:Int)-1);Ω)
def lf:Int:=cond (cV A g u !=0) 0 (pV A u)
def VZ:Int:=cond (cV A g u !=0) 0 (CF g u)
def au0:Int:=cond (cV A g u !=0) (cV A g u) 0
def aps:bt:=⟨[.g [a,a,.ab dT]],λA g u=>⟨⟨none,.du [c (lf A g u),c (VZ A g u),c (au0 A g u)]⟩⟩⟩
def aiD:bE 73 aps:=bG Tryz.func73
 λ(A g:Int) u _ _=>bJ ⟨.pure,[.tmp 2,.tmp 3,.tmp 4],[(.t 0,a),(.t 1,a),(.t 2,a)],⟨[U,U,U],[]⟩⟩ .z True (cK (aR x0 (aR aia ba))) Tryz.func73 trivial
def agK:Bool:=cond (decide (v>(CF g u))) true (cond (v==CF g u) (decide (o>=pV A u)) false)
def ru:Bool:=cond (cV A g u !=0) false (agK A g u o v)
def au2:Int:=cond (cV A g u !=0) (cV A g u) 0
def apt:bt:=⟨[.g [a,a,.ab dT],.v a,.v a],λA g u o v=>⟨⟨none,.du [.bool (ru A g u o v),c (au2 A g u)]⟩⟩⟩
def XO:bE 74 apt:=bG Tryz.func74
 λ(A g:Int) u _ _ (o v:Int)=>bJ ⟨.pure,[.tmp 6,.tmp 7],[(.t 0,l),(.t 1,a)],⟨[U,U],[]⟩⟩ (.ae (.ae (.ae (.j ⟨192,[.b 0],[(.t 6,l)],[],.f⟩ .z .z)))) True (cK (aR x0 (aR aia ba))) Tryz.func74 trivial
def kD:Int:=cond (decide (o<A)) 0 (cond (o==A) g (cond (decide (i64 (o-A)>(u.n:Int))) 0 (u.at' (toNat (i64 (i64 (o-A)-1)))).r))
def hQ:Int:=cond (decide (o<A)) 11 (cond (o==A) 0 (cond (decide (i64 (o-A)>(u.n:Int))) 5 0))
def ano:bt:=⟨[.g [a,a,.ab dT],.v a],λ(A g:Int) u (o:Int)=>⟨⟨some (0<=A/\A<=1048576/\o<=9223372036854775807),.du [c (kD A g u o),c (hQ A u o)]⟩⟩⟩
def OT:bE 87 ano:=bG Tryz.func87
 λ(A g:Int) u l _ (o:Int) h=>bJ ⟨.pure,[.tmp 4,.tmp 5],[(.t 0,a),(.t 1,a)],⟨[U,U],[]⟩⟩ .z (let b:=i64 (o-A);let c:=i64 (b-1);(decide (o<A))=false->(o==A)=false->decide (b>u.n)=false->0<=c/\c<u.n) gb Tryz.func87 (have⟨i,j,k⟩:=h;(λd e f=>have:=hy d;have:=dk e;have:=hy f;have:=E (o-A);have:=E (i64 (o-A)-1);Ω))
def BS(A:Int)(u:I ax)(o:Int):hQ A u o=0/\(0<=A/\A<=1048576)/\u.n<=549755813888/\o<=9223372036854775807->A<=o/\o<=A+(u.n:Int):=λ⟨d,e,f,g⟩=>by
 simp only[hQ]at d
 by_cases a:o<A
 .simp [a]at d
 .rw[E (o-A)]at d
  by_cases b:o=A
  .omega
  .by_cases c:o-A>(u.n:Int)
   .rw[ew.2 b]at d;simp [a,c]at d
   .omega
def z2:Bool:=cond (decide (o<0)) true (decide (o>1048576))
def jX:Int:=cond (cV A g u !=0) 0 (cond (z2 o) 0 (kD A g u o))
def u5:Int:=cond (cV A g u !=0) (cV A g u) (cond (z2 o) 2 (hQ A u o))
def apv:bt:=⟨[.g [a,a,.ab dT],.v a],λA g u o=>⟨⟨none,.du [c (jX A g u o),c (u5 A g u o)]⟩⟩⟩
def OX:bE 79 apv:=bG Tryz.func79
 λ(A g:Int) u d _ (o:Int)=>bJ ⟨.pure,[.tmp 4,.tmp 5],[(.t 0,a),(.t 1,a)],⟨[U,U],[]⟩⟩ (.ae (.ae (.s (.j ⟨131126,[],[(.t 17,l)],[],.f⟩ .z .z) .z))) ((cV A g u !=0)=false->z2 o=false->0<=A/\A<=1048576/\o<=9223372036854775807) (cK (aR x0 (aR OT ba))) Tryz.func79 (λb c=>by have:=fF _ _ _ (bP b);have:=c;simp [z2]at this;omega)
end
section
variable(A g:Int)(u:I ax)(o:Int)
def ry:Int:=cond (cV A g u !=0) 0 (cond (hQ A u o !=0) 0 o)
def DG:Int:=cond (cV A g u !=0) 0 (cond (hQ A u o !=0) 0 (kD A g u o))
def sX:I ax:=cond (cV A g u !=0) (B:I ax) (cond (hQ A u o !=0) (B:I ax) (I.part u (i64 (o-A)) (u.n:Int)))
def au4:Int:=cond (cV A g u !=0) (cV A g u) (cond (hQ A u o !=0) (hQ A u o) 0)
def apx:bt:=⟨[.g [a,a,.ab dT],.v a],λ(A g:Int) u (o:Int)=>⟨⟨some (o<=9223372036854775807),.du [.agg [c (ry A g u o),c (DG A g u o),aV 10 eJ (sX A g u o)],c (au4 A g u o)]⟩⟩⟩
def aiE:bE 85 apx:=bG Tryz.func85
 λ(A g:Int) u f _ (o:Int) e=>bJ ⟨.pure,[.cell 4 38,.tmp 5],[(.c 0 0,a),(.c 0 1,a),(.c 0 2,.ab dT),(.t 1,a)],⟨[.agg (us 3 []),U],[]⟩⟩ .z (let c:=i64 (o-A);(cV A g u !=0)=false->(0<=A/\A<=1048576/\o<=9223372036854775807)/\((hQ A u o !=0)=false->(0:Int)<=c/\(c:Int)<=(u.n:Int)/\(u.n:Int)<=(u.n:Int)/\(u.n:Int)<=(u.n:Int))) (cK (aR x0 (aR OT (aR DZ ba)))) Tryz.func85 (λb=>⟨have:=fF _ _ _ (bP b);Ω,λd=>have:=fF _ _ _ (bP b);have:=bP d;have:=BS A u o;have:=E (o-A);Ω⟩)
end
section
variable(A g:Int)(u:I ax)(o v d:Int)(y:I ah)(F:Int)(p:I ay)
def p0:Bool:=cond (u5 A g u o==0) (jX A g u o==v) false
def pY:Int:=cond (p0 A g u o v) (ry A g u o) o
def uL:Int:=cond (p0 A g u o v) (DG A g u o) v
def pZ:I ax:=cond (p0 A g u o v) (sX A g u o) (B:I ax)
def an3:bt:=⟨[.g [a,a,.ab dT],.g [a,a,a,.ab bx,a,.ab b8]],λ(A g:Int) u (o v:Int) _ _ _ _=>⟨⟨some (o<=9223372036854775807),.agg [c (pY A g u o v),c (uL A g u o v),aV 10 eJ (pZ A g u o v)]⟩⟩⟩
def aik:bE 92 an3:=bG Tryz.func92
 λ(A g:Int) u e _ (o v d:Int) y f _ (F:Int) p h _ c=>bJ ⟨.pure,[.cell 4 38],[(.c 0 0,a),(.c 0 1,a),(.c 0 2,.ab dT)],⟨[.agg (us 3 [])],[]⟩⟩ (.ae (.s (.ae (.j ⟨8388636,[],[(.t 23,l)],[],.f⟩ .z .z)) .z)) (p0 A g u o v=true->o<=9223372036854775807) (cK (aR OX (aR aiE ba))) Tryz.func92 (λb=>Ω)
def xF:Int:=cond (cV A g u !=0) 0 (cond (nf o v d y F p !=0) 0 (pY A g u o v))
def V5:Int:=cond (cV A g u !=0) 0 (cond (nf o v d y F p !=0) 0 (uL A g u o v))
def xG:I ax:=cond (cV A g u !=0) (B:I ax) (cond (nf o v d y F p !=0) (B:I ax) (pZ A g u o v))
def au8:Int:=cond (cV A g u !=0) (cV A g u) (cond (nf o v d y F p !=0) (nf o v d y F p) 0)
def apI:bt:=⟨[.g [a,a,.ab dT],.g [a,a,a,.ab bx,a,.ab b8]],λ(A g:Int) u (o v d:Int) y (F:Int) p=>⟨⟨some (o<=9223372036854775807),.du [.agg [c (xF A g u o v d y F p),c (V5 A g u o v d y F p),aV 10 eJ (xG A g u o v d y F p)],c (au8 A g u o v d y F p)]⟩⟩⟩
def aAr:bE 77 apI:=bG Tryz.func77
 λ(A g:Int) u f _ (o v d:Int) y h _ (F:Int) p i _ e=>bJ ⟨.pure,[.cell 4 38,.tmp 5],[(.c 0 0,a),(.c 0 1,a),(.c 0 2,.ab dT),(.t 1,a)],⟨[.agg (us 3 []),U],[]⟩⟩ .z ((cV A g u !=0)=false->(nf o v d y F p !=0)=false->o<=9223372036854775807) (cK (aR x0 (aR aiJ (aR aik ba)))) Tryz.func77 (λb c=>Ω)
end
section
variable(A:Int)(g:I Int)
def cP:I Int:=I.app g (I.lit ([u8 A]:List Int))
def anL:cj:=⟨[.p 0,.v a],[(.h 1 0,.ad bs)],[[.own 1 0],[U]],λ(A:Int) g=>⟨⟨some (g.n<=400000000000),[],[[.own 1 (cP A g).n],[(aG.ad bs).av (cP A g)]]⟩⟩⟩
def D0:er 116 anL:=ev Tryz.func116
 λ(A:Int) g b a=>ep ⟨.heap,[],[(.h 1 0,.ad bs)],⟨[],[[.own 1 0],[U]]⟩⟩ .z (g.n+1<=549755813888) (bZ 2 ba bY) Tryz.func116 Ω
def jj(A:Int)(g:I Int):(cP A g).n=g.n+1:=rfl
def UM(A:Int):Nat->Int->I Int->I Int
 |0,_,_=>default
 |k+1,b,f=>cond (decide (b>=0)) (UM A k (i64 (b-8)) (I.app f (I.lit ([u8 ((u64 (i64 (A+4611686018427387904)))/2^b.toNat)]:List Int)))) f
def ae3:I Int:=UM A (toNat (56+8)+1) 56 g
def bw:I Int:=ae3 A g
def anK:cj:=⟨[.p 0,.v a],[(.h 1 0,.ad bs)],[[.own 1 0],[U]],λ(A:Int) g=>⟨⟨some (g.n<=400000000000),[],[[.own 1 (bw A g).n],[(aG.ad bs).av (bw A g)]]⟩⟩⟩
def IQ:er 115 anK:=ev Tryz.func115
 λ(A:Int) g j i=>ep ⟨.heap,[],[(.h 1 0,.ad bs)],⟨[],[[.own 1 0],[U]]⟩⟩ (.ae (.ae (.c6 ⟨49,[],[],[(.t 5,a),(.h 1 0,.ad bs)],some 0,false,0,[],[(.h 1 0,.ad bs)],λk (s:Int×I Int)=>UM A k s.1 s.2,.f,λ(s:Int×I Int)=>s.1%8=0/\ -8<=s.1/\s.1<=56/\(s.2.n:Int)*8=(g.n:Int)*8+56-s.1,λ(s:Int×I Int)=>toNat (s.1+8),none⟩ .z))) (((56:Int)%8=0/\ -8<=(56:Int)/\(56:Int)<=56/\(g.n:Int)*8=(g.n:Int)*8+56- (56:Int))/\∀(b:Int) (f:I Int),let c:=i64 (b-8);(b%8=0/\ -8<=b/\b<=56/\(f.n:Int)*8=(g.n:Int)*8+56-b)->(decide (b>=0)=true->((0:Int)<=b/\(b:Int)<=64)/\f.n+1<=549755813888)/\(decide (b>=0)=true->(c%8=0/\ -8<=c/\c<=56/\(((f.n+1):Nat):Int)*8=(g.n:Int)*8+56-c)/\toNat (c+8)<toNat (b+8))) (bZ 2 ba bY) Tryz.func115 (⟨Ω,λb f h=>⟨λd=>⟨have:=al d;Ω,Ω⟩,λe=>have:=al e;have:=E (b-8);Ω⟩⟩)
def fg(A:Int)(g:I Int):(bw A g).n=g.n+8:=by kernel_rfl
def dd(A:z)(g:I Int):I Int:=I.app (cP ((A:z).size:Int) g) (I.ofStr A)
def anM:cj:=⟨[.p 0,.v ar],[(.h 1 0,.ad bs)],[[.own 1 0],[U]],λA g=>⟨⟨some (g.n<=300000000000/\A.size<=10000000000),[],[[.own 1 (dd A g).n],[(aG.ad bs).av (dd A g)]]⟩⟩⟩
def OV:er 117 anM:=ev Tryz.func117
 λA d g e a=>ep ⟨.heap,[],[(.h 1 0,.ad bs)],⟨[],[[.own 1 0],[U]]⟩⟩ .z (g.n<=400000000000/\(cP ((A:z).size:Int) g).n+(A:z).size<=549755813888) (bZ 2 ba (az D0 bY)) Tryz.func117 (have⟨b,c⟩:=a;⟨Ω,have:=jj ((A:z).size:Int) g;Ω⟩)
def jJ(A:z)(g:I Int):(dd A g).n=g.n+1+A.size:=rfl
def G9(g u o:z)(v:Int)(d:I Int):I Int:=bw v (dd o (dd u (dd g (cP A d))))
def aoI:cj:=⟨[.p 0,.g [a,ar,ar,ar,a]],[(.h 1 0,.ad bs)],[[.own 1 0],[U]],λ(A:Int) g u o (v:Int) d=>let b:=G9 A g u o v d;⟨⟨some (d.n<=200000000000/\g.size<=10000000000/\u.size<=10000000000/\o.size<=10000000000),[],[[.own 1 (b).n],[(aG.ad bs).av b]]⟩⟩⟩
def azG:er 180 aoI:=ev Tryz.func180
 λ(A:Int) g i u j o k (v:Int) d l b=>ep ⟨.heap,[],[(.h 1 0,.ad bs)],⟨[],[[.own 1 0],[U]]⟩⟩ .z (let a:=dd g (cP A d);(d.n<=400000000000)/\((cP A d).n<=300000000000/\g.size<=10000000000)/\(a.n<=300000000000/\u.size<=10000000000)/\((dd u a).n<=300000000000/\o.size<=10000000000)/\(dd o (dd u a)).n<=400000000000) (bZ 2 ba (az IQ (az D0 (az OV bY)))) Tryz.func180 (have⟨c,e,f,h⟩:=b;⟨Ω,⟨have:=jj A d;Ω,⟨have:=jJ g (cP A d);have:=jj A d;Ω,⟨have:=jJ u (dd g (cP A d));have:=jJ g (cP A d);have:=jj A d;Ω,have:=jJ o (dd u (dd g (cP A d)));have:=jJ u (dd g (cP A d));have:=jJ g (cP A d);have:=jj A d;Ω⟩⟩⟩⟩)
def G0(g u:Int)(o v d:z)(y:Int)(F:I Int):I Int:=cond (decide (A>0)) (G9 u o v d y (bw g (bw A F))) (bw A F)
def aod:cj:=⟨[.p 0,.g [a,a,a,ar,ar,ar,a]],[(.h 1 0,.ad bs)],[[.own 1 0],[U]],λ(A g u:Int) o v d (y:Int) F=>let b:=G0 A g u o v d y F;⟨⟨some (F.n<=150000000000/\o.size<=10000000000/\v.size<=10000000000/\d.size<=10000000000),[],[[.own 1 (b).n],[(aG.ad bs).av b]]⟩⟩⟩
def azh:er 154 aod:=ev Tryz.func154
 λ(A g u:Int) o i v j d k (y:Int) F l a=>ep ⟨.heap,[],[(.h 1 0,.ad bs)],⟨[],[[.own 1 0],[U]]⟩⟩ .z (F.n<=400000000000/\(decide (A>0)=true->(bw A F).n<=400000000000/\(bw g (bw A F)).n<=200000000000/\o.size<=10000000000/\v.size<=10000000000/\d.size<=10000000000)) (bZ 2 ba (az IQ (az azG bY))) Tryz.func154 (have⟨c,e,f,h⟩:=a;⟨Ω,λb=>⟨have:=fg A F;Ω,have:=fg g (bw A F);have:=fg A F;Ω⟩⟩)
def Gt(g:Int)(u:Bool)(o v d:Int)(y F p:z)(x:Int)(ao:I Int):I Int:=cond u (cP 1 (bw g (bw A ao))) (G0 o v d y F p x (cP 0 (bw g (bw A ao))))
def anp:cj:=⟨[.p 0,.g [a,a,l,a,a,a,ar,ar,ar,a]],[(.h 1 0,.ad bs)],[[.own 1 0],[U]],λ(A g:Int) u (o v d:Int) y F p (x:Int) ao=>let b:=Gt A g u o v d y F p x ao;⟨⟨some (ao.n<=100000000000/\y.size<=10000000000/\F.size<=10000000000/\p.size<=10000000000),[],[[.own 1 (b).n],[(aG.ad bs).av b]]⟩⟩⟩
def ayP:er 143 anp:=ev Tryz.func143
 λ(A g:Int) u (o v d:Int) y l F m p n (x:Int) ao k b=>ep ⟨.heap,[],[(.h 1 0,.ad bs)],⟨[],[[.own 1 0],[U]]⟩⟩ .z (let a:=bw g (bw A ao);(ao.n<=400000000000)/\(bw A ao).n<=400000000000/\(u=true->a.n<=400000000000)/\(u=false->a.n<=400000000000/\(cP 0 a).n<=150000000000/\y.size<=10000000000/\F.size<=10000000000/\p.size<=10000000000)) (bZ 2 ba (az IQ (az D0 (az azh bY)))) Tryz.func143 (have⟨f,h,i,j⟩:=b;⟨Ω,⟨have:=fg A ao;Ω,⟨λc=>have:=fg g (bw A ao);have:=fg A ao;Ω,λe=>⟨have:=fg g (bw A ao);have:=fg A ao;Ω,have:=jj 0 (bw g (bw A ao));have:=fg g (bw A ao);have:=fg A ao;Ω⟩⟩⟩⟩)
def rv(g:Int)(u:Bool)(o v d:Int)(y F p:z)(x:Int):I Int:=cond (fX A g u o v d y F p x !=0) (B:I Int) (Gt A g u o v d y F p x (B:I Int))
def au3(g:Int)(u:Bool)(o v d:Int)(y F p:z)(x:Int):Int:=let a:=fX A g u o v d y F p x;(cond (a !=0) a 0)
def apw:bt:=⟨[.g [a,a,l,a,a,a,ar,ar,ar,a]],λ(A g:Int) u (o v d:Int) y F p (x:Int)=>⟨⟨some (y.size<=10000000000/\F.size<=10000000000/\p.size<=10000000000),.du [aV 1 cO (rv A g u o v d y F p x),c (au3 A g u o v d y F p x)]⟩⟩⟩
def OY:bE 129 apw:=bG Tryz.func129
 λ(A g:Int) u (o v d:Int) y i F j p k (x:Int) b=>bJ ⟨.pure,[.tmp 2,.tmp 3],[(.t 0,.ab bs),(.t 1,a)],⟨[U,U],[]⟩⟩ (.ae (.ae (.ae (.s (.jP [(.h 1 0,bs)]) .z)))) ((fX A g u o v d y F p x !=0)=false->0<=100000000000/\y.size<=10000000000/\F.size<=10000000000/\p.size<=10000000000) (bZ 0 (aR OW ba) (az ayP bY)) Tryz.func129 (have⟨e,f,h⟩:=b;(λc=>Ω))
end
def afi:Nat->Int->Int->I Int->I Int
 |0,_,_,_=>default
 |k+1,b,f,bk=>cond (decide (f>=0)) (afi k (i64 (b.tdiv 256)) (i64 (f-1)) (I.cC bk f.toNat (u8 (b.tmod 256)))) bk
def at1(A:Int):I Int:=afi (toNat (7+1)+1) (i64 (A+4611686018427387904)) 7 (I.rep (toNat 8) (0:Int))
def G1(A:Int):I Int:=at1 A
def aBy(A:Int):(G1 A).n=8:=by kernel_rfl
def CT(A:z):I Int:=Us (I.lit ([u8 ((A:z).size:Int)]:List Int)) (I.ofStr A)
def aBz(A:z):A.size<=10000000000->(CT A).n=A.size+1:=λh=>by
 unfold CT;rw[aBu _ _ (by simp only[I.n1,I.ofStr,dE,gx];omega)];simp only[I.n1,I.ofStr,dE,gx];omega
def uD(n l h:Int):k5 n l h=(decide (n>=l)&&decide (n<=h)):=by
 unfold k5 Gl;cases decide (n>=l)<;>rfl
def atV(x:z):lM x=zc x:=by
 unfold zc lM Gq;rw[uD];cases decide ((x.size:Int)>=1)<;>rfl
def atT(x:z):kf x=pU x:=rfl
def atU(x:Int):jV x=L9 x:=by
 unfold jV Gs L9;rw[uD];cases decide (x>=(-1099511627776))<;>rfl
def atW(x:Int):q5 x=uE x:=by
 unfold q5 L_ uE;rw[uD];cases decide (x>=1)<;>rfl
def RR(s:I z)(a:s.n<=549755813888):Gk s=jY (λi=> !(pU (s.at' i.toNat))) s.n 0:=
 IG _ _ _ (ps (Mh s) s.n (λi=> !(pU (s.at' i.toNat))) (λi=>i) a λ_ _=>rfl)
def KB(s:I bD)(a:s.n<=549755813888):CG s=jY (λi=>zd (s.at' i.toNat).r (s.at' i.toNat).K) s.n 0:=
 IG _ _ _ (ps (Mi s) s.n (λi=>zd (s.at' i.toNat).r (s.at' i.toNat).K) (λi=>i) a λ_ _=>rfl)
def RT(s:I bW)(a:s.n<=549755813888):CH s=jY (λi=> !(pU (s.at' i.toNat).r)) s.n 0:=
 IG _ _ _ (ps (Mj s) s.n (λi=> !(pU (s.at' i.toNat).r)) (λi=>i) a λ_ _=>rfl)
def RU(s:I bW)(a:s.n<=549755813888):Gu s=jY (λi=> !(jV (s.at' i.toNat).K)) s.n 0:=
 IG _ _ _ (ps (Mk s) s.n (λi=> !(jV (s.at' i.toNat).K)) (λi=>i) a λ_ _=>rfl)
def Lq{F:Bool×Int}{a:Int->Bool}{c:Int}{m:Nat}{i:Int}(h:F=scan a (λ_=>c) m i)(X:Int):(cond (cond F.1 false true) X F.2)=bif jY a m i then c else X:=by
 rw[h,aFB]
 cases jY a m i<;>rfl
def aay(a:I bD)(b:I z)(c:I bW)(d:a.n<=1048576)(e:b.n<=1048576)(f:c.n<=1048576):k6 a b c=(a.n:Int)+b.n+c.n:=by
 unfold k6;rw[E ((a.n:Int)+b.n),E _]
def aFA(s:I z)(a:s.n<=549755813888):U2 s=scan (λi=>CC (s.at' i.toNat)) (λi=>i) s.n 0:=ps (Mg s) s.n _ _ a λ_ _=>rfl
def ahm{a:Int->Bool} : ∀(m:Nat) (i:Int),jY a m i=false-> ∀j:Int,i<=j->j<i+m->a j=false
 |0,i,_,j,b,c=>by omega
 |m+1,i,h,j,b,c=>by
  simp only[jY,E5]at h
  by_cases e:j=i
  .rw[e];exact h.1
  .exact ahm m (i+1) h.2 j Ω Ω
def tb{a:Int->Bool}{n:Nat}(h:jY a n 0=false)(i:Nat)(b:i<n):a (i:Int)=false:=ahm n 0 h i Ω Ω
def dG{b:Bool}{c X:Int}(h:(cond b c X)=0)(a:c≠0):b=false/\X=0:=by
 cases b with
 |true=>exact absurd h a
 |false=>exact⟨rfl,h⟩
def c8{a b:Bool}(h:(cond a true b)=false):a=false/\b=false:=by
 cases a with
 |true=>simp at h
 |false=>exact⟨rfl,h⟩
def dh{p:Prop}[Decidable p](h:decide p=false): ¬p:=hy h
def ub(g:z)(u:Int)(o:I bD)(v:I z)(d:I bW):Prop:=
 (g.size<=20/\ -1099511627776<=u/\u<=1099511627776)/\(o.n<=20/\v.n<=20/\d.n<=20)/\(∀i,i<o.n->(o.at' i).r.size<=20/\(o.at' i).K.size<=20)/\(∀i,i<v.n->(v.at' i).size<=20)/\(∀i,i<d.n->(d.at' i).r.size<=20/\ -1099511627776<=(d.at' i).K/\(d.at' i).K<=1099511627776)
def t_(x:I z):Prop:=x.n<=20/\ ∀i,i<x.n->(x.at' i).size<=20
def Kn(x:ah):Prop:=x.r.size<=20/\ub x.G x.q x.j x.m x.ak/\0<=x.aA/\x.aA<=1073741824
def RI(x:ay):Prop:=((0<=x.r/\x.r<=1048577)/\(0<=x.K/\x.K<=1048576)/\0<=x.G/\x.G<=1073741824)/\((0<=x.q/\x.q<=13)/\x.j.size<=20/\ -1099511627776<=x.m/\x.m<=1099511627776)/\t_ x.ak
def Kw(A:Int)(g:I ah)(u:Int)(o:I ay):Prop:=((0<=A/\A<=1073741824)/\(1<=u/\u<=1048577)/\g.n<=12/\o.n<=4)/\(∀i,i<g.n->Kn (g.at' i))/\(∀i,i<o.n->RI (o.at' i))
def kO{g:z}{u:Int}{o:I bD}{v:I z}{d:I bW}(h:ub g u o v d):t_ v:=⟨h.2.1.2.1,h.2.2.2.1⟩
def dY(s:I ah):Prop:=s.n<=549755813888/\ ∀i,i<s.n->(s.at' i).j.n<=549755813888/\(s.at' i).m.n<=549755813888/\(s.at' i).ak.n<=549755813888
def e6(s:I ay):Prop:=s.n<=549755813888/\ ∀i,i<s.n->(s.at' i).ak.n<=549755813888
def P9{x:z}(h:(!(pU x))=false):x.size<=20:=by
 unfold pU at h
 by_cases a:(x.size:Int)<=20
 .omega
 .simp [a]at h
def ale{x:z}(h:(!(lM x))=false):x.size<=12:=by
 unfold lM Gq at h
 by_cases a:(x.size:Int)<=12
 .omega
 .simp [a]at h
def alf{x:Int}(h:(!(jV x))=false): -1099511627776<=x/\x<=1099511627776:=by
 unfold jV Gs at h
 by_cases a:x>= -1099511627776
 .by_cases b:x<=1099511627776
  .omega
  .simp [b]at h
 .simp [a]at h
def RS(s:I z)(a:s.n<=549755813888):Gj s=jY (λi=>CC (s.at' i.toNat)) s.n 0:=IG _ _ _ (aFA s a)
def ER(a:I bD)(b:I z)(c:I bW)(d:a.n<=549755813888)(e:b.n<=549755813888)(f:c.n<=549755813888):k6 a b c=(a.n:Int)+b.n+c.n:=by
 unfold k6;rw[E ((a.n:Int)+b.n),E _]
def aro(A:Int)(g:z)(u:Int)(o:I z)(p:o.n<=549755813888)(h:sV A g u o=0):((0<=A/\A<=13)/\g.size<=20/\ -1099511627776<=u/\u<=1099511627776)/\t_ o:=by
 unfold sV at h;have⟨aL,h⟩:=dG h Δ;have⟨aO,h⟩:=dG h Δ;have⟨a,h⟩:=dG h Δ;have⟨b,_⟩:=dG h Δ;unfold agB at aL;unfold VW at aO;unfold agC at b;have⟨cw,a5⟩:=c8 aL;have⟨c,d⟩:=c8 aO;have⟨e,f⟩:=c8 b;have K:=dh cw;have G:=dh a5;have k:=dh c;have l:=dh d;have m:=dh e;have n:=dh f;refine⟨⟨⟨Ω,Ω⟩,Ω,Ω,Ω⟩,Ω,λi j=> ?_⟩;rw[RS _ Ω]at a;have:=tb a i j;simp only[gN,CC]at this;have:=dh this;omega
def acQ(A:Int)(g:z)(u:Int)(c:I bD)(d:I z)(e:I bW)(f:c.n<=549755813888)(j:d.n<=549755813888)(k:e.n<=549755813888)(h:jE A g u c d e=0):ub g u c d e:=by
 unfold jE at h;have⟨aL,h⟩:=dG h Δ;have⟨aO,h⟩:=dG h Δ;have⟨a,h⟩:=dG h Δ;have⟨l,h⟩:=dG h Δ;have⟨m,h⟩:=dG h Δ;have⟨n,h⟩:=dG h Δ;have⟨o,_⟩:=dG h Δ;have t:c.n<=20/\d.n<=20/\e.n<=20:=by
  unfold u6 at aL;have⟨cw,a5⟩:=c8 aL;have K:=dh cw;have G:=dh a5
  by_cases r:A=1
  .subst r;unfold nR u7 u9 u_ at aO;simp only[r9,au]at aO;have⟨_,aO⟩:=c8 aO;have⟨_,aO⟩:=c8 aO;rw[ER _ _ _ f j k]at aO;have:=dh aO;omega
  .by_cases s:A=2
   .subst s;unfold nR u7 u9 u_ at aO;simp only[r9,Int.reduceBEq,au,aB]at aO;have⟨_,aO⟩:=c8 aO;have⟨_,aO⟩:=c8 aO;rw[ER _ _ _ f j k]at aO;have:=dh aO;omega
   .unfold qi at a;rw[bm (show A>=3 by omega)]at a;simp only[au]at a;have⟨_,a⟩:=c8 a;rw[ER _ _ _ f j k]at a;have:=dh a;omega
 unfold s0 at l;have⟨cw,a5⟩:=c8 l;unfold sZ at o;have⟨q,p⟩:=c8 o;rw[RR _ Ω]at a5;rw[KB _ Ω]at m;rw[RT _ Ω]at n;rw[RU _ Ω]at p;refine⟨⟨P9 cw,alf q⟩,t,λi b=> ?_,λi b=> ?_,λi b=> ?_⟩
 .have:=tb m i b;simp only[gN,zd,Uy]at this;have⟨K,G⟩:=c8 this;exact⟨ec (ale K) Δ,P9 G⟩
 .have:=tb a5 i b;simp only[gN]at this;exact P9 this
 .have t1:=tb n i b;have t2:=tb p i b;simp only[gN]at t1 t2;exact⟨P9 t1,alf t2⟩
def ars(A:Int)(g:z)(u:Int)(a:I bD)(b:I z)(c:I bW)(d:a.n<=1048576)(e:b.n<=1048576)(f:c.n<=1048576)(h:jE A g u a b c=0):ub g u a b c:=acQ A g u a b c Ω Ω Ω h
def acR(A:Int)(s:I ah)(b:dY s)(h:iv A s=0):((0<=A/\A<=1073741824)/\s.n<=12)/\ ∀i,i<s.n->Kn (s.at' i):=by
 have o:=b.1;unfold iv at h;have⟨aL,h⟩:=dG h Δ;unfold xC at aL;have⟨cw,aL⟩:=c8 aL;have⟨a5,d⟩:=c8 aL;have K:=dh cw;have G:=dh a5;have l:=dh d;have g:H4 A s=scan (λi=>nS s i||o7 A s i) (λ_=>13) s.n 0:=ps (rz A s) s.n _ _ Ω λk i=>by
  show(cond (decide (i<s.n)) (cond (nS s i) (true,13) (cond (o7 A s i) (true,13) (rz A s k (i64 (i+1))))) (false,default))=_;rw[FA]
 unfold NI at h;rw[Lq g]at h;have⟨hh,_⟩:=dG h Δ;refine⟨⟨⟨Ω,Ω⟩,Ω⟩,λi c=> ?_⟩;have q:=tb hh i c;simp only[E5]at q;obtain⟨q1,a⟩:=q;have⟨e1,fq,j⟩:=b.2 i c;unfold nS at q1;unfold o7 at a;simp only[gN]at q1 a;have⟨m,q1⟩:=c8 q1;have⟨e,q1⟩:=c8 q1;have⟨d3,q1⟩:=c8 q1;have n:=dh e;refine⟨Ω,acQ _ _ _ _ _ _ e1 fq j (bP d3),?_⟩
 by_cases z:(s.at' i).aA=0
 .rw[z];omega
 .rw[show((s.at' i).aA !=0)=true by simp [z]]at a;simp only[au]at a;have⟨f,d5⟩:=c8 a;have:=dh f;have:=dh d5;omega
def hO(A:Int)(g:I ah)(u:Int)(o:I ay)(n:dY g)(c:e6 o)(h:eK A g u o=0):Kw A g u o:=by
 have E:=c.1;unfold eK at h;have⟨aL,h⟩:=dG h Δ;unfold vd at aL;have⟨cw,aL⟩:=c8 aL;have⟨a5,aL⟩:=c8 aL;have⟨d,e⟩:=c8 aL;have G:=dh a5;have x:=dh d;have y:=dh e;have⟨⟨t,v⟩,w⟩:=acR A g n (bP cw);have p:NU A u o=scan (λi=>vf u o i||ve A o i) (λ_=>13) o.n 0:=ps (vc A u o) o.n _ _ Ω λk i=>by
  show(cond (decide (i<o.n)) (cond (vf u o i) (true,13) (cond (ve A o i) (true,13) (vc A u o k (i64 (i+1))))) (false,default))=_;rw[FA]
 unfold V4 at h;rw[Lq p]at h;have⟨hh,_⟩:=dG h Δ;refine⟨⟨t,⟨Ω,Ω⟩,v,Ω⟩,w,λi b=> ?_⟩;have q:=tb hh i b;simp only[E5]at q;obtain⟨q1,a⟩:=q;unfold vf at q1;unfold ve at a;simp only[gN]at q1 a;have⟨f,q1⟩:=c8 q1;have⟨j,_⟩:=c8 q1;have⟨d3,a⟩:=c8 a;have⟨l,a⟩:=c8 a;have⟨d5,a⟩:=c8 a;have⟨m,a⟩:=c8 a;have z:=dh f;have B:=dh j;have bo:=dh d3;have C:=dh l;have cO:=dh d5;have D:=dh m;have⟨r,s⟩:=aro _ _ _ _ (c.2 i b) (bP a);exact⟨⟨⟨Ω,Ω⟩,⟨Ω,Ω⟩,⟨Ω,Ω⟩⟩,r,s⟩
def ar2(A:Int)(g u o:z)(v:Int):(fS A g u o v==HW A g u o v)=true:=by
 by_cases h:1<=A/\A<=22
 .have k:A=1\/A=2\/A=3\/A=4\/A=5\/A=6\/A=7\/A=8\/A=9\/A=10\/A=11\/A=12\/A=13\/A=14\/A=15\/A=16\/A=17\/A=18\/A=19\/A=20\/A=21\/A=22:=by omega
  unfold fS HW sW Nq Nn DB HV zY zX zW zV agG agF HX agE;simp only[atV,atT,atU,uD];generalize zc g=cw;generalize zc u=a5;generalize pU o=b;generalize L9 v=c;rcases k with rfl|rfl|rfl|rfl|rfl|rfl|rfl|rfl|rfl|rfl|rfl|rfl|rfl|rfl|rfl|rfl|rfl|rfl|rfl|rfl|rfl|rfl<;>
  simp only[Int.reduceBEq,Int.reduceLE,Int.reduceLT,ge_iff_le,gt_iff_lt,yo,Bp,Bool.and_true,Bool.true_and,Bool.and_false,au,aB,Bool.not_true,Bool.not_false,r9,bne]<;>
  (generalize (g.toList==ByteArray.toList ε)=d;generalize (u.toList==ByteArray.toList ε)=e;generalize (o.toList==ByteArray.toList ε)=bo;generalize (v==0)=f
   revert d e bo f cw a5 b c;decide)
 .unfold fS HW zV;have i:k5 A 1 22=false:=by rw[uD];simp;omega
  have j:(cond (decide (A<1)) true (decide (A>22)))=true:=by
   by_cases a:A<1
   .simp [a]
   .simp [a];omega
  rw[i,j];rfl
def auX(A:Int)(g u o:z)(v:Int):fS A g u o v=HW A g u o v:=eq_of_beq (ar2 A g u o v)
def auY(A g u:Int)(o v d:z)(y:Int):h_ A g u o v d y=VX A g u o v d y:=by
 unfold h_ VX HY agH agI;rw[auX];simp only[atW,bne]
 cases A==0
 .rfl
 .simp only[au,Bool.true_and]
  cases g==0<;>simp
def auZ(A g:Int)(u:Bool)(o v d:Int)(y F p:z)(x:Int):fX A g u o v d y F p x=u2 A g u o v d y F p x:=by
 unfold fX u2;have h:DC A g=zZ A g:=by
  unfold DC zZ uE;simp only[uD]
  by_cases a:A<1
  .have: ¬(1<=A):=by omega
   simp [a,this]
  .have a':1<=A:=by omega
   by_cases b:A>1048576
   .have: ¬(A<=1048576):=by omega
    simp [b,this]
   .have b':A<=1048576:=by omega
    by_cases c:g<0
    .have: ¬(0<=g):=by omega
     simp [a,b,c,a',b',this]
    .have e:0<=g:=by omega
     by_cases f:g>1073741824
     .have: ¬(g<=1073741824):=by omega
      simp [a,b,c,f,a',b',e,this]
     .have i:g<=1073741824:=by omega
      simp [a,b,c,f,a',b',e,i]
 rw[h,auY]
 cases zZ A g<;>cases u<;>rfl
end Go.Proofs.YtcpfnfkibnjcfaaGreatDoor
namespace Go.ag
open Go Go.RowKit
section
variable {α:Type}
def I.B(s:I α):List α:=(List.range s.n).map s.at'
def bj(s:I α):s.B.length=s.n:=by simp [I.B]
def fP(s:I α){i:Nat}(h:i<s.n):s.B[i]? =some (s.at' i):=by simp [I.B,h]
def fH(s t:I α):(s.app t).B=s.B++t.B:=by
 apply yt;intro i
 by_cases h:i<s.n
 .rw[fP _ (by simp only[I.qN];omega),wb (by rw[bj];exact h),fP _ h];simp only[I.app,acx h,au]
 .by_cases a:i<s.n+t.n
  .rw[fP _ (by simp only[I.qN];omega),E2 (by rw[bj];omega),bj,fP _ Ω];simp only[I.app,acv (show s.n<=i by omega),aB]
  .rw[fk (by rw[bj,I.qN];omega),fk (by rw[db,bj,bj];omega)]
def fQ[Inhabited α](l:List α):(I.lit l).B=l:=by
 apply yt;intro i
 by_cases h:i<l.length
 .rw[fP _ (by simp only[I.n1];exact h)];simp only[I.lit,List.getD,cG h,mM]
 .rw[fk (by rw[bj,I.n1];omega),fk Ω]
def yv[Inhabited α]:(B:I α).B=[]:=rfl
def sc(s:I α)(a b:Int)(c:0<=a)(d:a<=b)(e:b<=s.n):(s.part a b).B=(s.B.drop a.toNat).take (b-a).toNat:=by
 apply yt;intro i
 by_cases h:i<(b-a).toNat
 .rw[fP _ (by simp only[I.vM];exact h),J3,bg h,qA,fP _ Ω];rfl
 .rw[fk (by rw[bj,I.vM];omega),fk (by rw[jr];omega)]
def J_(s:I α)(i:Nat)(x:α):(s.cC i x).B=s.B.set i x:=by
 apply yt;intro j
 by_cases h:j<s.n
 .rw[fP _ (by simp only[I.amb];exact h)];simp only[I.cC]
  by_cases e:j=i
  .subst e;rw[ob,List.getElem?_set_self (by rw[bj];exact h)];rfl
  .have:Nat.beq j i=false:=by
    cases a:Nat.beq j i with
    |false=>rfl
    |true=>exact absurd (ey a) e
   rw[this,E4 (λh=>e h.symm),fP _ h];rfl
 .rw[fk (by rw[bj,I.amb];omega),fk (by rw[List.length_set,bj];omega)]
def amP(n:Nat)(x:α):(I.rep n x).B=List.replicate n x:=by
 apply yt;intro j
 by_cases h:j<n
 .rw[fP _ (by simp only[I.akQ];exact h),aaU,bg h];rfl
 .rw[fk (by rw[bj,I.akQ];omega),fk (by simp;omega)]
end
def Qt(l:List Int):z:=⟨(l.map λa=>UInt8.ofNat a.toNat).toArray⟩
def aGA(s:I Int):I.toStr s=Qt s.B:=by
 unfold I.toStr bytesOf Qt I.B;rw[List.map_map];rfl
def Tr{α:Type}[Inhabited α](F:Nat->Int->I α->I α)(t:I α)(e:t.n<=549755813888)(a: ∀k i s,F (k+1) i s=bif decide (i<t.n)then F k (i64 (i+1)) (I.app s (I.lit [t.at' i.toNat]))else s):
  ∀(m i:Nat) (s:I α),m=t.n-i->i<=t.n->(F (m+1) (i:Int) s).B=s.B++t.B.drop i
 |0,i,s,d,c=>by
  have: ¬((i:Int)<(t.n:Int)):=by omega
  rw[a];simp only[this,Bp,aB];rw[List.drop_eq_nil_of_le (by rw[bj];omega),iE]
 |m+1,i,s,d,c=>by
  have f:(i:Int)<(t.n:Int):=by omega
  rw[a];simp only[f,yo,au];rw[E _,show(i:Int)+1=((i+1:Nat):Int) by omega,Tr F t e a m (i+1) _ Ω Ω,fH,fQ,e5]
  congr 1
  rw[gN];have b:i<t.B.length:=by rw[bj];omega
  rw[r8 b];have:=fP t (show i<t.n by omega);rw[cG b]at this;rw[ij this];rfl
end Go.ag
namespace Go.Proofs.YtcpfnfkibnjcfaaGreatDoor
open Go Go.RowKit Go.ag
def gU(x:Int)(s:Nat):Int:=u8 ((u64 (i64 (x+4611686018427387904)))/2^s)
def aaX(A:Int)(g:I Int):(bw A g).B=g.B++[gU A 56,gU A 48,gU A 40,gU A 32,gU A 24,gU A 16,gU A 8,gU A 0]:=by
 have h:bw A g=I.app (I.app (I.app (I.app (I.app (I.app (I.app (I.app g (I.lit [gU A 56])) (I.lit [gU A 48])) (I.lit [gU A 40])) (I.lit [gU A 32])) (I.lit [gU A 24])) (I.lit [gU A 16])) (I.lit [gU A 8])) (I.lit [gU A 0]):=by kernel_rfl
 rw[h];simp only[fH,fQ,e5,yu,r6]
def n6(y:Int):Nat->Int
 |0=>y
 |k+1=>i64 ((n6 y k).tdiv 256)
def gI(y:Int)(k:Nat):Int:=u8 ((n6 y k).tmod 256)
def amJ(A:Int):(G1 A).B=[gI (i64 (A+4611686018427387904)) 7,gI (i64 (A+4611686018427387904)) 6,gI (i64 (A+4611686018427387904)) 5,gI (i64 (A+4611686018427387904)) 4,gI (i64 (A+4611686018427387904)) 3,gI (i64 (A+4611686018427387904)) 2,gI (i64 (A+4611686018427387904)) 1,gI (i64 (A+4611686018427387904)) 0]:=by
 generalize a:i64 (A+4611686018427387904)=y;have h:G1 A=I.cC (I.cC (I.cC (I.cC (I.cC (I.cC (I.cC (I.cC (I.rep 8 0) 7 (gI (i64 (A+4611686018427387904)) 0)) 6 (gI (i64 (A+4611686018427387904)) 1)) 5 (gI (i64 (A+4611686018427387904)) 2)) 4 (gI (i64 (A+4611686018427387904)) 3)) 3 (gI (i64 (A+4611686018427387904)) 4)) 2 (gI (i64 (A+4611686018427387904)) 5)) 1 (gI (i64 (A+4611686018427387904)) 6)) 0 (gI (i64 (A+4611686018427387904)) 7):=by kernel_rfl
 rw[h,a];simp only[J_,amP];rfl
def akD(y:Int)(d:0<=y)(g:y<9223372036854775808): ∀k,0<=n6 y k/\n6 y k<=y/\n6 y k=y/2^(8*k)
 |0=>⟨d,bz _,by simp [n6]⟩
 |k+1=>by
  have⟨a,b,c⟩:=akD y d g k;have e:(n6 y k).tdiv 256=n6 y k/256:=Int.tdiv_eq_ediv_of_nonneg a;have h:0<=n6 y k/256:=by omega
  have bo:n6 y k/256<=n6 y k:=by omega
  have f:n6 y (k+1)=n6 y k/256:=by
   simp only[n6,e];exact E _
  refine⟨Ω,Ω,?_⟩;rw[f,c,Int.ediv_ediv_of_nonneg (Int.pow_nonneg Ω),show(256:Int)=2^8 by decide,<-Int.pow_add,show 8*k+8=8*(k+1) by omega]
def wE(x:Int)(k:Nat)(d:0<=x+4611686018427387904)(e:x+4611686018427387904<9223372036854775808):gI (i64 (x+4611686018427387904)) k=gU x (8*k):=by
 have g:i64 (x+4611686018427387904)=x+4611686018427387904:=E _;have f:u64 (x+4611686018427387904)=x+4611686018427387904:=by
  rw[IntKind.wrap_u64];omega
 unfold gI gU;rw[g,f];have⟨a,b,c⟩:=akD _ d e k;rw[c]at a |-;rw[IntKind.wrap_u8,IntKind.wrap_u8,Int.tmod_eq_emod_of_nonneg a];omega
def amK(A:Int)(g:I Int)(a:0<=A+4611686018427387904)(b:A+4611686018427387904<9223372036854775808):(bw A g).B=g.B++(G1 A).B:=by
 rw[aaX,amJ];rw[wE A 7 a b,wE A 6 a b,wE A 5 a b,wE A 4 a b,wE A 3 a b,wE A 2 a b,wE A 1 a b,wE A 0 a b]
def amH(A g:I Int)(h:A.n+g.n<=549755813888):(Us A g).B=A.B++g.B:=by
 have a:(Gg A).B=[]++A.B.drop 0:=Tr (Cz A) A Ω (λ_ _ _=>rfl) _ 0 B Ω Ω;have b:(Gh A g).B=(Gg A).B++g.B.drop 0:=Tr (CA g) g Ω (λ_ _ _=>rfl) _ 0 _ Ω Ω;show(Gh A g).B=_;rw[b,a];rfl
def t119(x:Int):q5 x=true->1<=x/\x<=1048576:=by
 intro h;simp only[q5,L_]at h
 by_cases a:x>=1
 .simp [a]at h;omega
 .simp [a]at h
def t117(x:Int):jV x=true-> -1099511627776<=x/\x<=1099511627776:=by
 intro h;simp only[jV,Gs]at h
 by_cases a:x>= -1099511627776
 .simp [a]at h;omega
 .simp [a]at h
def t47(A:Int)(g u o:z)(v:Int)(h:fS A g u o v=0): -1099511627776<=v/\v<=1099511627776:=by
 unfold fS at h
 cases a:zV A with
 |true=>rw[a]at h;cases h
 |false=>
  rw[a]at h;simp only[aB]at h;generalize (!((A==A)&&((g.toList==(HV A g).toList)&&((u.toList==(DB A u).toList)&&((o.toList==(Nn A o).toList)&&((v==Nq A v)&&true))))))=b at h
  cases b with
  |true=>cases h
  |false=>
   simp only[aB]at h
   cases c:sW A g u o with
   |true=>rw[c]at h;cases h
   |false=>
    rw[c]at h;simp only[aB]at h
    cases d:jV v with
    |true=>exact t117 v d
    |false=>rw[d]at h;cases h
def t49(A g u:Int)(o v d:z)(y:Int)(h:h_ A g u o v d y=0):A=0\/((1<=A/\A<=1048576)/\(1<=g/\g<=1048576)/\ -1099511627776<=y/\y<=1099511627776):=by
 unfold h_ at h
 by_cases a:A=0
 .exact .inl a
 .rw[ew.2 a]at h;simp only[aB,HY]at h
  cases b:q5 A with
  |false=>rw[b]at h;cases h
  |true=>
   cases c:q5 g with
   |false=>rw[b,c]at h;cases h
   |true=>
    rw[b,c]at h;exact .inr ⟨t119 _ b,t119 _ c,t47 _ _ _ _ _ h⟩
def t51(A g:Int)(u:Bool)(o v d:Int)(y F p:z)(x:Int)(h:fX A g u o v d y F p x=0):((1<=A/\A<=1048576)/\0<=g/\g<=1073741824)/\(u=false->h_ o v d y F p x=0):=by
 unfold fX at h
 cases f:DC A g with
 |true=>rw[f]at h;cases h
 |false=>
  rw[f]at h;simp only[aB]at h;refine⟨?_,λe=>by rw[e]at h;exact h⟩;unfold DC at f
  by_cases a:A<1
  .simp [a]at f
  .by_cases b:A>1048576
   .simp [a,b]at f
   .by_cases c:g<0
    .simp [a,b,c]at f
    .simp [a,b,c]at f;omega
def amL(x:z)(h:x.size<=10000000000)(w:I Int):(dd x w).B=w.B++(CT x).B:=by
 have a:(CT x).B=[u8 (x.size:Int)]++(I.ofStr x).B:=by
  unfold CT;rw[amH _ _ (by simp only[I.n1,I.ofStr,dE,gx];omega),fQ]
 rw[a];unfold dd cP;rw[fH,fH,fQ,e5]
end Go.Proofs.YtcpfnfkibnjcfaaGreatDoor
namespace Go.ag
open Go Go.RowKit
def cat{β:Type}(f:Nat->List β):Nat->Nat->List β
 |0,_=>[]
 |m+1,i=>f i++cat f m (i+1)
def BQ{β:Type}{f:Nat->List β}{D:Nat} : ∀m i,(∀j,i<=j->j<i+m->(f j).length<=D)->(cat f m i).length<=m*D
 |0,_,_=>by simp [cat]
 |m+1,i,h=>by
  simp only[cat,db];have a:=h i (bH _) Ω;have b:=BQ m (i+1) λj a b=>h j Ω Ω;rw[jK];omega
def ajf{α:Type}(F:Nat->Int->I α->I α)(n D L:Nat)(step:Int->I α->I α)(f:Nat->List α)(h:n<=549755813888)
  (a: ∀k i s,F (k+1) i s=bif decide (i<(n:Int))then F k (i64 (i+1)) (step i s)else s)
  (d: ∀(i:Nat) (s:I α),i<n->s.n<=L+i*D->(step (i:Int) s).B=s.B++f i/\(f i).length<=D):
  ∀(m i:Nat) (s:I α),i+m=n->s.n<=L+i*D->(F (m+1) (i:Int) s).B=s.B++cat f m i
 |0,i,s,g,c=>by
  rw[a,a8 (show¬((i:Int)<(n:Int)) by omega)];simp only[aB,cat,iE]
 |m+1,i,s,g,c=>by
  have⟨b,j⟩:=d i s Ω c;rw[a,bm (show(i:Int)<(n:Int) by omega)];simp only[au];have e:(step (i:Int) s).n<=L+(i+1)*D:=by
   rw[<-bj,b,db,bj,jK];omega
  rw[E _,show(i:Int)+1=((i+1:Nat):Int) by omega,ajf F n D L step f h a d m (i+1) _ Ω e,b,e5];rfl
def D7{α:Type}(F:Nat->Int->I α->I α)(n D L:Nat)(step:Int->I α->I α)(f:Nat->List α)(b:n<=549755813888)
  (a: ∀k i s,F (k+1) i s=bif decide (i<(n:Int))then F k (i64 (i+1)) (step i s)else s)
  (c: ∀(i:Nat) (s:I α),i<n->s.n<=L+i*D->(step (i:Int) s).B=s.B++f i/\(f i).length<=D) (s:I α) (d:s.n<=L):
  (F (toNat ((n:Int)-0)+1) 0 s).B=s.B++cat f n 0:=by
 have:=ajf F n D L step f b a c n 0 s Ω Ω;rw[show toNat ((n:Int)-0)=n by omega];exact this
end Go.ag
namespace Go.Proofs.YtcpfnfkibnjcfaaGreatDoor
open Go Go.RowKit Go.ag
def aD(x:Int):List Int:=(G1 x).B
def gJ(x:z):List Int:=(CT x).B
def vU(x:Int):List Int:=[u8 x]
def I9(x:Int):(aD x).length=8:=by unfold aD;rw[bj,aBy]
def aGq(x:z)(h:x.size<=10000000000):(gJ x).length=x.size+1:=by unfold gJ;rw[bj,aBz x h]
def P_(x:Int):(vU x).length=1:=rfl
def wa{x:Int}(w:I Int)(a: -4611686018427387904<=x)(b:x<4611686018427387904):(bw x w).B=w.B++aD x:=amK x w Ω Ω
def Bn{x:z}(w:I Int)(h:x.size<=10000000000):(dd x w).B=w.B++gJ x:=amL x h w
def Bm(x:Int)(w:I Int):(cP x w).B=w.B++vU x:=by unfold cP;rw[fH,fQ];rfl
def agU:Go.Shelf.Ren:=⟨λn=>bif n==4 then 130 else n,λn=>bif n==22 then 77 else bif n==25 then 5 else n,λx=>x⟩
def agT:Lays8.n4 Tryz.prog agU where
 mixed:=by kernel_rfl
 f4:=⟨Tryz.f130.name,Ξ,Ξ⟩
 t0:=Tryz.underlying0
 a0:=Tryz.isAgg0
 z0:=Tryz.sizeOf0
 v0:=Tryz.zeroValue0
 t3:=Tryz.underlying3
 a3:=Tryz.isAgg3
 z3:=Tryz.sizeOf3
 v3:=Tryz.zeroValue3
 t4:=Tryz.underlying4
 a4:=Tryz.isAgg4
 z4:=Tryz.sizeOf4
 v4:=Tryz.zeroValue4
 t9:=Tryz.underlying9
 a9:=Tryz.isAgg9
 z9:=Tryz.sizeOf9
 v9:=Tryz.zeroValue9
 t20:=Tryz.underlying20
 a20:=Tryz.isAgg20
 z20:=Tryz.sizeOf20
 v20:=Tryz.zeroValue20
 t22:=Tryz.underlying77
 a22:=Tryz.isAgg77
 z22:=Tryz.sizeOf77
 v22:=Tryz.zeroValue77
def ave(w:World)(F:Nat->Prop)(G:Nat)(C:Array Value)(T:TypeId)(f:Nat->List J)(a:C.size=G):
  ∃v,Ending.returned (.slice (some ⟨w.heap.size,0,none⟩) 0 G)= .returned v/\sj w.heap.size (w.drew.alloc (.cells C T)) F (.ad false 1 0 f) v/\Below w.heap.size w (w.drew.alloc (.cells C T)):=
 ⟨_,rfl,.inr ⟨w.heap.size,G,C,T,bH _,(tL.1 (tN w.drew (.cells C T))).1,rfl,cd _,cd _,tN w.drew _,by rw[a,Nat.mul_one],λi j b=>absurd b (dJ i)⟩,(Below.drew (Below.refl _ w)).alloc (bH _) _⟩
def aDP(n:Int)(o:0<=n)(d:n<=549755813888):fR Tryz.prog 130 [.aH,c n] ((aG.ad bs).av (B:I Int)):=by
 intro w F l s p;obtain⟨m,rfl⟩:=tO o;have e:l=[.slice none 0 0,.int .i64 (m:Int)]:=by
  match l,p with
  |[a,b],⟨k,f,_⟩=>
   simp only[gm]at k f
   cases k;cases f;rfl
 subst e;rcases yr m with h|h
 .subst h;refine Calls.mono (Any8.slices_Grow_room agT none 0 0 0 w Ω Ω Ω Ω) λe w' ⟨d,j⟩=> ?_;subst j;exact⟨_,d,.inl ⟨rfl,rfl⟩,Below.refl _ _⟩
 .obtain⟨i,g⟩: ∃i,Tryz.prog.info? 5=some i:=⟨_,rfl⟩;have u:i.size=1:=by
   have:(Tryz.prog.info? 5).map TypeInfo.size=some 1:=by kernel_rfl
   rw[g]at this;simpa using this
  have f:i.bytes=1:=by
   have:(Tryz.prog.info? 5).map TypeInfo.bytes=some 1:=by kernel_rfl
   rw[g]at this;simpa using this
  obtain⟨z,q,r⟩: ∃z,i.zero=some z/\z.cells.size=1:=by
   have:(Tryz.prog.info? 5).map TypeInfo.zero=some (some (.int .u8 0)):=by kernel_rfl
   rw[g]at this;exact⟨.int .u8 0,by simpa using this,rfl⟩
  refine Calls.mono (Any8.slices_Grow_grow agT i z g q Ω none 0 0 m [] w Ω Ω (by rw[f];omega) Ω Χ (λ_=>rfl) (λa h=>by cases h)) λe w' ⟨d,j⟩=> ?_;have t:0+m<=grownCap w (0+m) 0 5:=yp w _ _ _;rw[d,j];refine ave w _ _ _ _ _ ?_;simp only[yq,r4,size_zeroCells,r,gx];show _=grownCap w (0+m) 0 5;have:grownCap w (0+m) 0 (agU.t 25)=grownCap w (0+m) 0 5:=rfl;rw[this];omega
def RV:List J->Option (aZ×J)
 |[.aH,.int .i64 n]=>some (.p (0<=n/\n<=549755813888),(aG.ad bs).av (B:I Int))
 |_=>none
structure apL where
 hL:List J->Option (aZ×J)
def aoy:apL:=⟨RV⟩
def azA:Fj Tryz.prog 130 aoy.hL:=⟨⟨_,_,Tryz.func130,rfl,Ξ⟩,λa o r e b=>by
 show fR Tryz.prog 130 a r
 change RV a=some (o,r)at e
 unfold RV at e
 split at e
 .cases e
  exact aDP _ b.1 b.2
 .cases e⟩
section
variable(A g:Int)(u:I ax)(o v:Int)
def DH:Bool:=cond (decide (o<0)) true (cond (decide (o>1048576)) true (decide (v<0)))
def sY:I ax:=cond (cV A g u !=0) (B:I ax) (cond (DH o v) (B:I ax) (cond (hQ A u o !=0) (B:I ax) (I.part (I.part u (i64 (o-A)) (u.n:Int)) 0 (gj (((toNat ((u.n:Int)- (i64 (o-A)))):Nat):Int) v))))
def au5:Int:=cond (cV A g u !=0) (cV A g u) (cond (DH o v) 2 (cond (hQ A u o !=0) (hQ A u o) 0))
def apy:bt:=⟨[.g [a,a,.ab dT],.v a,.v a],λ(A g:Int) u (o v:Int)=>⟨⟨some (o<=9223372036854775807/\ -9223372036854775808<=o/\v<=9223372036854775807/\ -9223372036854775808<=v),.du [aV 10 eJ (sY A g u o v),c (au5 A g u o v)]⟩⟩⟩
def aAp:bE 80 apy:=bG Tryz.func80
 λ(A g:Int) u p _ (o v:Int) i=>bJ ⟨.pure,[.tmp 6,.tmp 7],[(.t 0,.ab dT),(.t 1,a)],⟨[U,U],[]⟩⟩ (.ae (.ae (.s (.j ⟨67109070,[],[(.t 26,l)],[],.f⟩ .z .z) .z))) (let e:=i64 (o-A);let h:=toNat ((u.n:Int)-e);let b:=gj (h:Int) v;(cV A g u !=0)=false->DH o v=false->(0<=A/\A<=1048576/\o<=9223372036854775807)/\((hQ A u o !=0)=false->((0:Int)<=e/\(e:Int)<=(u.n:Int)/\(u.n:Int)<=(u.n:Int)/\(u.n:Int)<=(u.n:Int))/\(0:Int)<=0/\(0:Int)<=b/\(b:Int)<=b/\(b:Int)<=(h:Int))) (cK (aR x0 (aR OT (aR DZ ba)))) Tryz.func80 (have⟨j,k,m,n⟩:=i;(λc d=>⟨by have:=fF _ _ _ (bP c);have:=d;simp [DH]at this;have:=BS A u o;omega,(λf=>⟨(by have:=fF _ _ _ (bP c);have:=d;simp [DH]at this;have:=bP f;have:=BS A u o;first|omega|(have:=E (o-A);omega)),(by have:=fF _ _ _ (bP c);have:=d;simp [DH]at this;have:=bP f;have:=BS A u o;have:=qm (((toNat ((u.n:Int)- (i64 (o-A)))):Nat):Int) v;first|omega|(have:=E (o-A);omega))⟩)⟩))
end
section
variable(A g:Int)(u:I ax)(o v:Int)(d:I ax)
def NH:Bool:=cond (hQ A u o !=0) true (kD A g u o !=v)
def cJ:Int:=cond (decide (o<A)) (i64 (o+gj (i64 (A-o)) (d.n:Int))) o
def eB:I ax:=cond (decide (o<A)) (I.part d (gj (i64 (A-o)) (d.n:Int)) (d.n:Int)) d
def qj:Bool:=cond (decide (o<A)) (cond (decide (i64 (o+gj (i64 (A-o)) (d.n:Int))<A)) false true) (cond (NH A g u o v) false true)
def s3(a:Int):Bool:=cond (decide (i64 (i64 (cJ A o d-A)+a)<(u.n:Int))) ((u.at' (toNat (i64 (i64 (cJ A o d-A)+a)))).r==((eB A o d).at' a.toNat).r) false
def o6(A g:Int)(u:I ax)(o:Int)(d:I ax):Nat->Int->Bool×Int×Int×I ax×Bool×Int×Int
 |0,_=>default
 |k+1,a=>cond (decide (a<((eB A o d).n:Int))) (cond (s3 A u o d a) (o6 A g u o d k (i64 (a+1))) (cond (cV A g (I.app (I.part u 0 (i64 (i64 (cJ A o d-A)+a))) (I.part (eB A o d) a ((eB A o d).n:Int)))!=0) (true,0,0,(B:I ax),false,0,6) (true,A,g,I.app (I.part u 0 (i64 (i64 (cJ A o d-A)+a))) (I.part (eB A o d) a ((eB A o d).n:Int)),true,i64 (i64 (cJ A o d+a)+1),0))) (false,default,default,default,default,default,default)
def s4:Bool×Int×Int×I ax×Bool×Int×Int:=o6 A g u o d (toNat (((eB A o d).n:Int)-0)+1) 0
def vb:Bool:=cond (s4 A g u o d).1 false true
def cr:Int:=cond (cV A g u !=0) 0 (cond (cV o v d !=0) 0 (cond (qj A g u o v d) (cond (vb A g u o d) A (s4 A g u o d).2.1) A))
def va:Int:=cond (cV A g u !=0) 0 (cond (cV o v d !=0) 0 (cond (qj A g u o v d) (cond (vb A g u o d) g (s4 A g u o d).2.2.1) g))
def cf:I ax:=cond (cV A g u !=0) (B:I ax) (cond (cV o v d !=0) (B:I ax) (cond (qj A g u o v d) (cond (vb A g u o d) u (s4 A g u o d).2.2.2.1) u))
def jF:Bool:=cond (cV A g u !=0) false (cond (cV o v d !=0) false (cond (qj A g u o v d) (cond (vb A g u o d) true (s4 A g u o d).2.2.2.2.1) (cond (decide (o<A)) true false)))
def dQ:Int:=cond (cV A g u !=0) 0 (cond (cV o v d !=0) 0 (cond (qj A g u o v d) (cond (vb A g u o d) 0 (s4 A g u o d).2.2.2.2.2.1) 0))
def iP:Int:=cond (cV A g u !=0) (cV A g u) (cond (cV o v d !=0) 10 (cond (qj A g u o v d) (cond (vb A g u o d) 0 (s4 A g u o d).2.2.2.2.2.2) 0))
def f75(A g:Int)(u:I ax)(o v:Int)(d:I ax)(h:qj A g u o v d=true)(r:((0<=A/\A<=1048576)/\u.n<=200)/\(0<=o/\o<=1048576)/\d.n<=200):(A<=cJ A o d/\cJ A o d<=A+(u.n:Int))/\(eB A o d).n<=d.n:=by
 unfold qj at h;unfold cJ eB
 by_cases c:o<A
 .rw[bm c]at h |-;simp only[au]at h |-;have k:=qm (i64 (A-o)) (d.n:Int);rw[E (A-o)]at h k |-;generalize gj (A-o) (d.n:Int)=q at*
  rw[E (o+q)]at h |-;have f: ¬(o+q<A):=by
   intro e;rw[bm e]at h
   cases h
  refine⟨Ω,?_⟩;show toNat ((d.n:Int)-q)<=d.n;omega
 .rw[a8 c]at h |-;simp only[aB]at h |-;have a:NH A g u o v=false:=by
   cases e:NH A g u o v with
   |false=>rfl
   |true=>rw[e]at h;cases h
  unfold NH at a;have b:hQ A u o=0:=by
   cases e:(hQ A u o !=0)with
   |true=>rw[e]at a;cases a
   |false=>exact bP e
  have:=BS A u o ⟨b,Ω,Ω,Ω⟩;exact⟨this,bH _⟩
def apA:bt:=⟨[.g [a,a,.ab dT],.v a,.v a,.v (.ab dT)],λA g u o v d=>⟨⟨none,.du [.agg [c (cr A g u o v d),c (va A g u o v d),aV 10 eJ (cf A g u o v d)],.bool (jF A g u o v d),c (dQ A g u o v d),c (iP A g u o v d)]⟩⟩⟩
def aiG:bE 70 apA:=bG Tryz.func70
 λ(A g:Int) u F _ (o v:Int) d G _=>bJ (ms:=[.b .f (.b .f (.b .f .l)),.b .f (.b .f (.b .f .l)),.b .f (.b .f (.b .f .l)),.f,.b .f (.b .f (.b .f .l)),.b .f (.b .f (.b .f .l))]) ⟨.pure,[.cell 8 38,.tmp 9,.tmp 10,.tmp 11],[(.c 0 0,a),(.c 0 1,a),(.c 0 2,.ab dT),(.t 1,l),(.t 2,a),(.t 3,a)],⟨[.agg (us 3 []),U,U,U],[]⟩⟩ (.ae (.ae (.ae (.ae (.j ⟨3866,[],[(.t 1,a),(.t 3,.ab dT)],[],.f⟩ (.ae (.ae (.ae (.j ⟨18889465931478580858650,[],[(.t 74,l)],[],.f⟩ .z .z)))) (.ae (.j ⟨3840,[],[],[],.f⟩ (.ae (.c6 ⟨8462480737302404223012618,[.b 0],[],[(.t 82,a)],some 0,true,3840,[],[],λk (s:Int)=>o6 A g u o d k s,.f,λ(s:Int)=>0<=s/\s<=((eB A o d).n:Int)/\i64 (i64 (cJ A o d-A)+s)<=(u.n:Int),λ(s:Int)=>toNat (((eB A o d).n:Int)-s),none⟩ (.ae (.ae (.s (.ae (.s (.j ⟨81169251286937994249956602875658,[],[(.t 94,l),(.t 106,l)],[],.f⟩ .z .z) .z)) .z))))) .z))))))) (let r:=gj (i64 (A-o)) (d.n:Int);let p:=i64 (cJ A o d-A);let c:=eB A o d;(cV A g u !=0)=false->(cV o v d !=0)=false->((decide (o<A)=true->(0:Int)<=r/\(r:Int)<=(d.n:Int)/\(d.n:Int)<=(d.n:Int)/\(d.n:Int)<=(d.n:Int))/\(decide (o<A)=false->0<=A/\A<=1048576/\o<=9223372036854775807))/\(qj A g u o v d=true->(0<=(0:Int)/\(0:Int)<=(c.n:Int)/\i64 (p+(0:Int))<=(u.n:Int))/\∀(b:Int),let x:=s3 A u o d b;let w:=decide (b<c.n);let t:=toNat ((c.n:Int)-b);let m:=i64 (b+1);let e:=i64 (p+b);(0<=b/\b<=c.n/\e<=u.n)->(w=true->((0:Int)<=b/\b<c.n)/\(decide (e<u.n)=true->((0:Int)<=e/\e<u.n)/\toNat e<u.n)/\(x=false->(e=e/\(0:Int)<=0/\(0:Int)<=e/\(e:Int)<=e/\(e:Int)<=(u.n:Int))/\((0:Int)<=b/\(b:Int)<=(c.n:Int)/\(c.n:Int)<=(c.n:Int)/\(c.n:Int)<=(c.n:Int))/\0<t/\toNat (e-0)+t<=549755813888))/\(w=true->x=true->(0<=m/\m<=c.n/\i64 (p+m)<=(u.n:Int))/\toNat ((c.n:Int)-m)<toNat ((c.n:Int)-b)))) (cK (aR x0 (aR OT (aR DZ ba)))) Tryz.func70 (λf h=>⟨⟨λB=>have:=fF _ _ _ (bP f);have:=fF _ _ _ (bP h);have:=al B;have:=qm (i64 (A-o)) (d.n:Int);have:=E (A-o);Ω,λC=>have:=fF _ _ _ (bP f);have:=fF _ _ _ (bP h);Ω⟩,(λi=>⟨have:=fF _ _ _ (bP f);have:=fF _ _ _ (bP h);have:=f75 _ _ _ _ _ _ i Ω;have:=E (cJ A o d-A);have:=E (i64 (cJ A o d-A)+(0:Int));Ω,(λb D=>⟨(λj=>⟨have:=al j;Ω,⟨λq=>⟨have:=fF _ _ _ (bP f);have:=fF _ _ _ (bP h);have:=f75 _ _ _ _ _ _ i Ω;have:=al q;have:=E (cJ A o d-A);have:=E (i64 (cJ A o d-A)+b);Ω,have:=fF _ _ _ (bP f);have:=fF _ _ _ (bP h);have:=f75 _ _ _ _ _ _ i Ω;have:=al q;have:=E (cJ A o d-A);have:=E (i64 (cJ A o d-A)+b);Ω⟩,(λn=>⟨(by have:=fF _ _ _ (bP f);have:=fF _ _ _ (bP h);have:=f75 _ _ _ _ _ _ i Ω;have:=al j;have:=n;simp [s3]at this;first|omega|(have:=E (cJ A o d-A);have:=E (i64 (cJ A o d-A)+b);omega)),⟨(by have:=fF _ _ _ (bP f);have:=fF _ _ _ (bP h);have:=f75 _ _ _ _ _ _ i Ω;have:=al j;have:=n;simp [s3]at this;first|omega|(have:=E (cJ A o d-A);have:=E (i64 (cJ A o d-A)+b);omega)),(by have:=fF _ _ _ (bP f);have:=fF _ _ _ (bP h);have:=f75 _ _ _ _ _ _ i Ω;have:=al j;have:=n;simp [s3]at this;first|omega|(have:=E (cJ A o d-A);have:=E (i64 (cJ A o d-A)+b);omega))⟩⟩)⟩⟩),λy z=>by have:=fF _ _ _ (bP f);have:=fF _ _ _ (bP h);have:=f75 _ _ _ _ _ _ i Ω;have:=al y;have:=z;(try simp [s3]at this);have:=E (cJ A o d-A);have:=E (b+1);have:=E (i64 (cJ A o d-A)+b);have:=E (i64 (cJ A o d-A)+i64 (b+1));omega⟩)⟩)⟩)
end
def ao5:bt:=⟨[.v a],λ(A:Int)=>⟨⟨some (0<=A/\A<3),.agg [.bool (A==0),.bool (A==1),.bool (A==2)]⟩⟩⟩
def aiw:bE 57 ao5:=bG Tryz.func57
 λ(A:Int) a=>by
  have:A=0\/A=1\/A=2:=by omega
  rcases this with rfl|rfl|rfl
  .exact bJ ⟨.pure,[.cell 2 74],[(.c 0 0,l),(.c 0 1,l),(.c 0 2,l)],⟨[.agg (us 3 [])],[]⟩⟩ .z True gb Tryz.func57 trivial
  .exact bJ ⟨.pure,[.cell 2 74],[(.c 0 0,l),(.c 0 1,l),(.c 0 2,l)],⟨[.agg (us 3 [])],[]⟩⟩ .z True gb Tryz.func57 trivial
  .exact bJ ⟨.pure,[.cell 2 74],[(.c 0 0,l),(.c 0 1,l),(.c 0 2,l)],⟨[.agg (us 3 [])],[]⟩⟩ .z True gb Tryz.func57 trivial
end Go.Proofs.YtcpfnfkibnjcfaaGreatDoor
namespace Go.ag
open Go Go.Proofs Go.RowKit Go.Shelf
section
variable {P:Program} {ρ:Ren}
def pw{x:Int}(a:0<=x)(b:x<=18446744073709551615):u64 x=x:=by
 have h:u64 x=x%18446744073709551616:=by simp [IntKind.wrap,IntKind.bits,IntKind.signed]
 rw[h];omega
def o_(x:Int):x/2^(toNat 1)=x/2:=rfl
def I.ins{α:Type}(s:I α)(i:Nat)(x:α):I α:=⟨s.n+1,λt=>bif Nat.blt t i then s.at' t else bif Nat.beq t i then x else s.at' (t-1)⟩
def I.del{α:Type}(s:I α)(i j:Nat):I α:=⟨s.n- (j-i),λt=>bif Nat.blt t i then s.at' t else s.at' (t+(j-i))⟩
def IJ(E:cZ):cj:=⟨[.o 0,.v (.int .i64),.o 1],[(.h 0 0,.ad E),(.h 1 0,.ad E)],[[.undef],[.undef]],
 λ(g:Int) (A u:I E.T)=>⟨⟨some (0<=g/\g<=A.n/\A.n+1<=549755813888/\u.n=1),[.own 0 (A.n+1)],[[(aG.ad E).av (I.ins A g.toNat (u.at' 0))],[(aG.ad E).av u]]⟩⟩⟩
def yS(E:cZ):cj:=⟨[.o 0,.v (.int .i64),.v (.int .i64)],[(.h 0 0,.ad E)],[[.undef]],
 λ(g u:Int) (A:I E.T)=>⟨⟨some (0<=g/\g<u/\u<=A.n),[.own 1 (A.n- (toNat u-toNat g))],[[dP],[(aG.ad E).av (I.del A g.toNat u.toNat)]]⟩⟩⟩
def OL{E:cZ}{bytes:Nat}{z:Value}(L:sd P ρ E.af bytes z)(j:mN P (ρ.f 22))(k:0<E.af)(f:bytes<=255)(l: ∀m,(Builtin.zeroCells z.cells m).size=m*E.af):j9 P (ρ.f 22) (IJ E).hL:=
 cj.ok j rfl λ(g:Int) (A:I E.T) _ (u:I E.T) _ (a:0<=g/\g<=A.n/\A.n+1<=549755813888/\u.n=1)=>by
  have n: ∀(i m:Nat),g=(i:Int)->u.n=m->m=1->gn P (ρ.f 22) [.own 0 A.n,.int .i64 g,.own 1 u.n] [[.ad false E.af A.n λt=>E.e (A.at' t)],[.ad false E.af u.n λt=>E.e (u.at' t)]] [.own 0 (A.n+1)]
    [[.ad false E.af (A.n+1) λt=>E.e ((I.ins A g.toNat (u.at' 0)).at' t)],[.ad false E.af u.n λt=>E.e (u.at' t)]]:=by
   intro i m b c d;rw[c,d,b];have h:=axX L k f l A.n i (λt=>E.e (A.at' t)) (λt=>E.e (u.at' t)) Ω a.2.2.1;have e:l3 (λt=>E.e (A.at' t)) i (λt=>E.e (u.at' t))=λt=>E.e ((I.ins A i (u.at' 0)).at' t):=by
    funext t
    unfold l3 I.ins;simp only
    cases Nat.blt t i with
    |true=>rfl
    |false=>cases Nat.beq t i<;>rfl
   rw[e]at h;rw[gN];exact h
  exact n g.toNat u.n Ω rfl a.2.2.2
def B2{f:FuncId}{E:cZ}{z:Value}(d:QX P f E.af z)(c:mN P f)(k: ∀m,(Builtin.zeroCells z.cells m).toList.length=m*E.af/\ ∀v∈(Builtin.zeroCells z.cells m).toList,v.oneCell'=true):j9 P f (yS E).hL:=
 cj.ok c rfl λ(g u:Int) (A:I E.T) _ (n:0<=g/\g<u/\u<=A.n)=>by
  have l: ∀(i j:Nat),g=(i:Int)->u=(j:Int)->gn P f [.own 0 A.n,.int .i64 g,.int .i64 u] [[.ad false E.af A.n λt=>E.e (A.at' t)]] [.own 1 (A.n- (toNat u-toNat g))]
    [[dP],[.ad false E.af (A.n- (toNat u-toNat g)) λt=>E.e ((I.del A g.toNat u.toNat).at' t)]]:=by
   intro i j a b;rw[a,b,gN,gN];have h:=arW d k A.n i j (λt=>E.e (A.at' t)) Ω Ω;have e:yR (λt=>E.e (A.at' t)) i j=λt=>E.e ((I.del A i j).at' t):=by
    funext t
    unfold yR I.del;simp only
    cases Nat.blt t i<;>rfl
   rw[e]at h;exact h
  exact l g.toNat u.toNat Ω Ω
def vX{P:Program}{T:TypeId}{z:Value}{k b:Nat}(h:(P.info? T).map (λi=>(i.zero,i.size,i.bytes))=some (some z,k,b))(w:World):(Go.sizeOf T).run P w= .ok k w:=by
 have⟨i,a,_,c,_⟩:=info_parts h;simp [sizeOf,typeInfo,a,c]
def aHz{P:Program}{T:TypeId}{z:Value}{k b:Nat}(h:(P.info? T).map (λi=>(i.zero,i.size,i.bytes))=some (some z,k,b))(w:World):(zeroValue T).run P w= .ok z w:=by
 have⟨i,a,c,_,_⟩:=info_parts h;simp [zeroValue,typeInfo,a,c]
def tK{z:Value}{k:Nat}(f:z.cells.size=k)(d:z.cells.all (λv=>v.oneCell')=true)(m:Nat):(Builtin.zeroCells z.cells m).toList.length=m*k/\ ∀v∈(Builtin.zeroCells z.cells m).toList,v.oneCell'=true:=by
 subst f;refine⟨by simp [Builtin.zeroCells],λv c=> ?_⟩;simp only[Builtin.zeroCells,Array.toList_map,oc,Array.mem_toList_iff,Array.mem_range]at c;obtain⟨i,a,rfl⟩:=c;have g:0<z.cells.size:=by
  rcases yr z.cells.size with e|e
  .rw[e]at a;simp at a
  .exact e
 have b:=Nat.mod_lt i g;rw[getElem!_pos z.cells _ b];exact Array.all_eq_true.1 d _ b
def B1{k b:Nat}{z:Value}(mixed:P.follows .mixedOrders=true)(F:Bears P (ρ.f 45) (SlBodyN.n45 ρ))(v:P.underlying (ρ.t 22)=some (TypeDesc.slice (ρ.t 23)))(h:(P.info? (ρ.t 23)).map (λi=>(i.zero,i.size,i.bytes))=some (some z,k,b)):QX P (ρ.f 45) k z:=by
 have⟨t,r,y,s,_⟩:=info_parts h;intro p q n i j w u x aL aO d e f g l m o a c;exact arX k mixed F v (vX h) z (aHz h) t r s p q n i j w u x aL aO d e f g l m o a c
end
end Go.ag
namespace Go.Proofs.YtcpfnfkibnjcfaaGreatDoor
open Go Go.Proofs Go.RowKit Go.Shelf Go.ag
def OK(f a rot T E:Nat):Ren:=⟨λn=>match n with
 |22=>f
 |29=>a
 |30=>rot
 |n=>n,λn=>match n with
 |24=>T
 |9=>E
 |n=>n,λn=>n⟩
def B0(f T E:Nat):Ren:=⟨λn=>match n with
 |45=>f
 |n=>n,λn=>match n with
 |22=>T
 |23=>E
 |n=>n,λn=>n⟩
def axQ:sd Tryz.prog (OK 198 208 209 115 123) 2 32 (.agg #[.string ε,.string ε]):=
 have a:(Tryz.prog.info? 123).map (λi=>(i.zero,i.size,i.bytes))=some (some ((.agg #[.string ε,.string ε]):Value),2,32):=by kernel_rfl
 ⟨mixed,⟨ "slices.Insert[[]rostrum/api.Pair,rostrum/api.Pair]",Ξ,Ξ⟩,Ξ,Ξ,vX a,a,λw eo b o m s p c q r n l d f g h j k=>by
  show(callFunc 208 _).run Tryz.prog w=_;rw[run_callFunc_extern Tryz.func208 Ξ Ξ Ξ (e:=Extern.SlicesOverlaps.overlaps #[115,115] #[4]) Ξ,Lib.run_overlaps_apart w 115 4 123 Ξ 2 (vX a) ⟨eo,0,none⟩ ⟨b,o,none⟩ m s p c d q r n l f g h j k];rfl⟩
abbrev aoM:cj:=IJ ds
def azK:j9 Tryz.prog 198 aoM.hL:=OL (E:=ds) axQ ⟨_,_,Tryz.func198,rfl,Ξ⟩ Δ Ω λm=>Array.length_toList.symm.trans (tK (k:=2) (z:=(.agg #[.string ε,.string ε])) rfl Ξ m).1
def axR:sd Tryz.prog (OK 201 210 211 91 9) 1 16 (.string ε):=
 have a:(Tryz.prog.info? 9).map (λi=>(i.zero,i.size,i.bytes))=some (some ((.string ε):Value),1,16):=by kernel_rfl
 ⟨mixed,⟨ "slices.Insert[[]string,string]",Ξ,Ξ⟩,Ξ,Ξ,vX a,a,λw eo b o m s p c q r n l d f g h j k=>by
  show(callFunc 210 _).run Tryz.prog w=_;rw[run_callFunc_extern Tryz.func210 Ξ Ξ Ξ (e:=Extern.SlicesOverlaps.overlaps #[91,91] #[4]) Ξ,Lib.run_overlaps_apart w 91 4 9 Ξ 1 (vX a) ⟨eo,0,none⟩ ⟨b,o,none⟩ m s p c d q r n l f g h j k];rfl⟩
abbrev aoP:cj:=IJ b1
def aip:j9 Tryz.prog 201 aoP.hL:=OL (E:=b1) axR ⟨_,_,Tryz.func201,rfl,Ξ⟩ Δ Ω λm=>Array.length_toList.symm.trans (tK (k:=1) (z:=(.string ε)) rfl Ξ m).1
def axS:sd Tryz.prog (OK 206 214 215 116 126) 2 24 (.agg #[.string ε,.int .i64 0]):=
 have a:(Tryz.prog.info? 126).map (λi=>(i.zero,i.size,i.bytes))=some (some ((.agg #[.string ε,.int .i64 0]):Value),2,24):=by kernel_rfl
 ⟨mixed,⟨ "slices.Insert[[]rostrum/api.Score,rostrum/api.Score]",Ξ,Ξ⟩,Ξ,Ξ,vX a,a,λw eo b o m s p c q r n l d f g h j k=>by
  show(callFunc 214 _).run Tryz.prog w=_;rw[run_callFunc_extern Tryz.func214 Ξ Ξ Ξ (e:=Extern.SlicesOverlaps.overlaps #[116,116] #[4]) Ξ,Lib.run_overlaps_apart w 116 4 126 Ξ 2 (vX a) ⟨eo,0,none⟩ ⟨b,o,none⟩ m s p c d q r n l f g h j k];rfl⟩
abbrev aoU:cj:=IJ dc
def azQ:j9 Tryz.prog 206 aoU.hL:=OL (E:=dc) axS ⟨_,_,Tryz.func206,rfl,Ξ⟩ Δ Ω λm=>Array.length_toList.symm.trans (tK (k:=2) (z:=(.agg #[.string ε,.int .i64 0])) rfl Ξ m).1
abbrev aoN:cj:=yS ds
def azL:j9 Tryz.prog 199 aoN.hL:=B2 (E:=ds) (z:=(.agg #[.string ε,.string ε])) (B1 (ρ:=B0 199 115 123) (b:=32) mixed ⟨ "slices.Delete[[]rostrum/api.Pair,rostrum/api.Pair]",Ξ,Ξ⟩ Ξ Ξ) ⟨_,_,Tryz.func199,rfl,Ξ⟩ (tK rfl Ξ)
abbrev aoR:cj:=yS b1
def azN:j9 Tryz.prog 203 aoR.hL:=B2 (E:=b1) (z:=(.string ε)) (B1 (ρ:=B0 203 91 9) (b:=16) mixed ⟨ "slices.Delete[[]string,string]",Ξ,Ξ⟩ Ξ Ξ) ⟨_,_,Tryz.func203,rfl,Ξ⟩ (tK rfl Ξ)
abbrev aoS:cj:=yS dc
def azO:j9 Tryz.prog 204 aoS.hL:=B2 (E:=dc) (z:=(.agg #[.string ε,.int .i64 0])) (B1 (ρ:=B0 204 116 126) (b:=24) mixed ⟨ "slices.Delete[[]rostrum/api.Score,rostrum/api.Score]",Ξ,Ξ⟩ Ξ Ξ) ⟨_,_,Tryz.func204,rfl,Ξ⟩ (tK rfl Ξ)
def axP:sd Tryz.prog (OK 178 193 194 39 120) 8 128 (.agg #[.string ε,.int .i64 0,.string ε,.int .i64 0,.slice none 0 0,.slice none 0 0,.slice none 0 0,.int .i64 0]):=
 have a:(Tryz.prog.info? 120).map (λi=>(i.zero,i.size,i.bytes))=some (some ((.agg #[.string ε,.int .i64 0,.string ε,.int .i64 0,.slice none 0 0,.slice none 0 0,.slice none 0 0,.int .i64 0]):Value),8,128):=by kernel_rfl
 ⟨mixed,⟨ "slices.Insert[[]rostrum/api.Entry,rostrum/api.Entry]",Ξ,Ξ⟩,Ξ,Ξ,vX a,a,λw eo b o m s p c q r n l d f g h j k=>by
  show(callFunc 193 _).run Tryz.prog w=_;rw[run_callFunc_extern Tryz.func193 Ξ Ξ Ξ (e:=Extern.SlicesOverlaps.overlaps #[39,39] #[4]) Ξ,Lib.run_overlaps_apart w 39 4 120 Ξ 8 (vX a) ⟨eo,0,none⟩ ⟨b,o,none⟩ m s p c d q r n l f g h j k];rfl⟩
abbrev ani:cj:=IJ bx
def ayM:j9 Tryz.prog 178 ani.hL:=OL (E:=bx) axP ⟨_,_,Tryz.func178,rfl,Ξ⟩ Δ Ω λm=>Array.length_toList.symm.trans (tK (k:=8) (z:=(.agg #[.string ε,.int .i64 0,.string ε,.int .i64 0,.slice none 0 0,.slice none 0 0,.slice none 0 0,.int .i64 0])) rfl Ξ m).1
abbrev anh:cj:=yS bx
def ayL:j9 Tryz.prog 172 anh.hL:=B2 (E:=bx) (z:=(.agg #[.string ε,.int .i64 0,.string ε,.int .i64 0,.slice none 0 0,.slice none 0 0,.slice none 0 0,.int .i64 0])) (B1 (ρ:=B0 172 39 120) (b:=128) mixed ⟨ "slices.Delete[[]rostrum/api.Entry,rostrum/api.Entry]",Ξ,Ξ⟩ Ξ Ξ) ⟨_,_,Tryz.func172,rfl,Ξ⟩ (tK rfl Ξ)
end Go.Proofs.YtcpfnfkibnjcfaaGreatDoor
namespace Go.Proofs.YtcpfnfkibnjcfaaGreatDoor
open Go Go.RowKit Go.ag
section
variable(A:Int)
def ae6:Bool:=cond (A==4) (A==4) (cond (A==5) (A==5) (A==6))
def ae7:Bool:=cond (A==7) (A==7) (cond (A==8) (A==8) (cond (A==9) (A==9) (A==10)))
def ae8:Bool:=cond (A==11) (A==11) (cond (A==12) (A==12) (A==13))
def ae9:Bool:=cond (A==14) (A==14) (cond (A==15) (A==15) (A==16))
def CR:Int:=cond (A==2) 1 (cond (A==3) 2 (cond (ae6 A) 3 (cond (ae7 A) 4 (cond (ae8 A) 5 (cond (ae9 A) 6 0)))))
def an8:bt:=⟨[.v a],λA=>⟨⟨none,c (CR A)⟩⟩⟩
def azc:bE 174 an8:=bG Tryz.func174
 λ(A:Int)=>bJ ⟨.pure,[.tmp 2],[(.t 0,a)],⟨[U],[]⟩⟩ (.ae (.s (.ae (.ae (.ae (.ae (.ae (.j ⟨268,[],[(.t 8,l)],[],.f⟩ .z (.ae (.j ⟨4108,[],[(.t 12,l)],[],.f⟩ .z (.ae (.j ⟨131084,[],[(.t 17,l)],[],.f⟩ .z (.ae (.j ⟨2097156,[],[(.t 21,l)],[],.f⟩ .z .z)))))))))))) .z)) True gb Tryz.func174 trivial
def ae_:Bool:=cond (A==1) (A==1) (cond (A==3) (A==3) (cond (A==4) (A==4) (cond (A==7) (A==7) (cond (A==8) (A==8) (cond (A==11) (A==11) (A==14))))))
def CS:Bool:=cond (ae_ A) true false
def an9:bt:=⟨[.v a],λA=>⟨⟨none,.bool (CS A)⟩⟩⟩
def azd:bE 175 an9:=bG Tryz.func175
 λ(A:Int)=>bJ ⟨.pure,[.tmp 2],[(.t 0,l)],⟨[U],[]⟩⟩ (.ae (.s (.ae (.j ⟨20,[],[(.t 4,l)],[],.f⟩ .z .z)) .z)) True gb Tryz.func175 trivial
def sC:Int:=A
def uN:z:=ε
def uO:Int:=0
def uP:I z:=(B:I z)
def an_:bt:=⟨[.v a],λA=>⟨⟨none,.agg [c (sC A),.str uN,c uO,aV 1 c5 uP]⟩⟩⟩
def D1:bE 176 an_:=bG Tryz.func176
 λ(A:Int)=>bJ ⟨.pure,[.cell 2 93],[(.c 0 0,a),(.c 0 1,ar),(.c 0 2,a),(.c 0 3,.ab b1)],⟨[.agg (us 4 [])],[]⟩⟩ .z True gb Tryz.func176 trivial
def p1:Int:=0
def p2:z:=ε
def nJ:Int:=A
def p3:I z:=(B:I z)
def aoC:bt:=⟨[.v a],λA=>⟨⟨none,.agg [c p1,.str p2,c (nJ A),aV 1 c5 p3]⟩⟩⟩
def IS:bE 187 aoC:=bG Tryz.func187
 λ(A:Int)=>bJ ⟨.pure,[.cell 2 93],[(.c 0 0,a),(.c 0 1,ar),(.c 0 2,a),(.c 0 3,.ab b1)],⟨[.agg (us 4 [])],[]⟩⟩ .z True gb Tryz.func187 trivial
def Ha(A:Bool):Int:=cond A 1 0
def aoO:bt:=⟨[.v l],λA=>⟨⟨none,c (Ha A)⟩⟩⟩
def XK:bE 200 aoO:=bG Tryz.func200
 λA=>bJ ⟨.pure,[.tmp 2],[(.t 0,a)],⟨[U],[]⟩⟩ .z True gb Tryz.func200 trivial
end
end Go.Proofs.YtcpfnfkibnjcfaaGreatDoor
namespace Go.ag
open Go
def oo(p:Nat->Bool):Nat->Int->Int->Int
 |0,_,_=>default
 |k+1,i,j=>bif decide (i<j)then(bif p (toNat (i64 ((u64 (i64 (i+j)))/2^(toNat 1))))then oo p k (i64 (i64 ((u64 (i64 (i+j)))/2^(toNat 1))+1)) j
   else oo p k i (i64 ((u64 (i64 (i+j)))/2^(toNat 1))))else i
def aqH{i j:Int}(a:0<=i)(b:i<j)(c:j<=549755813888):(i64 ((u64 (i64 (i+j)))/2^(toNat 1)))=(i+j)/2/\i<=(i+j)/2/\(i+j)/2<j:=by
 rw[E (i+j),pw (x:=i+j) Ω Ω,o_,E _];omega
def BO{p:Nat->Bool}{n:Int}(c:n<=549755813888): ∀(k:Nat) (i j:Int),0<=i->i<=j->j<=n->0<=oo p k i j/\oo p k i j<=n
 |0,_,_,a,d,b=>⟨bz _,by show(0:Int)<=n;omega⟩
 |k+1,i,j,a,d,b=>by
  simp only[oo]
  by_cases h:i<j
  .obtain⟨e,f,g⟩:=aqH a h Ω;simp only[h,yo,au,e]
   cases p (toNat ((i+j)/2))with
   |true=>
    simp only[au];rw[E _];exact BO c k _ _ Ω Ω b
   |false=>
    simp only[aB];exact BO c k _ _ a Ω Ω
  .simp only[h,Bp,aB];omega
