/- Part of a proof: walks of the program. -/
import Derived.Test.YtfmgjpcmcjjoiaaGreatDoorXi
import Derived.Shelf.Spec.SlicesGrow
open Go.IntKind (i64 u64 u8)
open Int (toNat)
set_option maxRecDepth 100000
set_option maxHeartbeats 4000000
set_option linter.all false
noncomputable section
namespace Go.Proofs.YtfmgjpcmcjjoiaaGreatDoor
open Go Go.RowKit Go.ah
section
def zF(d:z)(g:z):Int:=(zQ d g)
def ajG:a6:=⟨[.v au,.v au],fun d g=>⟨⟨none,b (zF d g)⟩⟩⟩
theorem KW:bg 182 ajG:=bj Tryz.func182
 fun d _ g _=>bf ⟨.pure,[.tmp 4],[(.t 0,a)],⟨[U],[]⟩⟩ (.z) True (b4 (aw avD aT)) Tryz.func182 (trivial)
def v5(d:z)(u:z):Int:=(zF d u)
def ajC:a6:=⟨[.g [au,au],.g [au,au]],fun d _ u _=>⟨⟨none,b (v5 d u)⟩⟩⟩
theorem aeL:bg 178 ajC:=bj Tryz.func178
 fun d _ g _ u _ h _=>bf ⟨.pure,[.tmp 4],[(.t 0,a)],⟨[U],[]⟩⟩ (.z) True (b4 (aw KW aT)) Tryz.func178 (trivial)
def Qd(d:A br):Nat→Int→Bool×Bool
 |0,_=>default
 |k+1,e=>(cond (decide (e<(d.n:Int))) (cond (decide ((v5 (d.at' (toNat (i64.wrap (e-1)))).j (d.at' (toNat e)).j)≥0)) (true,false) (Qd d k (i64.wrap (e+1)))) (false,default))
def aai(d:A br):Bool×Bool:=Qd d ((toNat ((d.n:Int)-1))+1) 1
def apR(d:A br):Bool:=(cond (aai d).1 false true)
def aah(d:A br):Bool:=(cond (apR d) true (aai d).2)
def ajB:a6:=⟨[.v (.af cX),.fn 178 []],fun d=>⟨⟨none,.bool (aah d)⟩⟩⟩
theorem avb:bg 177 ajB:=bj Tryz.func177
 fun d l _=>bf ⟨.pure,[.tmp 4],[(.t 0,y)],⟨[U],[]⟩⟩ (.ad (.j ⟨16,[],[],[],.f⟩ (.ad (.cy ⟨51,[],[],[(.t 5,a)],some 0,true,16,[],[],fun k (s:Int)=>Qd d k s,.f,fun(s:Int)=>(1≤s∧(s≤(d.n:Int)∨s=1)),fun(s:Int)=>(toNat ((d.n:Int)-s)),none⟩ .z)) .z)) (((1≤(1:Int)∧((1:Int)≤(d.n:Int)∨(1:Int)=1)))∧(∀(e:Int),let g:=decide (e<(d.n:Int));let c:=i64.wrap (e-1);let b:=i64.wrap (e+1);(1≤e∧(e≤(d.n:Int)∨e=1))→((g=true→((0≤c∧c<(d.n:Int))∧(0≤e∧e<(d.n:Int))))∧(g=true→((decide ((v5 (d.at' (toNat c)).j (d.at' (toNat e)).j)≥0))=false→((1≤b∧(b≤(d.n:Int)∨b=1))∧(toNat ((d.n:Int)-b))<(toNat ((d.n:Int)-e)))))))) (b4 (aw aeL aT)) Tryz.func177 (⟨(by omega),(fun e j=>⟨(fun f=>⟨(by have:=aq f;have:=N (e-1);omega),(by have:=aq f;omega)⟩),(fun h=>(fun i=>(by have:=aq h;have:=N (e+1);omega)))⟩)⟩)
def Qz(d:A Int):Nat→Int→Bool×Int
 |0,_=>default
 |k+1,e=>let a:=d.at' (toNat e);(cond (decide (e<(d.n:Int))) (cond (a !=0) (true,a) (Qz d k (i64.wrap (e+1)))) (false,default))
def aa0(d:A Int):Bool×Int:=Qz d ((toNat ((d.n:Int)-0))+1) 0
def aqd(d:A Int):Bool:=(cond (aa0 d).1 false true)
def aaZ(d:A Int):Int:=(cond (aqd d) 0 (aa0 d).2)
def akj:a6:=⟨[.v (.af VK)],fun d=>⟨⟨none,b (aaZ d)⟩⟩⟩
theorem avB:bg 198 akj:=bj Tryz.func198
 fun d j _=>bf ⟨.pure,[.tmp 2],[(.t 0,a)],⟨[U],[]⟩⟩ (.ad (.ad (.j ⟨12,[],[],[],.f⟩ (.ad (.cy ⟨460,[],[],[(.t 8,a)],some 0,true,12,[],[],fun k (s:Int)=>Qz d k s,.f,fun(s:Int)=>(0≤s∧s≤(d.n:Int)),fun(s:Int)=>(toNat ((d.n:Int)-s)),none⟩ .z)) .z))) (((0≤(0:Int)∧(0:Int)≤(d.n:Int)))∧(∀(e:Int),let c:=decide (e<(d.n:Int));let b:=i64.wrap (e+1);(0≤e∧e≤(d.n:Int))→((c=true→(0≤e∧e<(d.n:Int)))∧(c=true→(((d.at' (toNat e))!=0)=false→((0≤b∧b≤(d.n:Int))∧(toNat ((d.n:Int)-b))<(toNat ((d.n:Int)-e)))))))) e7 Tryz.func198 (⟨(by omega),(fun e i=>⟨(fun f=>(by have:=aq f;omega)),(fun g=>(fun h=>(by have:=aq g;have:=N (e+1);omega)))⟩)⟩)
def Is(d:Int):Bool:=(d !=d)
def akK:a6:=⟨[.v a],fun d=>⟨⟨none,.bool (Is d)⟩⟩⟩
theorem avW:bg 210 akK:=bj Tryz.func210
 fun(d:Int)=>bf ⟨.pure,[.tmp 2],[(.t 0,y)],⟨[U],[]⟩⟩ (.z) True e7 Tryz.func210 (trivial)
def aa1(d:Int)(g:Int):Int:=(cond (Is d) (cond (Is g) 0 (-1)) (cond (Is g) 1 (cond (decide (d<g)) (-1) (cond (decide (d>g)) 1 0))))
def akk:a6:=⟨[.v a,.v a],fun d g=>⟨⟨none,b (aa1 d g)⟩⟩⟩
theorem avC:bg 199 akk:=bj Tryz.func199
 fun(d:Int) (g:Int)=>bf ⟨.pure,[.tmp 4],[(.t 0,a)],⟨[U],[]⟩⟩ (.z) True (b4 (aw avW aT)) Tryz.func199 (trivial)
def v7(d:z)(g:Int)(u:z)(h:Int):Int:=(aaZ (A.lit ([(aa1 g h),(zF d u)]:List Int)))
def ajE:a6:=⟨[.g [au,a],.g [au,a]],fun d g u h=>⟨⟨none,b (v7 d g u h)⟩⟩⟩
theorem aeM:bg 180 ajE:=bj Tryz.func180
 fun d _ (g:Int) u _ (h:Int)=>bf ⟨.pure,[.tmp 4],[(.t 0,a)],⟨[U],[]⟩⟩ (.z) True (b4 (aw KW (aw avB (aw avC aT)))) Tryz.func180 (trivial)
def Qe(d:A bO):Nat→Int→Bool×Bool
 |0,_=>default
 |k+1,e=>let b:=d.at' (toNat e);let a:=d.at' (toNat (i64.wrap (e-1)));(cond (decide (e<(d.n:Int))) (cond (decide ((v7 a.j a.ai b.j b.ai)≥0)) (true,false) (Qe d k (i64.wrap (e+1)))) (false,default))
variable(d:A bO)(g:z)(u:Int)(h:A br)(r:A z)(o:A bO)
def aak:Bool×Bool:=Qe d ((toNat ((d.n:Int)-1))+1) 1
def apS:Bool:=(cond (aak d).1 false true)
def aaj:Bool:=(cond (apS d) true (aak d).2)
def ajD:a6:=⟨[.v (.af cO),.fn 180 []],fun d=>⟨⟨none,.bool (aaj d)⟩⟩⟩
theorem avc:bg 179 ajD:=bj Tryz.func179
 fun d m _=>bf ⟨.pure,[.tmp 4],[(.t 0,y)],⟨[U],[]⟩⟩ (.ad (.j ⟨16,[],[],[],.f⟩ (.ad (.cy ⟨51,[],[],[(.t 5,a)],some 0,true,16,[],[],fun k (s:Int)=>Qe d k s,.f,fun(s:Int)=>(1≤s∧(s≤(d.n:Int)∨s=1)),fun(s:Int)=>(toNat ((d.n:Int)-s)),none⟩ .z)) .z)) (((1≤(1:Int)∧((1:Int)≤(d.n:Int)∨(1:Int)=1)))∧(∀(e:Int),let h:=d.at' (toNat e);let g:=decide (e<(d.n:Int));let c:=i64.wrap (e+1);let b:=i64.wrap (e-1);(1≤e∧(e≤(d.n:Int)∨e=1))→((g=true→((0≤b∧b<(d.n:Int))∧(0≤e∧e<(d.n:Int))))∧(g=true→((decide ((v7 (d.at' (toNat b)).j (d.at' (toNat b)).ai h.j h.ai)≥0))=false→((1≤c∧(c≤(d.n:Int)∨c=1))∧(toNat ((d.n:Int)-c))<(toNat ((d.n:Int)-e)))))))) (b4 (aw aeM aT)) Tryz.func179 (⟨(by omega),(fun e l=>⟨(fun f=>⟨(by have:=aq f;have:=N (e-1);omega),(by have:=aq f;omega)⟩),(fun i=>(fun j=>(by have:=aq i;have:=N (e+1);omega)))⟩)⟩)
def Qf(d:A z):Nat→Int→Bool×Bool
 |0,_=>default
 |k+1,e=>(cond (decide (e<(d.n:Int))) (cond (decide ((zF (d.at' (toNat (i64.wrap (e-1)))) (d.at' (toNat e)))≥0)) (true,false) (Qf d k (i64.wrap (e+1)))) (false,default))
def aam(d:A z):Bool×Bool:=Qf d ((toNat ((d.n:Int)-1))+1) 1
def apT(d:A z):Bool:=(cond (aam d).1 false true)
def aal(d:A z):Bool:=(cond (apT d) true (aam d).2)
def ajF:a6:=⟨[.v (.af bL),.fn 182 []],fun d=>⟨⟨none,.bool (aal d)⟩⟩⟩
theorem avd:bg 181 ajF:=bj Tryz.func181
 fun d l _=>bf ⟨.pure,[.tmp 4],[(.t 0,y)],⟨[U],[]⟩⟩ (.ad (.j ⟨16,[],[],[],.f⟩ (.ad (.cy ⟨51,[],[],[(.t 5,a)],some 0,true,16,[],[],fun k (s:Int)=>Qf d k s,.f,fun(s:Int)=>(1≤s∧(s≤(d.n:Int)∨s=1)),fun(s:Int)=>(toNat ((d.n:Int)-s)),none⟩ .z)) .z)) (((1≤(1:Int)∧((1:Int)≤(d.n:Int)∨(1:Int)=1)))∧(∀(e:Int),let g:=decide (e<(d.n:Int));let c:=i64.wrap (e-1);let b:=i64.wrap (e+1);(1≤e∧(e≤(d.n:Int)∨e=1))→((g=true→((0≤c∧c<(d.n:Int))∧(0≤e∧e<(d.n:Int))))∧(g=true→((decide ((zF (d.at' (toNat c)) (d.at' (toNat e)))≥0))=false→((1≤b∧(b≤(d.n:Int)∨b=1))∧(toNat ((d.n:Int)-b))<(toNat ((d.n:Int)-e)))))))) (b4 (aw KW aT)) Tryz.func181 (⟨(by omega),(fun e j=>⟨(fun f=>⟨(by have:=aq f;have:=N (e-1);omega),(by have:=aq f;omega)⟩),(fun h=>(fun i=>(by have:=aq h;have:=N (e+1);omega)))⟩)⟩)
def P_(d:z):Bool:=(!(ji d))
def aju:a6:=⟨[.v au],fun d=>⟨⟨none,.bool (P_ d)⟩⟩⟩
theorem au5:bg 171 aju:=bj Tryz.func171
 fun d _=>bf ⟨.pure,[.tmp 2],[(.t 0,y)],⟨[U],[]⟩⟩ (.z) True (b4 (aw E9 aT)) Tryz.func171 (trivial)
def HX(d:A z):Nat→Int→Bool×Int
 |0,_=>default
 |k+1,e=>(cond (decide (e<(d.n:Int))) (cond (P_ (d.at' (toNat e))) (true,e) (HX d k (i64.wrap (e+1)))) (false,default))
def aaQ(d:A z):Bool×Int:=HX d ((toNat ((d.n:Int)-0))+1) 0
def ap9(d:A z):Bool:=(cond (aaQ d).1 false true)
def aaP(d:A z):Int:=(cond (ap9 d) (-1) (aaQ d).2)
def akd:a6:=⟨[.v (.af bL),.fn 171 []],fun d=>⟨⟨none,b (aaP d)⟩⟩⟩
theorem avv:bg 184 akd:=bj Tryz.func184
 fun d j _=>bf ⟨.pure,[.tmp 4],[(.t 0,a)],⟨[U],[]⟩⟩ (.ad (.j ⟨16,[],[],[],.f⟩ (.ad (.cy ⟨403,[],[],[(.t 8,a)],some 0,true,16,[],[],fun k (s:Int)=>HX d k s,.f,fun(s:Int)=>(0≤s∧s≤(d.n:Int)),fun(s:Int)=>(toNat ((d.n:Int)-s)),none⟩ .z)) .z)) (((0≤(0:Int)∧(0:Int)≤(d.n:Int)))∧(∀(e:Int),let c:=decide (e<(d.n:Int));let b:=i64.wrap (e+1);(0≤e∧e≤(d.n:Int))→((c=true→(0≤e∧e<(d.n:Int)))∧(c=true→((P_ (d.at' (toNat e)))=false→((0≤b∧b≤(d.n:Int))∧(toNat ((d.n:Int)-b))<(toNat ((d.n:Int)-e)))))))) (b4 (aw au5 aT)) Tryz.func184 (⟨(by omega),(fun e i=>⟨(fun f=>(by have:=aq f;omega)),(fun g=>(fun h=>(by have:=aq g;have:=N (e+1);omega)))⟩)⟩)
def P8(d:A z):Bool:=(decide ((aaP d)≥0))
def ajd:a6:=⟨[.v (.af bL),.fn 171 []],fun d=>⟨⟨none,.bool (P8 d)⟩⟩⟩
theorem auV:bg 160 ajd:=bj Tryz.func160
 fun d _ _=>bf ⟨.pure,[.tmp 4],[(.t 0,y)],⟨[U],[]⟩⟩ (.z) True (b4 (aw avv aT)) Tryz.func160 (trivial)
def aag(d:z)(g:z):Bool:=(cond (!(kx d)) true (!(ji g)))
def zE(d:z)(g:z):Bool:=(aag d g)
def ajw:a6:=⟨[.g [au,au]],fun d g=>⟨⟨none,.bool (zE d g)⟩⟩⟩
theorem au7:bg 173 ajw:=bj Tryz.func173
 fun d _ g _=>bf ⟨.pure,[.tmp 2],[(.t 0,y)],⟨[U],[]⟩⟩ (.ad (.j ⟨4,[.b 0],[(.t 2,y)],[],.f⟩ .z .z)) True (b4 (aw aeJ (aw E9 aT))) Tryz.func173 (trivial)
def HZ(d:A br):Nat→Int→Bool×Int
 |0,_=>default
 |k+1,e=>let a:=d.at' (toNat e);(cond (decide (e<(d.n:Int))) (cond (zE a.j a.ai) (true,e) (HZ d k (i64.wrap (e+1)))) (false,default))
def aaT(d:A br):Bool×Int:=HZ d ((toNat ((d.n:Int)-0))+1) 0
def aqa(d:A br):Bool:=(cond (aaT d).1 false true)
def aaS(d:A br):Int:=(cond (aqa d) (-1) (aaT d).2)
def akf:a6:=⟨[.v (.af cX),.fn 173 []],fun d=>⟨⟨none,b (aaS d)⟩⟩⟩
theorem avx:bg 196 akf:=bj Tryz.func196
 fun d l _=>bf ⟨.pure,[.tmp 4],[(.t 0,a)],⟨[U],[]⟩⟩ (.ad (.j ⟨16,[],[],[],.f⟩ (.ad (.cy ⟨403,[],[],[(.t 8,a)],some 0,true,16,[],[],fun k (s:Int)=>HZ d k s,.f,fun(s:Int)=>(0≤s∧s≤(d.n:Int)),fun(s:Int)=>(toNat ((d.n:Int)-s)),none⟩ .z)) .z)) (((0≤(0:Int)∧(0:Int)≤(d.n:Int)))∧(∀(e:Int),let f:=d.at' (toNat e);let c:=decide (e<(d.n:Int));let b:=i64.wrap (e+1);(0≤e∧e≤(d.n:Int))→((c=true→(0≤e∧e<(d.n:Int)))∧(c=true→((zE f.j f.ai)=false→((0≤b∧b≤(d.n:Int))∧(toNat ((d.n:Int)-b))<(toNat ((d.n:Int)-e)))))))) (b4 (aw au7 aT)) Tryz.func196 (⟨(by omega),(fun e j=>⟨(fun g=>(by have:=aq g;omega)),(fun h=>(fun i=>(by have:=aq h;have:=N (e+1);omega)))⟩)⟩)
def HK(d:A br):Bool:=(decide ((aaS d)≥0))
def ajv:a6:=⟨[.v (.af cX),.fn 173 []],fun d=>⟨⟨none,.bool (HK d)⟩⟩⟩
theorem au6:bg 172 ajv:=bj Tryz.func172
 fun d _ _=>bf ⟨.pure,[.tmp 4],[(.t 0,y)],⟨[U],[]⟩⟩ (.z) True (b4 (aw avx aT)) Tryz.func172 (trivial)
def Qb(d:z):Bool:=(!(ji d))
def ajz:a6:=⟨[.g [au,a]],fun d _=>⟨⟨none,.bool (Qb d)⟩⟩⟩
theorem au_:bg 175 ajz:=bj Tryz.func175
 fun d _ (g:Int)=>bf ⟨.pure,[.tmp 2],[(.t 0,y)],⟨[U],[]⟩⟩ (.z) True (b4 (aw E9 aT)) Tryz.func175 (trivial)
def H0(d:A bO):Nat→Int→Bool×Int
 |0,_=>default
 |k+1,e=>(cond (decide (e<(d.n:Int))) (cond (Qb (d.at' (toNat e)).j) (true,e) (H0 d k (i64.wrap (e+1)))) (false,default))
def aaV:Bool×Int:=H0 d ((toNat ((d.n:Int)-0))+1) 0
def aqb:Bool:=(cond (aaV d).1 false true)
def aaU:Int:=(cond (aqb d) (-1) (aaV d).2)
def akg:a6:=⟨[.v (.af cO),.fn 175 []],fun d=>⟨⟨none,b (aaU d)⟩⟩⟩
theorem avy:bg 197 akg:=bj Tryz.func197
 fun d j _=>bf ⟨.pure,[.tmp 4],[(.t 0,a)],⟨[U],[]⟩⟩ (.ad (.j ⟨16,[],[],[],.f⟩ (.ad (.cy ⟨403,[],[],[(.t 8,a)],some 0,true,16,[],[],fun k (s:Int)=>H0 d k s,.f,fun(s:Int)=>(0≤s∧s≤(d.n:Int)),fun(s:Int)=>(toNat ((d.n:Int)-s)),none⟩ .z)) .z)) (((0≤(0:Int)∧(0:Int)≤(d.n:Int)))∧(∀(e:Int),let c:=decide (e<(d.n:Int));let b:=i64.wrap (e+1);(0≤e∧e≤(d.n:Int))→((c=true→(0≤e∧e<(d.n:Int)))∧(c=true→((Qb (d.at' (toNat e)).j)=false→((0≤b∧b≤(d.n:Int))∧(toNat ((d.n:Int)-b))<(toNat ((d.n:Int)-e)))))))) (b4 (aw au_ aT)) Tryz.func197 (⟨(by omega),(fun e i=>⟨(fun f=>(by have:=aq f;omega)),(fun g=>(fun h=>(by have:=aq g;have:=N (e+1);omega)))⟩)⟩)
def HL:Bool:=(decide ((aaU d)≥0))
def ajx:a6:=⟨[.v (.af cO),.fn 175 []],fun d=>⟨⟨none,.bool (HL d)⟩⟩⟩
theorem au8:bg 174 ajx:=bj Tryz.func174
 fun d _ _=>bf ⟨.pure,[.tmp 4],[(.t 0,y)],⟨[U],[]⟩⟩ (.z) True (b4 (aw avy aT)) Tryz.func174 (trivial)
def Qc(g:Int):Bool:=(!(j1 g))
def ajA:a6:=⟨[.g [au,a]],fun _ g=>⟨⟨none,.bool (Qc g)⟩⟩⟩
theorem ava:bg 176 ajA:=bj Tryz.func176
 fun d _ (g:Int)=>bf ⟨.pure,[.tmp 2],[(.t 0,y)],⟨[U],[]⟩⟩ (.z) True (b4 (aw KU aT)) Tryz.func176 (trivial)
def H2(d:A bO):Nat→Int→Bool×Int
 |0,_=>default
 |k+1,e=>(cond (decide (e<(d.n:Int))) (cond (Qc (d.at' (toNat e)).ai) (true,e) (H2 d k (i64.wrap (e+1)))) (false,default))
def aaX:Bool×Int:=H2 d ((toNat ((d.n:Int)-0))+1) 0
def aqc:Bool:=(cond (aaX d).1 false true)
def aaW:Int:=(cond (aqc d) (-1) (aaX d).2)
def akh:a6:=⟨[.v (.af cO),.fn 176 []],fun d=>⟨⟨none,b (aaW d)⟩⟩⟩
theorem avz:bg 197 akh:=bj Tryz.func197
 fun d j _=>bf ⟨.pure,[.tmp 4],[(.t 0,a)],⟨[U],[]⟩⟩ (.ad (.j ⟨16,[],[],[],.f⟩ (.ad (.cy ⟨403,[],[],[(.t 8,a)],some 0,true,16,[],[],fun k (s:Int)=>H2 d k s,.f,fun(s:Int)=>(0≤s∧s≤(d.n:Int)),fun(s:Int)=>(toNat ((d.n:Int)-s)),none⟩ .z)) .z)) (((0≤(0:Int)∧(0:Int)≤(d.n:Int)))∧(∀(e:Int),let c:=decide (e<(d.n:Int));let b:=i64.wrap (e+1);(0≤e∧e≤(d.n:Int))→((c=true→(0≤e∧e<(d.n:Int)))∧(c=true→((Qc (d.at' (toNat e)).ai)=false→((0≤b∧b≤(d.n:Int))∧(toNat ((d.n:Int)-b))<(toNat ((d.n:Int)-e)))))))) (b4 (aw ava aT)) Tryz.func197 (⟨(by omega),(fun e i=>⟨(fun f=>(by have:=aq f;omega)),(fun g=>(fun h=>(by have:=aq g;have:=N (e+1);omega)))⟩)⟩)
def Qa:Bool:=(decide ((aaW d)≥0))
def ajy:a6:=⟨[.v (.af cO),.fn 176 []],fun d=>⟨⟨none,.bool (Qa d)⟩⟩⟩
theorem au9:bg 174 ajy:=bj Tryz.func174
 fun d _ _=>bf ⟨.pure,[.tmp 4],[(.t 0,y)],⟨[U],[]⟩⟩ (.z) True (b4 (aw avz aT)) Tryz.func174 (trivial)
def lJ:Int:=(i64.wrap ((i64.wrap ((h.n:Int)+(r.n:Int)))+(o.n:Int)))
def ajt:a6:=⟨[.g [a,au,a,.af cX,.af bL,.af cO]],fun _ _ _ h r o=>⟨⟨none,b (lJ h r o)⟩⟩⟩
theorem S0:bg 170 ajt:=bj Tryz.func170
 fun(d:Int) g _ (u:Int) h _ _ r _ _ o _ _=>bf ⟨.pure,[.tmp 2],[(.t 0,a)],⟨[U],[]⟩⟩ (.z) True e7 Tryz.func170 (trivial)
def Dg(d:z)(u:z):Bool:=((d:z).toList==(u:z).toList)
def aks:a6:=⟨[.g [au,a],.r [au]],fun d _ u=>⟨⟨none,.bool (Dg d u)⟩⟩⟩
theorem avJ:bg 201 aks:=bj Tryz.func201
 fun d _ (g:Int) u=>bf ⟨.pure,[.tmp 3],[(.t 0,y)],⟨[U],[]⟩⟩ (.z) True e7 Tryz.func201 (trivial)
def H4(d:A bO)(g:z):Nat→Int→Bool×Int
 |0,_=>default
 |k+1,e=>(cond (decide (e<(d.n:Int))) (cond (Dg (d.at' (toNat e)).j g) (true,e) (H4 d g k (i64.wrap (e+1)))) (false,default))
def Qy:Bool×Int:=H4 d g ((toNat ((d.n:Int)-0))+1) 0
def aaY:Bool:=(cond (Qy d g).1 false true)
def Qx:Int:=(cond (aaY d g) (-1) (Qy d g).2)
def aki:a6:=⟨[.v (.af cO),.fn 201 [[au]]],fun d g=>⟨⟨none,b (Qx d g)⟩⟩⟩
theorem avA:bg 197 aki:=bj Tryz.func197
 fun d l _ g=>bf ⟨.pure,[.tmp 4],[(.t 0,a)],⟨[U],[]⟩⟩ (.ad (.j ⟨16,[],[],[],.f⟩ (.ad (.cy ⟨403,[],[],[(.t 8,a)],some 0,true,16,[],[],fun k (s:Int)=>H4 d g k s,.f,fun(s:Int)=>(0≤s∧s≤(d.n:Int)),fun(s:Int)=>(toNat ((d.n:Int)-s)),none⟩ .z)) .z)) (((0≤(0:Int)∧(0:Int)≤(d.n:Int)))∧(∀(e:Int),let c:=decide (e<(d.n:Int));let b:=i64.wrap (e+1);(0≤e∧e≤(d.n:Int))→((c=true→(0≤e∧e<(d.n:Int)))∧(c=true→((Dg (d.at' (toNat e)).j g)=false→((0≤b∧b≤(d.n:Int))∧(toNat ((d.n:Int)-b))<(toNat ((d.n:Int)-e)))))))) (b4 (aw avJ aT)) Tryz.func197 (⟨(by omega),(fun e j=>⟨(fun f=>(by have:=aq f;omega)),(fun h=>(fun i=>(by have:=aq h;have:=N (e+1);omega)))⟩)⟩)
def k7:Int:=(Qx d g)
def ajH:a6:=⟨[.v (.af cO),.v au],fun d g=>⟨⟨none,b (k7 d g)⟩⟩⟩
theorem aeN:bg 183 ajH:=bj Tryz.func183
 fun d _ _ g _=>bf ⟨.pure,[.tmp 4],[(.t 0,a)],⟨[U],[]⟩⟩ (.ad (.s (.hN 3 0 .z) .z)) True (b4 (aw avA aT)) Tryz.func183 (trivial)
def ur(d:Int):Bool:=(cond (decide (d<1)) true (decide (d>6)))
def ac2(d:Int)(g:z):z:=(cond (d==1) ⟨#[]⟩ g)
def ac3(d:Int)(u:Int):Int:=(cond (d==1) u (cond (d==2) 0 u))
def JM(d:Int)(h:A br):A br:=(cond (d==1) h (cond (d==2) h (cond (d==3) (L:A br) h)))
def JN(d:Int)(r:A z):A z:=(cond (d==1) r (cond (d==2) r (cond (d==3) r (cond (d==6) r (L:A z)))))
def JO(d:Int)(o:A bO):A bO:=(cond (d==1) o (cond (d==2) o (cond (d==3) o (cond (d==6) (L:A bO) o))))
def si(d:Int)(g:z)(u:Int)(h:A br)(r:A z)(o:A bO):Bool:=(cond (!(((ac2 d g):z).toList==(⟨#[]⟩:z).toList)) true (cond ((ac3 d u)!=0) true (decide ((lJ (JM d h) (JN d r) (JO d o))>0))))
def uu(d:Int)(h:A br)(r:A z)(o:A bO):Bool:=(cond (decide (d≥3)) (cond (decide ((lJ h r o)<1)) true (decide ((lJ h r o)>20))) false)
def xd:Bool:=(cond (!(ji g)) true (P8 r))
def xc:Bool:=(cond (!(j1 u)) true (Qa o))
def aq_(d:Int)(h:A br)(r:A z)(o:A bO):Bool:=(cond (aah h) (cond (aaj o) (cond (d !=5) true (aal r)) false) false)
def ara(b:Bool)(a:Int):Bool:=(cond b (decide ((k7 (A.part o 0 a) (o.at' (toNat a)).j)<0)) false)
def Rx(o:A bO):Nat→Bool→Int→Bool
 |0,_,_=>default
 |k+1,b,a=>(cond (decide (a<(o.n:Int))) (Rx o k (ara o b a) (i64.wrap (a+1))) b)
def arb(d:Int)(h:A br)(r:A z)(o:A bO):Bool:=Rx o ((toNat ((o.n:Int)-0))+1) (aq_ d h r o) 0
def mz(d:Int)(g:z)(u:Int)(h:A br)(r:A z)(o:A bO):Int:=(cond (ur d) 3 (cond (si d g u h r o) 8 (cond (uu d h r o) 1 (cond (xd g r) 1 (cond (HK h) 1 (cond (HL o) 1 (cond (xc u o) 2 (cond (!(arb d h r o)) 10 0))))))))
def alS:a6:=⟨[.g [a,au,a,.af cX,.af bL,.af cO]],fun d g u h r o=>⟨⟨none,b (mz d g u h r o)⟩⟩⟩
theorem aff:bg 159 alS:=bj Tryz.func159
 fun(d:Int) g z (u:Int) h A _ r B _ o C _=>bf ⟨.pure,[.tmp 2],[(.t 0,a)],⟨[U],[]⟩⟩ (.ad (.s (.j ⟨16390,[],[(.t 14,y)],[],.f⟩ .z .z) (.ad (.j ⟨14,[],[(.h 1 1,au),(.h 1 2,a),(.h 1 3,.af cX),(.h 1 4,.af bL),(.h 1 5,.af cO)],[(.b .f .l),(.b .f (.b .f .l)),(.b .f (.b .f (.b .f .l))),.f,.f],.f⟩ .z (.s (.j ⟨8796093022214,[.b 1],[(.t 43,y)],[],.f⟩ .z .z) (.s (.j ⟨72057594037927942,[],[(.t 56,y)],[],.f⟩ .z .z) (.s (.j ⟨36893488147419103238,[],[(.t 65,y)],[],.f⟩ .z .z) (.ad (.ad (.s (.j ⟨1208925819614629174706182,[],[(.t 80,y)],[],.f⟩ .z .z) (.j ⟨22,[],[(.t 4,y)],[],.f⟩ .z (.j ⟨20,[],[],[],.f⟩ (.ad (.cy ⟨8873554201597605810476922437654,[],[],[(.t 4,y),(.t 102,a)],some 1,false,20,[.b 0],[(.t 4,y)],fun k (s:Bool×Int)=>Rx o k s.1 s.2,.f,fun(s:Bool×Int)=>(0≤s.2∧s.2≤(o.n:Int)),fun(s:Bool×Int)=>(toNat ((o.n:Int)-s.2)),none⟩ (.ad (.ad (.s (.ad (.j ⟨166801268929831109337140697872990326,[],[(.t 4,y),(.t 108,y),(.t 117,y)],[],.f⟩ .z .z)) .z))))) .z)))))))))))) ((ur d)=false→((si d g u h r o)=false→((uu d h r o)=false→((xd g r)=false→((HK h)=false→((HL o)=false→((xc u o)=false→(((0≤(0:Int)∧(0:Int)≤(o.n:Int)))∧(∀(n:Bool) (b:Int),let p:=decide (b<(o.n:Int));let l:=i64.wrap (b+1);(0≤b∧b≤(o.n:Int))→((p=true→((0≤b∧b<(o.n:Int))∧(n=true→(((0:Int)≤0)∧((0:Int)≤b)∧((b:Int)≤b)∧((b:Int)≤(o.n:Int))))))∧(p=true→((0≤l∧l≤(o.n:Int))∧(toNat ((o.n:Int)-l))<(toNat ((o.n:Int)-b)))))))))))))) (b4 (aw auV (aw E9 (aw KU (aw S0 (aw au6 (aw au8 (aw au9 (aw avb (aw avc (aw avd (aw aeN aT)))))))))))) Tryz.func159 ((fun c=>(fun e=>(fun f=>(fun i=>(fun v=>(fun w=>(fun j=>⟨(by have:=c;simp [ur]at this;have:=e;simp [si]at this;have:=f;simp [uu]at this;have:=i;simp [xd]at this;have:=j;simp [xc]at this;omega),(fun n b x=>⟨(fun m=>⟨(by have:=c;simp [ur]at this;have:=e;simp [si]at this;have:=f;simp [uu]at this;have:=i;simp [xd]at this;have:=j;simp [xc]at this;have:=aq m;omega),(fun t=>(by have:=c;simp [ur]at this;have:=e;simp [si]at this;have:=f;simp [uu]at this;have:=i;simp [xd]at this;have:=j;simp [xc]at this;have:=aq m;omega))⟩),(fun q=>(by have:=c;simp [ur]at this;have:=e;simp [si]at this;have:=f;simp [uu]at this;have:=i;simp [xd]at this;have:=j;simp [xc]at this;have:=aq q;first|omega|(have:=N (b+1);omega)))⟩)⟩))))))))
end
section
variable(d:Int)(g:A aj)(bN:Int)
def xf:Bool:=(cond (decide (d<0)) true (cond (decide (d>1073741824)) true (decide ((g.n:Int)>12))))
def o9:Bool:=(cond (decide ((((g.at' (toNat bN)).j:z).size:Int)<1)) true (cond (decide ((((g.at' (toNat bN)).j:z).size:Int)>12)) true (cond ((mz (g.at' (toNat bN)).ai (g.at' (toNat bN)).K (g.at' (toNat bN)).an (g.at' (toNat bN)).p (g.at' (toNat bN)).v (g.at' (toNat bN)).ax)!=0) true (cond (decide (bN>0)) (!(Op.bytesLess (((g.at' (toNat (i64.wrap (bN-1)))).j:z).toList) (((g.at' (toNat bN)).j:z).toList))) false))))
def qy:Bool:=(cond ((g.at' (toNat bN)).aF !=0) (cond (decide ((g.at' (toNat bN)).aF≤d)) true (decide ((g.at' (toNat bN)).aF>1073741824))) false)
def xe(d:Int)(g:A aj):Nat→Int→Bool×Int
 |0,_=>default
 |k+1,bN=>(cond (decide (bN<(g.n:Int))) (cond (o9 g bN) (true,13) (cond (qy d g bN) (true,13) (xe d g k (i64.wrap (bN+1))))) (false,default))
def JP:Bool×Int:=xe d g ((toNat ((g.n:Int)-0))+1) 0
def Ry:Bool:=(cond (JP d g).1 false true)
def jF:Int:=(cond (xf d g) 13 (cond (Ry d g) 0 (JP d g).2))
def alU:a6:=⟨[.g [a,.af a_]],fun d g=>⟨⟨none,b (jF d g)⟩⟩⟩
theorem afh:bg 146 alU:=bj Tryz.func146
 fun(d:Int) g t _=>bf ⟨.pure,[.tmp 2],[(.t 0,a)],⟨[U],[]⟩⟩ (.ad (.s (.j ⟨262150,[],[(.t 18,y)],[],.f⟩ .z .z) (.j ⟨4,[],[],[],.f⟩ (.ad (.cy ⟨7340038,[],[],[(.t 22,a)],some 0,true,4,[.b 0],[],fun k (s:Int)=>xe d g k s,.f,fun(s:Int)=>(0≤s∧s≤(g.n:Int)),fun(s:Int)=>(toNat ((g.n:Int)-s)),none⟩ (.ad (.ad (.s (.ad (.s (.j ⟨288243780743594014,[],[(.t 31,y),(.t 36,y),(.t 37,y),(.t 42,y),(.t 43,y),(.t 58,y)],[(.b .f .l),(.b .f .l),(.b .f (.b .f .l)),(.b .f (.b .f .l)),(.b .f (.b .f (.b .f .l))),.f],.f⟩ .z .z) (.j ⟨9453668120804585373726,[],[(.t 62,y),(.t 73,y)],[(.b .l .f),.f],.f⟩ .z .z))) .z))))) .z))) ((xf d g)=false→(((0≤(0:Int)∧(0:Int)≤(g.n:Int)))∧(∀(bN:Int),let i:=i64.wrap (bN-1);let h:=decide (bN<(g.n:Int));let e:=i64.wrap (bN+1);let b:=g.at' (toNat bN);(0≤bN∧bN≤(g.n:Int))→((h=true→((0≤bN∧bN<(g.n:Int))∧((decide (((b.j:z).size:Int)<1))=false→((decide (((b.j:z).size:Int)>12))=false→(((mz b.ai b.K b.an b.p b.v b.ax)!=0)=false→((decide (bN>0))=true→(0≤i∧i<(g.n:Int))))))))∧(h=true→((o9 g bN)=false→((qy d g bN)=false→((0≤e∧e≤(g.n:Int))∧(toNat ((g.n:Int)-e))<(toNat ((g.n:Int)-bN)))))))))) (b4 (aw aff aT)) Tryz.func146 ((fun c=>⟨(by have:=c;simp [xf]at this;omega),(fun bN r=>⟨(fun f=>⟨(by have:=c;simp [xf]at this;have:=aq f;omega),(fun l=>(fun m=>(fun n=>(fun o=>(by have:=c;simp [xf]at this;have:=aq f;have:=dQ l;have:=dQ m;have:=bE n;have:=aq o;first|omega|(have:=N (bN-1);omega))))))⟩),(fun p=>(fun q=>(fun j=>(by have:=c;simp [xf]at this;have:=aq p;have:=q;simp [o9]at this;have:=j;simp [qy]at this;first|omega|(have:=N (bN+1);omega)))))⟩)⟩))
end
section
variable(d:Int)(g:A aj)(u:Int)(h:A aG)(bo:Int)
def xg:Bool:=(cond ((jF d g)!=0) true (cond (decide (u<1)) true (cond (decide (u>1048577)) true (decide ((h.n:Int)>4)))))
def Aw:Bool:=(cond (decide ((h.at' (toNat bo)).j<1)) true (cond (decide ((h.at' (toNat bo)).j≥u)) true (cond (decide (bo>0)) (decide ((h.at' (toNat (i64.wrap (bo-1)))).j≥(h.at' (toNat bo)).j)) false)))
def Av:Bool:=(cond (decide ((h.at' (toNat bo)).ai<0)) true (cond (decide ((h.at' (toNat bo)).ai>1048576)) true (cond (decide ((h.at' (toNat bo)).K<0)) true (cond (decide ((h.at' (toNat bo)).K>d)) true ((w5 (h.at' (toNat bo)).an (h.at' (toNat bo)).p (h.at' (toNat bo)).v (h.at' (toNat bo)).ax)!=0)))))
def Eu(d:Int)(u:Int)(h:A aG):Nat→Int→Bool×Int
 |0,_=>default
 |k+1,bo=>(cond (decide (bo<(h.n:Int))) (cond (Aw u h bo) (true,13) (cond (Av d h bo) (true,13) (Eu d u h k (i64.wrap (bo+1))))) (false,default))
def Rz:Bool×Int:=Eu d u h ((toNat ((h.n:Int)-0))+1) 0
def adg:Bool:=(cond (Rz d u h).1 false true)
def gA:Int:=(cond (xg d g u h) 13 (cond (adg d u h) 0 (Rz d u h).2))
def alW:a6:=⟨[.g [a,.af a_,a,.af bP]],fun d g u h=>⟨⟨none,b (gA d g u h)⟩⟩⟩
theorem K1:bg 119 alW:=bj Tryz.func119
 fun(d:Int) g t _ (u:Int) h v _=>bf ⟨.pure,[.tmp 2],[(.t 0,a)],⟨[U],[]⟩⟩ (.ad (.s (.j ⟨16777222,[],[(.t 24,y)],[],.f⟩ .z .z) (.j ⟨4,[],[],[],.f⟩ (.ad (.cy ⟨469762054,[],[],[(.t 28,a)],some 0,true,4,[.b 0],[],fun k (s:Int)=>Eu d u h k s,.f,fun(s:Int)=>(0≤s∧s≤(h.n:Int)),fun(s:Int)=>(toNat ((h.n:Int)-s)),none⟩ (.ad (.ad (.s (.ad (.s (.j ⟨288243707663089694,[],[(.t 36,y),(.t 42,y),(.t 43,y),(.t 58,y)],[(.b .f .l),(.b .f .l),(.b .f (.b .f .l)),.f],.f⟩ .z .z) (.j ⟨40506328802898258549538846,[],[(.t 62,y),(.t 66,y),(.t 67,y),(.t 71,y),(.t 72,y),(.t 79,y),(.t 80,y),(.t 85,y)],[(.b .f .l),(.b .f .l),(.b .f (.b .f .l)),(.b .f (.b .f .l)),(.b .f (.b .f (.b .f .l))),(.b .f (.b .f (.b .f .l))),.f,.f],.f⟩ .z .z))) .z))))) .z))) ((xg d g u h)=false→(((0≤(0:Int)∧(0:Int)≤(h.n:Int)))∧(∀(bo:Int),let j:=h.at' (toNat bo);let i:=i64.wrap (bo-1);let f:=decide (bo<(h.n:Int));let c:=i64.wrap (bo+1);(0≤bo∧bo≤(h.n:Int))→((f=true→((0≤bo∧bo<(h.n:Int))∧((decide (j.j<1))=false→((decide (j.j≥u))=false→((decide (bo>0))=true→(0≤i∧i<(h.n:Int)))))))∧(f=true→((Aw u h bo)=false→((Av d h bo)=false→((0≤c∧c≤(h.n:Int))∧(toNat ((h.n:Int)-c))<(toNat ((h.n:Int)-bo)))))))))) (b4 (aw awD (aw afh aT))) Tryz.func119 ((fun b=>⟨(by have:=b;simp [xg]at this;omega),(fun bo r=>⟨(fun e=>⟨(by have:=b;simp [xg]at this;have:=aq e;omega),(fun l=>(fun m=>(fun n=>(by have:=b;simp [xg]at this;have:=aq e;have:=dQ l;have:=dQ m;have:=aq n;first|omega|(have:=N (bo-1);omega)))))⟩),(fun o=>(fun p=>(fun q=>(by have:=b;simp [xg]at this;have:=aq o;have:=p;simp [Aw]at this;have:=q;simp [Av]at this;first|omega|(have:=N (bo+1);omega)))))⟩)⟩))
end
section
variable(d:Int)(g:Int)
def aan:Bool:=(cond (decide (d≥1)) (decide (d≤1048576)) false)
def v8:Bool:=(aan d)
def ajK:a6:=⟨[.v a],fun d=>⟨⟨none,.bool (v8 d)⟩⟩⟩
theorem aeP:bg 126 ajK:=bj Tryz.func126
 fun(d:Int)=>bf ⟨.pure,[.tmp 2],[(.t 0,y)],⟨[U],[]⟩⟩ (.ad (.j ⟨4,[],[(.t 2,y)],[],.f⟩ .z .z)) True e7 Tryz.func126 (trivial)
def adh:Bool:=(cond (!(v8 d)) true (!(v8 g)))
def qz(u:Int)(h:A aj)(r:Int)(o:A aG):Int:=(cond (adh d g) 2 (gA u h r o))
def alX:a6:=⟨[.g [a,a,a,.af a_,a,.af bP]],fun d g u h r o=>⟨⟨none,b (qz d g u h r o)⟩⟩⟩
theorem afj:bg 106 alX:=bj Tryz.func106
 fun(d:Int) (g:Int) (u:Int) h _ _ (r:Int) o _ _=>bf ⟨.pure,[.tmp 2],[(.t 0,a)],⟨[U],[]⟩⟩ (.ad (.s (.j ⟨4102,[],[(.t 12,y)],[],.f⟩ .z .z) .z)) True (b4 (aw K1 (aw aeP aT))) Tryz.func106 (trivial)
end
section
variable(d:Int)(g:Int)(u:Int)(h:A aj)(r:Int)(o:A aG)
def ap6:Bool:=(cond (d==0) (cond (g==0) (cond (r==0) (cond ((o.n:Int)==0) (cond (u==0) ((h.n:Int)==0) false) false) false) false) false)
def aaD:Bool:=(ap6 d g u h r o)
def aj3:a6:=⟨[.g [a,a,a,.af a_,a,.af bP]],fun d g u h r o=>⟨⟨none,.bool (aaD d g u h r o)⟩⟩⟩
theorem avo:bg 129 aj3:=bj Tryz.func129
 fun(d:Int) (g:Int) (u:Int) h _ _ (r:Int) o _ _=>bf ⟨.pure,[.tmp 2],[(.t 0,y)],⟨[U],[]⟩⟩ (.ad (.ad (.j ⟨4,[.b 0,.b 1],[(.t 2,y)],[],.f⟩ .z .z))) True e7 Tryz.func129 (trivial)
def adj:Bool:=(cond (decide (d<1)) true (decide (d>3)))
def ard(h:Int)(r:Int)(o:Int)(q:Bool)(t:Int)(f:Int)(w:Int)(ao:z)(bb:z)(bR:z)(b0:Int)(cl:Int)(df:Int)(c_:Int)(c0:A aj)(da:Int)(c1:A aG):Bool:=let a:=aaD cl df c_ c0 da c1;(cond (d !=1) (cond (g !=0) true (cond (u !=0) true (cond (d !=2) (cond (h !=0) true (cond (!((r==0)&&((o==0)&&((q==false)&&((t==0)&&((f==0)&&((w==0)&&(((ao:z).toList==(⟨#[]⟩:z).toList)&&(((bb:z).toList==(⟨#[]⟩:z).toList)&&(((bR:z).toList==(⟨#[]⟩:z).toList)&&((b0==0)&&true))))))))))) true (cond (d !=3) (!a) false))) (cond (d !=3) (!a) false)))) (cond (d !=2) (cond (h !=0) true (cond (!((r==0)&&((o==0)&&((q==false)&&((t==0)&&((f==0)&&((w==0)&&(((ao:z).toList==(⟨#[]⟩:z).toList)&&(((bb:z).toList==(⟨#[]⟩:z).toList)&&(((bR:z).toList==(⟨#[]⟩:z).toList)&&((b0==0)&&true))))))))))) true (cond (d !=3) (!a) false))) (cond (d !=3) (!a) false)))
def adk:Bool:=(cond (!(v8 g)) true (cond (decide (u<(-1))) true (decide (u≥3))))
def jG(h:Int)(r:Int)(o:Int)(q:Bool)(t:Int)(f:Int)(w:Int)(ao:z)(bb:z)(bR:z)(b0:Int)(cl:Int)(df:Int)(c_:Int)(c0:A aj)(da:Int)(c1:A aG):Int:=(cond (adj d) 3 (cond (ard d g u h r o q t f w ao bb bR b0 cl df c_ c0 da c1) 8 (cond (d==1) (cond (adk g u) 2 0) (cond (d==2) (cond (!(v8 h)) 2 (hC r o q t f w ao bb bR b0)) (qz cl df c_ c0 da c1)))))
def al0:a6:=⟨[.g [a,a,a,a,a,a,y,a,a,a,au,au,au,a,a,a,a,.af a_,a,.af bP]],fun d g u h r o q t f w ao bb bR b0 cl df c_ c0 da c1=>⟨⟨none,b (jG d g u h r o q t f w ao bb bR b0 cl df c_ c0 da c1)⟩⟩⟩
theorem Tf:bg 111 al0:=bj Tryz.func111
 fun(d:Int) (g:Int) (u:Int) (h:Int) (r:Int) (o:Int) q (t:Int) (f:Int) (w:Int) ao _ bb _ bR _ (b0:Int) (cl:Int) (df:Int) (c_:Int) c0 _ _ (da:Int) c1 _ _=>bf ⟨.pure,[.tmp 2],[(.t 0,a)],⟨[U],[]⟩⟩ (.ad (.s (.j ⟨2054,[],[(.t 11,y)],[],.f⟩ .z .z) (.ad (.s (.j ⟨4503599627370502,[.b 1],[(.t 52,y)],[],.f⟩ .z .z) (.s (.ad (.ad (.s (.s (.j ⟨1180591620717411303430,[],[(.t 70,y)],[],.f⟩ .z .z) .z) .z))) .z))))) True (b4 (aw KY (aw afj (aw aeP (aw avo aT))))) Tryz.func111 (trivial)
end
section
variable(d:Int)(g:Int)(u:A aI)(h:Int)(r:Int)
def sf:Bool:=(cond (decide (d<0)) true (cond (decide (g<0)) true (cond (decide (g>1048576)) true (cond (!((d==0)==(g==0))) true (cond (decide ((u.n:Int)>200)) true (decide (d>(i64.wrap (1048576- (u.n:Int))))))))))
def Es(b:Int)(c:Int)(a:Int):Bool:=(cond ((hC (u.at' (toNat a)).j (u.at' (toNat a)).ai (u.at' (toNat a)).K (u.at' (toNat a)).an (u.at' (toNat a)).p (u.at' (toNat a)).v (u.at' (toNat a)).ax (u.at' (toNat a)).aF (u.at' (toNat a)).i (u.at' (toNat a)).aP)!=0) true (cond (decide ((u.at' (toNat a)).j<b)) true (decide ((u.at' (toNat a)).ai<c))))
def Aq(u:A aI):Nat→Int→Int→Int→Bool×Int
 |0,_,_,_=>default
 |k+1,b,c,a=>(cond (decide (a<(u.n:Int))) (cond (Es u b c a) (true,13) (Aq u k (u.at' (toNat a)).j (u.at' (toNat a)).ai (i64.wrap (a+1)))) (false,default))
def Rv:Bool×Int:=Aq u ((toNat ((u.n:Int)-0))+1) g 0 0
def ac0:Bool:=(cond (Rv g u).1 false true)
def cC:Int:=(cond (sf d g u) 13 (cond (ac0 g u) 0 (Rv g u).2))
def alK:a6:=⟨[.g [a,a,.af c6]],fun d g u=>⟨⟨none,b (cC d g u)⟩⟩⟩
theorem uM:bg 18 alK:=bj Tryz.func18
 fun(d:Int) (g:Int) u o _=>bf ⟨.pure,[.tmp 2],[(.t 0,a)],⟨[U],[]⟩⟩ (.ad (.s (.j ⟨8796093022214,[],[(.t 43,y)],[],.f⟩ .z .z) (.ad (.j ⟨4,[],[],[],.f⟩ (.ad (.cy ⟨985162418487324,[.b 0],[],[(.t 3,a),(.t 4,a),(.t 49,a)],some 0,true,4,[],[],fun k (s:Int×Int×Int)=>Aq u k s.1 s.2.1 s.2.2,.f,fun(s:Int×Int×Int)=>(0≤s.2.2∧s.2.2≤(u.n:Int)),fun(s:Int×Int×Int)=>(toNat ((u.n:Int)-s.2.2)),none⟩ (.ad (.ad (.s (.ad (.s (.j ⟨154635456067904995420,[],[(.t 56,y),(.t 61,y),(.t 62,y),(.t 67,y)],[(.b .f .l),(.b .f .l),.f,.f],.f⟩ .z .z) .z)) .z))))) .z)))) ((sf d g u)=false→(((0≤(0:Int)∧(0:Int)≤(u.n:Int)))∧(∀(f:Int) (h:Int) (b:Int),let i:=decide (b<(u.n:Int));let e:=i64.wrap (b+1);(0≤b∧b≤(u.n:Int))→((i=true→(0≤b∧b<(u.n:Int)))∧(i=true→((Es u f h b)=false→((0≤e∧e≤(u.n:Int))∧(toNat ((u.n:Int)-e))<(toNat ((u.n:Int)-b))))))))) (b4 (aw KY aT)) Tryz.func18 ((fun c=>⟨(by have:=c;simp [sf]at this;omega),(fun f h b n=>⟨(fun j=>(by have:=c;simp [sf]at this;have:=aq j;omega)),(fun l=>(fun m=>(by have:=c;simp [sf]at this;have:=aq l;have:=m;simp [Es]at this;first|omega|(have:=N (b+1);omega))))⟩)⟩))
theorem eS(d g:Int)(u:A aI)(h:cC d g u=0):(0≤d∧d≤1048576)∧(0≤g∧g≤1048576)∧u.n≤200∧d+u.n≤1048576:=by
 unfold cC at h
 cases a:sf d g u with
 |true=>rw[a]at h;simp at h
 |false=>
  simp [sf]at a;have:=N (1048576- (u.n:Int));omega
def p9:Int:=(cond (decide ((u.n:Int)>0)) (i64.wrap (d+(u.n:Int))) d)
def HI:Int:=(cond (decide ((u.n:Int)>0)) (u.at' (toNat (i64.wrap ((u.n:Int)-1)))).j g)
def ajp:a6:=⟨[.g [a,a,.af c6]],fun d g u=>⟨⟨none,.c9 [b (p9 d u),b (HI g u)]⟩⟩⟩
theorem aeK:bg 104 ajp:=bj Tryz.func104
 fun(d:Int) (g:Int) u e _=>bf ⟨.pure,[.tmp 2,.tmp 3],[(.t 0,a),(.t 1,a)],⟨[U,U],[]⟩⟩ (.z) (let b:=i64.wrap ((u.n:Int)-1);(decide ((u.n:Int)>0))=true→(0≤b∧b<(u.n:Int))) e7 Tryz.func104 ((fun c=>(by have:=aq c;have:=N ((u.n:Int)-1);omega)))
def lf:Int:=(cond ((cC d g u)!=0) 0 (p9 d u))
def ac1:Int:=(cond ((cC d g u)!=0) 0 (HI g u))
def aq4:Int:=(cond ((cC d g u)!=0) (cC d g u) 0)
def alM:a6:=⟨[.g [a,a,.af c6]],fun d g u=>⟨⟨none,.c9 [b (lf d g u),b (ac1 d g u),b (aq4 d g u)]⟩⟩⟩
theorem afd:bg 88 alM:=bj Tryz.func88
 fun(d:Int) (g:Int) u _ _=>bf ⟨.pure,[.tmp 2,.tmp 3,.tmp 4],[(.t 0,a),(.t 1,a),(.t 2,a)],⟨[U,U,U],[]⟩⟩ (.z) True (b4 (aw uM (aw aeK aT))) Tryz.func88 (trivial)
def aq6:Bool:=(cond (decide (r>(HI g u))) true (cond (r==(HI g u)) (decide (h≥(p9 d u))) false))
def uo:Bool:=(cond ((cC d g u)!=0) false (aq6 d g u h r))
def aq5:Int:=(cond ((cC d g u)!=0) (cC d g u) 0)
def alN:a6:=⟨[.g [a,a,.af c6],.v a,.v a],fun d g u h r=>⟨⟨none,.c9 [.bool (uo d g u h r),b (aq5 d g u)]⟩⟩⟩
theorem Td:bg 89 alN:=bj Tryz.func89
 fun(d:Int) (g:Int) u _ _ (h:Int) (r:Int)=>bf ⟨.pure,[.tmp 6,.tmp 7],[(.t 0,y),(.t 1,a)],⟨[U,U],[]⟩⟩ (.ad (.ad (.ad (.j ⟨192,[.b 0],[(.t 6,y)],[],.f⟩ .z .z)))) True (b4 (aw uM (aw aeK aT))) Tryz.func89 (trivial)
def o0:Int:=(cond (decide (h<d)) 0 (cond (h==d) g (cond (decide ((i64.wrap (h-d))>(u.n:Int))) 0 (u.at' (toNat (i64.wrap ((i64.wrap (h-d))-1)))).j)))
def ix:Int:=(cond (decide (h<d)) 11 (cond (h==d) 0 (cond (decide ((i64.wrap (h-d))>(u.n:Int))) 5 0)))
def ajq:a6:=⟨[.g [a,a,.af c6],.v a],fun(d:Int) (g:Int) u (h:Int)=>⟨⟨some (0≤d∧d≤1048576∧h≤9223372036854775807),.c9 [b (o0 d g u h),b (ix d u h)]⟩⟩⟩
theorem KV:bg 102 ajq:=bj Tryz.func102
 fun(d:Int) (g:Int) u n _ (h:Int) j=>bf ⟨.pure,[.tmp 4,.tmp 5],[(.t 0,a),(.t 1,a)],⟨[U,U],[]⟩⟩ (.z) (let b:=i64.wrap (h-d);let c:=i64.wrap (b-1);(decide (h<d))=false→((h==d)=false→((decide (b>(u.n:Int)))=false→(0≤c∧c<(u.n:Int))))) e7 Tryz.func102 (have⟨k,l,m⟩:=j;(fun e=>(fun f=>(fun i=>(by have:=dQ e;have:=cU f;have:=dQ i;have:=N (h-d);have:=N ((i64.wrap (h-d))-1);omega)))))
theorem y2(d:Int)(u:A aI)(h:Int):ix d u h=0∧(0≤d∧d≤1048576)∧u.n≤549755813888∧h≤9223372036854775807→d≤h∧h≤d+(u.n:Int):=fun⟨e,f,g,i⟩=>by
 simp only[ix]at e
 by_cases a:h<d
 ·simp [a]at e
 ·rw[N (h-d)]at e
  by_cases b:h=d
  ·omega
  ·by_cases c:h-d>(u.n:Int)
   ·rw[ik.2 b]at e;simp [a,c]at e
   ·omega
def At:Bool:=(cond (decide (h<0)) true (decide (h>1048576)))
def kC:Int:=(cond ((cC d g u)!=0) 0 (cond (At h) 0 (o0 d g u h)))
def xa:Int:=(cond ((cC d g u)!=0) (cC d g u) (cond (At h) 2 (ix d u h)))
def alO:a6:=⟨[.g [a,a,.af c6],.v a],fun d g u h=>⟨⟨none,.c9 [b (kC d g u h),b (xa d g u h)]⟩⟩⟩
theorem KZ:bg 94 alO:=bj Tryz.func94
 fun(d:Int) (g:Int) u e _ (h:Int)=>bf ⟨.pure,[.tmp 4,.tmp 5],[(.t 0,a),(.t 1,a)],⟨[U,U],[]⟩⟩ (.ad (.ad (.s (.j ⟨131126,[],[(.t 17,y)],[],.f⟩ .z .z) .z))) (((cC d g u)!=0)=false→((At h)=false→(0≤d∧d≤1048576∧h≤9223372036854775807))) (b4 (aw uM (aw KV aT))) Tryz.func94 ((fun b=>(fun c=>(by have:=eS _ _ _ (bE b);have:=c;simp [At]at this;omega))))
end
section
variable(d:Int)(g:Int)(u:A aI)(h:Int)
def sh:Int:=(cond ((cC d g u)!=0) 0 (cond ((ix d u h)!=0) 0 h))
def JL:Int:=(cond ((cC d g u)!=0) 0 (cond ((ix d u h)!=0) 0 (o0 d g u h)))
def uq:A aI:=(cond ((cC d g u)!=0) (L:A aI) (cond ((ix d u h)!=0) (L:A aI) (A.part u (i64.wrap (h-d)) (u.n:Int))))
def aq8:Int:=(cond ((cC d g u)!=0) (cC d g u) (cond ((ix d u h)!=0) (ix d u h) 0))
def alQ:a6:=⟨[.g [a,a,.af c6],.v a],fun(d:Int) (g:Int) u (h:Int)=>⟨⟨some (h≤9223372036854775807),.c9 [.agg [b (sh d g u h),b (JL d g u h),aH 10 dU (uq d g u h)],b (aq8 d g u h)]⟩⟩⟩
theorem afe:bg 100 alQ:=bj Tryz.func100
 fun(d:Int) (g:Int) u i _ (h:Int) f=>bf ⟨.pure,[.cell 4 43,.tmp 5],[(.c 0 0,a),(.c 0 1,a),(.c 0 2,.af c6),(.t 1,a)],⟨[.agg (us 3 []),U],[]⟩⟩ (.z) (let c:=i64.wrap (h-d);((cC d g u)!=0)=false→((0≤d∧d≤1048576∧h≤9223372036854775807)∧(((ix d u h)!=0)=false→(((0:Int)≤c)∧((c:Int)≤(u.n:Int))∧(((u.n:Int):Int)≤(u.n:Int))∧(((u.n:Int):Int)≤(u.n:Int)))))) (b4 (aw uM (aw KV (aw xN aT)))) Tryz.func100 ((fun b=>⟨(by have:=eS _ _ _ (bE b);omega),(fun e=>(by have:=eS _ _ _ (bE b);have:=bE e;have:=y2 d u h;have:=N (h-d);omega))⟩))
end
section
variable(d:Int)(g:Int)(u:A aI)(h:Int)(r:Int)(o:Int)(q:A aj)(t:Int)(f:A aG)
def p_:Bool:=(cond ((xa d g u h)==0) ((kC d g u h)==r) false)
def tC:Int:=(cond (p_ d g u h r) (sh d g u h) h)
def Dd:Int:=(cond (p_ d g u h r) (JL d g u h) r)
def wc:A aI:=(cond (p_ d g u h r) (uq d g u h) (L:A aI))
def aj4:a6:=⟨[.g [a,a,.af c6],.g [a,a,a,.af a_,a,.af bP]],fun(d:Int) (g:Int) u (h:Int) (r:Int) _ _ _ _=>⟨⟨some (h≤9223372036854775807),.agg [b (tC d g u h r),b (Dd d g u h r),aH 10 dU (wc d g u h r)]⟩⟩⟩
theorem aeT:bg 107 aj4:=bj Tryz.func107
 fun(d:Int) (g:Int) u e _ (h:Int) (r:Int) (o:Int) q i _ (t:Int) f j _ c=>bf ⟨.pure,[.cell 4 43],[(.c 0 0,a),(.c 0 1,a),(.c 0 2,.af c6)],⟨[.agg (us 3 [])],[]⟩⟩ (.ad (.s (.ad (.j ⟨8388636,[],[(.t 23,y)],[],.f⟩ .z .z)) .z)) ((p_ d g u h r)=true→(h≤9223372036854775807)) (b4 (aw KZ (aw afe aT))) Tryz.func107 ((fun b=>(by omega)))
def xh:Int:=(cond ((cC d g u)!=0) 0 (cond ((qz h r o q t f)!=0) 0 (tC d g u h r)))
def adl:Int:=(cond ((cC d g u)!=0) 0 (cond ((qz h r o q t f)!=0) 0 (Dd d g u h r)))
def xi:A aI:=(cond ((cC d g u)!=0) (L:A aI) (cond ((qz h r o q t f)!=0) (L:A aI) (wc d g u h r)))
def are:Int:=(cond ((cC d g u)!=0) (cC d g u) (cond ((qz h r o q t f)!=0) (qz h r o q t f) 0))
def al1:a6:=⟨[.g [a,a,.af c6],.g [a,a,a,.af a_,a,.af bP]],fun(d:Int) (g:Int) u (h:Int) (r:Int) (o:Int) q (t:Int) f=>⟨⟨some (h≤9223372036854775807),.c9 [.agg [b (xh d g u h r o q t f),b (adl d g u h r o q t f),aH 10 dU (xi d g u h r o q t f)],b (are d g u h r o q t f)]⟩⟩⟩
theorem awH:bg 92 al1:=bj Tryz.func92
 fun(d:Int) (g:Int) u i _ (h:Int) (r:Int) (o:Int) q j _ (t:Int) f k _ e=>bf ⟨.pure,[.cell 4 43,.tmp 5],[(.c 0 0,a),(.c 0 1,a),(.c 0 2,.af c6),(.t 1,a)],⟨[.agg (us 3 []),U],[]⟩⟩ (.z) (((cC d g u)!=0)=false→(((qz h r o q t f)!=0)=false→(h≤9223372036854775807))) (b4 (aw uM (aw afj (aw aeT aT)))) Tryz.func92 ((fun b=>(fun c=>(by omega))))
end
section
variable(d:Int)(g:A Int)
def di:A Int:=(A.app g (A.lit ([(u8.wrap d)]:List Int)))
def ajM:b5:=⟨[.p 0,.v a],[(.h 1 0,.ae a8)],[[.own 1 0],[U]],fun(d:Int) g=>⟨⟨some (g.n≤400000000000),[],[[.own 1 ((di d g)).n],[(aB.ae a8).ab (di d g)]]⟩⟩⟩
theorem AQ:dB 131 ajM:=dI Tryz.func131
 fun(d:Int) g b a=>dA ⟨.heap,[],[(.h 1 0,.ae a8)],⟨[],[[.own 1 0],[U]]⟩⟩ (.z) (g.n+1≤549755813888) (bK 2 aT bJ) Tryz.func131 ((by omega))
theorem ib(d:Int)(g:A Int):(di d g).n=g.n+1:=rfl
def Qg(d:Int):Nat→Int→A Int→A Int
 |0,_,_=>default
 |k+1,e,m=>(cond (decide (e≥0)) (Qg d k (i64.wrap (e-8)) (A.app m (A.lit ([(u8.wrap ((u64.wrap (i64.wrap (d+4611686018427387904)))/2^(toNat e)))]:List Int)))) m)
def aao:A Int:=Qg d ((toNat (56+8))+1) 56 g
def bu:A Int:=(aao d g)
def ajL:b5:=⟨[.p 0,.v a],[(.h 1 0,.ae a8)],[[.own 1 0],[U]],fun(d:Int) g=>⟨⟨some (g.n≤400000000000),[],[[.own 1 ((bu d g)).n],[(aB.ae a8).ab (bu d g)]]⟩⟩⟩
theorem E_:dB 130 ajL:=dI Tryz.func130
 fun(d:Int) g j i=>dA ⟨.heap,[],[(.h 1 0,.ae a8)],⟨[],[[.own 1 0],[U]]⟩⟩ (.ad (.ad (.cy ⟨49,[],[],[(.t 5,a),(.h 1 0,.ae a8)],some 0,false,0,[],[(.h 1 0,.ae a8)],fun k (s:Int×A Int)=>Qg d k s.1 s.2,.f,fun(s:Int×A Int)=>(s.1%8=0∧ -8≤s.1∧s.1≤56∧(s.2.n:Int)*8=(g.n:Int)*8+56-s.1),fun(s:Int×A Int)=>(toNat (s.1+8)),none⟩ .z))) ((((56:Int)%8=0∧ -8≤(56:Int)∧(56:Int)≤56∧(g.n:Int)*8=(g.n:Int)*8+56- (56:Int)))∧(∀(e:Int) (m:A Int),let b:=i64.wrap (e-8);(e%8=0∧ -8≤e∧e≤56∧(m.n:Int)*8=(g.n:Int)*8+56-e)→(((decide (e≥0))=true→(((0:Int)≤e∧(e:Int)≤64)∧(m.n+1≤549755813888)))∧((decide (e≥0))=true→((b%8=0∧ -8≤b∧b≤56∧(((m.n+1):Nat):Int)*8=(g.n:Int)*8+56-b)∧(toNat (b+8))<(toNat (e+8))))))) (bK 2 aT bJ) Tryz.func130 (⟨(by omega),(fun e m h=>⟨(fun c=>⟨(by have:=aq c;omega),(by omega)⟩),(fun f=>(by have:=aq f;have:=N (e-8);omega))⟩)⟩)
theorem eB(d:Int)(g:A Int):(bu d g).n=g.n+8:=by kernel_rfl
def du(d:z)(g:A Int):A Int:=(A.app (di ((d:z).size:Int) g) (A.ofStr d))
def ajN:b5:=⟨[.p 0,.v au],[(.h 1 0,.ae a8)],[[.own 1 0],[U]],fun d g=>⟨⟨some (g.n≤300000000000∧d.size≤10000000000),[],[[.own 1 ((du d g)).n],[(aB.ae a8).ab (du d g)]]⟩⟩⟩
theorem KX:dB 132 ajN:=dI Tryz.func132
 fun d e g f a=>dA ⟨.heap,[],[(.h 1 0,.ae a8)],⟨[],[[.own 1 0],[U]]⟩⟩ (.z) ((g.n≤400000000000)∧((di ((d:z).size:Int) g).n+(d:z).size≤549755813888)) (bK 2 aT (av AQ bJ)) Tryz.func132 (have⟨b,c⟩:=a;⟨(by omega),(by have:=ib ((d:z).size:Int) g;omega)⟩)
theorem iD(d:z)(g:A Int):(du d g).n=g.n+1+d.size:=rfl
def Ir(g:z)(u:z)(h:z)(r:Int)(o:A Int):A Int:=(bu r (du h (du u (du g (di d o)))))
def akJ:b5:=⟨[.p 0,.g [a,au,au,au,a]],[(.h 1 0,.ae a8)],[[.own 1 0],[U]],fun(d:Int) g u h (r:Int) o=>let b:=Ir d g u h r o;⟨⟨some (o.n≤200000000000∧g.size≤10000000000∧u.size≤10000000000∧h.size≤10000000000),[],[[.own 1 (b).n],[(aB.ae a8).ab b]]⟩⟩⟩
theorem avV:dB 195 akJ:=dI Tryz.func195
 fun(d:Int) g j u k h l (r:Int) o m b=>dA ⟨.heap,[],[(.h 1 0,.ae a8)],⟨[],[[.own 1 0],[U]]⟩⟩ (.z) (let a:=du g (di d o);(o.n≤400000000000)∧(((di d o).n≤300000000000∧g.size≤10000000000)∧((a.n≤300000000000∧u.size≤10000000000)∧(((du u a).n≤300000000000∧h.size≤10000000000)∧((du h (du u a)).n≤400000000000))))) (bK 2 aT (av E_ (av AQ (av KX bJ)))) Tryz.func195 (have⟨c,e,f,i⟩:=b;⟨(by omega),⟨(by have:=ib d o;omega),⟨(by have:=iD g (di d o);have:=ib d o;omega),⟨(by have:=iD u (du g (di d o));have:=iD g (di d o);have:=ib d o;omega),(by have:=iD h (du u (du g (di d o)));have:=iD u (du g (di d o));have:=iD g (di d o);have:=ib d o;omega)⟩⟩⟩⟩)
def HY(g:Int)(u:Int)(h:z)(r:z)(o:z)(q:Int)(t:A Int):A Int:=(cond (decide (d>0)) (Ir u h r o q (bu g (bu d t))) (bu d t))
def ake:b5:=⟨[.p 0,.g [a,a,a,au,au,au,a]],[(.h 1 0,.ae a8)],[[.own 1 0],[U]],fun(d:Int) (g:Int) (u:Int) h r o (q:Int) t=>let b:=HY d g u h r o q t;⟨⟨some (t.n≤150000000000∧h.size≤10000000000∧r.size≤10000000000∧o.size≤10000000000),[],[[.own 1 (b).n],[(aB.ae a8).ab b]]⟩⟩⟩
theorem avw:dB 169 ake:=dI Tryz.func169
 fun(d:Int) (g:Int) (u:Int) h j r k o l (q:Int) t m a=>dA ⟨.heap,[],[(.h 1 0,.ae a8)],⟨[],[[.own 1 0],[U]]⟩⟩ (.z) ((t.n≤400000000000)∧((decide (d>0))=true→(((bu d t).n≤400000000000)∧((bu g (bu d t)).n≤200000000000∧h.size≤10000000000∧r.size≤10000000000∧o.size≤10000000000)))) (bK 2 aT (av E_ (av avV bJ))) Tryz.func169 (have⟨c,e,f,i⟩:=a;⟨(by omega),(fun b=>⟨(by have:=eB d t;omega),(by have:=eB g (bu d t);have:=eB d t;omega)⟩)⟩)
def HJ(g:Int)(u:Bool)(h:Int)(r:Int)(o:Int)(q:z)(t:z)(f:z)(w:Int)(ao:A Int):A Int:=(cond u (di 1 (bu g (bu d ao))) (HY h r o q t f w (di 0 (bu g (bu d ao)))))
def ajr:b5:=⟨[.p 0,.g [a,a,y,a,a,a,au,au,au,a]],[(.h 1 0,.ae a8)],[[.own 1 0],[U]],fun(d:Int) (g:Int) u (h:Int) (r:Int) (o:Int) q t f (w:Int) ao=>let b:=HJ d g u h r o q t f w ao;⟨⟨some (ao.n≤100000000000∧q.size≤10000000000∧t.size≤10000000000∧f.size≤10000000000),[],[[.own 1 (b).n],[(aB.ae a8).ab b]]⟩⟩⟩
theorem au4:dB 158 ajr:=dI Tryz.func158
 fun(d:Int) (g:Int) u (h:Int) (r:Int) (o:Int) q n t p f s (w:Int) ao m b=>dA ⟨.heap,[],[(.h 1 0,.ae a8)],⟨[],[[.own 1 0],[U]]⟩⟩ (.z) (let a:=bu g (bu d ao);(ao.n≤400000000000)∧(((bu d ao).n≤400000000000)∧((u=true→(a.n≤400000000000))∧(u=false→((a.n≤400000000000)∧((di 0 a).n≤150000000000∧q.size≤10000000000∧t.size≤10000000000∧f.size≤10000000000)))))) (bK 2 aT (av E_ (av AQ (av avw bJ)))) Tryz.func158 (have⟨i,j,k,l⟩:=b;⟨(by omega),⟨(by have:=eB d ao;omega),⟨(fun c=>(by have:=eB g (bu d ao);have:=eB d ao;omega)),(fun e=>⟨(by have:=eB g (bu d ao);have:=eB d ao;omega),(by have:=ib 0 (bu g (bu d ao));have:=eB g (bu d ao);have:=eB d ao;omega)⟩)⟩⟩⟩)
def xb(g:Int)(u:Bool)(h:Int)(r:Int)(o:Int)(q:z)(t:z)(f:z)(w:Int):A Int:=(cond ((hC d g u h r o q t f w)!=0) (L:A Int) (HJ d g u h r o q t f w (L:A Int)))
def aq7(g:Int)(u:Bool)(h:Int)(r:Int)(o:Int)(q:z)(t:z)(f:z)(w:Int):Int:=let a:=hC d g u h r o q t f w;(cond (a !=0) a 0)
def alP:a6:=⟨[.g [a,a,y,a,a,a,au,au,au,a]],fun(d:Int) (g:Int) u (h:Int) (r:Int) (o:Int) q t f (w:Int)=>⟨⟨some (q.size≤10000000000∧t.size≤10000000000∧f.size≤10000000000),.c9 [aH 1 cQ (xb d g u h r o q t f w),b (aq7 d g u h r o q t f w)]⟩⟩⟩
theorem K0:bg 144 alP:=bj Tryz.func144
 fun(d:Int) (g:Int) u (h:Int) (r:Int) (o:Int) q k t l f m (w:Int) b=>bf ⟨.pure,[.tmp 2,.tmp 3],[(.t 0,.af a8),(.t 1,a)],⟨[U,U],[]⟩⟩ (.ad (.ad (.ad (.s (.ir [(.h 1 0,a8)]) .z)))) (((hC d g u h r o q t f w)!=0)=false→(0≤100000000000∧q.size≤10000000000∧t.size≤10000000000∧f.size≤10000000000)) (bK 0 (aw KY aT) (av au4 bJ)) Tryz.func144 (have⟨e,i,j⟩:=b;(fun c=>(by omega)))
end
def aaR:Nat→Int→Int→A Int→A Int
 |0,_,_,_=>default
 |k+1,e,m,a1=>(cond (decide (m≥0)) (aaR k (i64.wrap (e.tdiv 256)) (i64.wrap (m-1)) (A.cz a1 (toNat m) (u8.wrap (e.tmod 256)))) a1)
def ap_(d:Int):A Int:=aaR ((toNat (7+1))+1) (i64.wrap (d+4611686018427387904)) 7 (A.rep (toNat 8) (0:Int))
def De(d:Int):A Int:=(ap_ d)
theorem axH(d:Int):(De d).n=8:=by kernel_rfl
def zP(d:z):A Int:=(P1 (A.lit ([(u8.wrap ((d:z).size:Int))]:List Int)) (A.ofStr d))
theorem axI(d:z):d.size≤10000000000→(zP d).n=d.size+1:=fun h=>by
 unfold zP;rw[axD _ _ (by simp only[A.ic,A.ofStr,fr,hs];omega)];simp only[A.ic,A.ofStr,fr,hs];omega
theorem rX(n l h:Int):j0 n l h=(decide (n≥l)&&decide (n≤h)):=by
 unfold j0 CW;cases decide (n≥l)<;>rfl
theorem apP(x:z):kx x=vY x:=by
 unfold vY kx C0;rw[rX];cases decide ((x.size:Int)≥1)<;>rfl
theorem apN(x:z):ji x=n1 x:=rfl
theorem apO(x:Int):j1 x=HG x:=by
 unfold j1 HH HG;rw[rX];cases decide (x≥(-1099511627776))<;>rfl
theorem apQ(x:Int):vZ x=rY x:=by
 unfold vZ P9 rY;rw[rX];cases decide (x≥1)<;>rfl
theorem amr(s:A z)(a:s.n≤549755813888):P8 s=jJ (fun i=> !(n1 (s.at' (toNat i)))) s.n 0:=
 E1 _ _ _ (pA (HX s) s.n (fun i=> !(n1 (s.at' (toNat i)))) (fun i=>i) a fun _ _=>rfl)
theorem amt(s:A br)(a:s.n≤549755813888):HK s=jJ (fun i=>zE (s.at' (toNat i)).j (s.at' (toNat i)).ai) s.n 0:=
 E1 _ _ _ (pA (HZ s) s.n (fun i=>zE (s.at' (toNat i)).j (s.at' (toNat i)).ai) (fun i=>i) a fun _ _=>rfl)
theorem amu(s:A bO)(a:s.n≤549755813888):HL s=jJ (fun i=> !(n1 (s.at' (toNat i)).j)) s.n 0:=
 E1 _ _ _ (pA (H0 s) s.n (fun i=> !(n1 (s.at' (toNat i)).j)) (fun i=>i) a fun _ _=>rfl)
theorem amv(s:A bO)(a:s.n≤549755813888):Qa s=jJ (fun i=> !(j1 (s.at' (toNat i)).ai)) s.n 0:=
 E1 _ _ _ (pA (H2 s) s.n (fun i=> !(j1 (s.at' (toNat i)).ai)) (fun i=>i) a fun _ _=>rfl)
theorem Hj{F:Bool×Int}{a:Int→Bool}{c:Int}{m:Nat}{i:Int}(h:F=scan a (fun _=>c) m i)(X:Int):(cond (cond F.1 false true) X F.2)=bif jJ a m i then c else X:=by
 rw[h,aBC]
 cases jJ a m i<;>rfl
theorem Vc(a:A br)(b:A z)(c:A bO)(d:a.n≤1048576)(e:b.n≤1048576)(f:c.n≤1048576):lJ a b c=(a.n:Int)+b.n+c.n:=by
 unfold lJ;rw[N ((a.n:Int)+b.n),N _]
theorem aBB(s:A z)(a:s.n≤549755813888):Qw s=scan (fun i=>zC (s.at' (toNat i))) (fun i=>i) s.n 0:=pA (HW s) s.n _ _ a fun _ _=>rfl
theorem adW{a:Int→Bool} : ∀(m:Nat) (i:Int),jJ a m i=false→ ∀j:Int,i≤j→j<i+m→a j=false
 |0,i,_,j,b,c=>by omega
 |m+1,i,h,j,b,c=>by
  simp only[jJ,BJ]at h
  by_cases e:j=i
  ·rw[e];exact h.1
  ·exact adW m (i+1) h.2 j (by omega) (by omega)
theorem ss{a:Int→Bool}{n:Nat}(h:jJ a n 0=false)(i:Nat)(b:i<n):a (i:Int)=false:=adW n 0 h i (by omega) (by omega)
theorem ez{b:Bool}{c X:Int}(h:(cond b c X)=0)(a:c≠0):b=false∧X=0:=by
 cases b with
 |true=>exact absurd h a
 |false=>exact⟨rfl,h⟩
theorem dT{a b:Bool}(h:(cond a true b)=false):a=false∧b=false:=by
 cases a with
 |true=>simp at h
 |false=>exact⟨rfl,h⟩
theorem en{p:Prop}[Decidable p](h:decide p=false): ¬p:=dQ h
def rz(g:z)(u:Int)(h:A br)(r:A z)(o:A bO):Prop:=
 (g.size≤20∧ -1099511627776≤u∧u≤1099511627776)∧(h.n≤20∧r.n≤20∧o.n≤20)∧(∀i,i<h.n→(h.at' i).j.size≤20∧(h.at' i).ai.size≤20)∧(∀i,i<r.n→(r.at' i).size≤20)∧(∀i,i<o.n→(o.at' i).j.size≤20∧ -1099511627776≤(o.at' i).ai∧(o.at' i).ai≤1099511627776)
def rv(x:A z):Prop:=x.n≤20∧ ∀i,i<x.n→(x.at' i).size≤20
def MB(x:aj):Prop:=x.j.size≤20∧rz x.K x.an x.p x.v x.ax∧0≤x.aF∧x.aF≤1073741824
def VT(x:aG):Prop:=((0≤x.j∧x.j≤1048577)∧(0≤x.ai∧x.ai≤1048576)∧(0≤x.K∧x.K≤1073741824))∧((0≤x.an∧x.an≤13)∧x.p.size≤20∧ -1099511627776≤x.v∧x.v≤1099511627776)∧rv x.ax
def GC(d:Int)(g:A aj)(u:Int)(h:A aG):Prop:=((0≤d∧d≤1073741824)∧(1≤u∧u≤1048577)∧g.n≤12∧h.n≤4)∧(∀i,i<g.n→MB (g.at' i))∧(∀i,i<h.n→VT (h.at' i))
theorem hp{g:z}{u:Int}{h:A br}{r:A z}{o:A bO}(a:rz g u h r o):rv r:=⟨a.2.1.2.1,a.2.2.2.1⟩
def lB(s:A aj):Prop:=s.n≤549755813888∧ ∀i,i<s.n→(s.at' i).p.n≤549755813888∧(s.at' i).v.n≤549755813888∧(s.at' i).ax.n≤549755813888
def te(s:A aG):Prop:=s.n≤549755813888∧ ∀i,i<s.n→(s.at' i).ax.n≤549755813888
theorem L8{x:z}(h:(!(n1 x))=false):x.size≤20:=by
 unfold n1 at h
 by_cases a:(x.size:Int)≤20
 ·omega
 ·simp [a]at h
theorem aBw{x:z}(h:(!(kx x))=false):x.size≤20:=by
 unfold kx C0 at h
 by_cases a:(x.size:Int)≤12
 ·omega
 ·simp [a]at h
theorem ahA{x:Int}(h:(!(j1 x))=false): -1099511627776≤x∧x≤1099511627776:=by
 unfold j1 HH at h
 by_cases a:x≥ -1099511627776
 ·by_cases b:x≤1099511627776
  ·omega
  ·simp [b]at h
 ·simp [a]at h
theorem ams(s:A z)(a:s.n≤549755813888):P7 s=jJ (fun i=>zC (s.at' (toNat i))) s.n 0:=E1 _ _ _ (aBB s a)
theorem Vb(a:A br)(b:A z)(c:A bO)(d:a.n≤549755813888)(e:b.n≤549755813888)(f:c.n≤549755813888):lJ a b c=(a.n:Int)+b.n+c.n:=by
 unfold lJ;rw[N ((a.n:Int)+b.n),N _]
theorem anr(d:Int)(g:z)(u:Int)(h:A z)(w:h.n≤549755813888)(a:w5 d g u h=0):((0≤d∧d≤13)∧g.size≤20∧ -1099511627776≤u∧u≤1099511627776)∧rv h:=by
 unfold w5 at a;obtain⟨b,a⟩:=ez a (by decide);obtain⟨c,a⟩:=ez a (by decide);obtain⟨e,a⟩:=ez a (by decide);obtain⟨f,_⟩:=ez a (by decide);unfold acQ at b;unfold acR at c;unfold acS at f;obtain⟨j,k⟩:=dT b;obtain⟨l,m⟩:=dT c;obtain⟨n,o⟩:=dT f;have q:=en j;have K:=en k;have r:=en l;have s:=en m;have t:=en n;have v:=en o;refine⟨⟨⟨by omega,by omega⟩,by omega,by omega,by omega⟩,by omega,fun i p=> ?_⟩;rw[ams _ (by omega)]at e;have:=ss e i p;simp only[fT,zC]at this;have:=en this;omega
theorem Xv(d:Int)(g:z)(u:Int)(f:A br)(j:A z)(k:A bO)(m:f.n≤549755813888)(n:j.n≤549755813888)(o:k.n≤549755813888)(h:mz d g u f j k=0):rz g u f j k:=by
 unfold mz at h;obtain⟨p,h⟩:=ez h (by decide);obtain⟨a,h⟩:=ez h (by decide);obtain⟨b,h⟩:=ez h (by decide);obtain⟨q,h⟩:=ez h (by decide);obtain⟨r,h⟩:=ez h (by decide);obtain⟨s,h⟩:=ez h (by decide);obtain⟨t,_⟩:=ez h (by decide);have E:f.n≤20∧j.n≤20∧k.n≤20:=by
  unfold ur at p;obtain⟨l,e⟩:=dT p;have w:=en l;have K:=en e
  by_cases C:d=1
  ·subst C;unfold si JM JN JO at a;simp only[BM,aN]at a;obtain⟨_,a⟩:=dT a;obtain⟨_,a⟩:=dT a;rw[Vb _ _ _ m n o]at a;have:=en a;omega
  ·by_cases D:d=2
   ·subst D;unfold si JM JN JO at a;simp only[BM,Int.reduceBEq,aN,aQ]at a;obtain⟨_,a⟩:=dT a;obtain⟨_,a⟩:=dT a;rw[Vb _ _ _ m n o]at a;have:=en a;omega
   ·unfold uu at b;rw[bT (show d≥3 by omega)]at b;simp only[aN]at b;obtain⟨_,b⟩:=dT b;rw[Vb _ _ _ m n o]at b;have:=en b;omega
 unfold xd at q;obtain⟨l,e⟩:=dT q;unfold xc at t;obtain⟨B,v⟩:=dT t;rw[amr _ (by omega)]at e;rw[amt _ (by omega)]at r;rw[amu _ (by omega)]at s;rw[amv _ (by omega)]at v;refine⟨⟨L8 l,ahA B⟩,E,fun i c=> ?_,fun i c=> ?_,fun i c=> ?_⟩
 ·have:=ss r i c;simp only[fT,zE,aag]at this;obtain⟨w,K⟩:=dT this;exact⟨aBw w,L8 K⟩
 ·have:=ss e i c;simp only[fT]at this;exact L8 this
 ·have x:=ss s i c;have y:=ss v i c;simp only[fT]at x y;exact⟨L8 x,ahA y⟩
theorem anu(d:Int)(g:z)(u:Int)(a:A br)(b:A z)(c:A bO)(e:a.n≤1048576)(f:b.n≤1048576)(i:c.n≤1048576)(h:mz d g u a b c=0):rz g u a b c:=Xv d g u a b c (by omega) (by omega) (by omega) h
theorem Xx(d:Int)(s:A aj)(c:lB s)(h:jF d s=0):((0≤d∧d≤1073741824)∧s.n≤12)∧ ∀i,i<s.n→MB (s.at' i):=by
 have w:=c.1;unfold jF at h;obtain⟨b,h⟩:=ez h (by decide);unfold xf at b;obtain⟨f,b⟩:=dT b;obtain⟨g,j⟩:=dT b;have r:=en f;have K:=en g;have t:=en j;have n:JP d s=scan (fun i=>o9 s i||qy d s i) (fun _=>13) s.n 0:=pA (xe d s) s.n _ _ (by omega) fun k i=>by
  show(cond (decide (i<(s.n:Int))) (cond (o9 s i) (true,13) (cond (qy d s i) (true,13) (xe d s k (i64.wrap (i+1))))) (false,default))=_;rw[B6]
 unfold Ry at h;rw[Hj n]at h;obtain⟨aZ,_⟩:=ez h (by decide);refine⟨⟨⟨by omega,by omega⟩,by omega⟩,fun i e=> ?_⟩;have q:=ss aZ i e;simp only[BJ]at q;obtain⟨q1,a⟩:=q;obtain⟨hX,o,p⟩:=c.2 i e;unfold o9 at q1;unfold qy at a;simp only[fT]at q1 a;obtain⟨u,q1⟩:=dT q1;obtain⟨l,q1⟩:=dT q1;obtain⟨d3,q1⟩:=dT q1;have v:=en l;refine⟨by omega,Xv _ _ _ _ _ _ hX o p (bE d3),?_⟩
 by_cases z:(s.at' i).aF=0
 ·rw[z];omega
 ·rw[show((s.at' i).aF !=0)=true by simp [z]]at a;simp only[aN]at a;obtain⟨m,d5⟩:=dT a;have:=en m;have:=en d5;omega
theorem hx(d:Int)(g:A aj)(u:Int)(h:A aG)(t:lB g)(f:te h)(c:gA d g u h=0):GC d g u h:=by
 have I:=f.1;unfold gA at c;obtain⟨b,c⟩:=ez c (by decide);unfold xg at b;obtain⟨j,b⟩:=dT b;obtain⟨l,b⟩:=dT b;obtain⟨m,n⟩:=dT b;have K:=en l;have C:=en m;have D:=en n;obtain⟨⟨y,z⟩,B⟩:=Xx d g t (bE j);have v:Rz d u h=scan (fun i=>Aw u h i||Av d h i) (fun _=>13) h.n 0:=pA (Eu d u h) h.n _ _ (by omega) fun k i=>by
  show(cond (decide (i<(h.n:Int))) (cond (Aw u h i) (true,13) (cond (Av d h i) (true,13) (Eu d u h k (i64.wrap (i+1))))) (false,default))=_;rw[B6]
 unfold adg at c;rw[Hj v]at c;obtain⟨aZ,_⟩:=ez c (by decide);refine⟨⟨y,⟨by omega,by omega⟩,z,by omega⟩,B,fun i e=> ?_⟩;have q:=ss aZ i e;simp only[BJ]at q;obtain⟨q1,a⟩:=q;unfold Aw at q1;unfold Av at a;simp only[fT]at q1 a;obtain⟨o,q1⟩:=dT q1;obtain⟨p,_⟩:=dT q1;obtain⟨d3,a⟩:=dT a;obtain⟨r,a⟩:=dT a;obtain⟨d5,a⟩:=dT a;obtain⟨s,a⟩:=dT a;have E:=en o;have F:=en p;have bl:=en d3;have G:=en r;have cQ:=en d5;have H:=en s;obtain⟨w,x⟩:=anr _ _ _ _ (f.2 i e) (bE a);exact⟨⟨⟨by omega,by omega⟩,⟨by omega,by omega⟩,⟨by omega,by omega⟩⟩,w,x⟩
theorem aoe(d:Int)(g u h:z)(r:Int):(fC d g u h r==Ep d g u h r)=true:=by
 by_cases o:1≤d∧d≤22
 ·have n:d=1∨d=2∨d=3∨d=4∨d=5∨d=6∨d=7∨d=8∨d=9∨d=10∨d=11∨d=12∨d=13∨d=14∨d=15∨d=16∨d=17∨d=18∨d=19∨d=20∨d=21∨d=22:=by omega
  unfold fC Ep sd Rq Rp Eo JJ w8 w7 w6 JI acW acV Er acU;simp only[apP,apN,apO,rX];generalize vY g=b;generalize vY u=c;generalize n1 h=e;generalize HG r=f;rcases n with rfl|rfl|rfl|rfl|rfl|rfl|rfl|rfl|rfl|rfl|rfl|rfl|rfl|rfl|rfl|rfl|rfl|rfl|rfl|rfl|rfl|rfl<;>
  simp only[Int.reduceBEq,Int.reduceLE,Int.reduceLT,ge_iff_le,gt_iff_lt,vb,yC,Bool.and_true,Bool.true_and,Bool.and_false,aN,aQ,Bool.not_true,Bool.not_false,BM,bne]<;>
  (generalize (g.toList==ByteArray.toList ⟨#[]⟩)=i;generalize (u.toList==ByteArray.toList ⟨#[]⟩)=j;generalize (h.toList==ByteArray.toList ⟨#[]⟩)=bl;generalize (r==0)=k
   revert i j bl k b c e f;decide)
 ·unfold fC Ep JI;have l:j0 d 1 22=false:=by rw[rX];simp;omega
  have m:(cond (decide (d<1)) true (decide (d>22)))=true:=by
   by_cases a:d<1
   ·simp [a]
   ·simp [a];omega
  rw[l,m];rfl
theorem aq1(d:Int)(g u h:z)(r:Int):fC d g u h r=Ep d g u h r:=eq_of_beq (aoe d g u h r)
theorem aq2(d g u:Int)(h r o:z)(q:Int):iO d g u h r o q=Rs d g u h r o q:=by
 unfold iO Rs Rr acX acY;rw[aq1];simp only[apQ,bne]
 cases d==0
 ·rfl
 ·simp only[aN,Bool.true_and]
  cases g==0<;>simp
theorem aq3(d g:Int)(u:Bool)(h r o:Int)(q t f:z)(w:Int):hC d g u h r o q t f w=se d g u h r o q t f w:=by
 unfold hC se;have m:Rt d g=w9 d g:=by
  unfold Rt w9 rY;simp only[rX]
  by_cases a:d<1
  ·have: ¬(1≤d):=by omega
   simp [a,this]
  ·have e:1≤d:=by omega
   by_cases b:d>1048576
   ·have: ¬(d≤1048576):=by omega
    simp [b,this]
   ·have i:d≤1048576:=by omega
    by_cases c:g<0
    ·have: ¬(0≤g):=by omega
     simp [a,b,c,e,i,this]
    ·have j:0≤g:=by omega
     by_cases k:g>1073741824
     ·have: ¬(g≤1073741824):=by omega
      simp [a,b,c,k,e,i,j,this]
     ·have l:g≤1073741824:=by omega
      simp [a,b,c,k,e,i,j,l]
 rw[m,aq2]
 cases w9 d g<;>cases u<;>rfl
end Go.Proofs.YtfmgjpcmcjjoiaaGreatDoor
namespace Go.ah
open Go Go.RowKit
section
variable {α:Type}
def A.B(s:A α):List α:=(List.range s.n).map s.at'
theorem dt(s:A α):s.B.length=s.n:=by simp [A.B]
theorem kV(s:A α){i:Nat}(h:i<s.n):s.B[i]? =some (s.at' i):=by simp [A.B,h]
theorem oI(s t:A α):(s.app t).B=s.B++t.B:=by
 apply yG;intro i
 by_cases h:i<s.n
 ·rw[kV _ (by simp only[A.jd];omega),s7 (by rw[dt];exact h),kV _ h];simp only[A.app,am3 h,aN]
 ·by_cases a:i<s.n+t.n
  ·rw[kV _ (by simp only[A.jd];omega),BG (by rw[dt];omega),dt,kV _ (by omega)];simp only[A.app,am2 (show s.n≤i by omega),aQ]
  ·rw[e0 (by rw[dt,A.jd];omega),e0 (by rw[iF,dt,dt];omega)]
theorem oJ[Inhabited α](l:List α):(A.lit l).B=l:=by
 apply yG;intro i
 by_cases h:i<l.length
 ·rw[kV _ (by simp only[A.ic];exact h)];simp only[A.lit,List.getD,cT h,ly]
 ·rw[e0 (by rw[dt,A.ic];omega),e0 (by omega)]
theorem Mv[Inhabited α]:(L:A α).B=[]:=rfl
theorem VF(s:A α)(i:Nat)(x:α):(s.cz i x).B=s.B.set i x:=by
 apply yG;intro j
 by_cases h:j<s.n
 ·rw[kV _ (by simp only[A.pD];exact h)];simp only[A.cz]
  by_cases e:j=i
  ·subst e;rw[nK,List.getElem?_set_self (by rw[dt];exact h)];rfl
  ·have:Nat.beq j i=false:=by
    cases a:Nat.beq j i with
    |false=>rfl
    |true=>exact absurd (dX a) e
   rw[this,BI (fun h=>e h.symm),kV _ h];rfl
 ·rw[e0 (by rw[dt,A.pD];omega),e0 (by rw[List.length_set,dt];omega)]
theorem aiR(n:Nat)(x:α):(A.rep n x).B=List.replicate n x:=by
 apply yG;intro j
 by_cases h:j<n
 ·rw[kV _ (by simp only[A.pw];exact h),VA,bF h];rfl
 ·rw[e0 (by rw[dt,A.pw];omega),e0 (by simp;omega)]
end
theorem OY{α:Type}[Inhabited α](F:Nat→Int→A α→A α)(t:A α)(e:t.n≤549755813888)(a: ∀k i s,F (k+1) i s=bif decide (i<(t.n:Int))then F k (i64.wrap (i+1)) (A.app s (A.lit [t.at' (toNat i)]))else s):
  ∀(m:Nat) (i:Nat) (s:A α),m=t.n-i→i≤t.n→(F (m+1) (i:Int) s).B=s.B++t.B.drop i
 |0,i,s,d,c=>by
  have: ¬((i:Int)<(t.n:Int)):=by omega
  rw[a];simp only[this,yC,aQ];rw[List.drop_eq_nil_of_le (by rw[dt];omega),lz]
 |m+1,i,s,d,c=>by
  have f:(i:Int)<(t.n:Int):=by omega
  rw[a];simp only[f,vb,aN];rw[N _,show(i:Int)+1=((i+1:Nat):Int) by omega,OY F t e a m (i+1) _ (by omega) (by omega),oI,oJ,kj]
  congr 1
  rw[fT];have b:i<t.B.length:=by rw[dt];omega
  rw[Gk b];have:=kV t (show i<t.n by omega);rw[cT b]at this;rw[eG this];rfl
end Go.ah
namespace Go.Proofs.YtfmgjpcmcjjoiaaGreatDoor
open Go Go.RowKit Go.ah
def ke(x:Int)(s:Nat):Int:=u8.wrap ((u64.wrap (i64.wrap (x+4611686018427387904)))/2^s)
theorem aiI(d:Int)(g:A Int):(bu d g).B=g.B++[ke d 56,ke d 48,ke d 40,ke d 32,ke d 24,ke d 16,ke d 8,ke d 0]:=by
 have h:bu d g=A.app (A.app (A.app (A.app (A.app (A.app (A.app (A.app g (A.lit [ke d 56])) (A.lit [ke d 48])) (A.lit [ke d 40])) (A.lit [ke d 32])) (A.lit [ke d 24])) (A.lit [ke d 16])) (A.lit [ke d 8])) (A.lit [ke d 0]):=by kernel_rfl
 rw[h];simp only[oI,oJ,kj,BN,re]
def mJ(y:Int):Nat→Int
 |0=>y
 |k+1=>i64.wrap ((mJ y k).tdiv 256)
def g8(y:Int)(k:Nat):Int:=u8.wrap ((mJ y k).tmod 256)
theorem aiL(d:Int):(De d).B=[g8 (i64.wrap (d+4611686018427387904)) 7,g8 (i64.wrap (d+4611686018427387904)) 6,g8 (i64.wrap (d+4611686018427387904)) 5,g8 (i64.wrap (d+4611686018427387904)) 4,g8 (i64.wrap (d+4611686018427387904)) 3,g8 (i64.wrap (d+4611686018427387904)) 2,g8 (i64.wrap (d+4611686018427387904)) 1,g8 (i64.wrap (d+4611686018427387904)) 0]:=by
 generalize a:i64.wrap (d+4611686018427387904)=y;have h:De d=A.cz (A.cz (A.cz (A.cz (A.cz (A.cz (A.cz (A.cz (A.rep 8 0) 7 (g8 (i64.wrap (d+4611686018427387904)) 0)) 6 (g8 (i64.wrap (d+4611686018427387904)) 1)) 5 (g8 (i64.wrap (d+4611686018427387904)) 2)) 4 (g8 (i64.wrap (d+4611686018427387904)) 3)) 3 (g8 (i64.wrap (d+4611686018427387904)) 4)) 2 (g8 (i64.wrap (d+4611686018427387904)) 5)) 1 (g8 (i64.wrap (d+4611686018427387904)) 6)) 0 (g8 (i64.wrap (d+4611686018427387904)) 7):=by kernel_rfl
 rw[h,a];simp only[VF,aiR];rfl
theorem ag6(y:Int)(d:0≤y)(g:y<9223372036854775808): ∀k,0≤mJ y k∧mJ y k≤y∧mJ y k=y/2^(8*k)
 |0=>⟨d,dp _,by simp [mJ]⟩
 |k+1=>by
  obtain⟨a,b,c⟩:=ag6 y d g k;have e:(mJ y k).tdiv 256=mJ y k/256:=Int.tdiv_eq_ediv_of_nonneg a;have h:0≤mJ y k/256:=by omega
  have bl:mJ y k/256≤mJ y k:=by omega
  have f:mJ y (k+1)=mJ y k/256:=by
   simp only[mJ,e];exact N _
  refine⟨by omega,by omega,?_⟩;rw[f,c,Int.ediv_ediv_of_nonneg (Int.pow_nonneg (by omega)),show(256:Int)=2^8 by decide,←Int.pow_add,show 8*k+8=8*(k+1) by omega]
theorem tq(x:Int)(k:Nat)(d:0≤x+4611686018427387904)(e:x+4611686018427387904<9223372036854775808):g8 (i64.wrap (x+4611686018427387904)) k=ke x (8*k):=by
 have g:i64.wrap (x+4611686018427387904)=x+4611686018427387904:=N _;have f:u64.wrap (x+4611686018427387904)=x+4611686018427387904:=by
  rw[IntKind.wrap_u64];omega
 unfold g8 ke;rw[g,f];obtain⟨a,b,c⟩:=ag6 _ d e k;rw[c]at a ⊢;rw[IntKind.wrap_u8,IntKind.wrap_u8,Int.tmod_eq_emod_of_nonneg a];omega
theorem aiM(d:Int)(g:A Int)(a:0≤d+4611686018427387904)(b:d+4611686018427387904<9223372036854775808):(bu d g).B=g.B++(De d).B:=by
 rw[aiI,aiL];rw[tq d 7 a b,tq d 6 a b,tq d 5 a b,tq d 4 a b,tq d 3 a b,tq d 2 a b,tq d 1 a b,tq d 0 a b]
theorem aiH(d g:A Int)(h:d.n+g.n≤549755813888):(P1 d g).B=d.B++g.B:=by
 have a:(CU d).B=[]++d.B.drop 0:=OY (zz d) d (by omega) (fun _ _ _=>rfl) _ 0 L (by omega) (by omega);have b:(CV d g).B=(CU d).B++g.B.drop 0:=OY (zA g) g (by omega) (fun _ _ _=>rfl) _ 0 _ (by omega) (by omega);show(CV d g).B=_;rw[b,a];rfl
theorem aiN(x:z)(h:x.size≤10000000000)(w:A Int):(du x w).B=w.B++(zP x).B:=by
 have a:(zP x).B=[u8.wrap (x.size:Int)]++(A.ofStr x).B:=by
  unfold zP;rw[aiH _ _ (by simp only[A.ic,A.ofStr,fr,hs];omega),oJ]
 rw[a];unfold du di;rw[oI,oI,oJ,kj]
end Go.Proofs.YtfmgjpcmcjjoiaaGreatDoor
namespace Go.ah
open Go Go.RowKit
def cat{β:Type}(f:Nat→List β):Nat→Nat→List β
 |0,_=>[]
 |m+1,i=>f i++cat f m (i+1)
theorem y0{β:Type}{f:Nat→List β}{D:Nat} : ∀m i,(∀j,i≤j→j<i+m→(f j).length≤D)→(cat f m i).length≤m*D
 |0,_,_=>by simp [cat]
 |m+1,i,h=>by
  simp only[cat,iF];have a:=h i (bx _) (by omega);have b:=y0 m (i+1) fun j a b=>h j (by omega) (by omega);rw[iY];omega
theorem afL{α:Type}(F:Nat→Int→A α→A α)(n D L:Nat)(step:Int→A α→A α)(f:Nat→List α)(h:n≤549755813888)
  (a: ∀k i s,F (k+1) i s=bif decide (i<(n:Int))then F k (i64.wrap (i+1)) (step i s)else s)
  (d: ∀(i:Nat) (s:A α),i<n→s.n≤L+i*D→(step (i:Int) s).B=s.B++f i∧(f i).length≤D):
  ∀(m i:Nat) (s:A α),i+m=n→s.n≤L+i*D→(F (m+1) (i:Int) s).B=s.B++cat f m i
 |0,i,s,g,c=>by
  rw[a,bI (show¬((i:Int)<(n:Int)) by omega)];simp only[aQ,cat,lz]
 |m+1,i,s,g,c=>by
  obtain⟨b,j⟩:=d i s (by omega) c;rw[a,bT (show(i:Int)<(n:Int) by omega)];simp only[aN];have e:(step (i:Int) s).n≤L+(i+1)*D:=by
   rw[←dt,b,iF,dt,iY];omega
  rw[N _,show(i:Int)+1=((i+1:Nat):Int) by omega,afL F n D L step f h a d m (i+1) _ (by omega) e,b,kj];rfl
theorem AX{α:Type}(F:Nat→Int→A α→A α)(n D L:Nat)(step:Int→A α→A α)(f:Nat→List α)(b:n≤549755813888)
  (a: ∀k i s,F (k+1) i s=bif decide (i<(n:Int))then F k (i64.wrap (i+1)) (step i s)else s)
  (c: ∀(i:Nat) (s:A α),i<n→s.n≤L+i*D→(step (i:Int) s).B=s.B++f i∧(f i).length≤D) (s:A α) (d:s.n≤L):
  (F (toNat ((n:Int)-0)+1) 0 s).B=s.B++cat f n 0:=by
 have:=afL F n D L step f b a c n 0 s (by omega) (by omega);rw[show toNat ((n:Int)-0)=n by omega];exact this
end Go.ah
namespace Go.Proofs.YtfmgjpcmcjjoiaaGreatDoor
open Go Go.RowKit Go.ah
def aA(x:Int):List Int:=(De x).B
def eV(x:z):List Int:=(zP x).B
def sX(x:Int):List Int:=[u8.wrap x]
theorem Fv(x:Int):(aA x).length=8:=by unfold aA;rw[dt,axH]
theorem aCi(x:z)(h:x.size≤10000000000):(eV x).length=x.size+1:=by unfold eV;rw[dt,axI x h]
theorem L9(x:Int):(sX x).length=1:=rfl
theorem s6{x:Int}(w:A Int)(a: -4611686018427387904≤x)(b:x<4611686018427387904):(bu x w).B=w.B++aA x:=aiM x w (by omega) (by omega)
theorem yB{x:z}(w:A Int)(h:x.size≤10000000000):(du x w).B=w.B++eV x:=aiN x h w
theorem yA(x:Int)(w:A Int):(di x w).B=w.B++sX x:=by unfold di;rw[oI,oJ];rfl
def ads:Go.Shelf.Ren:=⟨fun n=>bif n==4 then 145 else n,fun n=>bif n==22 then 83 else bif n==25 then 5 else n,fun x=>x⟩
theorem adr:Lays8.n4 Tryz.prog ads where
 mixed:=by kernel_rfl
 f4:=⟨Tryz.f145.name,by kernel_rfl,by kernel_rfl⟩
 t0:=Tryz.underlying0
 a0:=Tryz.isAgg0
 z0:=Tryz.sizeOf0
 v0:=Tryz.zeroValue0
 t3:=Tryz.underlying3
 a3:=Tryz.isAgg3
 z3:=Tryz.sizeOf3
 v3:=Tryz.zeroValue3
 t4:=Tryz.underlying4
 a4:=Tryz.isAgg4
 z4:=Tryz.sizeOf4
 v4:=Tryz.zeroValue4
 t9:=Tryz.underlying9
 a9:=Tryz.isAgg9
 z9:=Tryz.sizeOf9
 v9:=Tryz.zeroValue9
 t20:=Tryz.underlying20
 a20:=Tryz.isAgg20
 z20:=Tryz.sizeOf20
 v20:=Tryz.zeroValue20
 t22:=Tryz.underlying83
 a22:=Tryz.isAgg83
 z22:=Tryz.sizeOf83
 v22:=Tryz.zeroValue83
theorem ark(w:World)(F:Nat→Prop)(G:Nat)(C:Array Value)(T:TypeId)(f:Nat→List J)(a:C.size=G):
  ∃v,Ending.returned (.slice (some ⟨w.heap.size,0,none⟩) 0 G)= .returned v∧pR w.heap.size (w.drew.alloc (.cells C T)) F (.ae false 1 0 f) v∧Below w.heap.size w (w.drew.alloc (.cells C T)):=
 ⟨_,rfl,.inr ⟨w.heap.size,G,C,T,bx _,(q9.1 (rf w.drew (.cells C T))).1,rfl,cA _,cA _,rf w.drew _,by rw[a,Nat.mul_one],fun i j b=>absurd b (eH i)⟩,(Below.drew (Below.refl _ w)).alloc (bx _) _⟩
theorem azI(n:Int)(l:0≤n)(c:n≤549755813888):cY Tryz.prog 145 [.aE,b n] ((aB.ae a8).ab (L:A Int)):=by
 intro w F k s o;obtain⟨m,rfl⟩:=Gm l;have e:k=[.slice none 0 0,.int .i64 (m:Int)]:=by
  match k,o with
  |[a,r],⟨j,d,_⟩=>
   simp only[fi]at j d
   cases j;cases d;rfl
 subst e;rcases nL m with h|h
 ·subst h;refine Calls.mono (Any8.slices_Grow_room adr none 0 0 0 w (by omega) (by omega) (by omega) (by omega)) fun e ag ⟨c,g⟩=> ?_;subst g;exact⟨_,c,.inl ⟨rfl,rfl⟩,Below.refl _ _⟩
 ·obtain⟨i,f⟩: ∃i,Tryz.prog.info? 5=some i:=⟨_,rfl⟩;have u:i.size=1:=by
   have:(Tryz.prog.info? 5).map TypeInfo.size=some 1:=by kernel_rfl
   rw[f]at this;simpa using this
  have d:i.bytes=1:=by
   have:(Tryz.prog.info? 5).map TypeInfo.bytes=some 1:=by kernel_rfl
   rw[f]at this;simpa using this
  obtain⟨z,p,q⟩: ∃z,i.zero=some z∧z.cells.size=1:=by
   have:(Tryz.prog.info? 5).map TypeInfo.zero=some (some (.int .u8 0)):=by kernel_rfl
   rw[f]at this;exact⟨.int .u8 0,by simpa using this,rfl⟩
  refine Calls.mono (Any8.slices_Grow_grow adr i z f p (by omega) none 0 0 m [] w (by omega) (by omega) (by rw[d];omega) (by omega) (by simp) (fun _=>rfl) (fun a h=>by cases h)) fun e ag ⟨c,g⟩=> ?_;have t:0+m≤grownCap w (0+m) 0 5:=vc w _ _ _;rw[c,g];refine ark w _ _ _ _ _ ?_;simp only[vd,pH,size_zeroCells,q,hs];show _=grownCap w (0+m) 0 5;have:grownCap w (0+m) 0 (ads.t 25)=grownCap w (0+m) 0 5:=rfl;rw[this];omega
def ND:List J→Option (aS×J)
 |[.aE,.int .i64 n]=>some (.p (0≤n∧n≤549755813888),(aB.ae a8).ab (L:A Int))
 |_=>none
structure al4 where
 gY:List J→Option (aS×J)
def akz:al4:=⟨ND⟩
theorem avP:BV Tryz.prog 145 akz.gY:=⟨⟨_,_,Tryz.func145,rfl,by kernel_rfl⟩,fun a o r e b=>by
 show cY Tryz.prog 145 a r
 change ND a=some (o,r)at e
 unfold ND at e
 split at e
 ·cases e
  exact azI _ b.1 b.2
 ·cases e⟩
section
variable(d:Int)(g:Int)(u:A aI)(h:Int)(r:Int)
def Au:Bool:=(cond (decide (h<0)) true (cond (decide (h>1048576)) true (decide (r<0))))
def qw:A aI:=(cond ((cC d g u)!=0) (L:A aI) (cond (Au h r) (L:A aI) (cond ((ix d u h)!=0) (L:A aI) (A.part (A.part u (i64.wrap (h-d)) (u.n:Int)) 0 (eU (((toNat ((u.n:Int)- (i64.wrap (h-d)))):Nat):Int) r)))))
def aq9:Int:=(cond ((cC d g u)!=0) (cC d g u) (cond (Au h r) 2 (cond ((ix d u h)!=0) (ix d u h) 0)))
def alR:a6:=⟨[.g [a,a,.af c6],.v a,.v a],fun(d:Int) (g:Int) u (h:Int) (r:Int)=>⟨⟨some (h≤9223372036854775807∧ -9223372036854775808≤h∧r≤9223372036854775807∧ -9223372036854775808≤r),.c9 [aH 10 dU (qw d g u h r),b (aq9 d g u h r)]⟩⟩⟩
theorem awF:bg 95 alR:=bj Tryz.func95
 fun(d:Int) (g:Int) u p _ (h:Int) (r:Int) k=>bf ⟨.pure,[.tmp 6,.tmp 7],[(.t 0,.af c6),(.t 1,a)],⟨[U,U],[]⟩⟩ (.ad (.ad (.s (.j ⟨67109070,[],[(.t 26,y)],[],.f⟩ .z .z) .z))) (let f:=i64.wrap (h-d);let j:=toNat ((u.n:Int)-f);let b:=eU (j:Int) r;((cC d g u)!=0)=false→((Au h r)=false→((0≤d∧d≤1048576∧h≤9223372036854775807)∧(((ix d u h)!=0)=false→((((0:Int)≤f)∧((f:Int)≤(u.n:Int))∧(((u.n:Int):Int)≤(u.n:Int))∧(((u.n:Int):Int)≤(u.n:Int)))∧(((0:Int)≤0)∧((0:Int)≤b)∧((b:Int)≤b)∧((b:Int)≤(j:Int)))))))) (b4 (aw uM (aw KV (aw xN aT)))) Tryz.func95 (have⟨l,m,n,o⟩:=k;(fun c=>(fun e=>⟨(by have:=eS _ _ _ (bE c);have:=e;simp [Au]at this;have:=y2 d u h;omega),(fun i=>⟨(by have:=eS _ _ _ (bE c);have:=e;simp [Au]at this;have:=bE i;have:=y2 d u h;first|omega|(have:=N (h-d);omega)),(by have:=eS _ _ _ (bE c);have:=e;simp [Au]at this;have:=bE i;have:=y2 d u h;have:=lY (((toNat ((u.n:Int)- (i64.wrap (h-d)))):Nat):Int) r;first|omega|(have:=N (h-d);omega))⟩)⟩)))
end
section
variable(d:Int)(g:Int)(u:A aI)(h:Int)(r:Int)(o:A aI)
def uv:Bool:=(cond ((ix d u h)!=0) true ((o0 d g u h)!=r))
def cc:Int:=(cond (decide (h<d)) (i64.wrap (h+(eU (i64.wrap (d-h)) (o.n:Int)))) h)
def ds:A aI:=(cond (decide (h<d)) (A.part o (eU (i64.wrap (d-h)) (o.n:Int)) (o.n:Int)) o)
def mA:Bool:=(cond (decide (h<d)) (cond (decide ((i64.wrap (h+(eU (i64.wrap (d-h)) (o.n:Int))))<d)) false true) (cond (uv d g u h r) false true))
def lW(a:Int):Bool:=(cond (decide ((i64.wrap ((i64.wrap ((cc d h o)-d))+a))<(u.n:Int))) ((u.at' (toNat (i64.wrap ((i64.wrap ((cc d h o)-d))+a)))).j==((ds d h o).at' (toNat a)).j) false)
def j9(d:Int)(g:Int)(u:A aI)(h:Int)(o:A aI):Nat→Int→Bool×Int×Int×A aI×Bool×Int×Int
 |0,_=>default
 |k+1,a=>(cond (decide (a<((ds d h o).n:Int))) (cond (lW d u h o a) (j9 d g u h o k (i64.wrap (a+1))) (cond ((cC d g (A.app (A.part u 0 (i64.wrap ((i64.wrap ((cc d h o)-d))+a))) (A.part (ds d h o) a (((ds d h o).n:Nat):Int))))!=0) (true,0,0,(L:A aI),false,0,6) (true,d,g,(A.app (A.part u 0 (i64.wrap ((i64.wrap ((cc d h o)-d))+a))) (A.part (ds d h o) a (((ds d h o).n:Nat):Int))),true,(i64.wrap ((i64.wrap ((cc d h o)+a))+1)),0))) (false,default,default,default,default,default,default))
def qx:Bool×Int×Int×A aI×Bool×Int×Int:=j9 d g u h o ((toNat (((ds d h o).n:Int)-0))+1) 0
def o8:Bool:=(cond (qx d g u h o).1 false true)
def b6:Int:=(cond ((cC d g u)!=0) 0 (cond ((cC h r o)!=0) 0 (cond (mA d g u h r o) (cond (o8 d g u h o) d (qx d g u h o).2.1) d)))
def oi:Int:=(cond ((cC d g u)!=0) 0 (cond ((cC h r o)!=0) 0 (cond (mA d g u h r o) (cond (o8 d g u h o) g (qx d g u h o).2.2.1) g)))
def b2:A aI:=(cond ((cC d g u)!=0) (L:A aI) (cond ((cC h r o)!=0) (L:A aI) (cond (mA d g u h r o) (cond (o8 d g u h o) u (qx d g u h o).2.2.2.1) u)))
def gd:Bool:=(cond ((cC d g u)!=0) false (cond ((cC h r o)!=0) false (cond (mA d g u h r o) (cond (o8 d g u h o) true (qx d g u h o).2.2.2.2.1) (cond (decide (h<d)) true false))))
def c7:Int:=(cond ((cC d g u)!=0) 0 (cond ((cC h r o)!=0) 0 (cond (mA d g u h r o) (cond (o8 d g u h o) 0 (qx d g u h o).2.2.2.2.2.1) 0)))
def fc:Int:=(cond ((cC d g u)!=0) (cC d g u) (cond ((cC h r o)!=0) 10 (cond (mA d g u h r o) (cond (o8 d g u h o) 0 (qx d g u h o).2.2.2.2.2.2) 0)))
theorem f75(d g:Int)(u:A aI)(h r:Int)(o:A aI)(a:mA d g u h r o=true)(j:((0≤d∧d≤1048576)∧u.n≤200)∧(0≤h∧h≤1048576)∧o.n≤200):(d≤cc d h o∧cc d h o≤d+(u.n:Int))∧(ds d h o).n≤o.n:=by
 unfold mA at a;unfold cc ds
 by_cases c:h<d
 ·rw[bT c]at a ⊢;simp only[aN]at a ⊢;have k:=lY (i64.wrap (d-h)) (o.n:Int);rw[N (d-h)]at a k ⊢;generalize eU (d-h) (o.n:Int)=q at*
  rw[N (h+q)]at a ⊢;have i: ¬(h+q<d):=by
   intro e;rw[bT e]at a
   cases a
  refine⟨by omega,?_⟩;show toNat ((o.n:Int)-q)≤o.n;omega
 ·rw[bI c]at a ⊢;simp only[aQ]at a ⊢;have b:uv d g u h r=false:=by
   cases e:uv d g u h r with
   |false=>rfl
   |true=>rw[e]at a;cases a
  unfold uv at b;have f:ix d u h=0:=by
   cases e:(ix d u h !=0)with
   |true=>rw[e]at b;cases b
   |false=>exact bE e
  have:=y2 d u h ⟨f,by omega,by omega,by omega⟩;exact⟨this,bx _⟩
def alT:a6:=⟨[.g [a,a,.af c6],.v a,.v a,.v (.af c6)],fun d g u h r o=>⟨⟨none,.c9 [.agg [b (b6 d g u h r o),b (oi d g u h r o),aH 10 dU (b2 d g u h r o)],.bool (gd d g u h r o),b (c7 d g u h r o),b (fc d g u h r o)]⟩⟩⟩
theorem afg:bg 85 alT:=bj Tryz.func85
 fun(d:Int) (g:Int) u E _ (h:Int) (r:Int) o F _=>bf (ms:=[(.b .f (.b .f (.b .f .l))),(.b .f (.b .f (.b .f .l))),(.b .f (.b .f (.b .f .l))),.f,(.b .f (.b .f (.b .f .l))),(.b .f (.b .f (.b .f .l)))]) ⟨.pure,[.cell 8 43,.tmp 9,.tmp 10,.tmp 11],[(.c 0 0,a),(.c 0 1,a),(.c 0 2,.af c6),(.t 1,y),(.t 2,a),(.t 3,a)],⟨[.agg (us 3 []),U,U,U],[]⟩⟩ (.ad (.ad (.ad (.ad (.j ⟨3866,[],[(.t 1,a),(.t 3,.af c6)],[],.f⟩ (.ad (.ad (.ad (.j ⟨18889465931478580858650,[],[(.t 74,y)],[],.f⟩ .z .z)))) (.ad (.j ⟨3840,[],[],[],.f⟩ (.ad (.cy ⟨8462480737302404223012618,[.b 0],[],[(.t 82,a)],some 0,true,3840,[],[],fun k (s:Int)=>j9 d g u h o k s,.f,fun(s:Int)=>(0≤s∧s≤((ds d h o).n:Int)∧(i64.wrap ((i64.wrap ((cc d h o)-d))+s))≤(u.n:Int)),fun(s:Int)=>(toNat (((ds d h o).n:Int)-s)),none⟩ (.ad (.ad (.s (.ad (.s (.j ⟨81169251286937994249956602875658,[],[(.t 94,y),(.t 106,y)],[],.f⟩ .z .z) .z)) .z))))) .z))))))) (let t:=eU (i64.wrap (d-h)) (o.n:Int);let p:=i64.wrap ((cc d h o)-d);let c:=ds d h o;((cC d g u)!=0)=false→(((cC h r o)!=0)=false→((((decide (h<d))=true→(((0:Int)≤t)∧((t:Int)≤(o.n:Int))∧(((o.n:Int):Int)≤(o.n:Int))∧(((o.n:Int):Int)≤(o.n:Int))))∧((decide (h<d))=false→(0≤d∧d≤1048576∧h≤9223372036854775807)))∧((mA d g u h r o)=true→(((0≤(0:Int)∧(0:Int)≤(c.n:Int)∧(i64.wrap (p+(0:Int)))≤(u.n:Int)))∧(∀(b:Int),let x:=lW d u h o b;let w:=decide (b<(c.n:Int));let v:=toNat ((c.n:Int)-b);let m:=i64.wrap (b+1);let e:=i64.wrap (p+b);(0≤b∧b≤(c.n:Int)∧e≤(u.n:Int))→((w=true→(((0:Int)≤b∧b<(c.n:Int))∧(((decide (e<(u.n:Int)))=true→(((0:Int)≤e∧e<(u.n:Int))∧((toNat e)<u.n)))∧(x=false→(((e=e)∧((0:Int)≤0)∧((0:Int)≤e)∧((e:Int)≤e)∧((e:Int)≤(u.n:Int)))∧((((0:Int)≤b)∧((b:Int)≤(c.n:Int))∧(((c.n:Int):Int)≤(c.n:Int))∧(((c.n:Int):Int)≤(c.n:Int)))∧(0<v∧(toNat (e-0))+v≤549755813888)))))))∧(w=true→(x=true→((0≤m∧m≤(c.n:Int)∧(i64.wrap (p+m))≤(u.n:Int))∧(toNat ((c.n:Int)-m))<(toNat ((c.n:Int)-b)))))))))))) (b4 (aw uM (aw KV (aw xN aT)))) Tryz.func85 ((fun f=>(fun i=>⟨⟨(fun B=>(by have:=eS _ _ _ (bE f);have:=eS _ _ _ (bE i);have:=aq B;have:=lY (i64.wrap (d-h)) (o.n:Int);have:=N (d-h);omega)),(fun C=>(by have:=eS _ _ _ (bE f);have:=eS _ _ _ (bE i);omega))⟩,(fun j=>⟨(by have:=eS _ _ _ (bE f);have:=eS _ _ _ (bE i);have:=f75 _ _ _ _ _ _ j (by omega);have:=N ((cc d h o)-d);have:=N ((i64.wrap ((cc d h o)-d))+(0:Int));omega),(fun b D=>⟨(fun l=>⟨(by have:=aq l;omega),⟨(fun q=>⟨(by have:=eS _ _ _ (bE f);have:=eS _ _ _ (bE i);have:=f75 _ _ _ _ _ _ j (by omega);have:=aq q;have:=N ((cc d h o)-d);have:=N ((i64.wrap ((cc d h o)-d))+b);omega),(by have:=eS _ _ _ (bE f);have:=eS _ _ _ (bE i);have:=f75 _ _ _ _ _ _ j (by omega);have:=aq q;have:=N ((cc d h o)-d);have:=N ((i64.wrap ((cc d h o)-d))+b);omega)⟩),(fun n=>⟨(by have:=eS _ _ _ (bE f);have:=eS _ _ _ (bE i);have:=f75 _ _ _ _ _ _ j (by omega);have:=aq l;have:=n;simp [lW]at this;first|omega|(have:=N ((cc d h o)-d);have:=N ((i64.wrap ((cc d h o)-d))+b);omega)),⟨(by have:=eS _ _ _ (bE f);have:=eS _ _ _ (bE i);have:=f75 _ _ _ _ _ _ j (by omega);have:=aq l;have:=n;simp [lW]at this;first|omega|(have:=N ((cc d h o)-d);have:=N ((i64.wrap ((cc d h o)-d))+b);omega)),(by have:=eS _ _ _ (bE f);have:=eS _ _ _ (bE i);have:=f75 _ _ _ _ _ _ j (by omega);have:=aq l;have:=n;simp [lW]at this;first|omega|(have:=N ((cc d h o)-d);have:=N ((i64.wrap ((cc d h o)-d))+b);omega))⟩⟩)⟩⟩),(fun z=>(fun A=>(by have:=eS _ _ _ (bE f);have:=eS _ _ _ (bE i);have:=f75 _ _ _ _ _ _ j (by omega);have:=aq z;have:=A;(try simp [lW]at this);have:=N ((cc d h o)-d);have:=N (b+1);have:=N ((i64.wrap ((cc d h o)-d))+b);have:=N ((i64.wrap ((cc d h o)-d))+(i64.wrap (b+1)));omega)))⟩)⟩)⟩)))
end
def ak7:a6:=⟨[.v a],fun(d:Int)=>⟨⟨some (0≤d∧d<3),.agg [.bool (d==0),.bool (d==1),.bool (d==2)]⟩⟩⟩
theorem ae7:bg 70 ak7:=bj Tryz.func70
 fun(d:Int) a=>by
  have:d=0∨d=1∨d=2:=by omega
  rcases this with rfl|rfl|rfl
  ·exact bf ⟨.pure,[.cell 2 80],[(.c 0 0,y),(.c 0 1,y),(.c 0 2,y)],⟨[.agg (us 3 [])],[]⟩⟩ (.z) True e7 Tryz.func70 trivial
  ·exact bf ⟨.pure,[.cell 2 80],[(.c 0 0,y),(.c 0 1,y),(.c 0 2,y)],⟨[.agg (us 3 [])],[]⟩⟩ (.z) True e7 Tryz.func70 trivial
  ·exact bf ⟨.pure,[.cell 2 80],[(.c 0 0,y),(.c 0 1,y),(.c 0 2,y)],⟨[.agg (us 3 [])],[]⟩⟩ (.z) True e7 Tryz.func70 trivial
end Go.Proofs.YtfmgjpcmcjjoiaaGreatDoor
namespace Go.ah
open Go Go.Proofs Go.RowKit Go.Shelf
section
variable {P:Program} {ρ:Ren}
theorem nI{x:Int}(a:0≤x)(b:x≤18446744073709551615):u64.wrap x=x:=by
 have h:u64.wrap x=x%18446744073709551616:=by simp [IntKind.wrap,IntKind.bits,IntKind.signed]
 rw[h];omega
theorem nn(x:Int):x/2^(toNat 1)=x/2:=rfl
def A.ins{α:Type}(s:A α)(i:Nat)(x:α):A α:=⟨s.n+1,fun t=>bif Nat.blt t i then s.at' t else bif Nat.beq t i then x else s.at' (t-1)⟩
def A.del{α:Type}(s:A α)(i j:Nat):A α:=⟨s.n- (j-i),fun t=>bif Nat.blt t i then s.at' t else s.at' (t+(j-i))⟩
def E4(E:cF):b5:=⟨[.o 0,.v (.int .i64),.o 1],[(.h 0 0,.ae E),(.h 1 0,.ae E)],[[.undef],[.undef]],
 fun(g:Int) (d u:A E.T)=>⟨⟨some (0≤g∧g≤(d.n:Int)∧d.n+1≤549755813888∧u.n=1),[.own 0 (d.n+1)],[[(aB.ae E).ab (A.ins d (toNat g) (u.at' 0))],[(aB.ae E).ab u]]⟩⟩⟩
def vF(E:cF):b5:=⟨[.o 0,.v (.int .i64),.v (.int .i64)],[(.h 0 0,.ae E)],[[.undef]],
 fun(g u:Int) (d:A E.T)=>⟨⟨some (0≤g∧g<u∧u≤(d.n:Int)),[.own 1 (d.n- (toNat u-toNat g))],[[dn],[(aB.ae E).ab (A.del d (toNat g) (toNat u))]]⟩⟩⟩
theorem KO{E:cF}{bytes:Nat}{z:Value}(L:pN P ρ E.M bytes z)(k:lC P (ρ.f 22))(l:0<E.M)(j:bytes≤255)(n: ∀m,(Builtin.zeroCells z.cells m).size=m*E.M):jc P (ρ.f 22) (E4 E).gY:=
 b5.ok k rfl fun(g:Int) (d:A E.T) _ (u:A E.T) _ (a:0≤g∧g≤(d.n:Int)∧d.n+1≤549755813888∧u.n=1)=>by
  have o: ∀(i m:Nat),g=(i:Int)→u.n=m→m=1→fj P (ρ.f 22) [.own 0 d.n,.int .i64 g,.own 1 u.n] [[.ae false E.M d.n fun t=>E.e (d.at' t)],[.ae false E.M u.n fun t=>E.e (u.at' t)]] [.own 0 (d.n+1)]
    [[.ae false E.M (d.n+1) fun t=>E.e ((A.ins d (toNat g) (u.at' 0)).at' t)],[.ae false E.M u.n fun t=>E.e (u.at' t)]]:=by
   intro i m b c f;rw[c,f,b];have h:=aud L l j n d.n i (fun t=>E.e (d.at' t)) (fun t=>E.e (u.at' t)) (by omega) a.2.2.1;have e:kI (fun t=>E.e (d.at' t)) i (fun t=>E.e (u.at' t))=fun t=>E.e ((A.ins d i (u.at' 0)).at' t):=by
    funext t
    unfold kI A.ins;simp only
    cases Nat.blt t i with
    |true=>rfl
    |false=>cases Nat.beq t i<;>rfl
   rw[e]at h;rw[fT];exact h
  exact o g.toNat u.n (by omega) rfl a.2.2.2
theorem zc{f:FuncId}{E:cF}{z:Value}(k:MA P f E.M z)(c:lC P f)(l: ∀m,(Builtin.zeroCells z.cells m).toList.length=m*E.M∧ ∀v∈(Builtin.zeroCells z.cells m).toList,v.oneCell'=true):jc P f (vF E).gY:=
 b5.ok c rfl fun(g:Int) (u:Int) (d:A E.T) _ (o:0≤g∧g<u∧u≤(d.n:Int))=>by
  have n: ∀(i j:Nat),g=(i:Int)→u=(j:Int)→fj P f [.own 0 d.n,.int .i64 g,.int .i64 u] [[.ae false E.M d.n fun t=>E.e (d.at' t)]] [.own 1 (d.n- (toNat u-toNat g))]
    [[dn],[.ae false E.M (d.n- (toNat u-toNat g)) fun t=>E.e ((A.del d (toNat g) (toNat u)).at' t)]]:=by
   intro i j a b;rw[a,b,fT,fT];have h:=an5 k l d.n i j (fun t=>E.e (d.at' t)) (by omega) (by omega);have e:vE (fun t=>E.e (d.at' t)) i j=fun t=>E.e ((A.del d i j).at' t):=by
    funext t
    unfold vE A.del;simp only
    cases Nat.blt t i<;>rfl
   rw[e]at h;exact h
  exact n g.toNat u.toNat (by omega) (by omega)
theorem s0{P:Program}{T:TypeId}{z:Value}{k b:Nat}(h:(P.info? T).map (fun i=>(i.zero,i.size,i.bytes))=some (some z,k,b))(w:World):(Go.sizeOf T).run P w= .ok k w:=by
 obtain⟨i,a,_,c,_⟩:=info_parts h;simp [sizeOf,typeInfo,a,c]
theorem aDM{P:Program}{T:TypeId}{z:Value}{k b:Nat}(h:(P.info? T).map (fun i=>(i.zero,i.size,i.bytes))=some (some z,k,b))(w:World):(zeroValue T).run P w= .ok z w:=by
 obtain⟨i,a,c,_,_⟩:=info_parts h;simp [zeroValue,typeInfo,a,c]
theorem q8{z:Value}{k:Nat}(f:z.cells.size=k)(d:z.cells.all (fun v=>v.oneCell')=true)(m:Nat):(Builtin.zeroCells z.cells m).toList.length=m*k∧ ∀v∈(Builtin.zeroCells z.cells m).toList,v.oneCell'=true:=by
 subst f;refine⟨by simp [Builtin.zeroCells],fun v c=> ?_⟩;simp only[Builtin.zeroCells,Array.toList_map,pJ,Array.mem_toList_iff,Array.mem_range]at c;obtain⟨i,a,rfl⟩:=c;have g:0<z.cells.size:=by
  rcases nL z.cells.size with e|e
  ·rw[e]at a;simp at a
  ·exact e
 have b:=Nat.mod_lt i g;rw[getElem!_pos z.cells _ b];exact Array.all_eq_true.1 d _ b
theorem zb{k b:Nat}{z:Value}(mixed:P.follows .mixedOrders=true)(F:Bears P (ρ.f 45) (SlBodyN.n45 ρ))(y:P.underlying (ρ.t 22)=some (TypeDesc.slice (ρ.t 23)))(h:(P.info? (ρ.t 23)).map (fun i=>(i.zero,i.size,i.bytes))=some (some z,k,b)):MA P (ρ.f 45) k z:=by
 obtain⟨v,t,B,u,_⟩:=info_parts h;intro r s n i j w x A a e f g l m o p q c d;exact an6 k mixed F y (s0 h) z (aDM h) v t u r s n i j w x A a e f g l m o p q c d
end
end Go.ah
namespace Go.Proofs.YtfmgjpcmcjjoiaaGreatDoor
open Go Go.Proofs Go.RowKit Go.Shelf Go.ah
def KN(f a rot T E:Nat):Ren:=⟨fun n=>match n with
 |22=>f
 |29=>a
 |30=>rot
 |n=>n,fun n=>match n with
 |24=>T
 |9=>E
 |n=>n,fun n=>n⟩
def za(f T E:Nat):Ren:=⟨fun n=>match n with
 |45=>f
 |n=>n,fun n=>match n with
 |22=>T
 |23=>E
 |n=>n,fun n=>n⟩
theorem at4:pN Tryz.prog (KN 213 223 224 122 130) 2 32 (.agg #[.string ⟨#[]⟩,.string ⟨#[]⟩]):=
 have a:(Tryz.prog.info? 130).map (fun i=>(i.zero,i.size,i.bytes))=some (some ((.agg #[.string ⟨#[]⟩,.string ⟨#[]⟩]):Value),2,32):=by kernel_rfl
 ⟨mixed,⟨ "slices.Insert[[]rostrum/api.Pair,rostrum/api.Pair]",by kernel_rfl,by kernel_rfl⟩,by kernel_rfl,by kernel_rfl,s0 a,a,fun w dN b o m r n c p q l y d f g h j k=>by
  show(callFunc 223 _).run Tryz.prog w=_;rw[run_callFunc_extern Tryz.func223 (by kernel_rfl) (by kernel_rfl) (by kernel_rfl) (e:=Extern.SlicesOverlaps.overlaps #[122,122] #[4]) (by kernel_rfl),Lib.run_overlaps_apart w 122 4 130 (by kernel_rfl) 2 (s0 a) ⟨dN,0,none⟩ ⟨b,o,none⟩ m r n c d p q l y f g h j k];rfl⟩
abbrev akN:b5:=E4 cX
theorem avZ:jc Tryz.prog 213 akN.gY:=KO (E:=cX) at4 ⟨_,_,Tryz.func213,rfl,by kernel_rfl⟩ (by decide) (by omega) fun m=>Array.length_toList.symm.trans (q8 (k:=2) (z:=(.agg #[.string ⟨#[]⟩,.string ⟨#[]⟩])) rfl (by kernel_rfl) m).1
theorem at5:pN Tryz.prog (KN 216 225 226 97 9) 1 16 (.string ⟨#[]⟩):=
 have a:(Tryz.prog.info? 9).map (fun i=>(i.zero,i.size,i.bytes))=some (some ((.string ⟨#[]⟩):Value),1,16):=by kernel_rfl
 ⟨mixed,⟨ "slices.Insert[[]string,string]",by kernel_rfl,by kernel_rfl⟩,by kernel_rfl,by kernel_rfl,s0 a,a,fun w dN b o m r n c p q l y d f g h j k=>by
  show(callFunc 225 _).run Tryz.prog w=_;rw[run_callFunc_extern Tryz.func225 (by kernel_rfl) (by kernel_rfl) (by kernel_rfl) (e:=Extern.SlicesOverlaps.overlaps #[97,97] #[4]) (by kernel_rfl),Lib.run_overlaps_apart w 97 4 9 (by kernel_rfl) 1 (s0 a) ⟨dN,0,none⟩ ⟨b,o,none⟩ m r n c d p q l y f g h j k];rfl⟩
abbrev akQ:b5:=E4 bL
theorem aeY:jc Tryz.prog 216 akQ.gY:=KO (E:=bL) at5 ⟨_,_,Tryz.func216,rfl,by kernel_rfl⟩ (by decide) (by omega) fun m=>Array.length_toList.symm.trans (q8 (k:=1) (z:=(.string ⟨#[]⟩)) rfl (by kernel_rfl) m).1
theorem at6:pN Tryz.prog (KN 221 229 230 123 133) 2 24 (.agg #[.string ⟨#[]⟩,.int .i64 0]):=
 have a:(Tryz.prog.info? 133).map (fun i=>(i.zero,i.size,i.bytes))=some (some ((.agg #[.string ⟨#[]⟩,.int .i64 0]):Value),2,24):=by kernel_rfl
 ⟨mixed,⟨ "slices.Insert[[]rostrum/api.Score,rostrum/api.Score]",by kernel_rfl,by kernel_rfl⟩,by kernel_rfl,by kernel_rfl,s0 a,a,fun w dN b o m r n c p q l y d f g h j k=>by
  show(callFunc 229 _).run Tryz.prog w=_;rw[run_callFunc_extern Tryz.func229 (by kernel_rfl) (by kernel_rfl) (by kernel_rfl) (e:=Extern.SlicesOverlaps.overlaps #[123,123] #[4]) (by kernel_rfl),Lib.run_overlaps_apart w 123 4 133 (by kernel_rfl) 2 (s0 a) ⟨dN,0,none⟩ ⟨b,o,none⟩ m r n c d p q l y f g h j k];rfl⟩
abbrev akV:b5:=E4 cO
theorem av5:jc Tryz.prog 221 akV.gY:=KO (E:=cO) at6 ⟨_,_,Tryz.func221,rfl,by kernel_rfl⟩ (by decide) (by omega) fun m=>Array.length_toList.symm.trans (q8 (k:=2) (z:=(.agg #[.string ⟨#[]⟩,.int .i64 0])) rfl (by kernel_rfl) m).1
abbrev akO:b5:=vF cX
theorem av0:jc Tryz.prog 214 akO.gY:=zc (E:=cX) (z:=(.agg #[.string ⟨#[]⟩,.string ⟨#[]⟩])) (zb (ρ:=za 214 122 130) (b:=32) mixed ⟨ "slices.Delete[[]rostrum/api.Pair,rostrum/api.Pair]",by kernel_rfl,by kernel_rfl⟩ (by kernel_rfl) (by kernel_rfl)) ⟨_,_,Tryz.func214,rfl,by kernel_rfl⟩ (q8 rfl (by kernel_rfl))
abbrev akS:b5:=vF bL
theorem av2:jc Tryz.prog 218 akS.gY:=zc (E:=bL) (z:=(.string ⟨#[]⟩)) (zb (ρ:=za 218 97 9) (b:=16) mixed ⟨ "slices.Delete[[]string,string]",by kernel_rfl,by kernel_rfl⟩ (by kernel_rfl) (by kernel_rfl)) ⟨_,_,Tryz.func218,rfl,by kernel_rfl⟩ (q8 rfl (by kernel_rfl))
abbrev akT:b5:=vF cO
theorem av3:jc Tryz.prog 219 akT.gY:=zc (E:=cO) (z:=(.agg #[.string ⟨#[]⟩,.int .i64 0])) (zb (ρ:=za 219 123 133) (b:=24) mixed ⟨ "slices.Delete[[]rostrum/api.Score,rostrum/api.Score]",by kernel_rfl,by kernel_rfl⟩ (by kernel_rfl) (by kernel_rfl)) ⟨_,_,Tryz.func219,rfl,by kernel_rfl⟩ (q8 rfl (by kernel_rfl))
theorem at3:pN Tryz.prog (KN 193 208 209 44 127) 8 128 (.agg #[.string ⟨#[]⟩,.int .i64 0,.string ⟨#[]⟩,.int .i64 0,.slice none 0 0,.slice none 0 0,.slice none 0 0,.int .i64 0]):=
 have a:(Tryz.prog.info? 127).map (fun i=>(i.zero,i.size,i.bytes))=some (some ((.agg #[.string ⟨#[]⟩,.int .i64 0,.string ⟨#[]⟩,.int .i64 0,.slice none 0 0,.slice none 0 0,.slice none 0 0,.int .i64 0]):Value),8,128):=by kernel_rfl
 ⟨mixed,⟨ "slices.Insert[[]rostrum/api.Entry,rostrum/api.Entry]",by kernel_rfl,by kernel_rfl⟩,by kernel_rfl,by kernel_rfl,s0 a,a,fun w dN b o m r n c p q l y d f g h j k=>by
  show(callFunc 208 _).run Tryz.prog w=_;rw[run_callFunc_extern Tryz.func208 (by kernel_rfl) (by kernel_rfl) (by kernel_rfl) (e:=Extern.SlicesOverlaps.overlaps #[44,44] #[4]) (by kernel_rfl),Lib.run_overlaps_apart w 44 4 127 (by kernel_rfl) 8 (s0 a) ⟨dN,0,none⟩ ⟨b,o,none⟩ m r n c d p q l y f g h j k];rfl⟩
abbrev ajk:b5:=E4 a_
theorem au1:jc Tryz.prog 193 ajk.gY:=KO (E:=a_) at3 ⟨_,_,Tryz.func193,rfl,by kernel_rfl⟩ (by decide) (by omega) fun m=>Array.length_toList.symm.trans (q8 (k:=8) (z:=(.agg #[.string ⟨#[]⟩,.int .i64 0,.string ⟨#[]⟩,.int .i64 0,.slice none 0 0,.slice none 0 0,.slice none 0 0,.int .i64 0])) rfl (by kernel_rfl) m).1
abbrev ajj:b5:=vF a_
theorem au0:jc Tryz.prog 187 ajj.gY:=zc (E:=a_) (z:=(.agg #[.string ⟨#[]⟩,.int .i64 0,.string ⟨#[]⟩,.int .i64 0,.slice none 0 0,.slice none 0 0,.slice none 0 0,.int .i64 0])) (zb (ρ:=za 187 44 127) (b:=128) mixed ⟨ "slices.Delete[[]rostrum/api.Entry,rostrum/api.Entry]",by kernel_rfl,by kernel_rfl⟩ (by kernel_rfl) (by kernel_rfl)) ⟨_,_,Tryz.func187,rfl,by kernel_rfl⟩ (q8 rfl (by kernel_rfl))
end Go.Proofs.YtfmgjpcmcjjoiaaGreatDoor
namespace Go.Proofs.YtfmgjpcmcjjoiaaGreatDoor
open Go Go.RowKit Go.ah
section
variable(d:Int)
def aaE:Bool:=(cond (d==4) (d==4) (cond (d==5) (d==5) (d==6)))
def aaF:Bool:=(cond (d==7) (d==7) (cond (d==8) (d==8) (cond (d==9) (d==9) (d==10))))
def aaG:Bool:=(cond (d==11) (d==11) (cond (d==12) (d==12) (d==13)))
def aaH:Bool:=(cond (d==14) (d==14) (cond (d==15) (d==15) (d==16)))
def zN:Int:=(cond (d==2) 1 (cond (d==3) 2 (cond (aaE d) 3 (cond (aaF d) 4 (cond (aaG d) 5 (cond (aaH d) 6 0))))))
def aj9:a6:=⟨[.v a],fun d=>⟨⟨none,b (zN d)⟩⟩⟩
theorem avr:bg 189 aj9:=bj Tryz.func189
 fun(d:Int)=>bf ⟨.pure,[.tmp 2],[(.t 0,a)],⟨[U],[]⟩⟩ (.ad (.s (.ad (.ad (.ad (.ad (.ad (.j ⟨268,[],[(.t 8,y)],[],.f⟩ .z (.ad (.j ⟨4108,[],[(.t 12,y)],[],.f⟩ .z (.ad (.j ⟨131084,[],[(.t 17,y)],[],.f⟩ .z (.ad (.j ⟨2097156,[],[(.t 21,y)],[],.f⟩ .z .z)))))))))))) .z)) True e7 Tryz.func189 (trivial)
def aaI:Bool:=(cond (d==1) (d==1) (cond (d==3) (d==3) (cond (d==4) (d==4) (cond (d==7) (d==7) (cond (d==8) (d==8) (cond (d==11) (d==11) (d==14)))))))
def zO:Bool:=(cond (aaI d) true false)
def aj_:a6:=⟨[.v a],fun d=>⟨⟨none,.bool (zO d)⟩⟩⟩
theorem avs:bg 190 aj_:=bj Tryz.func190
 fun(d:Int)=>bf ⟨.pure,[.tmp 2],[(.t 0,y)],⟨[U],[]⟩⟩ (.ad (.s (.ad (.j ⟨20,[],[(.t 4,y)],[],.f⟩ .z .z)) .z)) True e7 Tryz.func190 (trivial)
def qa:Int:=d
def r1:z:=⟨#[]⟩
def r2:Int:=0
def r3:A z:=(L:A z)
def aka:a6:=⟨[.v a],fun d=>⟨⟨none,.agg [b (qa d),.str r1,b r2,aH 1 cK r3]⟩⟩⟩
theorem AR:bg 191 aka:=bj Tryz.func191
 fun(d:Int)=>bf ⟨.pure,[.cell 2 99],[(.c 0 0,a),(.c 0 1,au),(.c 0 2,a),(.c 0 3,.af bL)],⟨[.agg (us 4 [])],[]⟩⟩ (.z) True e7 Tryz.func191 (trivial)
def n6:Int:=0
def n7:z:=⟨#[]⟩
def mn:Int:=d
def n8:A z:=(L:A z)
def akD:a6:=⟨[.v a],fun d=>⟨⟨none,.agg [b n6,.str n7,b (mn d),aH 1 cK n8]⟩⟩⟩
theorem Fa:bg 202 akD:=bj Tryz.func202
 fun(d:Int)=>bf ⟨.pure,[.cell 2 99],[(.c 0 0,a),(.c 0 1,au),(.c 0 2,a),(.c 0 3,.af bL)],⟨[.agg (us 4 [])],[]⟩⟩ (.z) True e7 Tryz.func202 (trivial)
def Ds(d:Bool):Int:=(cond d 1 0)
def akP:a6:=⟨[.v y],fun d=>⟨⟨none,b (Ds d)⟩⟩⟩
theorem S6:bg 215 akP:=bj Tryz.func215
 fun d=>bf ⟨.pure,[.tmp 2],[(.t 0,a)],⟨[U],[]⟩⟩ (.z) True e7 Tryz.func215 (trivial)
end
end Go.Proofs.YtfmgjpcmcjjoiaaGreatDoor
namespace Go.ah
open Go
def mU(p:Nat→Bool):Nat→Int→Int→Int
 |0,_,_=>default
 |k+1,i,j=>bif decide (i<j)then(bif p (toNat (i64.wrap ((u64.wrap (i64.wrap (i+j)))/2^(toNat 1))))then mU p k (i64.wrap ((i64.wrap ((u64.wrap (i64.wrap (i+j)))/2^(toNat 1)))+1)) j
   else mU p k i (i64.wrap ((u64.wrap (i64.wrap (i+j)))/2^(toNat 1))))else i
theorem am6{i j:Int}(a:0≤i)(b:i<j)(c:j≤549755813888):(i64.wrap ((u64.wrap (i64.wrap (i+j)))/2^(toNat 1)))=(i+j)/2∧i≤(i+j)/2∧(i+j)/2<j:=by
 rw[N (i+j),nI (x:=i+j) (by omega) (by omega),nn,N _];omega
theorem yX{p:Nat→Bool}{n:Int}(c:n≤549755813888): ∀(k:Nat) (i j:Int),0≤i→i≤j→j≤n→0≤mU p k i j∧mU p k i j≤n
 |0,_,_,a,d,b=>⟨dp _,by show(0:Int)≤n;omega⟩
 |k+1,i,j,a,d,b=>by
  simp only[mU]
  by_cases h:i<j
  ·obtain⟨e,f,g⟩:=am6 a h (by omega);simp only[h,vb,aN,e]
   cases p (toNat ((i+j)/2))with
   |true=>
    simp only[aN];rw[N _];exact yX c k _ _ (by omega) (by omega) b
   |false=>
    simp only[aQ];exact yX c k _ _ a (by omega) (by omega)
  ·simp only[h,yC,aQ];omega
end Go.ah
