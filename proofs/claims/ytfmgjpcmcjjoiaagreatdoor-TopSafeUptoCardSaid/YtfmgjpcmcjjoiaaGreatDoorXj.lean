import Derived.Test.YtfmgjpcmcjjoiaaGreatDoorXi
import Derived.Shelf.Spec.SlicesGrow
open Go.IntKind (i64 u64 u8)
open Int (toNat)
set_option maxRecDepth 100000
set_option maxHeartbeats 4000000
set_option linter.all false
noncomputable section
namespace Go.Proofs.YtfmgjpcmcjjoiaaGreatDoor
open Go Go.RowKit Go.af
section
def ue(A:u)(g:u):Int:=(z1 A g)
def ajm:ba:=⟨[.v ai,.v ai],fun A g=>⟨⟨none,b (ue A g)⟩⟩⟩
theorem LI:bn 182 ajm:=bq Tryz.func182
 fun A _ g _=>bu ⟨.pure,[.tmp 4],[(.t 0,a)],⟨[U],[]⟩⟩ (.z) True (cu (aG auM aT)) Tryz.func182 (trivial)
def r0(A:u)(r:u):Int:=(ue A r)
def aji:ba:=⟨[.g [ai,ai],.g [ai,ai]],fun A _ r _=>⟨⟨none,b (r0 A r)⟩⟩⟩
theorem aef:bn 178 aji:=bq Tryz.func178
 fun A _ g _ r _ h _=>bu ⟨.pure,[.tmp 4],[(.t 0,a)],⟨[U],[]⟩⟩ (.z) True (cu (aG LI aT)) Tryz.func178 (trivial)
def DF(A:G bl):Nat→Int→Bool×Bool
 |0,_=>default
 |k+1,e=>(cond (decide (e<(A.n:Int))) (cond (decide ((r0 (A.at' (toNat (i64.wrap (e-1)))).q (A.at' (toNat e)).q)≥0)) (true,false) (DF A k (i64.wrap (e+1)))) (false,default))
def DG(A:G bl):Bool×Bool:=DF A ((toNat ((A.n:Int)-1))+1) 1
def aaN(A:G bl):Bool:=(cond (DG A).1 false true)
def DE(A:G bl):Bool:=(cond (aaN A) true (DG A).2)
def ajh:ba:=⟨[.v (.ab c5),.fn 178 []],fun A=>⟨⟨none,.bool (DE A)⟩⟩⟩
theorem auj:bn 177 ajh:=bq Tryz.func177
 fun A j _=>bu ⟨.pure,[.tmp 4],[(.t 0,l)],⟨[U],[]⟩⟩ (.ae (.j ⟨16,[],[],[],.f⟩ (.ae (.cW ⟨51,[],[],[(.t 5,a)],some 0,true,16,[],[],fun k (s:Int)=>DF A k s,.f,fun(s:Int)=>(1≤s∧(s≤(A.n:Int)∨s=1)),fun(s:Int)=>(toNat ((A.n:Int)-s)),none⟩ .z)) .z)) (((1≤(1:Int)∧((1:Int)≤(A.n:Int)∨(1:Int)=1)))∧(∀(e:Int),let f:=decide (e<(A.n:Int));let c:=i64.wrap (e-1);let b:=i64.wrap (e+1);(1≤e∧(e≤(A.n:Int)∨e=1))→((f=true→((0≤c∧c<(A.n:Int))∧(0≤e∧e<(A.n:Int))))∧(f=true→((decide ((r0 (A.at' (toNat c)).q (A.at' (toNat e)).q)≥0))=false→((1≤b∧(b≤(A.n:Int)∨b=1))∧(toNat ((A.n:Int)-b))<(toNat ((A.n:Int)-e)))))))) (cu (aG aef aT)) Tryz.func177 (⟨(by omega),(fun e i=>⟨(fun d=>⟨(by have:=al d;have:=E (e-1);omega),(by have:=al d;omega)⟩),(fun g=>(fun h=>(by have:=al g;have:=E (e+1);omega)))⟩)⟩)
def RA(A:G Int):Nat→Int→Bool×Int
 |0,_=>default
 |k+1,e=>let a:=A.at' (toNat e);(cond (decide (e<(A.n:Int))) (cond (a !=0) (true,a) (RA A k (i64.wrap (e+1)))) (false,default))
def abd(A:G Int):Bool×Int:=RA A ((toNat ((A.n:Int)-0))+1) 0
def apg(A:G Int):Bool:=(cond (abd A).1 false true)
def abc(A:G Int):Int:=(cond (apg A) 0 (abd A).2)
def aj0:ba:=⟨[.v (.ab Xq)],fun A=>⟨⟨none,b (abc A)⟩⟩⟩
theorem auK:bn 198 aj0:=bq Tryz.func198
 fun A i _=>bu ⟨.pure,[.tmp 2],[(.t 0,a)],⟨[U],[]⟩⟩ (.ae (.ae (.j ⟨12,[],[],[],.f⟩ (.ae (.cW ⟨460,[],[],[(.t 8,a)],some 0,true,12,[],[],fun k (s:Int)=>RA A k s,.f,fun(s:Int)=>(0≤s∧s≤(A.n:Int)),fun(s:Int)=>(toNat ((A.n:Int)-s)),none⟩ .z)) .z))) (((0≤(0:Int)∧(0:Int)≤(A.n:Int)))∧(∀(e:Int),let c:=decide (e<(A.n:Int));let b:=i64.wrap (e+1);(0≤e∧e≤(A.n:Int))→((c=true→(0≤e∧e<(A.n:Int)))∧(c=true→(((A.at' (toNat e))!=0)=false→((0≤b∧b≤(A.n:Int))∧(toNat ((A.n:Int)-b))<(toNat ((A.n:Int)-e)))))))) fb Tryz.func198 (⟨(by omega),(fun e h=>⟨(fun d=>(by have:=al d;omega)),(fun f=>(fun g=>(by have:=al f;have:=E (e+1);omega)))⟩)⟩)
def Jn(A:Int):Bool:=(A !=A)
def akq:ba:=⟨[.v a],fun A=>⟨⟨none,.bool (Jn A)⟩⟩⟩
theorem au5:bn 210 akq:=bq Tryz.func210
 fun(A:Int)=>bu ⟨.pure,[.tmp 2],[(.t 0,l)],⟨[U],[]⟩⟩ (.z) True fb Tryz.func210 (trivial)
def abe(A:Int)(g:Int):Int:=(cond (Jn A) (cond (Jn g) 0 (-1)) (cond (Jn g) 1 (cond (decide (A<g)) (-1) (cond (decide (A>g)) 1 0))))
def aj1:ba:=⟨[.v a,.v a],fun A g=>⟨⟨none,b (abe A g)⟩⟩⟩
theorem auL:bn 199 aj1:=bq Tryz.func199
 fun(A:Int) (g:Int)=>bu ⟨.pure,[.tmp 4],[(.t 0,a)],⟨[U],[]⟩⟩ (.z) True (cu (aG au5 aT)) Tryz.func199 (trivial)
def r1(A:u)(g:Int)(r:u)(h:Int):Int:=(abc (G.lit ([(abe g h),(ue A r)]:List Int)))
def ajk:ba:=⟨[.g [ai,a],.g [ai,a]],fun A g r h=>⟨⟨none,b (r1 A g r h)⟩⟩⟩
theorem aeg:bn 180 ajk:=bq Tryz.func180
 fun A _ (g:Int) r _ (h:Int)=>bu ⟨.pure,[.tmp 4],[(.t 0,a)],⟨[U],[]⟩⟩ (.z) True (cu (aG LI (aG auK (aG auL aT)))) Tryz.func180 (trivial)
def DI(A:G bH):Nat→Int→Bool×Bool
 |0,_=>default
 |k+1,e=>(cond (decide (e<(A.n:Int))) (cond (decide ((r1 (A.at' (toNat (i64.wrap (e-1)))).q (A.at' (toNat (i64.wrap (e-1)))).C (A.at' (toNat e)).q (A.at' (toNat e)).C)≥0)) (true,false) (DI A k (i64.wrap (e+1)))) (false,default))
variable(A:G bH)(g:u)(r:Int)(h:G bl)(o:G u)(c:G bH)
def DJ:Bool×Bool:=DI A ((toNat ((A.n:Int)-1))+1) 1
def aaO:Bool:=(cond (DJ A).1 false true)
def DH:Bool:=(cond (aaO A) true (DJ A).2)
def ajj:ba:=⟨[.v (.ab cS),.fn 180 []],fun A=>⟨⟨none,.bool (DH A)⟩⟩⟩
theorem auk:bn 179 ajj:=bq Tryz.func179
 fun A m _=>bu ⟨.pure,[.tmp 4],[(.t 0,l)],⟨[U],[]⟩⟩ (.ae (.j ⟨16,[],[],[],.f⟩ (.ae (.cW ⟨51,[],[],[(.t 5,a)],some 0,true,16,[],[],fun k (s:Int)=>DI A k s,.f,fun(s:Int)=>(1≤s∧(s≤(A.n:Int)∨s=1)),fun(s:Int)=>(toNat ((A.n:Int)-s)),none⟩ .z)) .z)) (((1≤(1:Int)∧((1:Int)≤(A.n:Int)∨(1:Int)=1)))∧(∀(e:Int),let g:=A.at' (toNat e);let f:=decide (e<(A.n:Int));let c:=i64.wrap (e+1);let b:=i64.wrap (e-1);(1≤e∧(e≤(A.n:Int)∨e=1))→((f=true→((0≤b∧b<(A.n:Int))∧(0≤e∧e<(A.n:Int))))∧(f=true→((decide ((r1 (A.at' (toNat b)).q (A.at' (toNat b)).C g.q g.C)≥0))=false→((1≤c∧(c≤(A.n:Int)∨c=1))∧(toNat ((A.n:Int)-c))<(toNat ((A.n:Int)-e)))))))) (cu (aG aeg aT)) Tryz.func179 (⟨(by omega),(fun e j=>⟨(fun d=>⟨(by have:=al d;have:=E (e-1);omega),(by have:=al d;omega)⟩),(fun h=>(fun i=>(by have:=al h;have:=E (e+1);omega)))⟩)⟩)
def DL(A:G u):Nat→Int→Bool×Bool
 |0,_=>default
 |k+1,e=>(cond (decide (e<(A.n:Int))) (cond (decide ((ue (A.at' (toNat (i64.wrap (e-1)))) (A.at' (toNat e)))≥0)) (true,false) (DL A k (i64.wrap (e+1)))) (false,default))
def DM(A:G u):Bool×Bool:=DL A ((toNat ((A.n:Int)-1))+1) 1
def aaP(A:G u):Bool:=(cond (DM A).1 false true)
def DK(A:G u):Bool:=(cond (aaP A) true (DM A).2)
def ajl:ba:=⟨[.v (.ab bK),.fn 182 []],fun A=>⟨⟨none,.bool (DK A)⟩⟩⟩
theorem aul:bn 181 ajl:=bq Tryz.func181
 fun A j _=>bu ⟨.pure,[.tmp 4],[(.t 0,l)],⟨[U],[]⟩⟩ (.ae (.j ⟨16,[],[],[],.f⟩ (.ae (.cW ⟨51,[],[],[(.t 5,a)],some 0,true,16,[],[],fun k (s:Int)=>DL A k s,.f,fun(s:Int)=>(1≤s∧(s≤(A.n:Int)∨s=1)),fun(s:Int)=>(toNat ((A.n:Int)-s)),none⟩ .z)) .z)) (((1≤(1:Int)∧((1:Int)≤(A.n:Int)∨(1:Int)=1)))∧(∀(e:Int),let f:=decide (e<(A.n:Int));let c:=i64.wrap (e-1);let b:=i64.wrap (e+1);(1≤e∧(e≤(A.n:Int)∨e=1))→((f=true→((0≤c∧c<(A.n:Int))∧(0≤e∧e<(A.n:Int))))∧(f=true→((decide ((ue (A.at' (toNat c)) (A.at' (toNat e)))≥0))=false→((1≤b∧(b≤(A.n:Int)∨b=1))∧(toNat ((A.n:Int)-b))<(toNat ((A.n:Int)-e)))))))) (cu (aG LI aT)) Tryz.func181 (⟨(by omega),(fun e i=>⟨(fun d=>⟨(by have:=al d;have:=E (e-1);omega),(by have:=al d;omega)⟩),(fun g=>(fun h=>(by have:=al g;have:=E (e+1);omega)))⟩)⟩)
def Q4(A:u):Bool:=(!(iX A))
def aja:ba:=⟨[.v ai],fun A=>⟨⟨none,.bool (Q4 A)⟩⟩⟩
theorem auc:bn 171 aja:=bq Tryz.func171
 fun A _=>bu ⟨.pure,[.tmp 2],[(.t 0,l)],⟨[U],[]⟩⟩ (.z) True (cu (aG FN aT)) Tryz.func171 (trivial)
def I8(A:G u):Nat→Int→Bool×Int
 |0,_=>default
 |k+1,e=>(cond (decide (e<(A.n:Int))) (cond (Q4 (A.at' (toNat e))) (true,e) (I8 A k (i64.wrap (e+1)))) (false,default))
def aa5(A:G u):Bool×Int:=I8 A ((toNat ((A.n:Int)-0))+1) 0
def apb(A:G u):Bool:=(cond (aa5 A).1 false true)
def aa4(A:G u):Int:=(cond (apb A) (-1) (aa5 A).2)
def ajU:ba:=⟨[.v (.ab bK),.fn 171 []],fun A=>⟨⟨none,b (aa4 A)⟩⟩⟩
theorem auE:bn 184 ajU:=bq Tryz.func184
 fun A i _=>bu ⟨.pure,[.tmp 4],[(.t 0,a)],⟨[U],[]⟩⟩ (.ae (.j ⟨16,[],[],[],.f⟩ (.ae (.cW ⟨403,[],[],[(.t 8,a)],some 0,true,16,[],[],fun k (s:Int)=>I8 A k s,.f,fun(s:Int)=>(0≤s∧s≤(A.n:Int)),fun(s:Int)=>(toNat ((A.n:Int)-s)),none⟩ .z)) .z)) (((0≤(0:Int)∧(0:Int)≤(A.n:Int)))∧(∀(e:Int),let c:=decide (e<(A.n:Int));let b:=i64.wrap (e+1);(0≤e∧e≤(A.n:Int))→((c=true→(0≤e∧e<(A.n:Int)))∧(c=true→((Q4 (A.at' (toNat e)))=false→((0≤b∧b≤(A.n:Int))∧(toNat ((A.n:Int)-b))<(toNat ((A.n:Int)-e)))))))) (cu (aG auc aT)) Tryz.func184 (⟨(by omega),(fun e h=>⟨(fun d=>(by have:=al d;omega)),(fun f=>(fun g=>(by have:=al f;have:=E (e+1);omega)))⟩)⟩)
def Dv(A:G u):Bool:=(decide ((aa4 A)≥0))
def aiU:ba:=⟨[.v (.ab bK),.fn 171 []],fun A=>⟨⟨none,.bool (Dv A)⟩⟩⟩
theorem at0:bn 160 aiU:=bq Tryz.func160
 fun A _ _=>bu ⟨.pure,[.tmp 4],[(.t 0,l)],⟨[U],[]⟩⟩ (.z) True (cu (aG auE aT)) Tryz.func160 (trivial)
def aaM(A:u)(g:u):Bool:=(cond (!(kn A)) true (!(iX g)))
def zK(A:u)(g:u):Bool:=(aaM A g)
def ajc:ba:=⟨[.g [ai,ai]],fun A g=>⟨⟨none,.bool (zK A g)⟩⟩⟩
theorem aue:bn 173 ajc:=bq Tryz.func173
 fun A _ g _=>bu ⟨.pure,[.tmp 2],[(.t 0,l)],⟨[U],[]⟩⟩ (.ae (.j ⟨4,[.b 0],[(.t 2,l)],[],.f⟩ .z .z)) True (cu (aG aed (aG FN aT))) Tryz.func173 (trivial)
def I9(A:G bl):Nat→Int→Bool×Int
 |0,_=>default
 |k+1,e=>let a:=A.at' (toNat e);(cond (decide (e<(A.n:Int))) (cond (zK a.q a.C) (true,e) (I9 A k (i64.wrap (e+1)))) (false,default))
def aa8(A:G bl):Bool×Int:=I9 A ((toNat ((A.n:Int)-0))+1) 0
def apd(A:G bl):Bool:=(cond (aa8 A).1 false true)
def aa7(A:G bl):Int:=(cond (apd A) (-1) (aa8 A).2)
def ajW:ba:=⟨[.v (.ab c5),.fn 173 []],fun A=>⟨⟨none,b (aa7 A)⟩⟩⟩
theorem auG:bn 196 ajW:=bq Tryz.func196
 fun A j _=>bu ⟨.pure,[.tmp 4],[(.t 0,a)],⟨[U],[]⟩⟩ (.ae (.j ⟨16,[],[],[],.f⟩ (.ae (.cW ⟨403,[],[],[(.t 8,a)],some 0,true,16,[],[],fun k (s:Int)=>I9 A k s,.f,fun(s:Int)=>(0≤s∧s≤(A.n:Int)),fun(s:Int)=>(toNat ((A.n:Int)-s)),none⟩ .z)) .z)) (((0≤(0:Int)∧(0:Int)≤(A.n:Int)))∧(∀(e:Int),let d:=A.at' (toNat e);let c:=decide (e<(A.n:Int));let b:=i64.wrap (e+1);(0≤e∧e≤(A.n:Int))→((c=true→(0≤e∧e<(A.n:Int)))∧(c=true→((zK d.q d.C)=false→((0≤b∧b≤(A.n:Int))∧(toNat ((A.n:Int)-b))<(toNat ((A.n:Int)-e)))))))) (cu (aG aue aT)) Tryz.func196 (⟨(by omega),(fun e i=>⟨(fun f=>(by have:=al f;omega)),(fun g=>(fun h=>(by have:=al g;have:=E (e+1);omega)))⟩)⟩)
def zJ(A:G bl):Bool:=(decide ((aa7 A)≥0))
def ajb:ba:=⟨[.v (.ab c5),.fn 173 []],fun A=>⟨⟨none,.bool (zJ A)⟩⟩⟩
theorem aud:bn 172 ajb:=bq Tryz.func172
 fun A _ _=>bu ⟨.pure,[.tmp 4],[(.t 0,l)],⟨[U],[]⟩⟩ (.z) True (cu (aG auG aT)) Tryz.func172 (trivial)
def Q5(A:u):Bool:=(!(iX A))
def ajf:ba:=⟨[.g [ai,a]],fun A _=>⟨⟨none,.bool (Q5 A)⟩⟩⟩
theorem auh:bn 175 ajf:=bq Tryz.func175
 fun A _ (g:Int)=>bu ⟨.pure,[.tmp 2],[(.t 0,l)],⟨[U],[]⟩⟩ (.z) True (cu (aG FN aT)) Tryz.func175 (trivial)
def I_(A:G bH):Nat→Int→Bool×Int
 |0,_=>default
 |k+1,e=>(cond (decide (e<(A.n:Int))) (cond (Q5 (A.at' (toNat e)).q) (true,e) (I_ A k (i64.wrap (e+1)))) (false,default))
def aa_:Bool×Int:=I_ A ((toNat ((A.n:Int)-0))+1) 0
def ape:Bool:=(cond (aa_ A).1 false true)
def aa9:Int:=(cond (ape A) (-1) (aa_ A).2)
def ajX:ba:=⟨[.v (.ab cS),.fn 175 []],fun A=>⟨⟨none,b (aa9 A)⟩⟩⟩
theorem auH:bn 197 ajX:=bq Tryz.func197
 fun A i _=>bu ⟨.pure,[.tmp 4],[(.t 0,a)],⟨[U],[]⟩⟩ (.ae (.j ⟨16,[],[],[],.f⟩ (.ae (.cW ⟨403,[],[],[(.t 8,a)],some 0,true,16,[],[],fun k (s:Int)=>I_ A k s,.f,fun(s:Int)=>(0≤s∧s≤(A.n:Int)),fun(s:Int)=>(toNat ((A.n:Int)-s)),none⟩ .z)) .z)) (((0≤(0:Int)∧(0:Int)≤(A.n:Int)))∧(∀(e:Int),let c:=decide (e<(A.n:Int));let b:=i64.wrap (e+1);(0≤e∧e≤(A.n:Int))→((c=true→(0≤e∧e<(A.n:Int)))∧(c=true→((Q5 (A.at' (toNat e)).q)=false→((0≤b∧b≤(A.n:Int))∧(toNat ((A.n:Int)-b))<(toNat ((A.n:Int)-e)))))))) (cu (aG auh aT)) Tryz.func197 (⟨(by omega),(fun e h=>⟨(fun d=>(by have:=al d;omega)),(fun f=>(fun g=>(by have:=al f;have:=E (e+1);omega)))⟩)⟩)
def zL:Bool:=(decide ((aa9 A)≥0))
def ajd:ba:=⟨[.v (.ab cS),.fn 175 []],fun A=>⟨⟨none,.bool (zL A)⟩⟩⟩
theorem auf:bn 174 ajd:=bq Tryz.func174
 fun A _ _=>bu ⟨.pure,[.tmp 4],[(.t 0,l)],⟨[U],[]⟩⟩ (.z) True (cu (aG auH aT)) Tryz.func174 (trivial)
def Q6(g:Int):Bool:=(!(iA g))
def ajg:ba:=⟨[.g [ai,a]],fun _ g=>⟨⟨none,.bool (Q6 g)⟩⟩⟩
theorem aui:bn 176 ajg:=bq Tryz.func176
 fun A _ (g:Int)=>bu ⟨.pure,[.tmp 2],[(.t 0,l)],⟨[U],[]⟩⟩ (.z) True (cu (aG LG aT)) Tryz.func176 (trivial)
def Ja(A:G bH):Nat→Int→Bool×Int
 |0,_=>default
 |k+1,e=>(cond (decide (e<(A.n:Int))) (cond (Q6 (A.at' (toNat e)).C) (true,e) (Ja A k (i64.wrap (e+1)))) (false,default))
def abb:Bool×Int:=Ja A ((toNat ((A.n:Int)-0))+1) 0
def apf:Bool:=(cond (abb A).1 false true)
def aba:Int:=(cond (apf A) (-1) (abb A).2)
def ajY:ba:=⟨[.v (.ab cS),.fn 176 []],fun A=>⟨⟨none,b (aba A)⟩⟩⟩
theorem auI:bn 197 ajY:=bq Tryz.func197
 fun A i _=>bu ⟨.pure,[.tmp 4],[(.t 0,a)],⟨[U],[]⟩⟩ (.ae (.j ⟨16,[],[],[],.f⟩ (.ae (.cW ⟨403,[],[],[(.t 8,a)],some 0,true,16,[],[],fun k (s:Int)=>Ja A k s,.f,fun(s:Int)=>(0≤s∧s≤(A.n:Int)),fun(s:Int)=>(toNat ((A.n:Int)-s)),none⟩ .z)) .z)) (((0≤(0:Int)∧(0:Int)≤(A.n:Int)))∧(∀(e:Int),let c:=decide (e<(A.n:Int));let b:=i64.wrap (e+1);(0≤e∧e≤(A.n:Int))→((c=true→(0≤e∧e<(A.n:Int)))∧(c=true→((Q6 (A.at' (toNat e)).C)=false→((0≤b∧b≤(A.n:Int))∧(toNat ((A.n:Int)-b))<(toNat ((A.n:Int)-e)))))))) (cu (aG aui aT)) Tryz.func197 (⟨(by omega),(fun e h=>⟨(fun d=>(by have:=al d;omega)),(fun f=>(fun g=>(by have:=al f;have:=E (e+1);omega)))⟩)⟩)
def DD:Bool:=(decide ((aba A)≥0))
def aje:ba:=⟨[.v (.ab cS),.fn 176 []],fun A=>⟨⟨none,.bool (DD A)⟩⟩⟩
theorem aug:bn 174 aje:=bq Tryz.func174
 fun A _ _=>bu ⟨.pure,[.tmp 4],[(.t 0,l)],⟨[U],[]⟩⟩ (.z) True (cu (aG auI aT)) Tryz.func174 (trivial)
def jW:Int:=(i64.wrap ((i64.wrap ((h.n:Int)+(o.n:Int)))+(c.n:Int)))
def ai_:ba:=⟨[.g [a,ai,a,.ab c5,.ab bK,.ab cS]],fun _ _ _ h o c=>⟨⟨none,b (jW h o c)⟩⟩⟩
theorem Uc:bn 170 ai_:=bq Tryz.func170
 fun(A:Int) g _ (r:Int) h _ _ o _ _ c _ _=>bu ⟨.pure,[.tmp 2],[(.t 0,a)],⟨[U],[]⟩⟩ (.z) True fb Tryz.func170 (trivial)
def wM(A:u)(r:u):Bool:=((A:u).toList==(r:u).toList)
def aj9:ba:=⟨[.g [ai,a],.r [ai]],fun A _ r=>⟨⟨none,.bool (wM A r)⟩⟩⟩
theorem auS:bn 201 aj9:=bq Tryz.func201
 fun A _ (g:Int) r=>bu ⟨.pure,[.tmp 3],[(.t 0,l)],⟨[U],[]⟩⟩ (.z) True fb Tryz.func201 (trivial)
def zY(A:G bH)(g:u):Nat→Int→Bool×Int
 |0,_=>default
 |k+1,e=>(cond (decide (e<(A.n:Int))) (cond (wM (A.at' (toNat e)).q g) (true,e) (zY A g k (i64.wrap (e+1)))) (false,default))
def zZ:Bool×Int:=zY A g ((toNat ((A.n:Int)-0))+1) 0
def Rz:Bool:=(cond (zZ A g).1 false true)
def Jb:Int:=(cond (Rz A g) (-1) (zZ A g).2)
def ajZ:ba:=⟨[.v (.ab cS),.fn 201 [[ai]]],fun A g=>⟨⟨none,b (Jb A g)⟩⟩⟩
theorem auJ:bn 197 ajZ:=bq Tryz.func197
 fun A j _ g=>bu ⟨.pure,[.tmp 4],[(.t 0,a)],⟨[U],[]⟩⟩ (.ae (.j ⟨16,[],[],[],.f⟩ (.ae (.cW ⟨403,[],[],[(.t 8,a)],some 0,true,16,[],[],fun k (s:Int)=>zY A g k s,.f,fun(s:Int)=>(0≤s∧s≤(A.n:Int)),fun(s:Int)=>(toNat ((A.n:Int)-s)),none⟩ .z)) .z)) (((0≤(0:Int)∧(0:Int)≤(A.n:Int)))∧(∀(e:Int),let c:=decide (e<(A.n:Int));let b:=i64.wrap (e+1);(0≤e∧e≤(A.n:Int))→((c=true→(0≤e∧e<(A.n:Int)))∧(c=true→((wM (A.at' (toNat e)).q g)=false→((0≤b∧b≤(A.n:Int))∧(toNat ((A.n:Int)-b))<(toNat ((A.n:Int)-e)))))))) (cu (aG auS aT)) Tryz.func197 (⟨(by omega),(fun e i=>⟨(fun d=>(by have:=al d;omega)),(fun f=>(fun h=>(by have:=al f;have:=E (e+1);omega)))⟩)⟩)
def jw:Int:=(Jb A g)
def ajn:ba:=⟨[.v (.ab cS),.v ai],fun A g=>⟨⟨none,b (jw A g)⟩⟩⟩
theorem aeh:bn 183 ajn:=bq Tryz.func183
 fun A _ _ g _=>bu ⟨.pure,[.tmp 4],[(.t 0,a)],⟨[U],[]⟩⟩ (.ae (.s (.hE 3 0 .z) .z)) True (cu (aG auJ aT)) Tryz.func183 (trivial)
def sw(A:Int):Bool:=(cond (decide (A<1)) true (decide (A>6)))
def acR(A:Int)(g:u):u:=(cond (A==1) ⟨#[]⟩ g)
def acS(A:Int)(r:Int):Int:=(cond (A==1) r (cond (A==2) 0 r))
def sx(A:Int)(h:G bl):G bl:=(cond (A==1) h (cond (A==2) h (cond (A==3) (D:G bl) h)))
def sy(A:Int)(o:G u):G u:=(cond (A==1) o (cond (A==2) o (cond (A==3) o (cond (A==6) o (D:G u)))))
def sz(A:Int)(c:G bH):G bH:=(cond (A==1) c (cond (A==2) c (cond (A==3) c (cond (A==6) (D:G bH) c))))
def l_(A:Int)(g:u)(r:Int)(h:G bl)(o:G u)(c:G bH):Bool:=(cond (!(((acR A g):u).toList==(⟨#[]⟩:u).toList)) true (cond ((acS A r)!=0) true (decide ((jW (sx A h) (sy A o) (sz A c))>0))))
def n7(A:Int)(h:G bl)(o:G u)(c:G bH):Bool:=(cond (decide (A≥3)) (cond (decide ((jW h o c)<1)) true (decide ((jW h o c)>20))) false)
def qy:Bool:=(cond (!(iX g)) true (Dv o))
def qx:Bool:=(cond (!(iA r)) true (DD c))
def Kn(A:Int)(h:G bl)(o:G u)(c:G bH):Bool:=(cond (DE h) (cond (DH c) (cond (A !=5) true (DK o)) false) false)
def Ko(b:Bool)(a:Int):Bool:=(cond b (decide ((jw (G.part c 0 a) (c.at' (toNat a)).q)<0)) false)
def xv(c:G bH):Nat→Bool→Int→Bool
 |0,_,_=>default
 |k+1,b,a=>(cond (decide (a<(c.n:Int))) (xv c k (Ko c b a) (i64.wrap (a+1))) b)
def Kp(A:Int)(h:G bl)(o:G u)(c:G bH):Bool:=xv c ((toNat ((c.n:Int)-0))+1) (Kn A h o c) 0
def jb(A:Int)(g:u)(r:Int)(h:G bl)(o:G u)(c:G bH):Int:=(cond (sw A) 3 (cond (l_ A g r h o c) 8 (cond (n7 A h o c) 1 (cond (qy g o) 1 (cond (zJ h) 1 (cond (zL c) 1 (cond (qx r c) 2 (cond (!(Kp A h o c)) 10 0))))))))
def alf:ba:=⟨[.g [a,ai,a,.ab c5,.ab bK,.ab cS]],fun A g r h o c=>⟨⟨none,b (jb A g r h o c)⟩⟩⟩
theorem aeH:bn 159 alf:=bq Tryz.func159
 fun(A:Int) g y (r:Int) h z _ o B _ c C _=>bu ⟨.pure,[.tmp 2],[(.t 0,a)],⟨[U],[]⟩⟩ (.ae (.s (.j ⟨16390,[],[(.t 14,l)],[],.f⟩ .z .z) (.ae (.j ⟨14,[],[(.h 1 1,ai),(.h 1 2,a),(.h 1 3,.ab c5),(.h 1 4,.ab bK),(.h 1 5,.ab cS)],[(.b .f .l),(.b .f (.b .f .l)),(.b .f (.b .f (.b .f .l))),.f,.f],.f⟩ .z (.s (.j ⟨8796093022214,[.b 1],[(.t 43,l)],[],.f⟩ .z .z) (.s (.j ⟨72057594037927942,[],[(.t 56,l)],[],.f⟩ .z .z) (.s (.j ⟨36893488147419103238,[],[(.t 65,l)],[],.f⟩ .z .z) (.ae (.ae (.s (.j ⟨1208925819614629174706182,[],[(.t 80,l)],[],.f⟩ .z .z) (.j ⟨22,[],[(.t 4,l)],[],.f⟩ .z (.j ⟨20,[],[],[],.f⟩ (.ae (.cW ⟨8873554201597605810476922437654,[],[],[(.t 4,l),(.t 102,a)],some 1,false,20,[.b 0],[(.t 4,l)],fun k (s:Bool×Int)=>xv c k s.1 s.2,.f,fun(s:Bool×Int)=>(0≤s.2∧s.2≤(c.n:Int)),fun(s:Bool×Int)=>(toNat ((c.n:Int)-s.2)),none⟩ (.ae (.ae (.s (.ae (.j ⟨166801268929831109337140697872990326,[],[(.t 4,l),(.t 108,l),(.t 117,l)],[],.f⟩ .z .z)) .z))))) .z)))))))))))) ((sw A)=false→((l_ A g r h o c)=false→((n7 A h o c)=false→((qy g o)=false→((zJ h)=false→((zL c)=false→((qx r c)=false→(((0≤(0:Int)∧(0:Int)≤(c.n:Int)))∧(∀(p:Bool) (b:Int),let q:=decide (b<(c.n:Int));let m:=i64.wrap (b+1);(0≤b∧b≤(c.n:Int))→((q=true→((0≤b∧b<(c.n:Int))∧(p=true→(((0:Int)≤0)∧((0:Int)≤b)∧((b:Int)≤b)∧((b:Int)≤(c.n:Int))))))∧(q=true→((0≤m∧m≤(c.n:Int))∧(toNat ((c.n:Int)-m))<(toNat ((c.n:Int)-b)))))))))))))) (cu (aG at0 (aG FN (aG LG (aG Uc (aG aud (aG auf (aG aug (aG auj (aG auk (aG aul (aG aeh aT)))))))))))) Tryz.func159 ((fun d=>(fun e=>(fun f=>(fun i=>(fun v=>(fun w=>(fun j=>⟨(by have:=d;simp [sw]at this;have:=e;simp [l_]at this;have:=f;simp [n7]at this;have:=i;simp [qy]at this;have:=j;simp [qx]at this;omega),(fun p b x=>⟨(fun n=>⟨(by have:=d;simp [sw]at this;have:=e;simp [l_]at this;have:=f;simp [n7]at this;have:=i;simp [qy]at this;have:=j;simp [qx]at this;have:=al n;omega),(fun u=>(by have:=d;simp [sw]at this;have:=e;simp [l_]at this;have:=f;simp [n7]at this;have:=i;simp [qy]at this;have:=j;simp [qx]at this;have:=al n;omega))⟩),(fun t=>(by have:=d;simp [sw]at this;have:=e;simp [l_]at this;have:=f;simp [n7]at this;have:=i;simp [qy]at this;have:=j;simp [qx]at this;have:=al t;first|omega|(have:=E (b+1);omega)))⟩)⟩))))))))
end
section
variable(A:Int)(g:G L)(cF:Int)
def uX:Bool:=(cond (decide (A<0)) true (cond (decide (A>1073741824)) true (decide ((g.n:Int)>12))))
def ma:Bool:=(cond (decide ((((g.at' (toNat cF)).q:u).size:Int)<1)) true (cond (decide ((((g.at' (toNat cF)).q:u).size:Int)>12)) true (cond ((jb (g.at' (toNat cF)).C (g.at' (toNat cF)).z (g.at' (toNat cF)).I (g.at' (toNat cF)).w (g.at' (toNat cF)).m (g.at' (toNat cF)).N)!=0) true (cond (decide (cF>0)) (!(Op.bytesLess (((g.at' (toNat (i64.wrap (cF-1)))).q:u).toList) (((g.at' (toNat cF)).q:u).toList))) false))))
def nc:Bool:=(cond ((g.at' (toNat cF)).ao !=0) (cond (decide ((g.at' (toNat cF)).ao≤A)) true (decide ((g.at' (toNat cF)).ao>1073741824))) false)
def pa(A:Int)(g:G L):Nat→Int→Bool×Int
 |0,_=>default
 |k+1,cF=>(cond (decide (cF<(g.n:Int))) (cond (ma g cF) (true,13) (cond (nc A g cF) (true,13) (pa A g k (i64.wrap (cF+1))))) (false,default))
def E6:Bool×Int:=pa A g ((toNat ((g.n:Int)-0))+1) 0
def Kr:Bool:=(cond (E6 A g).1 false true)
def hp:Int:=(cond (uX A g) 13 (cond (Kr A g) 0 (E6 A g).2))
def alh:ba:=⟨[.g [a,.ab bd]],fun A g=>⟨⟨none,b (hp A g)⟩⟩⟩
theorem aeJ:bn 146 alh:=bq Tryz.func146
 fun(A:Int) g t _=>bu ⟨.pure,[.tmp 2],[(.t 0,a)],⟨[U],[]⟩⟩ (.ae (.s (.j ⟨262150,[],[(.t 18,l)],[],.f⟩ .z .z) (.j ⟨4,[],[],[],.f⟩ (.ae (.cW ⟨7340038,[],[],[(.t 22,a)],some 0,true,4,[.b 0],[],fun k (s:Int)=>pa A g k s,.f,fun(s:Int)=>(0≤s∧s≤(g.n:Int)),fun(s:Int)=>(toNat ((g.n:Int)-s)),none⟩ (.ae (.ae (.s (.ae (.s (.j ⟨288243780743594014,[],[(.t 31,l),(.t 36,l),(.t 37,l),(.t 42,l),(.t 43,l),(.t 58,l)],[(.b .f .l),(.b .f .l),(.b .f (.b .f .l)),(.b .f (.b .f .l)),(.b .f (.b .f (.b .f .l))),.f],.f⟩ .z .z) (.j ⟨9453668120804585373726,[],[(.t 62,l),(.t 73,l)],[(.b .l .f),.f],.f⟩ .z .z))) .z))))) .z))) ((uX A g)=false→(((0≤(0:Int)∧(0:Int)≤(g.n:Int)))∧(∀(cF:Int),let h:=i64.wrap (cF-1);let f:=decide (cF<(g.n:Int));let d:=i64.wrap (cF+1);let b:=g.at' (toNat cF);(0≤cF∧cF≤(g.n:Int))→((f=true→((0≤cF∧cF<(g.n:Int))∧((decide (((b.q:u).size:Int)<1))=false→((decide (((b.q:u).size:Int)>12))=false→(((jb b.C b.z b.I b.w b.m b.N)!=0)=false→((decide (cF>0))=true→(0≤h∧h<(g.n:Int))))))))∧(f=true→((ma g cF)=false→((nc A g cF)=false→((0≤d∧d≤(g.n:Int))∧(toNat ((g.n:Int)-d))<(toNat ((g.n:Int)-cF)))))))))) (cu (aG aeH aT)) Tryz.func146 ((fun c=>⟨(by have:=c;simp [uX]at this;omega),(fun cF r=>⟨(fun e=>⟨(by have:=c;simp [uX]at this;have:=al e;omega),(fun j=>(fun m=>(fun n=>(fun o=>(by have:=c;simp [uX]at this;have:=al e;have:=hy j;have:=hy m;have:=bB n;have:=al o;first|omega|(have:=E (cF-1);omega))))))⟩),(fun p=>(fun q=>(fun i=>(by have:=c;simp [uX]at this;have:=al p;have:=q;simp [ma]at this;have:=i;simp [nc]at this;first|omega|(have:=E (cF+1);omega)))))⟩)⟩))
end
section
variable(A:Int)(g:G L)(r:Int)(h:G aw)(bk:Int)
def sD:Bool:=(cond ((hp A g)!=0) true (cond (decide (r<1)) true (cond (decide (r>1048577)) true (decide ((h.n:Int)>4)))))
def sF:Bool:=(cond (decide ((h.at' (toNat bk)).q<1)) true (cond (decide ((h.at' (toNat bk)).q≥r)) true (cond (decide (bk>0)) (decide ((h.at' (toNat (i64.wrap (bk-1)))).q≥(h.at' (toNat bk)).q)) false)))
def sE:Bool:=(cond (decide ((h.at' (toNat bk)).C<0)) true (cond (decide ((h.at' (toNat bk)).C>1048576)) true (cond (decide ((h.at' (toNat bk)).z<0)) true (cond (decide ((h.at' (toNat bk)).z>A)) true ((qt (h.at' (toNat bk)).I (h.at' (toNat bk)).w (h.at' (toNat bk)).m (h.at' (toNat bk)).N)!=0)))))
def sC(A:Int)(r:Int)(h:G aw):Nat→Int→Bool×Int
 |0,_=>default
 |k+1,bk=>(cond (decide (bk<(h.n:Int))) (cond (sF r h bk) (true,13) (cond (sE A h bk) (true,13) (sC A r h k (i64.wrap (bk+1))))) (false,default))
def KD:Bool×Int:=sC A r h ((toNat ((h.n:Int)-0))+1) 0
def SN:Bool:=(cond (KD A r h).1 false true)
def dV:Int:=(cond (sD A g r h) 13 (cond (SN A r h) 0 (KD A r h).2))
def alj:ba:=⟨[.g [a,.ab bd,a,.ab bT]],fun A g r h=>⟨⟨none,b (dV A g r h)⟩⟩⟩
theorem LN:bn 119 alj:=bq Tryz.func119
 fun(A:Int) g u _ (r:Int) h v _=>bu ⟨.pure,[.tmp 2],[(.t 0,a)],⟨[U],[]⟩⟩ (.ae (.s (.j ⟨16777222,[],[(.t 24,l)],[],.f⟩ .z .z) (.j ⟨4,[],[],[],.f⟩ (.ae (.cW ⟨469762054,[],[],[(.t 28,a)],some 0,true,4,[.b 0],[],fun k (s:Int)=>sC A r h k s,.f,fun(s:Int)=>(0≤s∧s≤(h.n:Int)),fun(s:Int)=>(toNat ((h.n:Int)-s)),none⟩ (.ae (.ae (.s (.ae (.s (.j ⟨288243707663089694,[],[(.t 36,l),(.t 42,l),(.t 43,l),(.t 58,l)],[(.b .f .l),(.b .f .l),(.b .f (.b .f .l)),.f],.f⟩ .z .z) (.j ⟨40506328802898258549538846,[],[(.t 62,l),(.t 66,l),(.t 67,l),(.t 71,l),(.t 72,l),(.t 79,l),(.t 80,l),(.t 85,l)],[(.b .f .l),(.b .f .l),(.b .f (.b .f .l)),(.b .f (.b .f .l)),(.b .f (.b .f (.b .f .l))),(.b .f (.b .f (.b .f .l))),.f,.f],.f⟩ .z .z))) .z))))) .z))) ((sD A g r h)=false→(((0≤(0:Int)∧(0:Int)≤(h.n:Int)))∧(∀(bk:Int),let i:=h.at' (toNat bk);let f:=i64.wrap (bk-1);let e:=decide (bk<(h.n:Int));let c:=i64.wrap (bk+1);(0≤bk∧bk≤(h.n:Int))→((e=true→((0≤bk∧bk<(h.n:Int))∧((decide (i.q<1))=false→((decide (i.q≥r))=false→((decide (bk>0))=true→(0≤f∧f<(h.n:Int)))))))∧(e=true→((sF r h bk)=false→((sE A h bk)=false→((0≤c∧c≤(h.n:Int))∧(toNat ((h.n:Int)-c))<(toNat ((h.n:Int)-bk)))))))))) (cu (aG avJ (aG aeJ aT))) Tryz.func119 ((fun b=>⟨(by have:=b;simp [sD]at this;omega),(fun bk t=>⟨(fun d=>⟨(by have:=b;simp [sD]at this;have:=al d;omega),(fun j=>(fun m=>(fun n=>(by have:=b;simp [sD]at this;have:=al d;have:=hy j;have:=hy m;have:=al n;first|omega|(have:=E (bk-1);omega)))))⟩),(fun o=>(fun p=>(fun q=>(by have:=b;simp [sD]at this;have:=al o;have:=p;simp [sF]at this;have:=q;simp [sE]at this;first|omega|(have:=E (bk+1);omega)))))⟩)⟩))
end
section
variable(A:Int)(g:Int)
def I1:Bool:=(cond (decide (A≥1)) (decide (A≤1048576)) false)
def nP:Bool:=(I1 A)
def ajq:ba:=⟨[.v a],fun A=>⟨⟨none,.bool (nP A)⟩⟩⟩
theorem aej:bn 126 ajq:=bq Tryz.func126
 fun(A:Int)=>bu ⟨.pure,[.tmp 2],[(.t 0,l)],⟨[U],[]⟩⟩ (.ae (.j ⟨4,[],[(.t 2,l)],[],.f⟩ .z .z)) True fb Tryz.func126 (trivial)
def E7:Bool:=(cond (!(nP A)) true (!(nP g)))
def lC(r:Int)(h:G L)(o:Int)(c:G aw):Int:=(cond (E7 A g) 2 (dV r h o c))
def alk:ba:=⟨[.g [a,a,a,.ab bd,a,.ab bT]],fun A g r h o c=>⟨⟨none,b (lC A g r h o c)⟩⟩⟩
theorem aeL:bn 106 alk:=bq Tryz.func106
 fun(A:Int) (g:Int) (r:Int) h _ _ (o:Int) c _ _=>bu ⟨.pure,[.tmp 2],[(.t 0,a)],⟨[U],[]⟩⟩ (.ae (.s (.j ⟨4102,[],[(.t 12,l)],[],.f⟩ .z .z) .z)) True (cu (aG LN (aG aej aT))) Tryz.func106 (trivial)
end
section
variable(A:Int)(g:Int)(r:Int)(h:G L)(o:Int)(c:G aw)
def ao9:Bool:=(cond (A==0) (cond (g==0) (cond (o==0) (cond ((c.n:Int)==0) (cond (r==0) ((h.n:Int)==0) false) false) false) false) false)
def D1:Bool:=(ao9 A g r h o c)
def ajJ:ba:=⟨[.g [a,a,a,.ab bd,a,.ab bT]],fun A g r h o c=>⟨⟨none,.bool (D1 A g r h o c)⟩⟩⟩
theorem auw:bn 129 ajJ:=bq Tryz.func129
 fun(A:Int) (g:Int) (r:Int) h _ _ (o:Int) c _ _=>bu ⟨.pure,[.tmp 2],[(.t 0,l)],⟨[U],[]⟩⟩ (.ae (.ae (.j ⟨4,[.b 0,.b 1],[(.t 2,l)],[],.f⟩ .z .z))) True fb Tryz.func129 (trivial)
def SO:Bool:=(cond (decide (A<1)) true (decide (A>3)))
def SP(h:Int)(o:Int)(c:Int)(v:Bool)(y:Int)(p:Int)(x:Int)(R:u)(bz:u)(bP:u)(b2:Int)(ck:Int)(dq:Int)(df:Int)(c_:G L)(dg:Int)(da:G aw):Bool:=(cond (A !=1) (cond (g !=0) true (cond (r !=0) true (cond (A !=2) (cond (h !=0) true (cond (!((o==0)&&((c==0)&&((v==false)&&((y==0)&&((p==0)&&((x==0)&&(((R:u).toList==(⟨#[]⟩:u).toList)&&(((bz:u).toList==(⟨#[]⟩:u).toList)&&(((bP:u).toList==(⟨#[]⟩:u).toList)&&((b2==0)&&true))))))))))) true (cond (A !=3) (!(D1 ck dq df c_ dg da)) false))) (cond (A !=3) (!(D1 ck dq df c_ dg da)) false)))) (cond (A !=2) (cond (h !=0) true (cond (!((o==0)&&((c==0)&&((v==false)&&((y==0)&&((p==0)&&((x==0)&&(((R:u).toList==(⟨#[]⟩:u).toList)&&(((bz:u).toList==(⟨#[]⟩:u).toList)&&(((bP:u).toList==(⟨#[]⟩:u).toList)&&((b2==0)&&true))))))))))) true (cond (A !=3) (!(D1 ck dq df c_ dg da)) false))) (cond (A !=3) (!(D1 ck dq df c_ dg da)) false)))
def AU:Bool:=(cond (!(nP g)) true (cond (decide (r<(-1))) true (decide (r≥3))))
def ff(h:Int)(o:Int)(c:Int)(v:Bool)(y:Int)(p:Int)(x:Int)(R:u)(bz:u)(bP:u)(b2:Int)(ck:Int)(dq:Int)(df:Int)(c_:G L)(dg:Int)(da:G aw):Int:=(cond (SO A) 3 (cond (SP A g r h o c v y p x R bz bP b2 ck dq df c_ dg da) 8 (cond (A==1) (cond (AU g r) 2 0) (cond (A==2) (cond (!(nP h)) 2 (e_ o c v y p x R bz bP b2)) (lC ck dq df c_ dg da)))))
def alo:ba:=⟨[.g [a,a,a,a,a,a,l,a,a,a,ai,ai,ai,a,a,a,a,.ab bd,a,.ab bT]],fun A g r h o c v y p x R bz bP b2 ck dq df c_ dg da=>⟨⟨none,b (ff A g r h o c v y p x R bz bP b2 ck dq df c_ dg da)⟩⟩⟩
theorem Un:bn 111 alo:=bq Tryz.func111
 fun(A:Int) (g:Int) (r:Int) (h:Int) (o:Int) (c:Int) v (y:Int) (p:Int) (x:Int) R _ bz _ bP _ (b2:Int) (ck:Int) (dq:Int) (df:Int) c_ _ _ (dg:Int) da _ _=>bu ⟨.pure,[.tmp 2],[(.t 0,a)],⟨[U],[]⟩⟩ (.ae (.s (.j ⟨2054,[],[(.t 11,l)],[],.f⟩ .z .z) (.ae (.s (.j ⟨4503599627370502,[.b 1],[(.t 52,l)],[],.f⟩ .z .z) (.s (.ae (.ae (.s (.s (.j ⟨1180591620717411303430,[],[(.t 70,l)],[],.f⟩ .z .z) .z) .z))) .z))))) True (cu (aG LK (aG aeL (aG aej (aG auw aT))))) Tryz.func111 (trivial)
end
section
variable(A:Int)(g:Int)(r:G aq)(h:Int)(o:Int)
def n5:Bool:=(cond (decide (A<0)) true (cond (decide (g<0)) true (cond (decide (g>1048576)) true (cond (!((A==0)==(g==0))) true (cond (decide ((r.n:Int)>200)) true (decide (A>(i64.wrap (1048576- (r.n:Int))))))))))
def uU(b:Int)(c:Int)(a:Int):Bool:=(cond ((e_ (r.at' (toNat a)).q (r.at' (toNat a)).C (r.at' (toNat a)).z (r.at' (toNat a)).I (r.at' (toNat a)).w (r.at' (toNat a)).m (r.at' (toNat a)).N (r.at' (toNat a)).ao (r.at' (toNat a)).i (r.at' (toNat a)).aC)!=0) true (cond (decide ((r.at' (toNat a)).q<b)) true (decide ((r.at' (toNat a)).C<c))))
def o8(r:G aq):Nat→Int→Int→Int→Bool×Int
 |0,_,_,_=>default
 |k+1,b,c,a=>(cond (decide (a<(r.n:Int))) (cond (uU r b c a) (true,13) (o8 r k (r.at' (toNat a)).q (r.at' (toNat a)).C (i64.wrap (a+1)))) (false,default))
def AO:Bool×Int:=o8 r ((toNat ((r.n:Int)-0))+1) g 0 0
def Kk:Bool:=(cond (AO g r).1 false true)
def cz:Int:=(cond (n5 A g r) 13 (cond (Kk g r) 0 (AO g r).2))
def ak8:ba:=⟨[.g [a,a,.ab dh]],fun A g r=>⟨⟨none,b (cz A g r)⟩⟩⟩
theorem vh:bn 18 ak8:=bq Tryz.func18
 fun(A:Int) (g:Int) r o _=>bu ⟨.pure,[.tmp 2],[(.t 0,a)],⟨[U],[]⟩⟩ (.ae (.s (.j ⟨8796093022214,[],[(.t 43,l)],[],.f⟩ .z .z) (.ae (.j ⟨4,[],[],[],.f⟩ (.ae (.cW ⟨985162418487324,[.b 0],[],[(.t 3,a),(.t 4,a),(.t 49,a)],some 0,true,4,[],[],fun k (s:Int×Int×Int)=>o8 r k s.1 s.2.1 s.2.2,.f,fun(s:Int×Int×Int)=>(0≤s.2.2∧s.2.2≤(r.n:Int)),fun(s:Int×Int×Int)=>(toNat ((r.n:Int)-s.2.2)),none⟩ (.ae (.ae (.s (.ae (.s (.j ⟨154635456067904995420,[],[(.t 56,l),(.t 61,l),(.t 62,l),(.t 67,l)],[(.b .f .l),(.b .f .l),.f,.f],.f⟩ .z .z) .z)) .z))))) .z)))) ((n5 A g r)=false→(((0≤(0:Int)∧(0:Int)≤(r.n:Int)))∧(∀(e:Int) (f:Int) (b:Int),let h:=decide (b<(r.n:Int));let d:=i64.wrap (b+1);(0≤b∧b≤(r.n:Int))→((h=true→(0≤b∧b<(r.n:Int)))∧(h=true→((uU r e f b)=false→((0≤d∧d≤(r.n:Int))∧(toNat ((r.n:Int)-d))<(toNat ((r.n:Int)-b))))))))) (cu (aG LK aT)) Tryz.func18 ((fun c=>⟨(by have:=c;simp [n5]at this;omega),(fun e f b n=>⟨(fun i=>(by have:=c;simp [n5]at this;have:=al i;omega)),(fun j=>(fun m=>(by have:=c;simp [n5]at this;have:=al j;have:=m;simp [uU]at this;first|omega|(have:=E (b+1);omega))))⟩)⟩))
theorem eS(A g:Int)(r:G aq)(h:cz A g r=0):(0≤A∧A≤1048576)∧(0≤g∧g≤1048576)∧r.n≤200∧A+r.n≤1048576:=by
 unfold cz at h
 cases a:n5 A g r with
 |true=>rw[a]at h;simp at h
 |false=>
  simp [n5]at a;have:=E (1048576- (r.n:Int));omega
def oW:Int:=(cond (decide ((r.n:Int)>0)) (i64.wrap (A+(r.n:Int))) A)
def I0:Int:=(cond (decide ((r.n:Int)>0)) (r.at' (toNat (i64.wrap ((r.n:Int)-1)))).q g)
def ai6:ba:=⟨[.g [a,a,.ab dh]],fun A g r=>⟨⟨none,.c7 [b (oW A r),b (I0 g r)]⟩⟩⟩
theorem aee:bn 104 ai6:=bq Tryz.func104
 fun(A:Int) (g:Int) r d _=>bu ⟨.pure,[.tmp 2,.tmp 3],[(.t 0,a),(.t 1,a)],⟨[U,U],[]⟩⟩ (.z) (let b:=i64.wrap ((r.n:Int)-1);(decide ((r.n:Int)>0))=true→(0≤b∧b<(r.n:Int))) fb Tryz.func104 ((fun c=>(by have:=al c;have:=E ((r.n:Int)-1);omega)))
def j1:Int:=(cond ((cz A g r)!=0) 0 (oW A r))
def acP:Int:=(cond ((cz A g r)!=0) 0 (I0 g r))
def aqb:Int:=(cond ((cz A g r)!=0) (cz A g r) 0)
def ak_:ba:=⟨[.g [a,a,.ab dh]],fun A g r=>⟨⟨none,.c7 [b (j1 A g r),b (acP A g r),b (aqb A g r)]⟩⟩⟩
theorem aeF:bn 88 ak_:=bq Tryz.func88
 fun(A:Int) (g:Int) r _ _=>bu ⟨.pure,[.tmp 2,.tmp 3,.tmp 4],[(.t 0,a),(.t 1,a),(.t 2,a)],⟨[U,U,U],[]⟩⟩ (.z) True (cu (aG vh (aG aee aT))) Tryz.func88 (trivial)
def aqd:Bool:=(cond (decide (o>(I0 g r))) true (cond (o==(I0 g r)) (decide (h≥(oW A r))) false))
def su:Bool:=(cond ((cz A g r)!=0) false (aqd A g r h o))
def aqc:Int:=(cond ((cz A g r)!=0) (cz A g r) 0)
def ala:ba:=⟨[.g [a,a,.ab dh],.v a,.v a],fun A g r h o=>⟨⟨none,.c7 [.bool (su A g r h o),b (aqc A g r)]⟩⟩⟩
theorem Ul:bn 89 ala:=bq Tryz.func89
 fun(A:Int) (g:Int) r _ _ (h:Int) (o:Int)=>bu ⟨.pure,[.tmp 6,.tmp 7],[(.t 0,l),(.t 1,a)],⟨[U,U],[]⟩⟩ (.ae (.ae (.ae (.j ⟨192,[.b 0],[(.t 6,l)],[],.f⟩ .z .z)))) True (cu (aG vh (aG aee aT))) Tryz.func89 (trivial)
def jv:Int:=(cond (decide (h<A)) 0 (cond (h==A) g (cond (decide ((i64.wrap (h-A))>(r.n:Int))) 0 (r.at' (toNat (i64.wrap ((i64.wrap (h-A))-1)))).q)))
def gW:Int:=(cond (decide (h<A)) 11 (cond (h==A) 0 (cond (decide ((i64.wrap (h-A))>(r.n:Int))) 5 0)))
def ai7:ba:=⟨[.g [a,a,.ab dh],.v a],fun(A:Int) (g:Int) r (h:Int)=>⟨⟨some (0≤A∧A≤1048576∧h≤9223372036854775807),.c7 [b (jv A g r h),b (gW A r h)]⟩⟩⟩
theorem LH:bn 102 ai7:=bq Tryz.func102
 fun(A:Int) (g:Int) r m _ (h:Int) i=>bu ⟨.pure,[.tmp 4,.tmp 5],[(.t 0,a),(.t 1,a)],⟨[U,U],[]⟩⟩ (.z) (let b:=i64.wrap (h-A);let c:=i64.wrap (b-1);(decide (h<A))=false→((h==A)=false→((decide (b>(r.n:Int)))=false→(0≤c∧c<(r.n:Int))))) fb Tryz.func102 (have⟨j,k,l⟩:=i;(fun d=>(fun e=>(fun f=>(by have:=hy d;have:=cZ e;have:=hy f;have:=E (h-A);have:=E ((i64.wrap (h-A))-1);omega)))))
theorem y6(A:Int)(r:G aq)(h:Int):gW A r h=0∧(0≤A∧A≤1048576)∧r.n≤549755813888∧h≤9223372036854775807→A≤h∧h≤A+(r.n:Int):=fun⟨d,e,f,g⟩=>by
 simp only[gW]at d
 by_cases a:h<A
 ·simp [a]at d
 ·rw[E (h-A)]at d
  by_cases b:h=A
  ·omega
  ·by_cases c:h-A>(r.n:Int)
   ·rw[hx.2 b]at d;simp [a,c]at d
   ·omega
def xu:Bool:=(cond (decide (h<0)) true (decide (h>1048576)))
def iE:Int:=(cond ((cz A g r)!=0) 0 (cond (xu h) 0 (jv A g r h)))
def sv:Int:=(cond ((cz A g r)!=0) (cz A g r) (cond (xu h) 2 (gW A r h)))
def alb:ba:=⟨[.g [a,a,.ab dh],.v a],fun A g r h=>⟨⟨none,.c7 [b (iE A g r h),b (sv A g r h)]⟩⟩⟩
theorem LL:bn 94 alb:=bq Tryz.func94
 fun(A:Int) (g:Int) r d _ (h:Int)=>bu ⟨.pure,[.tmp 4,.tmp 5],[(.t 0,a),(.t 1,a)],⟨[U,U],[]⟩⟩ (.ae (.ae (.s (.j ⟨131126,[],[(.t 17,l)],[],.f⟩ .z .z) .z))) (((cz A g r)!=0)=false→((xu h)=false→(0≤A∧A≤1048576∧h≤9223372036854775807))) (cu (aG vh (aG LH aT))) Tryz.func94 ((fun b=>(fun c=>(by have:=eS _ _ _ (bB b);have:=c;simp [xu]at this;omega))))
end
section
variable(A:Int)(g:Int)(r:G aq)(h:Int)
def o_:Int:=(cond ((cz A g r)!=0) 0 (cond ((gW A r h)!=0) 0 h))
def AR:Int:=(cond ((cz A g r)!=0) 0 (cond ((gW A r h)!=0) 0 (jv A g r h)))
def qv:G aq:=(cond ((cz A g r)!=0) (D:G aq) (cond ((gW A r h)!=0) (D:G aq) (G.part r (i64.wrap (h-A)) (r.n:Int))))
def aqf:Int:=(cond ((cz A g r)!=0) (cz A g r) (cond ((gW A r h)!=0) (gW A r h) 0))
def ald:ba:=⟨[.g [a,a,.ab dh],.v a],fun(A:Int) (g:Int) r (h:Int)=>⟨⟨some (h≤9223372036854775807),.c7 [.agg [b (o_ A g r h),b (AR A g r h),aI 10 dU (qv A g r h)],b (aqf A g r h)]⟩⟩⟩
theorem aeG:bn 100 ald:=bq Tryz.func100
 fun(A:Int) (g:Int) r f _ (h:Int) e=>bu ⟨.pure,[.cell 4 43,.tmp 5],[(.c 0 0,a),(.c 0 1,a),(.c 0 2,.ab dh),(.t 1,a)],⟨[.agg (us 3 []),U],[]⟩⟩ (.z) (let c:=i64.wrap (h-A);((cz A g r)!=0)=false→((0≤A∧A≤1048576∧h≤9223372036854775807)∧(((gW A r h)!=0)=false→(((0:Int)≤c)∧((c:Int)≤(r.n:Int))∧(((r.n:Int):Int)≤(r.n:Int))∧(((r.n:Int):Int)≤(r.n:Int)))))) (cu (aG vh (aG LH (aG Bb aT)))) Tryz.func100 ((fun b=>⟨(by have:=eS _ _ _ (bB b);omega),(fun d=>(by have:=eS _ _ _ (bB b);have:=bB d;have:=y6 A r h;have:=E (h-A);omega))⟩))
end
section
variable(A:Int)(g:Int)(r:G aq)(h:Int)(o:Int)(c:Int)(v:G L)(y:Int)(p:G aw)
def nT:Bool:=(cond ((sv A g r h)==0) ((iE A g r h)==o) false)
def nR:Int:=(cond (nT A g r h o) (o_ A g r h) h)
def r6:Int:=(cond (nT A g r h o) (AR A g r h) o)
def nS:G aq:=(cond (nT A g r h o) (qv A g r h) (D:G aq))
def ajK:ba:=⟨[.g [a,a,.ab dh],.g [a,a,a,.ab bd,a,.ab bT]],fun(A:Int) (g:Int) r (h:Int) (o:Int) _ _ _ _=>⟨⟨some (h≤9223372036854775807),.agg [b (nR A g r h o),b (r6 A g r h o),aI 10 dU (nS A g r h o)]⟩⟩⟩
theorem aen:bn 107 ajK:=bq Tryz.func107
 fun(A:Int) (g:Int) r e _ (h:Int) (o:Int) (c:Int) v f _ (y:Int) p i _ d=>bu ⟨.pure,[.cell 4 43],[(.c 0 0,a),(.c 0 1,a),(.c 0 2,.ab dh)],⟨[.agg (us 3 [])],[]⟩⟩ (.ae (.s (.ae (.j ⟨8388636,[],[(.t 23,l)],[],.f⟩ .z .z)) .z)) ((nT A g r h o)=true→(h≤9223372036854775807)) (cu (aG LL (aG aeG aT))) Tryz.func107 ((fun b=>(by omega)))
def uZ:Int:=(cond ((cz A g r)!=0) 0 (cond ((lC h o c v y p)!=0) 0 (nR A g r h o)))
def SQ:Int:=(cond ((cz A g r)!=0) 0 (cond ((lC h o c v y p)!=0) 0 (r6 A g r h o)))
def u0:G aq:=(cond ((cz A g r)!=0) (D:G aq) (cond ((lC h o c v y p)!=0) (D:G aq) (nS A g r h o)))
def aqj:Int:=(cond ((cz A g r)!=0) (cz A g r) (cond ((lC h o c v y p)!=0) (lC h o c v y p) 0))
def alp:ba:=⟨[.g [a,a,.ab dh],.g [a,a,a,.ab bd,a,.ab bT]],fun(A:Int) (g:Int) r (h:Int) (o:Int) (c:Int) v (y:Int) p=>⟨⟨some (h≤9223372036854775807),.c7 [.agg [b (uZ A g r h o c v y p),b (SQ A g r h o c v y p),aI 10 dU (u0 A g r h o c v y p)],b (aqj A g r h o c v y p)]⟩⟩⟩
theorem avO:bn 92 alp:=bq Tryz.func92
 fun(A:Int) (g:Int) r f _ (h:Int) (o:Int) (c:Int) v i _ (y:Int) p j _ e=>bu ⟨.pure,[.cell 4 43,.tmp 5],[(.c 0 0,a),(.c 0 1,a),(.c 0 2,.ab dh),(.t 1,a)],⟨[.agg (us 3 []),U],[]⟩⟩ (.z) (((cz A g r)!=0)=false→(((lC h o c v y p)!=0)=false→(h≤9223372036854775807))) (cu (aG vh (aG aeL (aG aen aT)))) Tryz.func92 ((fun b=>(fun d=>(by omega))))
end
section
variable(A:Int)(g:G Int)
def ct:G Int:=(G.app g (G.lit ([(u8.wrap A)]:List Int)))
def ajs:b0:=⟨[.p 0,.v a],[(.h 1 0,.ad a5)],[[.own 1 0],[U]],fun(A:Int) g=>⟨⟨some (g.n≤400000000000),[],[[.own 1 ((ct A g)).n],[(aB.ad a5).av (ct A g)]]⟩⟩⟩
theorem Bc:dJ 131 ajs:=dL Tryz.func131
 fun(A:Int) g b a=>dI ⟨.heap,[],[(.h 1 0,.ad a5)],⟨[],[[.own 1 0],[U]]⟩⟩ (.z) (g.n+1≤549755813888) (bJ 2 aT bI) Tryz.func131 ((by omega))
theorem h4(A:Int)(g:G Int):(ct A g).n=g.n+1:=rfl
def Rh(A:Int):Nat→Int→G Int→G Int
 |0,_,_=>default
 |k+1,e,f=>(cond (decide (e≥0)) (Rh A k (i64.wrap (e-8)) (G.app f (G.lit ([(u8.wrap ((u64.wrap (i64.wrap (A+4611686018427387904)))/2^(toNat e)))]:List Int)))) f)
def aaQ:G Int:=Rh A ((toNat (56+8))+1) 56 g
def bb:G Int:=(aaQ A g)
def ajr:b0:=⟨[.p 0,.v a],[(.h 1 0,.ad a5)],[[.own 1 0],[U]],fun(A:Int) g=>⟨⟨some (g.n≤400000000000),[],[[.own 1 ((bb A g)).n],[(aB.ad a5).av (bb A g)]]⟩⟩⟩
theorem FO:dJ 130 ajr:=dL Tryz.func130
 fun(A:Int) g j i=>dI ⟨.heap,[],[(.h 1 0,.ad a5)],⟨[],[[.own 1 0],[U]]⟩⟩ (.ae (.ae (.cW ⟨49,[],[],[(.t 5,a),(.h 1 0,.ad a5)],some 0,false,0,[],[(.h 1 0,.ad a5)],fun k (s:Int×G Int)=>Rh A k s.1 s.2,.f,fun(s:Int×G Int)=>(s.1%8=0∧ -8≤s.1∧s.1≤56∧(s.2.n:Int)*8=(g.n:Int)*8+56-s.1),fun(s:Int×G Int)=>(toNat (s.1+8)),none⟩ .z))) ((((56:Int)%8=0∧ -8≤(56:Int)∧(56:Int)≤56∧(g.n:Int)*8=(g.n:Int)*8+56- (56:Int)))∧(∀(e:Int) (f:G Int),let b:=i64.wrap (e-8);(e%8=0∧ -8≤e∧e≤56∧(f.n:Int)*8=(g.n:Int)*8+56-e)→(((decide (e≥0))=true→(((0:Int)≤e∧(e:Int)≤64)∧(f.n+1≤549755813888)))∧((decide (e≥0))=true→((b%8=0∧ -8≤b∧b≤56∧(((f.n+1):Nat):Int)*8=(g.n:Int)*8+56-b)∧(toNat (b+8))<(toNat (e+8))))))) (bJ 2 aT bI) Tryz.func130 (⟨(by omega),(fun e f h=>⟨(fun c=>⟨(by have:=al c;omega),(by omega)⟩),(fun d=>(by have:=al d;have:=E (e-8);omega))⟩)⟩)
theorem eC(A:Int)(g:G Int):(bb A g).n=g.n+8:=by kernel_rfl
def cV(A:u)(g:G Int):G Int:=(G.app (ct ((A:u).size:Int) g) (G.ofStr A))
def ajt:b0:=⟨[.p 0,.v ai],[(.h 1 0,.ad a5)],[[.own 1 0],[U]],fun A g=>⟨⟨some (g.n≤300000000000∧A.size≤10000000000),[],[[.own 1 ((cV A g)).n],[(aB.ad a5).av (cV A g)]]⟩⟩⟩
theorem LJ:dJ 132 ajt:=dL Tryz.func132
 fun A d g e a=>dI ⟨.heap,[],[(.h 1 0,.ad a5)],⟨[],[[.own 1 0],[U]]⟩⟩ (.z) ((g.n≤400000000000)∧((ct ((A:u).size:Int) g).n+(A:u).size≤549755813888)) (bJ 2 aT (aj Bc bI)) Tryz.func132 (have⟨b,c⟩:=a;⟨(by omega),(by have:=h4 ((A:u).size:Int) g;omega)⟩)
theorem iq(A:u)(g:G Int):(cV A g).n=g.n+1+A.size:=rfl
def Ea(g:u)(r:u)(h:u)(o:Int)(c:G Int):G Int:=(bb o (cV h (cV r (cV g (ct A c)))))
def akp:b0:=⟨[.p 0,.g [a,ai,ai,ai,a]],[(.h 1 0,.ad a5)],[[.own 1 0],[U]],fun(A:Int) g r h (o:Int) c=>let b:=Ea A g r h o c;⟨⟨some (c.n≤200000000000∧g.size≤10000000000∧r.size≤10000000000∧h.size≤10000000000),[],[[.own 1 (b).n],[(aB.ad a5).av b]]⟩⟩⟩
theorem au4:dJ 195 akp:=dL Tryz.func195
 fun(A:Int) g j r k h l (o:Int) c m b=>dI ⟨.heap,[],[(.h 1 0,.ad a5)],⟨[],[[.own 1 0],[U]]⟩⟩ (.z) (let a:=cV g (ct A c);(c.n≤400000000000)∧(((ct A c).n≤300000000000∧g.size≤10000000000)∧((a.n≤300000000000∧r.size≤10000000000)∧(((cV r a).n≤300000000000∧h.size≤10000000000)∧((cV h (cV r a)).n≤400000000000))))) (bJ 2 aT (aj FO (aj Bc (aj LJ bI)))) Tryz.func195 (have⟨d,e,f,i⟩:=b;⟨(by omega),⟨(by have:=h4 A c;omega),⟨(by have:=iq g (ct A c);have:=h4 A c;omega),⟨(by have:=iq r (cV g (ct A c));have:=iq g (ct A c);have:=h4 A c;omega),(by have:=iq h (cV r (cV g (ct A c)));have:=iq r (cV g (ct A c));have:=iq g (ct A c);have:=h4 A c;omega)⟩⟩⟩⟩)
def D2(g:Int)(r:Int)(h:u)(o:u)(c:u)(v:Int)(y:G Int):G Int:=(cond (decide (A>0)) (Ea r h o c v (bb g (bb A y))) (bb A y))
def ajV:b0:=⟨[.p 0,.g [a,a,a,ai,ai,ai,a]],[(.h 1 0,.ad a5)],[[.own 1 0],[U]],fun(A:Int) (g:Int) (r:Int) h o c (v:Int) y=>let b:=D2 A g r h o c v y;⟨⟨some (y.n≤150000000000∧h.size≤10000000000∧o.size≤10000000000∧c.size≤10000000000),[],[[.own 1 (b).n],[(aB.ad a5).av b]]⟩⟩⟩
theorem auF:dJ 169 ajV:=dL Tryz.func169
 fun(A:Int) (g:Int) (r:Int) h j o k c l (v:Int) y m a=>dI ⟨.heap,[],[(.h 1 0,.ad a5)],⟨[],[[.own 1 0],[U]]⟩⟩ (.z) ((y.n≤400000000000)∧((decide (A>0))=true→(((bb A y).n≤400000000000)∧((bb g (bb A y)).n≤200000000000∧h.size≤10000000000∧o.size≤10000000000∧c.size≤10000000000)))) (bJ 2 aT (aj FO (aj au4 bI))) Tryz.func169 (have⟨d,e,f,i⟩:=a;⟨(by omega),(fun b=>⟨(by have:=eC A y;omega),(by have:=eC g (bb A y);have:=eC A y;omega)⟩)⟩)
def DC(g:Int)(r:Bool)(h:Int)(o:Int)(c:Int)(v:u)(y:u)(p:u)(x:Int)(R:G Int):G Int:=(cond r (ct 1 (bb g (bb A R))) (D2 h o c v y p x (ct 0 (bb g (bb A R)))))
def ai8:b0:=⟨[.p 0,.g [a,a,l,a,a,a,ai,ai,ai,a]],[(.h 1 0,.ad a5)],[[.own 1 0],[U]],fun(A:Int) (g:Int) r (h:Int) (o:Int) (c:Int) v y p (x:Int) R=>let b:=DC A g r h o c v y p x R;⟨⟨some (R.n≤100000000000∧v.size≤10000000000∧y.size≤10000000000∧p.size≤10000000000),[],[[.own 1 (b).n],[(aB.ad a5).av b]]⟩⟩⟩
theorem aub:dJ 158 ai8:=dL Tryz.func158
 fun(A:Int) (g:Int) r (h:Int) (o:Int) (c:Int) v m y n p q (x:Int) R l b=>dI ⟨.heap,[],[(.h 1 0,.ad a5)],⟨[],[[.own 1 0],[U]]⟩⟩ (.z) (let a:=bb g (bb A R);(R.n≤400000000000)∧(((bb A R).n≤400000000000)∧((r=true→(a.n≤400000000000))∧(r=false→((a.n≤400000000000)∧((ct 0 a).n≤150000000000∧v.size≤10000000000∧y.size≤10000000000∧p.size≤10000000000)))))) (bJ 2 aT (aj FO (aj Bc (aj auF bI)))) Tryz.func158 (have⟨f,i,j,k⟩:=b;⟨(by omega),⟨(by have:=eC A R;omega),⟨(fun d=>(by have:=eC g (bb A R);have:=eC A R;omega)),(fun e=>⟨(by have:=eC g (bb A R);have:=eC A R;omega),(by have:=h4 0 (bb g (bb A R));have:=eC g (bb A R);have:=eC A R;omega)⟩)⟩⟩⟩)
def o9(g:Int)(r:Bool)(h:Int)(o:Int)(c:Int)(v:u)(y:u)(p:u)(x:Int):G Int:=(cond ((e_ A g r h o c v y p x)!=0) (D:G Int) (DC A g r h o c v y p x (D:G Int)))
def aqe(g:Int)(r:Bool)(h:Int)(o:Int)(c:Int)(v:u)(y:u)(p:u)(x:Int):Int:=let a:=e_ A g r h o c v y p x;(cond (a !=0) a 0)
def alc:ba:=⟨[.g [a,a,l,a,a,a,ai,ai,ai,a]],fun(A:Int) (g:Int) r (h:Int) (o:Int) (c:Int) v y p (x:Int)=>⟨⟨some (v.size≤10000000000∧y.size≤10000000000∧p.size≤10000000000),.c7 [aI 1 cN (o9 A g r h o c v y p x),b (aqe A g r h o c v y p x)]⟩⟩⟩
theorem LM:bn 144 alc:=bq Tryz.func144
 fun(A:Int) (g:Int) r (h:Int) (o:Int) (c:Int) v j y k p l (x:Int) b=>bu ⟨.pure,[.tmp 2,.tmp 3],[(.t 0,.ab a5),(.t 1,a)],⟨[U,U],[]⟩⟩ (.ae (.ae (.ae (.s (.ix [(.h 1 0,a5)]) .z)))) (((e_ A g r h o c v y p x)!=0)=false→(0≤100000000000∧v.size≤10000000000∧y.size≤10000000000∧p.size≤10000000000)) (bJ 0 (aG LK aT) (aj aub bI)) Tryz.func144 (have⟨e,f,i⟩:=b;(fun d=>(by omega)))
end
def aa6:Nat→Int→Int→G Int→G Int
 |0,_,_,_=>default
 |k+1,e,f,aW=>(cond (decide (f≥0)) (aa6 k (i64.wrap (e.tdiv 256)) (i64.wrap (f-1)) (G.cp aW (toNat f) (u8.wrap (e.tmod 256)))) aW)
def apc(A:Int):G Int:=aa6 ((toNat (7+1))+1) (i64.wrap (A+4611686018427387904)) 7 (G.rep (toNat 8) (0:Int))
def D3(A:Int):G Int:=(apc A)
theorem awP(A:Int):(D3 A).n=8:=by kernel_rfl
def zX(A:u):G Int:=(QZ (G.lit ([(u8.wrap ((A:u).size:Int))]:List Int)) (G.ofStr A))
theorem awQ(A:u):A.size≤10000000000→(zX A).n=A.size+1:=fun h=>by
 unfold zX;rw[awL _ _ (by simp only[G.mj,G.ofStr,dr,fH];omega)];simp only[G.mj,G.ofStr,dr,fH];omega
theorem rY(n l h:Int):jV n l h=(decide (n≥l)&&decide (n≤h)):=by
 unfold jV Dw;cases decide (n≥l)<;>rfl
theorem ao7(x:u):kn x=wB x:=by
 unfold wB kn DA;rw[rY];cases decide ((x.size:Int)≥1)<;>rfl
theorem ao5(x:u):iX x=nO x:=rfl
theorem ao6(x:Int):iA x=IY x:=by
 unfold iA DB IY;rw[rY];cases decide (x≥(-1099511627776))<;>rfl
theorem ao8(x:Int):oV x=rZ x:=by
 unfold oV IZ rZ;rw[rY];cases decide (x≥1)<;>rfl
theorem Ov(s:G u)(a:s.n≤549755813888):Dv s=iH (fun i=> !(nO (s.at' (toNat i)))) s.n 0:=
 FF _ _ _ (nw (I8 s) s.n (fun i=> !(nO (s.at' (toNat i)))) (fun i=>i) a fun _ _=>rfl)
theorem Ox(s:G bl)(a:s.n≤549755813888):zJ s=iH (fun i=>zK (s.at' (toNat i)).q (s.at' (toNat i)).C) s.n 0:=
 FF _ _ _ (nw (I9 s) s.n (fun i=>zK (s.at' (toNat i)).q (s.at' (toNat i)).C) (fun i=>i) a fun _ _=>rfl)
theorem Oy(s:G bH)(a:s.n≤549755813888):zL s=iH (fun i=> !(nO (s.at' (toNat i)).q)) s.n 0:=
 FF _ _ _ (nw (I_ s) s.n (fun i=> !(nO (s.at' (toNat i)).q)) (fun i=>i) a fun _ _=>rfl)
theorem Oz(s:G bH)(a:s.n≤549755813888):DD s=iH (fun i=> !(iA (s.at' (toNat i)).C)) s.n 0:=
 FF _ _ _ (nw (Ja s) s.n (fun i=> !(iA (s.at' (toNat i)).C)) (fun i=>i) a fun _ _=>rfl)
theorem Ig{F:Bool×Int}{a:Int→Bool}{c:Int}{m:Nat}{i:Int}(h:F=scan a (fun _=>c) m i)(X:Int):(cond (cond F.1 false true) X F.2)=bif iH a m i then c else X:=by
 rw[h,aAP]
 cases iH a m i<;>rfl
theorem WA(a:G bl)(b:G u)(c:G bH)(d:a.n≤1048576)(e:b.n≤1048576)(f:c.n≤1048576):jW a b c=(a.n:Int)+b.n+c.n:=by
 unfold jW;rw[E ((a.n:Int)+b.n),E _]
theorem aAO(s:G u)(a:s.n≤549755813888):Ry s=scan (fun i=>zG (s.at' (toNat i))) (fun i=>i) s.n 0:=nw (I7 s) s.n _ _ a fun _ _=>rfl
theorem adt{a:Int→Bool} : ∀(m:Nat) (i:Int),iH a m i=false→ ∀j:Int,i≤j→j<i+m→a j=false
 |0,i,_,j,b,c=>by omega
 |m+1,i,h,j,b,c=>by
  simp only[iH,Cd]at h
  by_cases e:j=i
  ·rw[e];exact h.1
  ·exact adt m (i+1) h.2 j (by omega) (by omega)
theorem sM{a:Int→Bool}{n:Nat}(h:iH a n 0=false)(i:Nat)(b:i<n):a (i:Int)=false:=adt n 0 h i (by omega) (by omega)
theorem dv{b:Bool}{c X:Int}(h:(cond b c X)=0)(a:c≠0):b=false∧X=0:=by
 cases b with
 |true=>exact absurd h a
 |false=>exact⟨rfl,h⟩
theorem cP{a b:Bool}(h:(cond a true b)=false):a=false∧b=false:=by
 cases a with
 |true=>simp at h
 |false=>exact⟨rfl,h⟩
theorem db{p:Prop}[Decidable p](h:decide p=false): ¬p:=hy h
def rC(g:u)(r:Int)(h:G bl)(o:G u)(c:G bH):Prop:=
 (g.size≤20∧ -1099511627776≤r∧r≤1099511627776)∧(h.n≤20∧o.n≤20∧c.n≤20)∧(∀i,i<h.n→(h.at' i).q.size≤20∧(h.at' i).C.size≤20)∧(∀i,i<o.n→(o.at' i).size≤20)∧(∀i,i<c.n→(c.at' i).q.size≤20∧ -1099511627776≤(c.at' i).C∧(c.at' i).C≤1099511627776)
def rA(x:G u):Prop:=x.n≤20∧ ∀i,i<x.n→(x.at' i).size≤20
def Hj(x:L):Prop:=x.q.size≤20∧rC x.z x.I x.w x.m x.N∧0≤x.ao∧x.ao≤1073741824
def Om(x:aw):Prop:=((0≤x.q∧x.q≤1048577)∧(0≤x.C∧x.C≤1048576)∧(0≤x.z∧x.z≤1073741824))∧((0≤x.I∧x.I≤13)∧x.w.size≤20∧ -1099511627776≤x.m∧x.m≤1099511627776)∧rA x.N
def Hr(A:Int)(g:G L)(r:Int)(h:G aw):Prop:=((0≤A∧A≤1073741824)∧(1≤r∧r≤1048577)∧g.n≤12∧h.n≤4)∧(∀i,i<g.n→Hj (g.at' i))∧(∀i,i<h.n→Om (h.at' i))
theorem jF{g:u}{r:Int}{h:G bl}{o:G u}{c:G bH}(a:rC g r h o c):rA o:=⟨a.2.1.2.1,a.2.2.2.1⟩
def dt(s:G L):Prop:=s.n≤549755813888∧ ∀i,i<s.n→(s.at' i).w.n≤549755813888∧(s.at' i).m.n≤549755813888∧(s.at' i).N.n≤549755813888
def ey(s:G aw):Prop:=s.n≤549755813888∧ ∀i,i<s.n→(s.at' i).N.n≤549755813888
theorem MM{x:u}(h:(!(nO x))=false):x.size≤20:=by
 unfold nO at h
 by_cases a:(x.size:Int)≤20
 ·omega
 ·simp [a]at h
theorem aAI{x:u}(h:(!(kn x))=false):x.size≤20:=by
 unfold kn DA at h
 by_cases a:(x.size:Int)≤12
 ·omega
 ·simp [a]at h
theorem ahf{x:Int}(h:(!(iA x))=false): -1099511627776≤x∧x≤1099511627776:=by
 unfold iA DB at h
 by_cases a:x≥ -1099511627776
 ·by_cases b:x≤1099511627776
  ·omega
  ·simp [b]at h
 ·simp [a]at h
theorem Ow(s:G u)(a:s.n≤549755813888):Du s=iH (fun i=>zG (s.at' (toNat i))) s.n 0:=FF _ _ _ (aAO s a)
theorem B0(a:G bl)(b:G u)(c:G bH)(d:a.n≤549755813888)(e:b.n≤549755813888)(f:c.n≤549755813888):jW a b c=(a.n:Int)+b.n+c.n:=by
 unfold jW;rw[E ((a.n:Int)+b.n),E _]
theorem amY(A:Int)(g:u)(r:Int)(h:G u)(w:h.n≤549755813888)(a:qt A g r h=0):((0≤A∧A≤13)∧g.size≤20∧ -1099511627776≤r∧r≤1099511627776)∧rA h:=by
 unfold qt at a;obtain⟨b,a⟩:=dv a (by decide);obtain⟨c,a⟩:=dv a (by decide);obtain⟨d,a⟩:=dv a (by decide);obtain⟨e,_⟩:=dv a (by decide);unfold acG at b;unfold SK at c;unfold acH at e;obtain⟨f,j⟩:=cP b;obtain⟨k,l⟩:=cP c;obtain⟨m,n⟩:=cP e;have p:=db f;have z:=db j;have q:=db k;have s:=db l;have t:=db m;have v:=db n;refine⟨⟨⟨by omega,by omega⟩,by omega,by omega,by omega⟩,by omega,fun i o=> ?_⟩;rw[Ow _ (by omega)]at d;have:=sM d i o;simp only[fN,zG]at this;have:=db this;omega
theorem YR(A:Int)(g:u)(r:Int)(e:G bl)(f:G u)(j:G bH)(l:e.n≤549755813888)(m:f.n≤549755813888)(n:j.n≤549755813888)(h:jb A g r e f j=0):rC g r e f j:=by
 unfold jb at h;obtain⟨o,h⟩:=dv h (by decide);obtain⟨a,h⟩:=dv h (by decide);obtain⟨b,h⟩:=dv h (by decide);obtain⟨p,h⟩:=dv h (by decide);obtain⟨q,h⟩:=dv h (by decide);obtain⟨s,h⟩:=dv h (by decide);obtain⟨t,_⟩:=dv h (by decide);have E:e.n≤20∧f.n≤20∧j.n≤20:=by
  unfold sw at o;obtain⟨k,d⟩:=cP o;have w:=db k;have z:=db d
  by_cases C:A=1
  ·subst C;unfold l_ sx sy sz at a;simp only[pM,aQ]at a;obtain⟨_,a⟩:=cP a;obtain⟨_,a⟩:=cP a;rw[B0 _ _ _ l m n]at a;have:=db a;omega
  ·by_cases D:A=2
   ·subst D;unfold l_ sx sy sz at a;simp only[pM,Int.reduceBEq,aQ,aS]at a;obtain⟨_,a⟩:=cP a;obtain⟨_,a⟩:=cP a;rw[B0 _ _ _ l m n]at a;have:=db a;omega
   ·unfold n7 at b;rw[bS (show A≥3 by omega)]at b;simp only[aQ]at b;obtain⟨_,b⟩:=cP b;rw[B0 _ _ _ l m n]at b;have:=db b;omega
 unfold qy at p;obtain⟨k,d⟩:=cP p;unfold qx at t;obtain⟨B,v⟩:=cP t;rw[Ov _ (by omega)]at d;rw[Ox _ (by omega)]at q;rw[Oy _ (by omega)]at s;rw[Oz _ (by omega)]at v;refine⟨⟨MM k,ahf B⟩,E,fun i c=> ?_,fun i c=> ?_,fun i c=> ?_⟩
 ·have:=sM q i c;simp only[fN,zK,aaM]at this;obtain⟨w,z⟩:=cP this;exact⟨aAI w,MM z⟩
 ·have:=sM d i c;simp only[fN]at this;exact MM this
 ·have x:=sM s i c;have y:=sM v i c;simp only[fN]at x y;exact⟨MM x,ahf y⟩
theorem am1(A:Int)(g:u)(r:Int)(a:G bl)(b:G u)(c:G bH)(d:a.n≤1048576)(e:b.n≤1048576)(f:c.n≤1048576)(h:jb A g r a b c=0):rC g r a b c:=YR A g r a b c (by omega) (by omega) (by omega) h
theorem YS(A:Int)(s:G L)(c:dt s)(h:hp A s=0):((0≤A∧A≤1073741824)∧s.n≤12)∧ ∀i,i<s.n→Hj (s.at' i):=by
 have x:=c.1;unfold hp at h;obtain⟨b,h⟩:=dv h (by decide);unfold uX at b;obtain⟨f,b⟩:=cP b;obtain⟨g,j⟩:=cP b;have t:=db f;have z:=db g;have u:=db j;have n:E6 A s=scan (fun i=>ma s i||nc A s i) (fun _=>13) s.n 0:=nw (pa A s) s.n _ _ (by omega) fun k i=>by
  show(cond (decide (i<(s.n:Int))) (cond (ma s i) (true,13) (cond (nc A s i) (true,13) (pa A s k (i64.wrap (i+1))))) (false,default))=_;rw[CG]
 unfold Kr at h;rw[Ig n]at h;obtain⟨hh,_⟩:=dv h (by decide);refine⟨⟨⟨by omega,by omega⟩,by omega⟩,fun i d=> ?_⟩;have q:=sM hh i d;simp only[Cd]at q;obtain⟨q1,a⟩:=q;obtain⟨o,p,r⟩:=c.2 i d;unfold ma at q1;unfold nc at a;simp only[fN]at q1 a;obtain⟨v,q1⟩:=cP q1;obtain⟨l,q1⟩:=cP q1;obtain⟨d3,q1⟩:=cP q1;have w:=db l;refine⟨by omega,YR _ _ _ _ _ _ o p r (bB d3),?_⟩
 by_cases e:(s.at' i).ao=0
 ·rw[e];omega
 ·rw[show((s.at' i).ao !=0)=true by simp [e]]at a;simp only[aQ]at a;obtain⟨m,d5⟩:=cP a;have:=db m;have:=db d5;omega
theorem gU(A:Int)(g:G L)(r:Int)(h:G aw)(t:dt g)(e:ey h)(c:dV A g r h=0):Hr A g r h:=by
 have J:=e.1;unfold dV at c;obtain⟨b,c⟩:=dv c (by decide);unfold sD at b;obtain⟨f,b⟩:=cP b;obtain⟨j,b⟩:=cP b;obtain⟨l,m⟩:=cP b;have z:=db j;have C:=db l;have D:=db m;obtain⟨⟨x,y⟩,B⟩:=YS A g t (bB f);have u:KD A r h=scan (fun i=>sF r h i||sE A h i) (fun _=>13) h.n 0:=nw (sC A r h) h.n _ _ (by omega) fun k i=>by
  show(cond (decide (i<(h.n:Int))) (cond (sF r h i) (true,13) (cond (sE A h i) (true,13) (sC A r h k (i64.wrap (i+1))))) (false,default))=_;rw[CG]
 unfold SN at c;rw[Ig u]at c;obtain⟨hh,_⟩:=dv c (by decide);refine⟨⟨x,⟨by omega,by omega⟩,y,by omega⟩,B,fun i d=> ?_⟩;have q:=sM hh i d;simp only[Cd]at q;obtain⟨q1,a⟩:=q;unfold sF at q1;unfold sE at a;simp only[fN]at q1 a;obtain⟨n,q1⟩:=cP q1;obtain⟨o,_⟩:=cP q1;obtain⟨d3,a⟩:=cP a;obtain⟨p,a⟩:=cP a;obtain⟨d5,a⟩:=cP a;obtain⟨s,a⟩:=cP a;have E:=db n;have F:=db o;have aZ:=db d3;have H:=db p;have cN:=db d5;have I:=db s;obtain⟨v,w⟩:=amY _ _ _ _ (e.2 i d) (bB a);exact⟨⟨⟨by omega,by omega⟩,⟨by omega,by omega⟩,⟨by omega,by omega⟩⟩,v,w⟩
theorem anE(A:Int)(g r h:u)(o:Int):(e3 A g r h o==E2 A g r h o)=true:=by
 by_cases n:1≤A∧A≤22
 ·have m:A=1∨A=2∨A=3∨A=4∨A=5∨A=6∨A=7∨A=8∨A=9∨A=10∨A=11∨A=12∨A=13∨A=14∨A=15∨A=16∨A=17∨A=18∨A=19∨A=20∨A=21∨A=22:=by omega
  unfold e3 E2 qu Kd J_ AM E1 xp xo xn xm acL acK E3 acJ;simp only[ao7,ao5,ao6,rY];generalize wB g=b;generalize wB r=c;generalize nO h=d;generalize IY o=e;rcases m with rfl|rfl|rfl|rfl|rfl|rfl|rfl|rfl|rfl|rfl|rfl|rfl|rfl|rfl|rfl|rfl|rfl|rfl|rfl|rfl|rfl|rfl<;>
  simp only[Int.reduceBEq,Int.reduceLE,Int.reduceLT,ge_iff_le,gt_iff_lt,vz,yG,Bool.and_true,Bool.true_and,Bool.and_false,aQ,aS,Bool.not_true,Bool.not_false,pM,bne]<;>
  (generalize (g.toList==ByteArray.toList ⟨#[]⟩)=f;generalize (r.toList==ByteArray.toList ⟨#[]⟩)=i;generalize (h.toList==ByteArray.toList ⟨#[]⟩)=aZ;generalize (o==0)=j
   revert f i aZ j b c d e;decide)
 ·unfold e3 E2 xm;have k:jV A 1 22=false:=by rw[rY];simp;omega
  have l:(cond (decide (A<1)) true (decide (A>22)))=true:=by
   by_cases a:A<1
   ·simp [a]
   ·simp [a];omega
  rw[k,l];rfl
theorem ap9(A:Int)(g r h:u)(o:Int):e3 A g r h o=E2 A g r h o:=eq_of_beq (anE A g r h o)
theorem ap_(A g r:Int)(h o c:u)(v:Int):hd A g r h o c v=SL A g r h o c v:=by
 unfold hd SL E4 acM acN;rw[ap9];simp only[ao8,bne]
 cases A==0
 ·rfl
 ·simp only[aQ,Bool.true_and]
  cases g==0<;>simp
theorem aqa(A g:Int)(r:Bool)(h o c:Int)(v y p:u)(x:Int):e_ A g r h o c v y p x=sr A g r h o c v y p x:=by
 unfold e_ sr;have l:AN A g=xq A g:=by
  unfold AN xq rZ;simp only[rY]
  by_cases a:A<1
  ·have: ¬(1≤A):=by omega
   simp [a,this]
  ·have e:1≤A:=by omega
   by_cases b:A>1048576
   ·have: ¬(A≤1048576):=by omega
    simp [b,this]
   ·have f:A≤1048576:=by omega
    by_cases i:g<0
    ·have: ¬(0≤g):=by omega
     simp [a,b,i,e,f,this]
    ·have j:0≤g:=by omega
     by_cases d:g>1073741824
     ·have: ¬(g≤1073741824):=by omega
      simp [a,b,i,d,e,f,j,this]
     ·have k:g≤1073741824:=by omega
      simp [a,b,i,d,e,f,j,k]
 rw[l,ap_]
 cases xq A g<;>cases r<;>rfl
end Go.Proofs.YtfmgjpcmcjjoiaaGreatDoor
namespace Go.af
open Go Go.RowKit
section
variable {α:Type}
def G.B(s:G α):List α:=(List.range s.n).map s.at'
theorem a_(s:G α):s.B.length=s.n:=by simp [G.B]
theorem gy(s:G α){i:Nat}(h:i<s.n):s.B[i]? =some (s.at' i):=by simp [G.B,h]
theorem jm(s t:G α):(s.app t).B=s.B++t.B:=by
 apply vE;intro i
 by_cases h:i<s.n
 ·rw[gy _ (by simp only[G.oH];omega),tu (by rw[a_];exact h),gy _ h];simp only[G.app,amj h,aQ]
 ·by_cases a:i<s.n+t.n
  ·rw[gy _ (by simp only[G.oH];omega),Ca (by rw[a_];omega),a_,gy _ (by omega)];simp only[G.app,ami (show s.n≤i by omega),aS]
  ·rw[eF (by rw[a_,G.oH];omega),eF (by rw[dC,a_,a_];omega)]
theorem jn[Inhabited α](l:List α):(G.lit l).B=l:=by
 apply vE;intro i
 by_cases h:i<l.length
 ·rw[gy _ (by simp only[G.mj];exact h)];simp only[G.lit,List.getD,cI h,kM]
 ·rw[eF (by rw[a_,G.mj];omega),eF (by omega)]
theorem vG[Inhabited α]:(D:G α).B=[]:=rfl
theorem pO(s:G α)(a b:Int)(c:0≤a)(d:a≤b)(e:b≤s.n):(s.part a b).B=(s.B.drop a.toNat).take (b-a).toNat:=by
 apply vE;intro i
 by_cases h:i<(b-a).toNat
 ·rw[gy _ (by simp only[G.tc];exact h),G7,bf h,ou,gy _ (by omega)];rfl
 ·rw[eF (by rw[a_,G.tc];omega),eF (by rw[jj];omega)]
theorem Xk(s:G α)(i:Nat)(x:α):(s.cp i x).B=s.B.set i x:=by
 apply vE;intro j
 by_cases h:j<s.n
 ·rw[gy _ (by simp only[G.ahW];exact h)];simp only[G.cp]
  by_cases e:j=i
  ·subst e;rw[nz,List.getElem?_set_self (by rw[a_];exact h)];rfl
  ·have:Nat.beq j i=false:=by
    cases a:Nat.beq j i with
    |false=>rfl
    |true=>exact absurd (dQ a) e
   rw[this,Cc (fun h=>e h.symm),gy _ h];rfl
 ·rw[eF (by rw[a_,G.ahW];omega),eF (by rw[List.length_set,a_];omega)]
theorem aix(n:Nat)(x:α):(G.rep n x).B=List.replicate n x:=by
 apply vE;intro j
 by_cases h:j<n
 ·rw[gy _ (by simp only[G.agS];exact h),WW,bf h];rfl
 ·rw[eF (by rw[a_,G.agS];omega),eF (by simp;omega)]
end
def MT(l:List Int):u:=⟨(l.map fun z=>UInt8.ofNat z.toNat).toArray⟩
theorem aBC(s:G Int):G.toStr s=MT s.B:=by
 unfold G.toStr bytesOf MT G.B;rw[List.map_map];rfl
theorem P6{α:Type}[Inhabited α](F:Nat→Int→G α→G α)(t:G α)(e:t.n≤549755813888)(a: ∀k i s,F (k+1) i s=bif decide (i<(t.n:Int))then F k (i64.wrap (i+1)) (G.app s (G.lit [t.at' (toNat i)]))else s):
  ∀(m:Nat) (i:Nat) (s:G α),m=t.n-i→i≤t.n→(F (m+1) (i:Int) s).B=s.B++t.B.drop i
 |0,i,s,d,c=>by
  have: ¬((i:Int)<(t.n:Int)):=by omega
  rw[a];simp only[this,yG,aS];rw[List.drop_eq_nil_of_le (by rw[a_];omega),h_]
 |m+1,i,s,d,c=>by
  have f:(i:Int)<(t.n:Int):=by omega
  rw[a];simp only[f,vz,aQ];rw[E _,show(i:Int)+1=((i+1:Nat):Int) by omega,P6 F t e a m (i+1) _ (by omega) (by omega),jm,jn,eZ]
  congr 1
  rw[fN];have b:i<t.B.length:=by rw[a_];omega
  rw[tx b];have:=gy t (show i<t.n by omega);rw[cI b]at this;rw[jk this];rfl
end Go.af
namespace Go.Proofs.YtfmgjpcmcjjoiaaGreatDoor
open Go Go.RowKit Go.af
def fL(x:Int)(s:Nat):Int:=u8.wrap ((u64.wrap (i64.wrap (x+4611686018427387904)))/2^s)
theorem WZ(A:Int)(g:G Int):(bb A g).B=g.B++[fL A 56,fL A 48,fL A 40,fL A 32,fL A 24,fL A 16,fL A 8,fL A 0]:=by
 have h:bb A g=G.app (G.app (G.app (G.app (G.app (G.app (G.app (G.app g (G.lit [fL A 56])) (G.lit [fL A 48])) (G.lit [fL A 40])) (G.lit [fL A 32])) (G.lit [fL A 24])) (G.lit [fL A 16])) (G.lit [fL A 8])) (G.lit [fL A 0]):=by kernel_rfl
 rw[h];simp only[jm,jn,eZ,vF,pK]
def mo(y:Int):Nat→Int
 |0=>y
 |k+1=>i64.wrap ((mo y k).tdiv 256)
def gw(y:Int)(k:Nat):Int:=u8.wrap ((mo y k).tmod 256)
theorem air(A:Int):(D3 A).B=[gw (i64.wrap (A+4611686018427387904)) 7,gw (i64.wrap (A+4611686018427387904)) 6,gw (i64.wrap (A+4611686018427387904)) 5,gw (i64.wrap (A+4611686018427387904)) 4,gw (i64.wrap (A+4611686018427387904)) 3,gw (i64.wrap (A+4611686018427387904)) 2,gw (i64.wrap (A+4611686018427387904)) 1,gw (i64.wrap (A+4611686018427387904)) 0]:=by
 generalize a:i64.wrap (A+4611686018427387904)=y;have h:D3 A=G.cp (G.cp (G.cp (G.cp (G.cp (G.cp (G.cp (G.cp (G.rep 8 0) 7 (gw (i64.wrap (A+4611686018427387904)) 0)) 6 (gw (i64.wrap (A+4611686018427387904)) 1)) 5 (gw (i64.wrap (A+4611686018427387904)) 2)) 4 (gw (i64.wrap (A+4611686018427387904)) 3)) 3 (gw (i64.wrap (A+4611686018427387904)) 4)) 2 (gw (i64.wrap (A+4611686018427387904)) 5)) 1 (gw (i64.wrap (A+4611686018427387904)) 6)) 0 (gw (i64.wrap (A+4611686018427387904)) 7):=by kernel_rfl
 rw[h,a];simp only[Xk,aix];rfl
theorem agE(y:Int)(d:0≤y)(g:y<9223372036854775808): ∀k,0≤mo y k∧mo y k≤y∧mo y k=y/2^(8*k)
 |0=>⟨d,cR _,by simp [mo]⟩
 |k+1=>by
  obtain⟨a,b,c⟩:=agE y d g k;have e:(mo y k).tdiv 256=mo y k/256:=Int.tdiv_eq_ediv_of_nonneg a;have h:0≤mo y k/256:=by omega
  have aZ:mo y k/256≤mo y k:=by omega
  have f:mo y (k+1)=mo y k/256:=by
   simp only[mo,e];exact E _
  refine⟨by omega,by omega,?_⟩;rw[f,c,Int.ediv_ediv_of_nonneg (Int.pow_nonneg (by omega)),show(256:Int)=2^8 by decide,←Int.pow_add,show 8*k+8=8*(k+1) by omega]
theorem tR(x:Int)(k:Nat)(d:0≤x+4611686018427387904)(e:x+4611686018427387904<9223372036854775808):gw (i64.wrap (x+4611686018427387904)) k=fL x (8*k):=by
 have g:i64.wrap (x+4611686018427387904)=x+4611686018427387904:=E _;have f:u64.wrap (x+4611686018427387904)=x+4611686018427387904:=by
  rw[IntKind.wrap_u64];omega
 unfold gw fL;rw[g,f];obtain⟨a,b,c⟩:=agE _ d e k;rw[c]at a ⊢;rw[IntKind.wrap_u8,IntKind.wrap_u8,Int.tmod_eq_emod_of_nonneg a];omega
theorem ais(A:Int)(g:G Int)(a:0≤A+4611686018427387904)(b:A+4611686018427387904<9223372036854775808):(bb A g).B=g.B++(D3 A).B:=by
 rw[WZ,air];rw[tR A 7 a b,tR A 6 a b,tR A 5 a b,tR A 4 a b,tR A 3 a b,tR A 2 a b,tR A 1 a b,tR A 0 a b]
theorem aip(A g:G Int)(h:A.n+g.n≤549755813888):(QZ A g).B=A.B++g.B:=by
 have a:(Dr A).B=[]++A.B.drop 0:=P6 (zD A) A (by omega) (fun _ _ _=>rfl) _ 0 D (by omega) (by omega);have b:(Ds A g).B=(Dr A).B++g.B.drop 0:=P6 (zE g) g (by omega) (fun _ _ _=>rfl) _ 0 _ (by omega) (by omega);show(Ds A g).B=_;rw[b,a];rfl
theorem t119(x:Int):oV x=true→1≤x∧x≤1048576:=by
 intro h;simp only[oV,IZ]at h
 by_cases a:x≥1
 ·simp [a]at h;omega
 ·simp [a]at h
theorem t117(x:Int):iA x=true→ -1099511627776≤x∧x≤1099511627776:=by
 intro h;simp only[iA,DB]at h
 by_cases a:x≥ -1099511627776
 ·simp [a]at h;omega
 ·simp [a]at h
theorem t47(A:Int)(g r h:u)(o:Int)(a:e3 A g r h o=0): -1099511627776≤o∧o≤1099511627776:=by
 unfold e3 at a
 cases c:xm A with
 |true=>rw[c]at a;cases a
 |false=>
  rw[c]at a;simp only[aS]at a;generalize (!((A==A)&&((g.toList==(E1 A g).toList)&&((r.toList==(AM A r).toList)&&((h.toList==(J_ A h).toList)&&((o==Kd A o)&&true))))))=b at a
  cases b with
  |true=>cases a
  |false=>
   simp only[aS]at a
   cases d:qu A g r h with
   |true=>rw[d]at a;cases a
   |false=>
    rw[d]at a;simp only[aS]at a
    cases e:iA o with
    |true=>exact t117 o e
    |false=>rw[e]at a;cases a
theorem t49(A g r:Int)(h o c:u)(v:Int)(b:hd A g r h o c v=0):A=0∨((1≤A∧A≤1048576)∧(1≤g∧g≤1048576)∧ -1099511627776≤v∧v≤1099511627776):=by
 unfold hd at b
 by_cases a:A=0
 ·exact .inl a
 ·rw[hx.2 a]at b;simp only[aS,E4]at b
  cases d:oV A with
  |false=>rw[d]at b;cases b
  |true=>
   cases e:oV g with
   |false=>rw[d,e]at b;cases b
   |true=>
    rw[d,e]at b;exact .inr ⟨t119 _ d,t119 _ e,t47 _ _ _ _ _ b⟩
theorem t51(A g:Int)(r:Bool)(h o c:Int)(v y p:u)(x:Int)(d:e_ A g r h o c v y p x=0):((1≤A∧A≤1048576)∧0≤g∧g≤1073741824)∧(r=false→hd h o c v y p x=0):=by
 unfold e_ at d
 cases f:AN A g with
 |true=>rw[f]at d;cases d
 |false=>
  rw[f]at d;simp only[aS]at d;refine⟨?_,fun e=>by rw[e]at d;exact d⟩;unfold AN at f
  by_cases a:A<1
  ·simp [a]at f
  ·by_cases b:A>1048576
   ·simp [a,b]at f
   ·by_cases i:g<0
    ·simp [a,b,i]at f
    ·simp [a,b,i]at f;omega
theorem ait(x:u)(h:x.size≤10000000000)(w:G Int):(cV x w).B=w.B++(zX x).B:=by
 have a:(zX x).B=[u8.wrap (x.size:Int)]++(G.ofStr x).B:=by
  unfold zX;rw[aip _ _ (by simp only[G.mj,G.ofStr,dr,fH];omega),jn]
 rw[a];unfold cV ct;rw[jm,jm,jn,eZ]
end Go.Proofs.YtfmgjpcmcjjoiaaGreatDoor
namespace Go.af
open Go Go.RowKit
def cat{β:Type}(f:Nat→List β):Nat→Nat→List β
 |0,_=>[]
 |m+1,i=>f i++cat f m (i+1)
theorem y4{β:Type}{f:Nat→List β}{D:Nat} : ∀m i,(∀j,i≤j→j<i+m→(f j).length≤D)→(cat f m i).length≤m*D
 |0,_,_=>by simp [cat]
 |m+1,i,h=>by
  simp only[cat,dC];have a:=h i (bC _) (by omega);have b:=y4 m (i+1) fun j a b=>h j (by omega) (by omega);rw[ir];omega
theorem aff{α:Type}(F:Nat→Int→G α→G α)(n D L:Nat)(step:Int→G α→G α)(f:Nat→List α)(h:n≤549755813888)
  (a: ∀k i s,F (k+1) i s=bif decide (i<(n:Int))then F k (i64.wrap (i+1)) (step i s)else s)
  (d: ∀(i:Nat) (s:G α),i<n→s.n≤L+i*D→(step (i:Int) s).B=s.B++f i∧(f i).length≤D):
  ∀(m i:Nat) (s:G α),i+m=n→s.n≤L+i*D→(F (m+1) (i:Int) s).B=s.B++cat f m i
 |0,i,s,g,c=>by
  rw[a,bp (show¬((i:Int)<(n:Int)) by omega)];simp only[aS,cat,h_]
 |m+1,i,s,g,c=>by
  obtain⟨b,j⟩:=d i s (by omega) c;rw[a,bS (show(i:Int)<(n:Int) by omega)];simp only[aQ];have e:(step (i:Int) s).n≤L+(i+1)*D:=by
   rw[←a_,b,dC,a_,ir];omega
  rw[E _,show(i:Int)+1=((i+1:Nat):Int) by omega,aff F n D L step f h a d m (i+1) _ (by omega) e,b,eZ];rfl
theorem Bj{α:Type}(F:Nat→Int→G α→G α)(n D L:Nat)(step:Int→G α→G α)(f:Nat→List α)(b:n≤549755813888)
  (a: ∀k i s,F (k+1) i s=bif decide (i<(n:Int))then F k (i64.wrap (i+1)) (step i s)else s)
  (c: ∀(i:Nat) (s:G α),i<n→s.n≤L+i*D→(step (i:Int) s).B=s.B++f i∧(f i).length≤D) (s:G α) (d:s.n≤L):
  (F (toNat ((n:Int)-0)+1) 0 s).B=s.B++cat f n 0:=by
 have:=aff F n D L step f b a c n 0 s (by omega) (by omega);rw[show toNat ((n:Int)-0)=n by omega];exact this
end Go.af
namespace Go.Proofs.YtfmgjpcmcjjoiaaGreatDoor
open Go Go.RowKit Go.af
def au(x:Int):List Int:=(D3 x).B
def fu(x:u):List Int:=(zX x).B
def tj(x:Int):List Int:=[u8.wrap x]
theorem F5(x:Int):(au x).length=8:=by unfold au;rw[a_,awP]
theorem aBs(x:u)(h:x.size≤10000000000):(fu x).length=x.size+1:=by unfold fu;rw[a_,awQ x h]
theorem MN(x:Int):(tj x).length=1:=rfl
theorem tt{x:Int}(w:G Int)(a: -4611686018427387904≤x)(b:x<4611686018427387904):(bb x w).B=w.B++au x:=ais x w (by omega) (by omega)
theorem yE{x:u}(w:G Int)(h:x.size≤10000000000):(cV x w).B=w.B++fu x:=ait x h w
theorem yD(x:Int)(w:G Int):(ct x w).B=w.B++tj x:=by unfold ct;rw[jm,jn];rfl
def acZ:Go.Shelf.Ren:=⟨fun n=>bif n==4 then 145 else n,fun n=>bif n==22 then 83 else bif n==25 then 5 else n,fun x=>x⟩
theorem acY:Lays8.n4 Tryz.prog acZ where
 mixed:=by kernel_rfl
 f4:=⟨Tryz.f145.name,by kernel_rfl,by kernel_rfl⟩
 t0:=Tryz.underlying0
 a0:=Tryz.isAgg0
 z0:=Tryz.sizeOf0
 v0:=Tryz.zeroValue0
 t3:=Tryz.underlying3
 a3:=Tryz.isAgg3
 z3:=Tryz.sizeOf3
 v3:=Tryz.zeroValue3
 t4:=Tryz.underlying4
 a4:=Tryz.isAgg4
 z4:=Tryz.sizeOf4
 v4:=Tryz.zeroValue4
 t9:=Tryz.underlying9
 a9:=Tryz.isAgg9
 z9:=Tryz.sizeOf9
 v9:=Tryz.zeroValue9
 t20:=Tryz.underlying20
 a20:=Tryz.isAgg20
 z20:=Tryz.sizeOf20
 v20:=Tryz.zeroValue20
 t22:=Tryz.underlying83
 a22:=Tryz.isAgg83
 z22:=Tryz.sizeOf83
 v22:=Tryz.zeroValue83
theorem aqq(w:World)(F:Nat→Prop)(G:Nat)(C:Array Value)(T:TypeId)(f:Nat→List J)(a:C.size=G):
  ∃v,Ending.returned (.slice (some ⟨w.heap.size,0,none⟩) 0 G)= .returned v∧pW w.heap.size (w.drew.alloc (.cells C T)) F (.ad false 1 0 f) v∧Below w.heap.size w (w.drew.alloc (.cells C T)):=
 ⟨_,rfl,.inr ⟨w.heap.size,G,C,T,bC _,(rh.1 (rk w.drew (.cells C T))).1,rfl,cf _,cf _,rk w.drew _,by rw[a,Nat.mul_one],fun i j b=>absurd b (en i)⟩,(Below.drew (Below.refl _ w)).alloc (bC _) _⟩
theorem ay2(n:Int)(l:0≤n)(c:n≤549755813888):e1 Tryz.prog 145 [.aA,b n] ((aB.ad a5).av (D:G Int)):=by
 intro w F k s o;obtain⟨m,rfl⟩:=Ce l;have e:k=[.slice none 0 0,.int .i64 (m:Int)]:=by
  match k,o with
  |[a,r],⟨j,d,_⟩=>
   simp only[fl]at j d
   cases j;cases d;rfl
 subst e;rcases vC m with h|h
 ·subst h;refine Calls.mono (Any8.slices_Grow_room acY none 0 0 0 w (by omega) (by omega) (by omega) (by omega)) fun e w' ⟨c,g⟩=> ?_;subst g;exact⟨_,c,.inl ⟨rfl,rfl⟩,Below.refl _ _⟩
 ·obtain⟨i,f⟩: ∃i,Tryz.prog.info? 5=some i:=⟨_,rfl⟩;have u:i.size=1:=by
   have:(Tryz.prog.info? 5).map TypeInfo.size=some 1:=by kernel_rfl
   rw[f]at this;simpa using this
  have d:i.bytes=1:=by
   have:(Tryz.prog.info? 5).map TypeInfo.bytes=some 1:=by kernel_rfl
   rw[f]at this;simpa using this
  obtain⟨z,p,q⟩: ∃z,i.zero=some z∧z.cells.size=1:=by
   have:(Tryz.prog.info? 5).map TypeInfo.zero=some (some (.int .u8 0)):=by kernel_rfl
   rw[f]at this;exact⟨.int .u8 0,by simpa using this,rfl⟩
  refine Calls.mono (Any8.slices_Grow_grow acY i z f p (by omega) none 0 0 m [] w (by omega) (by omega) (by rw[d];omega) (by omega) (by simp) (fun _=>rfl) (fun a h=>by cases h)) fun e w' ⟨c,g⟩=> ?_;have t:0+m≤grownCap w (0+m) 0 5:=vA w _ _ _;rw[c,g];refine aqq w _ _ _ _ _ ?_;simp only[vB,pI,size_zeroCells,q,fH];show _=grownCap w (0+m) 0 5;have:grownCap w (0+m) 0 (acZ.t 25)=grownCap w (0+m) 0 5:=rfl;rw[this];omega
def OA:List J→Option (aO×J)
 |[.aA,.int .i64 n]=>some (.p (0≤n∧n≤549755813888),(aB.ad a5).av (D:G Int))
 |_=>none
structure als where
 gR:List J→Option (aO×J)
def akf:als:=⟨OA⟩
theorem auY:Cs Tryz.prog 145 akf.gR:=⟨⟨_,_,Tryz.func145,rfl,by kernel_rfl⟩,fun a o r e b=>by
 show e1 Tryz.prog 145 a r
 change OA a=some (o,r)at e
 unfold OA at e
 split at e
 ·cases e
  exact ay2 _ b.1 b.2
 ·cases e⟩
section
variable(A:Int)(g:Int)(r:G aq)(h:Int)(o:Int)
def AS:Bool:=(cond (decide (h<0)) true (cond (decide (h>1048576)) true (decide (o<0))))
def qw:G aq:=(cond ((cz A g r)!=0) (D:G aq) (cond (AS h o) (D:G aq) (cond ((gW A r h)!=0) (D:G aq) (G.part (G.part r (i64.wrap (h-A)) (r.n:Int)) 0 (fs (((toNat ((r.n:Int)- (i64.wrap (h-A)))):Nat):Int) o)))))
def aqg:Int:=(cond ((cz A g r)!=0) (cz A g r) (cond (AS h o) 2 (cond ((gW A r h)!=0) (gW A r h) 0)))
def ale:ba:=⟨[.g [a,a,.ab dh],.v a,.v a],fun(A:Int) (g:Int) r (h:Int) (o:Int)=>⟨⟨some (h≤9223372036854775807∧ -9223372036854775808≤h∧o≤9223372036854775807∧ -9223372036854775808≤o),.c7 [aI 10 dU (qw A g r h o),b (aqg A g r h o)]⟩⟩⟩
theorem avM:bn 95 ale:=bq Tryz.func95
 fun(A:Int) (g:Int) r q _ (h:Int) (o:Int) j=>bu ⟨.pure,[.tmp 6,.tmp 7],[(.t 0,.ab dh),(.t 1,a)],⟨[U,U],[]⟩⟩ (.ae (.ae (.s (.j ⟨67109070,[],[(.t 26,l)],[],.f⟩ .z .z) .z))) (let e:=i64.wrap (h-A);let i:=toNat ((r.n:Int)-e);let b:=fs (i:Int) o;((cz A g r)!=0)=false→((AS h o)=false→((0≤A∧A≤1048576∧h≤9223372036854775807)∧(((gW A r h)!=0)=false→((((0:Int)≤e)∧((e:Int)≤(r.n:Int))∧(((r.n:Int):Int)≤(r.n:Int))∧(((r.n:Int):Int)≤(r.n:Int)))∧(((0:Int)≤0)∧((0:Int)≤b)∧((b:Int)≤b)∧((b:Int)≤(i:Int)))))))) (cu (aG vh (aG LH (aG Bb aT)))) Tryz.func95 (have⟨k,m,n,p⟩:=j;(fun c=>(fun d=>⟨(by have:=eS _ _ _ (bB c);have:=d;simp [AS]at this;have:=y6 A r h;omega),(fun f=>⟨(by have:=eS _ _ _ (bB c);have:=d;simp [AS]at this;have:=bB f;have:=y6 A r h;first|omega|(have:=E (h-A);omega)),(by have:=eS _ _ _ (bB c);have:=d;simp [AS]at this;have:=bB f;have:=y6 A r h;have:=ob (((toNat ((r.n:Int)- (i64.wrap (h-A)))):Nat):Int) o;first|omega|(have:=E (h-A);omega))⟩)⟩)))
end
section
variable(A:Int)(g:Int)(r:G aq)(h:Int)(o:Int)(c:G aq)
def Kq:Bool:=(cond ((gW A r h)!=0) true ((jv A g r h)!=o))
def cn:Int:=(cond (decide (h<A)) (i64.wrap (h+(fs (i64.wrap (A-h)) (c.n:Int)))) h)
def dO:G aq:=(cond (decide (h<A)) (G.part c (fs (i64.wrap (A-h)) (c.n:Int)) (c.n:Int)) c)
def n8:Bool:=(cond (decide (h<A)) (cond (decide ((i64.wrap (h+(fs (i64.wrap (A-h)) (c.n:Int))))<A)) false true) (cond (Kq A g r h o) false true))
def qz(a:Int):Bool:=(cond (decide ((i64.wrap ((i64.wrap ((cn A h c)-A))+a))<(r.n:Int))) ((r.at' (toNat (i64.wrap ((i64.wrap ((cn A h c)-A))+a)))).q==((dO A h c).at' (toNat a)).q) false)
def nb(A:Int)(g:Int)(r:G aq)(h:Int)(c:G aq):Nat→Int→Bool×Int×Int×G aq×Bool×Int×Int
 |0,_=>default
 |k+1,a=>(cond (decide (a<((dO A h c).n:Int))) (cond (qz A r h c a) (nb A g r h c k (i64.wrap (a+1))) (cond ((cz A g (G.app (G.part r 0 (i64.wrap ((i64.wrap ((cn A h c)-A))+a))) (G.part (dO A h c) a (((dO A h c).n:Nat):Int))))!=0) (true,0,0,(D:G aq),false,0,6) (true,A,g,(G.app (G.part r 0 (i64.wrap ((i64.wrap ((cn A h c)-A))+a))) (G.part (dO A h c) a (((dO A h c).n:Nat):Int))),true,(i64.wrap ((i64.wrap ((cn A h c)+a))+1)),0))) (false,default,default,default,default,default,default))
def qA:Bool×Int×Int×G aq×Bool×Int×Int:=nb A g r h c ((toNat (((dO A h c).n:Int)-0))+1) 0
def sB:Bool:=(cond (qA A g r h c).1 false true)
def b9:Int:=(cond ((cz A g r)!=0) 0 (cond ((cz h o c)!=0) 0 (cond (n8 A g r h o c) (cond (sB A g r h c) A (qA A g r h c).2.1) A)))
def sA:Int:=(cond ((cz A g r)!=0) 0 (cond ((cz h o c)!=0) 0 (cond (n8 A g r h o c) (cond (sB A g r h c) g (qA A g r h c).2.2.1) g)))
def bZ:G aq:=(cond ((cz A g r)!=0) (D:G aq) (cond ((cz h o c)!=0) (D:G aq) (cond (n8 A g r h o c) (cond (sB A g r h c) r (qA A g r h c).2.2.2.1) r)))
def im:Bool:=(cond ((cz A g r)!=0) false (cond ((cz h o c)!=0) false (cond (n8 A g r h o c) (cond (sB A g r h c) true (qA A g r h c).2.2.2.2.1) (cond (decide (h<A)) true false))))
def dp:Int:=(cond ((cz A g r)!=0) 0 (cond ((cz h o c)!=0) 0 (cond (n8 A g r h o c) (cond (sB A g r h c) 0 (qA A g r h c).2.2.2.2.2.1) 0)))
def hI:Int:=(cond ((cz A g r)!=0) (cz A g r) (cond ((cz h o c)!=0) 10 (cond (n8 A g r h o c) (cond (sB A g r h c) 0 (qA A g r h c).2.2.2.2.2.2) 0)))
theorem f75(A g:Int)(r:G aq)(h o:Int)(c:G aq)(a:n8 A g r h o c=true)(j:((0≤A∧A≤1048576)∧r.n≤200)∧(0≤h∧h≤1048576)∧c.n≤200):(A≤cn A h c∧cn A h c≤A+(r.n:Int))∧(dO A h c).n≤c.n:=by
 unfold n8 at a;unfold cn dO
 by_cases d:h<A
 ·rw[bS d]at a ⊢;simp only[aQ]at a ⊢;have k:=ob (i64.wrap (A-h)) (c.n:Int);rw[E (A-h)]at a k ⊢;generalize fs (A-h) (c.n:Int)=q at*
  rw[E (h+q)]at a ⊢;have i: ¬(h+q<A):=by
   intro e;rw[bS e]at a
   cases a
  refine⟨by omega,?_⟩;show toNat ((c.n:Int)-q)≤c.n;omega
 ·rw[bp d]at a ⊢;simp only[aS]at a ⊢;have b:Kq A g r h o=false:=by
   cases e:Kq A g r h o with
   |false=>rfl
   |true=>rw[e]at a;cases a
  unfold Kq at b;have f:gW A r h=0:=by
   cases e:(gW A r h !=0)with
   |true=>rw[e]at b;cases b
   |false=>exact bB e
  have:=y6 A r h ⟨f,by omega,by omega,by omega⟩;exact⟨this,bC _⟩
def alg:ba:=⟨[.g [a,a,.ab dh],.v a,.v a,.v (.ab dh)],fun A g r h o c=>⟨⟨none,.c7 [.agg [b (b9 A g r h o c),b (sA A g r h o c),aI 10 dU (bZ A g r h o c)],.bool (im A g r h o c),b (dp A g r h o c),b (hI A g r h o c)]⟩⟩⟩
theorem aeI:bn 85 alg:=bq Tryz.func85
 fun(A:Int) (g:Int) r F _ (h:Int) (o:Int) c G _=>bu (ms:=[(.b .f (.b .f (.b .f .l))),(.b .f (.b .f (.b .f .l))),(.b .f (.b .f (.b .f .l))),.f,(.b .f (.b .f (.b .f .l))),(.b .f (.b .f (.b .f .l)))]) ⟨.pure,[.cell 8 43,.tmp 9,.tmp 10,.tmp 11],[(.c 0 0,a),(.c 0 1,a),(.c 0 2,.ab dh),(.t 1,l),(.t 2,a),(.t 3,a)],⟨[.agg (us 3 []),U,U,U],[]⟩⟩ (.ae (.ae (.ae (.ae (.j ⟨3866,[],[(.t 1,a),(.t 3,.ab dh)],[],.f⟩ (.ae (.ae (.ae (.j ⟨18889465931478580858650,[],[(.t 74,l)],[],.f⟩ .z .z)))) (.ae (.j ⟨3840,[],[],[],.f⟩ (.ae (.cW ⟨8462480737302404223012618,[.b 0],[],[(.t 82,a)],some 0,true,3840,[],[],fun k (s:Int)=>nb A g r h c k s,.f,fun(s:Int)=>(0≤s∧s≤((dO A h c).n:Int)∧(i64.wrap ((i64.wrap ((cn A h c)-A))+s))≤(r.n:Int)),fun(s:Int)=>(toNat (((dO A h c).n:Int)-s)),none⟩ (.ae (.ae (.s (.ae (.s (.j ⟨81169251286937994249956602875658,[],[(.t 94,l),(.t 106,l)],[],.f⟩ .z .z) .z)) .z))))) .z))))))) (let u:=fs (i64.wrap (A-h)) (c.n:Int);let q:=i64.wrap ((cn A h c)-A);let d:=dO A h c;((cz A g r)!=0)=false→(((cz h o c)!=0)=false→((((decide (h<A))=true→(((0:Int)≤u)∧((u:Int)≤(c.n:Int))∧(((c.n:Int):Int)≤(c.n:Int))∧(((c.n:Int):Int)≤(c.n:Int))))∧((decide (h<A))=false→(0≤A∧A≤1048576∧h≤9223372036854775807)))∧((n8 A g r h o c)=true→(((0≤(0:Int)∧(0:Int)≤(d.n:Int)∧(i64.wrap (q+(0:Int)))≤(r.n:Int)))∧(∀(b:Int),let x:=qz A r h c b;let w:=decide (b<(d.n:Int));let v:=toNat ((d.n:Int)-b);let n:=i64.wrap (b+1);let e:=i64.wrap (q+b);(0≤b∧b≤(d.n:Int)∧e≤(r.n:Int))→((w=true→(((0:Int)≤b∧b<(d.n:Int))∧(((decide (e<(r.n:Int)))=true→(((0:Int)≤e∧e<(r.n:Int))∧((toNat e)<r.n)))∧(x=false→(((e=e)∧((0:Int)≤0)∧((0:Int)≤e)∧((e:Int)≤e)∧((e:Int)≤(r.n:Int)))∧((((0:Int)≤b)∧((b:Int)≤(d.n:Int))∧(((d.n:Int):Int)≤(d.n:Int))∧(((d.n:Int):Int)≤(d.n:Int)))∧(0<v∧(toNat (e-0))+v≤549755813888)))))))∧(w=true→(x=true→((0≤n∧n≤(d.n:Int)∧(i64.wrap (q+n))≤(r.n:Int))∧(toNat ((d.n:Int)-n))<(toNat ((d.n:Int)-b)))))))))))) (cu (aG vh (aG LH (aG Bb aT)))) Tryz.func85 ((fun f=>(fun i=>⟨⟨(fun B=>(by have:=eS _ _ _ (bB f);have:=eS _ _ _ (bB i);have:=al B;have:=ob (i64.wrap (A-h)) (c.n:Int);have:=E (A-h);omega)),(fun C=>(by have:=eS _ _ _ (bB f);have:=eS _ _ _ (bB i);omega))⟩,(fun j=>⟨(by have:=eS _ _ _ (bB f);have:=eS _ _ _ (bB i);have:=f75 _ _ _ _ _ _ j (by omega);have:=E ((cn A h c)-A);have:=E ((i64.wrap ((cn A h c)-A))+(0:Int));omega),(fun b D=>⟨(fun m=>⟨(by have:=al m;omega),⟨(fun t=>⟨(by have:=eS _ _ _ (bB f);have:=eS _ _ _ (bB i);have:=f75 _ _ _ _ _ _ j (by omega);have:=al t;have:=E ((cn A h c)-A);have:=E ((i64.wrap ((cn A h c)-A))+b);omega),(by have:=eS _ _ _ (bB f);have:=eS _ _ _ (bB i);have:=f75 _ _ _ _ _ _ j (by omega);have:=al t;have:=E ((cn A h c)-A);have:=E ((i64.wrap ((cn A h c)-A))+b);omega)⟩),(fun p=>⟨(by have:=eS _ _ _ (bB f);have:=eS _ _ _ (bB i);have:=f75 _ _ _ _ _ _ j (by omega);have:=al m;have:=p;simp [qz]at this;first|omega|(have:=E ((cn A h c)-A);have:=E ((i64.wrap ((cn A h c)-A))+b);omega)),⟨(by have:=eS _ _ _ (bB f);have:=eS _ _ _ (bB i);have:=f75 _ _ _ _ _ _ j (by omega);have:=al m;have:=p;simp [qz]at this;first|omega|(have:=E ((cn A h c)-A);have:=E ((i64.wrap ((cn A h c)-A))+b);omega)),(by have:=eS _ _ _ (bB f);have:=eS _ _ _ (bB i);have:=f75 _ _ _ _ _ _ j (by omega);have:=al m;have:=p;simp [qz]at this;first|omega|(have:=E ((cn A h c)-A);have:=E ((i64.wrap ((cn A h c)-A))+b);omega))⟩⟩)⟩⟩),(fun y=>(fun z=>(by have:=eS _ _ _ (bB f);have:=eS _ _ _ (bB i);have:=f75 _ _ _ _ _ _ j (by omega);have:=al y;have:=z;(try simp [qz]at this);have:=E ((cn A h c)-A);have:=E (b+1);have:=E ((i64.wrap ((cn A h c)-A))+b);have:=E ((i64.wrap ((cn A h c)-A))+(i64.wrap (b+1)));omega)))⟩)⟩)⟩)))
end
def akM:ba:=⟨[.v a],fun(A:Int)=>⟨⟨some (0≤A∧A<3),.agg [.bool (A==0),.bool (A==1),.bool (A==2)]⟩⟩⟩
theorem aez:bn 70 akM:=bq Tryz.func70
 fun(A:Int) a=>by
  have:A=0∨A=1∨A=2:=by omega
  rcases this with rfl|rfl|rfl
  ·exact bu ⟨.pure,[.cell 2 80],[(.c 0 0,l),(.c 0 1,l),(.c 0 2,l)],⟨[.agg (us 3 [])],[]⟩⟩ (.z) True fb Tryz.func70 trivial
  ·exact bu ⟨.pure,[.cell 2 80],[(.c 0 0,l),(.c 0 1,l),(.c 0 2,l)],⟨[.agg (us 3 [])],[]⟩⟩ (.z) True fb Tryz.func70 trivial
  ·exact bu ⟨.pure,[.cell 2 80],[(.c 0 0,l),(.c 0 1,l),(.c 0 2,l)],⟨[.agg (us 3 [])],[]⟩⟩ (.z) True fb Tryz.func70 trivial
end Go.Proofs.YtfmgjpcmcjjoiaaGreatDoor
namespace Go.af
open Go Go.Proofs Go.RowKit Go.Shelf
section
variable {P:Program} {ρ:Ren}
theorem ny{x:Int}(a:0≤x)(b:x≤18446744073709551615):u64.wrap x=x:=by
 have h:u64.wrap x=x%18446744073709551616:=by simp [IntKind.wrap,IntKind.bits,IntKind.signed]
 rw[h];omega
theorem ng(x:Int):x/2^(toNat 1)=x/2:=rfl
def G.ins{α:Type}(s:G α)(i:Nat)(x:α):G α:=⟨s.n+1,fun t=>bif Nat.blt t i then s.at' t else bif Nat.beq t i then x else s.at' (t-1)⟩
def G.del{α:Type}(s:G α)(i j:Nat):G α:=⟨s.n- (j-i),fun t=>bif Nat.blt t i then s.at' t else s.at' (t+(j-i))⟩
def FI(E:cD):b0:=⟨[.o 0,.v (.int .i64),.o 1],[(.h 0 0,.ad E),(.h 1 0,.ad E)],[[.undef],[.undef]],
 fun(g:Int) (A r:G E.T)=>⟨⟨some (0≤g∧g≤(A.n:Int)∧A.n+1≤549755813888∧r.n=1),[.own 0 (A.n+1)],[[(aB.ad E).av (G.ins A (toNat g) (r.at' 0))],[(aB.ad E).av r]]⟩⟩⟩
def wb(E:cD):b0:=⟨[.o 0,.v (.int .i64),.v (.int .i64)],[(.h 0 0,.ad E)],[[.undef]],
 fun(g r:Int) (A:G E.T)=>⟨⟨some (0≤g∧g<r∧r≤(A.n:Int)),[.own 1 (A.n- (toNat r-toNat g))],[[dk],[(aB.ad E).av (G.del A (toNat g) (toNat r))]]⟩⟩⟩
theorem Ly{E:cD}{bytes:Nat}{z:Value}(L:pQ P ρ E.M bytes z)(j:lg P (ρ.f 22))(k:0<E.M)(f:bytes≤255)(l: ∀m,(Builtin.zeroCells z.cells m).size=m*E.M):iR P (ρ.f 22) (FI E).gR:=
 b0.ok j rfl fun(g:Int) (A:G E.T) _ (r:G E.T) _ (a:0≤g∧g≤(A.n:Int)∧A.n+1≤549755813888∧r.n=1)=>by
  have n: ∀(i m:Nat),g=(i:Int)→r.n=m→m=1→fm P (ρ.f 22) [.own 0 A.n,.int .i64 g,.own 1 r.n] [[.ad false E.M A.n fun t=>E.e (A.at' t)],[.ad false E.M r.n fun t=>E.e (r.at' t)]] [.own 0 (A.n+1)]
    [[.ad false E.M (A.n+1) fun t=>E.e ((G.ins A (toNat g) (r.at' 0)).at' t)],[.ad false E.M r.n fun t=>E.e (r.at' t)]]:=by
   intro i m b c d;rw[c,d,b];have h:=atb L k f l A.n i (fun t=>E.e (A.at' t)) (fun t=>E.e (r.at' t)) (by omega) a.2.2.1;have e:kF (fun t=>E.e (A.at' t)) i (fun t=>E.e (r.at' t))=fun t=>E.e ((G.ins A i (r.at' 0)).at' t):=by
    funext t
    unfold kF G.ins;simp only
    cases Nat.blt t i with
    |true=>rfl
    |false=>cases Nat.beq t i<;>rfl
   rw[e]at h;rw[fN];exact h
  exact n g.toNat r.n (by omega) rfl a.2.2.2
theorem zf{f:FuncId}{E:cD}{z:Value}(d:NA P f E.M z)(c:lg P f)(k: ∀m,(Builtin.zeroCells z.cells m).toList.length=m*E.M∧ ∀v∈(Builtin.zeroCells z.cells m).toList,v.oneCell'=true):iR P f (wb E).gR:=
 b0.ok c rfl fun(g:Int) (r:Int) (A:G E.T) _ (n:0≤g∧g<r∧r≤(A.n:Int))=>by
  have l: ∀(i j:Nat),g=(i:Int)→r=(j:Int)→fm P f [.own 0 A.n,.int .i64 g,.int .i64 r] [[.ad false E.M A.n fun t=>E.e (A.at' t)]] [.own 1 (A.n- (toNat r-toNat g))]
    [[dk],[.ad false E.M (A.n- (toNat r-toNat g)) fun t=>E.e ((G.del A (toNat g) (toNat r)).at' t)]]:=by
   intro i j a b;rw[a,b,fN,fN];have h:=anz d k A.n i j (fun t=>E.e (A.at' t)) (by omega) (by omega);have e:wa (fun t=>E.e (A.at' t)) i j=fun t=>E.e ((G.del A i j).at' t):=by
    funext t
    unfold wa G.del;simp only
    cases Nat.blt t i<;>rfl
   rw[e]at h;exact h
  exact l g.toNat r.toNat (by omega) (by omega)
theorem tm{P:Program}{T:TypeId}{z:Value}{k b:Nat}(h:(P.info? T).map (fun i=>(i.zero,i.size,i.bytes))=some (some z,k,b))(w:World):(Go.sizeOf T).run P w= .ok k w:=by
 obtain⟨i,a,_,c,_⟩:=info_parts h;simp [sizeOf,typeInfo,a,c]
theorem aCD{P:Program}{T:TypeId}{z:Value}{k b:Nat}(h:(P.info? T).map (fun i=>(i.zero,i.size,i.bytes))=some (some z,k,b))(w:World):(zeroValue T).run P w= .ok z w:=by
 obtain⟨i,a,c,_,_⟩:=info_parts h;simp [zeroValue,typeInfo,a,c]
theorem rf{z:Value}{k:Nat}(f:z.cells.size=k)(d:z.cells.all (fun v=>v.oneCell')=true)(m:Nat):(Builtin.zeroCells z.cells m).toList.length=m*k∧ ∀v∈(Builtin.zeroCells z.cells m).toList,v.oneCell'=true:=by
 subst f;refine⟨by simp [Builtin.zeroCells],fun v c=> ?_⟩;simp only[Builtin.zeroCells,Array.toList_map,ox,Array.mem_toList_iff,Array.mem_range]at c;obtain⟨i,a,rfl⟩:=c;have g:0<z.cells.size:=by
  rcases vC z.cells.size with e|e
  ·rw[e]at a;simp at a
  ·exact e
 have b:=Nat.mod_lt i g;rw[getElem!_pos z.cells _ b];exact Array.all_eq_true.1 d _ b
theorem ze{k b:Nat}{z:Value}(mixed:P.follows .mixedOrders=true)(F:Bears P (ρ.f 45) (SlBodyN.n45 ρ))(y:P.underlying (ρ.t 22)=some (TypeDesc.slice (ρ.t 23)))(h:(P.info? (ρ.t 23)).map (fun i=>(i.zero,i.size,i.bytes))=some (some z,k,b)):NA P (ρ.f 45) k z:=by
 obtain⟨v,t,B,u,_⟩:=info_parts h;intro r s n i j w x A a e f g l m o p q c d;exact anA k mixed F y (tm h) z (aCD h) v t u r s n i j w x A a e f g l m o p q c d
end
end Go.af
namespace Go.Proofs.YtfmgjpcmcjjoiaaGreatDoor
open Go Go.Proofs Go.RowKit Go.Shelf Go.af
def Lx(f a rot T E:Nat):Ren:=⟨fun n=>match n with
 |22=>f
 |29=>a
 |30=>rot
 |n=>n,fun n=>match n with
 |24=>T
 |9=>E
 |n=>n,fun n=>n⟩
def zd(f T E:Nat):Ren:=⟨fun n=>match n with
 |45=>f
 |n=>n,fun n=>match n with
 |22=>T
 |23=>E
 |n=>n,fun n=>n⟩
theorem as5:pQ Tryz.prog (Lx 213 223 224 122 130) 2 32 (.agg #[.string ⟨#[]⟩,.string ⟨#[]⟩]):=
 have a:(Tryz.prog.info? 130).map (fun i=>(i.zero,i.size,i.bytes))=some (some ((.agg #[.string ⟨#[]⟩,.string ⟨#[]⟩]):Value),2,32):=by kernel_rfl
 ⟨mixed,⟨ "slices.Insert[[]rostrum/api.Pair,rostrum/api.Pair]",by kernel_rfl,by kernel_rfl⟩,by kernel_rfl,by kernel_rfl,tm a,a,fun w dH b o m s p c q r n l d f g h j k=>by
  show(callFunc 223 _).run Tryz.prog w=_;rw[run_callFunc_extern Tryz.func223 (by kernel_rfl) (by kernel_rfl) (by kernel_rfl) (e:=Extern.SlicesOverlaps.overlaps #[122,122] #[4]) (by kernel_rfl),Lib.run_overlaps_apart w 122 4 130 (by kernel_rfl) 2 (tm a) ⟨dH,0,none⟩ ⟨b,o,none⟩ m s p c d q r n l f g h j k];rfl⟩
abbrev akt:b0:=FI c5
theorem au8:iR Tryz.prog 213 akt.gR:=Ly (E:=c5) as5 ⟨_,_,Tryz.func213,rfl,by kernel_rfl⟩ (by decide) (by omega) fun m=>Array.length_toList.symm.trans (rf (k:=2) (z:=(.agg #[.string ⟨#[]⟩,.string ⟨#[]⟩])) rfl (by kernel_rfl) m).1
theorem as6:pQ Tryz.prog (Lx 216 225 226 97 9) 1 16 (.string ⟨#[]⟩):=
 have a:(Tryz.prog.info? 9).map (fun i=>(i.zero,i.size,i.bytes))=some (some ((.string ⟨#[]⟩):Value),1,16):=by kernel_rfl
 ⟨mixed,⟨ "slices.Insert[[]string,string]",by kernel_rfl,by kernel_rfl⟩,by kernel_rfl,by kernel_rfl,tm a,a,fun w dH b o m s p c q r n l d f g h j k=>by
  show(callFunc 225 _).run Tryz.prog w=_;rw[run_callFunc_extern Tryz.func225 (by kernel_rfl) (by kernel_rfl) (by kernel_rfl) (e:=Extern.SlicesOverlaps.overlaps #[97,97] #[4]) (by kernel_rfl),Lib.run_overlaps_apart w 97 4 9 (by kernel_rfl) 1 (tm a) ⟨dH,0,none⟩ ⟨b,o,none⟩ m s p c d q r n l f g h j k];rfl⟩
abbrev akw:b0:=FI bK
theorem aes:iR Tryz.prog 216 akw.gR:=Ly (E:=bK) as6 ⟨_,_,Tryz.func216,rfl,by kernel_rfl⟩ (by decide) (by omega) fun m=>Array.length_toList.symm.trans (rf (k:=1) (z:=(.string ⟨#[]⟩)) rfl (by kernel_rfl) m).1
theorem as7:pQ Tryz.prog (Lx 221 229 230 123 133) 2 24 (.agg #[.string ⟨#[]⟩,.int .i64 0]):=
 have a:(Tryz.prog.info? 133).map (fun i=>(i.zero,i.size,i.bytes))=some (some ((.agg #[.string ⟨#[]⟩,.int .i64 0]):Value),2,24):=by kernel_rfl
 ⟨mixed,⟨ "slices.Insert[[]rostrum/api.Score,rostrum/api.Score]",by kernel_rfl,by kernel_rfl⟩,by kernel_rfl,by kernel_rfl,tm a,a,fun w dH b o m s p c q r n l d f g h j k=>by
  show(callFunc 229 _).run Tryz.prog w=_;rw[run_callFunc_extern Tryz.func229 (by kernel_rfl) (by kernel_rfl) (by kernel_rfl) (e:=Extern.SlicesOverlaps.overlaps #[123,123] #[4]) (by kernel_rfl),Lib.run_overlaps_apart w 123 4 133 (by kernel_rfl) 2 (tm a) ⟨dH,0,none⟩ ⟨b,o,none⟩ m s p c d q r n l f g h j k];rfl⟩
abbrev akB:b0:=FI cS
theorem avd:iR Tryz.prog 221 akB.gR:=Ly (E:=cS) as7 ⟨_,_,Tryz.func221,rfl,by kernel_rfl⟩ (by decide) (by omega) fun m=>Array.length_toList.symm.trans (rf (k:=2) (z:=(.agg #[.string ⟨#[]⟩,.int .i64 0])) rfl (by kernel_rfl) m).1
abbrev aku:b0:=wb c5
theorem au9:iR Tryz.prog 214 aku.gR:=zf (E:=c5) (z:=(.agg #[.string ⟨#[]⟩,.string ⟨#[]⟩])) (ze (ρ:=zd 214 122 130) (b:=32) mixed ⟨ "slices.Delete[[]rostrum/api.Pair,rostrum/api.Pair]",by kernel_rfl,by kernel_rfl⟩ (by kernel_rfl) (by kernel_rfl)) ⟨_,_,Tryz.func214,rfl,by kernel_rfl⟩ (rf rfl (by kernel_rfl))
abbrev aky:b0:=wb bK
theorem ava:iR Tryz.prog 218 aky.gR:=zf (E:=bK) (z:=(.string ⟨#[]⟩)) (ze (ρ:=zd 218 97 9) (b:=16) mixed ⟨ "slices.Delete[[]string,string]",by kernel_rfl,by kernel_rfl⟩ (by kernel_rfl) (by kernel_rfl)) ⟨_,_,Tryz.func218,rfl,by kernel_rfl⟩ (rf rfl (by kernel_rfl))
abbrev akz:b0:=wb cS
theorem avb:iR Tryz.prog 219 akz.gR:=zf (E:=cS) (z:=(.agg #[.string ⟨#[]⟩,.int .i64 0])) (ze (ρ:=zd 219 123 133) (b:=24) mixed ⟨ "slices.Delete[[]rostrum/api.Score,rostrum/api.Score]",by kernel_rfl,by kernel_rfl⟩ (by kernel_rfl) (by kernel_rfl)) ⟨_,_,Tryz.func219,rfl,by kernel_rfl⟩ (rf rfl (by kernel_rfl))
theorem as4:pQ Tryz.prog (Lx 193 208 209 44 127) 8 128 (.agg #[.string ⟨#[]⟩,.int .i64 0,.string ⟨#[]⟩,.int .i64 0,.slice none 0 0,.slice none 0 0,.slice none 0 0,.int .i64 0]):=
 have a:(Tryz.prog.info? 127).map (fun i=>(i.zero,i.size,i.bytes))=some (some ((.agg #[.string ⟨#[]⟩,.int .i64 0,.string ⟨#[]⟩,.int .i64 0,.slice none 0 0,.slice none 0 0,.slice none 0 0,.int .i64 0]):Value),8,128):=by kernel_rfl
 ⟨mixed,⟨ "slices.Insert[[]rostrum/api.Entry,rostrum/api.Entry]",by kernel_rfl,by kernel_rfl⟩,by kernel_rfl,by kernel_rfl,tm a,a,fun w dH b o m s p c q r n l d f g h j k=>by
  show(callFunc 208 _).run Tryz.prog w=_;rw[run_callFunc_extern Tryz.func208 (by kernel_rfl) (by kernel_rfl) (by kernel_rfl) (e:=Extern.SlicesOverlaps.overlaps #[44,44] #[4]) (by kernel_rfl),Lib.run_overlaps_apart w 44 4 127 (by kernel_rfl) 8 (tm a) ⟨dH,0,none⟩ ⟨b,o,none⟩ m s p c d q r n l f g h j k];rfl⟩
abbrev ai1:b0:=FI bd
theorem at6:iR Tryz.prog 193 ai1.gR:=Ly (E:=bd) as4 ⟨_,_,Tryz.func193,rfl,by kernel_rfl⟩ (by decide) (by omega) fun m=>Array.length_toList.symm.trans (rf (k:=8) (z:=(.agg #[.string ⟨#[]⟩,.int .i64 0,.string ⟨#[]⟩,.int .i64 0,.slice none 0 0,.slice none 0 0,.slice none 0 0,.int .i64 0])) rfl (by kernel_rfl) m).1
abbrev ai0:b0:=wb bd
theorem at5:iR Tryz.prog 187 ai0.gR:=zf (E:=bd) (z:=(.agg #[.string ⟨#[]⟩,.int .i64 0,.string ⟨#[]⟩,.int .i64 0,.slice none 0 0,.slice none 0 0,.slice none 0 0,.int .i64 0])) (ze (ρ:=zd 187 44 127) (b:=128) mixed ⟨ "slices.Delete[[]rostrum/api.Entry,rostrum/api.Entry]",by kernel_rfl,by kernel_rfl⟩ (by kernel_rfl) (by kernel_rfl)) ⟨_,_,Tryz.func187,rfl,by kernel_rfl⟩ (rf rfl (by kernel_rfl))
end Go.Proofs.YtfmgjpcmcjjoiaaGreatDoor
namespace Go.Proofs.YtfmgjpcmcjjoiaaGreatDoor
open Go Go.RowKit Go.af
section
variable(A:Int)
def aaT:Bool:=(cond (A==4) (A==4) (cond (A==5) (A==5) (A==6)))
def aaU:Bool:=(cond (A==7) (A==7) (cond (A==8) (A==8) (cond (A==9) (A==9) (A==10))))
def aaV:Bool:=(cond (A==11) (A==11) (cond (A==12) (A==12) (A==13)))
def aaW:Bool:=(cond (A==14) (A==14) (cond (A==15) (A==15) (A==16)))
def zV:Int:=(cond (A==2) 1 (cond (A==3) 2 (cond (aaT A) 3 (cond (aaU A) 4 (cond (aaV A) 5 (cond (aaW A) 6 0))))))
def ajP:ba:=⟨[.v a],fun A=>⟨⟨none,b (zV A)⟩⟩⟩
theorem auA:bn 189 ajP:=bq Tryz.func189
 fun(A:Int)=>bu ⟨.pure,[.tmp 2],[(.t 0,a)],⟨[U],[]⟩⟩ (.ae (.s (.ae (.ae (.ae (.ae (.ae (.j ⟨268,[],[(.t 8,l)],[],.f⟩ .z (.ae (.j ⟨4108,[],[(.t 12,l)],[],.f⟩ .z (.ae (.j ⟨131084,[],[(.t 17,l)],[],.f⟩ .z (.ae (.j ⟨2097156,[],[(.t 21,l)],[],.f⟩ .z .z)))))))))))) .z)) True fb Tryz.func189 (trivial)
def aaX:Bool:=(cond (A==1) (A==1) (cond (A==3) (A==3) (cond (A==4) (A==4) (cond (A==7) (A==7) (cond (A==8) (A==8) (cond (A==11) (A==11) (A==14)))))))
def zW:Bool:=(cond (aaX A) true false)
def ajQ:ba:=⟨[.v a],fun A=>⟨⟨none,.bool (zW A)⟩⟩⟩
theorem auB:bn 190 ajQ:=bq Tryz.func190
 fun(A:Int)=>bu ⟨.pure,[.tmp 2],[(.t 0,l)],⟨[U],[]⟩⟩ (.ae (.s (.ae (.j ⟨20,[],[(.t 4,l)],[],.f⟩ .z .z)) .z)) True fb Tryz.func190 (trivial)
def qb:Int:=A
def r8:u:=⟨#[]⟩
def r9:Int:=0
def r_:G u:=(D:G u)
def ajR:ba:=⟨[.v a],fun A=>⟨⟨none,.agg [b (qb A),.str r8,b r9,aI 1 cK r_]⟩⟩⟩
theorem Bd:bn 191 ajR:=bq Tryz.func191
 fun(A:Int)=>bu ⟨.pure,[.cell 2 99],[(.c 0 0,a),(.c 0 1,ai),(.c 0 2,a),(.c 0 3,.ab bK)],⟨[.agg (us 4 [])],[]⟩⟩ (.z) True fb Tryz.func191 (trivial)
def nU:Int:=0
def nV:u:=⟨#[]⟩
def l2:Int:=A
def nW:G u:=(D:G u)
def akj:ba:=⟨[.v a],fun A=>⟨⟨none,.agg [b nU,.str nV,b (l2 A),aI 1 cK nW]⟩⟩⟩
theorem FP:bn 202 akj:=bq Tryz.func202
 fun(A:Int)=>bu ⟨.pure,[.cell 2 99],[(.c 0 0,a),(.c 0 1,ai),(.c 0 2,a),(.c 0 3,.ab bK)],⟨[.agg (us 4 [])],[]⟩⟩ (.z) True fb Tryz.func202 (trivial)
def Ec(A:Bool):Int:=(cond A 1 0)
def akv:ba:=⟨[.v l],fun A=>⟨⟨none,b (Ec A)⟩⟩⟩
theorem Ug:bn 215 akv:=bq Tryz.func215
 fun A=>bu ⟨.pure,[.tmp 2],[(.t 0,a)],⟨[U],[]⟩⟩ (.z) True fb Tryz.func215 (trivial)
end
end Go.Proofs.YtfmgjpcmcjjoiaaGreatDoor
namespace Go.af
open Go
def mB(p:Nat→Bool):Nat→Int→Int→Int
 |0,_,_=>default
 |k+1,i,j=>bif decide (i<j)then(bif p (toNat (i64.wrap ((u64.wrap (i64.wrap (i+j)))/2^(toNat 1))))then mB p k (i64.wrap ((i64.wrap ((u64.wrap (i64.wrap (i+j)))/2^(toNat 1)))+1)) j
   else mB p k i (i64.wrap ((u64.wrap (i64.wrap (i+j)))/2^(toNat 1))))else i
theorem amm{i j:Int}(a:0≤i)(b:i<j)(c:j≤549755813888):(i64.wrap ((u64.wrap (i64.wrap (i+j)))/2^(toNat 1)))=(i+j)/2∧i≤(i+j)/2∧(i+j)/2<j:=by
 rw[E (i+j),ny (x:=i+j) (by omega) (by omega),ng,E _];omega
theorem y2{p:Nat→Bool}{n:Int}(c:n≤549755813888): ∀(k:Nat) (i j:Int),0≤i→i≤j→j≤n→0≤mB p k i j∧mB p k i j≤n
 |0,_,_,a,d,b=>⟨cR _,by show(0:Int)≤n;omega⟩
 |k+1,i,j,a,d,b=>by
  simp only[mB]
  by_cases h:i<j
  ·obtain⟨e,f,g⟩:=amm a h (by omega);simp only[h,vz,aQ,e]
   cases p (toNat ((i+j)/2))with
   |true=>
    simp only[aQ];rw[E _];exact y2 c k _ _ (by omega) (by omega) b
   |false=>
    simp only[aS];exact y2 c k _ _ a (by omega) (by omega)
  ·simp only[h,yG,aS];omega
end Go.af
