import Derived.Test.YtfmgjpcmcjjoiaaGreatDoorXj
open Go.IntKind (i64 u64 u8)
open Int (toNat)
set_option maxRecDepth 100000
set_option maxHeartbeats 4000000
set_option linter.all false
noncomputable section
namespace Go.Proofs.YtfmgjpcmcjjoiaaGreatDoor
open Go Go.RowKit Go.af
section
def Jk(h:G bl):Nat→Int→G u→G u
 |0,_,_=>default
 |k+1,e,f=>(cond (decide (e<(h.n:Int))) (Jk h k (i64.wrap (e+1)) (G.app f (G.lit ([(h.at' (toNat e)).q]:List u)))) f)
variable(A:u)(g:u)(h:G bl)(o:G u)(c:G bH)
def z_:G u:=Jk h ((toNat ((h.n:Int)-0))+1) 0 o
def Jl(c:G bH):Nat→Int→G u→G u
 |0,_,_=>default
 |k+1,bk,a=>(cond (decide (bk<(c.n:Int))) (Jl c k (i64.wrap (bk+1)) (G.app a (G.lit ([(c.at' (toNat bk)).q]:List u)))) a)
def api:G u:=Jl c ((toNat ((c.n:Int)-0))+1) 0 (z_ h o)
def RQ:G u:=(api h o c)
def akk:ba:=⟨[.g [a,ai,a,.ab c5,.ab bK,.ab cS]],fun _ _ _ h o c=>⟨⟨some (h.n≤100000000000∧o.n≤100000000000∧c.n≤100000000000),(aB.ad bK).av (RQ h o c)⟩⟩⟩
theorem auZ:bn 203 akk:=bq Tryz.func203
 fun(A:Int) g I (r:Int) h J _ o K _ c L _ w=>bu ⟨.own bK,[.tmp 2],[(.h 0 0,.ad bK)],⟨[],[]⟩⟩ (.ae (.ae (.j ⟨14,[],[],[],.f⟩ (.ae (.cW ⟨28686,[],[],[(.t 14,a),(.h 1 0,.ad bK)],some 0,false,14,[],[(.h 1 0,.ad bK)],fun k (s:Int×G u)=>Jk h k s.1 s.2,.f,fun(s:Int×G u)=>((0≤s.1∧s.1≤(h.n:Int))∧(s.2.n:Int)≤o.n+(s.1-0)),fun(s:Int×G u)=>(toNat ((h.n:Int)-s.1)),some fun(l:G u)=>(l.n:Int)≤o.n+max ((h.n:Int)-0) 0⟩ .z)) (.j ⟨12,[],[],[],.f⟩ (.ae (.cW ⟨234881036,[.b 0],[],[(.t 27,a),(.h 1 0,.ad bK)],some 2,false,12,[],[(.h 1 0,.ad bK)],fun k (s:Int×G u)=>Jl c k s.1 s.2,.f,fun(s:Int×G u)=>((0≤s.1∧s.1≤(c.n:Int))∧(s.2.n:Int)≤(z_ h o).n+(s.1-0)),fun(s:Int×G u)=>(toNat ((c.n:Int)-s.1)),some fun(l:G u)=>(l.n:Int)≤(z_ h o).n+max ((c.n:Int)-0) 0⟩ .z)) .z)))) (let b:=z_ h o;((((0≤(0:Int)∧(0:Int)≤(h.n:Int))∧(o.n:Int)≤o.n+((0:Int)-0)))∧(∀(e:Int) (f:G u),let m:=decide (e<(h.n:Int));let i:=i64.wrap (e+1);((0≤e∧e≤(h.n:Int))∧(f.n:Int)≤o.n+(e-0))→((m=true→(((0:Int)≤e∧e<(h.n:Int))∧(f.n+1≤549755813888)))∧((m=true→(((0≤i∧i≤(h.n:Int))∧(((f.n+1):Nat):Int)≤o.n+(i-0))∧(toNat ((h.n:Int)-i))<(toNat ((h.n:Int)-e))))∧(m=false→((f.n:Int)≤o.n+max ((h.n:Int)-0) 0))))))∧(((b.n:Int)≤o.n+max ((h.n:Int)-0) 0)→((((0≤(0:Int)∧(0:Int)≤(c.n:Int))∧(b.n:Int)≤b.n+((0:Int)-0)))∧(∀(bk:Int) (d:G u),let n:=decide (bk<(c.n:Int));let j:=i64.wrap (bk+1);((0≤bk∧bk≤(c.n:Int))∧(d.n:Int)≤b.n+(bk-0))→((n=true→(((0:Int)≤bk∧bk<(c.n:Int))∧(d.n+1≤549755813888)))∧((n=true→(((0≤j∧j≤(c.n:Int))∧(((d.n+1):Nat):Int)≤b.n+(j-0))∧(toNat ((c.n:Int)-j))<(toNat ((c.n:Int)-bk))))∧(n=false→((d.n:Int)≤b.n+max ((c.n:Int)-0) 0)))))))) (cu (aG Be aT)) Tryz.func203 (have⟨D,F,H⟩:=w;⟨⟨(by omega),(fun e f B=>⟨(fun p=>⟨(by have:=al p;omega),(by omega)⟩),⟨(fun q=>(by have:=al q;have:=E (e+1);omega)),(fun x=>(by omega))⟩⟩)⟩,(fun z=>⟨(by omega),(fun bk d C=>⟨(fun t=>⟨(by have:=al t;omega),(by omega)⟩),⟨(fun v=>(by have:=al v;have:=E (bk+1);omega)),(fun y=>(by omega))⟩⟩)⟩)⟩)
def RZ:Bool:=(!((A:u).toList==(A:u).toList))
def akE:ba:=⟨[.v ai],fun A=>⟨⟨none,.bool (RZ A)⟩⟩⟩
theorem avg:bn 234 akE:=bq Tryz.func234
 fun A _=>bu ⟨.pure,[.tmp 2],[(.t 0,l)],⟨[U],[]⟩⟩ (.z) True fb Tryz.func234 (trivial)
def apo:Bool:=let a:=Op.bytesLess ((A:u).toList) ((g:u).toList);(cond (RZ A) (cond (!(RZ g)) true a) a)
def Jp:Bool:=(apo A g)
def akC:ba:=⟨[.v ai,.v ai],fun A g=>⟨⟨none,.bool (Jp A g)⟩⟩⟩
theorem ave:bn 227 akC:=bq Tryz.func227
 fun A _ g _=>bu ⟨.pure,[.tmp 4],[(.t 0,l)],⟨[U],[]⟩⟩ (.ae (.j ⟨16,[],[(.t 4,l)],[],.f⟩ .z .z)) True (cu (aG avg aT)) Tryz.func227 (trivial)
def RY:Bool:=(!((A:u).toList==(A:u).toList))
def akD:ba:=⟨[.v ai],fun A=>⟨⟨none,.bool (RY A)⟩⟩⟩
theorem avf:bn 228 akD:=bq Tryz.func228
 fun A _=>bu ⟨.pure,[.tmp 2],[(.t 0,l)],⟨[U],[]⟩⟩ (.z) True fb Tryz.func228 (trivial)
def uq(A:G bl)(g:u):Nat→Int→Int→Int
 |0,_,_=>default
 |k+1,e,f=>(cond (decide (e<f)) (cond (decide ((r0 (A.at' (toNat (i64.wrap ((u64.wrap (i64.wrap (e+f)))/2^(toNat 1))))).q g)<0)) (uq A g k (i64.wrap ((i64.wrap ((u64.wrap (i64.wrap (e+f)))/2^(toNat 1)))+1)) f) (uq A g k e (i64.wrap ((u64.wrap (i64.wrap (e+f)))/2^(toNat 1))))) e)
def Eb(A:G bl)(g:u):Int:=uq A g ((toNat ((A.n:Int)-0))+1) 0 (A.n:Int)
def abV(A:G bl)(g:u):Bool:=(cond (decide ((Eb A g)<(A.n:Int))) ((r0 (A.at' (toNat (Eb A g))).q g)==0) false)
def nX(A:G bl)(g:u):Int:=(Eb A g)
def uo(A:G bl)(g:u):Bool:=(abV A g)
def aks:ba:=⟨[.v (.ab c5),.g [ai,ai],.fn 178 []],fun A g _=>⟨⟨none,.c7 [b (nX A g),.bool (uo A g)]⟩⟩⟩
theorem au7:bn 212 aks:=bq Tryz.func212
 fun A y _ g z r B=>bu ⟨.pure,[.tmp 6,.tmp 7],[(.t 0,a),(.t 1,l)],⟨[U,U],[]⟩⟩ (.ae (.ae (.ae (.j ⟨981,[],[],[],.f⟩ (.cW ⟨2005,[],[],[(.t 9,a),(.t 10,a)],some 0,false,981,[],[(.t 9,a)],fun k (s:Int×Int)=>uq A g k s.1 s.2,.f,fun(s:Int×Int)=>(0≤s.1∧s.1≤s.2∧s.2≤(A.n:Int)),fun(s:Int×Int)=>(toNat (s.2-s.1)),some fun(j:Int)=>0≤j∧j≤(A.n:Int)⟩ .z) (.j ⟨192,[.b 0],[(.t 7,l)],[],.f⟩ .z .z))))) (let c:=Eb A g;(((0≤(0:Int)∧(0:Int)≤(A.n:Int)∧(A.n:Int)≤(A.n:Int)))∧(∀(e:Int) (f:Int),let n:=toNat (f-e);let h:=decide (e<f);let b:=i64.wrap ((u64.wrap (i64.wrap (e+f)))/2^(toNat 1));let d:=i64.wrap (b+1);let m:=decide ((r0 (A.at' (toNat b)).q g)<0);(0≤e∧e≤f∧f≤(A.n:Int))→((h=true→(((0:Int)≤1∧(1:Int)≤64)∧((0:Int)≤b∧b<(A.n:Int))))∧((h=true→((m=true→((0≤d∧d≤f∧f≤(A.n:Int))∧(toNat (f-d))<n))∧(m=false→((0≤e∧e≤b∧b≤(A.n:Int))∧(toNat (b-e))<n))))∧(h=false→(0≤e∧e≤(A.n:Int)))))))∧((0≤c∧c≤(A.n:Int))→((decide (c<(A.n:Int)))=true→((0:Int)≤c∧c<(A.n:Int))))) (cu (aG aef aT)) Tryz.func212 (⟨⟨(by omega),(fun e f w=>⟨(fun o=>⟨(by omega),(by have:=al o;have:=E (e+f);have:=ny (x:=(i64.wrap (e+f))) (by omega) (by omega);have:=ng (u64.wrap (i64.wrap (e+f)));have:=E ((u64.wrap (i64.wrap (e+f)))/2^(toNat 1));omega)⟩),⟨(fun i=>⟨(fun q=>(by have:=al i;have:=E (e+f);have:=ny (x:=(i64.wrap (e+f))) (by omega) (by omega);have:=ng (u64.wrap (i64.wrap (e+f)));have:=E ((u64.wrap (i64.wrap (e+f)))/2^(toNat 1));have:=E ((i64.wrap ((u64.wrap (i64.wrap (e+f)))/2^(toNat 1)))+1);omega)),(fun t=>(by have:=al i;have:=E (e+f);have:=ny (x:=(i64.wrap (e+f))) (by omega) (by omega);have:=ng (u64.wrap (i64.wrap (e+f)));have:=E ((u64.wrap (i64.wrap (e+f)))/2^(toNat 1));omega))⟩),(fun u=>(by omega))⟩⟩)⟩,(fun v=>(fun p=>(by have:=al p;omega)))⟩)
theorem Yt(A:G bl)(g:u): ∀k i j,uq A g k i j=mB (fun m=>decide ((r0 (A.at' m).q g)<0)) k i j
 |0,_,_=>rfl
 |k+1,i,j=>by simp only[uq,mB,Yt A g k]
theorem zm(A:G bl)(g:u)(a:A.n≤549755813888):0≤nX A g∧nX A g≤(A.n:Int):=by
 show 0≤uq A g _ _ _∧uq A g _ _ _≤_;rw[Yt];exact y2 (by omega) _ _ _ (by omega) (by omega) (by omega)
theorem WB(A:G bl)(g:u)(h:uo A g=true):nX A g<(A.n:Int):=by
 unfold uo abV at h
 cases e:decide (Eb A g<(A.n:Int))with
 |true=>exact al e
 |false=>rw[e]at h;cases h
def uu(A:G bH)(g:u)(r:Int):Nat→Int→Int→Int
 |0,_,_=>default
 |k+1,e,f=>(cond (decide (e<f)) (cond (decide ((r1 (A.at' (toNat (i64.wrap ((u64.wrap (i64.wrap (e+f)))/2^(toNat 1))))).q (A.at' (toNat (i64.wrap ((u64.wrap (i64.wrap (e+f)))/2^(toNat 1))))).C g r)<0)) (uu A g r k (i64.wrap ((i64.wrap ((u64.wrap (i64.wrap (e+f)))/2^(toNat 1)))+1)) f) (uu A g r k e (i64.wrap ((u64.wrap (i64.wrap (e+f)))/2^(toNat 1))))) e)
def Jo(A:G bH)(g:u)(r:Int):Int:=uu A g r ((toNat ((A.n:Int)-0))+1) 0 (A.n:Int)
def apn(A:G bH)(g:u)(r:Int):Bool:=let a:=A.at' (toNat (Jo A g r));(cond (decide ((Jo A g r)<(A.n:Int))) ((r1 a.q a.C g r)==0) false)
def Ac(A:G bH)(g:u)(r:Int):Int:=(Jo A g r)
def apm(A:G bH)(g:u)(r:Int):Bool:=(apn A g r)
def akA:ba:=⟨[.v (.ab cS),.g [ai,a],.fn 180 []],fun A g r=>⟨⟨none,.c7 [b (Ac A g r),.bool (apm A g r)]⟩⟩⟩
theorem avc:bn 220 akA:=bq Tryz.func220
 fun A y _ g z (r:Int)=>bu ⟨.pure,[.tmp 6,.tmp 7],[(.t 0,a),(.t 1,l)],⟨[U,U],[]⟩⟩ (.ae (.ae (.ae (.j ⟨981,[],[],[],.f⟩ (.cW ⟨2005,[],[],[(.t 9,a),(.t 10,a)],some 0,false,981,[],[(.t 9,a)],fun k (s:Int×Int)=>uu A g r k s.1 s.2,.f,fun(s:Int×Int)=>(0≤s.1∧s.1≤s.2∧s.2≤(A.n:Int)),fun(s:Int×Int)=>(toNat (s.2-s.1)),some fun(j:Int)=>0≤j∧j≤(A.n:Int)⟩ .z) (.j ⟨192,[.b 0],[(.t 7,l)],[],.f⟩ .z .z))))) (let c:=Jo A g r;(((0≤(0:Int)∧(0:Int)≤(A.n:Int)∧(A.n:Int)≤(A.n:Int)))∧(∀(e:Int) (f:Int),let n:=toNat (f-e);let h:=decide (e<f);let b:=i64.wrap ((u64.wrap (i64.wrap (e+f)))/2^(toNat 1));let d:=i64.wrap (b+1);let m:=decide ((r1 (A.at' (toNat b)).q (A.at' (toNat b)).C g r)<0);(0≤e∧e≤f∧f≤(A.n:Int))→((h=true→(((0:Int)≤1∧(1:Int)≤64)∧((0:Int)≤b∧b<(A.n:Int))))∧((h=true→((m=true→((0≤d∧d≤f∧f≤(A.n:Int))∧(toNat (f-d))<n))∧(m=false→((0≤e∧e≤b∧b≤(A.n:Int))∧(toNat (b-e))<n))))∧(h=false→(0≤e∧e≤(A.n:Int)))))))∧((0≤c∧c≤(A.n:Int))→((decide (c<(A.n:Int)))=true→((0:Int)≤c∧c<(A.n:Int))))) (cu (aG aeg aT)) Tryz.func220 (⟨⟨(by omega),(fun e f w=>⟨(fun o=>⟨(by omega),(by have:=al o;have:=E (e+f);have:=ny (x:=(i64.wrap (e+f))) (by omega) (by omega);have:=ng (u64.wrap (i64.wrap (e+f)));have:=E ((u64.wrap (i64.wrap (e+f)))/2^(toNat 1));omega)⟩),⟨(fun i=>⟨(fun q=>(by have:=al i;have:=E (e+f);have:=ny (x:=(i64.wrap (e+f))) (by omega) (by omega);have:=ng (u64.wrap (i64.wrap (e+f)));have:=E ((u64.wrap (i64.wrap (e+f)))/2^(toNat 1));have:=E ((i64.wrap ((u64.wrap (i64.wrap (e+f)))/2^(toNat 1)))+1);omega)),(fun t=>(by have:=al i;have:=E (e+f);have:=ny (x:=(i64.wrap (e+f))) (by omega) (by omega);have:=ng (u64.wrap (i64.wrap (e+f)));have:=E ((u64.wrap (i64.wrap (e+f)))/2^(toNat 1));omega))⟩),(fun u=>(by omega))⟩⟩)⟩,(fun v=>(fun p=>(by have:=al p;omega)))⟩)
theorem Yv(A:G bH)(g:u)(r:Int): ∀k i j,uu A g r k i j=mB (fun m=>decide ((r1 (A.at' m).q (A.at' m).C g r)<0)) k i j
 |0,_,_=>rfl
 |k+1,i,j=>by simp only[uu,mB,Yv A g r k]
theorem aod(A:G bH)(g:u)(r:Int)(a:A.n≤549755813888):0≤Ac A g r∧Ac A g r≤(A.n:Int):=by
 show 0≤uu A g r _ _ _∧uu A g r _ _ _≤_;rw[Yv];exact y2 (by omega) _ _ _ (by omega) (by omega) (by omega)
def ur(A:G u)(g:u):Nat→Int→Int→Int
 |0,_,_=>default
 |k+1,e,f=>(cond (decide (e<f)) (cond (Jp (A.at' (toNat (i64.wrap ((u64.wrap (i64.wrap (e+f)))/2^(toNat 1))))) g) (ur A g k (i64.wrap ((i64.wrap ((u64.wrap (i64.wrap (e+f)))/2^(toNat 1)))+1)) f) (ur A g k e (i64.wrap ((u64.wrap (i64.wrap (e+f)))/2^(toNat 1))))) e)
def Ab(A:G u)(g:u):Int:=ur A g ((toNat ((A.n:Int)-0))+1) 0 (A.n:Int)
def abW(A:G u)(g:u):Bool:=(cond (decide ((Ab A g)<(A.n:Int))) (cond (((A.at' (toNat (Ab A g))):u).toList==(g:u).toList) true (cond (RY (A.at' (toNat (Ab A g)))) (RY g) false)) false)
def qc(A:G u)(g:u):Int:=(Ab A g)
def wO(A:G u)(g:u):Bool:=(abW A g)
def akx:ba:=⟨[.v (.ab bK),.v ai],fun A g=>⟨⟨none,.c7 [b (qc A g),.bool (wO A g)]⟩⟩⟩
theorem au_:bn 217 akx:=bq Tryz.func217
 fun A z _ g B=>bu ⟨.pure,[.tmp 4,.tmp 5],[(.t 0,a),(.t 1,l)],⟨[U,U],[]⟩⟩ (.ae (.ae (.ae (.j ⟨243,[],[],[],.f⟩ (.cW ⟨499,[],[],[(.t 7,a),(.t 8,a)],some 0,false,243,[],[(.t 7,a)],fun k (s:Int×Int)=>ur A g k s.1 s.2,.f,fun(s:Int×Int)=>(0≤s.1∧s.1≤s.2∧s.2≤(A.n:Int)),fun(s:Int×Int)=>(toNat (s.2-s.1)),some fun(r:Int)=>0≤r∧r≤(A.n:Int)⟩ .z) (.j ⟨48,[],[(.t 5,l)],[],.f⟩ .z .z))))) (let b:=Ab A g;(((0≤(0:Int)∧(0:Int)≤(A.n:Int)∧(A.n:Int)≤(A.n:Int)))∧(∀(e:Int) (f:Int),let n:=toNat (f-e);let h:=decide (e<f);let c:=i64.wrap ((u64.wrap (i64.wrap (e+f)))/2^(toNat 1));let m:=Jp (A.at' (toNat c)) g;let d:=i64.wrap (c+1);(0≤e∧e≤f∧f≤(A.n:Int))→((h=true→(((0:Int)≤1∧(1:Int)≤64)∧((0:Int)≤c∧c<(A.n:Int))))∧((h=true→((m=true→((0≤d∧d≤f∧f≤(A.n:Int))∧(toNat (f-d))<n))∧(m=false→((0≤e∧e≤c∧c≤(A.n:Int))∧(toNat (c-e))<n))))∧(h=false→(0≤e∧e≤(A.n:Int)))))))∧((0≤b∧b≤(A.n:Int))→((decide (b<(A.n:Int)))=true→(((0:Int)≤b∧b<(A.n:Int))∧((((A.at' (toNat b)):u).toList==(g:u).toList)=false→((0:Int)≤b∧b<(A.n:Int))))))) (cu (aG ave (aG avf aT))) Tryz.func217 (⟨⟨(by omega),(fun e f y=>⟨(fun o=>⟨(by omega),(by have:=al o;have:=E (e+f);have:=ny (x:=(i64.wrap (e+f))) (by omega) (by omega);have:=ng (u64.wrap (i64.wrap (e+f)));have:=E ((u64.wrap (i64.wrap (e+f)))/2^(toNat 1));omega)⟩),⟨(fun i=>⟨(fun p=>(by have:=al i;have:=E (e+f);have:=ny (x:=(i64.wrap (e+f))) (by omega) (by omega);have:=ng (u64.wrap (i64.wrap (e+f)));have:=E ((u64.wrap (i64.wrap (e+f)))/2^(toNat 1));have:=E ((i64.wrap ((u64.wrap (i64.wrap (e+f)))/2^(toNat 1)))+1);omega)),(fun q=>(by have:=al i;have:=E (e+f);have:=ny (x:=(i64.wrap (e+f))) (by omega) (by omega);have:=ng (u64.wrap (i64.wrap (e+f)));have:=E ((u64.wrap (i64.wrap (e+f)))/2^(toNat 1));omega))⟩),(fun t=>(by omega))⟩⟩)⟩,(fun w=>(fun j=>⟨(by have:=al j;omega),(fun v=>(by have:=al j;omega))⟩))⟩)
theorem Yu(A:G u)(g:u): ∀k i j,ur A g k i j=mB (fun m=>(Jp (A.at' m) g)) k i j
 |0,_,_=>rfl
 |k+1,i,j=>by simp only[ur,mB,Yu A g k]
theorem f233(A:G u)(g:u)(a:A.n≤549755813888):0≤qc A g∧qc A g≤(A.n:Int):=by
 show 0≤ur A g _ _ _∧ur A g _ _ _≤_;rw[Yu];exact y2 (by omega) _ _ _ (by omega) (by omega) (by omega)
theorem t233(A:G u)(g:u)(h:wO A g=true):qc A g<(A.n:Int):=by
 unfold wO abW at h
 cases e:decide (Ab A g<(A.n:Int))with
 |true=>exact al e
 |false=>rw[e]at h;cases h
end
section
variable(A:Int)(r:u)(h:u)(R:G bH)(p:G bl)(x:G u)
def zT:Int:=A
def zU(g:u):u:=g
def lv(r:Int):Int:=r
def ajO:b0:=⟨[.g [a,ai,a,.ab c5,.ab bK,.ab cS]],[],[],fun A g r h o c=>⟨⟨none,[.agg [b (zT A),.str (zU g),b (lv r),.own 0 (h).n,.own 1 (o).n,.own 2 (c).n]],[[(aB.ad c5).av h],[(aB.ad bK).av o],[(aB.ad cS).av c]]⟩⟩⟩
theorem auz:dJ 188 ajO:=dL Tryz.func188
 fun(A:Int) g _ (r:Int) h _ o _ c _=>dI ⟨.k7 false [.b 0,.b 1] [.own (.c 0 3) c5 0,.own (.c 0 4) bK 1,.own (.c 0 5) cS 2],[.cell 2 125],[(.c 0 0,a),(.c 0 1,ai),(.c 0 2,a),(.h 0 0,.ad c5),(.h 1 0,.ad bK),(.h 2 0,.ad cS)],⟨[.agg [U,U,U,.own 0 0,.own 1 0,.own 2 0]],[[U],[U],[U]]⟩⟩ (.z) True (cu (aG Ue (aG Be (aG Uf aT)))) Tryz.func188 (trivial)
def l3:Bool:=(cond (A==4) (uo p r) false)
def o3:Bool:=(cond (A==4) ((p.n:Int)==20) false)
def uj:Bool:=(cond (A==5) (!(uo p r)) false)
def apj:G bl:=(cond (uo p r) (G.del p (toNat (nX p r)) (toNat (i64.wrap ((nX p r)+1)))) p)
def D8:Bool:=(cond (l3 A r p) false (cond (o3 A p) false (cond (A==4) false (cond (uj A r p) false (cond (A==5) false true)))))
def abA:Int:=(cond (D8 A r p) nU (cond (l3 A r p) nU (cond (o3 A p) (qb 6) (cond (A==4) nU (cond (uj A r p) (qb 5) 0)))))
def abB:u:=(cond (D8 A r p) nV (cond (l3 A r p) nV (cond (o3 A p) r8 (cond (A==4) nV (cond (uj A r p) r8 (p.at' (toNat (nX p r))).C)))))
def abC:Int:=(cond (D8 A r p) (l2 (Ec (uo p r))) (cond (l3 A r p) (l2 0) (cond (o3 A p) r9 (cond (A==4) (l2 1) (cond (uj A r p) r9 0)))))
def abD:G u:=(cond (D8 A r p) nW (cond (l3 A r p) nW (cond (o3 A p) r_ (cond (A==4) nW (cond (uj A r p) r_ (D:G u))))))
def abE:G bl:=let a:=toNat (nX p r);(cond (D8 A r p) (apj r p) (cond (l3 A r p) (G.cp p a (⟨(p.at' a).q,h⟩:bl)) (cond (o3 A p) p (cond (A==4) (G.ins p a (⟨r,h⟩:bl)) p))))
theorem afk(A:Int)(r:u)(p:G bl)(h:l3 A r p=true):nX p r<(p.n:Int):=by
 unfold l3 at h
 cases e:(A==4)with
 |true=>rw[e]at h;exact WB _ _ h
 |false=>rw[e]at h;cases h
theorem UB(A:Int)(r:u)(p:G bl)(h:uj A r p=false):A=5→nX p r<(p.n:Int):=by
 intro a;unfold uj at h;rw[show(A==5)=true from iM.2 a]at h;exact WB _ _ (by simpa using h)
def akl:b0:=⟨[.p 0,.g [a,ai,ai,ai,a]],[(.h 0 0,a),(.h 0 1,ai),(.h 0 2,a),(.h 1 0,.ad c5),(.h 2 0,.ad bK),(.h 3 0,.ad cS)],[[U,U,U,.own 1 0,.own 2 0,.own 3 0],[U],[U],[U]],fun(A:Int) _ r h _ (c:Int) v (y:Int) p x R=>⟨⟨some (p.n≤1000000),[.agg [b (abA A r p),.str (abB A r p),b (abC A r p),aI 1 cK (abD A r p)]],[[b c,.str v,b y,aI 2 fz (abE A r h p),aI 1 cK x,aI 2 fA R],[dk],[dk],[dk]]⟩⟩⟩
theorem au0:dJ 204 akl:=dL Tryz.func204
 fun(A:Int) g u r z h B (o:Int) (c:Int) v C (y:Int) p D x F R w t=>dI (ms:=[.f,.f,.f,.f,.l,.l,.l,(.b .f (.b .f (.b .f (.b .f .l)))),.l,.l]) ⟨.k7 true [] [.kX (.h 0 3) c5,.kill 1,.kX (.h 0 4) bK,.kill 2,.kX (.h 0 5) cS,.kill 3],[.cell 4 99],[(.c 0 0,a),(.c 0 1,ai),(.c 0 2,a),(.c 0 3,.ab bK),(.h 0 0,a),(.h 0 1,ai),(.h 0 2,a),(.h 0 3,.ab c5),(.h 0 4,.ab bK),(.h 0 5,.ab cS)],⟨[.agg [U,U,U,U]],[[U,U,U,U,U,U],[dk],[dk],[dk]]⟩⟩ (.ae (.ae (.xT ⟨80,[.b 4],[(.h 8 0,.ad c5)],[],(.b .f (.b .f (.b .f (.b .f (.b .f .l)))))⟩ [.own (.h 0 3) c5 8] (.j ⟨262265,[],[(.t 18,l)],[],.f⟩ .z (.ae (.j ⟨34359738489,[],[(.t 35,l)],[],.f⟩ .z (.ae (.ae (.ae (.j ⟨295147905179352825977,[],[(.t 68,l)],[],.f⟩ .z .z))))))) .z))) (let b:=nX p r;let m:=i64.wrap (b+1);((l3 A r p)=true→(((0:Int)≤b∧b<(p.n:Int))∧((toNat b)<p.n)))∧((l3 A r p)=false→((o3 A p)=false→(((A==4)=true→((0:Int)≤b∧(b:Int)≤(p.n:Int)∧p.n+1≤549755813888∧1=1))∧((A==4)=false→((uj A r p)=false→(((A==5)=true→(((0:Int)≤b∧b<(p.n:Int))∧((toNat b)<p.n)))∧((A==5)=false→((uo p r)=true→((0:Int)≤b∧(b:Int)<m∧(m:Int)≤(p.n:Int))))))))))) (bJ 4 (aG Bd (aG FP (aG au7 (aG Ug aT)))) (aj au8 (aj au9 bI))) Tryz.func204 (⟨(fun j=>⟨(by have:=afk _ _ _ j;have:=zm p r (by omega);omega),(by have:=afk _ _ _ j;have:=zm p r (by omega);omega)⟩),(fun d=>(fun e=>⟨(fun n=>(by have:=d;simp [l3]at this;have:=e;simp [o3]at this;have:=eq_of_beq n;have:=zm p r (by omega);omega)),(fun f=>(fun i=>⟨(fun k=>⟨(by have:=d;simp [l3]at this;have:=e;simp [o3]at this;have:=cZ f;have:=UB _ _ _ i;have:=eq_of_beq k;have:=zm p r (by omega);omega),(by have:=d;simp [l3]at this;have:=e;simp [o3]at this;have:=cZ f;have:=UB _ _ _ i;have:=eq_of_beq k;have:=zm p r (by omega);omega)⟩),(fun q=>(fun s=>(by have:=d;simp [l3]at this;have:=e;simp [o3]at this;have:=cZ f;have:=UB _ _ _ i;have:=cZ q;have:=WB _ _ s;have:=zm p r (by omega);first|omega|(have:=E ((nX p r)+1);omega))))⟩))⟩))⟩)
def m8:Bool:=(cond (decide (A≤8)) ((x.n:Int)==20) false)
def abK:G u:=(cond (A==9) (G.part x 0 (i64.wrap ((x.n:Int)-1))) (G.part x 1 (x.n:Int)))
def apk:u:=(cond (A==9) (x.at' (toNat (i64.wrap ((x.n:Int)-1)))) (x.at' (toNat 0)))
def D9:Bool:=(cond (m8 A x) false (cond (A==7) false (cond (A==8) false true)))
def abF:Int:=(cond (D9 A x) 0 (cond (m8 A x) (qb 6) nU))
def abG:u:=(cond (D9 A x) (apk A x) (cond (m8 A x) r8 nV))
def abH:Int:=(cond (D9 A x) 0 (cond (m8 A x) r9 (l2 (i64.wrap ((x.n:Int)+1)))))
def abI:G u:=(cond (D9 A x) (D:G u) (cond (m8 A x) r_ nW))
def abJ:G u:=(cond (D9 A x) (abK A x) (cond (m8 A x) x (cond (A==7) (G.app x (G.lit ([h]:List u))) (G.ins x (toNat 0) h))))
def akm:b0:=⟨[.p 0,.g [a,ai,ai,ai,a]],[(.h 0 0,a),(.h 0 1,ai),(.h 0 2,a),(.h 1 0,.ad c5),(.h 2 0,.ad bK),(.h 3 0,.ad cS)],[[U,U,U,.own 1 0,.own 2 0,.own 3 0],[U],[U],[U]],fun(A:Int) _ _ h _ (c:Int) v (y:Int) p x R=>⟨⟨some (x.n≤1000000∧((7≤A∧A≤8)∨1≤x.n)),[.agg [b (abF A x),.str (abG A x),b (abH A x),aI 1 cK (abI A x)]],[[b c,.str v,b y,aI 2 fz p,aI 1 cK (abJ A h x),aI 2 fA R],[dk],[dk],[dk]]⟩⟩⟩
theorem au1:dJ 205 akm:=dL Tryz.func205
 fun(A:Int) g t r w h z (o:Int) (c:Int) v B (y:Int) p C x D R u n=>dI (ms:=[(.b .f (.b .f .l)),(.b .f (.b .f .l)),(.b .f (.b .f .l)),(.b .f (.b .f .l)),.l,.l,.l,.l,.f,.l]) ⟨.k7 true [] [.kX (.h 0 3) c5,.kill 1,.kX (.h 0 4) bK,.kill 2,.kX (.h 0 5) cS,.kill 3],[.cell 4 99],[(.c 0 0,a),(.c 0 1,ai),(.c 0 2,a),(.c 0 3,.ab bK),(.h 0 0,a),(.h 0 1,ai),(.h 0 2,a),(.h 0 3,.ab c5),(.h 0 4,.ab bK),(.h 0 5,.ab cS)],⟨[.agg [U,U,U,U]],[[U,U,U,U,U,U],[dk],[dk],[dk]]⟩⟩ (.ae (.ae (.ae (.j ⟨80,[.b 4],[(.h 0 4,.ab bK),(.t 6,ai)],[],(.b .f (.b .f (.b .f .l)))⟩ (.j ⟨67108985,[],[(.t 26,l)],[],.f⟩ .z (.ae (.ae (.ae (.ae (.ae (.ae (.s (.ix [(.h 0 4,bK)]) (.ix [(.h 0 4,bK)]))))))))) .z)))) (let d:=i64.wrap ((x.n:Int)-1);(m8 A x)=false→(((A==7)=true→(x.n+1≤549755813888))∧((A==7)=false→(((A==8)=true→((0:Int)≤0∧(0:Int)≤(x.n:Int)∧x.n+1≤549755813888∧1=1))∧((A==8)=false→(((A==9)=true→(((0:Int)≤d∧d<(x.n:Int))∧(((0:Int)≤0)∧((0:Int)≤d)∧((d:Int)≤d)∧((d:Int)≤(x.n:Int)))))∧((A==9)=false→(((0:Int)≤0∧0<(x.n:Int))∧(((0:Int)≤1)∧((1:Int)≤(x.n:Int))∧(((x.n:Int):Int)≤(x.n:Int))∧(((x.n:Int):Int)≤(x.n:Int))))))))))) (bJ 4 (aG Bd (aG FP aT)) (aj aes bI)) Tryz.func205 (have⟨q,s⟩:=n;(fun b=>⟨(fun k=>(by have:=b;simp [m8]at this;have:=eq_of_beq k;omega)),(fun e=>⟨(fun m=>(by have:=b;simp [m8]at this;have:=cZ e;have:=eq_of_beq m;omega)),(fun f=>⟨(fun i=>⟨(by have:=b;simp [m8]at this;have:=cZ e;have:=cZ f;have:=eq_of_beq i;first|omega|(have:=E ((x.n:Int)-1);omega)),(by have:=b;simp [m8]at this;have:=cZ e;have:=cZ f;have:=eq_of_beq i;first|omega|(have:=E ((x.n:Int)-1);omega))⟩),(fun j=>⟨(by have:=b;simp [m8]at this;have:=cZ e;have:=cZ f;have:=cZ j;omega),(by have:=b;simp [m8]at this;have:=cZ e;have:=cZ f;have:=cZ j;omega)⟩)⟩)⟩)⟩))
def sa:Bool:=(cond (A==11) (cond (!(wO x h)) ((x.n:Int)==20) false) false)
def wN:Bool:=(cond (A==11) (!(wO x h)) false)
def Jm:Bool:=(cond (A==12) (wO x h) false)
def apl:G u:=(cond (Jm A h x) (G.del x (toNat (qc x h)) (toNat (i64.wrap ((qc x h)+1)))) x)
def D_:Bool:=(cond (sa A h x) false (cond (wN A h x) false (cond (A==11) false true)))
def abL:Int:=(cond (D_ A h x) nU (cond (sa A h x) (qb 6) nU))
def abM:u:=(cond (D_ A h x) nV (cond (sa A h x) r8 nV))
def abN:Int:=(cond (D_ A h x) (l2 (Ec (wO x h))) (cond (sa A h x) r9 (cond (wN A h x) (l2 1) (l2 0))))
def abO:G u:=(cond (D_ A h x) nW (cond (sa A h x) r_ nW))
def abP:G u:=(cond (D_ A h x) (apl A h x) (cond (sa A h x) x (cond (wN A h x) (G.ins x (toNat (qc x h)) h) x)))
theorem axf(A:Int)(h:u)(x:G u)(a:Jm A h x=true):qc x h<(x.n:Int):=by
 unfold Jm at a
 cases e:(A==12)with
 |true=>rw[e]at a;exact t233 _ _ a
 |false=>rw[e]at a;cases a
def akn:b0:=⟨[.p 0,.g [a,ai,ai,ai,a]],[(.h 0 0,a),(.h 0 1,ai),(.h 0 2,a),(.h 1 0,.ad c5),(.h 2 0,.ad bK),(.h 3 0,.ad cS)],[[U,U,U,.own 1 0,.own 2 0,.own 3 0],[U],[U],[U]],fun(A:Int) _ _ h _ (c:Int) v (y:Int) p x R=>⟨⟨some (x.n≤1000000),[.agg [b (abL A h x),.str (abM A h x),b (abN A h x),aI 1 cK (abO A h x)]],[[b c,.str v,b y,aI 2 fz p,aI 1 cK (abP A h x),aI 2 fA R],[dk],[dk],[dk]]⟩⟩⟩
theorem au2:dJ 206 akn:=dL Tryz.func206
 fun(A:Int) g n r s h t (o:Int) (c:Int) v u (y:Int) p w x z R q m=>dI (ms:=[(.b .f (.b .f .l)),(.b .f (.b .f .l)),.f,(.b .f (.b .f .l)),.l,.l,.l,.l,.f,.l]) ⟨.k7 true [] [.kX (.h 0 3) c5,.kill 1,.kX (.h 0 4) bK,.kill 2,.kX (.h 0 5) cS,.kill 3],[.cell 4 99],[(.c 0 0,a),(.c 0 1,ai),(.c 0 2,a),(.c 0 3,.ab bK),(.h 0 0,a),(.h 0 1,ai),(.h 0 2,a),(.h 0 3,.ab c5),(.h 0 4,.ab bK),(.h 0 5,.ab cS)],⟨[.agg [U,U,U,U]],[[U,U,U,U,U,U],[dk],[dk],[dk]]⟩⟩ (.ae (.ae (.xT ⟨80,[],[(.h 8 0,.ad bK)],[],(.b .f (.b .f (.b .f .l)))⟩ [.own (.h 0 4) bK 8] (.j ⟨131193,[],[(.t 17,l)],[],.f⟩ .z (.ae (.j ⟨17179869305,[],[(.t 34,l)],[],.f⟩ .z (.ae (.ae (.ae (.j ⟨1152921504606847089,[.b 4],[(.t 60,l)],[],.f⟩ .z .z))))))) .z))) (let b:=qc x h;let e:=i64.wrap (b+1);(sa A h x)=false→(((wN A h x)=true→((0:Int)≤b∧(b:Int)≤(x.n:Int)∧x.n+1≤549755813888∧1=1))∧((wN A h x)=false→((A==11)=false→((Jm A h x)=true→((0:Int)≤b∧(b:Int)<e∧(e:Int)≤(x.n:Int))))))) (bJ 4 (aG Bd (aG FP (aG Ug (aG au_ aT)))) (aj aes (aj ava bI))) Tryz.func206 ((fun d=>⟨(fun f=>(by have:=d;simp [sa]at this;have:=f;(try simp [wN]at this);have:=f233 x h (by omega);omega)),(fun i=>(fun j=>(fun k=>(by have:=d;simp [sa]at this;have:=i;simp [wN]at this;have:=cZ j;have:=axf _ _ _ k;have:=f233 x h (by omega);first|omega|(have:=E ((qc x h)+1);omega)))))⟩))
def uk:Bool:=(cond (A==16) (decide ((jw R h)<0)) false)
def um:Bool:=(cond (A==14) (cond (decide ((jw R h)<0)) ((R.n:Int)==20) false) false)
def Aa:G bH:=(cond (decide ((jw R h)≥0)) (G.del R (toNat (jw R h)) (toNat (i64.wrap ((jw R h)+1)))) R)
def abQ:Int:=(cond (uk A h R) (qb 5) (cond (A==16) nU (cond (um A h R) (qb 6) nU)))
def abR:u:=(cond (uk A h R) r8 (cond (A==16) nV (cond (um A h R) r8 nV)))
def abS:Int:=(cond (uk A h R) r9 (cond (A==16) (l2 (jw R h)) (cond (um A h R) r9 (cond (A==15) (l2 (Ec (decide ((jw R h)≥0)))) (l2 (Ec (decide ((jw R h)<0))))))))
def abT:G u:=(cond (uk A h R) r_ (cond (A==16) nW (cond (um A h R) r_ nW)))
def abU(o:Int)(R:G bH):G bH:=let a:=Aa h R;(cond (uk A h R) R (cond (A==16) R (cond (um A h R) R (cond (A==15) a (G.ins a (toNat (Ac a h o)) (⟨h,o⟩:bH))))))
theorem f144(A:G bH)(g:u)(b:A.n≤549755813888): -1≤jw A g∧jw A g<(A.n:Int):=by
 have e:zZ A g=scan (fun i=>wM (A.at' (toNat i)).q g) (fun i=>i) A.n 0:=nw (fun k i=>zY A g k i) A.n _ _ b fun _ _=>rfl;unfold jw Jb Rz;rw[e]
 cases h:(scan (fun i=>wM (A.at' (toNat i)).q g) (fun i=>i) A.n 0).1 with
 |true=>
  obtain⟨j,c,d,_,a⟩:=MO _ _ h;show-1≤(scan _ _ _ _).2∧(scan _ _ _ _).2<_;rw[a];omega
 |false=>show-1≤(-1:Int)∧(-1:Int)<_;omega
theorem aoc(h:u)(R:G bH)(a:R.n≤549755813888):((Aa h R).n:Int)≤(R.n:Int):=by
 unfold Aa
 cases decide (jw R h≥0)
 ·exact cR _
 ·show(((G.del R _ _).n:Nat):Int)≤_;unfold G.del;simp only[];omega
def ako:b0:=⟨[.p 0,.g [a,ai,ai,ai,a]],[(.h 0 0,a),(.h 0 1,ai),(.h 0 2,a),(.h 1 0,.ad c5),(.h 2 0,.ad bK),(.h 3 0,.ad cS)],[[U,U,U,.own 1 0,.own 2 0,.own 3 0],[U],[U],[U]],fun(A:Int) _ _ h (o:Int) (c:Int) v (y:Int) p x R=>⟨⟨some (R.n≤1000000),[.agg [b (abQ A h R),.str (abR A h R),b (abS A h R),aI 1 cK (abT A h R)]],[[b c,.str v,b y,aI 2 fz p,aI 1 cK x,aI 2 fA (abU A h o R)],[dk],[dk],[dk]]⟩⟩⟩
theorem au3:dJ 207 ako:=dL Tryz.func207
 fun(A:Int) g q r t h u (o:Int) (c:Int) v w (y:Int) p z x B R s n=>dI (ms:=[(.b .f (.b .f (.b .f .l))),(.b .f (.b .f (.b .f .l))),.f,(.b .f (.b .f (.b .f .l))),.l,.l,.l,.l,.l,.f]) ⟨.k7 true [] [.kX (.h 0 3) c5,.kill 1,.kX (.h 0 4) bK,.kill 2,.kX (.h 0 5) cS,.kill 3],[.cell 4 99],[(.c 0 0,a),(.c 0 1,ai),(.c 0 2,a),(.c 0 3,.ab bK),(.h 0 0,a),(.h 0 1,ai),(.h 0 2,a),(.h 0 3,.ab c5),(.h 0 4,.ab bK),(.h 0 5,.ab cS)],⟨[.agg [U,U,U,U]],[[U,U,U,U,U,U],[dk],[dk],[dk]]⟩⟩ (.ae (.ae (.s (.j ⟨65593,[],[(.t 16,l)],[],.f⟩ .z (.ae (.ae (.ae (.j ⟨2147483705,[],[(.t 31,l)],[],.f⟩ .z .z))))) (.xT ⟨57,[],[(.h 8 0,.ad cS)],[],.f⟩ [.own (.h 0 5) cS 8] .z .z)))) (let d:=Aa h R;let b:=jw R h;let j:=i64.wrap (b+1);(uk A h R)=false→((A==16)=false→((um A h R)=false→(((decide (b≥0))=true→((0:Int)≤b∧(b:Int)<j∧(j:Int)≤(R.n:Int)))∧((A==15)=false→((0:Int)≤(Ac d h o)∧((Ac d h o):Int)≤(d.n:Int)∧d.n+1≤549755813888∧1=1)))))) (bJ 4 (aG aeh (aG Bd (aG FP (aG Ug (aG avc aT))))) (aj avb (aj avd bI))) Tryz.func207 ((fun e=>(fun f=>(fun i=>⟨(fun k=>(by have:=e;simp [uk]at this;have:=cZ f;have:=i;simp [um]at this;have:=al k;have:=f144 R h (by omega);first|omega|(have:=E ((jw R h)+1);omega))),(fun m=>(by have:=e;simp [uk]at this;have:=cZ f;have:=i;simp [um]at this;have:=cZ m;have:=aoc h R (by omega);have:=aod (Aa h R) h o (by omega);omega))⟩))))
end
section
def Dz(A:u)(p:u):Int:=(ue A p)
def aiZ:ba:=⟨[.g [ai,a,ai,a,.ab c5,.ab bK,.ab cS,a],.v ai],fun A _ _ _ _ _ _ _ p=>⟨⟨none,b (Dz A p)⟩⟩⟩
theorem at4:bn 186 aiZ:=bq Tryz.func186
 fun A _ (g:Int) r _ (h:Int) o _ _ c _ _ v _ _ (y:Int) p _=>bu ⟨.pure,[.tmp 4],[(.t 0,a)],⟨[U],[]⟩⟩ (.z) True (cu (aG LI aT)) Tryz.func186 (trivial)
def ud(A:G L)(g:u):Nat→Int→Int→Int
 |0,_,_=>default
 |k+1,e,f=>(cond (decide (e<f)) (cond (decide ((Dz (A.at' (toNat (i64.wrap ((u64.wrap (i64.wrap (e+f)))/2^(toNat 1))))).q g)<0)) (ud A g k (i64.wrap ((i64.wrap ((u64.wrap (i64.wrap (e+f)))/2^(toNat 1)))+1)) f) (ud A g k e (i64.wrap ((u64.wrap (i64.wrap (e+f)))/2^(toNat 1))))) e)
variable(A:G L)(g:u)
def Dy:Int:=ud A g ((toNat ((A.n:Int)-0))+1) 0 (A.n:Int)
def aaJ:Bool:=(cond (decide ((Dy A g)<(A.n:Int))) ((Dz (A.at' (toNat (Dy A g))).q g)==0) false)
def zI:Int:=(Dy A g)
def Dx:Bool:=(aaJ A g)
def aiY:ba:=⟨[.v (.ab bd),.v ai,.fn 186 []],fun A g=>⟨⟨none,.c7 [b (zI A g),.bool (Dx A g)]⟩⟩⟩
theorem at3:bn 185 aiY:=bq Tryz.func185
 fun A w _ g y=>bu ⟨.pure,[.tmp 6,.tmp 7],[(.t 0,a),(.t 1,l)],⟨[U,U],[]⟩⟩ (.ae (.ae (.ae (.j ⟨967,[],[],[],.f⟩ (.cW ⟨1991,[],[],[(.t 9,a),(.t 10,a)],some 0,false,967,[],[(.t 9,a)],fun k (s:Int×Int)=>ud A g k s.1 s.2,.f,fun(s:Int×Int)=>(0≤s.1∧s.1≤s.2∧s.2≤(A.n:Int)),fun(s:Int×Int)=>(toNat (s.2-s.1)),some fun(r:Int)=>0≤r∧r≤(A.n:Int)⟩ .z) (.j ⟨192,[],[(.t 7,l)],[],.f⟩ .z .z))))) (let c:=Dy A g;(((0≤(0:Int)∧(0:Int)≤(A.n:Int)∧(A.n:Int)≤(A.n:Int)))∧(∀(e:Int) (f:Int),let m:=toNat (f-e);let h:=decide (e<f);let b:=i64.wrap ((u64.wrap (i64.wrap (e+f)))/2^(toNat 1));let d:=i64.wrap (b+1);let j:=decide ((Dz (A.at' (toNat b)).q g)<0);(0≤e∧e≤f∧f≤(A.n:Int))→((h=true→(((0:Int)≤1∧(1:Int)≤64)∧((0:Int)≤b∧b<(A.n:Int))))∧((h=true→((j=true→((0≤d∧d≤f∧f≤(A.n:Int))∧(toNat (f-d))<m))∧(j=false→((0≤e∧e≤b∧b≤(A.n:Int))∧(toNat (b-e))<m))))∧(h=false→(0≤e∧e≤(A.n:Int)))))))∧((0≤c∧c≤(A.n:Int))→((decide (c<(A.n:Int)))=true→((0:Int)≤c∧c<(A.n:Int))))) (cu (aG at4 aT)) Tryz.func185 (⟨⟨(by omega),(fun e f v=>⟨(fun n=>⟨(by omega),(by have:=al n;have:=E (e+f);have:=ny (x:=(i64.wrap (e+f))) (by omega) (by omega);have:=ng (u64.wrap (i64.wrap (e+f)));have:=E ((u64.wrap (i64.wrap (e+f)))/2^(toNat 1));omega)⟩),⟨(fun i=>⟨(fun p=>(by have:=al i;have:=E (e+f);have:=ny (x:=(i64.wrap (e+f))) (by omega) (by omega);have:=ng (u64.wrap (i64.wrap (e+f)));have:=E ((u64.wrap (i64.wrap (e+f)))/2^(toNat 1));have:=E ((i64.wrap ((u64.wrap (i64.wrap (e+f)))/2^(toNat 1)))+1);omega)),(fun q=>(by have:=al i;have:=E (e+f);have:=ny (x:=(i64.wrap (e+f))) (by omega) (by omega);have:=ng (u64.wrap (i64.wrap (e+f)));have:=E ((u64.wrap (i64.wrap (e+f)))/2^(toNat 1));omega))⟩),(fun t=>(by omega))⟩⟩)⟩,(fun u=>(fun o=>(by have:=al o;omega)))⟩)
theorem Ys(A:G L)(g:u): ∀k i j,ud A g k i j=mB (fun m=>decide ((Dz (A.at' m).q g)<0)) k i j
 |0,_,_=>rfl
 |k+1,i,j=>by simp only[ud,mB,Ys A g k]
theorem ZL(A:G L)(g:u)(a:A.n≤549755813888):0≤zI A g∧zI A g≤(A.n:Int):=by
 show 0≤ud A g _ _ _∧ud A g _ _ _≤_;rw[Ys];exact y2 (by omega) _ _ _ (by omega) (by omega) (by omega)
theorem ahD(A:G L)(g:u)(h:Dx A g=true):zI A g<(A.n:Int):=by
 unfold Dx aaJ at h
 cases e:decide (Dy A g<(A.n:Int))with
 |true=>exact al e
 |false=>rw[e]at h;cases h
def rz(b:Bool)(i:Int)(n:Nat):Prop:=(0≤i∧i≤(n:Int))∧(b=true→i<(n:Int))
theorem aBu{b:Bool}{i:Int}{n:Nat}(h:rz b i n):0≤i∧i≤(n:Int):=h.1
theorem WD{b:Bool}{i:Int}{n:Nat}(h:rz b i n)(a:(!b)=false):0≤i∧i<(n:Int):=⟨h.1.1,h.2 (by simpa using a)⟩
theorem aBt(A:G L)(g:u)(a:A.n≤549755813888):rz (Dx A g) (zI A g) A.n:=⟨ZL A g a,ahD A g⟩
def tO(s:G L):Prop:=s.n≤1000000∧ ∀i,i<s.n→(s.at' i).w.n≤1048576∧(s.at' i).m.n≤1048576∧(s.at' i).N.n≤1048576
end
section
def h0(A:u)(o:G L):Int:=(zI o A)
def hF(A:u)(o:G L):Bool:=(Dx o A)
def aiQ:b0:=⟨[.p 0,.v ai],[(.h 0 0,a),(.h 0 2,a),(.h 0 3,l),(.h 1 0,.ad bd)],[[U,.own 1 0,U,U],[U]],fun A g _ _ o=>⟨⟨none,[],[[b g,.own 1 (o).n,b (h0 A o),.bool (hF A o)],[(aB.ad bd).av o]]⟩⟩⟩
theorem atW:dJ 163 aiQ:=dL Tryz.func163
 fun A _ (g:Int) (r:Int) h o _=>dI ⟨.heap,[],[(.h 0 0,a),(.h 0 2,a),(.h 0 3,l),(.h 1 0,.ad bd)],⟨[],[[U,.own 1 0,U,U],[U]]⟩⟩ (.z) True (bJ 2 (aG at3 aT) bI) Tryz.func163 (trivial)
theorem wi(g:u)(p:G L)(a:p.n≤549755813888):0≤h0 g p∧h0 g p≤(p.n:Int):=ZL p g a
theorem yz(g:u)(p:G L)(h:hF g p=true):h0 g p<(p.n:Int):=ahD p g h
theorem aBA(g:u)(p:G L)(h:(!(hF g p))=false):h0 g p<(p.n:Int):=yz g p (by simpa using h)
theorem lb{g:u}{p:G L}(h:tO p):rz (hF g p) (h0 g p) p.n:=aBt p g (by have:=h.1;omega)
def Dt(g:Int)(h:G L):G L:=(G.del h (toNat g) (toNat (i64.wrap (g+1))))
def aiR:b0:=⟨[.p 0],[(.h 0 0,a),(.h 0 2,a),(.h 0 3,l),(.h 1 0,.ad bd)],[[U,.own 1 0,U,U],[U]],fun(A:Int) (g:Int) r h=>⟨⟨some (h.n≤1000000∧0≤g∧g<(h.n:Int)),[],[[b A,.own 2 ((Dt g h)).n,b g,.bool r],[dk],[(aB.ad bd).av (Dt g h)]]⟩⟩⟩
theorem atX:dJ 164 aiR:=dL Tryz.func164
 fun(A:Int) (g:Int) r h i c=>dI ⟨.k7 true [] [.own (.h 0 1) bd 2],[],[(.h 0 0,a),(.h 0 2,a),(.h 0 3,l),(.h 2 0,.ad bd)],⟨[],[[U,.own 2 0,U,U],[dk],[U]]⟩⟩ (.z) (let b:=i64.wrap (g+1);(0:Int)≤g∧(g:Int)<b∧(b:Int)≤(h.n:Int)) (bJ 2 aT (aj at5 bI)) Tryz.func164 (have⟨d,e,f⟩:=c;(by have:=E (g+1);omega))
variable(A:Int)(g:u)(o:Int)(c:Int)(bP:Int)(b2:Bool)(ck:G L)(v:Int)(y:Bool)(p:G L)
def IX:Bool:=(cond (decide (o<1)) true (decide (o>(i64.wrap (1073741824-c)))))
def aaD:Int:=(cond (!y) 5 (cond (A==21) 0 (cond (IX o c) 2 0)))
def aaE:u:=⟨#[]⟩
def aaF:Int:=(cond (!y) 0 (cond (A==21) (imax (i64.wrap ((p.at' (toNat v)).ao-c)) 0) 0))
def aaG:G u:=(D:G u)
def aaH:G L:=let a:=p.at' (toNat v);(cond (!y) p (cond (A==21) p (cond (IX o c) p (G.cp p (toNat v) (⟨a.q,a.C,a.z,a.I,a.w,a.m,a.N,(i64.wrap (c+o))⟩:L)))))
def aiS:b0:=⟨[.p 0,.g [a,ai,ai,ai,a]],[(.h 0 0,a),(.h 0 2,a),(.h 0 3,l),(.h 1 0,.ad bd)],[[U,.own 1 0,U,U],[U]],fun(A:Int) _ _ _ (o:Int) (c:Int) (v:Int) y p=>let d:=aaH A o c v y p;⟨⟨some (rz y v p.n∧p.n≤1000000),[.agg [b (aaD A o c y),.str aaE,b (aaF A c v y p),aI 1 cK aaG]],[[b c,.own 1 (d).n,b v,.bool y],[(aB.ad bd).av d]]⟩⟩⟩
theorem atY:dJ 165 aiS:=dL Tryz.func165
 fun(A:Int) g m r n h q (o:Int) (c:Int) (v:Int) y p s f=>dI (ms:=[.f,.l,(.b .f (.b .f .l)),.l,.l,.l,.l,.f]) ⟨.heap,[.cell 4 99],[(.c 0 0,a),(.c 0 1,ai),(.c 0 2,a),(.c 0 3,.ab bK),(.h 0 0,a),(.h 0 2,a),(.h 0 3,l),(.h 1 0,.ad bd)],⟨[.agg (us 4 [])],[[U,.own 1 0,U,U],[U]]⟩⟩ (.ae (.ae (.ae (.ae (.s (.j ⟨1125899906842681,[],[(.t 50,l)],[],.f⟩ .z .z) .z))))) ((!y)=false→(((0:Int)≤v∧v<(p.n:Int))∧(((A==21)=true→((toNat v)<p.n))∧((A==21)=false→((IX o c)=false→((toNat v)<p.n)))))) (bJ 2 aT bI) Tryz.func165 (have⟨j,k⟩:=f;(fun b=>⟨(by have:=WD (by assumption) b;omega),⟨(fun i=>(by have:=WD (by assumption) b;omega)),(fun d=>(fun e=>(by have:=WD (by assumption) b;have:=cZ d;have:=e;simp [IX]at this;omega)))⟩⟩))
def zH:G L:=(cond (!b2) (G.ins ck (toNat bP) (⟨g,0,⟨#[]⟩,0,(D:G bl),(D:G u),(D:G bH),0⟩:L)) ck)
def aaI(v:u)(y:Int)(p:G bl)(x:G u)(R:G bH)(bP:Int)(b2:Bool)(ck:G L):G L:=let e:=zH g bP b2 ck;let b:=toNat bP;let d:=G.cp e b (⟨(e.at' b).q,c,v,y,p,x,R,(e.at' b).ao⟩:L);let a:=d.at' b;(cond (A==1) (G.cp d b (⟨a.q,a.C,a.z,a.I,a.w,a.m,a.N,0⟩:L)) d)
theorem UK(g:u)(bP:Int)(b2:Bool)(ck:G L)(h:rz b2 bP ck.n):0≤bP∧bP<(((zH g bP b2 ck).n:Nat):Int):=by
 unfold zH
 cases b2 with
 |true=>exact⟨h.1.1,h.2 rfl⟩
 |false=>
  refine⟨h.1.1,?_⟩;show bP<((ck.n+1:Nat):Int);have:=h.1.2;omega
def aiW:b0:=⟨[.p 0,.g [a,ai,ai,ai,a],.g [a,ai,a,.ab c5,.ab bK,.ab cS]],[(.h 0 0,a),(.h 0 2,a),(.h 0 3,l),(.h 1 0,.ad bd)],[[U,.own 1 0,U,U],[U]],fun(A:Int) g _ _ _ (c:Int) v (y:Int) p x R (bz:Int) (bP:Int) b2 ck=>let d:=aaI A g c v y p x R bP b2 ck;⟨⟨some (rz b2 bP ck.n∧ck.n≤1000000),[],[[b bz,.own 1 (d).n,b bP,.bool b2],[(aB.ad bd).av d]]⟩⟩⟩
theorem at2:dJ 167 aiW:=dL Tryz.func167
 fun(A:Int) g q r u h w (o:Int) (c:Int) v z (y:Int) p B x C R s (bz:Int) (bP:Int) b2 ck t e=>dI (ms:=[.l,.l,.l,.f]) ⟨.heap,[],[(.h 0 0,a),(.h 0 2,a),(.h 0 3,l),(.h 1 0,.ad bd)],⟨[],[[U,.own 1 0,U,U],[U]]⟩⟩ (.ae (.j ⟨49,[.b 4],[(.h 1 0,.ad bd)],[],.f⟩ .z .z)) (let d:=zH g bP b2 ck;((!b2)=true→((0:Int)≤bP∧(bP:Int)≤(ck.n:Int)∧ck.n+1≤549755813888∧1=1))∧(((0:Int)≤bP∧bP<(d.n:Int))∧(((toNat bP)<d.n)∧((A==1)=true→((toNat bP)<d.n))))) (bJ 2 aT (aj at6 bI)) Tryz.func167 (have⟨k,m⟩:=e;⟨(fun f=>(by have:=aBu (b:=b2) (i:=bP) (n:=ck.n) (by assumption);omega)),⟨(by have:=UK g bP b2 ck (by repeat first|assumption|apply vT|apply vS|apply jF|apply ns|apply And.intro|apply CQ|apply CP|apply lb);omega),⟨(by have:=UK g bP b2 ck (by repeat first|assumption|apply vT|apply vS|apply jF|apply ns|apply And.intro|apply CQ|apply CP|apply lb);omega),(fun j=>(by have:=UK g bP b2 ck (by repeat first|assumption|apply vT|apply vS|apply jF|apply ns|apply And.intro|apply CQ|apply CP|apply lb);omega))⟩⟩⟩)
def zA(g:G L):Nat→Int→G L→G L
 |0,_,_=>default
 |k+1,e,f=>(cond (decide (e<(g.n:Int))) (zA g k (i64.wrap (e+1)) (G.app f (G.lit ([(g.at' (toNat e))]:List L)))) f)
def ao0(g:G L):G L:=zA g ((toNat ((g.n:Int)-0))+1) 0 (D:G L)
def iy:Int:=A
def ij(g:G L):G L:=(ao0 g)
def aiK:b0:=⟨[.g [a,.ab bd]],[],[],fun A g=>⟨⟨none,[.agg [b (iy A),.own 0 ((ij g)).n]],[[(aB.ad bd).av (ij g)]]⟩⟩⟩
theorem atS:dJ 148 aiK:=dL Tryz.func148
 fun(A:Int) g l=>dI ⟨.k7 false [] [.own (.c 0 1) bd 0],[.cell 2 46],[(.c 0 0,a),(.h 0 0,.ad bd)],⟨[.agg [U,.own 0 0]],[[U]]⟩⟩ (.ae (.ae (.j ⟨12,[],[],[],.f⟩ (.ae (.cW ⟨14348,[.b 0],[(.h 2 1,bd)],[(.t 13,a),(.h 3 0,.ad bd)],some 0,false,12,[],[(.h 3 0,.ad bd)],fun k (s:Int×G L)=>zA g k s.1 s.2,.f,fun(s:Int×G L)=>((0≤s.1∧s.1≤(g.n:Int))∧(s.2.n:Int)≤0+(s.1-0)),fun(s:Int×G L)=>(toNat ((g.n:Int)-s.1)),some fun(r:G L)=>(r.n:Int)≤0+max ((g.n:Int)-0) 0⟩ .z)) .z))) ((((0≤(0:Int)∧(0:Int)≤(g.n:Int))∧((0:Nat):Int)≤0+((0:Int)-0)))∧(∀(e:Int) (f:G L),let c:=decide (e<(g.n:Int));let b:=i64.wrap (e+1);((0≤e∧e≤(g.n:Int))∧(f.n:Int)≤0+(e-0))→((c=true→(((0:Int)≤e∧e<(g.n:Int))∧(f.n+1≤549755813888)))∧((c=true→(((0≤b∧b≤(g.n:Int))∧(((f.n+1):Nat):Int)≤0+(b-0))∧(toNat ((g.n:Int)-b))<(toNat ((g.n:Int)-e))))∧(c=false→((f.n:Int)≤0+max ((g.n:Int)-0) 0)))))) (cu (aG Ue (aG Be (aG Uf aT)))) Tryz.func148 (⟨(by omega),(fun e f j=>⟨(fun d=>⟨(by have:=al d;omega),(by have:=al d;omega)⟩),⟨(fun h=>(by have:=al h;have:=E (e+1);omega)),(fun i=>(by omega))⟩⟩)⟩)
end
def aay(y:Int)(p:Int):Bool:=(cond (y !=0) (decide (y≤p)) false)
def iz(y:Int)(p:Int):Bool:=(aay y p)
def aiM:b0:=⟨[.g [ai,a,ai,a,.ab c5,.ab bK,.ab cS,a],.p 0],[(.h 1 0,a),(.h 1 2,a),(.h 1 3,l)],[[.ptr 1 0],[U,.gone,U,U]],fun _ _ _ _ _ _ _ y p x R=>⟨⟨none,[.bool (iz y p)],[[.ptr 1 0],[b p,.gone,b x,.bool R]]⟩⟩⟩
theorem aec:dJ 150 aiM:=dL Tryz.func150
 fun A _ (g:Int) r _ (h:Int) o _ c _ v _ (y:Int) (p:Int) (x:Int) R=>dI ⟨.heap,[.tmp 3],[(.t 0,l),(.h 1 0,a),(.h 1 2,a),(.h 1 3,l)],⟨[U],[[.ptr 1 0],[U,.gone,U,U]]⟩⟩ (.ae (.j ⟨8,[.b 2],[(.t 3,l)],[],.f⟩ .z .z)) True (bJ 2 aT bI) Tryz.func150 (trivial)
section
def rX(A:Int)(g:Int)(r:Bool)(h:G L):Nat→Int→Bool×Int×Int×Int×Bool×G L
 |0,_=>default
 |k+1,e=>(cond (decide (e<(h.n:Int))) (cond (iz (h.at' (toNat e)).ao A) (true,e,A,g,r,h) (rX A g r h k (i64.wrap (e+1)))) (false,default,default,default,default,default))
variable(A:Int)(g:Int)(r:Bool)(h:G L)
def wA:Bool×Int×Int×Int×Bool×G L:=rX A g r h ((toNat ((h.n:Int)-0))+1) 0
def zF:Bool:=(cond (wA A g r h).1 false true)
def m7:Int:=(cond (zF A g r h) (-1) (wA A g r h).2.1)
def Q0:Int:=(cond (zF A g r h) A (wA A g r h).2.2.1)
def Q1:Int:=(cond (zF A g r h) g (wA A g r h).2.2.2.1)
def Q2:Bool:=(cond (zF A g r h) r (wA A g r h).2.2.2.2.1)
def Q3:G L:=(cond (zF A g r h) h (wA A g r h).2.2.2.2.2)
theorem xH{P:Program}{f:FuncId}{b:List J}{H:Heap}{rs a:List J}{H' kf:Heap}(h:fm P f b H rs H')(c:rs=a)(d:H'=kf):fm P f b H a kf:=by subst c d;exact h
theorem aeV(A:Int)(g:Int)(r:Bool)(h:G L)(p:h.n≤549755813888): ∀(m c i:Nat),i+m=h.n→m≤c→(rX A g r h (c+1) (i:Int)=(false,default,default,default,default,default)∧ ∀t,i≤t→t<h.n→iz (h.at' t).ao A=false)∨ ∃t,i≤t∧t<h.n∧rX A g r h (c+1) (i:Int)=(true,(t:Int),A,g,r,h)∧iz (h.at' t).ao A=true∧ ∀u,i≤u→u<t→iz (h.at' u).ao A=false
 |0,c,i,o,_=>by
  refine .inl ⟨?_,fun t f d=>by omega⟩;show(cond (decide ((i:Int)<(h.n:Int))) _ _)=_;rw[bp (by omega)];rfl
 |m+1,c,i,o,s=>by
  obtain⟨c,rfl⟩: ∃q,c=q+1:=⟨c-1,by omega⟩;have e:rX A g r h (c+1+1) (i:Int)=(cond (iz (h.at' i).ao A) (true,(i:Int),A,g,r,h) (rX A g r h (c+1) ((i+1:Nat):Int))):=by
   show(cond (decide ((i:Int)<(h.n:Int))) _ _)=_;rw[bS (by omega),fN,E _];rfl
  rw[e]
  cases j:iz (h.at' i).ao A with
  |true=>exact .inr ⟨i,bC _,by omega,rfl,j,fun u f d=>by omega⟩
  |false=>
   rcases aeV A g r h p m c (i+1) (by omega) (by omega)with⟨f,d⟩|⟨t,f,d,k,l,n⟩
   ·refine .inl ⟨f,fun t a b=> ?_⟩
    by_cases q:t=i
    ·subst q;exact j
    ·exact d t (by omega) b
   ·refine .inr ⟨t,by omega,d,k,l,fun u a b=> ?_⟩
    by_cases q:u=i
    ·subst q;exact j
    ·exact n u (by omega) b
theorem VV(A:Int)(g:Int)(r:Bool)(h:G L)(f:h.n≤549755813888):(Q0 A g r h=A∧Q1 A g r h=g∧Q2 A g r h=r∧Q3 A g r h=h)∧
  ((m7 A g r h= -1∧ ∀t,t<h.n→iz (h.at' t).ao A=false)∨ ∃t:Nat,t<h.n∧m7 A g r h=(t:Int)∧iz (h.at' t).ao A=true∧ ∀u,u<t→iz (h.at' u).ao A=false):=by
 unfold Q0 Q1 Q2 Q3 m7 zF wA;rcases aeV A g r h f h.n (toNat ((h.n:Int)-0)) 0 (by omega) (by omega)with⟨b,a⟩|⟨t,b,a,c,d,e⟩
 ·rw[show rX A g r h (toNat ((h.n:Int)-0)+1) 0=_ from b];exact⟨⟨rfl,rfl,rfl,rfl⟩,.inl ⟨rfl,fun t i=>a t (cf _) i⟩⟩
 ·rw[show rX A g r h (toNat ((h.n:Int)-0)+1) 0=_ from c];exact⟨⟨rfl,rfl,rfl,rfl⟩,.inr ⟨t,a,rfl,d,fun u j=>e u (cf _) j⟩⟩
theorem aob(A:Int)(g:Int)(r:Bool)(h:G L)(b:h.n≤549755813888): -1≤m7 A g r h∧m7 A g r h<(h.n:Int):=by
 rcases(VV A g r h b).2 with⟨a,_⟩|⟨t,c,a,_⟩<;>rw[a]<;>omega
def aiP:b0:=⟨[.o 2,.ju 150 [0]],[(.h 1 0,a),(.h 1 2,a),(.h 1 3,l),(.h 2 0,.ad bd)],[[.ptr 1 0],[U,.gone,U,U],[U]],fun A g r h=>⟨⟨none,[b (m7 A g r h)],[[.ptr 1 0],[b A,.gone,b g,.bool r],[(aB.ad bd).av h]]⟩⟩⟩
theorem atV:dJ 162 aiP:=dL Tryz.func162
 fun(A:Int) (g:Int) r h o=>have⟨i,j,m,aZ⟩:=(VV A g r h o).1;xH (rs:=[b (m7 A g r h)]) (H':=[[.ptr 1 0],[b (Q0 A g r h),.gone,b (Q1 A g r h),.bool (Q2 A g r h)],[(aB.ad bd).av (Q3 A g r h)]]) (dI ⟨.heap,[.tmp 4],[(.t 0,a),(.h 1 0,a),(.h 1 2,a),(.h 1 3,l),(.h 2 0,.ad bd)],⟨[U],[[.ptr 1 0],[U,.gone,U,U],[U]]⟩⟩ (.ae (.j ⟨16,[],[],[],.f⟩ (.ae (.cW ⟨403,[],[],[(.t 8,a)],some 0,true,16,[],[],fun k (s:Int)=>rX A g r h k s,.f,fun(s:Int)=>(0≤s∧s≤(h.n:Int)),fun(s:Int)=>(toNat ((h.n:Int)-s)),none⟩ .z)) .z)) (((0≤(0:Int)∧(0:Int)≤(h.n:Int)))∧(∀(e:Int),let f:=decide (e<(h.n:Int));let c:=i64.wrap (e+1);(0≤e∧e≤(h.n:Int))→((f=true→(((0:Int)≤e∧e<(h.n:Int))∧((toNat e)<h.n)))∧(f=true→((iz (h.at' (toNat e)).ao A)=false→((0≤c∧c≤(h.n:Int))∧(toNat ((h.n:Int)-c))<(toNat ((h.n:Int)-e)))))))) (bJ 3 aT (aj aec bI)) Tryz.func162 (⟨(by omega),(fun e q=>⟨(fun d=>⟨(by have:=al d;omega),(by have:=al d;omega)⟩),(fun n=>(fun p=>(by have:=al n;have:=E (e+1);omega)))⟩)⟩)) rfl (by rw[i,j,m,aZ];rfl)
end
section
variable(A:Int)(az:Int)(cB:Int)(g6:G L)(g:Int)(r:Bool)(h:G L)
def zB:G L:=(cond (!(iz (g6.at' (toNat cB)).ao A)) (G.cp g6 (toNat az) (g6.at' (toNat cB))) g6)
def wz:Int:=(cond (!(iz (g6.at' (toNat cB)).ao A)) (i64.wrap (az+1)) az)
def ua(A:Int):Nat→Int→Int→G L→Int×G L
 |0,_,_,_=>default
 |k+1,az,cB,g6=>(cond (decide (cB<(g6.n:Int))) (ua A k (wz A az cB g6) (i64.wrap (cB+1)) (zB A az cB g6)) (az,g6))
def Dp:Int×G L:=ua A ((toNat ((h.n:Int)- (i64.wrap ((m7 A g r h)+1))))+1) (m7 A g r h) (i64.wrap ((m7 A g r h)+1)) h
def kZ:G L:=(cond ((m7 A g r h)==(-1)) h (G.cut (G.vW (Dp A g r h).2 (toNat (Dp A g r h).1) ((⟨⟨#[]⟩,0,⟨#[]⟩,0,(D:G bl),(D:G u),(D:G bH),0⟩:L):L)) (toNat (Dp A g r h).1)))
theorem axH(A i j:Int)(s:G L):(zB A i j s).n=s.n:=by
 unfold zB
 cases (!(iz (s.at' (toNat j)).ao A))<;>rfl
theorem axI(A i j:Int)(s:G L)(h:0≤i∧i<549755813888):i≤wz A i j s∧wz A i j s≤i+1:=by
 unfold wz;have:=E (i+1)
 cases (!(iz (s.at' (toNat j)).ao A))<;>simp only[aQ,aS]<;>omega
def aiL:b0:=⟨[.o 2,.ju 150 [0]],[(.h 1 0,a),(.h 1 2,a),(.h 1 3,l),(.h 2 0,.ad bd)],[[.ptr 1 0],[U,.gone,U,U],[U]],fun(A:Int) (g:Int) r h=>let c:=kZ A g r h;⟨⟨some (h.n≤1000000),[.own 3 (c).n],[[.ptr 1 0],[b A,.gone,b g,.bool r],[dk],[(aB.ad bd).av c]]⟩⟩⟩
theorem atT:dJ 149 aiL:=dL Tryz.func149
 fun(A:Int) (g:Int) r h x w=>dI (ms:=[.f,.l,.l,.l]) ⟨.k7 false [] [.own (.t 0) bd 3],[.tmp 4],[(.h 3 0,.ad bd),(.h 1 0,a),(.h 1 2,a),(.h 1 3,l)],⟨[.own 3 0],[[.ptr 1 0],[U,.gone,U,U],[dk],[U]]⟩⟩ (.ae (.ae (.ae (.j ⟨49,[],[],[],.f⟩ (.ae (.cW ⟨115,[],[],[(.t 5,a),(.t 6,a),(.h 2 0,.ad bd)],some 0,false,49,[],[(.t 5,a),(.h 2 0,.ad bd)],fun k (s:Int×Int×G L)=>ua A k s.1 s.2.1 s.2.2,.f,fun(s:Int×Int×G L)=>(0≤s.1∧s.1<s.2.1∧s.2.1≤(s.2.2.n:Int)∧s.2.2.n=h.n),fun(s:Int×Int×G L)=>(toNat ((s.2.2.n:Int)-s.2.1)),some fun(c:Int×G L)=>(0≤c.1∧c.1<(c.2.n:Int)∧c.2.n=h.n)⟩ (.ae (.j ⟨1070530803,[],[(.h 2 0,.ad bd),(.t 5,a)],[],.f⟩ .z .z)))) (.s .Vc (.s .Vc .z)))))) (let d:=m7 A g r h;let n:=i64.wrap (d+1);let b:=Dp A g r h;(d==(-1))=false→((((0≤d∧d<n∧n≤(h.n:Int)∧h.n=h.n))∧(∀(az:Int) (cB:Int) (g6:G L),let m:=wz A az cB g6;let i:=i64.wrap (cB+1);let f:=zB A az cB g6;let e:=decide (cB<(g6.n:Int));(0≤az∧az<cB∧cB≤(g6.n:Int)∧g6.n=h.n)→((e=true→((((0:Int)≤cB∧cB<(g6.n:Int))∧((toNat cB)<g6.n))∧((!(iz (g6.at' (toNat cB)).ao A))=true→(((0:Int)≤az∧az<(g6.n:Int))∧((toNat az)<g6.n)))))∧((e=true→((0≤m∧m<i∧i≤(f.n:Int)∧f.n=h.n)∧(toNat ((f.n:Int)-i))<(toNat ((g6.n:Int)-cB))))∧(e=false→((0≤az∧az<(g6.n:Int)∧g6.n=h.n)))))))∧(((0≤b.1∧b.1<(b.2.n:Int)∧b.2.n=h.n))→(((0:Int)≤b.1∧b.1<(b.2.n:Int))∧((0:Int)≤b.1∧b.1<(b.2.n:Int)))))) (bJ 3 aT (aj aec (aj atV bI))) Tryz.func149 ((fun o=>⟨⟨(by have:=cZ o;have:=aob A g r h (by omega);have:=E ((m7 A g r h)+1);omega),(fun az cB g6 v=>⟨(fun j=>⟨⟨(by have:=al j;omega),(by have:=al j;omega)⟩,(fun q=>⟨(by omega),(by omega)⟩)⟩),⟨(fun p=>(by have:=al p;have:=axI A az cB g6 (by omega);have:=axH A az cB g6;have:=E (cB+1);omega)),(fun t=>(by omega))⟩⟩)⟩,(fun u=>⟨(by omega),(by omega)⟩)⟩))
end
end Go.Proofs.YtfmgjpcmcjjoiaaGreatDoor
namespace Go.af
open Go
theorem awY{x y:UInt8}{a b:List UInt8} :Op.bytesLess (x::a) (y::b)=true↔x<y∨(x=y∧Op.bytesLess a b=true):=by
 simp only[Op.bytesLess,G6,bL,jJ,iM]
theorem afa: ∀{a b c:List UInt8},Op.bytesLess a b=true→Op.bytesLess b c=true→Op.bytesLess a c=true
 |_,_,[],_,h=>by simp [Op.bytesLess]at h
 |[],_,_::_,_,_=>rfl
 |_::_,[],_::_,h,_=>by simp [Op.bytesLess]at h
 |x::a,y::b,z::c,e,d=>by
  rw[awY]at e d ⊢;rcases e with e|⟨g,e⟩
  ·rcases d with d|⟨f,d⟩
   ·exact .inl (UInt8.lt_trans e d)
   ·subst f;exact .inl e
  ·subst g;rcases d with d|⟨f,d⟩
   ·exact .inl d
   ·exact .inr ⟨f,afa e d⟩
theorem chain{R:Nat→Nat→Prop}(n:Nat)(a: ∀i,i+1<n→R i (i+1))(b: ∀i j k,i<j→j<k→k<n→R i j→R j k→R i k): ∀(d i:Nat),i+d+1<n→R i (i+d+1)
 |0,i,h=>a i h
 |d+1,i,h=>b i (i+d+1) (i+(d+1)+1) (by omega) (by omega) h (chain n a b d i (by omega)) (a (i+d+1) h)
theorem amX{R:Nat→Nat→Prop}(n:Nat)(a: ∀i,i+1<n→R i (i+1))(b: ∀i j k,i<j→j<k→k<n→R i j→R j k→R i k)(i j:Nat)(c:i<j)(d:j<n):R i j:=by
 have:=chain n a b (j-i-1) i (by omega);rwa [show i+(j-i-1)+1=j by omega]at this
theorem Z2{a ρ:Type}(F:Nat→Int→a→ρ)(n:Nat)(step:Nat→a→a)(c:a→ρ)(e:n≤549755813888)(b: ∀k i s,F (k+1) i s=bif decide (i<(n:Int))then F k (i64.wrap (i+1)) (step (toNat i) s)else c s):
  ∀(m k i:Nat) (s:a),i+m=n→m≤k→F (k+1) (i:Int) s=c ((List.range' i m).foldl (fun s j=>step j s) s)
 |0,k,i,s,d,_=>by
  rw[b,show decide ((i:Int)<(n:Int))=false by simp;omega];rfl
 |m+1,k,i,s,d,g=>by
  obtain⟨k,rfl⟩: ∃f,k=f+1:=⟨k-1,by omega⟩;rw[b,show decide ((i:Int)<(n:Int))=true by simp;omega];simp only[aQ];rw[E ((i:Int)+1)];have:=Z2 F n step c e b m k (i+1) (step i s) (by omega) (by omega);rw[show(((i+1:Nat)):Int)=(i:Int)+1 by omega]at this;rw[show toNat (i:Int)=i from fN i,this];rfl
theorem aoy{a ρ:Type}(F:Nat→Int→a→ρ)(n:Nat)(step:Nat→a→a)(b:a→ρ)(d:n≤549755813888)(c: ∀k i s,F (k+1) i s=bif decide (i<(n:Int))then F k (i64.wrap (i+1)) (step (toNat i) s)else b s)(s:a):
  F (toNat ((n:Int)-0)+1) 0 s=b ((List.range n).foldl (fun s j=>step j s) s):=by
 have:=Z2 F n step b d c n (toNat ((n:Int)-0)) 0 s (by omega) (by omega);rw[List.range_eq_range'];exact this
section
variable {α:Type}
theorem aoz{b:Type}(s:G α)(step:α→b→b)(st:b):(List.range s.n).foldl (fun st j=>step (s.at' j) st) st=s.B.foldl (fun st a=>step a st) st:=by
 unfold G.B;rw[List.foldl_map]
theorem ax4{a b:Nat}(h:a≠b):Nat.beq a b=false:=by
 cases e:Nat.beq a b with
 |false=>rfl
 |true=>exact absurd (dQ e) h
theorem aiv(s:G α){i:Nat}(h:i<s.n):s.B.drop i=s.at' i::s.B.drop (i+1):=by
 rw[tx (by rw[a_];exact h)];simp [G.B]
end
end Go.af
namespace Go.Proofs.YtfmgjpcmcjjoiaaGreatDoor
open Go Go.RowKit Go.af
theorem axu{α:Type}(s:G α){t:Nat}{a:α}(h:a∈s.B.take t): ∃i,i<s.n∧i<t∧s.at' i=a:=by
 obtain⟨i,c,b⟩:=List.mem_take_iff_getElem.1 h;rw[a_]at c;refine⟨i,by omega,by omega,?_⟩;rw[←b];simp [G.B]
theorem Nq{α:Type}(s:G α)(t:Nat):s.B[t]? =if t<s.n then some (s.at' t)else none:=by
 by_cases h:t<s.n
 ·rw[bf h,gy s h]
 ·rw[a7 h];exact eF (by rw[a_];omega)
theorem ax3{α:Type}{s t:G α}(h:s.B=t.B):s.n=t.n:=by rw[←a_ s,←a_ t,h]
section
variable {α γ:Type}
theorem Z3(f:α→γ): ∀(l:List α) (a:List γ),l.foldl (fun b x=>b++[f x]) a=a++l.map f
 |[],a=>by simp
 |x::l,a=>by rw[G4,Z3 f l];simp
theorem axo[Inhabited γ](F:Nat→Int→G γ→G γ)(s:G α)(f:α→γ)(d:s.n≤549755813888)(c: ∀k i a,F (k+1) i a=bif decide (i<(s.n:Int))then F k (i64.wrap (i+1)) (G.app a (G.lit [f (s.at' (toNat i))]))else a)(a:G γ):
  (F (toNat ((s.n:Int)-0)+1) 0 a).B=a.B++s.B.map f:=by
 rw[aoy F s.n (fun j a=>G.app a (G.lit [f (s.at' j)])) id d (fun k i a=>c k i a) a];rw[←Z3 f s.B a.B,←aoz s (fun x b=>b++[f x])];exact(List.foldl_hom G.B fun st j=>by rw[jm,jn]).symm
end
structure Fit (now:Int) (s:G L):Prop where
 n:s.n≤12
 BS:Ot s.n (fun i=>(s.at' i).q)
 ok: ∀i,i<s.n→jb (s.at' i).C (s.at' i).z (s.at' i).I (s.at' i).w (s.at' i).m (s.at' i).N=0
 M: ∀i,i<s.n→(s.at' i).w.n≤1048576∧(s.at' i).m.n≤1048576∧(s.at' i).N.n≤1048576
 u: ∀i,i<s.n→(s.at' i).ao=0∨(now<(s.at' i).ao∧(s.at' i).ao≤1073741824)
theorem aAT{α:Type}(l m:List α)(x y:α){i:Nat}(h:l.length=i):(l++x::m).set i y=l++y::m:=by
 subst h;rw[List.set_append_right _ _ (bC _)];simp
theorem aAS{α:Type}(s:G α)(i:Nat)(y:α)(h:i<s.n):(s.cp i y).B=s.B.take i++y::s.B.drop (i+1):=by
 rw[Xk];have b:s.B=s.B.take i++s.at' i::s.B.drop (i+1):=by rw[←aiv s h,ri]
 have a:=aAT (s.B.take i) (s.B.drop (i+1)) (s.at' i) y (i:=i) (by rw[jj,a_];omega);rw[←b]at a;exact a
end Go.Proofs.YtfmgjpcmcjjoiaaGreatDoor
namespace Go.Proofs.YtfmgjpcmcjjoiaaGreatDoor
open Go Go.Proofs Go.RowKit Go.Shelf Go.af
abbrev aka:b0:=wb bT
theorem auU:iR Tryz.prog 152 aka.gR:=zf (E:=bT) (z:=(.agg #[.int .i64 0,.int .i64 0,.int .i64 0,.int .i64 0,.string ⟨#[]⟩,.int .i64 0,.slice none 0 0])) (ze (ρ:=zd 152 47 135) (b:=80) mixed ⟨ "slices.Delete[[]rostrum/api.Client,rostrum/api.Client]",by kernel_rfl,by kernel_rfl⟩ (by kernel_rfl) (by kernel_rfl)) ⟨_,_,Tryz.func152,rfl,by kernel_rfl⟩ (rf rfl (by kernel_rfl))
end Go.Proofs.YtfmgjpcmcjjoiaaGreatDoor
namespace Go.Proofs.YtfmgjpcmcjjoiaaGreatDoor
open Go Go.RowKit Go.af
section
def Jd(A:Int):Int:=A
def Je(g:u):u:=g
def Jf(r:Int):Int:=r
def Jg(h:G u):G u:=h
def aj8:ba:=⟨[.g [a,ai,a,.ab bK]],fun A g r h=>⟨⟨none,.agg [b (Jd A),.str (Je g),b (Jf r),aI 1 cK (Jg h)]⟩⟩⟩
theorem aer:bn 125 aj8:=bq Tryz.func125
 fun(A:Int) g _ (r:Int) h _ _=>bu ⟨.pure,[.cell 2 99],[(.c 0 0,a),(.c 0 1,ai),(.c 0 2,a),(.c 0 3,.ab bK)],⟨[.agg (us 4 [])],[]⟩⟩ (.z) True (cu (aG Be aT)) Tryz.func125 (trivial)
def wL(A:G aw):Nat→Int→G aw→G aw
 |0,_,_=>default
 |k+1,e,f=>(cond (decide (e<(A.n:Int))) (wL A k (i64.wrap (e+1)) (G.app f (G.lit ([(⟨(A.at' (toNat e)).q,(A.at' (toNat e)).C,(A.at' (toNat e)).z,(Jd (A.at' (toNat e)).I),(Je (A.at' (toNat e)).w),(Jf (A.at' (toNat e)).m),(Jg (A.at' (toNat e)).N)⟩:aw)]:List aw)))) f)
variable(A:G aw)(g:Int)
def RD:G aw:=wL A ((toNat ((A.n:Int)-0))+1) 0 (D:G aw)
def fT:G aw:=(RD A)
def aj4:ba:=⟨[.v (.ab bT)],fun A=>⟨⟨none,(aB.ad bT).av (fT A)⟩⟩⟩
theorem auO:bn 120 aj4:=bq Tryz.func120
 fun A j _=>bu ⟨.own bT,[.tmp 2],[(.h 0 0,.ad bT)],⟨[],[]⟩⟩ (.ae (.ae (.j ⟨12,[],[],[],.f⟩ (.ae (.cW ⟨460,[],[(.t 3,bT)],[(.t 8,a),(.h 0 0,.ad bT)],some 0,false,12,[],[(.h 0 0,.ad bT)],fun k (s:Int×G aw)=>wL A k s.1 s.2,.f,fun(s:Int×G aw)=>((0≤s.1∧s.1≤(A.n:Int))∧(s.2.n:Int)≤0+(s.1-0)),fun(s:Int×G aw)=>(toNat ((A.n:Int)-s.1)),some fun(r:G aw)=>(r.n:Int)≤0+max ((A.n:Int)-0) 0⟩ .z)) .z))) ((((0≤(0:Int)∧(0:Int)≤(A.n:Int))∧((0:Nat):Int)≤0+((0:Int)-0)))∧(∀(e:Int) (f:G aw),let c:=decide (e<(A.n:Int));let b:=i64.wrap (e+1);((0≤e∧e≤(A.n:Int))∧(f.n:Int)≤0+(e-0))→((c=true→(((0:Int)≤e∧e<(A.n:Int))∧(f.n+1≤549755813888)))∧((c=true→(((0≤b∧b≤(A.n:Int))∧(((f.n+1):Nat):Int)≤0+(b-0))∧(toNat ((A.n:Int)-b))<(toNat ((A.n:Int)-e))))∧(c=false→((f.n:Int)≤0+max ((A.n:Int)-0) 0)))))) (cu (aG aer aT)) Tryz.func120 (⟨(by omega),(fun e f i=>⟨(fun d=>⟨(by have:=al d;omega),(by have:=al d;omega)⟩),⟨(fun g=>(by have:=al g;have:=E (e+1);omega)),(fun h=>(by omega))⟩⟩)⟩)
theorem ae4(A:G aw)(d:A.n≤549755813888): ∀(m:Nat) (v:Int) (s:G aw),0≤v→v≤A.n→m=toNat ((A.n:Int)-v)→((wL A (m+1) v s).n:Int)=s.n+((A.n:Int)-v)
 |0,v,s,a,b,c=>by
  have: ¬v<(A.n:Int):=by omega
  simp only[wL,this,yG,aS];omega
 |m+1,v,s,a,b,c=>by
  have e:v<(A.n:Int):=by omega
  have f:=E (v+1);rw[wL];simp only[e,vz,aQ];rw[f,ae4 A d m (v+1) _ (by omega) (by omega) (by omega)];simp only[G.oH,G.mj,dr,fH];omega
theorem s5(A:G aw):A.n≤549755813888→(fT A).n=A.n:=fun h=>by
 have a:((RD A).n:Int)=0+((A.n:Int)-0):=ae4 A h _ 0 D (by omega) (by omega) rfl;show(RD A).n=_;omega
def o1(A:Int)(y:Int):Bool:=(A==y)
def aj7:ba:=⟨[.g [a,a,a,a,ai,a,.ab bK],.r [a,a,a,ai,ai,ai,a]],fun A _ _ _ _ _ _ y _ _ _ _ _ _=>⟨⟨none,.bool (o1 A y)⟩⟩⟩
theorem auR:bn 124 aj7:=bq Tryz.func124
 fun(A:Int) (g:Int) (r:Int) (h:Int) o _ (c:Int) v _ _ (y:Int) (p:Int) (x:Int) R bz bP (b2:Int)=>bu ⟨.pure,[.tmp 3],[(.t 0,l)],⟨[U],[]⟩⟩ (.z) True fb Tryz.func124 (trivial)
def o0(A:G aw)(g:Int):Nat→Int→Bool×Int
 |0,_=>default
 |k+1,e=>(cond (decide (e<(A.n:Int))) (cond (o1 (A.at' (toNat e)).q g) (true,e) (o0 A g k (i64.wrap (e+1)))) (false,default))
def RG:Bool×Int:=o0 A g ((toNat ((A.n:Int)-0))+1) 0
def abq:Bool:=(cond (RG A g).1 false true)
def lx:Int:=(cond (abq A g) (-1) (RG A g).2)
def aj6:ba:=⟨[.v (.ab bT),.fn 124 [[a,a,a,ai,ai,ai,a]]],fun A g _ _ _ _ _ _=>⟨⟨none,b (lx A g)⟩⟩⟩
theorem auQ:bn 123 aj6:=bq Tryz.func123
 fun A m _ (g:Int) (r:Int) (h:Int) o c v (y:Int)=>bu ⟨.pure,[.tmp 4],[(.t 0,a)],⟨[U],[]⟩⟩ (.ae (.j ⟨16,[],[],[],.f⟩ (.ae (.cW ⟨403,[],[],[(.t 8,a)],some 0,true,16,[],[],fun k (s:Int)=>o0 A g k s,.f,fun(s:Int)=>(0≤s∧s≤(A.n:Int)),fun(s:Int)=>(toNat ((A.n:Int)-s)),none⟩ .z)) .z)) (((0≤(0:Int)∧(0:Int)≤(A.n:Int)))∧(∀(e:Int),let d:=decide (e<(A.n:Int));let b:=i64.wrap (e+1);(0≤e∧e≤(A.n:Int))→((d=true→((0:Int)≤e∧e<(A.n:Int)))∧(d=true→((o1 (A.at' (toNat e)).q g)=false→((0≤b∧b≤(A.n:Int))∧(toNat ((A.n:Int)-b))<(toNat ((A.n:Int)-e)))))))) (cu (aG auR aT)) Tryz.func123 (⟨(by omega),(fun e l=>⟨(fun f=>(by have:=al f;omega)),(fun i=>(fun j=>(by have:=al i;have:=E (e+1);omega)))⟩)⟩)
theorem aeW(A:G aw)(g:Int)(s:A.n≤549755813888): ∀(m c i:Nat),i+m=A.n→m≤c→(o0 A g (c+1) (i:Int)=(false,default)∧ ∀t,i≤t→t<A.n→o1 (A.at' t).q g=false)∨ ∃t,i≤t∧t<A.n∧o0 A g (c+1) (i:Int)=(true,(t:Int))∧o1 (A.at' t).q g=true∧ ∀u,i≤u→u<t→o1 (A.at' u).q g=false
 |0,c,i,q,r=>by
  have: ¬((i:Int)<(A.n:Int)):=by omega
  refine .inl ⟨?_,fun t a b=>by omega⟩;simp only[o0,this,yG,aS]
 |m+1,c,i,q,r=>by
  obtain⟨c,rfl⟩: ∃k,c=k+1:=⟨c-1,by omega⟩;have v:(i:Int)<(A.n:Int):=by omega
  have w:i64.wrap ((i:Int)+1)=((i+1:Nat):Int):=by rw[E _];rfl
  have e:o0 A g (c+1+1) (i:Int)=(cond (o1 (A.at' i).q g) (true,(i:Int)) (o0 A g (c+1) ((i+1:Nat):Int))):=by
   rw[o0];simp only[v,vz,aQ,fN,w]
  rw[e]
  cases h:o1 (A.at' i).q g with
  |true=>exact .inr ⟨i,bC _,by omega,rfl,h,fun u a b=>by omega⟩
  |false=>
   simp only[aS];rcases aeW A g s m c (i+1) (by omega) (by omega)with⟨j,d⟩|⟨t,j,d,l,n,o⟩
   ·refine .inl ⟨j,fun t p f=> ?_⟩
    by_cases e:t=i
    ·rw[e];exact h
    ·exact d t (by omega) f
   ·refine .inr ⟨t,by omega,d,l,n,fun u p f=> ?_⟩
    by_cases e:u=i
    ·rw[e];exact h
    ·exact o u (by omega) f
theorem az3(A:G aw)(g:Int)(f:A.n≤549755813888):(lx A g= -1∧ ∀t,t<A.n→o1 (A.at' t).q g=false)∨ ∃t:Nat,t<A.n∧lx A g=(t:Int)∧o1 (A.at' t).q g=true∧ ∀u,u<t→o1 (A.at' u).q g=false:=by
 unfold lx abq RG;rcases aeW A g f A.n (toNat ((A.n:Int)-0)) 0 (by omega) (by omega)with⟨b,a⟩|⟨t,b,a,c,d,e⟩
 ·rw[show o0 A g (toNat ((A.n:Int)-0)+1) 0=_ from b];exact .inl ⟨rfl,fun t h=>a t (cf _) h⟩
 ·rw[show o0 A g (toNat ((A.n:Int)-0)+1) 0=_ from c];exact .inr ⟨t,a,rfl,d,fun u i=>e u (cf _) i⟩
theorem wj(A:G aw)(g:Int)(a:A.n≤549755813888): -1≤lx A g∧lx A g<(A.n:Int):=by
 rcases az3 A g a with⟨h,_⟩|⟨t,b,h,_⟩<;>rw[h]<;>omega
end
section
variable(r:Int)(h:G aw)
def D4(az:Int)(cB:Int):Int:=(cond (decide ((h.at' (toNat az)).z<(h.at' (toNat cB)).z)) az cB)
def RF(h:G aw):Nat→Int→Int→Int
 |0,_,_=>default
 |k+1,az,cB=>(cond (decide (az<(h.n:Int))) (RF h k (i64.wrap (az+1)) (D4 h az cB)) cB)
def Jc:Int:=RF h ((toNat ((h.n:Int)-0))+1) 0 0
def z2:G aw:=(cond ((h.n:Int)==4) (G.del h (toNat (Jc h)) (toNat (i64.wrap ((Jc h)+1)))) h)
def abl:Int:=(cond (decide (r>1048576)) 6 0)
def abm:u:=⟨#[]⟩
def abn:Int:=(cond (decide (r>1048576)) 0 (i64.wrap ((i64.wrap (r+1))-1)))
def abo:G u:=(D:G u)
def abp:Int:=(cond (decide (r>1048576)) r (i64.wrap (r+1)))
def RE(A:Int)(r:Int)(h:G aw):G aw:=(cond (decide (r>1048576)) h (G.app (z2 h) (G.lit ([(⟨r,0,A,0,⟨#[]⟩,0,(D:G u)⟩:aw)]:List aw))))
theorem ama(h:G aw)(a b:Int):D4 h a b=a∨D4 h a b=b:=by
 unfold D4
 cases decide ((h.at' (toNat a)).z<(h.at' (toNat b)).z)
 ·exact .inr rfl
 ·exact .inl rfl
theorem axP(h:G aw):(z2 h).n≤h.n:=by
 unfold z2
 cases ((h.n:Int)==4)
 ·exact bC _
 ·exact Nat.sub_le _ _
def aj5:b0:=⟨[.p 0],[(.h 0 0,a),(.h 0 1,.ab bd),(.h 0 2,a),(.h 1 0,.ad bT)],[[U,U,U,.own 1 0],[U]],fun(A:Int) g (r:Int) h=>⟨⟨some (h.n≤4),[.agg [b (abl r),.str abm,b (abn r),aI 1 cK abo]],[[b A,aI 8 gp g,b (abp r),.own 2 ((RE A r h)).n],[dk],[(aB.ad bT).av (RE A r h)]]⟩⟩⟩
theorem auP:dJ 122 aj5:=dL Tryz.func122
 fun(A:Int) g u (r:Int) h v t=>dI (ms:=[.f,.l,.f,.l,.l,.l,.f,.f]) ⟨.k7 true [.b 2] [.own (.h 0 3) bT 2],[.cell 2 99],[(.c 0 0,a),(.c 0 1,ai),(.c 0 2,a),(.c 0 3,.ab bK),(.h 0 0,a),(.h 0 1,.ab bd),(.h 0 2,a),(.h 2 0,.ad bT)],⟨[.agg [U,U,U,U]],[[U,U,U,.own 2 0],[dk],[U]]⟩⟩ (.ae (.ae (.xT ⟨5,[],[(.h 5 0,.ad bT)],[],.f⟩ [.own (.h 0 3) bT 5] (.ae (.s (.ae (.j ⟨13,[],[],[],.f⟩ (.ae (.cW ⟨14680077,[],[],[(.t 23,a),(.t 3,a)],some 0,false,13,[],[(.t 3,a)],fun k (s:Int×Int)=>RF h k s.1 s.2,.f,fun(s:Int×Int)=>(0≤s.1∧s.1≤(h.n:Int)∧0≤s.2∧(s.2<s.1∨s.2=0)),fun(s:Int×Int)=>(toNat ((h.n:Int)-s.1)),some fun(e:Int)=>0≤e∧(e<(h.n:Int)∨e=0)⟩ (.ae (.ae (.j ⟨549753716797,[],[(.t 3,a)],[],.f⟩ .z .z))))) .z)) .z)) .z))) (let b:=Jc h;let l:=i64.wrap (b+1);(decide (r>1048576))=false→((((h.n:Int)==4)=true→((((0≤(0:Int)∧(0:Int)≤(h.n:Int)∧0≤(0:Int)∧((0:Int)<(0:Int)∨(0:Int)=0)))∧(∀(az:Int) (cB:Int),let i:=D4 h az cB;let f:=decide (az<(h.n:Int));let c:=i64.wrap (az+1);(0≤az∧az≤(h.n:Int)∧0≤cB∧(cB<az∨cB=0))→((f=true→((((0:Int)≤az∧az<(h.n:Int))∧((toNat az)<h.n))∧(((0:Int)≤cB∧cB<(h.n:Int))∧((toNat cB)<h.n))))∧((f=true→((0≤c∧c≤(h.n:Int)∧0≤i∧(i<c∨i=0))∧(toNat ((h.n:Int)-c))<(toNat ((h.n:Int)-az))))∧(f=false→(0≤cB∧(cB<(h.n:Int)∨cB=0)))))))∧((0≤b∧(b<(h.n:Int)∨b=0))→((0:Int)≤b∧(b:Int)<l∧(l:Int)≤(h.n:Int)))))∧((z2 h).n+1≤549755813888))) (bJ 2 aT (aj auU bI)) Tryz.func122 ((fun n=>⟨(fun d=>⟨⟨(by omega),(fun az cB q=>⟨(fun j=>⟨⟨(by have:=al j;omega),(by have:=al j;omega)⟩,⟨(by have:=eq_of_beq d;omega),(by have:=eq_of_beq d;omega)⟩⟩),⟨(fun m=>(by have:=al m;have:=ama h az cB;have:=E (az+1);omega)),(fun o=>(by omega))⟩⟩)⟩,(fun p=>(by have:=eq_of_beq d;have:=E ((Jc h)+1);omega))⟩),(by have:=axP h;omega)⟩))
end
section
def o2(A:Int)(g:G Int)(r:Bool):Bool:=(cond r true (decide ((g.n:Int)<A)))
def fc(A:Int)(g:G Int)(r:Bool):G Int:=(cond (o2 A g r) (D:G Int) (G.part g 0 A))
def ui(A:Int)(g:G Int)(r:Bool):G Int:=(cond (o2 A g r) g (G.part g A (g.n:Int)))
def z5(A:Int)(g:G Int)(r:Bool):Bool:=(cond (o2 A g r) true r)
def akb:b0:=⟨[.p 0,.v a],[(.h 0 0,.ab a5),(.h 0 1,l)],[[U,U]],fun(A:Int) g r=>⟨⟨some (0≤A),[aI 1 cN (fc A g r)],[[aI 1 cN (ui A g r),.bool (z5 A g r)]]⟩⟩⟩
theorem Ud:dJ 154 akb:=dL Tryz.func154
 fun(A:Int) g c r b=>dI ⟨.heap,[.tmp 4],[(.t 0,.ab a5),(.h 0 0,.ab a5),(.h 0 1,l)],⟨[U],[[U,U]]⟩⟩ (.ae (.s (.j ⟨262163,[],[(.t 18,l)],[],.f⟩ .z .z) .z)) ((o2 A g r)=false→((((0:Int)≤0)∧((0:Int)≤A)∧((A:Int)≤A)∧((A:Int)≤(g.n:Int)))∧(((0:Int)≤A)∧((A:Int)≤(g.n:Int))∧(((g.n:Int):Int)≤(g.n:Int))∧(((g.n:Int):Int)≤(g.n:Int))))) (bJ 1 aT bI) Tryz.func154 ((fun a=>⟨(by have:=a;simp [o2]at this;omega),(by have:=a;simp [o2]at this;omega)⟩))
theorem dG{A:Int}{g:G Int}{r:Bool}(h:aD g):aD (ui A g r):=by
 unfold ui
 cases o2 A g r
 ·exact fun i=>h _
 ·exact h
theorem aBV{A:Int}{g:G Int}{r:Bool}(h:aD g):aD (fc A g r):=by
 unfold fc
 cases o2 A g r
 ·exact fun i=>h _
 ·exact fun i=>⟨by show(0:Int)≤default;decide,by show(default:Int)≤255;decide⟩
theorem awR(A:Int)(g:G Int)(r:Bool):(fc A g r).n≤toNat A:=by
 unfold fc
 cases o2 A g r
 ·simp only[aS,G.tc];omega
 ·simp only[aQ,Bv];omega
def zN(A:G Int)(g:Bool):Nat→Int→Int→Int
 |0,_,_=>default
 |k+1,e,f=>(cond (decide (f<((fc 8 A g).n:Int))) (zN A g k (bits .or .u64 (u64.wrap (e*2^(toNat 8))) (u64.wrap ((fc 8 A g).at' (toNat f)))) (i64.wrap (f+1))) e)
variable(A:G Int)(g:Bool)
def Rj:Int:=zN A g ((toNat (((fc 8 A g).n:Int)-0))+1) 0 0
def cO:Int:=(i64.wrap (u64.wrap ((Rj A g)-4611686018427387904)))
def aE:G Int:=(ui 8 A g)
def aF:Bool:=(z5 8 A g)
def ajx:b0:=⟨[.p 0],[(.h 0 0,.ab a5),(.h 0 1,l)],[[U,U]],fun A g=>⟨⟨none,[b (cO A g)],[[aI 1 cN (aE A g),.bool (aF A g)]]⟩⟩⟩
theorem vg:dJ 135 ajx:=dL Tryz.func135
 fun A m g=>dI ⟨.heap,[.tmp 2],[(.t 0,a),(.h 0 0,.ab a5),(.h 0 1,l)],⟨[U],[[U,U]]⟩⟩ (.ae (.ae (.j ⟨12,[],[],[],.f⟩ (.ae (.cW ⟨908,[],[],[(.t 3,.int .u64),(.t 9,a)],some 0,false,12,[],[(.t 3,.int .u64)],fun k (s:Int×Int)=>zN A g k s.1 s.2,.f,fun(s:Int×Int)=>(0≤s.2∧s.2≤((fc 8 A g).n:Int)),fun(s:Int×Int)=>(toNat (((fc 8 A g).n:Int)-s.2)),none⟩ .z)) .z))) (let b:=fc 8 A g;(0≤(8:Int))∧(((0≤(0:Int)∧(0:Int)≤(b.n:Int)))∧(∀(e:Int) (f:Int),let d:=decide (f<(b.n:Int));let c:=i64.wrap (f+1);(0≤f∧f≤(b.n:Int))→((d=true→(((0:Int)≤f∧f<(b.n:Int))∧((0:Int)≤8∧(8:Int)≤64)))∧(d=true→((0≤c∧c≤(b.n:Int))∧(toNat ((b.n:Int)-c))<(toNat ((b.n:Int)-f)))))))) (bJ 1 aT (aj Ud bI)) Tryz.func135 (⟨(by omega),⟨(by omega),(fun e f j=>⟨(fun h=>⟨(by have:=al h;omega),(by omega)⟩),(fun i=>(by have:=al i;have:=awR 8 A g;have:=E (f+1);omega))⟩)⟩⟩)
theorem dY{A:G Int}{g:Bool}(h:aD A):aD (aE A g):=dG h
def cm:Int:=(cond (decide (0<((fc 1 A g).n:Int))) (i64.wrap ((fc 1 A g).at' (toNat 0))) 0)
def bW:G Int:=(ui 1 A g)
def b5:Bool:=(z5 1 A g)
def ajH:b0:=⟨[.p 0],[(.h 0 0,.ab a5),(.h 0 1,l)],[[U,U]],fun A g=>⟨⟨none,[b (cm A g)],[[aI 1 cN (bW A g),.bool (b5 A g)]]⟩⟩⟩
theorem qP:dJ 141 ajH:=dL Tryz.func141
 fun A c g=>dI (ms:=[.f,.l,.l]) ⟨.heap,[.tmp 2],[(.t 0,a),(.h 0 0,.ab a5),(.h 0 1,l)],⟨[U],[[U,U]]⟩⟩ (.ae (.s (.ae (.nn .z)) .z)) ((0≤(1:Int))∧((decide (0<((fc 1 A g).n:Int)))=true→((0:Int)≤0∧0<(((fc 1 A g).n:Nat):Int)))) (bJ 1 aT (aj Ud bI)) Tryz.func141 (⟨(by omega),(fun b=>(by have:=al b;omega))⟩)
theorem ee{A:G Int}{g:Bool}(h:aD A):aD (bW A g):=dG h
theorem BN(A:G Int)(g:Bool)(h:aD A):0≤cm A g∧cm A g≤255:=by
 unfold cm;have a:0≤(fc 1 A g).at' (toNat 0)∧(fc 1 A g).at' (toNat 0)≤255:=aBV h _
 cases decide (0<((fc 1 A g).n:Int))
 ·simp
 ·simp only[aQ];rw[E _];exact a
def hG:u:=(G.toStr (fc (cm A g) (bW A g) (b5 A g)))
def cl:G Int:=(ui (cm A g) (bW A g) (b5 A g))
def cy:Bool:=(z5 (cm A g) (bW A g) (b5 A g))
def ajE:b0:=⟨[.p 0],[(.h 0 0,.ab a5),(.h 0 1,l)],[[U,U]],fun A g=>⟨⟨some (aD A),[.str (hG A g)],[[aI 1 cN (cl A g),.bool (cy A g)]]⟩⟩⟩
theorem xU:dJ 138 ajE:=dL Tryz.func138
 fun A b g a=>dI ⟨.heap,[.tmp 2],[(.t 0,ai),(.h 0 0,.ab a5),(.h 0 1,l)],⟨[U],[[U,U]]⟩⟩ (.z) (0≤(cm A g)) (bJ 1 aT (aj qP (aj Ud bI))) Tryz.func138 ((by have:=BN A g (by repeat first|assumption|apply dG|apply dY|apply ee|apply ea|apply gh|apply c);omega))
theorem ea{A:G Int}{g:Bool}(h:aD A):aD (cl A g):=dG (ee h)
def RR:Int:=(cm A g)
def RS:u:=(hG (bW A g) (b5 A g))
def RT:u:=(hG (cl (bW A g) (b5 A g)) (cy (bW A g) (b5 A g)))
def RU:u:=let b:=cy (bW A g) (b5 A g);let a:=cl (bW A g) (b5 A g);(hG (cl a b) (cy a b))
def RV:Int:=let b:=cy (bW A g) (b5 A g);let a:=cl (bW A g) (b5 A g);(cO (cl (cl a b) (cy a b)) (cy (cl a b) (cy a b)))
def RW:G Int:=let b:=cy (bW A g) (b5 A g);let a:=cl (bW A g) (b5 A g);(aE (cl (cl a b) (cy a b)) (cy (cl a b) (cy a b)))
def RX:Bool:=let b:=cy (bW A g) (b5 A g);let a:=cl (bW A g) (b5 A g);(aF (cl (cl a b) (cy a b)) (cy (cl a b) (cy a b)))
def akr:b0:=⟨[.p 0],[(.h 0 0,.ab a5),(.h 0 1,l)],[[U,U]],fun A g=>⟨⟨some (aD A),[.agg [b (RR A g),.str (RS A g),.str (RT A g),.str (RU A g),b (RV A g)]],[[aI 1 cN (RW A g),.bool (RX A g)]]⟩⟩⟩
theorem au6:dJ 194 akr:=dL Tryz.func194
 fun A _ g d=>dI ⟨.heap,[.cell 2 34],[(.c 0 0,a),(.c 0 1,ai),(.c 0 2,ai),(.c 0 3,ai),(.c 0 4,a),(.h 0 0,.ab a5),(.h 0 1,l)],⟨[.agg (us 5 [])],[[U,U]]⟩⟩ (.z) (let b:=bW A g;let c:=cl b (b5 A g);(aD b)∧((aD c)∧(aD (cl c (cy b (b5 A g)))))) (bJ 1 aT (aj vg (aj xU (aj qP bI)))) Tryz.func194 (⟨(by repeat first|assumption|apply dG),⟨(by repeat first|assumption|apply dG),(by repeat first|assumption|apply dG)⟩⟩)
def abr:G Int:=(cond ((cO A g)!=0) (RW (aE (aE A g) (aF A g)) (aF (aE A g) (aF A g))) (aE A g))
def abt:Bool:=(cond ((cO A g)!=0) (RX (aE (aE A g) (aF A g)) (aF (aE A g) (aF A g))) (aF A g))
def abu:Int:=(cond ((cO A g)!=0) (cO (aE A g) (aF A g)) 0)
def abv:Int:=(cond ((cO A g)!=0) (RR (aE (aE A g) (aF A g)) (aF (aE A g) (aF A g))) 0)
def abw:u:=(cond ((cO A g)!=0) (RS (aE (aE A g) (aF A g)) (aF (aE A g) (aF A g))) ⟨#[]⟩)
def abx:u:=(cond ((cO A g)!=0) (RT (aE (aE A g) (aF A g)) (aF (aE A g) (aF A g))) ⟨#[]⟩)
def aby:u:=(cond ((cO A g)!=0) (RU (aE (aE A g) (aF A g)) (aF (aE A g) (aF A g))) ⟨#[]⟩)
def abz:Int:=(cond ((cO A g)!=0) (RV (aE (aE A g) (aF A g)) (aF (aE A g) (aF A g))) 0)
def RH:Int:=(cO A g)
def RI:Int:=(abu A g)
def RJ:Int:=(abv A g)
def RK:u:=(abw A g)
def RL:u:=(abx A g)
def RM:u:=(aby A g)
def RN:Int:=(abz A g)
def RO:G Int:=(abr A g)
def RP:Bool:=(abt A g)
def aj_:b0:=⟨[.p 0],[(.h 0 0,.ab a5),(.h 0 1,l)],[[U,U]],fun A g=>⟨⟨some (aD A),[.agg [b (RH A g),b (RI A g),b (RJ A g),.str (RK A g),.str (RL A g),.str (RM A g),b (RN A g)]],[[aI 1 cN (RO A g),.bool (RP A g)]]⟩⟩⟩
theorem auT:dJ 168 aj_:=dL Tryz.func168
 fun A _ g c=>dI ⟨.heap,[.cell 2 36],[(.c 0 0,a),(.c 0 1,a),(.c 0 2,a),(.c 0 3,ai),(.c 0 4,ai),(.c 0 5,ai),(.c 0 6,a),(.h 0 0,.ab a5),(.h 0 1,l)],⟨[.agg (us 7 [])],[[U,U]]⟩⟩ (.ae (.ae (.j ⟨12,[],[(.h 0 0,.ab a5),(.h 0 1,l),(.h 2 1,a),(.h 2 2,a),(.h 2 3,ai),(.h 2 4,ai),(.h 2 5,ai),(.h 2 6,a)],[],.f⟩ .z .z))) (((cO A g)!=0)=true→(aD (aE (aE A g) (aF A g)))) (bJ 1 aT (aj vg (aj au6 bI))) Tryz.func168 ((fun b=>(by repeat first|assumption|apply dG)))
def Q7:G Int:=(cond ((cm (aE (aE A g) (aF A g)) (aF (aE A g) (aF A g)))==0) (RO (bW (aE (aE A g) (aF A g)) (aF (aE A g) (aF A g))) (b5 (aE (aE A g) (aF A g)) (aF (aE A g) (aF A g)))) (bW (aE (aE A g) (aF A g)) (aF (aE A g) (aF A g))))
def Q9:Bool:=(cond ((cm (aE (aE A g) (aF A g)) (aF (aE A g) (aF A g)))==0) (RP (bW (aE (aE A g) (aF A g)) (aF (aE A g) (aF A g))) (b5 (aE (aE A g) (aF A g)) (aF (aE A g) (aF A g)))) (b5 (aE (aE A g) (aF A g)) (aF (aE A g) (aF A g))))
def Q_:Bool:=(cond ((cm (aE (aE A g) (aF A g)) (aF (aE A g) (aF A g)))==0) false true)
def Ra:Int:=(cond ((cm (aE (aE A g) (aF A g)) (aF (aE A g) (aF A g)))==0) (RH (bW (aE (aE A g) (aF A g)) (aF (aE A g) (aF A g))) (b5 (aE (aE A g) (aF A g)) (aF (aE A g) (aF A g)))) 0)
def Rb:Int:=(cond ((cm (aE (aE A g) (aF A g)) (aF (aE A g) (aF A g)))==0) (RI (bW (aE (aE A g) (aF A g)) (aF (aE A g) (aF A g))) (b5 (aE (aE A g) (aF A g)) (aF (aE A g) (aF A g)))) 0)
def Rc:Int:=(cond ((cm (aE (aE A g) (aF A g)) (aF (aE A g) (aF A g)))==0) (RJ (bW (aE (aE A g) (aF A g)) (aF (aE A g) (aF A g))) (b5 (aE (aE A g) (aF A g)) (aF (aE A g) (aF A g)))) 0)
def Rd:u:=(cond ((cm (aE (aE A g) (aF A g)) (aF (aE A g) (aF A g)))==0) (RK (bW (aE (aE A g) (aF A g)) (aF (aE A g) (aF A g))) (b5 (aE (aE A g) (aF A g)) (aF (aE A g) (aF A g)))) ⟨#[]⟩)
def Re:u:=(cond ((cm (aE (aE A g) (aF A g)) (aF (aE A g) (aF A g)))==0) (RL (bW (aE (aE A g) (aF A g)) (aF (aE A g) (aF A g))) (b5 (aE (aE A g) (aF A g)) (aF (aE A g) (aF A g)))) ⟨#[]⟩)
def Rf:u:=(cond ((cm (aE (aE A g) (aF A g)) (aF (aE A g) (aF A g)))==0) (RM (bW (aE (aE A g) (aF A g)) (aF (aE A g) (aF A g))) (b5 (aE (aE A g) (aF A g)) (aF (aE A g) (aF A g)))) ⟨#[]⟩)
def Q8:Int:=(cond ((cm (aE (aE A g) (aF A g)) (aF (aE A g) (aF A g)))==0) (RN (bW (aE (aE A g) (aF A g)) (aF (aE A g) (aF A g))) (b5 (aE (aE A g) (aF A g)) (aF (aE A g) (aF A g)))) 0)
def lu:Bool:=(cond ((cm (aE (aE A g) (aF A g)) (aF (aE A g) (aF A g)))==0) true (cond ((cm (aE (aE A g) (aF A g)) (aF (aE A g) (aF A g)))==1) true false))
def k0:Int:=(cO A g)
def k1:Int:=(cO (aE A g) (aF A g))
def ko:Bool:=(cond (lu A g) (Q_ A g) false)
def kp:Int:=(cond (lu A g) (Ra A g) 0)
def kq:Int:=(cond (lu A g) (Rb A g) 0)
def kr:Int:=(cond (lu A g) (Rc A g) 0)
def ks:u:=(cond (lu A g) (Rd A g) ⟨#[]⟩)
def kt:u:=(cond (lu A g) (Re A g) ⟨#[]⟩)
def ku:u:=(cond (lu A g) (Rf A g) ⟨#[]⟩)
def kv:Int:=(cond (lu A g) (Q8 A g) 0)
def k2:Bool:=(cond (lu A g) true false)
def kx:G Int:=(cond (lu A g) (Q7 A g) (bW (aE (aE A g) (aF A g)) (aF (aE A g) (aF A g))))
def k3:Bool:=(cond (lu A g) (Q9 A g) (b5 (aE (aE A g) (aF A g)) (aF (aE A g) (aF A g))))
def ajo:b0:=⟨[.p 0],[(.h 0 0,.ab a5),(.h 0 1,l)],[[U,U]],fun A g=>⟨⟨some (aD A),[.agg [b (k0 A g),b (k1 A g),.bool (ko A g),b (kp A g),b (kq A g),b (kr A g),.str (ks A g),.str (kt A g),.str (ku A g),b (kv A g)],.bool (k2 A g)],[[aI 1 cN (kx A g),.bool (k3 A g)]]⟩⟩⟩
theorem aum:dJ 153 ajo:=dL Tryz.func153
 fun A _ g e=>dI (ms:=[.l,.l,.f,.f,.f,.f,.f,.f,.f,.f,.f,.f,.f]) ⟨.heap,[.cell 2 53,.tmp 3],[(.c 0 0,a),(.c 0 1,a),(.c 0 2,l),(.c 0 3,a),(.c 0 4,a),(.c 0 5,a),(.c 0 6,ai),(.c 0 7,ai),(.c 0 8,ai),(.c 0 9,a),(.t 1,l),(.h 0 0,.ab a5),(.h 0 1,l)],⟨[.agg (us 10 []),U],[[U,U]]⟩⟩ (.ae (.ae (.j ⟨28,[],[(.h 0 0,.ab a5),(.h 0 1,l),(.h 2 2,l),(.h 2 3,a),(.h 2 4,a),(.h 2 5,a),(.h 2 6,ai),(.h 2 7,ai),(.h 2 8,ai),(.h 2 9,a)],[],.f⟩ .z .z))) (let c:=aF (aE A g) (aF A g);let b:=aE (aE A g) (aF A g);((cm b c)==0)=true→(aD (bW b c))) (bJ 1 aT (aj vg (aj qP (aj auT bI)))) Tryz.func153 ((fun d=>(by repeat first|assumption|apply dG)))
def Rg(A:Bool)(g:G Int):Bool:=(cond (!A) true (decide ((g.n:Int)>0)))
def fS(A:Bool)(g:G Int)(r:Bool):Int:=(cond r 9 (cond (Rg A g) 8 0))
def ajp:b0:=⟨[.p 0,.v l],[(.h 0 0,.ab a5),(.h 0 1,l)],[[U,U]],fun A g r=>⟨⟨none,[b (fS A g r)],[[aI 1 cN g,.bool r]]⟩⟩⟩
theorem aei:dJ 143 ajp:=dL Tryz.func143
 fun A g _ r=>dI (ms:=[.f,.l,.l]) ⟨.heap,[.tmp 4],[(.t 0,a),(.h 0 0,.ab a5),(.h 0 1,l)],⟨[U],[[U,U]]⟩⟩ (.ae (.s (.ae (.ae (.j ⟨1040,[],[(.t 10,l)],[],.f⟩ .z .z))) .z)) True (bJ 1 aT bI) Tryz.func143 (trivial)
def Ks:Int:=(cond (decide ((A.n:Int)>20000)) 0 (cond ((fS (k2 A false) (kx A false) (k3 A false))!=0) 0 (cond ((e_ (k0 A false) (k1 A false) (ko A false) (kp A false) (kq A false) (kr A false) (ks A false) (kt A false) (ku A false) (kv A false))!=0) 0 (k0 A false))))
def Kt:Int:=(cond (decide ((A.n:Int)>20000)) 0 (cond ((fS (k2 A false) (kx A false) (k3 A false))!=0) 0 (cond ((e_ (k0 A false) (k1 A false) (ko A false) (kp A false) (kq A false) (kr A false) (ks A false) (kt A false) (ku A false) (kv A false))!=0) 0 (k1 A false))))
def Ku:Bool:=(cond (decide ((A.n:Int)>20000)) false (cond ((fS (k2 A false) (kx A false) (k3 A false))!=0) false (cond ((e_ (k0 A false) (k1 A false) (ko A false) (kp A false) (kq A false) (kr A false) (ks A false) (kt A false) (ku A false) (kv A false))!=0) false (ko A false))))
def Kv:Int:=(cond (decide ((A.n:Int)>20000)) 0 (cond ((fS (k2 A false) (kx A false) (k3 A false))!=0) 0 (cond ((e_ (k0 A false) (k1 A false) (ko A false) (kp A false) (kq A false) (kr A false) (ks A false) (kt A false) (ku A false) (kv A false))!=0) 0 (kp A false))))
def Kw:Int:=(cond (decide ((A.n:Int)>20000)) 0 (cond ((fS (k2 A false) (kx A false) (k3 A false))!=0) 0 (cond ((e_ (k0 A false) (k1 A false) (ko A false) (kp A false) (kq A false) (kr A false) (ks A false) (kt A false) (ku A false) (kv A false))!=0) 0 (kq A false))))
def Kx:Int:=(cond (decide ((A.n:Int)>20000)) 0 (cond ((fS (k2 A false) (kx A false) (k3 A false))!=0) 0 (cond ((e_ (k0 A false) (k1 A false) (ko A false) (kp A false) (kq A false) (kr A false) (ks A false) (kt A false) (ku A false) (kv A false))!=0) 0 (kr A false))))
def Ky:u:=(cond (decide ((A.n:Int)>20000)) ⟨#[]⟩ (cond ((fS (k2 A false) (kx A false) (k3 A false))!=0) ⟨#[]⟩ (cond ((e_ (k0 A false) (k1 A false) (ko A false) (kp A false) (kq A false) (kr A false) (ks A false) (kt A false) (ku A false) (kv A false))!=0) ⟨#[]⟩ (ks A false))))
def Kz:u:=(cond (decide ((A.n:Int)>20000)) ⟨#[]⟩ (cond ((fS (k2 A false) (kx A false) (k3 A false))!=0) ⟨#[]⟩ (cond ((e_ (k0 A false) (k1 A false) (ko A false) (kp A false) (kq A false) (kr A false) (ks A false) (kt A false) (ku A false) (kv A false))!=0) ⟨#[]⟩ (kt A false))))
def KA:u:=(cond (decide ((A.n:Int)>20000)) ⟨#[]⟩ (cond ((fS (k2 A false) (kx A false) (k3 A false))!=0) ⟨#[]⟩ (cond ((e_ (k0 A false) (k1 A false) (ko A false) (kp A false) (kq A false) (kr A false) (ks A false) (kt A false) (ku A false) (kv A false))!=0) ⟨#[]⟩ (ku A false))))
def KB:Int:=(cond (decide ((A.n:Int)>20000)) 0 (cond ((fS (k2 A false) (kx A false) (k3 A false))!=0) 0 (cond ((e_ (k0 A false) (k1 A false) (ko A false) (kp A false) (kq A false) (kr A false) (ks A false) (kt A false) (ku A false) (kv A false))!=0) 0 (kv A false))))
def KC:Int:=(cond (decide ((A.n:Int)>20000)) 1 (cond ((fS (k2 A false) (kx A false) (k3 A false))!=0) (fS (k2 A false) (kx A false) (k3 A false)) (cond ((e_ (k0 A false) (k1 A false) (ko A false) (kp A false) (kq A false) (kr A false) (ks A false) (kt A false) (ku A false) (kv A false))!=0) (e_ (k0 A false) (k1 A false) (ko A false) (kp A false) (kq A false) (kr A false) (ks A false) (kt A false) (ku A false) (kv A false)) 0)))
def ali:ba:=⟨[.v (.ab a5)],fun A=>⟨⟨some (aD A),.c7 [.agg [b (Ks A),b (Kt A),.bool (Ku A),b (Kv A),b (Kw A),b (Kx A),.str (Ky A),.str (Kz A),.str (KA A),b (KB A)],b (KC A)]⟩⟩⟩
theorem avN:bn 128 ali:=bq Tryz.func128
 fun A _ _ c=>bu ⟨.pure,[.cell 2 53,.tmp 3],[(.c 0 0,a),(.c 0 1,a),(.c 0 2,l),(.c 0 3,a),(.c 0 4,a),(.c 0 5,a),(.c 0 6,ai),(.c 0 7,ai),(.c 0 8,ai),(.c 0 9,a),(.t 1,a)],⟨[.agg (us 10 []),U],[]⟩⟩ (.z) ((decide ((A.n:Int)>20000))=false→(aD A)) (bJ 0 (aG LK aT) (aj aum (aj aei bI))) Tryz.func128 ((fun b=>(by assumption)))
end
section
variable(A:G Int)(g:Bool)(r:G u)
def z8:G Int:=(cl A g)
def Jj:Bool:=(cy A g)
def D7:G u:=(G.app r (G.lit ([(hG A g)]:List u)))
def ake:b0:=⟨[.p 0,.p 1],[(.h 2 0,.ab a5),(.h 2 1,l),(.h 3 0,.ad bK)],[[.own 3 0],[.ptr 2 0],[U,U],[U]],fun A g r=>⟨⟨some (aD A∧r.n≤1000),[],[[.own 3 ((D7 A g r)).n],[.ptr 2 0],[aI 1 cN (z8 A g),.bool (Jj A g)],[(aB.ad bK).av (D7 A g r)]]⟩⟩⟩
theorem auX:dJ 157 ake:=dL Tryz.func157
 fun A d g r e a=>dI ⟨.heap,[],[(.h 2 0,.ab a5),(.h 2 1,l),(.h 3 0,.ad bK)],⟨[],[[.own 3 0],[.ptr 2 0],[U,U],[U]]⟩⟩ (.z) ((aD A)∧(r.n+1≤549755813888)) (bJ 4 aT (aj xU bI)) Tryz.func157 (have⟨b,c⟩:=a;⟨(by assumption),(by omega)⟩)
theorem fM{A:G Int}{g:Bool}(h:aD A):aD (z8 A g):=ea h
theorem awU(A:G Int)(g:Bool)(r:G u):(D7 A g r).n=r.n+1:=rfl
def DV(e:Int)(aW:Bool):Bool:=(cond (decide (e>0)) (!aW) false)
def wH:Nat→Int→G Int→Bool→G u→G Int×Bool×G u
 |0,_,_,_,_=>default
 |k+1,e,f,aW,bA=>(cond (DV e aW) (wH k (i64.wrap (e-1)) (z8 f aW) (Jj f aW) (D7 f aW bA)) (f,aW,bA))
def Rr:G Int×Bool×G u:=wH ((toNat (cm A g))+1) (cm A g) (bW A g) (b5 A g) r
def Rq:G Int:=(Rr A g r).1
def aaR:Bool:=(Rr A g r).2.1
def aaS:G u:=(Rr A g r).2.2
def ajC:b0:=⟨[.p 2,.ju 157 [0,1]],[(.h 2 0,.ab a5),(.h 2 1,l),(.h 3 0,.ad bK)],[[.own 3 0],[.ptr 2 0],[U,U],[U]],fun A g r=>let a:=aaS A g r;⟨⟨some (aD A∧r.n≤10),[],[[.own 3 (a).n],[.ptr 2 0],[aI 1 cN (Rq A g r),.bool (aaR A g r)],[(aB.ad bK).av a]]⟩⟩⟩
theorem aus:dJ 136 ajC:=dL Tryz.func136
 fun A p g r q i=>dI ⟨.heap,[],[(.h 2 0,.ab a5),(.h 2 1,l),(.h 3 0,.ad bK)],⟨[],[[.own 3 0],[.ptr 2 0],[U,U],[U]]⟩⟩ (.ae (.cW ⟨19,[],[],[(.t 4,a),(.h 2 0,.ab a5),(.h 2 1,l),(.h 3 0,.ad bK)],some 0,false,0,[],[(.h 2 0,.ab a5),(.h 2 1,l),(.h 3 0,.ad bK)],fun k (s:Int×G Int×Bool×G u)=>wH k s.1 s.2.1 s.2.2.1 s.2.2.2,.f,fun(s:Int×G Int×Bool×G u)=>(aD s.2.1∧0≤s.1∧s.1≤255∧(s.2.2.2.n:Int)≤(r.n:Int)+255-s.1),fun(s:Int×G Int×Bool×G u)=>(toNat s.1),none⟩ (.s (.j ⟨33683,[],[(.t 9,l),(.t 15,l)],[],.f⟩ .z .z) .z))) (((aD (bW A g)∧0≤(cm A g)∧(cm A g)≤255∧(r.n:Int)≤(r.n:Int)+255- (cm A g)))∧(∀(e:Int) (f:G Int) (aW:Bool) (bA:G u),let d:=DV e aW;let b:=i64.wrap (e-1);(aD f∧0≤e∧e≤255∧(bA.n:Int)≤(r.n:Int)+255-e)→((d=true→(aD f∧bA.n≤1000))∧(d=true→((aD (z8 f aW)∧0≤b∧b≤255∧(((D7 f aW bA).n:Nat):Int)≤(r.n:Int)+255-b)∧(toNat b)<(toNat e)))))) (bJ 4 aT (aj qP (aj auX bI))) Tryz.func136 (have⟨m,n⟩:=i;⟨⟨(by repeat first|assumption|apply dG),(by have:=BN A g (by repeat first|assumption|apply dG|apply dY|apply ee|apply ea|apply gh|apply t|apply fM|apply fF|apply fG);omega)⟩,(fun e f aW bA h=>have o:=h.1;⟨(fun j=>⟨(by assumption),(by omega)⟩),(fun c=>⟨⟨(by repeat first|assumption|apply dG),(by have:=c;(try simp [DV]at this);have:=awU f aW bA;have:=E (e-1);omega)⟩,(by have:=c;(try simp [DV]at this);have:=E (e-1);omega)⟩)⟩)⟩)
theorem ahQ: ∀(m:Nat) (n:Int) (s:G Int) (b:Bool) (l:G u),aD s→aD (wH m n s b l).1
 |0,_,_,_,_,_=>fun i=>by show(0:Int)≤0∧(0:Int)≤255;omega
 |m+1,n,s,b,l,h=>by
  rw[wH]
  cases DV n b
  ·exact h
  ·exact ahQ m _ _ _ _ (fM h)
theorem fF{A:G Int}{g:Bool}{r:G u}(h:aD A):aD (Rq A g r):=ahQ _ _ _ _ _ (ee h)
def wJ:G u:=(aaS A g (D:G u))
def r5:G Int:=(Rq A g (D:G u))
def wK:Bool:=(aaR A g (D:G u))
def ajI:b0:=⟨[.p 0],[(.h 0 0,.ab a5),(.h 0 1,l)],[[U,U]],fun A g=>⟨⟨some (aD A),[aI 1 cK (wJ A g)],[[aI 1 cN (r5 A g),.bool (wK A g)]]⟩⟩⟩
theorem aem:dJ 142 ajI:=dL Tryz.func142
 fun A b g a=>dI ⟨.heap,[.tmp 2],[(.t 0,.ab bK),(.h 0 0,.ab a5),(.h 0 1,l)],⟨[U],[[U,U]]⟩⟩ (.ae (.ae (.s (.ix [(.h 2 0,bK)]) .z))) (aD A∧0≤10) (bJ 1 aT (aj aus bI)) Tryz.func142 (⟨(by assumption),(by omega)⟩)
theorem fG{A:G Int}{g:Bool}(h:aD A):aD (r5 A g):=fF h
end
section
variable(e:Int)(aW:Bool)(A:G Int)(g:Bool)(o:G Int)(c:Bool)(v:G bl)(y:G bH)
def z6:G Int:=(cl (cl o c) (cy o c))
def Jh:Bool:=(cy (cl o c) (cy o c))
def D5:G bl:=(G.app v (G.lit ([(⟨(hG o c),(hG (cl o c) (cy o c))⟩:bl)]:List bl)))
def akc:b0:=⟨[.p 0,.p 1],[(.h 0 0,a),(.h 0 1,ai),(.h 0 2,a),(.h 0 4,.ab bK),(.h 2 0,.ab a5),(.h 2 1,l),(.h 3 0,.ad c5),(.h 4 0,.ad cS)],[[U,U,U,.own 3 0,U,.own 4 0],[.ptr 2 0],[U,U],[U],[U]],fun(A:Int) g (r:Int) h o c v y=>⟨⟨some (aD o∧v.n≤1000),[],[[b A,.str g,b r,.own 3 ((D5 o c v)).n,aI 1 cK h,.own 4 (y).n],[.ptr 2 0],[aI 1 cN (z6 o c),.bool (Jh o c)],[(aB.ad c5).av (D5 o c v)],[(aB.ad cS).av y]]⟩⟩⟩
theorem auV:dJ 155 akc:=dL Tryz.func155
 fun(A:Int) g f (r:Int) h i o j c v k y m b=>dI ⟨.heap,[],[(.h 0 0,a),(.h 0 1,ai),(.h 0 2,a),(.h 0 4,.ab bK),(.h 2 0,.ab a5),(.h 2 1,l),(.h 3 0,.ad c5),(.h 4 0,.ad cS)],⟨[],[[U,U,U,.own 3 0,U,.own 4 0],[.ptr 2 0],[U,U],[U],[U]]⟩⟩ (.z) ((aD o)∧((aD (cl o c))∧(v.n+1≤549755813888))) (bJ 5 aT (aj xU bI)) Tryz.func155 (have⟨d,e⟩:=b;⟨(by assumption),⟨(by repeat first|assumption|apply dG),(by omega)⟩⟩)
theorem gf{o:G Int}{c:Bool}(h:aD o):aD (z6 o c):=ea (ea h)
theorem awS(o:G Int)(c:Bool)(v:G bl):(D5 o c v).n=v.n+1:=rfl
def DR:Bool:=(cond (decide (e>0)) (!aW) false)
def wF:Nat→Int→G Int→Bool→G bl→G Int×Bool×G bl
 |0,_,_,_,_=>default
 |k+1,e,f,aW,bA=>(cond (DR e aW) (wF k (i64.wrap (e-1)) (z6 f aW) (Jh f aW) (D5 f aW bA)) (f,aW,bA))
def Rm:G Int×Bool×G bl:=wF ((toNat (cm o c))+1) (cm o c) (bW o c) (b5 o c) v
def qa:G Int:=(Rm o c v).1
def r3:Bool:=(Rm o c v).2.1
def DQ:G bl:=(Rm o c v).2.2
def ajA:b0:=⟨[.p 2,.ju 155 [0,1]],[(.h 0 0,a),(.h 0 1,ai),(.h 0 2,a),(.h 0 4,.ab bK),(.h 2 0,.ab a5),(.h 2 1,l),(.h 3 0,.ad c5),(.h 4 0,.ad cS)],[[U,U,U,.own 3 0,U,.own 4 0],[.ptr 2 0],[U,U],[U],[U]],fun(A:Int) g (r:Int) h o c v y=>let d:=DQ o c v;⟨⟨some (aD o∧v.n≤10),[],[[b A,.str g,b r,.own 3 (d).n,aI 1 cK h,.own 4 (y).n],[.ptr 2 0],[aI 1 cN (qa o c v),.bool (r3 o c v)],[(aB.ad c5).av d],[(aB.ad cS).av y]]⟩⟩⟩
theorem auq:dJ 136 ajA:=dL Tryz.func136
 fun(A:Int) g u (r:Int) h w o x c v z y B m=>dI ⟨.heap,[],[(.h 0 0,a),(.h 0 1,ai),(.h 0 2,a),(.h 0 4,.ab bK),(.h 2 0,.ab a5),(.h 2 1,l),(.h 3 0,.ad c5),(.h 4 0,.ad cS)],⟨[],[[U,U,U,.own 3 0,U,.own 4 0],[.ptr 2 0],[U,U],[U],[U]]⟩⟩ (.ae (.cW ⟨19,[],[],[(.t 4,a),(.h 2 0,.ab a5),(.h 2 1,l),(.h 3 0,.ad c5)],some 0,false,0,[],[(.h 2 0,.ab a5),(.h 2 1,l),(.h 3 0,.ad c5)],fun k (s:Int×G Int×Bool×G bl)=>wF k s.1 s.2.1 s.2.2.1 s.2.2.2,.f,fun(s:Int×G Int×Bool×G bl)=>(aD s.2.1∧0≤s.1∧s.1≤255∧(s.2.2.2.n:Int)≤(v.n:Int)+255-s.1),fun(s:Int×G Int×Bool×G bl)=>(toNat s.1),none⟩ (.s (.j ⟨33683,[],[(.t 9,l),(.t 15,l)],[],.f⟩ .z .z) .z))) (((aD (bW o c)∧0≤(cm o c)∧(cm o c)≤255∧(v.n:Int)≤(v.n:Int)+255- (cm o c)))∧(∀(e:Int) (f:G Int) (aW:Bool) (bA:G bl),let i:=DR e aW;let b:=i64.wrap (e-1);(aD f∧0≤e∧e≤255∧(bA.n:Int)≤(v.n:Int)+255-e)→((i=true→(aD f∧bA.n≤1000))∧(i=true→((aD (z6 f aW)∧0≤b∧b≤255∧(((D5 f aW bA).n:Nat):Int)≤(v.n:Int)+255-b)∧(toNat b)<(toNat e)))))) (bJ 5 aT (aj qP (aj auV bI))) Tryz.func136 (have⟨p,q⟩:=m;⟨⟨(by repeat first|assumption|apply dG),(by have:=BN o c (by repeat first|assumption|apply dG|apply dY|apply ee|apply ea|apply gh|apply C|apply fM|apply fF|apply fG|apply gf|apply fE|apply gg|apply gb|apply gd);omega)⟩,(fun e f aW bA j=>have t:=j.1;⟨(fun n=>⟨(by assumption),(by omega)⟩),(fun d=>⟨⟨(by repeat first|assumption|apply dG),(by have:=d;(try simp [DR]at this);have:=awS f aW bA;have:=E (e-1);omega)⟩,(by have:=d;(try simp [DR]at this);have:=E (e-1);omega)⟩)⟩)⟩)
theorem ahO: ∀(m:Nat) (n:Int) (s:G Int) (b:Bool) (l:G bl),aD s→aD (wF m n s b l).1
 |0,_,_,_,_,_=>fun i=>by show(0:Int)≤0∧(0:Int)≤255;omega
 |m+1,n,s,b,l,h=>by
  rw[wF]
  cases DR n b
  ·exact h
  ·exact ahO m _ _ _ _ (gf h)
theorem fE{o:G Int}{c:Bool}{v:G bl}(h:aD o):aD (qa o c v):=ahO _ _ _ _ _ (ee h)
def z7:G Int:=(aE (cl o c) (cy o c))
def Ji:Bool:=(aF (cl o c) (cy o c))
def D6:G bH:=(G.app y (G.lit ([(⟨(hG o c),(cO (cl o c) (cy o c))⟩:bH)]:List bH)))
def akd:b0:=⟨[.p 0,.p 1],[(.h 0 0,a),(.h 0 1,ai),(.h 0 2,a),(.h 0 4,.ab bK),(.h 2 0,.ab a5),(.h 2 1,l),(.h 3 0,.ad c5),(.h 4 0,.ad cS)],[[U,U,U,.own 3 0,U,.own 4 0],[.ptr 2 0],[U,U],[U],[U]],fun(A:Int) g (r:Int) h o c v y=>⟨⟨some (aD o∧y.n≤1000),[],[[b A,.str g,b r,.own 3 (v).n,aI 1 cK h,.own 4 ((D6 o c y)).n],[.ptr 2 0],[aI 1 cN (z7 o c),.bool (Ji o c)],[(aB.ad c5).av v],[(aB.ad cS).av (D6 o c y)]]⟩⟩⟩
theorem auW:dJ 156 akd:=dL Tryz.func156
 fun(A:Int) g f (r:Int) h i o j c v k y m b=>dI ⟨.heap,[],[(.h 0 0,a),(.h 0 1,ai),(.h 0 2,a),(.h 0 4,.ab bK),(.h 2 0,.ab a5),(.h 2 1,l),(.h 3 0,.ad c5),(.h 4 0,.ad cS)],⟨[],[[U,U,U,.own 3 0,U,.own 4 0],[.ptr 2 0],[U,U],[U],[U]]⟩⟩ (.z) ((aD o)∧(y.n+1≤549755813888)) (bJ 5 aT (aj vg (aj xU bI))) Tryz.func156 (have⟨d,e⟩:=b;⟨(by assumption),(by omega)⟩)
theorem gg{o:G Int}{c:Bool}(h:aD o):aD (z7 o c):=dY (ea h)
theorem awT(o:G Int)(c:Bool)(y:G bH):(D6 o c y).n=y.n+1:=rfl
def DU:Bool:=(cond (decide (e>0)) (!aW) false)
def wG:Nat→Int→G Int→Bool→G bH→G Int×Bool×G bH
 |0,_,_,_,_=>default
 |k+1,e,f,aW,bA=>(cond (DU e aW) (wG k (i64.wrap (e-1)) (z7 f aW) (Ji f aW) (D6 f aW bA)) (f,aW,bA))
def Rp:G Int×Bool×G bH:=wG ((toNat (cm o c))+1) (cm o c) (bW o c) (b5 o c) y
def DS:G Int:=(Rp o c y).1
def Ro:Bool:=(Rp o c y).2.1
def DT:G bH:=(Rp o c y).2.2
def ajB:b0:=⟨[.p 2,.ju 156 [0,1]],[(.h 0 0,a),(.h 0 1,ai),(.h 0 2,a),(.h 0 4,.ab bK),(.h 2 0,.ab a5),(.h 2 1,l),(.h 3 0,.ad c5),(.h 4 0,.ad cS)],[[U,U,U,.own 3 0,U,.own 4 0],[.ptr 2 0],[U,U],[U],[U]],fun(A:Int) g (r:Int) h o c v y=>let d:=DT o c y;⟨⟨some (aD o∧y.n≤10),[],[[b A,.str g,b r,.own 3 (v).n,aI 1 cK h,.own 4 (d).n],[.ptr 2 0],[aI 1 cN (DS o c y),.bool (Ro o c y)],[(aB.ad c5).av v],[(aB.ad cS).av d]]⟩⟩⟩
theorem aur:dJ 136 ajB:=dL Tryz.func136
 fun(A:Int) g u (r:Int) h w o x c v z y B m=>dI ⟨.heap,[],[(.h 0 0,a),(.h 0 1,ai),(.h 0 2,a),(.h 0 4,.ab bK),(.h 2 0,.ab a5),(.h 2 1,l),(.h 3 0,.ad c5),(.h 4 0,.ad cS)],⟨[],[[U,U,U,.own 3 0,U,.own 4 0],[.ptr 2 0],[U,U],[U],[U]]⟩⟩ (.ae (.cW ⟨19,[],[],[(.t 4,a),(.h 2 0,.ab a5),(.h 2 1,l),(.h 4 0,.ad cS)],some 0,false,0,[],[(.h 2 0,.ab a5),(.h 2 1,l),(.h 4 0,.ad cS)],fun k (s:Int×G Int×Bool×G bH)=>wG k s.1 s.2.1 s.2.2.1 s.2.2.2,.f,fun(s:Int×G Int×Bool×G bH)=>(aD s.2.1∧0≤s.1∧s.1≤255∧(s.2.2.2.n:Int)≤(y.n:Int)+255-s.1),fun(s:Int×G Int×Bool×G bH)=>(toNat s.1),none⟩ (.s (.j ⟨33683,[],[(.t 9,l),(.t 15,l)],[],.f⟩ .z .z) .z))) (((aD (bW o c)∧0≤(cm o c)∧(cm o c)≤255∧(y.n:Int)≤(y.n:Int)+255- (cm o c)))∧(∀(e:Int) (f:G Int) (aW:Bool) (bA:G bH),let i:=DU e aW;let b:=i64.wrap (e-1);(aD f∧0≤e∧e≤255∧(bA.n:Int)≤(y.n:Int)+255-e)→((i=true→(aD f∧bA.n≤1000))∧(i=true→((aD (z7 f aW)∧0≤b∧b≤255∧(((D6 f aW bA).n:Nat):Int)≤(y.n:Int)+255-b)∧(toNat b)<(toNat e)))))) (bJ 5 aT (aj qP (aj auW bI))) Tryz.func136 (have⟨p,q⟩:=m;⟨⟨(by repeat first|assumption|apply dG),(by have:=BN o c (by repeat first|assumption|apply dG|apply dY|apply ee|apply ea|apply gh|apply C|apply fM|apply fF|apply fG|apply gf|apply fE|apply gg|apply gb|apply gd);omega)⟩,(fun e f aW bA j=>have t:=j.1;⟨(fun n=>⟨(by assumption),(by omega)⟩),(fun d=>⟨⟨(by repeat first|assumption|apply dG),(by have:=d;(try simp [DU]at this);have:=awT f aW bA;have:=E (e-1);omega)⟩,(by have:=d;(try simp [DU]at this);have:=E (e-1);omega)⟩)⟩)⟩)
theorem ahP: ∀(m:Nat) (n:Int) (s:G Int) (b:Bool) (l:G bH),aD s→aD (wG m n s b l).1
 |0,_,_,_,_,_=>fun i=>by show(0:Int)≤0∧(0:Int)≤255;omega
 |m+1,n,s,b,l,h=>by
  rw[wG]
  cases DU n b
  ·exact h
  ·exact ahP m _ _ _ _ (gg h)
theorem gb{o:G Int}{c:Bool}{y:G bH}(h:aD o):aD (DS o c y):=ahP _ _ _ _ _ (ee h)
def DX:Int:=(cm A g)
def DY:u:=(hG (bW A g) (b5 A g))
def DZ:Int:=(cO (cl (bW A g) (b5 A g)) (cy (bW A g) (b5 A g)))
def zP:G bl:=let b:=cy (bW A g) (b5 A g);let a:=cl (bW A g) (b5 A g);(DQ (aE a b) (aF a b) (D:G bl))
def zQ:G u:=let b:=cy (bW A g) (b5 A g);let a:=cl (bW A g) (b5 A g);(wJ (qa (aE a b) (aF a b) (D:G bl)) (r3 (aE a b) (aF a b) (D:G bl)))
def zR:G bH:=let d:=cy (bW A g) (b5 A g);let c:=cl (bW A g) (b5 A g);let b:=aF c d;let a:=aE c d;let f:=r3 a b (D:G bl);let e:=qa a b (D:G bl);(DT (r5 e f) (wK e f) (D:G bH))
def r4:G Int:=let d:=cy (bW A g) (b5 A g);let c:=cl (bW A g) (b5 A g);let b:=aF c d;let a:=aE c d;let f:=r3 a b (D:G bl);let e:=qa a b (D:G bl);(DS (r5 e f) (wK e f) (D:G bH))
def wI:Bool:=let d:=cy (bW A g) (b5 A g);let c:=cl (bW A g) (b5 A g);let b:=aF c d;let a:=aE c d;let f:=r3 a b (D:G bl);let e:=qa a b (D:G bl);(Ro (r5 e f) (wK e f) (D:G bH))
def ajF:b0:=⟨[.p 0],[(.h 0 0,.ab a5),(.h 0 1,l)],[[U,U]],fun A g=>⟨⟨some (aD A),[.agg [b (DX A g),.str (DY A g),b (DZ A g),aI 2 fz (zP A g),aI 1 cK (zQ A g),aI 2 fA (zR A g)]],[[aI 1 cN (r4 A g),.bool (wI A g)]]⟩⟩⟩
theorem auu:dJ 139 ajF:=dL Tryz.func139
 fun A i g h=>dI ⟨.heap,[.cell 2 125],[(.c 0 0,a),(.c 0 1,ai),(.c 0 2,a),(.c 0 3,.ab c5),(.c 0 4,.ab bK),(.c 0 5,.ab cS),(.h 0 0,.ab a5),(.h 0 1,l)],⟨[.agg (us 6 [])],[[U,U]]⟩⟩ (.ae (.ae (.s (.ix [(.h 3 3,c5),(.h 3 5,cS)]) .z))) (let c:=b5 A g;let b:=bW A g;let e:=aF (cl b c) (cy b c);let d:=aE (cl b c) (cy b c);let f:=qa d e (D:G bl);(aD b)∧((aD d∧0≤10)∧((aD f)∧(aD (r5 f (r3 d e (D:G bl)))∧0≤10)))) (bJ 1 aT (aj vg (aj auq (aj aur (aj xU (aj qP (aj aem bI))))))) Tryz.func139 (⟨(by repeat first|assumption|apply dG),⟨⟨(by repeat first|assumption|apply dG),(by omega)⟩,⟨(by repeat first|assumption|apply fE|apply dG),⟨(by repeat first|assumption|apply fF|apply fE|apply dG),(by omega)⟩⟩⟩⟩)
theorem gd{A:G Int}{g:Bool}(h:aD A):aD (r4 A g):=gb (fG (fE (dY (ea (ee h)))))
end
def ek(A:G Int):Int:=(bits .or .i64 (bits .or .i64 (i64.wrap ((i64.wrap (A.at' (toNat 0)))*2^(toNat 16))) (i64.wrap ((i64.wrap (A.at' (toNat 1)))*2^(toNat 8)))) (i64.wrap (A.at' (toNat 2))))
def aiH:ba:=⟨[.v (.ab a5)],fun A=>⟨⟨some (aD A∧3≤A.n),b (ek A)⟩⟩⟩
theorem aeb:bn 109 aiH:=bq Tryz.func109
 fun A e _ b=>bu ⟨.pure,[.tmp 2],[(.t 0,a)],⟨[U],[]⟩⟩ (.z) (((0:Int)≤0∧0<(A.n:Int))∧(((0:Int)≤16∧(16:Int)≤64)∧(((0:Int)≤1∧1<(A.n:Int))∧(((0:Int)≤8∧(8:Int)≤64)∧((0:Int)≤2∧2<(A.n:Int)))))) fb Tryz.func109 (have⟨c,d⟩:=b;⟨(by omega),⟨(by omega),⟨(by omega),⟨(by omega),(by omega)⟩⟩⟩⟩)
theorem af3(v b k:Nat)(d:v*2^k<9223372036854775808)(f:b<2^k)(g:b<9223372036854775808):bits .or .i64 ((v*2^k:Nat):Int) (b:Int)=((v*2^k:Nat):Int)+b:=by
 have e:=Nat.shiftLeft_add_eq_or_of_lt f v;rw[Nat.shiftLeft_eq]at e;have h:v*2^k+b<9223372036854775808:=by
  rw[e];exact Nat.or_lt_two_pow (n:=63) d g
 unfold bits;simp only[BitVec.toNat_or,BitVec.toNat_ofInt];have a:((((v*2^k:Nat):Int))%((2^i64.bits:Nat):Int)).toNat=v*2^k:=by
  show((((v*2^k:Nat):Int))%18446744073709551616).toNat=v*2^k;omega
 have c:((b:Int)%((2^i64.bits:Nat):Int)).toNat=b:=by
  show((b:Int)%18446744073709551616).toNat=b;omega
 rw[a,c,←e,E _];omega
theorem Zs(A:G Int)(h:aD A):ek A=65536*A.at' 0+256*A.at' 1+A.at' 2:=by
 obtain⟨a,d⟩:=Ce (h 0).1;obtain⟨b,e⟩:=Ce (h 1).1;obtain⟨c,f⟩:=Ce (h 2).1;have j:=(h 0).2;have gw:=(h 1).2;have rc:=(h 2).2;unfold ek;show bits .or .i64 (bits .or .i64 (i64.wrap ((i64.wrap (A.at' 0))*65536)) (i64.wrap ((i64.wrap (A.at' 1))*256))) (i64.wrap (A.at' 2))=_;rw[d]at j ⊢;rw[e]at gw ⊢;rw[f]at rc ⊢;rw[E (a:Int),E (b:Int),E (c:Int),E ((a:Int)*65536),E ((b:Int)*256)];have g:=af3 a (b*256) 16 (by omega) (by omega) (by omega);have i:=af3 (a*256+b) c 8 (by omega) (by omega) (by omega);rw[show(a:Int)*65536=((a*2^16:Nat):Int) by omega,show(b:Int)*256=((b*256:Nat):Int) by omega,g];rw[show((a*2^16:Nat):Int)+((b*256:Nat):Int)=(((a*256+b)*2^8:Nat):Int) by omega,i];omega
theorem agF(A:G Int)(h:aD A):0≤ek A∧ek A≤16777215:=by
 have:=h 0;have:=h 1;have:=h 2;rw[Zs A h];omega
theorem ld{s:G Int}{l h:Int}(a:aD s):aD (G.part s l h):=fun i=>a _
theorem aw_{v n:Int}(h:decide (i64.wrap (v+3)≤n)=true)(b:0≤v)(a:v≤1000000):v+3≤n:=by
 have:=al h;rw[E (v+3)]at this;exact this
theorem afj{v g n:Int}(h:decide (i64.wrap (i64.wrap (v+3)+g)>n)=false)(c:0≤v)(a:v≤1000000):0≤g∧g≤16777215→v+3+g≤n:=fun b=>by
 have:=hy h;rw[E (v+3),E (v+3+g)]at this;omega
end Go.Proofs.YtfmgjpcmcjjoiaaGreatDoor
