import Derived.Test.YtfmgjpcmcjjoiaaGreatDoorXk
import Derived.Test.YtfmgjpcmcjjoiaaGreatDoorXl
open Go.IntKind (i64 u64 u8)
open Int (toNat)
set_option maxRecDepth 100000
set_option maxHeartbeats 4000000
set_option linter.all false
noncomputable section
namespace Go.Proofs.YtfmgjpcmcjjoiaaGreatDoor
open Go Go.RowKit Go.af
abbrev jo:=du b4
instance:Inhabited jo:=⟨du.ln b4⟩
def WH(C:ak):jo:=(C.a.bh,C.a.up,C.a.bO,C.a.ro,C.a.a6,C.a.cC,C.a.j,C.a.lt,C.a.li,C.a.bX,C.a.gG,C.a.gH,C.a.eU,C.a.gI,C.a.eT,C.a.e5,C.a.c6,C.a.eN,C.a.dW,C.a.co,C.a.v0,C.a.v1,C.a.v2,C.a.dX,C.a.dz,C.a.dF,C.a.g1,C.a.q1,C.a.fh,C.a.aX,C.a.bc,C.b.bh,C.b.up,C.b.bO,C.b.ro,C.b.a6,C.b.cC,C.b.j,C.b.lt,C.b.li,C.b.bX,C.b.gG,C.b.gH,C.b.eU,C.b.gI,C.b.eT,C.b.e5,C.b.c6,C.b.eN,C.b.dW,C.b.co,C.b.v0,C.b.v1,C.b.v2,C.b.dX,C.b.dz,C.b.dF,C.b.g1,C.b.q1,C.b.fh,C.b.aX,C.b.bc,C.c.bh,C.c.up,C.c.bO,C.c.ro,C.c.a6,C.c.cC,C.c.j,C.c.lt,C.c.li,C.c.bX,C.c.gG,C.c.gH,C.c.eU,C.c.gI,C.c.eT,C.c.e5,C.c.c6,C.c.eN,C.c.dW,C.c.co,C.c.v0,C.c.v1,C.c.v2,C.c.dX,C.c.dz,C.c.dF,C.c.g1,C.c.q1,C.c.fh,C.c.aX,C.c.bc,C.a.ws,C.a.bw,C.b.ws,C.b.bw,C.c.ws,C.c.bw,C.ag,C.told,C.a8)
def cr(x:jo):ak:=let a:=x.2.2.2.2.2.2.2.2;let b:=a.2.2.2.2.2.2.2.2;let c:=b.2.2.2.2.2.2.2.2;let d:=c.2.2.2.2.2.2.2.2;let e:=d.2.2.2.2.2.2.2.2;let f:=e.2.2.2.2.2.2.2.2;let g:=f.2.2.2.2.2.2.2.2;let h:=g.2.2.2.2.2.2.2.2;let i:=h.2.2.2.2.2.2.2.2;let j:=i.2.2.2.2.2.2.2.2;let k:=j.2.2.2.2.2.2.2.2;let l:=k.2.2.2.2.2.2.2.2;⟨⟨x.1,x.2.1,x.2.2.1,x.2.2.2.1,x.2.2.2.2.1,x.2.2.2.2.2.1,x.2.2.2.2.2.2.1,x.2.2.2.2.2.2.2.1,a.1,a.2.1,a.2.2.1,a.2.2.2.1,a.2.2.2.2.1,a.2.2.2.2.2.1,a.2.2.2.2.2.2.1,a.2.2.2.2.2.2.2.1,b.1,b.2.1,b.2.2.1,b.2.2.2.1,b.2.2.2.2.1,b.2.2.2.2.2.1,b.2.2.2.2.2.2.1,b.2.2.2.2.2.2.2.1,c.1,c.2.1,c.2.2.1,c.2.2.2.1,c.2.2.2.2.1,k.2.2.2.2.2.1,c.2.2.2.2.2.1,c.2.2.2.2.2.2.1,k.2.2.2.2.2.2.1⟩,⟨c.2.2.2.2.2.2.2.1,d.1,d.2.1,d.2.2.1,d.2.2.2.1,d.2.2.2.2.1,d.2.2.2.2.2.1,d.2.2.2.2.2.2.1,d.2.2.2.2.2.2.2.1,e.1,e.2.1,e.2.2.1,e.2.2.2.1,e.2.2.2.2.1,e.2.2.2.2.2.1,e.2.2.2.2.2.2.1,e.2.2.2.2.2.2.2.1,f.1,f.2.1,f.2.2.1,f.2.2.2.1,f.2.2.2.2.1,f.2.2.2.2.2.1,f.2.2.2.2.2.2.1,f.2.2.2.2.2.2.2.1,g.1,g.2.1,g.2.2.1,g.2.2.2.1,k.2.2.2.2.2.2.2.1,g.2.2.2.2.1,g.2.2.2.2.2.1,l.1⟩,⟨g.2.2.2.2.2.2.1,g.2.2.2.2.2.2.2.1,h.1,h.2.1,h.2.2.1,h.2.2.2.1,h.2.2.2.2.1,h.2.2.2.2.2.1,h.2.2.2.2.2.2.1,h.2.2.2.2.2.2.2.1,i.1,i.2.1,i.2.2.1,i.2.2.2.1,i.2.2.2.2.1,i.2.2.2.2.2.1,i.2.2.2.2.2.2.1,i.2.2.2.2.2.2.2.1,j.1,j.2.1,j.2.2.1,j.2.2.2.1,j.2.2.2.2.1,j.2.2.2.2.2.1,j.2.2.2.2.2.2.1,j.2.2.2.2.2.2.2.1,k.1,k.2.1,k.2.2.1,l.2.1,k.2.2.2.1,k.2.2.2.2.1,l.2.2.1⟩,l.2.2.2.1,l.2.2.2.2.1,l.2.2.2.2.2⟩
section
def R_(g:G L):Nat→Int→G L→G L
 |0,_,_=>default
 |k+1,e,f=>(cond (decide (e<(g.n:Int))) (R_ g k (i64.wrap (e+1)) (G.app f (G.lit ([(g.at' (toNat e))]:List L)))) f)
variable(g:G L)(h:G aw)
def ab4:G L:=R_ g ((toNat ((g.n:Int)-0))+1) 0 (D:G L)
def Se(h:G aw):Nat→Int→G aw→G aw
 |0,_,_=>default
 |k+1,a1,a=>(cond (decide (a1<(h.n:Int))) (Se h k (i64.wrap (a1+1)) (G.app a (G.lit ([(h.at' (toNat a1))]:List aw)))) a)
def apC:G aw:=Se h ((toNat ((h.n:Int)-0))+1) 0 (D:G aw)
def Ez(A:Int):Int:=A
def EA:G L:=(ab4 g)
def EB(r:Int):Int:=r
def EC:G aw:=(apC h)
def akJ:ba:=⟨[.g [a,.ab bd,a,.ab bT]],fun A g r h=>⟨⟨none,.agg [b (Ez A),aI 8 gp (EA g),b (EB r),aI 7 gV (EC h)]⟩⟩⟩
theorem avl:bn 36 akJ:=bq Tryz.func36
 fun(A:Int) g x _ (r:Int) h y _=>bu ⟨.pure,[.cell 2 49],[(.c 0 0,a),(.c 0 1,.ab bd),(.c 0 2,a),(.c 0 3,.ab bT)],⟨[.agg (us 4 [])],[]⟩⟩ (.ae (.ae (.j ⟨14,[],[],[],.f⟩ (.ae (.cW ⟨1835022,[],[(.h 2 1,bd)],[(.t 20,a),(.h 3 0,.ad bd)],some 0,false,14,[],[(.h 3 0,.ad bd)],fun k (s:Int×G L)=>R_ g k s.1 s.2,.f,fun(s:Int×G L)=>((0≤s.1∧s.1≤(g.n:Int))∧(s.2.n:Int)≤0+(s.1-0)),fun(s:Int×G L)=>(toNat ((g.n:Int)-s.1)),some fun(i:G L)=>(i.n:Int)≤0+max ((g.n:Int)-0) 0⟩ .z)) (.j ⟨12,[],[],[],.f⟩ (.ae (.cW ⟨63050394783186956,[.b 0],[(.h 2 3,bT)],[(.t 55,a),(.h 4 0,.ad bT)],some 2,false,12,[],[(.h 4 0,.ad bT)],fun k (s:Int×G aw)=>Se h k s.1 s.2,.f,fun(s:Int×G aw)=>((0≤s.1∧s.1≤(h.n:Int))∧(s.2.n:Int)≤0+(s.1-0)),fun(s:Int×G aw)=>(toNat ((h.n:Int)-s.1)),some fun(i:G aw)=>(i.n:Int)≤0+max ((h.n:Int)-0) 0⟩ .z)) .z)))) (((((0≤(0:Int)∧(0:Int)≤(g.n:Int))∧((0:Nat):Int)≤0+((0:Int)-0)))∧(∀(e:Int) (f:G L),let j:=decide (e<(g.n:Int));let c:=i64.wrap (e+1);((0≤e∧e≤(g.n:Int))∧(f.n:Int)≤0+(e-0))→((j=true→(((0:Int)≤e∧e<(g.n:Int))∧(f.n+1≤549755813888)))∧((j=true→(((0≤c∧c≤(g.n:Int))∧(((f.n+1):Nat):Int)≤0+(c-0))∧(toNat ((g.n:Int)-c))<(toNat ((g.n:Int)-e))))∧(j=false→((f.n:Int)≤0+max ((g.n:Int)-0) 0))))))∧(((((ab4 g).n:Nat):Int)≤0+max ((g.n:Int)-0) 0)→((((0≤(0:Int)∧(0:Int)≤(h.n:Int))∧((0:Nat):Int)≤0+((0:Int)-0)))∧(∀(a1:Int) (b:G aw),let l:=decide (a1<(h.n:Int));let d:=i64.wrap (a1+1);((0≤a1∧a1≤(h.n:Int))∧(b.n:Int)≤0+(a1-0))→((l=true→(((0:Int)≤a1∧a1<(h.n:Int))∧(b.n+1≤549755813888)))∧((l=true→(((0≤d∧d≤(h.n:Int))∧(((b.n+1):Nat):Int)≤0+(d-0))∧(toNat ((h.n:Int)-d))<(toNat ((h.n:Int)-a1))))∧(l=false→((b.n:Int)≤0+max ((h.n:Int)-0) 0)))))))) (cu (aG Ue (aG Be (aG Uf aT)))) Tryz.func36 (⟨⟨(by omega),(fun e f v=>⟨(fun m=>⟨(by have:=al m;omega),(by have:=al m;omega)⟩),⟨(fun o=>(by have:=al o;have:=E (e+1);omega)),(fun q=>(by omega))⟩⟩)⟩,(fun u=>⟨(by omega),(fun a1 b w=>⟨(fun n=>⟨(by have:=al n;omega),(by have:=al n;omega)⟩),⟨(fun p=>(by have:=al p;have:=E (a1+1);omega)),(fun t=>(by omega))⟩⟩)⟩)⟩)
end
section
def EY(A:Int)(g:Int)(r:Int):Nat→Int→G aM→G aM
 |0,_,_=>default
 |k+1,e,f=>(cond (decide (e<r)) (EY A g r k (i64.wrap (e+1)) (G.cp (G.cp f (toNat (i64.wrap (A+e))) (f.at' (toNat (i64.wrap (g+e))))) (toNat (i64.wrap (g+e))) (f.at' (toNat (i64.wrap (A+e)))))) f)
variable(A:Int)(g:Int)(r:Int)(h:G aM)
def apX:G aM:=EY A g r ((toNat (r-0))+1) 0 h
def uO:G aM:=(apX A g r h)
theorem afO(A g r:Int)(b:r≤900000): ∀(k:Nat) (v:Int) (s:G aM),0≤v→v≤r→toNat (r-v)<k→(EY A g r k v s).n=s.n
 |0,_,_,_,_,a=>absurd a (en _)
 |k+1,v,s,c,d,a=>by
  rw[EY]
  by_cases e:v<r
  ·rw[bS e,aQ,E (v+1)];exact afO A g r b k (v+1) _ (by omega) (by omega) (by omega)
  ·rw[bp e,aS]
theorem ax2(A g r:Int)(h:G aM)(a:0≤A∧0≤g∧0≤r∧A+r≤(h.n:Int)∧g+r≤(h.n:Int)∧h.n≤900000):(uO A g r h).n=h.n:=
 afO A g r (by omega) _ 0 h (cR _) a.2.2.1 (by omega)
def akP:b0:=⟨[.o 0,.v a,.v a,.v a,.ju 34 []],[(.h 0 0,.ad cJ)],[[U]],fun(A:Int) (g:Int) (r:Int) h=>⟨⟨some (0≤A∧0≤g∧0≤r∧A+r≤(h.n:Int)∧g+r≤(h.n:Int)∧h.n≤900000),[],[[(aB.ad cJ).av (G.cut (uO A g r h) h.n)]]⟩⟩⟩
theorem avx:dJ 115 akP:=dL Tryz.func115
 fun(A:Int) (g:Int) (r:Int) h z l=>have m:=G.zb (ax2 A g r h l);xH (rs:=[]) (H':=[[(aB.ad cJ).av (uO A g r h)]]) (dI ⟨.heap,[],[(.h 0 0,.ad cJ)],⟨[],[[U]]⟩⟩ (.ae (.cW ⟨1039,[],[],[(.t 10,a),(.h 0 0,.ad cJ)],some 0,false,0,[],[(.h 0 0,.ad cJ)],fun k (s:Int×G aM)=>EY A g r k s.1 s.2,.f,fun(s:Int×G aM)=>((0≤s.1∧s.1≤r)∧(s.2.n:Int)=h.n),fun(s:Int×G aM)=>(toNat (r-s.1)),some fun(o:G aM)=>(o.n:Int)=h.n⟩ .z)) ((((0≤(0:Int)∧(0:Int)≤r)∧(h.n:Int)=h.n))∧(∀(e:Int) (f:G aM),let j:=decide (e<r);let i:=i64.wrap (e+1);let d:=i64.wrap (A+e);let c:=i64.wrap (g+e);((0≤e∧e≤r)∧(f.n:Int)=h.n)→((j=true→(((0:Int)≤c∧c<(f.n:Int))∧(((toNat c)<f.n)∧(((0:Int)≤d∧d<(f.n:Int))∧(((toNat d)<f.n)∧(((0:Int)≤d∧d<(f.n:Int))∧(((toNat d)<f.n)∧(((0:Int)≤c∧c<(f.n:Int))∧((toNat c)<f.n)))))))))∧((j=true→(((0≤i∧i≤r)∧(f.n:Int)=h.n)∧(toNat (r-i))<(toNat (r-e))))∧(j=false→((f.n:Int)=h.n)))))) (bJ 1 aT bI) Tryz.func115 (have⟨t,u,v,w,x,y⟩:=l;⟨(by omega),(fun e f q=>⟨(fun b=>⟨(by have:=al b;have:=E (g+e);omega),⟨(by have:=al b;have:=E (g+e);omega),⟨(by have:=al b;have:=E (A+e);omega),⟨(by have:=al b;have:=E (A+e);omega),⟨(by have:=al b;have:=E (A+e);omega),⟨(by have:=al b;have:=E (A+e);omega),⟨(by have:=al b;have:=E (g+e);omega),(by have:=al b;have:=E (g+e);omega)⟩⟩⟩⟩⟩⟩⟩),⟨(fun n=>(by have:=al n;have:=E (e+1);omega)),(fun p=>(by omega))⟩⟩)⟩)) rfl (show([[(aB.ad cJ).av (uO A g r h)]]:Heap)=[[(aB.ad cJ).av (G.cut (uO A g r h) h.n)]] by rw[m])
end
section
def AG(g:Int):Nat→Int→G aM→Int→Int×G aM
 |0,_,_,_=>default
 |k+1,e,f,aW=>(cond (e !=aW) (cond (decide (e>aW)) (AG g k (i64.wrap (e-aW)) (G.cut (uO (i64.wrap (g-e)) g aW f) f.n) aW) (AG g k e (G.cut (uO (i64.wrap (g-e)) (i64.wrap ((i64.wrap (g+aW))-e)) e f) f.n) (i64.wrap (aW-e)))) (e,f))
variable(A:Int)(g:Int)(r:Int)(h:G aM)
def EX:Int×G aM:=AG g ((toNat ((i64.wrap (g-A))+(i64.wrap (r-g))))+1) (i64.wrap (g-A)) h (i64.wrap (r-g))
def AF:G aM:=let a:=EX A g r h;(G.cut (uO (i64.wrap (g-a.1)) g a.1 a.2) a.2.n)
theorem UY(A g r:Int)(a:0≤A∧A<g∧g<r∧r≤900000): ∀(k:Nat) (i:Int) (s:G aM) (j:Int),1≤i→i≤g-A→1≤j→j≤r-g→toNat (i+j)<k→(AG g k i s j).2.n=s.n
 |0,_,_,_,_,_,_,_,b=>absurd b (en _)
 |k+1,i,s,j,d,f,h,l,b=>by
  rw[AG]
  by_cases e:i=j
  ·rw[show(i !=j)=false by simp [e],aS]
  ·rw[show(i !=j)=true by simp [e],aQ]
   by_cases c:i>j
   ·rw[bS c,aQ,E (i-j)];exact UY A g r a k (i-j) _ j (by omega) (by omega) h l (by omega)
   ·rw[bp c,aS,E (j-i)];exact UY A g r a k i _ (j-i) d f (by omega) (by omega) (by omega)
theorem ax1(A g r:Int)(h:G aM)(a:0≤A∧A<g∧g<r∧r≤(h.n:Int)∧h.n≤900000):(AF A g r h).n=h.n:=by
 show(EX A g r h).2.n=h.n;unfold EX;rw[E (g-A),E (r-g)];exact UY A g r ⟨a.1,a.2.1,a.2.2.1,by omega⟩ _ _ _ _ (by omega) (by omega) (by omega) (by omega) (by omega)
def akO:b0:=⟨[.o 0,.v a,.v a,.v a,.ju 34 []],[(.h 0 0,.ad cJ)],[[U]],fun(A:Int) (g:Int) (r:Int) h=>⟨⟨some (0≤A∧A<g∧g<r∧r≤(h.n:Int)∧h.n≤900000),[],[[(aB.ad cJ).av (G.cut (AF A g r h) h.n)]]⟩⟩⟩
theorem avw:dJ 101 akO:=dL Tryz.func101
 fun(A:Int) (g:Int) (r:Int) h M m=>have u:=G.zb (ax1 A g r h m);xH (rs:=[]) (H':=[[(aB.ad cJ).av (AF A g r h)]]) (dI ⟨.heap,[],[(.h 0 0,.ad cJ)],⟨[],[[U]]⟩⟩ (.ae (.ae (.j ⟨1045,[],[],[],.f⟩ (.cW ⟨3093,[],[],[(.t 10,a),(.h 0 0,.ad cJ),(.t 11,a)],some 0,false,1045,[],[(.t 10,a),(.h 0 0,.ad cJ)],fun k (s:Int×G aM×Int)=>AG g k s.1 s.2.1 s.2.2,.f,fun(s:Int×G aM×Int)=>((1≤s.1∧s.1≤g-A)∧(1≤s.2.2∧s.2.2≤r-g)∧(s.2.1.n:Int)=h.n),fun(s:Int×G aM×Int)=>(toNat (s.1+s.2.2)),some fun(c:Int×G aM)=>((1≤c.1∧c.1≤g-A∧c.1≤r-g)∧(c.2.n:Int)=h.n)⟩ .z) .z))) (let q:=i64.wrap (r-g);let p:=i64.wrap (g-A);let b:=EX A g r h;let o:=i64.wrap (g-b.1);((((1≤p∧p≤g-A)∧(1≤q∧q≤r-g)∧(h.n:Int)=h.n))∧(∀(e:Int) (f:G aM) (aW:Int),let t:=toNat (e+aW);let n:=i64.wrap ((i64.wrap (g+aW))-e);let i:=decide (e>aW);let l:=i64.wrap (aW-e);let j:=i64.wrap (e-aW);let d:=i64.wrap (g-e);((1≤e∧e≤g-A)∧(1≤aW∧aW≤r-g)∧(f.n:Int)=h.n)→(((e !=aW)=true→((i=true→(0≤d∧0≤g∧0≤aW∧d+aW≤(f.n:Int)∧g+aW≤(f.n:Int)∧f.n≤900000))∧(i=false→(0≤d∧0≤n∧0≤e∧d+e≤(f.n:Int)∧n+e≤(f.n:Int)∧f.n≤900000))))∧(((e !=aW)=true→((i=true→(((1≤j∧j≤g-A)∧(1≤aW∧aW≤r-g)∧(f.n:Int)=h.n)∧(toNat (j+aW))<t))∧(i=false→(((1≤e∧e≤g-A)∧(1≤l∧l≤r-g)∧(f.n:Int)=h.n)∧(toNat (e+l))<t))))∧((e !=aW)=false→(((1≤e∧e≤g-A∧e≤r-g)∧(f.n:Int)=h.n)))))))∧((((1≤b.1∧b.1≤g-A∧b.1≤r-g)∧(b.2.n:Int)=h.n))→(0≤o∧0≤g∧0≤b.1∧o+b.1≤(b.2.n:Int)∧g+b.1≤(b.2.n:Int)∧b.2.n≤900000))) (bJ 1 aT (aj avx bI)) Tryz.func101 (have⟨H,I,J,K,L⟩:=m;⟨⟨(by have:=E (g-A);have:=E (r-g);omega),(fun e f aW F=>⟨(fun z=>⟨(fun B=>(by have:=E (g-e);omega)),(fun C=>(by have:=E (g-e);have:=E (g+aW);have:=E ((i64.wrap (g+aW))-e);omega))⟩),⟨(fun v=>⟨(fun w=>(by have:=al w;have:=E (e-aW);omega)),(fun x=>(by have:=bne_iff_ne.1 v;have:=hy x;have:=E (aW-e);omega))⟩),(fun y=>(by have:=bB y;omega))⟩⟩)⟩,(fun D=>(by have:=E (g- (EX A g r h).1);omega))⟩)) rfl (show([[(aB.ad cJ).av (AF A g r h)]]:Heap)=[[(aB.ad cJ).av (G.cut (AF A g r h) h.n)]] by rw[u])
end
section
variable(A:Int)(eV:Int)(g:Int)(r:G aM)
def apT:Bool:=(cond (decide (eV>A)) true false)
def sm(a:G aM):Bool:=(cond (decide (eV>A)) (decide ((qd (a.at' (toNat eV)).q (a.at' (toNat (i64.wrap (eV-1)))).q)<0)) false)
def ES(A:Int):Nat→Int→G aM→Int×G aM×Int×Int×Bool×Bool×Bool
 |0,_,_=>default
 |k+1,eV,a=>(cond (sm A eV a) (ES A k (i64.wrap (eV-1)) (G.cp (G.cp a (toNat eV) (a.at' (toNat (i64.wrap (eV-1))))) (toNat (i64.wrap (eV-1))) (a.at' (toNat eV)))) (eV,a,eV,A,(decide (eV>A)),(apT A eV),(sm A eV a)))
def Sv(e:Int)(f:G aM):Int×G aM×Int×Int×Bool×Bool×Bool:=ES A ((toNat (e-A))+1) e f
def ER(A:Int)(g:Int):Nat→Int→G aM→G aM
 |0,_,_=>default
 |k+1,e,f=>(cond (decide (e<g)) (ER A g k (i64.wrap (e+1)) (Sv A e f).2.1) f)
def Sw:G aM:=ER A g ((toNat (g- (i64.wrap (A+1))))+1) (i64.wrap (A+1)) r
def w_:G aM:=(Sw A g r)
theorem UX(A:Int): ∀(k:Nat) (v:Int) (s:G aM),v≤900000→ -1≤A→toNat (v-A)<k→(ES A k v s).2.1.n=s.n
 |0,_,_,_,_,a=>absurd a (en _)
 |k+1,v,s,d,b,a=>by
  rw[ES]
  cases e:sm A v s
  ·rw[aS]
  ·have f:v>A:=by
    unfold sm at e
    by_cases c:v>A
    ·exact c
    ·rw[bp c]at e;cases e
   rw[aQ,E (v-1)];exact UX A k (v-1) _ (by omega) b (by omega)
theorem axg(A v:Int)(s:G aM):(v≤900000∧ -1≤A)→(Sv A v s).2.1.n=s.n:=fun h=>UX A (toNat (v-A)+1) v s h.1 h.2 (by omega)
theorem afN(A g:Int)(h:0≤A∧g≤900000): ∀(k:Nat) (v:Int) (s:G aM),A≤v→v≤900001→toNat (g-v)<k→(ER A g k v s).n=s.n
 |0,_,_,_,_,a=>absurd a (en _)
 |k+1,v,s,c,d,a=>by
  rw[ER]
  by_cases e:v<g
  ·rw[bS e,aQ,E (v+1)];have b:=UX A (toNat (v-A)+1) v s (by omega) (by omega) (by omega);exact(afN A g h k (v+1) _ (by omega) (by omega) (by omega)).trans b
  ·rw[bp e,aS]
theorem axZ(A g:Int)(r:G aM)(a:0≤A∧A≤g∧g≤(r.n:Int)∧r.n≤900000):(w_ A g r).n=r.n:=by
 show(Sw A g r).n=r.n;unfold Sw;rw[E (A+1)];exact afN A g ⟨a.1,by omega⟩ _ _ _ (by omega) (by omega) (by omega)
def akN:b0:=⟨[.o 0,.v a,.v a,.ju 34 []],[(.h 0 0,.ad cJ)],[[U]],fun(A:Int) (g:Int) r=>⟨⟨some (0≤A∧A≤g∧g≤(r.n:Int)∧r.n≤900000),[],[[(aB.ad cJ).av (G.cut (w_ A g r) r.n)]]⟩⟩⟩
theorem avt:dJ 76 akN:=dL Tryz.func76
 fun(A:Int) (g:Int) r H p=>have q:=G.zb (axZ A g r p);xH (rs:=[]) (H':=[[(aB.ad cJ).av (w_ A g r)]]) (dI ⟨.heap,[],[(.h 0 0,.ad cJ)],⟨[],[[U]]⟩⟩ (.ae (.cW ⟨271,[],[],[(.t 8,a),(.h 0 0,.ad cJ)],some 0,false,0,[],[(.h 0 0,.ad cJ)],fun k (s:Int×G aM)=>ER A g k s.1 s.2,.f,fun(s:Int×G aM)=>((A+1≤s.1∧(s.1≤g∨s.1=A+1))∧(s.2.n:Int)=r.n),fun(s:Int×G aM)=>(toNat (g-s.1)),none⟩ (.ae (.j ⟨17183961871,[],[],[],.f⟩ (.ae (.cW ⟨160527,[],[],[(.t 9,a),(.h 0 0,.ad cJ)],some 2,false,17183961871,[],[(.t 9,a),(.h 0 0,.ad cJ),(.t 18,a),(.t 19,a),(.t 20,l),(.t 21,l),(.t 34,l)],fun k (s:Int×G aM)=>ES A k s.1 s.2,.f,fun(s:Int×G aM)=>((A≤s.1∧s.1<g)∧(s.2.n:Int)=r.n),fun(s:Int×G aM)=>(toNat (s.1-A)),some fun(x:Int×G aM×Int×Int×Bool×Bool×Bool)=>(x.2.1.n:Int)=r.n⟩ (.s (.j ⟨17183961871,[],[(.t 21,l),(.t 34,l)],[],.f⟩ .z .z) .z))) .z)))) (let i:=i64.wrap (A+1);(((A+1≤i∧(i≤g∨i=A+1))∧(r.n:Int)=r.n))∧(∀(e:Int) (f:G aM),let d:=i64.wrap (e+1);((A+1≤e∧(e≤g∨e=A+1))∧(f.n:Int)=r.n)→(((decide (e<g))=true→((((A≤e∧e<g)∧(f.n:Int)=r.n))∧(∀(eV:Int) (b:G aM),let j:=toNat eV;let h:=sm A eV b;let c:=i64.wrap (eV-1);let m:=toNat c;((A≤eV∧eV<g)∧(b.n:Int)=r.n)→((((decide (eV>A))=true→(((0:Int)≤eV∧eV<(b.n:Int))∧((j<b.n)∧(((0:Int)≤c∧c<(b.n:Int))∧(m<b.n)))))∧(h=true→(((0:Int)≤c∧c<(b.n:Int))∧((m<b.n)∧(((0:Int)≤eV∧eV<(b.n:Int))∧((j<b.n)∧(((0:Int)≤eV∧eV<(b.n:Int))∧((j<b.n)∧(((0:Int)≤c∧c<(b.n:Int))∧(m<b.n))))))))))∧((h=true→(((A≤c∧c<g)∧(b.n:Int)=r.n)∧(toNat (c-A))<(toNat (eV-A))))∧(h=false→((b.n:Int)=r.n)))))))∧((decide (e<g))=true→(((A+1≤d∧(d≤g∨d=A+1))∧(((Sv A e f).2.1.n:Nat):Int)=r.n)∧(toNat (g-d))<(toNat (g-e))))))) (bJ 1 (aG aeu aT) bI) Tryz.func76 (have⟨B,C,D,F⟩:=p;⟨(by have:=E (A+1);omega),(fun e f y=>⟨(fun n=>⟨(by have:=al n;omega),(fun eV b z=>⟨⟨(fun t=>⟨(by omega),⟨(by omega),⟨(by have:=al t;have:=E (eV-1);omega),(by have:=E (eV-1);omega)⟩⟩⟩),(fun o=>⟨(by have:=o;(try simp [sm]at this);have:=E (eV-1);omega),⟨(by have:=E (eV-1);omega),⟨(by omega),⟨(by omega),⟨(by omega),⟨(by omega),⟨(by have:=o;(try simp [sm]at this);have:=E (eV-1);omega),(by have:=E (eV-1);omega)⟩⟩⟩⟩⟩⟩⟩)⟩,⟨(fun u=>(by have:=u;(try simp [sm]at this);have:=E (eV-1);omega)),(fun v=>(by have:=al n;have:=v;simp [sm]at this;omega))⟩⟩)⟩),(fun w=>(by have:=al w;have:=axg A e f;have:=E (e+1);omega))⟩)⟩)) rfl (show([[(aB.ad cJ).av (w_ A g r)]]:Heap)=[[(aB.ad cJ).av (G.cut (w_ A g r) r.n)]] by rw[q])
end
section
def uK(A:Int)(h:G aM):Nat→Int→Int→Int
 |0,_,_=>default
 |k+1,e,f=>(cond (decide (e<f)) (cond (decide ((qd (h.at' (toNat (i64.wrap ((u64.wrap (i64.wrap (e+f)))/2^(toNat 1))))).q (h.at' (toNat A)).q)<0)) (uK A h k (i64.wrap ((i64.wrap ((u64.wrap (i64.wrap (e+f)))/2^(toNat 1)))+1)) f) (uK A h k e (i64.wrap ((u64.wrap (i64.wrap (e+f)))/2^(toNat 1))))) e)
variable(f:Int→Int→Int→G aM→G aM)(A:Int)(g:Int)(r:Int)(h:G aM)
def lB:Int:=uK A h ((toNat (r-g))+1) g r
def EU(A:Int)(g:Int)(r:Int)(h:G aM):Nat→Int→G aM→G aM
 |0,_,_=>default
 |k+1,a,b=>(cond (decide (a<(i64.wrap ((lB A g r h)-1)))) (EU A g r h k (i64.wrap (a+1)) (G.cp (G.cp b (toNat a) (b.at' (toNat (i64.wrap (a+1))))) (toNat (i64.wrap (a+1))) (b.at' (toNat a)))) b)
def aci:G aM:=EU A g r h ((toNat (r-A))+1) A h
def xa(g:Int)(h:G aM):Nat→Int→Int→Int
 |0,_,_=>default
 |k+1,a,b=>(cond (decide (a<b)) (cond (!(decide ((qd (h.at' (toNat g)).q (h.at' (toNat (i64.wrap ((u64.wrap (i64.wrap (a+b)))/2^(toNat 1))))).q)<0))) (xa g h k (i64.wrap ((i64.wrap ((u64.wrap (i64.wrap (a+b)))/2^(toNat 1)))+1)) b) (xa g h k a (i64.wrap ((u64.wrap (i64.wrap (a+b)))/2^(toNat 1))))) a)
def JF:Int:=xa g h ((toNat (g-A))+1) A g
def ET(A:Int)(g:Int)(h:G aM):Nat→Int→G aM→G aM
 |0,_,_=>default
 |k+1,a,b=>(cond (decide (a>(JF A g h))) (ET A g h k (i64.wrap (a-1)) (G.cp (G.cp b (toNat a) (b.at' (toNat (i64.wrap (a-1))))) (toNat (i64.wrap (a-1))) (b.at' (toNat a)))) b)
def acj:G aM:=ET A g h ((toNat (g-A))+1) g h
def qm:Int:=(cond (decide (g>(i64.wrap ((u64.wrap (i64.wrap (A+r)))/2^(toNat 1))))) (i64.wrap ((i64.wrap ((i64.wrap ((u64.wrap (i64.wrap (A+r)))/2^(toNat 1)))+g))-r)) A)
def qn:Int:=(cond (decide (g>(i64.wrap ((u64.wrap (i64.wrap (A+r)))/2^(toNat 1))))) (i64.wrap ((u64.wrap (i64.wrap (A+r)))/2^(toNat 1))) g)
def JE(A:Int)(g:Int)(r:Int)(h:G aM):Nat→Int→Int→Int
 |0,_,_=>default
 |k+1,a,c=>let b:=i64.wrap ((u64.wrap (i64.wrap (a+c)))/2^(toNat 1));(cond (decide (a<c)) (cond (!(decide ((qd (h.at' (toNat (i64.wrap ((i64.wrap ((i64.wrap ((i64.wrap ((u64.wrap (i64.wrap (A+r)))/2^(toNat 1)))+g))-1))-b)))).q (h.at' (toNat b)).q)<0))) (JE A g r h k (i64.wrap (b+1)) c) (JE A g r h k a b)) a)
def fU:Int:=let b:=qm A g r;let a:=qn A g r;JE A g r h ((toNat (a-b))+1) b a
def AA:Bool:=(cond (decide ((fU A g r h)<g)) (decide (g<(i64.wrap ((i64.wrap ((i64.wrap ((u64.wrap (i64.wrap (A+r)))/2^(toNat 1)))+g))- (fU A g r h))))) false)
def uM:G aM:=(cond (AA A g r h) (G.cut (AF (fU A g r h) g (i64.wrap ((i64.wrap ((i64.wrap ((u64.wrap (i64.wrap (A+r)))/2^(toNat 1)))+g))- (fU A g r h))) h) h.n) h)
def Az:Bool:=(cond (decide (A<(fU A g r h))) (decide ((fU A g r h)<(i64.wrap ((u64.wrap (i64.wrap (A+r)))/2^(toNat 1))))) false)
def uL:G aM:=(cond (Az A g r h) (G.cut (f A (fU A g r h) (i64.wrap ((u64.wrap (i64.wrap (A+r)))/2^(toNat 1))) (uM A g r h)) (uM A g r h).n) (uM A g r h))
def EV:Bool:=(cond (decide ((i64.wrap ((u64.wrap (i64.wrap (A+r)))/2^(toNat 1)))<(i64.wrap ((i64.wrap ((i64.wrap ((u64.wrap (i64.wrap (A+r)))/2^(toNat 1)))+g))- (fU A g r h))))) (decide ((i64.wrap ((i64.wrap ((i64.wrap ((u64.wrap (i64.wrap (A+r)))/2^(toNat 1)))+g))- (fU A g r h)))<r)) false)
def Ay:G aM:=(cond ((i64.wrap (g-A))==1) (aci A g r h) (cond ((i64.wrap (r-g))==1) (acj A g h) (cond (EV A g r h) (G.cut (f (i64.wrap ((u64.wrap (i64.wrap (A+r)))/2^(toNat 1))) (i64.wrap ((i64.wrap ((i64.wrap ((u64.wrap (i64.wrap (A+r)))/2^(toNat 1)))+g))- (fU A g r h))) r (uL f A g r h)) (uL f A g r h).n) (uL f A g r h))))
theorem pY(A g r:Int)(h:0≤A∧A<g∧g<r∧r≤900000):(g≤(A+r)/2∨(qm A g r=(A+r)/2+g-r∧qn A g r=(A+r)/2))∧((A+r)/2<g∨(qm A g r=A∧qn A g r=g)):=by
 have hh:=half (x:=A+r) (by omega) (by omega);have a:=E ((A+r)/2+g);have b:=E ((A+r)/2+g-r);unfold qm qn;rw[hh,a,b]
 by_cases c:g>(A+r)/2
 ·rw[bS c];exact⟨.inr ⟨rfl,rfl⟩,.inl (by omega)⟩
 ·rw[bp c];exact⟨.inl (by omega),.inr ⟨rfl,rfl⟩⟩
theorem amF{A g r:Int}{h:G aM}(d:0≤A∧A<g∧g<r∧r≤900000)(i:(qm A g r)≤(fU A g r h)∧(fU A g r h)≤(qn A g r))(a:AA A g r h=true):fU A g r h<g∧g<(A+r)/2+g-fU A g r h:=by
 have b:=pY A g r d;have hh:=half (x:=A+r) (by omega) (by omega);have e:=E ((A+r)/2+g);have f:=E ((A+r)/2+g-fU A g r h);unfold AA at a;rw[hh,e,f]at a
 by_cases c:fU A g r h<g
 ·rw[bS c,aQ]at a;exact⟨c,al a⟩
 ·rw[bp c]at a;cases a
theorem amS{A g r:Int}{h:G aM}(b:0≤A∧A<g∧g<r∧r≤900000)(d:(qm A g r)≤(fU A g r h)∧(fU A g r h)≤(qn A g r))(a:Az A g r h=true):A<fU A g r h∧fU A g r h<(A+r)/2:=by
 have hh:=half (x:=A+r) (by omega) (by omega);unfold Az at a;rw[hh]at a
 by_cases c:A<fU A g r h
 ·rw[bS c,aQ]at a;exact⟨c,al a⟩
 ·rw[bp c]at a;cases a
theorem amT{A g r:Int}{h:G aM}(d:0≤A∧A<g∧g<r∧r≤900000)(i:(qm A g r)≤(fU A g r h)∧(fU A g r h)≤(qn A g r))(a:EV A g r h=true):(A+r)/2<(A+r)/2+g-fU A g r h∧(A+r)/2+g-fU A g r h<r:=by
 have b:=pY A g r d;have hh:=half (x:=A+r) (by omega) (by omega);have e:=E ((A+r)/2+g);have f:=E ((A+r)/2+g-fU A g r h);unfold EV at a;rw[hh,e,f]at a
 by_cases c:(A+r)/2<(A+r)/2+g-fU A g r h
 ·rw[bS c,aQ]at a;exact⟨c,al a⟩
 ·rw[bp c]at a;cases a
theorem UR(A:Int)(h:G aM)(c a:Int)(g:0≤c)(hh:a≤900000): ∀(k:Nat) (i j:Int),c≤i→i≤j→j≤a→toNat (j-i)<k→c≤uK A h k i j∧uK A h k i j≤a
 |0,_,_,_,_,_,f=>absurd f (en _)
 |k+1,i,j,d,m,l,f=>by
  rw[uK,half (x:=i+j) (by omega) (by omega)]
  by_cases e:i<j
  ·rw[bS e,aQ,E ((i+j)/2+1)];generalize decide (qd _ _<0)=b
   cases b
   ·exact UR A h c a g hh k i ((i+j)/2) d (by omega) (by omega) (by omega)
   ·exact UR A h c a g hh k ((i+j)/2+1) j (by omega) (by omega) l (by omega)
  ·rw[bp e,aS];exact⟨d,by omega⟩
theorem US(g:Int)(h:G aM)(c a:Int)(l:0≤c)(hh:a≤900000): ∀(k:Nat) (i j:Int),c≤i→i≤j→j≤a→toNat (j-i)<k→c≤xa g h k i j∧xa g h k i j≤a
 |0,_,_,_,_,_,f=>absurd f (en _)
 |k+1,i,j,d,n,m,f=>by
  rw[xa,half (x:=i+j) (by omega) (by omega)]
  by_cases e:i<j
  ·rw[bS e,aQ,E ((i+j)/2+1)];generalize (!(decide (qd _ _<0)))=b
   cases b
   ·exact US g h c a l hh k i ((i+j)/2) d (by omega) (by omega) (by omega)
   ·exact US g h c a l hh k ((i+j)/2+1) j (by omega) (by omega) m (by omega)
  ·rw[bp e,aS];exact⟨d,by omega⟩
theorem afI(A g r:Int)(h:G aM)(b:0≤lB A g r h∧lB A g r h≤r)(c:r≤900000): ∀(k:Nat) (v:Int) (s:G aM),0≤v→v≤900001→toNat (r-v)<k→(EU A g r h k v s).n=s.n
 |0,_,_,_,_,a=>absurd a (en _)
 |k+1,v,s,d,f,a=>by
  rw[EU,E (lB A g r h-1)]
  by_cases e:v<lB A g r h-1
  ·rw[bS e,aQ,E (v+1)];exact afI A g r h b c k (v+1) _ (by omega) (by omega) (by omega)
  ·rw[bp e,aS]
theorem afK(A g:Int)(h:G aM)(c:A≤JF A g h)(b:0≤A): ∀(k:Nat) (v:Int) (s:G aM),v≤900001→toNat (v-A)<k→(ET A g h k v s).n=s.n
 |0,_,_,_,a=>absurd a (en _)
 |k+1,v,s,d,a=>by
  rw[ET]
  by_cases e:v>JF A g h
  ·rw[bS e,aQ,E (v-1)];exact afK A g h c b k (v-1) _ (by omega) (by omega)
  ·rw[bp e,aS]
theorem UQ(A g r:Int)(h:G aM):(uM A g r h).n=h.n:=by
 unfold uM
 cases AA A g r h<;>rfl
theorem axM(f:Int→Int→Int→G aM→G aM)(A g r:Int)(h:G aM):(uL f A g r h).n=h.n:=by
 unfold uL
 cases Az A g r h
 ·exact UQ A g r h
 ·exact UQ A g r h
theorem ax0(f:Int→Int→Int→G aM→G aM)(A g r:Int)(h:G aM){Q:Prop}(e:0≤A∧A<g∧g<r∧r≤(h.n:Int)∧h.n≤900000∧Q):(Ay f A g r h).n=h.n:=by
 obtain⟨b,j,k,l,m,_⟩:=e;have q1:=UR A h g r (by omega) (by omega) (toNat (r-g)+1) g r (cR _) (by omega) (cR _) (by omega);have i:=US g h A g (by omega) (by omega) (toNat (g-A)+1) A g (cR _) (by omega) (cR _) (by omega);have c:(aci A g r h).n=h.n:=afI A g r h ⟨by show 0≤uK A h _ g r;omega,q1.2⟩ (by omega) _ A h b (by omega) (by omega);have d:(acj A g h).n=h.n:=afK A g h i.1 b _ g h (by omega) (by omega);have aZ:(uM A g r h).n=h.n:=by
  unfold uM
  cases AA A g r h<;>rfl
 have a:(uL f A g r h).n=h.n:=by
  unfold uL
  cases Az A g r h
  ·exact aZ
  ·exact aZ
 unfold Ay
 cases (i64.wrap (g-A)==1)
 ·cases (i64.wrap (r-g)==1)
  ·cases EV A g r h
   ·exact a
   ·exact a
  ·exact d
 ·exact c
def pP:Nat→Int→Int→Int→G aM→G aM
 |0=>fun _ _ _ s=>s
 |N+1=>Ay (pP N)
def yQ(N:Nat):b0:=⟨[.o 0,.v a,.v a,.v a,.ju 34 []],[(.h 0 0,.ad cJ)],[[U]],fun(A:Int) (g:Int) (r:Int) h=>⟨⟨some (0≤A∧A<g∧g<r∧r≤(h.n:Int)∧h.n≤900000∧r-A<(N:Int)),[],[[(aB.ad cJ).av (G.cut (pP N A g r h) h.n)]]⟩⟩⟩
theorem azI(N:Nat)(kE:iR Tryz.prog 77 (yQ N).gR):Co Tryz.prog 77 (yQ (N+1)) _ ((yQ (N+1)).d_.flatMap dn.ch) (yQ (N+1)).f []:=
 fun(A:Int) (g:Int) (r:Int) h axS Y=>have lW:=G.zb (ax0 (pP N) A g r h Y);xH (rs:=[]) (H':=[[(aB.ad cJ).av (Ay (pP N) A g r h)]]) (dI ⟨.heap,[],[(.h 0 0,.ad cJ)],⟨[],[[U]]⟩⟩ (.s (.ae (.s (.ae (.ae (.j ⟨1055,[],[],[],.f⟩ (.cW ⟨3103,[],[],[(.t 10,a),(.t 11,a)],some 0,false,1055,[],[(.t 10,a)],fun k (s:Int×Int)=>uK A h k s.1 s.2,.f,fun(s:Int×Int)=>(g≤s.1∧s.1≤s.2∧s.2≤r),fun(s:Int×Int)=>(toNat (s.2-s.1)),some fun(v:Int)=>(g≤v∧v≤r)⟩ .z) (.j ⟨31,[],[],[],.f⟩ (.ae (.cW ⟨9247,[],[],[(.t 13,a),(.h 0 0,.ad cJ)],some 2,false,31,[],[(.h 0 0,.ad cJ)],fun k (s:Int×G aM)=>EU A g r h k s.1 s.2,.f,fun(s:Int×G aM)=>(A≤s.1∧s.1≤r∧(s.2.n:Int)=h.n),fun(s:Int×G aM)=>(toNat (r-s.1)),none⟩ .z)) .z)))) .z)) (.s (.ae (.s (.ae (.ae (.j ⟨16415,[],[],[],.f⟩ (.cW ⟨49183,[],[],[(.t 14,a),(.t 15,a)],some 4,false,16415,[],[(.t 14,a)],fun k (s:Int×Int)=>xa g h k s.1 s.2,.f,fun(s:Int×Int)=>(A≤s.1∧s.1≤s.2∧s.2≤g),fun(s:Int×Int)=>(toNat (s.2-s.1)),some fun(v:Int)=>(A≤v∧v≤g)⟩ .z) (.j ⟨31,[],[],[],.f⟩ (.ae (.cW ⟨147487,[],[],[(.t 17,a),(.h 0 0,.ad cJ)],some 6,false,31,[],[(.h 0 0,.ad cJ)],fun k (s:Int×G aM)=>ET A g h k s.1 s.2,.f,fun(s:Int×G aM)=>(A≤s.1∧s.1≤g∧(s.2.n:Int)=h.n),fun(s:Int×G aM)=>(toNat (s.1-A)),none⟩ .z)) .z)))) .z)) (.ae (.ae (.ae (.j ⟨3932191,[],[(.t 20,a),(.t 21,a)],[],.f⟩ .z (.ae (.j ⟨1835039,[],[],[],.f⟩ (.cW ⟨8126495,[],[],[(.t 20,a),(.t 21,a)],some 8,false,1835039,[],[(.t 20,a)],fun k (s:Int×Int)=>JE A g r h k s.1 s.2,.f,fun(s:Int×Int)=>((qm A g r)≤s.1∧s.1≤s.2∧s.2≤(qn A g r)),fun(s:Int×Int)=>(toNat (s.2-s.1)),some fun(v:Int)=>((qm A g r)≤v∧v≤(qn A g r))⟩ .z) (.ae (.j ⟨18087963,[],[(.h 0 0,.ad cJ)],[],.f⟩ (.j ⟨49039857307708443467467104868809893875799651909893357599,[],[(.t 185,l)],[],.f⟩ .z .z) (.j ⟨17039385,[],[(.h 0 0,.ad cJ)],[],.f⟩ (.j ⟨803469022129495137770981046170581301261101496891396435738651,[],[(.t 199,l)],[],.f⟩ .z .z) (.j ⟨13164036458569648337239753460458804039861886925068638906805911577,[],[(.t 213,l)],[],.f⟩ .z .z)))))))))))) (let aib:=uM A g r h;let ah9:=i64.wrap (r-g);let ah8:=i64.wrap (g-A);let F:=toNat 1;let ah6:=uL (pP N) A g r h;let J:=JF A g h;let O:=lB A g r h;let D:=fU A g r h;let B:=qn A g r;let z:=qm A g r;let C:=i64.wrap ((u64.wrap (i64.wrap (A+r)))/2^F);let ah7:=i64.wrap (C+g);let I:=i64.wrap (ah7-D);((ah8==1)=true→((((g≤g∧g≤r∧r≤r))∧(∀(e:Int) (f:Int),let aic:=toNat (f-e);let M:=decide (e<f);let y:=i64.wrap ((u64.wrap (i64.wrap (e+f)))/2^F);let P:=i64.wrap (y+1);let ail:=decide ((qd (h.at' (toNat y)).q (h.at' (toNat A)).q)<0);(g≤e∧e≤f∧f≤r)→((M=true→(((0:Int)≤1∧(1:Int)≤64)∧(((0:Int)≤y∧y<(h.n:Int))∧(((toNat y)<h.n)∧(((0:Int)≤A∧A<(h.n:Int))∧((toNat A)<h.n))))))∧((M=true→((ail=true→((g≤P∧P≤f∧f≤r)∧(toNat (f-P))<aic))∧(ail=false→((g≤e∧e≤y∧y≤r)∧(toNat (y-e))<aic))))∧(M=false→((g≤e∧e≤r)))))))∧(((g≤O∧O≤r))→(((A≤A∧A≤r∧(h.n:Int)=h.n))∧(∀(i:Int) (o:G aM),let Z:=decide (i<(i64.wrap (O-1)));let u:=i64.wrap (i+1);(A≤i∧i≤r∧(o.n:Int)=h.n)→((Z=true→(((0:Int)≤u∧u<(o.n:Int))∧(((toNat u)<o.n)∧(((0:Int)≤i∧i<(o.n:Int))∧(((toNat i)<o.n)∧(((0:Int)≤i∧i<(o.n:Int))∧(((toNat i)<o.n)∧(((0:Int)≤u∧u<(o.n:Int))∧((toNat u)<o.n)))))))))∧(Z=true→((A≤u∧u≤r∧(o.n:Int)=h.n)∧(toNat (r-u))<(toNat (r-i))))))))))∧((ah8==1)=false→(((ah9==1)=true→((((A≤A∧A≤g∧g≤g))∧(∀(j:Int) (m:Int),let ah_:=toNat (m-j);let K:=decide (j<m);let w:=i64.wrap ((u64.wrap (i64.wrap (j+m)))/2^F);let Q:=i64.wrap (w+1);let aim:=decide ((qd (h.at' (toNat g)).q (h.at' (toNat w)).q)<0);(A≤j∧j≤m∧m≤g)→((K=true→(((0:Int)≤1∧(1:Int)≤64)∧(((0:Int)≤g∧g<(h.n:Int))∧(((toNat g)<h.n)∧(((0:Int)≤w∧w<(h.n:Int))∧((toNat w)<h.n))))))∧((K=true→(((!aim)=true→((A≤Q∧Q≤m∧m≤g)∧(toNat (m-Q))<ah_))∧((!aim)=false→((A≤j∧j≤w∧w≤g)∧(toNat (w-j))<ah_))))∧(K=false→((A≤j∧j≤g)))))))∧(((A≤J∧J≤g))→(((A≤g∧g≤g∧(h.n:Int)=h.n))∧(∀(c:Int) (n:G aM),let t:=i64.wrap (c-1);(A≤c∧c≤g∧(n.n:Int)=h.n)→(((decide (c>J))=true→(((0:Int)≤t∧t<(n.n:Int))∧(((toNat t)<n.n)∧(((0:Int)≤c∧c<(n.n:Int))∧(((toNat c)<n.n)∧(((0:Int)≤c∧c<(n.n:Int))∧(((toNat c)<n.n)∧(((0:Int)≤t∧t<(n.n:Int))∧((toNat t)<n.n)))))))))∧((decide (c>J))=true→((A≤t∧t≤g∧(n.n:Int)=h.n)∧(toNat (t-A))<(toNat (c-A))))))))))∧((ah9==1)=false→(((0:Int)≤1∧(1:Int)≤64)∧((((z≤z∧z≤B∧B≤B))∧(∀(b:Int) (d:Int),let aia:=toNat (d-b);let L:=decide (b<d);let q:=i64.wrap ((u64.wrap (i64.wrap (b+d)))/2^F);let R:=i64.wrap (q+1);let H:=i64.wrap ((i64.wrap (ah7-1))-q);let ain:=decide ((qd (h.at' (toNat H)).q (h.at' (toNat q)).q)<0);(z≤b∧b≤d∧d≤B)→((L=true→(((0:Int)≤1∧(1:Int)≤64)∧(((0:Int)≤H∧H<(h.n:Int))∧(((toNat H)<h.n)∧(((0:Int)≤q∧q<(h.n:Int))∧((toNat q)<h.n))))))∧((L=true→(((!ain)=true→((z≤R∧R≤d∧d≤B)∧(toNat (d-R))<aia))∧((!ain)=false→((z≤b∧b≤q∧q≤B)∧(toNat (q-b))<aia))))∧(L=false→((z≤b∧b≤B)))))))∧(((z≤D∧D≤B))→(((AA A g r h)=true→(0≤D∧D<g∧g<I∧I≤(h.n:Int)∧h.n≤900000))∧(((Az A g r h)=true→(0≤A∧A<D∧D<C∧C≤(aib.n:Int)∧aib.n≤900000∧C-A<(N:Int)))∧((EV A g r h)=true→(0≤C∧C<I∧I<r∧r≤(ah6.n:Int)∧ah6.n≤900000∧r-C<(N:Int)))))))))))) (bJ 1 (aG aeu aT) (aj kE (aj avw bI))) Tryz.func77 (have⟨aDW,aDX,aDY,aDZ,aD0,aD1⟩:=Y;⟨(fun eM=>⟨⟨(by omega),(fun e f aDu=>⟨(fun W=>⟨(by omega),⟨(by have:=al W;have:=half (x:=(e+f)) (by omega) (by omega);omega),⟨(by have:=al W;have:=half (x:=(e+f)) (by omega) (by omega);omega),⟨(by omega),(by omega)⟩⟩⟩⟩),⟨(fun X=>⟨(fun KI=>(by have:=al X;have:=half (x:=(e+f)) (by omega) (by omega);have:=E ((i64.wrap ((u64.wrap (i64.wrap (e+f)))/2^(toNat 1)))+1);omega)),(fun ac1=>(by have:=al X;have:=half (x:=(e+f)) (by omega) (by omega);omega))⟩),(fun xC=>(by omega))⟩⟩)⟩,(fun aDn=>⟨(by omega),(fun i o aDx=>⟨(fun p=>⟨(by have:=al p;have:=E ((lB A g r h)-1);have:=E (i+1);omega),⟨(by have:=al p;have:=E ((lB A g r h)-1);have:=E (i+1);omega),⟨(by have:=al p;have:=E ((lB A g r h)-1);omega),⟨(by have:=al p;have:=E ((lB A g r h)-1);omega),⟨(by have:=al p;have:=E ((lB A g r h)-1);omega),⟨(by have:=al p;have:=E ((lB A g r h)-1);omega),⟨(by have:=al p;have:=E ((lB A g r h)-1);have:=E (i+1);omega),(by have:=al p;have:=E ((lB A g r h)-1);have:=E (i+1);omega)⟩⟩⟩⟩⟩⟩⟩),(fun aqr=>(by have:=al aqr;have:=E ((lB A g r h)-1);have:=E (i+1);omega))⟩)⟩)⟩),(fun aqs=>⟨(fun aC9=>⟨⟨(by omega),(fun j m aDt=>⟨(fun aC_=>⟨(by omega),⟨(by omega),⟨(by omega),⟨(by have:=half (x:=(j+m)) (by omega) (by omega);omega),(by have:=half (x:=(j+m)) (by omega) (by omega);omega)⟩⟩⟩⟩),⟨(fun S=>⟨(fun aDa=>(by have:=al S;have:=half (x:=(j+m)) (by omega) (by omega);have:=E ((i64.wrap ((u64.wrap (i64.wrap (j+m)))/2^(toNat 1)))+1);omega)),(fun aDb=>(by have:=al S;have:=half (x:=(j+m)) (by omega) (by omega);omega))⟩),(fun aDc=>(by omega))⟩⟩)⟩,(fun aDl=>⟨(by omega),(fun c n aDv=>⟨(fun T=>⟨(by have:=al T;have:=E (c-1);omega),⟨(by have:=E (c-1);omega),⟨(by omega),⟨(by omega),⟨(by omega),⟨(by omega),⟨(by have:=al T;have:=E (c-1);omega),(by have:=E (c-1);omega)⟩⟩⟩⟩⟩⟩⟩),(fun aqt=>(by have:=al aqt;have:=E (c-1);omega))⟩)⟩)⟩),(fun aDd=>⟨(by omega),⟨⟨(by have:=pY A g r (by omega);omega),(fun b d aDw=>⟨(fun aDe=>⟨(by omega),⟨(by have:=pY A g r (by omega);have:=half (x:=(A+r)) (by omega) (by omega);have:=half (x:=(b+d)) (by omega) (by omega);have:=E ((i64.wrap ((u64.wrap (i64.wrap (A+r)))/2^(toNat 1)))+g);have:=E ((i64.wrap ((i64.wrap ((u64.wrap (i64.wrap (A+r)))/2^(toNat 1)))+g))-1);have:=E ((i64.wrap ((i64.wrap ((i64.wrap ((u64.wrap (i64.wrap (A+r)))/2^(toNat 1)))+g))-1))- (i64.wrap ((u64.wrap (i64.wrap (b+d)))/2^(toNat 1))));omega),⟨(by have:=pY A g r (by omega);have:=half (x:=(A+r)) (by omega) (by omega);have:=half (x:=(b+d)) (by omega) (by omega);have:=E ((i64.wrap ((u64.wrap (i64.wrap (A+r)))/2^(toNat 1)))+g);have:=E ((i64.wrap ((i64.wrap ((u64.wrap (i64.wrap (A+r)))/2^(toNat 1)))+g))-1);have:=E ((i64.wrap ((i64.wrap ((i64.wrap ((u64.wrap (i64.wrap (A+r)))/2^(toNat 1)))+g))-1))- (i64.wrap ((u64.wrap (i64.wrap (b+d)))/2^(toNat 1))));omega),⟨(by have:=pY A g r (by omega);have:=half (x:=(b+d)) (by omega) (by omega);omega),(by have:=pY A g r (by omega);have:=half (x:=(b+d)) (by omega) (by omega);omega)⟩⟩⟩⟩),⟨(fun V=>⟨(fun aDf=>(by have:=al V;have:=pY A g r (by omega);have:=half (x:=(b+d)) (by omega) (by omega);have:=E ((i64.wrap ((u64.wrap (i64.wrap (b+d)))/2^(toNat 1)))+1);omega)),(fun aDg=>(by have:=al V;have:=pY A g r (by omega);have:=half (x:=(b+d)) (by omega) (by omega);omega))⟩),(fun aDh=>(by omega))⟩⟩)⟩,(fun aDm=>⟨(fun aDi=>(by have:=pY A g r (by omega);(try have xD:=amF (A:=A) (g:=g) (r:=r) (h:=h) (by omega) (by assumption) (by assumption));have:=half (x:=(A+r)) (by omega) (by omega);have:=E ((i64.wrap ((u64.wrap (i64.wrap (A+r)))/2^(toNat 1)))+g);have:=E ((i64.wrap ((i64.wrap ((u64.wrap (i64.wrap (A+r)))/2^(toNat 1)))+g))- (fU A g r h));omega)),⟨(fun aDj=>(by have:=UQ A g r h;(try have p:=amS (A:=A) (g:=g) (r:=r) (h:=h) (by omega) (by assumption) (by assumption));have:=half (x:=(A+r)) (by omega) (by omega);omega)),(fun aDk=>(by have:=axM (pP N) A g r h;(try have aqs:=amT (A:=A) (g:=g) (r:=r) (h:=h) (by omega) (by assumption) (by assumption));have:=half (x:=(A+r)) (by omega) (by omega);have:=E ((i64.wrap ((u64.wrap (i64.wrap (A+r)))/2^(toNat 1)))+g);have:=E ((i64.wrap ((i64.wrap ((u64.wrap (i64.wrap (A+r)))/2^(toNat 1)))+g))- (fU A g r h));omega))⟩⟩)⟩⟩)⟩)⟩)) rfl (show([[(aB.ad cJ).av (Ay (pP N) A g r h)]]:Heap)=[[(aB.ad cJ).av (G.cut (Ay (pP N) A g r h) h.n)]] by rw[lW])
theorem aeC: ∀N,iR Tryz.prog 77 (yQ N).gR
 |0=>let b:=yQ 0;b0.ok ⟨_,_,Tryz.func77,rfl,by kernel_rfl⟩ (by kernel_rfl) (show aij 77 b from fun(A:Int) (g:Int) (r:Int) h c a=>(by have a:0≤A∧A<g∧g<r∧r≤(h.n:Int)∧h.n≤900000∧r-A<((0:Nat):Int):=a;omega:False).elim)
 |N+1=>b0.ok ⟨_,_,Tryz.func77,rfl,by kernel_rfl⟩ (by kernel_rfl) (azI N (aeC N))
end
end Go.Proofs.YtfmgjpcmcjjoiaaGreatDoor
