import Derived.Test.YtadmdaokcgjdiaaGreatDoorXk
import Derived.Test.YtadmdaokcgjdiaaGreatDoorXl
open Go.IntKind (i64 u64 u8)
open Int (toNat)
set_option maxRecDepth 100000
set_option maxHeartbeats 4000000
set_option linter.all false
noncomputable section
namespace Go.Proofs.YtadmdaokcgjdiaaGreatDoor
open Go Go.RowKit Go.af
abbrev jP:=dL ck
instance:Inhabited jP:=⟨dL.l7 ck⟩
def YV(C:aA):jP:=(C.a.bf,C.a.up,C.a.bs,C.a.ro,C.a.ao,C.a.b3,C.a.j,C.a.lt,C.a.li,C.a.bR,C.a.eU,C.a.fI,C.a.fi,C.a.gK,C.a.fh,C.a.ep,C.a.dn,C.a.e1,C.a.er,C.a.co,C.a.v0,C.a.v1,C.a.v2,C.a.dO,C.a.dD,C.a.dG,C.a.hq,C.a.q1,C.a.fQ,C.a.a_,C.a.br,C.b.bf,C.b.up,C.b.bs,C.b.ro,C.b.ao,C.b.b3,C.b.j,C.b.lt,C.b.li,C.b.bR,C.b.eU,C.b.fI,C.b.fi,C.b.gK,C.b.fh,C.b.ep,C.b.dn,C.b.e1,C.b.er,C.b.co,C.b.v0,C.b.v1,C.b.v2,C.b.dO,C.b.dD,C.b.dG,C.b.hq,C.b.q1,C.b.fQ,C.b.a_,C.b.br,C.c.bf,C.c.up,C.c.bs,C.c.ro,C.c.ao,C.c.b3,C.c.j,C.c.lt,C.c.li,C.c.bR,C.c.eU,C.c.fI,C.c.fi,C.c.gK,C.c.fh,C.c.ep,C.c.dn,C.c.e1,C.c.er,C.c.co,C.c.v0,C.c.v1,C.c.v2,C.c.dO,C.c.dD,C.c.dG,C.c.hq,C.c.q1,C.c.fQ,C.c.a_,C.c.br,C.a.ws,C.a.bd,C.b.ws,C.b.bd,C.c.ws,C.c.bd,C.ag,C.told,C.bh)
def b8(x:jP):aA:=let a:=x.2.2.2.2.2.2.2.2;let b:=a.2.2.2.2.2.2.2.2;let c:=b.2.2.2.2.2.2.2.2;let d:=c.2.2.2.2.2.2.2.2;let e:=d.2.2.2.2.2.2.2.2;let f:=e.2.2.2.2.2.2.2.2;let g:=f.2.2.2.2.2.2.2.2;let h:=g.2.2.2.2.2.2.2.2;let i:=h.2.2.2.2.2.2.2.2;let j:=i.2.2.2.2.2.2.2.2;let k:=j.2.2.2.2.2.2.2.2;let l:=k.2.2.2.2.2.2.2.2;⟨⟨x.1,x.2.1,x.2.2.1,x.2.2.2.1,x.2.2.2.2.1,x.2.2.2.2.2.1,x.2.2.2.2.2.2.1,x.2.2.2.2.2.2.2.1,a.1,a.2.1,a.2.2.1,a.2.2.2.1,a.2.2.2.2.1,a.2.2.2.2.2.1,a.2.2.2.2.2.2.1,a.2.2.2.2.2.2.2.1,b.1,b.2.1,b.2.2.1,b.2.2.2.1,b.2.2.2.2.1,b.2.2.2.2.2.1,b.2.2.2.2.2.2.1,b.2.2.2.2.2.2.2.1,c.1,c.2.1,c.2.2.1,c.2.2.2.1,c.2.2.2.2.1,k.2.2.2.2.2.1,c.2.2.2.2.2.1,c.2.2.2.2.2.2.1,k.2.2.2.2.2.2.1⟩,⟨c.2.2.2.2.2.2.2.1,d.1,d.2.1,d.2.2.1,d.2.2.2.1,d.2.2.2.2.1,d.2.2.2.2.2.1,d.2.2.2.2.2.2.1,d.2.2.2.2.2.2.2.1,e.1,e.2.1,e.2.2.1,e.2.2.2.1,e.2.2.2.2.1,e.2.2.2.2.2.1,e.2.2.2.2.2.2.1,e.2.2.2.2.2.2.2.1,f.1,f.2.1,f.2.2.1,f.2.2.2.1,f.2.2.2.2.1,f.2.2.2.2.2.1,f.2.2.2.2.2.2.1,f.2.2.2.2.2.2.2.1,g.1,g.2.1,g.2.2.1,g.2.2.2.1,k.2.2.2.2.2.2.2.1,g.2.2.2.2.1,g.2.2.2.2.2.1,l.1⟩,⟨g.2.2.2.2.2.2.1,g.2.2.2.2.2.2.2.1,h.1,h.2.1,h.2.2.1,h.2.2.2.1,h.2.2.2.2.1,h.2.2.2.2.2.1,h.2.2.2.2.2.2.1,h.2.2.2.2.2.2.2.1,i.1,i.2.1,i.2.2.1,i.2.2.2.1,i.2.2.2.2.1,i.2.2.2.2.2.1,i.2.2.2.2.2.2.1,i.2.2.2.2.2.2.2.1,j.1,j.2.1,j.2.2.1,j.2.2.2.1,j.2.2.2.2.1,j.2.2.2.2.2.1,j.2.2.2.2.2.2.1,j.2.2.2.2.2.2.2.1,k.1,k.2.1,k.2.2.1,l.2.1,k.2.2.2.1,k.2.2.2.2.1,l.2.2.1⟩,l.2.2.2.1,l.2.2.2.2.1,l.2.2.2.2.2⟩
section
def TO(g:G N):Nat->Int->G N->G N
 |0,_,_=>default
 |k+1,e,l=>(cond (decide (e<(g.n:Int))) (TO g k (i64 (e+1)) (G.app l (G.lit ([(g.at' (toNat e))]:List N)))) l)
variable(g:G N)(h:G ar)
def ad1:G N:=TO g ((toNat ((g.n:Int)-0))+1) 0 (B:G N)
def TP(h:G ar):Nat->Int->G ar->G ar
 |0,_,_=>default
 |k+1,bl,a=>(cond (decide (bl<(h.n:Int))) (TP h k (i64 (bl+1)) (G.app a (G.lit ([(h.at' (toNat bl))]:List ar)))) a)
def arQ:G ar:=TP h ((toNat ((h.n:Int)-0))+1) 0 (B:G ar)
def FX(A:Int):Int:=A
def FY:G N:=(ad1 g)
def FZ(r:Int):Int:=r
def F0:G ar:=(arQ h)
def amM:bq:=⟨[.g [a,.ab bp,a,.ab bZ]],λA g r h=>⟨⟨none,.agg [b (FX A),aP 8 gU (FY g),b (FZ r),aP 7 hi (F0 h)]⟩⟩⟩
theorem axO:bx 23 amM:=bA Tryz.func23
 λ(A:Int) g x _ (r:Int) h y _=>bD ⟨.pure,[.cell 2 49],[(.c 0 0,a),(.c 0 1,.ab bp),(.c 0 2,a),(.c 0 3,.ab bZ)],⟨[.agg (us 4 [])],[]⟩⟩ (.ae (.ae (.j ⟨14,[],[],[],.f⟩ (.ae (.cX ⟨1835022,[],[(.h 2 1,bp)],[(.t 20,a),(.h 3 0,.ad bp)],some 0,false,14,[],[(.h 3 0,.ad bp)],λk (s:Int×G N)=>TO g k s.1 s.2,.f,λ(s:Int×G N)=>((0<=s.1/\s.1<=(g.n:Int))/\(s.2.n:Int)<=0+(s.1-0)),λ(s:Int×G N)=>(toNat ((g.n:Int)-s.1)),some λ(f:G N)=>(f.n:Int)<=0+max ((g.n:Int)-0) 0⟩ .z)) (.j ⟨12,[],[],[],.f⟩ (.ae (.cX ⟨63050394783186956,[.b 0],[(.h 2 3,bZ)],[(.t 55,a),(.h 4 0,.ad bZ)],some 2,false,12,[],[(.h 4 0,.ad bZ)],λk (s:Int×G ar)=>TP h k s.1 s.2,.f,λ(s:Int×G ar)=>((0<=s.1/\s.1<=(h.n:Int))/\(s.2.n:Int)<=0+(s.1-0)),λ(s:Int×G ar)=>(toNat ((h.n:Int)-s.1)),some λ(f:G ar)=>(f.n:Int)<=0+max ((h.n:Int)-0) 0⟩ .z)) .z)))) (((((0<=(0:Int)/\(0:Int)<=(g.n:Int))/\((0:Nat):Int)<=0+((0:Int)-0)))/\(∀(e:Int) (l:G N),let i:=decide (e<(g.n:Int));let c:=i64 (e+1);((0<=e/\e<=(g.n:Int))/\(l.n:Int)<=0+(e-0))->((i=true->(((0:Int)<=e/\e<(g.n:Int))/\(l.n+1<=549755813888)))/\((i=true->(((0<=c/\c<=(g.n:Int))/\(((l.n+1):Nat):Int)<=0+(c-0))/\(toNat ((g.n:Int)-c))<(toNat ((g.n:Int)-e))))/\(i=false->((l.n:Int)<=0+max ((g.n:Int)-0) 0))))))/\(((((ad1 g).n:Nat):Int)<=0+max ((g.n:Int)-0) 0)->((((0<=(0:Int)/\(0:Int)<=(h.n:Int))/\((0:Nat):Int)<=0+((0:Int)-0)))/\(∀(bl:Int) (b:G ar),let j:=decide (bl<(h.n:Int));let d:=i64 (bl+1);((0<=bl/\bl<=(h.n:Int))/\(b.n:Int)<=0+(bl-0))->((j=true->(((0:Int)<=bl/\bl<(h.n:Int))/\(b.n+1<=549755813888)))/\((j=true->(((0<=d/\d<=(h.n:Int))/\(((b.n+1):Nat):Int)<=0+(d-0))/\(toNat ((h.n:Int)-d))<(toNat ((h.n:Int)-bl))))/\(j=false->((b.n:Int)<=0+max ((h.n:Int)-0) 0)))))))) (ct (aJ V2 (aJ CC (aJ V3 a2)))) Tryz.func23 (⟨⟨Ω,(λe l v=>⟨(λm=>⟨(by have:=an m;omega),(by have:=an m;omega)⟩),⟨(λo=>(by have:=an o;have:=E (e+1);omega)),(λq=>Ω)⟩⟩)⟩,(λu=>⟨Ω,(λbl b w=>⟨(λn=>⟨(by have:=an n;omega),(by have:=an n;omega)⟩),⟨(λp=>(by have:=an p;have:=E (bl+1);omega)),(λt=>Ω)⟩⟩)⟩)⟩)
end
section
def Gl(A:Int)(g:Int)(r:Int):Nat->Int->G aU->G aU
 |0,_,_=>default
 |k+1,e,l=>(cond (decide (e<r)) (Gl A g r k (i64 (e+1)) (G.cF (G.cF l (toNat (i64 (A+e))) (l.at' (toNat (i64 (g+e))))) (toNat (i64 (g+e))) (l.at' (toNat (i64 (A+e)))))) l)
variable(A:Int)(g:Int)(r:Int)(h:G aU)
def ar_:G aU:=Gl A g r ((toNat (r-0))+1) 0 h
def vM:G aU:=(ar_ A g r h)
theorem ahS(A g r:Int)(b:r<=900000): ∀(k:Nat) (v:Int) (s:G aU),0<=v->v<=r->toNat (r-v)<k->(Gl A g r k v s).n=s.n
 |0,_,_,_,_,a=>absurd a (eD _)
 |k+1,v,s,c,d,a=>by
  rw[Gl]
  by_cases e:v<r
  .rw[bM e,aR,E (v+1)];exact ahS A g r b k (v+1) _ Ω Ω Ω
  .rw[bj e,aX]
theorem aAH(A g r:Int)(h:G aU)(a:0<=A/\0<=g/\0<=r/\A+r<=(h.n:Int)/\g+r<=(h.n:Int)/\h.n<=900000):(vM A g r h).n=h.n:=
 ahS A g r Ω _ 0 h (aZ _) a.2.2.1 Ω
def amS:cf:=⟨[.o 0,.v a,.v a,.v a,.jU 21 []],[(.h 0 0,.ad cY)],[[U]],λ(A:Int) (g:Int) (r:Int) h=>⟨⟨some (0<=A/\0<=g/\0<=r/\A+r<=(h.n:Int)/\g+r<=(h.n:Int)/\h.n<=900000),[],[[(aH.ad cY).av (G.cut (vM A g r h) h.n)]]⟩⟩⟩
theorem ax0:dV 102 amS:=ea Tryz.func102
 λ(A:Int) (g:Int) (r:Int) h z j=>have m:=G.AA (aAH A g r h j);yW (rs:=[]) (H':=[[(aH.ad cY).av (vM A g r h)]]) (dU ⟨.heap,[],[(.h 0 0,.ad cY)],⟨[],[[U]]⟩⟩ (.ae (.cX ⟨1039,[],[],[(.t 10,a),(.h 0 0,.ad cY)],some 0,false,0,[],[(.h 0 0,.ad cY)],λk (s:Int×G aU)=>Gl A g r k s.1 s.2,.f,λ(s:Int×G aU)=>((0<=s.1/\s.1<=r)/\(s.2.n:Int)=h.n),λ(s:Int×G aU)=>(toNat (r-s.1)),some λ(o:G aU)=>(o.n:Int)=h.n⟩ .z)) ((((0<=(0:Int)/\(0:Int)<=r)/\(h.n:Int)=h.n))/\(∀(e:Int) (l:G aU),let i:=decide (e<r);let f:=i64 (e+1);let d:=i64 (A+e);let c:=i64 (g+e);((0<=e/\e<=r)/\(l.n:Int)=h.n)->((i=true->(((0:Int)<=c/\c<(l.n:Int))/\(((toNat c)<l.n)/\(((0:Int)<=d/\d<(l.n:Int))/\(((toNat d)<l.n)/\(((0:Int)<=d/\d<(l.n:Int))/\(((toNat d)<l.n)/\(((0:Int)<=c/\c<(l.n:Int))/\((toNat c)<l.n)))))))))/\((i=true->(((0<=f/\f<=r)/\(l.n:Int)=h.n)/\(toNat (r-f))<(toNat (r-e))))/\(i=false->((l.n:Int)=h.n)))))) (b1 1 a2 b0) Tryz.func102 (have⟨t,u,v,w,x,y⟩:=j;⟨Ω,(λe l q=>⟨(λb=>⟨(by have:=an b;have:=E (g+e);omega),⟨(by have:=an b;have:=E (g+e);omega),⟨(by have:=an b;have:=E (A+e);omega),⟨(by have:=an b;have:=E (A+e);omega),⟨(by have:=an b;have:=E (A+e);omega),⟨(by have:=an b;have:=E (A+e);omega),⟨(by have:=an b;have:=E (g+e);omega),(by have:=an b;have:=E (g+e);omega)⟩⟩⟩⟩⟩⟩⟩),⟨(λn=>(by have:=an n;have:=E (e+1);omega)),(λp=>Ω)⟩⟩)⟩)) rfl (show([[(aH.ad cY).av (vM A g r h)]]:Heap)=[[(aH.ad cY).av (G.cut (vM A g r h) h.n)]] by rw[m])
end
section
def BW(g:Int):Nat->Int->G aU->Int->Int×G aU
 |0,_,_,_=>default
 |k+1,e,l,bg=>(cond (e !=bg) (cond (decide (e>bg)) (BW g k (i64 (e-bg)) (G.cut (vM (i64 (g-e)) g bg l) l.n) bg) (BW g k e (G.cut (vM (i64 (g-e)) (i64 ((i64 (g+bg))-e)) e l) l.n) (i64 (bg-e)))) (e,l))
variable(A:Int)(g:Int)(r:Int)(h:G aU)
def Gk:Int×G aU:=BW g ((toNat ((i64 (g-A))+(i64 (r-g))))+1) (i64 (g-A)) h (i64 (r-g))
def BV:G aU:=let a:=Gk A g r h;(G.cut (vM (i64 (g-a.1)) g a.1 a.2) a.2.n)
theorem WQ(A g r:Int)(a:0<=A/\A<g/\g<r/\r<=900000): ∀(k:Nat) (i:Int) (s:G aU) (j:Int),1<=i->i<=g-A->1<=j->j<=r-g->toNat (i+j)<k->(BW g k i s j).2.n=s.n
 |0,_,_,_,_,_,_,_,b=>absurd b (eD _)
 |k+1,i,s,j,d,f,h,l,b=>by
  rw[BW]
  by_cases e:i=j
  .rw[show(i !=j)=false by simp [e],aX]
  .rw[show(i !=j)=true by simp [e],aR]
   by_cases c:i>j
   .rw[bM c,aR,E (i-j)];exact WQ A g r a k (i-j) _ j Ω Ω h l Ω
   .rw[bj c,aX,E (j-i)];exact WQ A g r a k i _ (j-i) d f Ω Ω Ω
theorem aAG(A g r:Int)(h:G aU)(a:0<=A/\A<g/\g<r/\r<=(h.n:Int)/\h.n<=900000):(BV A g r h).n=h.n:=by
 show(Gk A g r h).2.n=h.n;unfold Gk;rw[E (g-A),E (r-g)];exact WQ A g r ⟨a.1,a.2.1,a.2.2.1,Ω⟩ _ _ _ _ Ω Ω Ω Ω Ω
def amR:cf:=⟨[.o 0,.v a,.v a,.v a,.jU 21 []],[(.h 0 0,.ad cY)],[[U]],λ(A:Int) (g:Int) (r:Int) h=>⟨⟨some (0<=A/\A<g/\g<r/\r<=(h.n:Int)/\h.n<=900000),[],[[(aH.ad cY).av (G.cut (BV A g r h) h.n)]]⟩⟩⟩
theorem axZ:dV 87 amR:=ea Tryz.func87
 λ(A:Int) (g:Int) (r:Int) h M m=>have u:=G.AA (aAG A g r h m);yW (rs:=[]) (H':=[[(aH.ad cY).av (BV A g r h)]]) (dU ⟨.heap,[],[(.h 0 0,.ad cY)],⟨[],[[U]]⟩⟩ (.ae (.ae (.j ⟨1045,[],[],[],.f⟩ (.cX ⟨3093,[],[],[(.t 10,a),(.h 0 0,.ad cY),(.t 11,a)],some 0,false,1045,[],[(.t 10,a),(.h 0 0,.ad cY)],λk (s:Int×G aU×Int)=>BW g k s.1 s.2.1 s.2.2,.f,λ(s:Int×G aU×Int)=>((1<=s.1/\s.1<=g-A)/\(1<=s.2.2/\s.2.2<=r-g)/\(s.2.1.n:Int)=h.n),λ(s:Int×G aU×Int)=>(toNat (s.1+s.2.2)),some λ(c:Int×G aU)=>((1<=c.1/\c.1<=g-A/\c.1<=r-g)/\(c.2.n:Int)=h.n)⟩ .z) .z))) (let q:=i64 (r-g);let p:=i64 (g-A);let b:=Gk A g r h;let o:=i64 (g-b.1);((((1<=p/\p<=g-A)/\(1<=q/\q<=r-g)/\(h.n:Int)=h.n))/\(∀(e:Int) (l:G aU) (bg:Int),let t:=toNat (e+bg);let n:=i64 ((i64 (g+bg))-e);let f:=decide (e>bg);let j:=i64 (bg-e);let i:=i64 (e-bg);let d:=i64 (g-e);((1<=e/\e<=g-A)/\(1<=bg/\bg<=r-g)/\(l.n:Int)=h.n)->(((e !=bg)=true->((f=true->(0<=d/\0<=g/\0<=bg/\d+bg<=(l.n:Int)/\g+bg<=(l.n:Int)/\l.n<=900000))/\(f=false->(0<=d/\0<=n/\0<=e/\d+e<=(l.n:Int)/\n+e<=(l.n:Int)/\l.n<=900000))))/\(((e !=bg)=true->((f=true->(((1<=i/\i<=g-A)/\(1<=bg/\bg<=r-g)/\(l.n:Int)=h.n)/\(toNat (i+bg))<t))/\(f=false->(((1<=e/\e<=g-A)/\(1<=j/\j<=r-g)/\(l.n:Int)=h.n)/\(toNat (e+j))<t))))/\((e !=bg)=false->(((1<=e/\e<=g-A/\e<=r-g)/\(l.n:Int)=h.n)))))))/\((((1<=b.1/\b.1<=g-A/\b.1<=r-g)/\(b.2.n:Int)=h.n))->(0<=o/\0<=g/\0<=b.1/\o+b.1<=(b.2.n:Int)/\g+b.1<=(b.2.n:Int)/\b.2.n<=900000))) (b1 1 a2 (ay ax0 b0)) Tryz.func87 (have⟨H,I,J,K,L⟩:=m;⟨⟨(by have:=E (g-A);have:=E (r-g);omega),(λe l bg F=>⟨(λz=>⟨(λB=>(by have:=E (g-e);omega)),(λC=>(by have:=E (g-e);have:=E (g+bg);have:=E ((i64 (g+bg))-e);omega))⟩),⟨(λv=>⟨(λw=>(by have:=an w;have:=E (e-bg);omega)),(λx=>(by have:=bne_iff_ne.1 v;have:=hX x;have:=E (bg-e);omega))⟩),(λy=>(by have:=bK y;omega))⟩⟩)⟩,(λD=>(by have:=E (g- (Gk A g r h).1);omega))⟩)) rfl (show([[(aH.ad cY).av (BV A g r h)]]:Heap)=[[(aH.ad cY).av (G.cut (BV A g r h) h.n)]] by rw[u])
end
section
variable(A:Int)(fj:Int)(g:Int)(r:G aU)
def ar6:Bool:=(cond (decide (fj>A)) true false)
def tv(a:G aU):Bool:=(cond (decide (fj>A)) (decide ((rn (a.at' (toNat fj)).q (a.at' (toNat (i64 (fj-1)))).q)<0)) false)
def Ge(A:Int):Nat->Int->G aU->Int×G aU×Int×Int×Bool×Bool×Bool
 |0,_,_=>default
 |k+1,fj,a=>(cond (tv A fj a) (Ge A k (i64 (fj-1)) (G.cF (G.cF a (toNat fj) (a.at' (toNat (i64 (fj-1))))) (toNat (i64 (fj-1))) (a.at' (toNat fj)))) (fj,a,fj,A,(decide (fj>A)),(ar6 A fj),(tv A fj a)))
def T5(e:Int)(l:G aU):Int×G aU×Int×Int×Bool×Bool×Bool:=Ge A ((toNat (e-A))+1) e l
def Gd(A:Int)(g:Int):Nat->Int->G aU->G aU
 |0,_,_=>default
 |k+1,e,l=>(cond (decide (e<g)) (Gd A g k (i64 (e+1)) (T5 A e l).2.1) l)
def T6:G aU:=Gd A g ((toNat (g- (i64 (A+1))))+1) (i64 (A+1)) r
def yn:G aU:=(T6 A g r)
def WO(A:Int): ∀(k:Nat) (v:Int) (s:G aU),v<=900000-> -1<=A->toNat (v-A)<k->(Ge A k v s).2.1.n=s.n
 |0,_,_,_,_,a=>absurd a (eD _)
 |k+1,v,s,d,b,a=>by
  rw[Ge]
  cases e:tv A v s
  .rw[aX]
  .have f:v>A:=by
    unfold tv at e
    by_cases c:v>A
    .exact c
    .rw[bj c]at e;cases e
   rw[aR,E (v-1)];exact WO A k (v-1) _ Ω b Ω
def azR(A v:Int)(s:G aU):(v<=900000/\ -1<=A)->(T5 A v s).2.1.n=s.n:=λh=>WO A (toNat (v-A)+1) v s h.1 h.2 Ω
def ahR(A g:Int)(h:0<=A/\g<=900000): ∀(k:Nat) (v:Int) (s:G aU),A<=v->v<=900001->toNat (g-v)<k->(Gd A g k v s).n=s.n
 |0,_,_,_,_,a=>absurd a (eD _)
 |k+1,v,s,c,d,a=>by
  rw[Gd]
  by_cases e:v<g
  .rw[bM e,aR,E (v+1)];have b:=WO A (toNat (v-A)+1) v s Ω Ω Ω;exact(ahR A g h k (v+1) _ Ω Ω Ω).trans b
  .rw[bj e,aX]
def aAE(A g:Int)(r:G aU)(a:0<=A/\A<=g/\g<=(r.n:Int)/\r.n<=900000):(yn A g r).n=r.n:=by
 show(T6 A g r).n=r.n;unfold T6;rw[E (A+1)];exact ahR A g ⟨a.1,Ω⟩ _ _ _ Ω Ω Ω
def amQ:cf:=⟨[.o 0,.v a,.v a,.jU 21 []],[(.h 0 0,.ad cY)],[[U]],λ(A:Int) (g:Int) r=>⟨⟨some (0<=A/\A<=g/\g<=(r.n:Int)/\r.n<=900000),[],[[(aH.ad cY).av (G.cut (yn A g r) r.n)]]⟩⟩⟩
def axW:dV 64 amQ:=ea Tryz.func64
 λ(A:Int) (g:Int) r F o=>have p:=G.AA (aAE A g r o);yW (rs:=[]) (H':=[[(aH.ad cY).av (yn A g r)]]) (dU ⟨.heap,[],[(.h 0 0,.ad cY)],⟨[],[[U]]⟩⟩ (.ae (.cX ⟨271,[],[],[(.t 8,a),(.h 0 0,.ad cY)],some 0,false,0,[],[(.h 0 0,.ad cY)],λk (s:Int×G aU)=>Gd A g k s.1 s.2,.f,λ(s:Int×G aU)=>((A+1<=s.1/\(s.1<=g\/s.1=A+1))/\(s.2.n:Int)=r.n),λ(s:Int×G aU)=>(toNat (g-s.1)),none⟩ (.ae (.j ⟨17183961871,[],[],[],.f⟩ (.ae (.cX ⟨160527,[],[],[(.t 9,a),(.h 0 0,.ad cY)],some 2,false,17183961871,[],[(.t 9,a),(.h 0 0,.ad cY),(.t 18,a),(.t 19,a),(.t 20,K),(.t 21,K),(.t 34,K)],λk (s:Int×G aU)=>Ge A k s.1 s.2,.f,λ(s:Int×G aU)=>((A<=s.1/\s.1<g)/\(s.2.n:Int)=r.n),λ(s:Int×G aU)=>(toNat (s.1-A)),some λ(w:Int×G aU×Int×Int×Bool×Bool×Bool)=>(w.2.1.n:Int)=r.n⟩ (.s (.j ⟨17183961871,[],[(.t 21,K),(.t 34,K)],[],.f⟩ .z .z) .z))) .z)))) (let h:=i64 (A+1);(((A+1<=h/\(h<=g\/h=A+1))/\(r.n:Int)=r.n))/\(∀(e:Int) (l:G aU),let d:=i64 (e+1);((A+1<=e/\(e<=g\/e=A+1))/\(l.n:Int)=r.n)->(((decide (e<g))=true->((((A<=e/\e<g)/\(l.n:Int)=r.n))/\(∀(fj:Int) (b:G aU),let i:=toNat fj;let f:=tv A fj b;let c:=i64 (fj-1);let j:=toNat c;((A<=fj/\fj<g)/\(b.n:Int)=r.n)->((((decide (fj>A))=true->(((0:Int)<=fj/\fj<(b.n:Int))/\((i<b.n)/\(((0:Int)<=c/\c<(b.n:Int))/\(j<b.n)))))/\(f=true->(((0:Int)<=c/\c<(b.n:Int))/\((j<b.n)/\(((0:Int)<=fj/\fj<(b.n:Int))/\((i<b.n)/\(((0:Int)<=fj/\fj<(b.n:Int))/\((i<b.n)/\(((0:Int)<=c/\c<(b.n:Int))/\(j<b.n))))))))))/\((f=true->(((A<=c/\c<g)/\(b.n:Int)=r.n)/\(toNat (c-A))<(toNat (fj-A))))/\(f=false->((b.n:Int)=r.n)))))))/\((decide (e<g))=true->(((A+1<=d/\(d<=g\/d=A+1))/\(((T5 A e l).2.1.n:Nat):Int)=r.n)/\(toNat (g-d))<(toNat (g-e))))))) (b1 1 (aJ agx a2) b0) Tryz.func64 (have⟨z,B,C,D⟩:=o;⟨(by have:=E (A+1);omega),(λe l x=>⟨(λm=>⟨(by have:=an m;omega),(λfj b y=>⟨⟨(λq=>⟨Ω,⟨Ω,⟨(by have:=an q;have:=E (fj-1);omega),(by have:=E (fj-1);omega)⟩⟩⟩),(λn=>⟨(by have:=n;(try simp [tv]at this);have:=E (fj-1);omega),⟨(by have:=E (fj-1);omega),⟨Ω,⟨Ω,⟨Ω,⟨Ω,⟨(by have:=n;(try simp [tv]at this);have:=E (fj-1);omega),(by have:=E (fj-1);omega)⟩⟩⟩⟩⟩⟩⟩)⟩,⟨(λt=>(by have:=t;(try simp [tv]at this);have:=E (fj-1);omega)),(λu=>(by have:=an m;have:=u;simp [tv]at this;omega))⟩⟩)⟩),(λv=>(by have:=an v;have:=azR A e l;have:=E (e+1);omega))⟩)⟩)) rfl (show([[(aH.ad cY).av (yn A g r)]]:Heap)=[[(aH.ad cY).av (G.cut (yn A g r) r.n)]] by rw[p])
end
section
def vH(A:Int)(h:G aU):Nat->Int->Int->Int
 |0,_,_=>default
 |k+1,e,l=>(cond (decide (e<l)) (cond (decide ((rn (h.at' (toNat (i64 ((u64 (i64 (e+l)))/2^(toNat 1))))).q (h.at' (toNat A)).q)<0)) (vH A h k (i64 ((i64 ((u64 (i64 (e+l)))/2^(toNat 1)))+1)) l) (vH A h k e (i64 ((u64 (i64 (e+l)))/2^(toNat 1))))) e)
variable(f:Int->Int->Int->G aU->G aU)(A:Int)(g:Int)(r:Int)(h:G aU)
def ml:Int:=vH A h ((toNat (r-g))+1) g r
def Gg(A:Int)(g:Int)(r:Int)(h:G aU):Nat->Int->G aU->G aU
 |0,_,_=>default
 |k+1,a,b=>(cond (decide (a<(i64 ((ml A g r h)-1)))) (Gg A g r h k (i64 (a+1)) (G.cF (G.cF b (toNat a) (b.at' (toNat (i64 (a+1))))) (toNat (i64 (a+1))) (b.at' (toNat a)))) b)
def ad8:G aU:=Gg A g r h ((toNat (r-A))+1) A h
def yo(g:Int)(h:G aU):Nat->Int->Int->Int
 |0,_,_=>default
 |k+1,a,b=>(cond (decide (a<b)) (cond (!(decide ((rn (h.at' (toNat g)).q (h.at' (toNat (i64 ((u64 (i64 (a+b)))/2^(toNat 1))))).q)<0))) (yo g h k (i64 ((i64 ((u64 (i64 (a+b)))/2^(toNat 1)))+1)) b) (yo g h k a (i64 ((u64 (i64 (a+b)))/2^(toNat 1))))) a)
def Ll:Int:=yo g h ((toNat (g-A))+1) A g
def Gf(A:Int)(g:Int)(h:G aU):Nat->Int->G aU->G aU
 |0,_,_=>default
 |k+1,a,b=>(cond (decide (a>(Ll A g h))) (Gf A g h k (i64 (a-1)) (G.cF (G.cF b (toNat a) (b.at' (toNat (i64 (a-1))))) (toNat (i64 (a-1))) (b.at' (toNat a)))) b)
def ad9:G aU:=Gf A g h ((toNat (g-A))+1) g h
def rB:Int:=(cond (decide (g>(i64 ((u64 (i64 (A+r)))/2^(toNat 1))))) (i64 ((i64 ((i64 ((u64 (i64 (A+r)))/2^(toNat 1)))+g))-r)) A)
def rC:Int:=(cond (decide (g>(i64 ((u64 (i64 (A+r)))/2^(toNat 1))))) (i64 ((u64 (i64 (A+r)))/2^(toNat 1))) g)
def Lj(A:Int)(g:Int)(r:Int)(h:G aU):Nat->Int->Int->Int
 |0,_,_=>default
 |k+1,a,c=>let b:=i64 ((u64 (i64 (a+c)))/2^(toNat 1));(cond (decide (a<c)) (cond (!(decide ((rn (h.at' (toNat (i64 ((i64 ((i64 ((i64 ((u64 (i64 (A+r)))/2^(toNat 1)))+g))-1))-b)))).q (h.at' (toNat b)).q)<0))) (Lj A g r h k (i64 (b+1)) c) (Lj A g r h k a b)) a)
def gz:Int:=let b:=rB A g r;let a:=rC A g r;Lj A g r h ((toNat (a-b))+1) b a
def BR:Bool:=(cond (decide ((gz A g r h)<g)) (decide (g<(i64 ((i64 ((i64 ((u64 (i64 (A+r)))/2^(toNat 1)))+g))- (gz A g r h))))) false)
def vJ:G aU:=(cond (BR A g r h) (G.cut (BV (gz A g r h) g (i64 ((i64 ((i64 ((u64 (i64 (A+r)))/2^(toNat 1)))+g))- (gz A g r h))) h) h.n) h)
def BQ:Bool:=(cond (decide (A<(gz A g r h))) (decide ((gz A g r h)<(i64 ((u64 (i64 (A+r)))/2^(toNat 1))))) false)
def vI:G aU:=(cond (BQ A g r h) (G.cut (f A (gz A g r h) (i64 ((u64 (i64 (A+r)))/2^(toNat 1))) (vJ A g r h)) (vJ A g r h).n) (vJ A g r h))
def Gh:Bool:=(cond (decide ((i64 ((u64 (i64 (A+r)))/2^(toNat 1)))<(i64 ((i64 ((i64 ((u64 (i64 (A+r)))/2^(toNat 1)))+g))- (gz A g r h))))) (decide ((i64 ((i64 ((i64 ((u64 (i64 (A+r)))/2^(toNat 1)))+g))- (gz A g r h)))<r)) false)
def BP:G aU:=(cond ((i64 (g-A))==1) (ad8 A g r h) (cond ((i64 (r-g))==1) (ad9 A g h) (cond (Gh A g r h) (G.cut (f (i64 ((u64 (i64 (A+r)))/2^(toNat 1))) (i64 ((i64 ((i64 ((u64 (i64 (A+r)))/2^(toNat 1)))+g))- (gz A g r h))) r (vI f A g r h)) (vI f A g r h).n) (vI f A g r h))))
theorem q4(A g r:Int)(h:0<=A/\A<g/\g<r/\r<=900000):(g<=(A+r)/2\/(rB A g r=(A+r)/2+g-r/\rC A g r=(A+r)/2))/\((A+r)/2<g\/(rB A g r=A/\rC A g r=g)):=by
 have hh:=half (x:=A+r) Ω Ω;have a:=E ((A+r)/2+g);have b:=E ((A+r)/2+g-r);unfold rB rC;rw[hh,a,b]
 by_cases c:g>(A+r)/2
 .rw[bM c];exact⟨.inr ⟨rfl,rfl⟩,.inl Ω⟩
 .rw[bj c];exact⟨.inl Ω,.inr ⟨rfl,rfl⟩⟩
theorem aoQ{A g r:Int}{h:G aU}(d:0<=A/\A<g/\g<r/\r<=900000)(i:(rB A g r)<=(gz A g r h)/\(gz A g r h)<=(rC A g r))(a:BR A g r h=true):gz A g r h<g/\g<(A+r)/2+g-gz A g r h:=by
 have b:=q4 A g r d;have hh:=half (x:=A+r) Ω Ω;have e:=E ((A+r)/2+g);have f:=E ((A+r)/2+g-gz A g r h);unfold BR at a;rw[hh,e,f]at a
 by_cases c:gz A g r h<g
 .rw[bM c,aR]at a;exact⟨c,an a⟩
 .rw[bj c]at a;cases a
theorem ao3{A g r:Int}{h:G aU}(b:0<=A/\A<g/\g<r/\r<=900000)(d:(rB A g r)<=(gz A g r h)/\(gz A g r h)<=(rC A g r))(a:BQ A g r h=true):A<gz A g r h/\gz A g r h<(A+r)/2:=by
 have hh:=half (x:=A+r) Ω Ω;unfold BQ at a;rw[hh]at a
 by_cases c:A<gz A g r h
 .rw[bM c,aR]at a;exact⟨c,an a⟩
 .rw[bj c]at a;cases a
theorem ao4{A g r:Int}{h:G aU}(d:0<=A/\A<g/\g<r/\r<=900000)(i:(rB A g r)<=(gz A g r h)/\(gz A g r h)<=(rC A g r))(a:Gh A g r h=true):(A+r)/2<(A+r)/2+g-gz A g r h/\(A+r)/2+g-gz A g r h<r:=by
 have b:=q4 A g r d;have hh:=half (x:=A+r) Ω Ω;have e:=E ((A+r)/2+g);have f:=E ((A+r)/2+g-gz A g r h);unfold Gh at a;rw[hh,e,f]at a
 by_cases c:(A+r)/2<(A+r)/2+g-gz A g r h
 .rw[bM c,aR]at a;exact⟨c,an a⟩
 .rw[bj c]at a;cases a
theorem WI(A:Int)(h:G aU)(c a:Int)(g:0<=c)(hh:a<=900000): ∀(k:Nat) (i j:Int),c<=i->i<=j->j<=a->toNat (j-i)<k->c<=vH A h k i j/\vH A h k i j<=a
 |0,_,_,_,_,_,f=>absurd f (eD _)
 |k+1,i,j,d,m,l,f=>by
  rw[vH,half (x:=i+j) Ω Ω]
  by_cases e:i<j
  .rw[bM e,aR,E ((i+j)/2+1)];generalize decide (rn _ _<0)=b
   cases b
   .exact WI A h c a g hh k i ((i+j)/2) d Ω Ω Ω
   .exact WI A h c a g hh k ((i+j)/2+1) j Ω Ω l Ω
  .rw[bj e,aX];exact⟨d,Ω⟩
theorem WJ(g:Int)(h:G aU)(c a:Int)(l:0<=c)(hh:a<=900000): ∀(k:Nat) (i j:Int),c<=i->i<=j->j<=a->toNat (j-i)<k->c<=yo g h k i j/\yo g h k i j<=a
 |0,_,_,_,_,_,f=>absurd f (eD _)
 |k+1,i,j,d,n,m,f=>by
  rw[yo,half (x:=i+j) Ω Ω]
  by_cases e:i<j
  .rw[bM e,aR,E ((i+j)/2+1)];generalize (!(decide (rn _ _<0)))=b
   cases b
   .exact WJ g h c a l hh k i ((i+j)/2) d Ω Ω Ω
   .exact WJ g h c a l hh k ((i+j)/2+1) j Ω Ω m Ω
  .rw[bj e,aX];exact⟨d,Ω⟩
theorem ahN(A g r:Int)(h:G aU)(b:0<=ml A g r h/\ml A g r h<=r)(c:r<=900000): ∀(k:Nat) (v:Int) (s:G aU),0<=v->v<=900001->toNat (r-v)<k->(Gg A g r h k v s).n=s.n
 |0,_,_,_,_,a=>absurd a (eD _)
 |k+1,v,s,d,f,a=>by
  rw[Gg,E (ml A g r h-1)]
  by_cases e:v<ml A g r h-1
  .rw[bM e,aR,E (v+1)];exact ahN A g r h b c k (v+1) _ Ω Ω Ω
  .rw[bj e,aX]
theorem ahO(A g:Int)(h:G aU)(c:A<=Ll A g h)(b:0<=A): ∀(k:Nat) (v:Int) (s:G aU),v<=900001->toNat (v-A)<k->(Gf A g h k v s).n=s.n
 |0,_,_,_,a=>absurd a (eD _)
 |k+1,v,s,d,a=>by
  rw[Gf]
  by_cases e:v>Ll A g h
  .rw[bM e,aR,E (v-1)];exact ahO A g h c b k (v-1) _ Ω Ω
  .rw[bj e,aX]
theorem WH(A g r:Int)(h:G aU):(vJ A g r h).n=h.n:=by
 unfold vJ
 cases BR A g r h<;>rfl
theorem aAs(f:Int->Int->Int->G aU->G aU)(A g r:Int)(h:G aU):(vI f A g r h).n=h.n:=by
 unfold vI
 cases BQ A g r h
 .exact WH A g r h
 .exact WH A g r h
theorem aAF(f:Int->Int->Int->G aU->G aU)(A g r:Int)(h:G aU){Q:Prop}(e:0<=A/\A<g/\g<r/\r<=(h.n:Int)/\h.n<=900000/\Q):(BP f A g r h).n=h.n:=by
 obtain⟨b,j,k,l,m,_⟩:=e;have q1:=WI A h g r Ω Ω (toNat (r-g)+1) g r (aZ _) Ω (aZ _) Ω;have i:=WJ g h A g Ω Ω (toNat (g-A)+1) A g (aZ _) Ω (aZ _) Ω;have c:(ad8 A g r h).n=h.n:=ahN A g r h ⟨by show 0<=vH A h _ g r;omega,q1.2⟩ Ω _ A h b Ω Ω;have d:(ad9 A g h).n=h.n:=ahO A g h i.1 b _ g h Ω Ω;have bk:(vJ A g r h).n=h.n:=by
  unfold vJ
  cases BR A g r h<;>rfl
 have a:(vI f A g r h).n=h.n:=by
  unfold vI
  cases BQ A g r h
  .exact bk
  .exact bk
 unfold BP
 cases (i64 (g-A)==1)
 .cases (i64 (r-g)==1)
  .cases Gh A g r h
   .exact a
   .exact a
  .exact d
 .exact c
def qU:Nat->Int->Int->Int->G aU->G aU
 |0=>λ_ _ _ s=>s
 |N+1=>BP (qU N)
def z7(N:Nat):cf:=⟨[.o 0,.v a,.v a,.v a,.jU 21 []],[(.h 0 0,.ad cY)],[[U]],λ(A:Int) (g:Int) (r:Int) h=>⟨⟨some (0<=A/\A<g/\g<r/\r<=(h.n:Int)/\h.n<=900000/\r-A<(N:Int)),[],[[(aH.ad cY).av (G.cut (qU N A g r h) h.n)]]⟩⟩⟩
theorem aCp(N:Nat)(om:ju Tryz.prog 65 (z7 N).hd):DM Tryz.prog 65 (z7 (N+1)) _ ((z7 (N+1)).et.flatMap dF.cA) (z7 (N+1)).f []:=
 λ(A:Int) (g:Int) (r:Int) h aAw Y=>have mO:=G.AA (aAF (qU N) A g r h Y);yW (rs:=[]) (H':=[[(aH.ad cY).av (BP (qU N) A g r h)]]) (dU ⟨.heap,[],[(.h 0 0,.ad cY)],⟨[],[[U]]⟩⟩ (.s (.ae (.s (.ae (.ae (.j ⟨1055,[],[],[],.f⟩ (.cX ⟨3103,[],[],[(.t 10,a),(.t 11,a)],some 0,false,1055,[],[(.t 10,a)],λk (s:Int×Int)=>vH A h k s.1 s.2,.f,λ(s:Int×Int)=>(g<=s.1/\s.1<=s.2/\s.2<=r),λ(s:Int×Int)=>(toNat (s.2-s.1)),some λ(u:Int)=>(g<=u/\u<=r)⟩ .z) (.j ⟨31,[],[],[],.f⟩ (.ae (.cX ⟨9247,[],[],[(.t 13,a),(.h 0 0,.ad cY)],some 2,false,31,[],[(.h 0 0,.ad cY)],λk (s:Int×G aU)=>Gg A g r h k s.1 s.2,.f,λ(s:Int×G aU)=>(A<=s.1/\s.1<=r/\(s.2.n:Int)=h.n),λ(s:Int×G aU)=>(toNat (r-s.1)),none⟩ .z)) .z)))) .z)) (.s (.ae (.s (.ae (.ae (.j ⟨16415,[],[],[],.f⟩ (.cX ⟨49183,[],[],[(.t 14,a),(.t 15,a)],some 4,false,16415,[],[(.t 14,a)],λk (s:Int×Int)=>yo g h k s.1 s.2,.f,λ(s:Int×Int)=>(A<=s.1/\s.1<=s.2/\s.2<=g),λ(s:Int×Int)=>(toNat (s.2-s.1)),some λ(u:Int)=>(A<=u/\u<=g)⟩ .z) (.j ⟨31,[],[],[],.f⟩ (.ae (.cX ⟨147487,[],[],[(.t 17,a),(.h 0 0,.ad cY)],some 6,false,31,[],[(.h 0 0,.ad cY)],λk (s:Int×G aU)=>Gf A g h k s.1 s.2,.f,λ(s:Int×G aU)=>(A<=s.1/\s.1<=g/\(s.2.n:Int)=h.n),λ(s:Int×G aU)=>(toNat (s.1-A)),none⟩ .z)) .z)))) .z)) (.ae (.ae (.ae (.j ⟨3932191,[],[(.t 20,a),(.t 21,a)],[],.f⟩ .z (.ae (.j ⟨1835039,[],[],[],.f⟩ (.cX ⟨8126495,[],[],[(.t 20,a),(.t 21,a)],some 8,false,1835039,[],[(.t 20,a)],λk (s:Int×Int)=>Lj A g r h k s.1 s.2,.f,λ(s:Int×Int)=>((rB A g r)<=s.1/\s.1<=s.2/\s.2<=(rC A g r)),λ(s:Int×Int)=>(toNat (s.2-s.1)),some λ(u:Int)=>((rB A g r)<=u/\u<=(rC A g r))⟩ .z) (.ae (.j ⟨18087963,[],[(.h 0 0,.ad cY)],[],.f⟩ (.j ⟨49039857307708443467467104868809893875799651909893357599,[],[(.t 185,K)],[],.f⟩ .z .z) (.j ⟨17039385,[],[(.h 0 0,.ad cY)],[],.f⟩ (.j ⟨803469022129495137770981046170581301261101496891396435738651,[],[(.t 199,K)],[],.f⟩ .z .z) (.j ⟨13164036458569648337239753460458804039861886925068638906805911577,[],[(.t 213,K)],[],.f⟩ .z .z)))))))))))) (let akc:=vJ A g r h;let aj_:=i64 (r-g);let aj9:=i64 (g-A);let D:=toNat 1;let aj7:=vI (qU N) A g r h;let I:=Ll A g h;let O:=ml A g r h;let C:=gz A g r h;let z:=rC A g r;let y:=rB A g r;let B:=i64 ((u64 (i64 (A+r)))/2^D);let aj8:=i64 (B+g);let H:=i64 (aj8-C);((aj9==1)=true->((((g<=g/\g<=r/\r<=r))/\(∀(e:Int) (l:Int),let akd:=toNat (l-e);let M:=decide (e<l);let w:=i64 ((u64 (i64 (e+l)))/2^D);let P:=i64 (w+1);let akl:=decide ((rn (h.at' (toNat w)).q (h.at' (toNat A)).q)<0);(g<=e/\e<=l/\l<=r)->((M=true->(((0:Int)<=1/\(1:Int)<=64)/\(((0:Int)<=w/\w<(h.n:Int))/\(((toNat w)<h.n)/\(((0:Int)<=A/\A<(h.n:Int))/\((toNat A)<h.n))))))/\((M=true->((akl=true->((g<=P/\P<=l/\l<=r)/\(toNat (l-P))<akd))/\(akl=false->((g<=e/\e<=w/\w<=r)/\(toNat (w-e))<akd))))/\(M=false->((g<=e/\e<=r)))))))/\(((g<=O/\O<=r))->(((A<=A/\A<=r/\(h.n:Int)=h.n))/\(∀(f:Int) (n:G aU),let Z:=decide (f<(i64 (O-1)));let t:=i64 (f+1);(A<=f/\f<=r/\(n.n:Int)=h.n)->((Z=true->(((0:Int)<=t/\t<(n.n:Int))/\(((toNat t)<n.n)/\(((0:Int)<=f/\f<(n.n:Int))/\(((toNat f)<n.n)/\(((0:Int)<=f/\f<(n.n:Int))/\(((toNat f)<n.n)/\(((0:Int)<=t/\t<(n.n:Int))/\((toNat t)<n.n)))))))))/\(Z=true->((A<=t/\t<=r/\(n.n:Int)=h.n)/\(toNat (r-t))<(toNat (r-f))))))))))/\((aj9==1)=false->(((aj_==1)=true->((((A<=A/\A<=g/\g<=g))/\(∀(i:Int) (j:Int),let aka:=toNat (j-i);let J:=decide (i<j);let v:=i64 ((u64 (i64 (i+j)))/2^D);let Q:=i64 (v+1);let akm:=decide ((rn (h.at' (toNat g)).q (h.at' (toNat v)).q)<0);(A<=i/\i<=j/\j<=g)->((J=true->(((0:Int)<=1/\(1:Int)<=64)/\(((0:Int)<=g/\g<(h.n:Int))/\(((toNat g)<h.n)/\(((0:Int)<=v/\v<(h.n:Int))/\((toNat v)<h.n))))))/\((J=true->(((!akm)=true->((A<=Q/\Q<=j/\j<=g)/\(toNat (j-Q))<aka))/\((!akm)=false->((A<=i/\i<=v/\v<=g)/\(toNat (v-i))<aka))))/\(J=false->((A<=i/\i<=g)))))))/\(((A<=I/\I<=g))->(((A<=g/\g<=g/\(h.n:Int)=h.n))/\(∀(c:Int) (m:G aU),let q:=i64 (c-1);(A<=c/\c<=g/\(m.n:Int)=h.n)->(((decide (c>I))=true->(((0:Int)<=q/\q<(m.n:Int))/\(((toNat q)<m.n)/\(((0:Int)<=c/\c<(m.n:Int))/\(((toNat c)<m.n)/\(((0:Int)<=c/\c<(m.n:Int))/\(((toNat c)<m.n)/\(((0:Int)<=q/\q<(m.n:Int))/\((toNat q)<m.n)))))))))/\((decide (c>I))=true->((A<=q/\q<=g/\(m.n:Int)=h.n)/\(toNat (q-A))<(toNat (c-A))))))))))/\((aj_==1)=false->(((0:Int)<=1/\(1:Int)<=64)/\((((y<=y/\y<=z/\z<=z))/\(∀(b:Int) (d:Int),let akb:=toNat (d-b);let L:=decide (b<d);let p:=i64 ((u64 (i64 (b+d)))/2^D);let R:=i64 (p+1);let F:=i64 ((i64 (aj8-1))-p);let akn:=decide ((rn (h.at' (toNat F)).q (h.at' (toNat p)).q)<0);(y<=b/\b<=d/\d<=z)->((L=true->(((0:Int)<=1/\(1:Int)<=64)/\(((0:Int)<=F/\F<(h.n:Int))/\(((toNat F)<h.n)/\(((0:Int)<=p/\p<(h.n:Int))/\((toNat p)<h.n))))))/\((L=true->(((!akn)=true->((y<=R/\R<=d/\d<=z)/\(toNat (d-R))<akb))/\((!akn)=false->((y<=b/\b<=p/\p<=z)/\(toNat (p-b))<akb))))/\(L=false->((y<=b/\b<=z)))))))/\(((y<=C/\C<=z))->(((BR A g r h)=true->(0<=C/\C<g/\g<H/\H<=(h.n:Int)/\h.n<=900000))/\(((BQ A g r h)=true->(0<=A/\A<C/\C<B/\B<=(akc.n:Int)/\akc.n<=900000/\B-A<(N:Int)))/\((Gh A g r h)=true->(0<=B/\B<H/\H<r/\r<=(aj7.n:Int)/\aj7.n<=900000/\r-B<(N:Int)))))))))))) (b1 1 (aJ agx a2) (ay om (ay axZ b0))) Tryz.func65 (have⟨aGw,aGx,aGy,aGz,aGA,aGB⟩:=Y;⟨(λe5=>⟨⟨Ω,(λe l aF4=>⟨(λW=>⟨Ω,⟨(by have:=an W;have:=half (x:=(e+l)) Ω Ω;omega),⟨(by have:=an W;have:=half (x:=(e+l)) Ω Ω;omega),⟨Ω,Ω⟩⟩⟩⟩),⟨(λX=>⟨(λMk=>(by have:=an X;have:=half (x:=(e+l)) Ω Ω;have:=E ((i64 ((u64 (i64 (e+l)))/2^(toNat 1)))+1);omega)),(λae3=>(by have:=an X;have:=half (x:=(e+l)) Ω Ω;omega))⟩),(λyR=>Ω)⟩⟩)⟩,(λaFX=>⟨Ω,(λf n aF7=>⟨(λo=>⟨(by have:=an o;have:=E ((ml A g r h)-1);have:=E (f+1);omega),⟨(by have:=an o;have:=E ((ml A g r h)-1);have:=E (f+1);omega),⟨(by have:=an o;have:=E ((ml A g r h)-1);omega),⟨(by have:=an o;have:=E ((ml A g r h)-1);omega),⟨(by have:=an o;have:=E ((ml A g r h)-1);omega),⟨(by have:=an o;have:=E ((ml A g r h)-1);omega),⟨(by have:=an o;have:=E ((ml A g r h)-1);have:=E (f+1);omega),(by have:=an o;have:=E ((ml A g r h)-1);have:=E (f+1);omega)⟩⟩⟩⟩⟩⟩⟩),(λasX=>(by have:=an asX;have:=E ((ml A g r h)-1);have:=E (f+1);omega))⟩)⟩)⟩),(λasY=>⟨(λaFI=>⟨⟨Ω,(λi j aF3=>⟨(λaFJ=>⟨Ω,⟨Ω,⟨Ω,⟨(by have:=half (x:=(i+j)) Ω Ω;omega),(by have:=half (x:=(i+j)) Ω Ω;omega)⟩⟩⟩⟩),⟨(λS=>⟨(λaFK=>(by have:=an S;have:=half (x:=(i+j)) Ω Ω;have:=E ((i64 ((u64 (i64 (i+j)))/2^(toNat 1)))+1);omega)),(λaFL=>(by have:=an S;have:=half (x:=(i+j)) Ω Ω;omega))⟩),(λaFM=>Ω)⟩⟩)⟩,(λaFV=>⟨Ω,(λc m aF5=>⟨(λT=>⟨(by have:=an T;have:=E (c-1);omega),⟨(by have:=E (c-1);omega),⟨Ω,⟨Ω,⟨Ω,⟨Ω,⟨(by have:=an T;have:=E (c-1);omega),(by have:=E (c-1);omega)⟩⟩⟩⟩⟩⟩⟩),(λasZ=>(by have:=an asZ;have:=E (c-1);omega))⟩)⟩)⟩),(λaFN=>⟨Ω,⟨⟨(by have:=q4 A g r Ω;omega),(λb d aF6=>⟨(λaFO=>⟨Ω,⟨(by have:=q4 A g r Ω;have:=half (x:=(A+r)) Ω Ω;have:=half (x:=(b+d)) Ω Ω;have:=E ((i64 ((u64 (i64 (A+r)))/2^(toNat 1)))+g);have:=E ((i64 ((i64 ((u64 (i64 (A+r)))/2^(toNat 1)))+g))-1);have:=E ((i64 ((i64 ((i64 ((u64 (i64 (A+r)))/2^(toNat 1)))+g))-1))- (i64 ((u64 (i64 (b+d)))/2^(toNat 1))));omega),⟨(by have:=q4 A g r Ω;have:=half (x:=(A+r)) Ω Ω;have:=half (x:=(b+d)) Ω Ω;have:=E ((i64 ((u64 (i64 (A+r)))/2^(toNat 1)))+g);have:=E ((i64 ((i64 ((u64 (i64 (A+r)))/2^(toNat 1)))+g))-1);have:=E ((i64 ((i64 ((i64 ((u64 (i64 (A+r)))/2^(toNat 1)))+g))-1))- (i64 ((u64 (i64 (b+d)))/2^(toNat 1))));omega),⟨(by have:=q4 A g r Ω;have:=half (x:=(b+d)) Ω Ω;omega),(by have:=q4 A g r Ω;have:=half (x:=(b+d)) Ω Ω;omega)⟩⟩⟩⟩),⟨(λV=>⟨(λaFP=>(by have:=an V;have:=q4 A g r Ω;have:=half (x:=(b+d)) Ω Ω;have:=E ((i64 ((u64 (i64 (b+d)))/2^(toNat 1)))+1);omega)),(λaFQ=>(by have:=an V;have:=q4 A g r Ω;have:=half (x:=(b+d)) Ω Ω;omega))⟩),(λaFR=>Ω)⟩⟩)⟩,(λaFW=>⟨(λaFS=>(by have:=q4 A g r Ω;(try have yS:=aoQ (A:=A) (g:=g) (r:=r) (h:=h) Ω Ψ Ψ);have:=half (x:=(A+r)) Ω Ω;have:=E ((i64 ((u64 (i64 (A+r)))/2^(toNat 1)))+g);have:=E ((i64 ((i64 ((u64 (i64 (A+r)))/2^(toNat 1)))+g))- (gz A g r h));omega)),⟨(λaFT=>(by have:=WH A g r h;(try have o:=ao3 (A:=A) (g:=g) (r:=r) (h:=h) Ω Ψ Ψ);have:=half (x:=(A+r)) Ω Ω;omega)),(λaFU=>(by have:=aAs (qU N) A g r h;(try have asY:=ao4 (A:=A) (g:=g) (r:=r) (h:=h) Ω Ψ Ψ);have:=half (x:=(A+r)) Ω Ω;have:=E ((i64 ((u64 (i64 (A+r)))/2^(toNat 1)))+g);have:=E ((i64 ((i64 ((u64 (i64 (A+r)))/2^(toNat 1)))+g))- (gz A g r h));omega))⟩⟩)⟩⟩)⟩)⟩)) rfl (show([[(aH.ad cY).av (BP (qU N) A g r h)]]:Heap)=[[(aH.ad cY).av (G.cut (BP (qU N) A g r h) h.n)]] by rw[mO])
theorem agF: ∀N,ju Tryz.prog 65 (z7 N).hd
 |0=>let b:=z7 0;cf.ok ⟨_,_,Tryz.func65,rfl,Ξ⟩ Ξ (show akj 65 b from λ(A:Int) (g:Int) (r:Int) h c a=>(by have a:0<=A/\A<g/\g<r/\r<=(h.n:Int)/\h.n<=900000/\r-A<((0:Nat):Int):=a;omega:False).elim)
 |N+1=>cf.ok ⟨_,_,Tryz.func65,rfl,Ξ⟩ Ξ (aCp N (agF N))
end
end Go.Proofs.YtadmdaokcgjdiaaGreatDoor
