import Derived.Test.YtcpfnfkibnjcfaaGreatDoorXh
import Derived.Test.YtcpfnfkibnjcfaaGreatDoorXi
open Go.IntKind (i64 u64 u8)
open Int (toNat)
set_option maxRecDepth 100000
set_option maxHeartbeats 4000000
set_option linter.all false
noncomputable section
namespace Go.Proofs.YtcpfnfkibnjcfaaGreatDoor
open Go Go.RowKit Go.ag
abbrev kr:=ea cn
instance:Inhabited kr:=⟨ea.mX cn⟩
def aaF(C:aq):kr:=(C.a.aM,C.a.up,C.a.b5,C.a.ro,C.a.D,C.a.bl,C.a.e,C.a.lt,C.a.li,C.a.b9,C.a.g9,C.a.hE,C.a.fU,C.a.dW,C.a.fT,C.a.fL,C.a.dx,C.a.fx,C.a.eN,C.a.co,C.a.v0,C.a.v1,C.a.v2,C.a.eL,C.a.ef,C.a.ek,C.a.hX,C.a.q1,C.a.gw,C.a.a_,C.a.bp,C.b.aM,C.b.up,C.b.b5,C.b.ro,C.b.D,C.b.bl,C.b.e,C.b.lt,C.b.li,C.b.b9,C.b.g9,C.b.hE,C.b.fU,C.b.dW,C.b.fT,C.b.fL,C.b.dx,C.b.fx,C.b.eN,C.b.co,C.b.v0,C.b.v1,C.b.v2,C.b.eL,C.b.ef,C.b.ek,C.b.hX,C.b.q1,C.b.gw,C.b.a_,C.b.bp,C.c.aM,C.c.up,C.c.b5,C.c.ro,C.c.D,C.c.bl,C.c.e,C.c.lt,C.c.li,C.c.b9,C.c.g9,C.c.hE,C.c.fU,C.c.dW,C.c.fT,C.c.fL,C.c.dx,C.c.fx,C.c.eN,C.c.co,C.c.v0,C.c.v1,C.c.v2,C.c.eL,C.c.ef,C.c.ek,C.c.hX,C.c.q1,C.c.gw,C.c.a_,C.c.bp,C.a.ws,C.a.a1,C.b.ws,C.b.a1,C.c.ws,C.c.a1,C.s,C.told,C.aU)
def cN(x:kr):aq:=let a:=x.2.2.2.2.2.2.2.2;let b:=a.2.2.2.2.2.2.2.2;let c:=b.2.2.2.2.2.2.2.2;let d:=c.2.2.2.2.2.2.2.2;let e:=d.2.2.2.2.2.2.2.2;let f:=e.2.2.2.2.2.2.2.2;let g:=f.2.2.2.2.2.2.2.2;let h:=g.2.2.2.2.2.2.2.2;let i:=h.2.2.2.2.2.2.2.2;let j:=i.2.2.2.2.2.2.2.2;let k:=j.2.2.2.2.2.2.2.2;let l:=k.2.2.2.2.2.2.2.2;⟨⟨x.1,x.2.1,x.2.2.1,x.2.2.2.1,x.2.2.2.2.1,x.2.2.2.2.2.1,x.2.2.2.2.2.2.1,x.2.2.2.2.2.2.2.1,a.1,a.2.1,a.2.2.1,a.2.2.2.1,a.2.2.2.2.1,a.2.2.2.2.2.1,a.2.2.2.2.2.2.1,a.2.2.2.2.2.2.2.1,b.1,b.2.1,b.2.2.1,b.2.2.2.1,b.2.2.2.2.1,b.2.2.2.2.2.1,b.2.2.2.2.2.2.1,b.2.2.2.2.2.2.2.1,c.1,c.2.1,c.2.2.1,c.2.2.2.1,c.2.2.2.2.1,k.2.2.2.2.2.1,c.2.2.2.2.2.1,c.2.2.2.2.2.2.1,k.2.2.2.2.2.2.1⟩,⟨c.2.2.2.2.2.2.2.1,d.1,d.2.1,d.2.2.1,d.2.2.2.1,d.2.2.2.2.1,d.2.2.2.2.2.1,d.2.2.2.2.2.2.1,d.2.2.2.2.2.2.2.1,e.1,e.2.1,e.2.2.1,e.2.2.2.1,e.2.2.2.2.1,e.2.2.2.2.2.1,e.2.2.2.2.2.2.1,e.2.2.2.2.2.2.2.1,f.1,f.2.1,f.2.2.1,f.2.2.2.1,f.2.2.2.2.1,f.2.2.2.2.2.1,f.2.2.2.2.2.2.1,f.2.2.2.2.2.2.2.1,g.1,g.2.1,g.2.2.1,g.2.2.2.1,k.2.2.2.2.2.2.2.1,g.2.2.2.2.1,g.2.2.2.2.2.1,l.1⟩,⟨g.2.2.2.2.2.2.1,g.2.2.2.2.2.2.2.1,h.1,h.2.1,h.2.2.1,h.2.2.2.1,h.2.2.2.2.1,h.2.2.2.2.2.1,h.2.2.2.2.2.2.1,h.2.2.2.2.2.2.2.1,i.1,i.2.1,i.2.2.1,i.2.2.2.1,i.2.2.2.2.1,i.2.2.2.2.2.1,i.2.2.2.2.2.2.1,i.2.2.2.2.2.2.2.1,j.1,j.2.1,j.2.2.1,j.2.2.2.1,j.2.2.2.2.1,j.2.2.2.2.2.1,j.2.2.2.2.2.2.1,j.2.2.2.2.2.2.2.1,k.1,k.2.1,k.2.2.1,l.2.1,k.2.2.2.1,k.2.2.2.2.1,l.2.2.1⟩,l.2.2.2.1,l.2.2.2.2.1,l.2.2.2.2.2⟩
section
def VA(g:I ah):Nat->Int->I ah->I ah
 |0,_,_=>default
 |k+1,b,f=>cond (decide (b<g.n)) (VA g k (i64 (b+1)) (I.app f (I.lit ([g.at' b.toNat]:List ah)))) f
variable(g:I ah)(o:I ay)
def agc:I ah:=VA g (toNat ((g.n:Int)-0)+1) 0 (B:I ah)
def VB(o:I ay):Nat->Int->I ay->I ay
 |0,_,_=>default
 |k+1,bq,a=>cond (decide (bq<o.n)) (VB o k (i64 (bq+1)) (I.app a (I.lit ([o.at' bq.toNat]:List ay)))) a
def auu:I ay:=VB o (toNat ((o.n:Int)-0)+1) 0 (B:I ay)
def Hw(A:Int):Int:=A
def Hy:I ah:=agc g
def Hz(u:Int):Int:=u
def HA:I ay:=auu o
def ao2:bt:=⟨[.g [a,.ab bx,a,.ab b8]],λA g u o=>⟨⟨none,.agg [c (Hw A),aV 8 ho (Hy g),c (Hz u),aV 7 hP (HA o)]⟩⟩⟩
def azY:bE 24 ao2:=bG Tryz.func24
 λ(A:Int) g x _ (u:Int) o y _=>bJ ⟨.pure,[.cell 2 44],[(.c 0 0,a),(.c 0 1,.ab bx),(.c 0 2,a),(.c 0 3,.ab b8)],⟨[.agg (us 4 [])],[]⟩⟩ (.ae (.ae (.j ⟨14,[],[],[],.f⟩ (.ae (.c6 ⟨1835022,[],[(.h 2 1,bx)],[(.t 20,a),(.h 3 0,.ad bx)],some 0,false,14,[],[(.h 3 0,.ad bx)],λk (s:Int×I ah)=>VA g k s.1 s.2,.f,λ(s:Int×I ah)=>(0<=s.1/\s.1<=(g.n:Int))/\(s.2.n:Int)<=0+(s.1-0),λ(s:Int×I ah)=>toNat ((g.n:Int)-s.1),some λ(r:I ah)=>(r.n:Int)<=0+max ((g.n:Int)-0) 0⟩ .z)) (.j ⟨12,[],[],[],.f⟩ (.ae (.c6 ⟨63050394783186956,[.b 0],[(.h 2 3,b8)],[(.t 55,a),(.h 4 0,.ad b8)],some 2,false,12,[],[(.h 4 0,.ad b8)],λk (s:Int×I ay)=>VB o k s.1 s.2,.f,λ(s:Int×I ay)=>(0<=s.1/\s.1<=(o.n:Int))/\(s.2.n:Int)<=0+(s.1-0),λ(s:Int×I ay)=>toNat ((o.n:Int)-s.1),some λ(r:I ay)=>(r.n:Int)<=0+max ((o.n:Int)-0) 0⟩ .z)) .z)))) ((((0<=(0:Int)/\(0:Int)<=(g.n:Int))/\(0:Int)<=0+((0:Int)-0))/\∀(b:Int) (f:I ah),let h:=decide (b<g.n);let d:=i64 (b+1);((0<=b/\b<=g.n)/\(f.n:Int)<=0+(b-0))->(h=true->((0:Int)<=b/\b<g.n)/\f.n+1<=549755813888)/\(h=true->((0<=d/\d<=g.n)/\(((f.n+1):Nat):Int)<=0+(d-0))/\toNat ((g.n:Int)-d)<toNat ((g.n:Int)-b))/\(h=false->(f.n:Int)<=0+max ((g.n:Int)-0) 0))/\(((agc g).n:Int)<=0+max ((g.n:Int)-0) 0->((0<=(0:Int)/\(0:Int)<=(o.n:Int))/\(0:Int)<=0+((0:Int)-0))/\∀(bq:Int) (c:I ay),let i:=decide (bq<o.n);let e:=i64 (bq+1);((0<=bq/\bq<=o.n)/\(c.n:Int)<=0+(bq-0))->(i=true->((0:Int)<=bq/\bq<o.n)/\c.n+1<=549755813888)/\(i=true->((0<=e/\e<=o.n)/\(((c.n+1):Nat):Int)<=0+(e-0))/\toNat ((o.n:Int)-e)<toNat ((o.n:Int)-bq))/\(i=false->(c.n:Int)<=0+max ((o.n:Int)-0) 0))) (cK (aR XI (aR D2 (aR XJ ba)))) Tryz.func24 (⟨⟨Ω,λb f v=>⟨λj=>⟨have:=al j;Ω,have:=al j;Ω⟩,⟨λm=>have:=al m;have:=E (b+1);Ω,λp=>Ω⟩⟩⟩,λt=>⟨Ω,λbq c w=>⟨λl=>⟨have:=al l;Ω,have:=al l;Ω⟩,⟨λn=>have:=al n;have:=E (bq+1);Ω,λq=>Ω⟩⟩⟩⟩)
end
section
def u0(A g u:Int):Nat->Int->I aw->I aw
 |0,_,_=>default
 |k+1,b,f=>cond (decide (b<u)) (u0 A g u k (i64 (b+1)) (I.cC (I.cC f (toNat (i64 (A+b))) (f.at' (toNat (i64 (g+b))))) (toNat (i64 (g+b))) (f.at' (toNat (i64 (A+b)))))) f
variable(A g u:Int)(o:I aw)
def auN:I aw:=u0 A g u (toNat (u-0)+1) 0 o
def ld:I aw:=auN A g u o
def ajS(A g u:Int)(b:u<=900000): ∀(k:Nat) (v:Int) (s:I aw),0<=v->v<=u->toNat (u-v)<k->(u0 A g u k v s).n=s.n
 |0,_,_,_,_,a=>absurd a (dJ _)
 |k+1,v,s,c,d,a=>by
  rw[u0]
  by_cases e:v<u
  .rw[bm e,au,E (v+1)];exact ajS A g u b k (v+1) _ Ω Ω Ω
  .rw[a8 e,aB]
def aCP(A g u:Int)(o:I aw)(a:0<=A/\0<=g/\0<=u/\A+u<=o.n/\g+u<=o.n/\o.n<=900000):(ld A g u o).n=o.n:=
 ajS A g u Ω _ 0 o (bz _) a.2.2.1 Ω
def ao8:cj:=⟨[.o 0,.v a,.v a,.v a,.kB 22 []],[(.h 0 0,.ad c3)],[[U]],λ(A g u:Int) o=>⟨⟨some (0<=A/\0<=g/\0<=u/\A+u<=o.n/\g+u<=o.n/\o.n<=900000),[],[[(aG.ad c3).av (I.cut (ld A g u o) o.n)]]⟩⟩⟩
def az_:er 100 ao8:=ev Tryz.func100
 λ(A g u:Int) o z j=>have l:=I.lI (aCP A g u o j);Ag (rs:=[]) (H':=[[(aG.ad c3).av (ld A g u o)]]) (ep ⟨.heap,[],[(.h 0 0,.ad c3)],⟨[],[[U]]⟩⟩ (.ae (.c6 ⟨1039,[],[],[(.t 10,a),(.h 0 0,.ad c3)],some 0,false,0,[],[(.h 0 0,.ad c3)],λk (s:Int×I aw)=>u0 A g u k s.1 s.2,.f,λ(s:Int×I aw)=>(0<=s.1/\s.1<=u)/\(s.2.n:Int)=o.n,λ(s:Int×I aw)=>toNat (u-s.1),some λ(r:I aw)=>(r.n:Int)=o.n⟩ .z)) (((0<=(0:Int)/\(0:Int)<=u)/\(o.n:Int)=o.n)/\∀(b:Int) (f:I aw),let i:=decide (b<u);let h:=i64 (b+1);let e:=i64 (A+b);let d:=i64 (g+b);((0<=b/\b<=u)/\(f.n:Int)=o.n)->(i=true->((0:Int)<=d/\d<f.n)/\toNat d<f.n/\((0:Int)<=e/\e<f.n)/\toNat e<f.n/\((0:Int)<=e/\e<f.n)/\toNat e<f.n/\((0:Int)<=d/\d<f.n)/\toNat d<f.n)/\(i=true->((0<=h/\h<=u)/\(f.n:Int)=o.n)/\toNat (u-h)<toNat (u-b))/\(i=false->(f.n:Int)=o.n)) (bZ 1 ba bY) Tryz.func100 (have⟨q,t,v,w,x,y⟩:=j;⟨Ω,λb f p=>⟨λc=>⟨have:=al c;have:=E (g+b);Ω,⟨have:=al c;have:=E (g+b);Ω,⟨have:=al c;have:=E (A+b);Ω,⟨have:=al c;have:=E (A+b);Ω,⟨have:=al c;have:=E (A+b);Ω,⟨have:=al c;have:=E (A+b);Ω,⟨have:=al c;have:=E (g+b);Ω,have:=al c;have:=E (g+b);Ω⟩⟩⟩⟩⟩⟩⟩,⟨λm=>have:=al m;have:=E (b+1);Ω,λn=>Ω⟩⟩⟩)) rfl (show([[(aG.ad c3).av (ld A g u o)]]:Heap)=[[(aG.ad c3).av (I.cut (ld A g u o) o.n)]] by rw[l])
end
section
def nc(g:Int):Nat->Int->I aw->Int->Int×I aw
 |0,_,_,_=>default
 |k+1,b,f,bk=>cond (b !=bk) (cond (decide (b>bk)) (nc g k (i64 (b-bk)) (I.cut (ld (i64 (g-b)) g bk f) f.n) bk) (nc g k b (I.cut (ld (i64 (g-b)) (i64 (i64 (g+bk)-b)) b f) f.n) (i64 (bk-b)))) (b,f)
variable(A g u:Int)(o:I aw)
def uZ:Int×I aw:=nc g (toNat (i64 (g-A)+i64 (u-g))+1) (i64 (g-A)) o (i64 (u-g))
def uY:I aw:=I.cut (ld (i64 (g- (uZ A g u o).1)) g (uZ A g u o).1 (uZ A g u o).2) (uZ A g u o).2.n
def Yz(A g u:Int)(a:0<=A/\A<g/\g<u/\u<=900000): ∀(k:Nat) (i:Int) (s:I aw) (j:Int),1<=i->i<=g-A->1<=j->j<=u-g->toNat (i+j)<k->(nc g k i s j).2.n=s.n
 |0,_,_,_,_,_,_,_,b=>absurd b (dJ _)
 |k+1,i,s,j,aL,aO,d,f,b=>by
  rw[nc]
  by_cases e:i=j
  .rw[show(i !=j)=false by simp [e],aB]
  .rw[show(i !=j)=true by simp [e],au]
   by_cases c:i>j
   .rw[bm c,au,E (i-j)];exact Yz A g u a k (i-j) _ j Ω Ω d f Ω
   .rw[a8 c,aB,E (j-i)];exact Yz A g u a k i _ (j-i) aL aO Ω Ω Ω
def aCO(A g u:Int)(o:I aw)(a:0<=A/\A<g/\g<u/\u<=o.n/\o.n<=900000):(uY A g u o).n=o.n:=by
 show(uZ A g u o).2.n=o.n;unfold uZ;rw[E (g-A),E (u-g)];exact Yz A g u ⟨a.1,a.2.1,a.2.2.1,Ω⟩ _ _ _ _ Ω Ω Ω Ω Ω
def ao7:cj:=⟨[.o 0,.v a,.v a,.v a,.kB 22 []],[(.h 0 0,.ad c3)],[[U]],λ(A g u:Int) o=>⟨⟨some (0<=A/\A<g/\g<u/\u<=o.n/\o.n<=900000),[],[[(aG.ad c3).av (I.cut (uY A g u o) o.n)]]⟩⟩⟩
def az9:er 86 ao7:=ev Tryz.func86
 λ(A g u:Int) o M j=>have t:=I.lI (aCO A g u o j);Ag (rs:=[]) (H':=[[(aG.ad c3).av (uY A g u o)]]) (ep ⟨.heap,[],[(.h 0 0,.ad c3)],⟨[],[[U]]⟩⟩ (.ae (.ae (.j ⟨1045,[],[],[],.f⟩ (.c6 ⟨3093,[],[],[(.t 10,a),(.h 0 0,.ad c3),(.t 11,a)],some 0,false,1045,[],[(.t 10,a),(.h 0 0,.ad c3)],λk (s:Int×I aw×Int)=>nc g k s.1 s.2.1 s.2.2,.f,λ(s:Int×I aw×Int)=>(1<=s.1/\s.1<=g-A)/\(1<=s.2.2/\s.2.2<=u-g)/\(s.2.1.n:Int)=o.n,λ(s:Int×I aw×Int)=>toNat (s.1+s.2.2),some λ(r:Int×I aw)=>(1<=r.1/\r.1<=g-A/\r.1<=u-g)/\(r.2.n:Int)=o.n⟩ .z) .z))) (let p:=i64 (u-g);let n:=i64 (g-A);let c:=uZ A g u o;let m:=i64 (g-c.1);(((1<=n/\n<=g-A)/\(1<=p/\p<=u-g)/\(o.n:Int)=o.n)/\∀(b:Int) (f:I aw) (bk:Int),let q:=toNat (b+bk);let l:=i64 (i64 (g+bk)-b);let e:=decide (b>bk);let i:=i64 (bk-b);let h:=i64 (b-bk);let d:=i64 (g-b);((1<=b/\b<=g-A)/\(1<=bk/\bk<=u-g)/\(f.n:Int)=o.n)->((b !=bk)=true->(e=true->0<=d/\0<=g/\0<=bk/\d+bk<=f.n/\g+bk<=f.n/\f.n<=900000)/\(e=false->0<=d/\0<=l/\0<=b/\d+b<=f.n/\l+b<=f.n/\f.n<=900000))/\((b !=bk)=true->(e=true->((1<=h/\h<=g-A)/\(1<=bk/\bk<=u-g)/\(f.n:Int)=o.n)/\toNat (h+bk)<q)/\(e=false->((1<=b/\b<=g-A)/\(1<=i/\i<=u-g)/\(f.n:Int)=o.n)/\toNat (b+i)<q))/\((b !=bk)=false->(1<=b/\b<=g-A/\b<=u-g)/\(f.n:Int)=o.n))/\((1<=c.1/\c.1<=g-A/\c.1<=u-g)/\(c.2.n:Int)=o.n->0<=m/\0<=g/\0<=c.1/\m+c.1<=(c.2.n:Int)/\g+c.1<=(c.2.n:Int)/\c.2.n<=900000)) (bZ 1 ba (az az_ bY)) Tryz.func86 (have⟨G,H,J,K,L⟩:=j;⟨⟨have:=E (g-A);have:=E (u-g);Ω,λb f bk F=>⟨λz=>⟨λB=>have:=E (g-b);Ω,λC=>have:=E (g-b);have:=E (g+bk);have:=E (i64 (g+bk)-b);Ω⟩,⟨λv=>⟨λw=>have:=al w;have:=E (b-bk);Ω,λx=>have:=bne_iff_ne.1 v;have:=hy x;have:=E (bk-b);Ω⟩,λy=>have:=bP y;Ω⟩⟩⟩,λD=>have:=E (g- (uZ A g u o).1);Ω⟩)) rfl (show([[(aG.ad c3).av (uY A g u o)]]:Heap)=[[(aG.ad c3).av (I.cut (uY A g u o) o.n)]] by rw[t])
end
section
variable(A dS g:Int)(u:I aw)
def auJ:Bool:=cond (decide (dS>A)) true false
def rk(a:I aw):Bool:=cond (decide (dS>A)) (decide (p6 (a.at' dS.toNat).r (a.at' (toNat (i64 (dS-1)))).r<0)) false
def xi(A:Int):Nat->Int->I aw->Int×I aw×Int×Int×Bool×Bool×Bool
 |0,_,_=>default
 |k+1,dS,a=>cond (rk A dS a) (xi A k (i64 (dS-1)) (I.cC (I.cC a dS.toNat (a.at' (toNat (i64 (dS-1))))) (toNat (i64 (dS-1))) (a.at' dS.toNat))) (dS,a,dS,A,decide (dS>A),auJ A dS,rk A dS a)
def Ds(b:Int)(f:I aw):Int×I aw×Int×Int×Bool×Bool×Bool:=xi A (toNat (b-A)+1) b f
def xh(A g:Int):Nat->Int->I aw->I aw
 |0,_,_=>default
 |k+1,b,f=>cond (decide (b<g)) (xh A g k (i64 (b+1)) (Ds A b f).2.1) f
def ML:I aw:=xh A g (toNat (g- (i64 (A+1)))+1) (i64 (A+1)) u
def p_:I aw:=ML A g u
def Yy(A:Int): ∀(k:Nat) (v:Int) (s:I aw),v<=900000-> -1<=A->toNat (v-A)<k->(xi A k v s).2.1.n=s.n
 |0,_,_,_,_,a=>absurd a (dJ _)
 |k+1,v,s,d,b,a=>by
  rw[xi]
  cases e:rk A v s
  .rw[aB]
  .have f:v>A:=by
    unfold rk at e
    by_cases c:v>A
    .exact c
    .rw[a8 c]at e;cases e
   rw[au,E (v-1)];exact Yy A k (v-1) _ Ω b Ω
def aB0(A v:Int)(s:I aw):(v<=900000/\ -1<=A)->(Ds A v s).2.1.n=s.n:=λh=>Yy A (toNat (v-A)+1) v s h.1 h.2 Ω
def ajR(A g:Int)(h:0<=A/\g<=900000): ∀(k:Nat) (v:Int) (s:I aw),A<=v->v<=900001->toNat (g-v)<k->(xh A g k v s).n=s.n
 |0,_,_,_,_,a=>absurd a (dJ _)
 |k+1,v,s,c,d,a=>by
  rw[xh]
  by_cases e:v<g
  .rw[bm e,au,E (v+1)];have b:=Yy A (toNat (v-A)+1) v s Ω Ω Ω;exact(ajR A g h k (v+1) _ Ω Ω Ω).trans b
  .rw[a8 e,aB]
def aCM(A g:Int)(u:I aw)(a:0<=A/\A<=g/\g<=u.n/\u.n<=900000):(p_ A g u).n=u.n:=by
 show(ML A g u).n=u.n;unfold ML;rw[E (A+1)];exact ajR A g ⟨a.1,Ω⟩ _ _ _ Ω Ω Ω
def ao6:cj:=⟨[.o 0,.v a,.v a,.kB 22 []],[(.h 0 0,.ad c3)],[[U]],λ(A g:Int) u=>⟨⟨some (0<=A/\A<=g/\g<=u.n/\u.n<=900000),[],[[(aG.ad c3).av (I.cut (p_ A g u) u.n)]]⟩⟩⟩
def az6:er 63 ao6:=ev Tryz.func63
 λ(A g:Int) u G p=>have q:=I.lI (aCM A g u p);Ag (rs:=[]) (H':=[[(aG.ad c3).av (p_ A g u)]]) (ep ⟨.heap,[],[(.h 0 0,.ad c3)],⟨[],[[U]]⟩⟩ (.ae (.c6 ⟨271,[],[],[(.t 8,a),(.h 0 0,.ad c3)],some 0,false,0,[],[(.h 0 0,.ad c3)],λk (s:Int×I aw)=>xh A g k s.1 s.2,.f,λ(s:Int×I aw)=>(A+1<=s.1/\(s.1<=g\/s.1=A+1))/\(s.2.n:Int)=u.n,λ(s:Int×I aw)=>toNat (g-s.1),none⟩ (.ae (.j ⟨17183961871,[],[],[],.f⟩ (.ae (.c6 ⟨160527,[],[],[(.t 9,a),(.h 0 0,.ad c3)],some 2,false,17183961871,[],[(.t 9,a),(.h 0 0,.ad c3),(.t 18,a),(.t 19,a),(.t 20,l),(.t 21,l),(.t 34,l)],λk (s:Int×I aw)=>xi A k s.1 s.2,.f,λ(s:Int×I aw)=>(A<=s.1/\s.1<g)/\(s.2.n:Int)=u.n,λ(s:Int×I aw)=>toNat (s.1-A),some λ(r:Int×I aw×Int×Int×Bool×Bool×Bool)=>(r.2.1.n:Int)=u.n⟩ (.s (.j ⟨17183961871,[],[(.t 21,l),(.t 34,l)],[],.f⟩ .z .z) .z))) .z)))) (let i:=i64 (A+1);((A+1<=i/\(i<=g\/i=A+1))/\(u.n:Int)=u.n)/\∀(b:Int) (f:I aw),let e:=i64 (b+1);((A+1<=b/\(b<=g\/b=A+1))/\(f.n:Int)=u.n)->(decide (b<g)=true->((A<=b/\b<g)/\(f.n:Int)=u.n)/\∀(dS:Int) (c:I aw),let j:=toNat dS;let h:=rk A dS c;let d:=i64 (dS-1);let m:=toNat d;((A<=dS/\dS<g)/\(c.n:Int)=u.n)->((decide (dS>A)=true->((0:Int)<=dS/\dS<c.n)/\j<c.n/\((0:Int)<=d/\d<c.n)/\m<c.n)/\(h=true->((0:Int)<=d/\d<c.n)/\m<c.n/\((0:Int)<=dS/\dS<c.n)/\j<c.n/\((0:Int)<=dS/\dS<c.n)/\j<c.n/\((0:Int)<=d/\d<c.n)/\m<c.n))/\(h=true->((A<=d/\d<g)/\(c.n:Int)=u.n)/\toNat (d-A)<toNat (dS-A))/\(h=false->(c.n:Int)=u.n))/\(decide (b<g)=true->((A+1<=e/\(e<=g\/e=A+1))/\(((Ds A b f).2.1.n:Nat):Int)=u.n)/\toNat (g-e)<toNat (g-b))) (bZ 1 (aR air ba) bY) Tryz.func63 (have⟨B,C,D,F⟩:=p;⟨have:=E (A+1);Ω,λb f y=>⟨λn=>⟨have:=al n;Ω,λdS c z=>⟨⟨λt=>⟨Ω,⟨Ω,⟨have:=al t;have:=E (dS-1);Ω,have:=E (dS-1);Ω⟩⟩⟩,λo=>⟨by have:=o;(try simp [rk]at this);have:=E (dS-1);omega,⟨have:=E (dS-1);Ω,⟨Ω,⟨Ω,⟨Ω,⟨Ω,⟨by have:=o;(try simp [rk]at this);have:=E (dS-1);omega,have:=E (dS-1);Ω⟩⟩⟩⟩⟩⟩⟩⟩,⟨λv=>by have:=v;(try simp [rk]at this);have:=E (dS-1);omega,λw=>by have:=al n;have:=w;simp [rk]at this;omega⟩⟩⟩,λx=>have:=al x;have:=aB0 A b f;have:=E (b+1);Ω⟩⟩)) rfl (show([[(aG.ad c3).av (p_ A g u)]]:Heap)=[[(aG.ad c3).av (I.cut (p_ A g u) u.n)]] by rw[q])
end
section
def o4(A:Int)(o:I aw):Nat->Int->Int->Int
 |0,_,_=>default
 |k+1,b,f=>cond (decide (b<f)) (cond (decide (p6 (o.at' (toNat (i64 ((u64 (i64 (b+f)))/2^(toNat 1))))).r (o.at' A.toNat).r<0)) (o4 A o k (i64 (i64 ((u64 (i64 (b+f)))/2^(toNat 1))+1)) f) (o4 A o k b (i64 ((u64 (i64 (b+f)))/2^(toNat 1))))) b
variable(f:Int->Int->Int->I aw->I aw)(A g u:Int)(o:I aw)
def kJ:Int:=o4 A o (toNat (u-g)+1) g u
def xl(A g u:Int)(o:I aw):Nat->Int->I aw->I aw
 |0,_,_=>default
 |k+1,a,b=>cond (decide (a<i64 (kJ A g u o-1))) (xl A g u o k (i64 (a+1)) (I.cC (I.cC b a.toNat (b.at' (toNat (i64 (a+1))))) (toNat (i64 (a+1))) (b.at' a.toNat))) b
def agh:I aw:=xl A g u o (toNat (u-A)+1) A o
def qa(g:Int)(o:I aw):Nat->Int->Int->Int
 |0,_,_=>default
 |k+1,a,b=>cond (decide (a<b)) (cond (!(decide (p6 (o.at' g.toNat).r (o.at' (toNat (i64 ((u64 (i64 (a+b)))/2^(toNat 1))))).r<0))) (qa g o k (i64 (i64 ((u64 (i64 (a+b)))/2^(toNat 1))+1)) b) (qa g o k a (i64 ((u64 (i64 (a+b)))/2^(toNat 1))))) a
def Du:Int:=qa g o (toNat (g-A)+1) A g
def xk(A g:Int)(o:I aw):Nat->Int->I aw->I aw
 |0,_,_=>default
 |k+1,a,b=>cond (decide (a>(Du A g o))) (xk A g o k (i64 (a-1)) (I.cC (I.cC b a.toNat (b.at' (toNat (i64 (a-1))))) (toNat (i64 (a-1))) (b.at' a.toNat))) b
def agi:I aw:=xk A g o (toNat (g-A)+1) g o
def rl:Int:=cond (decide (g>(i64 ((u64 (i64 (A+u)))/2^(toNat 1))))) (i64 (i64 (i64 ((u64 (i64 (A+u)))/2^(toNat 1))+g)-u)) A
def rm:Int:=cond (decide (g>(i64 ((u64 (i64 (A+u)))/2^(toNat 1))))) (i64 ((u64 (i64 (A+u)))/2^(toNat 1))) g
def sR(A g u:Int)(o:I aw):Nat->Int->Int->Int
 |0,_,_=>default
 |k+1,a,b=>cond (decide (a<b)) (cond (!(decide (p6 (o.at' (toNat (i64 (i64 (i64 (i64 ((u64 (i64 (A+u)))/2^(toNat 1))+g)-1)- (i64 ((u64 (i64 (a+b)))/2^(toNat 1))))))).r (o.at' (toNat (i64 ((u64 (i64 (a+b)))/2^(toNat 1))))).r<0))) (sR A g u o k (i64 (i64 ((u64 (i64 (a+b)))/2^(toNat 1))+1)) b) (sR A g u o k a (i64 ((u64 (i64 (a+b)))/2^(toNat 1))))) a
def gE:Int:=let b:=rl A g u;let a:=rm A g u;sR A g u o (toNat (a-b)+1) b a
def zL:Bool:=cond (decide (gE A g u o<g)) (decide (g<i64 (i64 (i64 ((u64 (i64 (A+u)))/2^(toNat 1))+g)- (gE A g u o)))) false
def qc:I aw:=cond (zL A g u o) (I.cut (uY (gE A g u o) g (i64 (i64 (i64 ((u64 (i64 (A+u)))/2^(toNat 1))+g)- (gE A g u o))) o) o.n) o
def zK:Bool:=cond (decide (A<gE A g u o)) (decide (gE A g u o<i64 ((u64 (i64 (A+u)))/2^(toNat 1)))) false
def qb:I aw:=cond (zK A g u o) (I.cut (f A (gE A g u o) (i64 ((u64 (i64 (A+u)))/2^(toNat 1))) (qc A g u o)) (qc A g u o).n) (qc A g u o)
def Dt:Bool:=cond (decide (i64 ((u64 (i64 (A+u)))/2^(toNat 1))<i64 (i64 (i64 ((u64 (i64 (A+u)))/2^(toNat 1))+g)- (gE A g u o)))) (decide (i64 (i64 (i64 ((u64 (i64 (A+u)))/2^(toNat 1))+g)- (gE A g u o))<u)) false
def xj:I aw:=cond (i64 (g-A)==1) (agh A g u o) (cond (i64 (u-g)==1) (agi A g o) (cond (Dt A g u o) (I.cut (f (i64 ((u64 (i64 (A+u)))/2^(toNat 1))) (i64 (i64 (i64 ((u64 (i64 (A+u)))/2^(toNat 1))+g)- (gE A g u o))) u (qb f A g u o)) (qb f A g u o).n) (qb f A g u o)))
def qO(A g u:Int)(h:0<=A/\A<g/\g<u/\u<=900000):(g<=(A+u)/2\/(rl A g u=(A+u)/2+g-u/\rm A g u=(A+u)/2))/\((A+u)/2<g\/(rl A g u=A/\rm A g u=g)):=by
 have hh:=half (x:=A+u) Ω Ω;have e1:=E ((A+u)/2+g);have fq:=E ((A+u)/2+g-u);unfold rl rm;rw[hh,e1,fq]
 by_cases c:g>(A+u)/2
 .rw[bm c];exact⟨.inr ⟨rfl,rfl⟩,.inl Ω⟩
 .rw[a8 c];exact⟨.inl Ω,.inr ⟨rfl,rfl⟩⟩
def aq1{A g u:Int}{o:I aw}(h:0<=A/\A<g/\g<u/\u<=900000)(d:(rl A g u)<=gE A g u o/\gE A g u o<=rm A g u)(a:zL A g u o=true):gE A g u o<g/\g<(A+u)/2+g-gE A g u o:=by
 have b:=qO A g u h;have hh:=half (x:=A+u) Ω Ω;have e1:=E ((A+u)/2+g);have fq:=E ((A+u)/2+g-gE A g u o);unfold zL at a;rw[hh,e1,fq]at a
 by_cases c:gE A g u o<g
 .rw[bm c,au]at a;exact⟨c,al a⟩
 .rw[a8 c]at a;cases a
def arh{A g u:Int}{o:I aw}(h:0<=A/\A<g/\g<u/\u<=900000)(b:(rl A g u)<=gE A g u o/\gE A g u o<=rm A g u)(a:zK A g u o=true):A<gE A g u o/\gE A g u o<(A+u)/2:=by
 have hh:=half (x:=A+u) Ω Ω;unfold zK at a;rw[hh]at a
 by_cases c:A<gE A g u o
 .rw[bm c,au]at a;exact⟨c,al a⟩
 .rw[a8 c]at a;cases a
def ari{A g u:Int}{o:I aw}(h:0<=A/\A<g/\g<u/\u<=900000)(d:(rl A g u)<=gE A g u o/\gE A g u o<=rm A g u)(a:Dt A g u o=true):(A+u)/2<(A+u)/2+g-gE A g u o/\(A+u)/2+g-gE A g u o<u:=by
 have b:=qO A g u h;have hh:=half (x:=A+u) Ω Ω;have e1:=E ((A+u)/2+g);have fq:=E ((A+u)/2+g-gE A g u o);unfold Dt at a;rw[hh,e1,fq]at a
 by_cases c:(A+u)/2<(A+u)/2+g-gE A g u o
 .rw[bm c,au]at a;exact⟨c,al a⟩
 .rw[a8 c]at a;cases a
def Ys(A:Int)(o:I aw)(c a:Int)(g:0<=c)(hh:a<=900000): ∀(k:Nat) (i j:Int),c<=i->i<=j->j<=a->toNat (j-i)<k->c<=o4 A o k i j/\o4 A o k i j<=a
 |0,_,_,_,_,_,f=>absurd f (dJ _)
 |k+1,i,j,d,l,h,f=>by
  rw[o4,half (x:=i+j) Ω Ω]
  by_cases e:i<j
  .rw[bm e,au,E ((i+j)/2+1)];generalize decide (p6 _ _<0)=b
   cases b
   .exact Ys A o c a g hh k i ((i+j)/2) d Ω Ω Ω
   .exact Ys A o c a g hh k ((i+j)/2+1) j Ω Ω h Ω
  .rw[a8 e,aB];exact⟨d,Ω⟩
def Yu(g:Int)(o:I aw)(c a:Int)(h:0<=c)(hh:a<=900000): ∀(k:Nat) (i j:Int),c<=i->i<=j->j<=a->toNat (j-i)<k->c<=qa g o k i j/\qa g o k i j<=a
 |0,_,_,_,_,_,f=>absurd f (dJ _)
 |k+1,i,j,d,m,l,f=>by
  rw[qa,half (x:=i+j) Ω Ω]
  by_cases e:i<j
  .rw[bm e,au,E ((i+j)/2+1)];generalize (!(decide (p6 _ _<0)))=b
   cases b
   .exact Yu g o c a h hh k i ((i+j)/2) d Ω Ω Ω
   .exact Yu g o c a h hh k ((i+j)/2+1) j Ω Ω l Ω
  .rw[a8 e,aB];exact⟨d,Ω⟩
def ajN(A g u:Int)(o:I aw)(b:0<=kJ A g u o/\kJ A g u o<=u)(c:u<=900000): ∀(k:Nat) (v:Int) (s:I aw),0<=v->v<=900001->toNat (u-v)<k->(xl A g u o k v s).n=s.n
 |0,_,_,_,_,a=>absurd a (dJ _)
 |k+1,v,s,d,f,a=>by
  rw[xl,E (kJ A g u o-1)]
  by_cases e:v<kJ A g u o-1
  .rw[bm e,au,E (v+1)];exact ajN A g u o b c k (v+1) _ Ω Ω Ω
  .rw[a8 e,aB]
def ajO(A g:Int)(o:I aw)(c:A<=Du A g o)(b:0<=A): ∀(k:Nat) (v:Int) (s:I aw),v<=900001->toNat (v-A)<k->(xk A g o k v s).n=s.n
 |0,_,_,_,a=>absurd a (dJ _)
 |k+1,v,s,d,a=>by
  rw[xk]
  by_cases e:v>Du A g o
  .rw[bm e,au,E (v-1)];exact ajO A g o c b k (v-1) _ Ω Ω
  .rw[a8 e,aB]
def Yq(A g u:Int)(o:I aw):(qc A g u o).n=o.n:=by
 unfold qc
 cases zL A g u o<;>rfl
def aCx(f:Int->Int->Int->I aw->I aw)(A g u:Int)(o:I aw):(qb f A g u o).n=o.n:=by
 unfold qb
 cases zK A g u o
 .exact Yq A g u o
 .exact Yq A g u o
def aCN(f:Int->Int->Int->I aw->I aw)(A g u:Int)(o:I aw){Q:Prop}(e:0<=A/\A<g/\g<u/\u<=o.n/\o.n<=900000/\Q):(xj f A g u o).n=o.n:=by
 obtain⟨b,i,j,k,l,_⟩:=e;have q1:=Ys A o g u Ω Ω (toNat (u-g)+1) g u (bz _) Ω (bz _) Ω;have h:=Yu g o A g Ω Ω (toNat (g-A)+1) A g (bz _) Ω (bz _) Ω;have c:(agh A g u o).n=o.n:=ajN A g u o ⟨by show 0<=o4 A o _ g u;omega,q1.2⟩ Ω _ A o b Ω Ω;have d:(agi A g o).n=o.n:=ajO A g o h.1 b _ g o Ω Ω;have bo:(qc A g u o).n=o.n:=by
  unfold qc
  cases zL A g u o<;>rfl
 have a:(qb f A g u o).n=o.n:=by
  unfold qb
  cases zK A g u o
  .exact bo
  .exact bo
 unfold xj
 cases (i64 (g-A)==1)
 .cases (i64 (u-g)==1)
  .cases Dt A g u o
   .exact a
   .exact a
  .exact d
 .exact c
def pA:Nat->Int->Int->Int->I aw->I aw
 |0=>λ_ _ _ s=>s
 |N+1=>xj (pA N)
def BB(N:Nat):cj:=⟨[.o 0,.v a,.v a,.v a,.kB 22 []],[(.h 0 0,.ad c3)],[[U]],λ(A g u:Int) o=>⟨⟨some (0<=A/\A<g/\g<u/\u<=o.n/\o.n<=900000/\u-A<(N:Int)),[],[[(aG.ad c3).av (I.cut (pA N A g u o) o.n)]]⟩⟩⟩
def aEv(N:Nat)(pe:j9 Tryz.prog 64 (BB N).hL):Ff Tryz.prog 64 (BB (N+1)) _ ((BB (N+1)).eO.flatMap dV.cD) (BB (N+1)).f []:=
 λ(A g u:Int) o aCD Y=>have nB:=I.lI (aCN (pA N) A g u o Y);Ag (rs:=[]) (H':=[[(aG.ad c3).av (xj (pA N) A g u o)]]) (ep ⟨.heap,[],[(.h 0 0,.ad c3)],⟨[],[[U]]⟩⟩ (.s (.ae (.s (.ae (.ae (.j ⟨1055,[],[],[],.f⟩ (.c6 ⟨3103,[],[],[(.t 10,a),(.t 11,a)],some 0,false,1055,[],[(.t 10,a)],λk (s:Int×Int)=>o4 A o k s.1 s.2,.f,λ(s:Int×Int)=>g<=s.1/\s.1<=s.2/\s.2<=u,λ(s:Int×Int)=>toNat (s.2-s.1),some λ(r:Int)=>g<=r/\r<=u⟩ .z) (.j ⟨31,[],[],[],.f⟩ (.ae (.c6 ⟨9247,[],[],[(.t 13,a),(.h 0 0,.ad c3)],some 2,false,31,[],[(.h 0 0,.ad c3)],λk (s:Int×I aw)=>xl A g u o k s.1 s.2,.f,λ(s:Int×I aw)=>A<=s.1/\s.1<=u/\(s.2.n:Int)=o.n,λ(s:Int×I aw)=>toNat (u-s.1),none⟩ .z)) .z)))) .z)) (.s (.ae (.s (.ae (.ae (.j ⟨16415,[],[],[],.f⟩ (.c6 ⟨49183,[],[],[(.t 14,a),(.t 15,a)],some 4,false,16415,[],[(.t 14,a)],λk (s:Int×Int)=>qa g o k s.1 s.2,.f,λ(s:Int×Int)=>A<=s.1/\s.1<=s.2/\s.2<=g,λ(s:Int×Int)=>toNat (s.2-s.1),some λ(r:Int)=>A<=r/\r<=g⟩ .z) (.j ⟨31,[],[],[],.f⟩ (.ae (.c6 ⟨147487,[],[],[(.t 17,a),(.h 0 0,.ad c3)],some 6,false,31,[],[(.h 0 0,.ad c3)],λk (s:Int×I aw)=>xk A g o k s.1 s.2,.f,λ(s:Int×I aw)=>A<=s.1/\s.1<=g/\(s.2.n:Int)=o.n,λ(s:Int×I aw)=>toNat (s.1-A),none⟩ .z)) .z)))) .z)) (.ae (.ae (.ae (.j ⟨3932191,[],[(.t 20,a),(.t 21,a)],[],.f⟩ .z (.ae (.j ⟨1835039,[],[],[],.f⟩ (.c6 ⟨8126495,[],[],[(.t 20,a),(.t 21,a)],some 8,false,1835039,[],[(.t 20,a)],λk (s:Int×Int)=>sR A g u o k s.1 s.2,.f,λ(s:Int×Int)=>(rl A g u)<=s.1/\s.1<=s.2/\s.2<=rm A g u,λ(s:Int×Int)=>toNat (s.2-s.1),some λ(r:Int)=>(rl A g u)<=r/\r<=rm A g u⟩ .z) (.ae (.j ⟨18087963,[],[(.h 0 0,.ad c3)],[],.f⟩ (.j ⟨49039857307708443467467104868809893875799651909893357599,[],[(.t 185,l)],[],.f⟩ .z .z) (.j ⟨17039385,[],[(.h 0 0,.ad c3)],[],.f⟩ (.j ⟨803469022129495137770981046170581301261101496891396435738651,[],[(.t 199,l)],[],.f⟩ .z .z) (.j ⟨13164036458569648337239753460458804039861886925068638906805911577,[],[(.t 213,l)],[],.f⟩ .z .z)))))))))))) (let amu:=qc A g u o;let amr:=i64 (u-g);let amq:=i64 (g-A);let F:=toNat 1;let amo:=qb (pA N) A g u o;let J:=Du A g o;let O:=kJ A g u o;let D:=gE A g u o;let B:=rm A g u;let z:=rl A g u;let C:=i64 ((u64 (i64 (A+u)))/2^F);let amp:=i64 (C+g);let H:=i64 (amp-D);((amq==1)=true->((g<=g/\g<=u/\u<=u)/\∀(b f:Int),let amv:=toNat (f-b);let M:=decide (b<f);let y:=i64 ((u64 (i64 (b+f)))/2^F);let P:=i64 (y+1);let amD:=decide (p6 (o.at' y.toNat).r (o.at' A.toNat).r<0);(g<=b/\b<=f/\f<=u)->(M=true->((0:Int)<=1/\(1:Int)<=64)/\((0:Int)<=y/\y<o.n)/\toNat y<o.n/\((0:Int)<=A/\A<o.n)/\toNat A<o.n)/\(M=true->(amD=true->(g<=P/\P<=f/\f<=u)/\toNat (f-P)<amv)/\(amD=false->(g<=b/\b<=y/\y<=u)/\toNat (y-b)<amv))/\(M=false->g<=b/\b<=u))/\(g<=O/\O<=u->(A<=A/\A<=u/\(o.n:Int)=o.n)/\∀(h:Int) (n:I aw),let Z:=decide (h<i64 (O-1));let v:=i64 (h+1);(A<=h/\h<=u/\(n.n:Int)=o.n)->(Z=true->((0:Int)<=v/\v<n.n)/\toNat v<n.n/\((0:Int)<=h/\h<n.n)/\toNat h<n.n/\((0:Int)<=h/\h<n.n)/\toNat h<n.n/\((0:Int)<=v/\v<n.n)/\toNat v<n.n)/\(Z=true->(A<=v/\v<=u/\(n.n:Int)=o.n)/\toNat (u-v)<toNat (u-h))))/\((amq==1)=false->((amr==1)=true->((A<=A/\A<=g/\g<=g)/\∀(i j:Int),let ams:=toNat (j-i);let K:=decide (i<j);let w:=i64 ((u64 (i64 (i+j)))/2^F);let Q:=i64 (w+1);let amE:=decide (p6 (o.at' g.toNat).r (o.at' w.toNat).r<0);(A<=i/\i<=j/\j<=g)->(K=true->((0:Int)<=1/\(1:Int)<=64)/\((0:Int)<=g/\g<o.n)/\toNat g<o.n/\((0:Int)<=w/\w<o.n)/\toNat w<o.n)/\(K=true->((!amE)=true->(A<=Q/\Q<=j/\j<=g)/\toNat (j-Q)<ams)/\((!amE)=false->(A<=i/\i<=w/\w<=g)/\toNat (w-i)<ams))/\(K=false->A<=i/\i<=g))/\(A<=J/\J<=g->(A<=g/\g<=g/\(o.n:Int)=o.n)/\∀(d:Int) (m:I aw),let t:=i64 (d-1);(A<=d/\d<=g/\(m.n:Int)=o.n)->(decide (d>J)=true->((0:Int)<=t/\t<m.n)/\toNat t<m.n/\((0:Int)<=d/\d<m.n)/\toNat d<m.n/\((0:Int)<=d/\d<m.n)/\toNat d<m.n/\((0:Int)<=t/\t<m.n)/\toNat t<m.n)/\(decide (d>J)=true->(A<=t/\t<=g/\(m.n:Int)=o.n)/\toNat (t-A)<toNat (d-A))))/\((amr==1)=false->((0:Int)<=1/\(1:Int)<=64)/\((z<=z/\z<=B/\B<=B)/\∀(c e:Int),let amt:=toNat (e-c);let L:=decide (c<e);let q:=i64 ((u64 (i64 (c+e)))/2^F);let R:=i64 (q+1);let G:=i64 (i64 (amp-1)-q);let amF:=decide (p6 (o.at' G.toNat).r (o.at' q.toNat).r<0);(z<=c/\c<=e/\e<=B)->(L=true->((0:Int)<=1/\(1:Int)<=64)/\((0:Int)<=G/\G<o.n)/\toNat G<o.n/\((0:Int)<=q/\q<o.n)/\toNat q<o.n)/\(L=true->((!amF)=true->(z<=R/\R<=e/\e<=B)/\toNat (e-R)<amt)/\((!amF)=false->(z<=c/\c<=q/\q<=B)/\toNat (q-c)<amt))/\(L=false->z<=c/\c<=B))/\(z<=D/\D<=B->(zL A g u o=true->0<=D/\D<g/\g<H/\H<=o.n/\o.n<=900000)/\(zK A g u o=true->0<=A/\A<D/\D<C/\C<=amu.n/\amu.n<=900000/\C-A<(N:Int))/\(Dt A g u o=true->0<=C/\C<H/\H<u/\u<=amo.n/\amo.n<=900000/\u-C<(N:Int)))))) (bZ 1 (aR air ba) (az pe (az az9 bY))) Tryz.func64 (have⟨aIR,aIS,aIT,aIU,aIV,aIW⟩:=Y;⟨λfw=>⟨⟨Ω,λb f aIp=>⟨λW=>⟨Ω,⟨have:=al W;have:=half (x:=(b+f)) Ω Ω;Ω,⟨have:=al W;have:=half (x:=(b+f)) Ω Ω;Ω,⟨Ω,Ω⟩⟩⟩⟩,⟨λX=>⟨λN2=>have:=al X;have:=half (x:=(b+f)) Ω Ω;have:=E (i64 ((u64 (i64 (b+f)))/2^(toNat 1))+1);Ω,λagW=>have:=al X;have:=half (x:=(b+f)) Ω Ω;Ω⟩,λAb=>Ω⟩⟩⟩,λaIi=>⟨Ω,λh n aIs=>⟨λp=>⟨have:=al p;have:=E (kJ A g u o-1);have:=E (h+1);Ω,⟨have:=al p;have:=E (kJ A g u o-1);have:=E (h+1);Ω,⟨have:=al p;have:=E (kJ A g u o-1);Ω,⟨have:=al p;have:=E (kJ A g u o-1);Ω,⟨have:=al p;have:=E (kJ A g u o-1);Ω,⟨have:=al p;have:=E (kJ A g u o-1);Ω,⟨have:=al p;have:=E (kJ A g u o-1);have:=E (h+1);Ω,have:=al p;have:=E (kJ A g u o-1);have:=E (h+1);Ω⟩⟩⟩⟩⟩⟩⟩,λavf=>have:=al avf;have:=E (kJ A g u o-1);have:=E (h+1);Ω⟩⟩⟩,λavg=>⟨λaH4=>⟨⟨Ω,λi j aIo=>⟨λaH5=>⟨Ω,⟨Ω,⟨Ω,⟨have:=half (x:=(i+j)) Ω Ω;Ω,have:=half (x:=(i+j)) Ω Ω;Ω⟩⟩⟩⟩,⟨λS=>⟨λaH6=>have:=al S;have:=half (x:=(i+j)) Ω Ω;have:=E (i64 ((u64 (i64 (i+j)))/2^(toNat 1))+1);Ω,λaH7=>have:=al S;have:=half (x:=(i+j)) Ω Ω;Ω⟩,λaH8=>Ω⟩⟩⟩,λaIg=>⟨Ω,λd m aIq=>⟨λT=>⟨have:=al T;have:=E (d-1);Ω,⟨have:=E (d-1);Ω,⟨Ω,⟨Ω,⟨Ω,⟨Ω,⟨have:=al T;have:=E (d-1);Ω,have:=E (d-1);Ω⟩⟩⟩⟩⟩⟩⟩,λavh=>have:=al avh;have:=E (d-1);Ω⟩⟩⟩,λaH9=>⟨Ω,⟨⟨have:=qO A g u Ω;Ω,λc e aIr=>⟨λaH_=>⟨Ω,⟨have:=qO A g u Ω;have:=half (x:=(A+u)) Ω Ω;have:=half (x:=(c+e)) Ω Ω;have:=E (i64 ((u64 (i64 (A+u)))/2^(toNat 1))+g);have:=E (i64 (i64 ((u64 (i64 (A+u)))/2^(toNat 1))+g)-1);have:=E (i64 (i64 (i64 ((u64 (i64 (A+u)))/2^(toNat 1))+g)-1)- (i64 ((u64 (i64 (c+e)))/2^(toNat 1))));Ω,⟨have:=qO A g u Ω;have:=half (x:=(A+u)) Ω Ω;have:=half (x:=(c+e)) Ω Ω;have:=E (i64 ((u64 (i64 (A+u)))/2^(toNat 1))+g);have:=E (i64 (i64 ((u64 (i64 (A+u)))/2^(toNat 1))+g)-1);have:=E (i64 (i64 (i64 ((u64 (i64 (A+u)))/2^(toNat 1))+g)-1)- (i64 ((u64 (i64 (c+e)))/2^(toNat 1))));Ω,⟨have:=qO A g u Ω;have:=half (x:=(c+e)) Ω Ω;Ω,have:=qO A g u Ω;have:=half (x:=(c+e)) Ω Ω;Ω⟩⟩⟩⟩,⟨λV=>⟨λaIa=>have:=al V;have:=qO A g u Ω;have:=half (x:=(c+e)) Ω Ω;have:=E (i64 ((u64 (i64 (c+e)))/2^(toNat 1))+1);Ω,λaIb=>have:=al V;have:=qO A g u Ω;have:=half (x:=(c+e)) Ω Ω;Ω⟩,λaIc=>Ω⟩⟩⟩,λaIh=>⟨λaId=>by have:=qO A g u Ω;(try have Ac:=aq1 (A:=A) (g:=g) (u:=u) (o:=o) Ω Ψ Ψ);have:=half (x:=(A+u)) Ω Ω;have:=E (i64 ((u64 (i64 (A+u)))/2^(toNat 1))+g);have:=E (i64 (i64 ((u64 (i64 (A+u)))/2^(toNat 1))+g)- (gE A g u o));omega,⟨λaIe=>by have:=Yq A g u o;(try have p:=arh (A:=A) (g:=g) (u:=u) (o:=o) Ω Ψ Ψ);have:=half (x:=(A+u)) Ω Ω;omega,λaIf=>by have:=aCx (pA N) A g u o;(try have avg:=ari (A:=A) (g:=g) (u:=u) (o:=o) Ω Ψ Ψ);have:=half (x:=(A+u)) Ω Ω;have:=E (i64 ((u64 (i64 (A+u)))/2^(toNat 1))+g);have:=E (i64 (i64 ((u64 (i64 (A+u)))/2^(toNat 1))+g)- (gE A g u o));omega⟩⟩⟩⟩⟩⟩)) rfl (show([[(aG.ad c3).av (xj (pA N) A g u o)]]:Heap)=[[(aG.ad c3).av (I.cut (xj (pA N) A g u o) o.n)]] by rw[nB])
def aiz: ∀N,j9 Tryz.prog 64 (BB N).hL
 |0=>let b:=BB 0;cj.ok ⟨_,_,Tryz.func64,rfl,Ξ⟩ Ξ (show amB 64 b from λ(A g u:Int) o c a=>(by have a:0<=A/\A<g/\g<u/\u<=o.n/\o.n<=900000/\u-A<(0:Int):=a;omega:False).elim)
 |N+1=>cj.ok ⟨_,_,Tryz.func64,rfl,Ξ⟩ Ξ (aEv N (aiz N))
end
