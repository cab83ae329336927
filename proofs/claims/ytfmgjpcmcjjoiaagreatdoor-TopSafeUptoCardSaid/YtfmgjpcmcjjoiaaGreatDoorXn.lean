import Derived.Test.YtfmgjpcmcjjoiaaGreatDoorXl
import Derived.Test.YtfmgjpcmcjjoiaaGreatDoorXm
open Go.IntKind (i64 u64 u8)
open Int (toNat)
set_option maxRecDepth 100000
set_option maxHeartbeats 4000000
set_option linter.all false
noncomputable section
namespace Go.Proofs.YtfmgjpcmcjjoiaaGreatDoor
open Go Go.RowKit Go.af
section
variable(i:Nat)(A:Int)(d:H)(O:G bF)(e:Int)(f:G L)(aW:Int)(bA:G aw)(cL:Int)(gK:Int)
def Sy:Int:=let a:=d.li.at' (toNat (i64.wrap ((i64.wrap ((i64.wrap (cL+1))-d.j))-1)));(cond (!a.z) (abf e f aW bA a.C a.I a.w a.m a.N a.ao a.i a.aC) e)
def Sz:G L:=let a:=d.li.at' (toNat (i64.wrap ((i64.wrap ((i64.wrap (cL+1))-d.j))-1)));(cond (!a.z) (RB e f aW bA a.C a.I a.w a.m a.N a.ao a.i a.aC) f)
def SA:Int:=let a:=d.li.at' (toNat (i64.wrap ((i64.wrap ((i64.wrap (cL+1))-d.j))-1)));(cond (!a.z) (abg e f aW bA a.C a.I a.w a.m a.N a.ao a.i a.aC) aW)
def SB:G aw:=let a:=d.li.at' (toNat (i64.wrap ((i64.wrap ((i64.wrap (cL+1))-d.j))-1)));(cond (!a.z) (RC e f aW bA a.C a.I a.w a.m a.N a.ao a.i a.aC) bA)
def acm:Int:=let a:=d.li.at' (toNat (i64.wrap ((i64.wrap ((i64.wrap (cL+1))-d.j))-1)));(cond (!a.z) (abh e f aW bA a.C a.I a.w a.m a.N a.ao a.i a.aC) 0)
def acn:u:=let a:=d.li.at' (toNat (i64.wrap ((i64.wrap ((i64.wrap (cL+1))-d.j))-1)));(cond (!a.z) (abi e f aW bA a.C a.I a.w a.m a.N a.ao a.i a.aC) ⟨#[]⟩)
def aco:Int:=let a:=d.li.at' (toNat (i64.wrap ((i64.wrap ((i64.wrap (cL+1))-d.j))-1)));(cond (!a.z) (abj e f aW bA a.C a.I a.w a.m a.N a.ao a.i a.aC) 0)
def acp:G u:=let a:=d.li.at' (toNat (i64.wrap ((i64.wrap ((i64.wrap (cL+1))-d.j))-1)));(cond (!a.z) (abk e f aW bA a.C a.I a.w a.m a.N a.ao a.i a.aC) (D:G u))
def apU:H:={d with e5:=(Sy d e f aW bA cL),c6:=(Sz d e f aW bA cL),eN:=(SA d e f aW bA cL),dW:=(SB d e f aW bA cL),co:=(i64.wrap (cL+1))}
def ack:Bool:=let b:=i64.wrap (cL+1);let a:=d.ws.at' (toNat gK);(cond (a.q==b) (a.C==(d.li.at' (toNat (i64.wrap ((i64.wrap (b-d.j))-1)))).q) false)
def AD(b:G bF):G bF:=let a:=d.ws.at' (toNat gK);(cond (ack d cL gK) (G.app b (G.lit ([(⟨d.bh,a.z,a.I,a.w,a.m,a.N,a.ao,a.i,(acm d e f aW bA cL),(acn d e f aW bA cL),(aco d e f aW bA cL),(acp d e f aW bA cL)⟩:bF)]:List bF))) b)
def AB(d:H)(e:Int)(f:G L)(aW:Int)(bA:G aw)(cL:Int):Nat→Int→G bF→Int×G bF×Bool
 |0,_,_=>default
 |k+1,gK,a=>let b:=decide (gK<(d.ws.n:Int));(cond b (AB d e f aW bA cL k (i64.wrap (gK+1)) (AD d e f aW bA cL gK a)) (gK,a,b))
def JH(a:G bF):Int×G bF×Bool:=AB d e f aW bA cL ((toNat ((d.ws.n:Int)-0))+1) 0 a
def l8(A:Int)(d:H):Nat→Int→G L→Int→G aw→Int→G bF→Int×G L×Int×G aw×Int×G bF
 |0,_,_,_,_,_,_=>default
 |k+1,e,f,aW,bA,cL,a=>(cond (decide (cL<A)) (l8 A d k (Sy d e f aW bA cL) (Sz d e f aW bA cL) (SA d e f aW bA cL) (SB d e f aW bA cL) (i64.wrap (cL+1)) (JH d e f aW bA cL a).2.1) (e,f,aW,bA,cL,a))
def AE:Int×G L×Int×G aw×Int×G bF:=l8 A d ((toNat (A-d.co))+1) d.e5 d.c6 d.eN d.dW d.co O
def xb:G bF:=(AE A d O).2.2.2.2.2
def o6:H:=let a:=AE A d O;{d with e5:=a.1,c6:=a.2.1,eN:=a.2.2.1,dW:=a.2.2.2.1,co:=a.2.2.2.2.1}
theorem aeX(d:H)(a:Int)(b:G L)(c:Int)(f:G aw)(e:Int)(j:d.ws.n≤549755813888): ∀(k:Nat) (v:Int) (s:G bF),0≤v→v≤(d.ws.n:Int)→toNat ((d.ws.n:Int)-v)<k→(((AB d a b c f e k v s).2.1.n:Nat):Int)≤s.n+((d.ws.n:Int)-v)
 |0,_,_,_,_,g=>absurd g (en _)
 |k+1,v,s,l,m,g=>by
  show(((cond (decide (v<(d.ws.n:Int))) (AB d a b c f e k (i64.wrap (v+1)) (AD d a b c f e v s)) (v,s,decide (v<(d.ws.n:Int)))).2.1.n:Nat):Int)≤_
  by_cases h:v<(d.ws.n:Int)
  ·rw[bS h,aQ];have n:=E (v+1);have o:=aeX d a b c f e j k (i64.wrap (v+1)) (AD d a b c f e v s) (by omega) (by omega) (by omega);have i:=HI (s:=AD d a b c f e v s) _ _ _ rfl;simp only[G.oH,G.mj,dr,fH]at i;omega
  ·rw[bp h,aS];show(s.n:Int)≤_;omega
theorem afF(d:H)(a:Int)(b:G L)(c:Int)(f:G aw)(e:Int)(s:G bF)(g:d.ws.n≤549755813888):(((JH d a b c f e s).2.1.n:Nat):Int)≤s.n+(d.ws.n:Int):=by
 have h:=aeX d a b c f e g (toNat ((d.ws.n:Int)-0)+1) 0 s (by omega) (by omega) (by omega);show(((AB d a b c f e (toNat ((d.ws.n:Int)-0)+1) 0 s).2.1.n:Nat):Int)≤_;omega
def Og:c8:=⟨[.p 0,.fa 0 (33*i),.v a],b4,eH,eu,fun(A:Int)=>cA fun C=>let b:=C.d i;⟨⟨some (C.told.n≤541000000000∧b.ws.n≤3000∧0≤b.j∧b.j≤b.co∧b.co≤4194304∧A≤b.j+(b.li.n:Int)∧b.li.n≤200),[],ca aH 0 (C.put i (o6 A b C.told) C.ag (xb A b C.told) C.a8)⟩⟩⟩
def X2:cG:=⟨.eB true [] [] (ga i aH 0 [] 0) (fY i aH),[],[]++fy i aH,⟨[],[]⟩⟩
def aqW(C:ak):cb (X2 i).b1:=let e:=C.d i;(.x3 ⟨7,[],[],[(.h 0 (33*i+15),a),(.h 0 (33*i+16),.ab bd),(.h 0 (33*i+17),a),(.h 0 (33*i+18),.ab bT),(.h 0 (33*i+19),a),(.h 8 0,.ad jK)],some 0,false,0,[],[(.h 0 (33*i+15),a),(.h 0 (33*i+16),.ab bd),(.h 0 (33*i+17),a),(.h 0 (33*i+18),.ab bT),(.h 0 (33*i+19),a),(.h 8 0,.ad jK)],fun k (s:Int×G L×Int×G aw×Int×G bF)=>l8 A e k s.1 s.2.1 s.2.2.1 s.2.2.2.1 s.2.2.2.2.1 s.2.2.2.2.2,.f,fun(s:Int×G L×Int×G aw×Int×G bF)=>((e.co≤s.2.2.2.2.1∧(s.2.2.2.2.1≤A∨s.2.2.2.2.1=e.co))∧(s.2.2.2.2.2.n:Int)≤C.told.n+(s.2.2.2.2.1-e.co)*3000),fun(s:Int×G L×Int×G aw×Int×G bF)=>(toNat (A-s.2.2.2.2.1)),some fun(r:Int×G L×Int×G aw×Int×G bF)=>(r.2.2.2.2.2.n:Int)≤C.told.n+(max (A-e.co) 0)*3000⟩ (fun(c:Int×G L×Int×G aw×Int×G bF)=>let f:=i64.wrap (c.2.2.2.2.1+1);let g:=i64.wrap (f-e.j);let h:=i64.wrap (g-1);let j:=toNat h;let d:=e.li.at' j;(.ae (.ae (.ae (.ae (.j ⟨17592186043591,[],[(.h 0 (33*i+15),a),(.h 0 (33*i+16),.ab bd),(.h 0 (33*i+17),a),(.h 0 (33*i+18),.ab bT),(.h 11 0,a),(.h 11 1,ai),(.h 11 2,a),(.h 11 3,.ab bK)],[],.f⟩ .z (.bO ⟨([.ptr 0 0,.ptr 0 (33*i+0),b A,U,U,U,.ptr 10 0,.ptr 11 0,U,U,.ptr 0 (33*i+0),.ptr 0 (33*i+0),.ptr 0 (33*i+19),b c.2.2.2.2.1,b A,.bool (decide (c.2.2.2.2.1<A)),.ptr 0 (33*i+0),.ptr 0 (33*i+0),.ptr 0 (33*i+19),b c.2.2.2.2.1,b f,.ptr 0 (33*i+0),.ptr 0 (33*i+19),.ptr 0 (33*i+0),.ptr 0 (33*i+0),.ptr 0 (33*i+6),.ptr 0 (33*i+8),aI 10 dU e.li,.ptr 0 (33*i+0),.ptr 0 (33*i+0),.ptr 0 (33*i+19),b f,.ptr 0 (33*i+0),.ptr 0 (33*i+0),.ptr 0 (33*i+6),.ptr 0 (33*i+6),b e.j,b g,b h,.ref [b d.q,b d.C,.bool d.z,b d.I,b d.w,b d.m,.str d.N,.str d.ao,.str d.i,b d.aC],.agg [b d.q,b d.C,.bool d.z,b d.I,b d.w,b d.m,.str d.N,.str d.ao,.str d.i,b d.aC],.ptr 10 2,.bool d.z,.bool (!d.z)]++(us 57 ([]))),cd aH 2 (C.put i (apU e c.1 c.2.1 c.2.2.1 c.2.2.2.1 c.2.2.2.2.1) C.ag c.2.2.2.2.2 C.a8) [(10,[b d.q,b d.C,.bool d.z,b d.I,b d.w,b d.m,.str d.N,.str d.ao,.str d.i,b d.aC]),(11,[b (acm e c.1 c.2.1 c.2.2.1 c.2.2.2.1 c.2.2.2.2.1),.str (acn e c.1 c.2.1 c.2.2.1 c.2.2.2.1 c.2.2.2.2.1),b (aco e c.1 c.2.1 c.2.2.1 c.2.2.2.1 c.2.2.2.2.1),aI 1 cK (acp e c.1 c.2.1 c.2.2.1 c.2.2.2.1 c.2.2.2.2.1)])]⟩ (.ae (.cW ⟨72634072382417403079,[],[],[(.t 65,a),(.h 8 0,.ad jK)],some 2,false,146421048677255609543,[],[(.t 65,a),(.h 8 0,.ad jK),(.t 66,l)],fun k (s:Int×G bF)=>AB e c.1 c.2.1 c.2.2.1 c.2.2.2.1 c.2.2.2.2.1 k s.1 s.2,.f,fun(s:Int×G bF)=>((0≤s.1∧s.1≤(e.ws.n:Int))∧(s.2.n:Int)≤c.2.2.2.2.2.n+(s.1-0)),fun(s:Int×G bF)=>(toNat ((e.ws.n:Int)-s.1)),some fun(r:Int×G bF×Bool)=>(r.2.1.n:Int)≤c.2.2.2.2.2.n+max ((e.ws.n:Int)-0) 0⟩ (.ae (.ae (.j ⟨4986817853006432924860103,[.b 13],[(.h 8 0,.ad jK)],[],.f⟩ (.ae (.j ⟨4986817853006432924860103,[],[(.t 76,l),(.t 82,l)],[],.f⟩ .z .z)) .z)))))))))))))
def VE(i:Nat)(A:Int)(C:ak):Prop:=(((((C.d i).co≤(C.d i).co∧((C.d i).co≤A∨(C.d i).co=(C.d i).co))∧(C.told.n:Int)≤C.told.n+((C.d i).co- (C.d i).co)*3000))∧(∀(e:Int) (f:G L) (aW:Int) (bA:G aw) (cL:Int) (a:G bF),(((C.d i).co≤cL∧(cL≤A∨cL=(C.d i).co))∧(a.n:Int)≤C.told.n+(cL- (C.d i).co)*3000)→(((decide (cL<A))=true→(((0:Int)≤(i64.wrap ((i64.wrap ((i64.wrap (cL+1))- (C.d i).j))-1))∧(i64.wrap ((i64.wrap ((i64.wrap (cL+1))- (C.d i).j))-1))<(((C.d i).li.n:Nat):Int))∧((((0≤(0:Int)∧(0:Int)≤(((C.d i).ws.n:Nat):Int))∧(a.n:Int)≤a.n+((0:Int)-0)))∧(∀(gK:Int) (b:G bF),((0≤gK∧gK≤(((C.d i).ws.n:Nat):Int))∧(b.n:Int)≤a.n+(gK-0))→(((decide (gK<(((C.d i).ws.n:Nat):Int)))=true→((((0:Int)≤gK∧gK<(((C.d i).ws.n:Nat):Int))∧((toNat gK)<(C.d i).ws.n))∧((ack (C.d i) cL gK)=true→(b.n+1≤549755813888))))∧(((decide (gK<(((C.d i).ws.n:Nat):Int)))=true→(((0≤(i64.wrap (gK+1))∧(i64.wrap (gK+1))≤(((C.d i).ws.n:Nat):Int))∧(((AD (C.d i) e f aW bA cL gK b).n:Nat):Int)≤a.n+((i64.wrap (gK+1))-0))∧(toNat ((((C.d i).ws.n:Nat):Int)- (i64.wrap (gK+1))))<(toNat ((((C.d i).ws.n:Nat):Int)-gK))))∧((decide (gK<(((C.d i).ws.n:Nat):Int)))=false→((b.n:Int)≤a.n+max ((((C.d i).ws.n:Nat):Int)-0) 0))))))))∧(((decide (cL<A))=true→((((C.d i).co≤(i64.wrap (cL+1))∧((i64.wrap (cL+1))≤A∨(i64.wrap (cL+1))=(C.d i).co))∧(((JH (C.d i) e f aW bA cL a).2.1.n:Nat):Int)≤C.told.n+((i64.wrap (cL+1))- (C.d i).co)*3000)∧(toNat (A- (i64.wrap (cL+1))))<(toNat (A-cL))))∧((decide (cL<A))=false→((a.n:Int)≤C.told.n+(max (A- (C.d i).co) 0)*3000))))))
theorem ayL(i:Nat)(k:i<3)(A:Int)(C:ak)(h:ez C)(l:C.told.n≤541000000000∧(C.d i).ws.n≤3000∧0≤(C.d i).j∧(C.d i).j≤(C.d i).co∧(C.d i).co≤4194304∧A≤(C.d i).j+((C.d i).li.n:Int)∧(C.d i).li.n≤200):VE i A C:=by
 have g:=gE h i k;unfold fw at g;unfold VE;exact have⟨u,v,w,x,y,z,B⟩:=l;(⟨(by omega),(fun e f aW bA cL m r=>⟨(fun b=>⟨(by have:=al b;have:=E (cL+1);have:=E ((i64.wrap (cL+1))- (C.d i).j);have:=E ((i64.wrap ((i64.wrap (cL+1))- (C.d i).j))-1);omega),⟨(by omega),(fun gK n t=>⟨(fun a=>⟨⟨(by have:=al a;omega),(by have:=al a;omega)⟩,(fun o=>(by omega))⟩),⟨(fun c=>(by have:=al c;have j:=HI (s:=(AD (C.d i) e f aW bA cL gK n)) _ _ _ rfl;(try simp only[G.oH,G.mj,G.tc,dr,fH]at j);have:=E (gK+1);omega)),(fun p=>(by omega))⟩⟩)⟩⟩),⟨(fun d=>(by have:=al d;have:=afF (C.d i) e f aW bA cL m (by omega);have:=E (cL+1);omega)),(fun q=>(by omega))⟩⟩)⟩)
theorem awB(i:Nat)(a:i<3)(A:Int):eP Tryz.prog 91 (Og i) b4 [] (cA fun C=>⟨⟨some (C.told.n≤541000000000∧(C.d i).ws.n≤3000∧0≤(C.d i).j∧(C.d i).j≤(C.d i).co∧(C.d i).co≤4194304∧A≤(C.d i).j+((C.d i).li.n:Int)∧(C.d i).li.n≤200),[],ca aH 0 (C.put i (o6 A (C.d i) C.told) C.ag (xb A (C.d i) C.told) C.a8)⟩⟩) [b A]:=by
 refine fW fun C c=>fun d=>ef (X2 i) (aqW i A C) (VE i A C) (bJ 10 (aG auN aT) bI) Tryz.func91 [] ?_ ?_ (ayL i a A C c d)
 ·rcases bV a with rfl|rfl|rfl<;>kernel_rfl
 ·rcases bV a with rfl|rfl|rfl<;>kernel_rfl
theorem azx(i:Nat)(b:i<3):fO 91 (Og i):=
 jq (bm:=[a]) fun s c=>Eq.mp (by rcases bV b with rfl|rfl|rfl<;>kernel_rfl) (awB i b s.1)
theorem aeD(i:Nat)(a:i<3):fP 91 (Og i):=gj fV Tryz.func91 (azx i a)
end
def H.q9(j:Nat)(n:H):H:=match j with
 |0=>{n with v0:=true}
 |1=>{n with v1:=true}
 |_=>{n with v2:=true}
def H.aqo(j:Nat)(n:H):Int:=match j with
 |0=>n.dX
 |1=>n.dz
 |_=>n.dF
def H.acX(j:Nat)(n:H):Int:=match j with
 |0=>n.g1
 |1=>n.q1
 |_=>n.fh
def H.sp(j:Nat)(x:Int)(n:H):H:=match j with
 |0=>{n with dX:=x}
 |1=>{n with dz:=x}
 |_=>{n with dF:=x}
def H.aA6(j:Nat)(x y:Int)(n:H):H:=match j with
 |0=>{n with dX:=x,g1:=y}
 |1=>{n with dz:=x,q1:=y}
 |_=>{n with dF:=x,fh:=y}
section
variable(e:Int)(aW:Bool)(r:G Int)(h:Bool)(o:G L)(c:G aw)
def zO:G Int:=(aE (r4 (cl r h) (cy r h)) (wI (cl r h) (cy r h)))
def I3:Bool:=(aF (r4 (cl r h) (cy r h)) (wI (cl r h) (cy r h)))
def DW:G L:=let b:=cy r h;let a:=cl r h;(G.app o (G.lit ([(⟨(hG r h),(DX a b),(DY a b),(DZ a b),(zP a b),(zQ a b),(zR a b),(cO (r4 a b) (wI a b))⟩:L)]:List L)))
def ajD:b0:=⟨[.p 0,.p 1],[(.h 0 0,a),(.h 0 2,a),(.h 2 0,.ab a5),(.h 2 1,l),(.h 3 0,.ad bd),(.h 4 0,.ad bT)],[[U,.own 3 0,U,.own 4 0],[.ptr 2 0],[U,U],[U],[U]],fun(A:Int) (g:Int) r h o c=>⟨⟨some (aD r∧o.n≤1000),[],[[b A,.own 3 ((DW r h o)).n,b g,.own 4 (c).n],[.ptr 2 0],[aI 1 cN (zO r h),.bool (I3 r h)],[(aB.ad bd).av (DW r h o)],[(aB.ad bT).av c]]⟩⟩⟩
theorem aut:dJ 137 ajD:=dL Tryz.func137
 fun(A:Int) (g:Int) r i h o j c k b=>dI ⟨.heap,[],[(.h 0 0,a),(.h 0 2,a),(.h 2 0,.ab a5),(.h 2 1,l),(.h 3 0,.ad bd),(.h 4 0,.ad bT)],⟨[],[[U,.own 3 0,U,.own 4 0],[.ptr 2 0],[U,U],[U],[U]]⟩⟩ (.z) ((aD r)∧((aD (cl r h))∧(o.n+1≤549755813888))) (bJ 5 aT (aj vg (aj xU (aj auu bI)))) Tryz.func137 (have⟨e,f⟩:=b;⟨(by first|(with_reducible (repeat first|assumption|apply dG|apply dY|apply ee|apply ea|apply gh|apply d|apply fM|apply fF|apply fG|apply gf|apply fE|apply gg|apply gb|apply gd|apply gJ|apply g4|apply g5|apply hg);done)|assumption),⟨(by first|(with_reducible (repeat first|assumption|apply dG|apply dY|apply ee|apply ea|apply gh|apply d|apply fM|apply fF|apply fG|apply gf|apply fE|apply gg|apply gb|apply gd|apply gJ|apply g4|apply g5|apply hg);done)|assumption),(by omega)⟩⟩)
theorem gJ{r:G Int}{h:Bool}(a:aD r):aD (zO r h):=dY (gd (ea a))
theorem awM(r:G Int)(h:Bool)(o:G L):(DW r h o).n=o.n+1:=rfl
def DO:Bool:=(cond (decide (e>0)) (!aW) false)
def wE:Nat→Int→G Int→Bool→G L→G Int×Bool×G L
 |0,_,_,_,_=>default
 |k+1,e,f,aW,bA=>(cond (DO e aW) (wE k (i64.wrap (e-1)) (zO f aW) (I3 f aW) (DW f aW bA)) (f,aW,bA))
def Rk:G Int×Bool×G L:=wE ((toNat (cm r h))+1) (cm r h) (bW r h) (b5 r h) o
def oX:G Int:=(Rk r h o).1
def r2:Bool:=(Rk r h o).2.1
def oY:G L:=(Rk r h o).2.2
def ajy:b0:=⟨[.p 2,.ju 137 [0,1]],[(.h 0 0,a),(.h 0 2,a),(.h 2 0,.ab a5),(.h 2 1,l),(.h 3 0,.ad bd),(.h 4 0,.ad bT)],[[U,.own 3 0,U,.own 4 0],[.ptr 2 0],[U,U],[U],[U]],fun(A:Int) (g:Int) r h o c=>let d:=oY r h o;⟨⟨some (aD r∧o.n≤10),[],[[b A,.own 3 (d).n,b g,.own 4 (c).n],[.ptr 2 0],[aI 1 cN (oX r h o),.bool (r2 r h o)],[(aB.ad bd).av d],[(aB.ad bT).av c]]⟩⟩⟩
theorem auo:dJ 136 ajy:=dL Tryz.func136
 fun(A:Int) (g:Int) r v h o w c x n=>dI ⟨.heap,[],[(.h 0 0,a),(.h 0 2,a),(.h 2 0,.ab a5),(.h 2 1,l),(.h 3 0,.ad bd),(.h 4 0,.ad bT)],⟨[],[[U,.own 3 0,U,.own 4 0],[.ptr 2 0],[U,U],[U],[U]]⟩⟩ (.ae (.cW ⟨19,[],[],[(.t 4,a),(.h 2 0,.ab a5),(.h 2 1,l),(.h 3 0,.ad bd)],some 0,false,0,[],[(.h 2 0,.ab a5),(.h 2 1,l),(.h 3 0,.ad bd)],fun k (s:Int×G Int×Bool×G L)=>wE k s.1 s.2.1 s.2.2.1 s.2.2.2,.f,fun(s:Int×G Int×Bool×G L)=>(aD s.2.1∧0≤s.1∧s.1≤255∧(s.2.2.2.n:Int)≤(o.n:Int)+255-s.1),fun(s:Int×G Int×Bool×G L)=>(toNat s.1),none⟩ (.s (.j ⟨33683,[],[(.t 9,l),(.t 15,l)],[],.f⟩ .z .z) .z))) (((aD (bW r h)∧0≤(cm r h)∧(cm r h)≤255∧(o.n:Int)≤(o.n:Int)+255- (cm r h)))∧(∀(e:Int) (f:G Int) (aW:Bool) (bA:G L),let j:=DO e aW;let b:=i64.wrap (e-1);(aD f∧0≤e∧e≤255∧(bA.n:Int)≤(o.n:Int)+255-e)→((j=true→(aD f∧bA.n≤1000))∧(j=true→((aD (zO f aW)∧0≤b∧b≤255∧(((DW f aW bA).n:Nat):Int)≤(o.n:Int)+255-b)∧(toNat b)<(toNat e)))))) (bJ 5 aT (aj aut (aj qP bI))) Tryz.func136 (have⟨q,t⟩:=n;⟨⟨(by first|(with_reducible (repeat first|assumption|apply dG|apply dY|apply ee|apply ea|apply gh|apply d|apply fM|apply fF|apply fG|apply gf|apply fE|apply gg|apply gb|apply gd|apply gJ|apply g4|apply g5|apply hg);done)|assumption),(by have:=BN r h (by first|(with_reducible (repeat first|assumption|apply dG|apply dY|apply ee|apply ea|apply gh|apply d|apply fM|apply fF|apply fG|apply gf|apply fE|apply gg|apply gb|apply gd|apply gJ|apply g4|apply g5|apply hg);done)|assumption);omega)⟩,(fun e f aW bA m=>have u:=m.1;⟨(fun p=>⟨(by first|(with_reducible (repeat first|assumption|apply dG|apply dY|apply ee|apply ea|apply gh|apply d|apply fM|apply fF|apply fG|apply gf|apply fE|apply gg|apply gb|apply gd|apply gJ|apply g4|apply g5|apply hg);done)|assumption),(by omega)⟩),(fun i=>⟨⟨(by first|(with_reducible (repeat first|assumption|apply dG|apply dY|apply ee|apply ea|apply gh|apply d|apply fM|apply fF|apply fG|apply gf|apply fE|apply gg|apply gb|apply gd|apply gJ|apply g4|apply g5|apply hg);done)|assumption),(by have:=i;(try simp [DO]at this);have:=awM f aW bA;have:=E (e-1);omega)⟩,(by have:=i;(try simp [DO]at this);have:=E (e-1);omega)⟩)⟩)⟩)
theorem ahN: ∀(m:Nat) (n:Int) (s:G Int) (b:Bool) (l:G L),aD s→aD (wE m n s b l).1
 |0,_,_,_,_,_=>fun i=>by show(0:Int)≤0∧(0:Int)≤255;omega
 |m+1,n,s,b,l,h=>by
  rw[wE]
  cases DO n b
  ·exact h
  ·exact ahN m _ _ _ _ (gJ h)
theorem g4{r:G Int}{h:Bool}{o:G L}(a:aD r):aD (oX r h o):=ahN _ _ _ _ _ (ee a)
def zS:G Int:=let d:=aF (aE r h) (aF r h);let c:=aE (aE r h) (aF r h);let b:=aF c d;let a:=aE c d;let f:=cy (bW a b) (b5 a b);let e:=cl (bW a b) (b5 a b);(r5 (aE e f) (aF e f))
def I4:Bool:=let d:=aF (aE r h) (aF r h);let c:=aE (aE r h) (aF r h);let b:=aF c d;let a:=aE c d;let f:=cy (bW a b) (b5 a b);let e:=cl (bW a b) (b5 a b);(wK (aE e f) (aF e f))
def D0:G aw:=let j:=aF r h;let i:=aE r h;let e:=aF i j;let d:=aE i j;let b:=aF d e;let a:=aE d e;let l:=b5 a b;let k:=bW a b;let g:=cy k l;let f:=cl k l;(G.app c (G.lit ([(⟨(cO r h),(cO i j),(cO d e),(cm a b),(hG k l),(cO f g),(wJ (aE f g) (aF f g))⟩:aw)]:List aw)))
def ajG:b0:=⟨[.p 0,.p 1],[(.h 1 0,a),(.h 1 2,a),(.h 2 0,.ab a5),(.h 2 1,l),(.h 3 0,.ad bd),(.h 4 0,.ad bT)],[[.ptr 2 0],[U,.own 3 0,U,.own 4 0],[U,U],[U],[U]],fun(A:Int) (g:Int) r h o c=>⟨⟨some (aD r∧c.n≤1000),[],[[.ptr 2 0],[b A,.own 3 (o).n,b g,.own 4 ((D0 r h c)).n],[aI 1 cN (zS r h),.bool (I4 r h)],[(aB.ad bd).av o],[(aB.ad bT).av (D0 r h c)]]⟩⟩⟩
theorem auv:dJ 140 ajG:=dL Tryz.func140
 fun(A:Int) (g:Int) r n h o p c q i=>dI ⟨.heap,[],[(.h 1 0,a),(.h 1 2,a),(.h 2 0,.ab a5),(.h 2 1,l),(.h 3 0,.ad bd),(.h 4 0,.ad bT)],⟨[],[[.ptr 2 0],[U,.own 3 0,U,.own 4 0],[U,U],[U],[U]]⟩⟩ (.z) (let d:=aF (aE r h) (aF r h);let b:=aE (aE r h) (aF r h);let f:=b5 (aE b d) (aF b d);let e:=bW (aE b d) (aF b d);(aD e)∧((aD (aE (cl e f) (cy e f)))∧(c.n+1≤549755813888))) (bJ 5 aT (aj vg (aj xU (aj qP (aj aem bI))))) Tryz.func140 (have⟨k,m⟩:=i;⟨(by first|(with_reducible (repeat first|assumption|apply dG|apply dY|apply ee|apply ea|apply gh|apply j|apply fM|apply fF|apply fG|apply gf|apply fE|apply gg|apply gb|apply gd|apply gJ|apply g4|apply g5|apply hg);done)|assumption),⟨(by first|(with_reducible (repeat first|assumption|apply dG|apply dY|apply ee|apply ea|apply gh|apply j|apply fM|apply fF|apply fG|apply gf|apply fE|apply gg|apply gb|apply gd|apply gJ|apply g4|apply g5|apply hg);done)|assumption),(by omega)⟩⟩)
theorem g5{r:G Int}{h:Bool}(a:aD r):aD (zS r h):=fG (dY (ea (ee (dY (dY (dY a))))))
theorem awN(r:G Int)(h:Bool)(c:G aw):(D0 r h c).n=c.n+1:=rfl
def I2:Bool:=(cond (decide (e>0)) (!aW) false)
def DP:Nat→Int→G Int→Bool→G aw→G Int×Bool×G aw
 |0,_,_,_,_=>default
 |k+1,e,f,aW,bA=>(cond (I2 e aW) (DP k (i64.wrap (e-1)) (zS f aW) (I4 f aW) (D0 f aW bA)) (f,aW,bA))
def Rl:G Int×Bool×G aw:=DP ((toNat (cm r h))+1) (cm r h) (bW r h) (b5 r h) c
def uf:G Int:=(Rl r h c).1
def ug:Bool:=(Rl r h c).2.1
def oZ:G aw:=(Rl r h c).2.2
def ajz:b0:=⟨[.p 2,.ju 140 [0,1]],[(.h 1 0,a),(.h 1 2,a),(.h 2 0,.ab a5),(.h 2 1,l),(.h 3 0,.ad bd),(.h 4 0,.ad bT)],[[.ptr 2 0],[U,.own 3 0,U,.own 4 0],[U,U],[U],[U]],fun(A:Int) (g:Int) r h o c=>let d:=oZ r h c;⟨⟨some (aD r∧c.n≤10),[],[[.ptr 2 0],[b A,.own 3 (o).n,b g,.own 4 (d).n],[aI 1 cN (uf r h c),.bool (ug r h c)],[(aB.ad bd).av o],[(aB.ad bT).av d]]⟩⟩⟩
theorem aup:dJ 136 ajz:=dL Tryz.func136
 fun(A:Int) (g:Int) r v h o w c x n=>dI ⟨.heap,[],[(.h 1 0,a),(.h 1 2,a),(.h 2 0,.ab a5),(.h 2 1,l),(.h 3 0,.ad bd),(.h 4 0,.ad bT)],⟨[],[[.ptr 2 0],[U,.own 3 0,U,.own 4 0],[U,U],[U],[U]]⟩⟩ (.ae (.cW ⟨19,[],[],[(.t 4,a),(.h 2 0,.ab a5),(.h 2 1,l),(.h 4 0,.ad bT)],some 0,false,0,[],[(.h 2 0,.ab a5),(.h 2 1,l),(.h 4 0,.ad bT)],fun k (s:Int×G Int×Bool×G aw)=>DP k s.1 s.2.1 s.2.2.1 s.2.2.2,.f,fun(s:Int×G Int×Bool×G aw)=>(aD s.2.1∧0≤s.1∧s.1≤255∧(s.2.2.2.n:Int)≤(c.n:Int)+255-s.1),fun(s:Int×G Int×Bool×G aw)=>(toNat s.1),none⟩ (.s (.j ⟨33683,[],[(.t 9,l),(.t 15,l)],[],.f⟩ .z .z) .z))) (((aD (bW r h)∧0≤(cm r h)∧(cm r h)≤255∧(c.n:Int)≤(c.n:Int)+255- (cm r h)))∧(∀(e:Int) (f:G Int) (aW:Bool) (bA:G aw),let j:=I2 e aW;let b:=i64.wrap (e-1);(aD f∧0≤e∧e≤255∧(bA.n:Int)≤(c.n:Int)+255-e)→((j=true→(aD f∧bA.n≤1000))∧(j=true→((aD (zS f aW)∧0≤b∧b≤255∧(((D0 f aW bA).n:Nat):Int)≤(c.n:Int)+255-b)∧(toNat b)<(toNat e)))))) (bJ 5 aT (aj auv (aj qP bI))) Tryz.func136 (have⟨q,t⟩:=n;⟨⟨(by first|(with_reducible (repeat first|assumption|apply dG|apply dY|apply ee|apply ea|apply gh|apply d|apply fM|apply fF|apply fG|apply gf|apply fE|apply gg|apply gb|apply gd|apply gJ|apply g4|apply g5|apply hg);done)|assumption),(by have:=BN r h (by first|(with_reducible (repeat first|assumption|apply dG|apply dY|apply ee|apply ea|apply gh|apply d|apply fM|apply fF|apply fG|apply gf|apply fE|apply gg|apply gb|apply gd|apply gJ|apply g4|apply g5|apply hg);done)|assumption);omega)⟩,(fun e f aW bA m=>have u:=m.1;⟨(fun p=>⟨(by first|(with_reducible (repeat first|assumption|apply dG|apply dY|apply ee|apply ea|apply gh|apply d|apply fM|apply fF|apply fG|apply gf|apply fE|apply gg|apply gb|apply gd|apply gJ|apply g4|apply g5|apply hg);done)|assumption),(by omega)⟩),(fun i=>⟨⟨(by first|(with_reducible (repeat first|assumption|apply dG|apply dY|apply ee|apply ea|apply gh|apply d|apply fM|apply fF|apply fG|apply gf|apply fE|apply gg|apply gb|apply gd|apply gJ|apply g4|apply g5|apply hg);done)|assumption),(by have:=i;(try simp [I2]at this);have:=awN f aW bA;have:=E (e-1);omega)⟩,(by have:=i;(try simp [I2]at this);have:=E (e-1);omega)⟩)⟩)⟩)
end
section
variable(A:G Int)
def xx:Int:=let d:=aF A false;let c:=aE A false;let b:=r2 c d (D:G L);let a:=oX c d (D:G L);let f:=aF a b;let e:=aE a b;(cond (decide ((A.n:Int)>20000)) 0 (cond ((fS true (uf e f (D:G aw)) (ug e f (D:G aw)))!=0) 0 (cond ((dV (cO A false) (oY c d (D:G L)) (cO a b) (oZ e f (D:G aw)))!=0) 0 (cO A false))))
def qC:G L:=let d:=aF A false;let c:=aE A false;let g:=oY c d (D:G L);let b:=r2 c d (D:G L);let a:=oX c d (D:G L);let f:=aF a b;let e:=aE a b;(cond (decide ((A.n:Int)>20000)) (D:G L) (cond ((fS true (uf e f (D:G aw)) (ug e f (D:G aw)))!=0) (D:G L) (cond ((dV (cO A false) g (cO a b) (oZ e f (D:G aw)))!=0) (D:G L) g)))
def xy:Int:=let d:=aF A false;let c:=aE A false;let b:=r2 c d (D:G L);let a:=oX c d (D:G L);let f:=aF a b;let e:=aE a b;(cond (decide ((A.n:Int)>20000)) 0 (cond ((fS true (uf e f (D:G aw)) (ug e f (D:G aw)))!=0) 0 (cond ((dV (cO A false) (oY c d (D:G L)) (cO a b) (oZ e f (D:G aw)))!=0) 0 (cO a b))))
def qD:G aw:=let d:=aF A false;let c:=aE A false;let b:=r2 c d (D:G L);let a:=oX c d (D:G L);let f:=aF a b;let e:=aE a b;let g:=oZ e f (D:G aw);(cond (decide ((A.n:Int)>20000)) (D:G aw) (cond ((fS true (uf e f (D:G aw)) (ug e f (D:G aw)))!=0) (D:G aw) (cond ((dV (cO A false) (oY c d (D:G L)) (cO a b) g)!=0) (D:G aw) g)))
def KE:Int:=let d:=aF A false;let c:=aE A false;let b:=r2 c d (D:G L);let a:=oX c d (D:G L);let f:=aF a b;let e:=aE a b;let h:=fS true (uf e f (D:G aw)) (ug e f (D:G aw));let g:=dV (cO A false) (oY c d (D:G L)) (cO a b) (oZ e f (D:G aw));(cond (decide ((A.n:Int)>20000)) 1 (cond (h !=0) h (cond (g !=0) g 0)))
def aln:ba:=⟨[.v (.ab a5)],fun A=>⟨⟨some (aD A),.c7 [.agg [b (xx A),aI 8 gp (qC A),b (xy A),aI 7 gV (qD A)],b (KE A)]⟩⟩⟩
theorem aeN:bn 114 aln:=bq Tryz.func114
 fun A f _ e=>bu ⟨.pure,[.cell 2 49,.tmp 3],[(.c 0 0,a),(.c 0 1,.ab bd),(.c 0 2,a),(.c 0 3,.ab bT),(.t 1,a)],⟨[.agg (us 4 []),U],[]⟩⟩ (.ae (.ae (.ae (.ae (.s (.ix [(.h 2 0,a5)]) (.s (.ix [(.h 4 1,bd),(.h 4 3,bT)]) .z)))))) (let b:=aE A false;(decide ((A.n:Int)>20000))=false→((aD b∧0≤10)∧(aD (aE (oX b (aF A false) (D:G L)) (r2 b (aF A false) (D:G L)))∧0≤10))) (bJ 0 (aG LN (aG ael aT)) (aj aei (aj vg (aj auo (aj aup bI))))) Tryz.func114 ((fun d=>⟨⟨(by first|(with_reducible (repeat first|assumption|apply dG|apply dY|apply ee|apply ea|apply gh|apply c|apply fM|apply fF|apply fG|apply gf|apply fE|apply gg|apply gb|apply gd|apply gJ|apply g4|apply g5|apply hg);done)|assumption),(by omega)⟩,⟨(by first|(with_reducible (repeat first|assumption|apply dG|apply dY|apply ee|apply ea|apply gh|apply c|apply fM|apply fF|apply fG|apply gf|apply fE|apply gg|apply gb|apply gd|apply gJ|apply g4|apply g5|apply hg);done)|assumption),(by omega)⟩⟩))
end
section
variable(A:G Int)
def er:Bool:=(cond ((A.n:Int)==5) ((A.at' (toNat 0))==1) false)
def e8:Bool:=(cond (decide ((A.n:Int)>4)) ((A.at' (toNat 0))==2) false)
def rW:Bool:=(cond (decide ((A.n:Int)>7)) ((A.at' (toNat 0))==3) false)
def m1:Int:=(cond (er A) 1 (cond (e8 A) 2 3))
def m2:Int:=(cond (er A) (ek (G.part A 1 (A.n:Int))) 0)
def m3:Int:=(cond (er A) (i64.wrap ((i64.wrap (A.at' (toNat 4)))-1)) 0)
def m4:Int:=(cond (er A) 0 (cond (e8 A) (ek (G.part A 1 (A.n:Int))) 0))
def m5:Int:=(cond (er A) 0 (cond (e8 A) (Ks (G.part A 4 (A.n:Int))) 0))
def m6:Int:=(cond (er A) 0 (cond (e8 A) (Kt (G.part A 4 (A.n:Int))) 0))
def mN:Bool:=(cond (er A) false (cond (e8 A) (Ku (G.part A 4 (A.n:Int))) false))
def mO:Int:=(cond (er A) 0 (cond (e8 A) (Kv (G.part A 4 (A.n:Int))) 0))
def mP:Int:=(cond (er A) 0 (cond (e8 A) (Kw (G.part A 4 (A.n:Int))) 0))
def mQ:Int:=(cond (er A) 0 (cond (e8 A) (Kx (G.part A 4 (A.n:Int))) 0))
def mR:u:=(cond (er A) ⟨#[]⟩ (cond (e8 A) (Ky (G.part A 4 (A.n:Int))) ⟨#[]⟩))
def mS:u:=(cond (er A) ⟨#[]⟩ (cond (e8 A) (Kz (G.part A 4 (A.n:Int))) ⟨#[]⟩))
def mT:u:=(cond (er A) ⟨#[]⟩ (cond (e8 A) (KA (G.part A 4 (A.n:Int))) ⟨#[]⟩))
def mU:Int:=(cond (er A) 0 (cond (e8 A) (KB (G.part A 4 (A.n:Int))) 0))
def mV:Int:=(cond (er A) 0 (cond (e8 A) 0 (ek (G.part A 1 (A.n:Int)))))
def mW:Int:=(cond (er A) 0 (cond (e8 A) 0 (ek (G.part A 4 (A.n:Int)))))
def mX:Int:=(cond (er A) 0 (cond (e8 A) 0 (xx (G.part A 7 (A.n:Int)))))
def mY:G L:=(cond (er A) (D:G L) (cond (e8 A) (D:G L) (qC (G.part A 7 (A.n:Int)))))
def mZ:Int:=(cond (er A) 0 (cond (e8 A) 0 (xy (G.part A 7 (A.n:Int)))))
def m0:G aw:=(cond (er A) (D:G aw) (cond (e8 A) (D:G aw) (qD (G.part A 7 (A.n:Int)))))
def Dj:Int:=(cond (er A) 0 (cond (e8 A) (KC (G.part A 4 (A.n:Int))) (KE (G.part A 7 (A.n:Int)))))
def ho:Bool:=(cond (er A) true (cond (e8 A) true (cond (rW A) true false)))
def aax:Bool:=(cond ((Dj A)==0) ((ff (m1 A) (m2 A) (m3 A) (m4 A) (m5 A) (m6 A) (mN A) (mO A) (mP A) (mQ A) (mR A) (mS A) (mT A) (mU A) (mV A) (mW A) (mX A) (mY A) (mZ A) (m0 A))==0) false)
def Iy:Int:=(cond (ho A) (m1 A) 0)
def Iz:Int:=(cond (ho A) (m2 A) 0)
def IK:Int:=(cond (ho A) (m3 A) 0)
def IL:Int:=(cond (ho A) (m4 A) 0)
def IM:Int:=(cond (ho A) (m5 A) 0)
def IN:Int:=(cond (ho A) (m6 A) 0)
def IP:Bool:=(cond (ho A) (mN A) false)
def IQ:Int:=(cond (ho A) (mO A) 0)
def IS:Int:=(cond (ho A) (mP A) 0)
def IT:Int:=(cond (ho A) (mQ A) 0)
def IA:u:=(cond (ho A) (mR A) ⟨#[]⟩)
def IB:u:=(cond (ho A) (mS A) ⟨#[]⟩)
def IC:u:=(cond (ho A) (mT A) ⟨#[]⟩)
def ID:Int:=(cond (ho A) (mU A) 0)
def IE:Int:=(cond (ho A) (mV A) 0)
def IF:Int:=(cond (ho A) (mW A) 0)
def IG:Int:=(cond (ho A) (mX A) 0)
def IH:G L:=(cond (ho A) (mY A) (D:G L))
def II:Int:=(cond (ho A) (mZ A) 0)
def IJ:G aw:=(cond (ho A) (m0 A) (D:G aw))
def zz:Bool:=(cond (ho A) (aax A) false)
def aiI:ba:=⟨[.v (.ab a5)],fun A=>⟨⟨some (aD A),.c7 [.agg [b (Iy A),b (Iz A),b (IK A),b (IL A),b (IM A),b (IN A),.bool (IP A),b (IQ A),b (IS A),b (IT A),.str (IA A),.str (IB A),.str (IC A),b (ID A),b (IE A),b (IF A),b (IG A),aI 8 gp (IH A),b (II A),aI 7 gV (IJ A)],.bool (zz A)]⟩⟩⟩
theorem atP:bn 110 aiI:=bq Tryz.func110
 fun A p _ o=>bu ⟨.pure,[.cell 2 166,.tmp 3],[(.c 0 0,a),(.c 0 1,a),(.c 0 2,a),(.c 0 3,a),(.c 0 4,a),(.c 0 5,a),(.c 0 6,l),(.c 0 7,a),(.c 0 8,a),(.c 0 9,a),(.c 0 10,ai),(.c 0 11,ai),(.c 0 12,ai),(.c 0 13,a),(.c 0 14,a),(.c 0 15,a),(.c 0 16,a),(.c 0 17,.ab bd),(.c 0 18,a),(.c 0 19,.ab bT),(.t 1,l)],⟨[.agg (us 20 []),U],[]⟩⟩ (.ae (.ae (.ae (.j ⟨60,[],[(.h 1 0,a),(.h 1 1,a),(.h 1 2,a),(.h 1 3,a),(.h 1 4,a),(.h 1 5,a),(.h 1 6,l),(.h 1 7,a),(.h 1 8,a),(.h 1 9,a),(.h 1 10,ai),(.h 1 11,ai),(.h 1 12,ai),(.h 1 13,a),(.h 1 14,a),(.h 1 15,a),(.h 1 16,a),(.h 1 17,.ab bd),(.h 1 18,a),(.h 1 19,.ab bT),(.t 5,a)],[.f,(.b .f .l),(.b .f .l),.f,.f,.f,.f,.f,.f,.f,.f,.f,.f,.f,.f,.f,.f,.f,.f,.f,.f],.f⟩ (.j ⟨189,[],[(.t 7,l)],[],.f⟩ .z (.ae (.j ⟨67108925,[],[(.t 26,l)],[],.f⟩ .z (.ae (.j ⟨140737488355389,[],[(.t 47,l)],[],.f⟩ .z .z))))) (.j ⟨12,[.b 1],[(.t 3,l)],[],.f⟩ .z .z))))) (let j:=G.part A 4 (A.n:Int);let i:=G.part A 1 (A.n:Int);let h:=toNat ((A.n:Int)-1);(((A.n:Int)==5)=true→((0:Int)≤0∧0<(A.n:Int)))∧(((er A)=true→((((0:Int)≤1)∧((1:Int)≤(A.n:Int))∧(((A.n:Int):Int)≤(A.n:Int))∧(((A.n:Int):Int)≤(A.n:Int)))∧((aD i∧3≤h)∧((0:Int)≤4∧4<(A.n:Int)))))∧((er A)=false→(((decide ((A.n:Int)>4))=true→((0:Int)≤0∧0<(A.n:Int)))∧(((e8 A)=true→(((((0:Int)≤1)∧((1:Int)≤(A.n:Int))∧(((A.n:Int):Int)≤(A.n:Int))∧(((A.n:Int):Int)≤(A.n:Int)))∧(aD i∧3≤h))∧((((0:Int)≤4)∧((4:Int)≤(A.n:Int))∧(((A.n:Int):Int)≤(A.n:Int))∧(((A.n:Int):Int)≤(A.n:Int)))∧(aD j))))∧((e8 A)=false→(((decide ((A.n:Int)>7))=true→((0:Int)≤0∧0<(A.n:Int)))∧((rW A)=true→(((((0:Int)≤1)∧((1:Int)≤(A.n:Int))∧(((A.n:Int):Int)≤(A.n:Int))∧(((A.n:Int):Int)≤(A.n:Int)))∧((aD i∧3≤h)∧((((0:Int)≤4)∧((4:Int)≤(A.n:Int))∧(((A.n:Int):Int)≤(A.n:Int))∧(((A.n:Int):Int)≤(A.n:Int)))∧(aD j∧3≤(toNat ((A.n:Int)-4))))))∧((((0:Int)≤7)∧((7:Int)≤(A.n:Int))∧(((A.n:Int):Int)≤(A.n:Int))∧(((A.n:Int):Int)≤(A.n:Int)))∧(aD (G.part A 7 (A.n:Int))))))))))))) (cu (aG avN (aG aeN (aG Un (aG aeb aT))))) Tryz.func110 (⟨(fun k=>(by have:=eq_of_beq k;omega)),⟨(fun f=>⟨(by have:=f;(try simp [er]at this);omega),⟨⟨(by first|(with_reducible (repeat first|assumption|apply dG|apply dY|apply ee|apply ea|apply gh|apply e|apply fM|apply fF|apply fG|apply gf|apply fE|apply gg|apply gb|apply gd|apply gJ|apply g4|apply g5|apply hg|apply ld|apply kK|apply h8);done)|assumption),(by have:=f;(try simp [er]at this);omega)⟩,(by have:=f;(try simp [er]at this);omega)⟩⟩),(fun b=>⟨(fun m=>(by have:=b;simp [er]at this;have:=al m;omega)),⟨(fun g=>⟨⟨(by have:=b;simp [er]at this;have:=g;(try simp [e8]at this);omega),⟨(by first|(with_reducible (repeat first|assumption|apply dG|apply dY|apply ee|apply ea|apply gh|apply e|apply fM|apply fF|apply fG|apply gf|apply fE|apply gg|apply gb|apply gd|apply gJ|apply g4|apply g5|apply hg|apply ld|apply kK|apply h8);done)|assumption),(by have:=b;simp [er]at this;have:=g;(try simp [e8]at this);omega)⟩⟩,⟨(by have:=b;simp [er]at this;have:=g;(try simp [e8]at this);omega),(by first|(with_reducible (repeat first|assumption|apply dG|apply dY|apply ee|apply ea|apply gh|apply e|apply fM|apply fF|apply fG|apply gf|apply fE|apply gg|apply gb|apply gd|apply gJ|apply g4|apply g5|apply hg|apply ld|apply kK|apply h8);done)|assumption)⟩⟩),(fun c=>⟨(fun n=>(by have:=b;simp [er]at this;have:=c;simp [e8]at this;have:=al n;omega)),(fun d=>⟨⟨(by have:=b;simp [er]at this;have:=c;simp [e8]at this;have:=d;(try simp [rW]at this);omega),⟨⟨(by first|(with_reducible (repeat first|assumption|apply dG|apply dY|apply ee|apply ea|apply gh|apply e|apply fM|apply fF|apply fG|apply gf|apply fE|apply gg|apply gb|apply gd|apply gJ|apply g4|apply g5|apply hg|apply ld|apply kK|apply h8);done)|assumption),(by have:=b;simp [er]at this;have:=c;simp [e8]at this;have:=d;(try simp [rW]at this);omega)⟩,⟨(by have:=b;simp [er]at this;have:=c;simp [e8]at this;have:=d;(try simp [rW]at this);omega),⟨(by first|(with_reducible (repeat first|assumption|apply dG|apply dY|apply ee|apply ea|apply gh|apply e|apply fM|apply fF|apply fG|apply gf|apply fE|apply gg|apply gb|apply gd|apply gJ|apply g4|apply g5|apply hg|apply ld|apply kK|apply h8);done)|assumption),(by have:=b;simp [er]at this;have:=c;simp [e8]at this;have:=d;(try simp [rW]at this);omega)⟩⟩⟩⟩,⟨(by have:=b;simp [er]at this;have:=c;simp [e8]at this;have:=d;(try simp [rW]at this);omega),(by first|(with_reducible (repeat first|assumption|apply dG|apply dY|apply ee|apply ea|apply gh|apply e|apply fM|apply fF|apply fG|apply gf|apply fE|apply gg|apply gb|apply gd|apply gJ|apply g4|apply g5|apply hg|apply ld|apply kK|apply h8);done)|assumption)⟩⟩)⟩)⟩⟩)⟩⟩)
end
section
def mK(A:G Int)(g:Int):Nat→Int→G bo→Int×G bo
 |0,_,_=>default
 |k+1,az,cB=>(cond (decide ((i64.wrap (az+3))≤((br A g).n:Int))) (cond (decide ((i64.wrap ((i64.wrap (az+3))+(ek (G.part (br A g) az (((br A g).n:Nat):Int)))))>((br A g).n:Int))) (az,cB) (cond (!(zz (G.part (br A g) (i64.wrap (az+3)) (i64.wrap ((i64.wrap (az+3))+(ek (G.part (br A g) az (((br A g).n:Nat):Int)))))))) (az,cB) (mK A g k (i64.wrap (az+(i64.wrap (3+(ek (G.part (br A g) az (((br A g).n:Nat):Int))))))) (G.app cB (G.lit ([(⟨(Iy (G.part (br A g) (i64.wrap (az+3)) (i64.wrap ((i64.wrap (az+3))+(ek (G.part (br A g) az (((br A g).n:Nat):Int))))))),(Iz (G.part (br A g) (i64.wrap (az+3)) (i64.wrap ((i64.wrap (az+3))+(ek (G.part (br A g) az (((br A g).n:Nat):Int))))))),(IK (G.part (br A g) (i64.wrap (az+3)) (i64.wrap ((i64.wrap (az+3))+(ek (G.part (br A g) az (((br A g).n:Nat):Int))))))),(IL (G.part (br A g) (i64.wrap (az+3)) (i64.wrap ((i64.wrap (az+3))+(ek (G.part (br A g) az (((br A g).n:Nat):Int))))))),(IM (G.part (br A g) (i64.wrap (az+3)) (i64.wrap ((i64.wrap (az+3))+(ek (G.part (br A g) az (((br A g).n:Nat):Int))))))),(IN (G.part (br A g) (i64.wrap (az+3)) (i64.wrap ((i64.wrap (az+3))+(ek (G.part (br A g) az (((br A g).n:Nat):Int))))))),(IP (G.part (br A g) (i64.wrap (az+3)) (i64.wrap ((i64.wrap (az+3))+(ek (G.part (br A g) az (((br A g).n:Nat):Int))))))),(IQ (G.part (br A g) (i64.wrap (az+3)) (i64.wrap ((i64.wrap (az+3))+(ek (G.part (br A g) az (((br A g).n:Nat):Int))))))),(IS (G.part (br A g) (i64.wrap (az+3)) (i64.wrap ((i64.wrap (az+3))+(ek (G.part (br A g) az (((br A g).n:Nat):Int))))))),(IT (G.part (br A g) (i64.wrap (az+3)) (i64.wrap ((i64.wrap (az+3))+(ek (G.part (br A g) az (((br A g).n:Nat):Int))))))),(IA (G.part (br A g) (i64.wrap (az+3)) (i64.wrap ((i64.wrap (az+3))+(ek (G.part (br A g) az (((br A g).n:Nat):Int))))))),(IB (G.part (br A g) (i64.wrap (az+3)) (i64.wrap ((i64.wrap (az+3))+(ek (G.part (br A g) az (((br A g).n:Nat):Int))))))),(IC (G.part (br A g) (i64.wrap (az+3)) (i64.wrap ((i64.wrap (az+3))+(ek (G.part (br A g) az (((br A g).n:Nat):Int))))))),(ID (G.part (br A g) (i64.wrap (az+3)) (i64.wrap ((i64.wrap (az+3))+(ek (G.part (br A g) az (((br A g).n:Nat):Int))))))),(IE (G.part (br A g) (i64.wrap (az+3)) (i64.wrap ((i64.wrap (az+3))+(ek (G.part (br A g) az (((br A g).n:Nat):Int))))))),(IF (G.part (br A g) (i64.wrap (az+3)) (i64.wrap ((i64.wrap (az+3))+(ek (G.part (br A g) az (((br A g).n:Nat):Int))))))),(IG (G.part (br A g) (i64.wrap (az+3)) (i64.wrap ((i64.wrap (az+3))+(ek (G.part (br A g) az (((br A g).n:Nat):Int))))))),(IH (G.part (br A g) (i64.wrap (az+3)) (i64.wrap ((i64.wrap (az+3))+(ek (G.part (br A g) az (((br A g).n:Nat):Int))))))),(II (G.part (br A g) (i64.wrap (az+3)) (i64.wrap ((i64.wrap (az+3))+(ek (G.part (br A g) az (((br A g).n:Nat):Int))))))),(IJ (G.part (br A g) (i64.wrap (az+3)) (i64.wrap ((i64.wrap (az+3))+(ek (G.part (br A g) az (((br A g).n:Nat):Int)))))))⟩:bo)]:List bo)))))) (az,cB))
variable(A:G Int)(g:Int)
def lZ:Int×G bo:=mK A g ((toNat (((br A g).n:Int)-0))+1) 0 (D:G bo)
def tY:G bo:=(cond (!(hc A g)) (D:G bo) (lZ A g).2)
def wu:G Int:=(cond (!(hc A g)) (D:G Int) (G.part (br A g) 0 (lZ A g).1))
def De:Int:=(cond (!(hc A g)) 0 (fs (jU A g) (lZ A g).1))
def aoJ:Int:=(cond (!(hc A g)) 13 0)
def aiD:ba:=⟨[.g [.ab a5,a]],fun A (g:Int)=>⟨⟨some (aD A),.c7 [aI 20 Qf (tY A g),.agg [aI 1 cN (wu A g),b (De A g)],b (aoJ A g)]⟩⟩⟩
theorem atL:bn 98 aiD:=bq Tryz.func98
 fun A D _ (g:Int) C=>bu ⟨.pure,[.tmp 2,.cell 3 85,.tmp 4],[(.t 0,.ab yP),(.c 1 0,.ab a5),(.c 1 1,a),(.t 2,a)],⟨[U,.agg (us 2 []),U],[]⟩⟩ (.ae (.ae (.ae (.ae (.ae (.j ⟨444,[],[],[],.f⟩ (.cW ⟨444,[.b 0],[(.t 7,yP)],[(.t 8,a),(.h 3 0,.ad yP)],some 0,false,444,[],[(.t 8,a),(.h 3 0,.ad yP)],fun k (s:Int×G bo)=>mK A g k s.1 s.2,.f,fun(s:Int×G bo)=>(0≤s.1∧s.1≤((br A g).n:Int)∧(s.2.n:Int)≤s.1),fun(s:Int×G bo)=>(toNat (((br A g).n:Int)-s.1)),some fun(r:Int×G bo)=>(0≤r.1∧r.1≤((br A g).n:Int)∧(r.2.n:Int)≤400000)⟩ .z) .z)))))) (let e:=lZ A g;let b:=br A g;(!(hc A g))=false→((((0≤(0:Int)∧(0:Int)≤(b.n:Int)∧((0:Nat):Int)≤(0:Int)))∧(∀(az:Int) (cB:G bo),let j:=G.part b az (b.n:Int);let f:=i64.wrap (az+3);let l:=decide (f≤(b.n:Int));let h:=i64.wrap (az+(i64.wrap (3+(ek j))));let d:=i64.wrap (f+(ek j));let n:=zz (G.part b f d);let m:=decide (d>(b.n:Int));(0≤az∧az≤(b.n:Int)∧(cB.n:Int)≤az)→((l=true→(((((0:Int)≤az)∧((az:Int)≤(b.n:Int))∧(((b.n:Int):Int)≤(b.n:Int))∧(((b.n:Int):Int)≤(b.n:Int)))∧(aD j∧3≤(toNat ((b.n:Int)-az))))∧(m=false→(((((0:Int)≤f)∧((f:Int)≤d)∧((d:Int)≤d)∧((d:Int)≤(b.n:Int)))∧(aD (G.part b f d)))∧((!n)=false→(cB.n+1≤549755813888))))))∧((l=true→((m=true→((0≤az∧az≤(b.n:Int)∧(cB.n:Int)≤400000)))∧(m=false→(((!n)=true→((0≤az∧az≤(b.n:Int)∧(cB.n:Int)≤400000)))∧((!n)=false→((0≤h∧h≤(b.n:Int)∧(((cB.n+1):Nat):Int)≤h)∧(toNat ((b.n:Int)-h))<(toNat ((b.n:Int)-az))))))))∧(l=false→((0≤az∧az≤(b.n:Int)∧(cB.n:Int)≤400000)))))))∧(((0≤e.1∧e.1≤(b.n:Int)∧(e.2.n:Int)≤400000))→(((0:Int)≤0)∧((0:Int)≤e.1)∧((e.1:Int)≤e.1)∧((e.1:Int)≤(b.n:Int)))))) (cu (aG LF (aG aeb (aG atP aT)))) Tryz.func98 ((fun c=>⟨⟨(by omega),(fun az cB B=>⟨(fun o=>⟨⟨(by omega),⟨(by first|(with_reducible (repeat first|assumption|apply dG|apply dY|apply ee|apply ea|apply gh|apply i|apply fM|apply fF|apply fG|apply gf|apply fE|apply gg|apply gb|apply gd|apply gJ|apply g4|apply g5|apply hg|apply ld|apply kK|apply h8);done)|assumption),(by have:=qH _ _ (by simpa using c);have:=aw_ o (by omega) (by omega);omega)⟩⟩,(fun p=>⟨⟨(by have:=qH _ _ (by simpa using c);have:=afj p (by omega) (by omega);have:=agF (G.part (br A g) az (((br A g).n:Nat):Int)) (by first|(with_reducible (repeat first|assumption|apply dG|apply dY|apply ee|apply ea|apply gh|apply i|apply fM|apply fF|apply fG|apply gf|apply fE|apply gg|apply gb|apply gd|apply gJ|apply g4|apply g5|apply hg|apply ld|apply kK|apply h8);done)|assumption);have:=E (az+3);have:=E ((i64.wrap (az+3))+(ek (G.part (br A g) az (((br A g).n:Nat):Int))));omega),(by first|(with_reducible (repeat first|assumption|apply dG|apply dY|apply ee|apply ea|apply gh|apply i|apply fM|apply fF|apply fG|apply gf|apply fE|apply gg|apply gb|apply gd|apply gJ|apply g4|apply g5|apply hg|apply ld|apply kK|apply h8);done)|assumption)⟩,(fun v=>(by have:=qH _ _ (by simpa using c);omega))⟩)⟩),⟨(fun w=>⟨(fun x=>(by have:=qH _ _ (by simpa using c);omega)),(fun q=>⟨(fun y=>(by have:=qH _ _ (by simpa using c);omega)),(fun t=>(by have:=qH _ _ (by simpa using c);have:=afj q (by omega) (by omega);have:=agF (G.part (br A g) az (((br A g).n:Nat):Int)) (by first|(with_reducible (repeat first|assumption|apply dG|apply dY|apply ee|apply ea|apply gh|apply i|apply fM|apply fF|apply fG|apply gf|apply fE|apply gg|apply gb|apply gd|apply gJ|apply g4|apply g5|apply hg|apply ld|apply kK|apply h8);done)|assumption);have:=E (3+(ek (G.part (br A g) az (((br A g).n:Nat):Int))));have:=E (az+(i64.wrap (3+(ek (G.part (br A g) az (((br A g).n:Nat):Int))))));omega))⟩)⟩),(fun u=>(by have:=qH _ _ (by simpa using c);omega))⟩⟩)⟩,(fun z=>(by omega))⟩))
end
def LD(e:aq):Int:=sr e.q e.C e.z e.I e.w e.m e.N e.ao e.i e.aC
structure tM (b t:Int) (s:G aq):Prop where
 cM:0≤b∧b≤1048576
 t0:0≤t∧t≤1048576
 z:b=0↔t=0
 n:s.n≤200
 top:b+(s.n:Int)≤1048576
 ok: ∀i,i<s.n→LD (s.at' i)=0∧t≤(s.at' i).q
 BS: ∀i,i+1<s.n→(s.at' i).q≤(s.at' (i+1)).q∧(s.at' i).C≤(s.at' (i+1)).C
theorem axb{b t:Int}{s:G aq}(h:uV b t s=0):tM b t s:=by
 have m:=am0 b t s h;obtain⟨j,p,o,u⟩:=m;unfold uV at h;obtain⟨d,h⟩:=dv h (by decide);have n:AP t s=scan (fun i=>l9 t s i||na s i) (fun _=>13) s.n 0:=nw (ss t s) s.n _ _ (by omega) fun k i=>by
  show(cond (decide (i<(s.n:Int))) (cond (l9 t s i) (true,13) (cond (na s i) (true,13) (ss t s k (i64.wrap (i+1))))) (false,default))=_;rw[CG]
 unfold Km at h;rw[Ig n]at h;obtain⟨hh,_⟩:=dv h (by decide);have q: ∀i,i<s.n→l9 t s (i:Int)=false∧na s (i:Int)=false:=fun i f=>by
  have:=sM hh i f;simpa only[Cd]using this
 refine⟨j,p,?_,o,u,fun i f=> ?_,fun i f=> ?_⟩
 ·unfold uW at d;obtain⟨_,d⟩:=cP d;obtain⟨_,d⟩:=cP d;obtain⟨d,_⟩:=cP d;have d:((b==0)==(t==0))=true:=by simpa using d
  have e:(b==0)=(t==0):=eq_of_beq d;constructor
  ·intro l;rw[l]at e;have e:(t==0)=true:=e.symm;exact eq_of_beq e
  ·intro r;rw[r]at e;have e:(b==0)=true:=e;exact eq_of_beq e
 ·have q1:=(q i f).1;unfold l9 at q1;rw[fN]at q1;obtain⟨a,c⟩:=cP q1;have c:=db c;exact⟨bB a,by omega⟩
 ·have g:=(q (i+1) f).2;unfold na at g;rw[bS (show((i+1:Nat):Int)>0 by omega),fN,show i64.wrap (((i+1:Nat):Int)-1)=(i:Int) by rw[E _];omega,fN]at g;obtain⟨a,c⟩:=cP g;have a:=db a;have c:=db c;exact⟨by omega,by omega⟩
theorem axd{b t:Int}{s:G aq}(h:tM b t s):uV b t s=0:=by
 have w:=h.n;have x:=h.top;obtain⟨g,l⟩:=h.cM;obtain⟨r,u⟩:=h.t0;have q:uW b t s=false:=by
  unfold uW;rw[rY,rY,bS (show b≥0 from g),bS l,bS (show t≥0 from r),bS u,bp (show¬(s.n:Int)>200 by omega),E _,bp (show¬b+(s.n:Int)>1048576 by omega)];have e:((b==0)==(t==0))=true:=by
   by_cases a:b=0
   ·have c:=h.z.1 a;subst a;subst c;rfl
   ·have c:t≠0:=fun e=>a (h.z.2 e);rw[hx.2 a,hx.2 c];rfl
  rw[e];rfl
 have o:AP t s=scan (fun i=>l9 t s i||na s i) (fun _=>13) s.n 0:=nw (ss t s) s.n _ _ (by omega) fun k i=>by
  show(cond (decide (i<(s.n:Int))) (cond (l9 t s i) (true,13) (cond (na s i) (true,13) (ss t s k (i64.wrap (i+1))))) (false,default))=_;rw[CG]
 have n:AP t s=(false,default):=by
  rw[o];refine ahn s.n 0 fun j m v=> ?_;obtain⟨i,rfl⟩:=Ce m;have d:i<s.n:=by omega
  obtain⟨f,y⟩:=h.ok i d;show(l9 t s (i:Int)||na s (i:Int))=false;have aZ:l9 t s (i:Int)=false:=by
   unfold l9;rw[fN];unfold LD at f;rw[f];show decide _=false;exact bp (by omega)
  have cN:na s (i:Int)=false:=by
   unfold na
   by_cases p:i=0
   ·subst p;rfl
   ·obtain⟨k,rfl⟩: ∃k,i=k+1:=⟨i-1,by omega⟩;obtain⟨z,A⟩:=h.BS k d;rw[bS (show((k+1:Nat):Int)>0 by omega),fN,show i64.wrap (((k+1:Nat):Int)-1)=(k:Int) by rw[E _];omega,fN,bp (by omega),bp (by omega)];rfl
  rw[aZ,cN];rfl
 unfold uV Km;rw[q,n];rfl
theorem axa{b t:Int}{s:G aq}(h:cz b t s=0):tM b t s:=by
 have a:=eS b t s h;rw[acO b t s (by omega) (by omega)]at h;exact axb h
theorem UA{b t:Int}{s:G aq}(h:tM b t s):cz b t s=0:=by
 have:=h.n;have:=h.cM;rw[acO b t s (by omega) (by omega)];exact axd h
theorem axe{b t:Int}{s:G aq}(h:tM b t s){p:Int}(u:b≤p)(v:p≤b+(s.n:Int))(y:1≤p):tM p (jv b t s p) (G.part s (i64.wrap (p-b)) (s.n:Int)):=by
 have B:=h.n;have z:=h.cM;have D:=h.t0;have F:=h.top;have w:i64.wrap (p-b)=p-b:=E _;rw[w];obtain⟨k,f⟩: ∃k:Nat,p-b=(k:Int):=⟨(p-b).toNat,by omega⟩;have C:(G.part s (p-b) (s.n:Int)).n=s.n-k:=by
  rw[G.tc,f];omega
 have d: ∀i,(G.part s (p-b) (s.n:Int)).at' i=s.at' (k+i):=fun i=>by
  show s.at' (toNat (p-b)+i)=_;rw[f,fN]
 have e:jv b t s p=if k=0 then t else(s.at' (k-1)).q:=by
  unfold jv;rw[bp (show¬p<b by omega)]
  by_cases c:k=0
  ·rw[show p=b by omega,bf c];simp
  ·rw[hx.2 (show p≠b by omega),w,bp (show¬p-b>(s.n:Int) by omega),a7 c,E _,show toNat (p-b-1)=k-1 by omega];rfl
 have H:0<k→t≤(s.at' (k-1)).q:=fun c=>(h.ok (k-1) (by omega)).2;have n: ∀x:aq,LD x=0→1≤x.q∧x.q≤1048576:=fun x g=>by
  unfold LD sr at g;obtain⟨a,_⟩:=dv g (by decide);unfold xq at a;obtain⟨a,_⟩:=cP a;have a:rZ x.q=true:=by simpa using a
  unfold rZ at a;rw[rY,bL]at a;exact⟨al a.1,al a.2⟩
 have l:0≤jv b t s p∧jv b t s p≤1048576∧1≤jv b t s p:=by
  rw[e]
  by_cases c:k=0
  ·rw[bf c];have:t≠0:=fun e=>by have:=h.z.2 e;omega
   omega
  ·rw[a7 c];have:=n _ (h.ok (k-1) (by omega)).1;omega
 refine⟨by omega,⟨l.1,l.2.1⟩,⟨fun e=>by omega,fun e=>by omega⟩,by omega,by omega,fun i m=> ?_,fun i m=> ?_⟩
 ·rw[d];refine⟨(h.ok (k+i) (by omega)).1,?_⟩;rw[e]
  by_cases c:k=0
  ·rw[bf c];exact(h.ok (k+i) (by omega)).2
  ·rw[a7 c];have q: ∀j,k-1+j<s.n→(s.at' (k-1)).q≤(s.at' (k-1+j)).q:=by
    intro j
    induction j with
    |zero=>intro _;exact cR _
    |succ j o=>
     intro A;have:=o (by omega);have r:=(h.BS (k-1+j) (by omega)).1;rw[show k-1+(j+1)=k-1+j+1 by omega];omega
   have:=q (i+1) (by omega);rwa [show k-1+(i+1)=k+i by omega]at this
 ·rw[d,d,show k+(i+1)=k+i+1 by omega];exact h.BS (k+i) (by omega)
theorem axc{b t:Int}{s:G aq}(h:tM b t s){p u:Int}(j:1≤p∧p≤1048576)(q:1≤u∧u≤1048576):tM (nR b t s p u) (r6 b t s p u) (nS b t s p u):=by
 have n:=h.n;have l:=h.cM;have o:=h.top;unfold nR r6 nS
 cases m:nT b t s p u with
 |false=>
  exact⟨by simp only[aS];omega,by simp only[aS];omega,⟨fun e=>by simp only[aS]at e;omega,fun e=>by simp only[aS]at e;omega⟩,cf _,by show p+0≤_;omega,fun i a=>absurd a (en i),fun i a=>absurd a (en _)⟩
 |true=>
  simp only[aQ];unfold nT at m;have g:=UA h
  cases c:(sv b t s p==0)with
  |false=>rw[c]at m;cases m
  |true=>
   have c:=eq_of_beq c;unfold sv at c;rw[g]at c;have c:(cond (xu p) 2 (gW b s p))=0:=c;obtain⟨_,c⟩:=dv c (by decide);have f:b≤p∧p≤b+(s.n:Int):=by
    unfold gW at c;obtain⟨d,c⟩:=dv c (by decide);have d:=db d
    by_cases k:p=b
    ·omega
    ·rw[hx.2 k]at c;simp only[aS]at c;obtain⟨z,_⟩:=dv c (by decide);rw[E _]at z;have z:=db z;omega
   unfold o_ AR qv;rw[g,c];exact axe h f.1 f.2 j.1
def lj(b t:Int)(s:G aq):Prop:=cz b t s=0
theorem V0{s:G bo}{i:Nat}(h:(ff (s.at' i).q (s.at' i).C (s.at' i).z (s.at' i).I (s.at' i).w (s.at' i).m (s.at' i).N (s.at' i).ao (s.at' i).i (s.at' i).aC (s.at' i).bU (s.at' i).bY (s.at' i).bN (s.at' i).cc (s.at' i).aY (s.at' i).cU (s.at' i).eI (s.at' i).ei (s.at' i).eJ (s.at' i).ej !=0)=false):
  ((s.at' i).q=3∧(1≤(s.at' i).aY∧(s.at' i).aY≤1048576)∧(1≤(s.at' i).cU∧(s.at' i).cU≤1048576))∨((s.at' i).q=2∧(1≤(s.at' i).I∧(s.at' i).I≤1048576))∨(s.at' i).q=1:=by
 rcases V3 (bB h)with⟨e,_⟩|⟨e,q,_⟩|⟨e,q,r,_⟩
 ·exact .inr (.inr e)
 ·exact .inr (.inl ⟨e,q⟩)
 ·exact .inl ⟨e,q,r⟩
section
variable(A:Int)(g:Int)(r:G aq)(h:Int)(o:Int)(c:Int)(v:Bool)(y:Int)(p:Int)(x:Int)(R:u)(bz:u)(bP:u)(b2:Int)
def IU:Int:=A
def IV:Int:=g
def wy:G aq:=(cond (decide (h≤A)) r (cond (decide (h>(i64.wrap ((j1 A g r)+1)))) r (cond ((cz A g (G.app (G.part r 0 (i64.wrap ((i64.wrap (h-A))-1))) (G.lit ([(⟨o,c,v,y,p,x,R,bz,bP,b2⟩:aq)]:List aq))))!=0) r (G.app (G.part r 0 (i64.wrap ((i64.wrap (h-A))-1))) (G.lit ([(⟨o,c,v,y,p,x,R,bz,bP,b2⟩:aq)]:List aq))))))
def Dk:Int:=(cond (decide (h≤A)) 0 (cond (decide (h>(i64.wrap ((j1 A g r)+1)))) 10 (cond ((cz A g (G.app (G.part r 0 (i64.wrap ((i64.wrap (h-A))-1))) (G.lit ([(⟨o,c,v,y,p,x,R,bz,bP,b2⟩:aq)]:List aq))))!=0) 10 0)))
theorem ae0(A g:Int)(r:G aq)(h:lj A g r):j1 A g r=A+(r.n:Int):=by
 have a:=eS A g r h;unfold lj at h;unfold j1 oW;rw[h];show(cond (decide ((r.n:Int)>0)) _ A)=_
 by_cases e:(r.n:Int)>0
 ·rw[bS e];simp only[aQ];exact E _
 ·rw[bp e];simp only[aS];omega
def aiJ:ba:=⟨[.g [a,a,.ab dh],.v a,.g [a,a,l,a,a,a,ai,ai,ai,a]],fun(A:Int) (g:Int) r (h:Int) (o:Int) (c:Int) v (y:Int) (p:Int) (x:Int) R bz bP (b2:Int)=>⟨⟨some (lj A g r),.c7 [.agg [b (IU A),b (IV g),aI 10 dU (wy A g r h o c v y p x R bz bP b2)],b (Dk A g r h o c v y p x R bz bP b2)]⟩⟩⟩
theorem atQ:bn 112 aiJ:=bq Tryz.func112
 fun(A:Int) (g:Int) r l _ (h:Int) (o:Int) (c:Int) v (y:Int) (p:Int) (x:Int) R i bz j bP k (b2:Int) d=>bu (ms:=[.l,.l,.f,.f]) ⟨.pure,[.cell 6 43,.tmp 7],[(.c 0 0,a),(.c 0 1,a),(.c 0 2,.ab dh),(.t 1,a)],⟨[.agg (us 3 []),U],[]⟩⟩ (.z) (let b:=i64.wrap ((i64.wrap (h-A))-1);(decide (h≤A))=false→((decide (h>(i64.wrap ((j1 A g r)+1))))=false→((((0:Int)≤0)∧((0:Int)≤b)∧((b:Int)≤b)∧((b:Int)≤(r.n:Int)))∧((toNat (b-0))+1≤549755813888)))) (cu (aG vh (aG aeF (aG Bb aT)))) Tryz.func112 ((fun e=>(fun f=>⟨(by have:=hy e;have:=hy f;have:=eS A g r d;have:=ae0 A g r d;have:=E (j1 A g r+1);have:=E (h-A);have:=E ((i64.wrap (h-A))-1);omega),(by have:=hy e;have:=hy f;have:=eS A g r d;have:=ae0 A g r d;have:=E (j1 A g r+1);have:=E (h-A);have:=E ((i64.wrap (h-A))-1);omega)⟩)))
end
section
variable(A:G bo)(e:Int)(bA:Int)(hQ:Int)(hP:Int)(h9:G aq)
def QN(f:Int):Int:=(cond ((A.at' (toNat e)).q==1) (A.at' (toNat e)).C f)
def QO(aW:Int):Int:=(cond ((A.at' (toNat e)).q==1) (A.at' (toNat e)).z aW)
def Dh:Int:=(cond ((A.at' (toNat e)).q==1) bA (cond ((A.at' (toNat e)).q==2) bA (cond ((A.at' (toNat e)).q==3) (cond (decide ((A.at' (toNat e)).aY>bA)) (A.at' (toNat e)).aY bA) bA)))
def aoL(cL:Int):Int:=let a:=A.at' (toNat e);(cond (a.q==1) cL (cond (a.q==2) cL (cond (a.q==3) (cond (decide (a.aY>bA)) a.cU cL) cL)))
def aoM(b:Int):Int:=let a:=A.at' (toNat e);(cond (a.q==1) b (cond (a.q==2) b (cond (a.q==3) (cond (decide (a.aY>bA)) a.eI b) b)))
def aoN(b:G L):G L:=let a:=A.at' (toNat e);(cond (a.q==1) b (cond (a.q==2) b (cond (a.q==3) (cond (decide (a.aY>bA)) a.ei b) b)))
def aoO(b:Int):Int:=let a:=A.at' (toNat e);(cond (a.q==1) b (cond (a.q==2) b (cond (a.q==3) (cond (decide (a.aY>bA)) a.eJ b) b)))
def aoP(b:G aw):G aw:=let a:=A.at' (toNat e);(cond (a.q==1) b (cond (a.q==2) b (cond (a.q==3) (cond (decide (a.aY>bA)) a.ej b) b)))
def t_:Int:=(cond ((A.at' (toNat e)).q==1) hQ (cond ((A.at' (toNat e)).q==2) (IU hQ) (cond ((A.at' (toNat e)).q==3) (cond (decide ((A.at' (toNat e)).aY>bA)) (nR hQ hP h9 (A.at' (toNat e)).aY (A.at' (toNat e)).cU) hQ) hQ)))
def zv:Int:=(cond ((A.at' (toNat e)).q==1) hP (cond ((A.at' (toNat e)).q==2) (IV hP) (cond ((A.at' (toNat e)).q==3) (cond (decide ((A.at' (toNat e)).aY>bA)) (r6 hQ hP h9 (A.at' (toNat e)).aY (A.at' (toNat e)).cU) hP) hP)))
def tZ:G aq:=(cond ((A.at' (toNat e)).q==1) h9 (cond ((A.at' (toNat e)).q==2) (wy hQ hP h9 (A.at' (toNat e)).I (A.at' (toNat e)).w (A.at' (toNat e)).m (A.at' (toNat e)).N (A.at' (toNat e)).ao (A.at' (toNat e)).i (A.at' (toNat e)).aC (A.at' (toNat e)).bU (A.at' (toNat e)).bY (A.at' (toNat e)).bN (A.at' (toNat e)).cc) (cond ((A.at' (toNat e)).q==3) (cond (decide ((A.at' (toNat e)).aY>bA)) (nS hQ hP h9 (A.at' (toNat e)).aY (A.at' (toNat e)).cU) h9) h9)))
def oQ:Bool:=(cond ((ff (A.at' (toNat e)).q (A.at' (toNat e)).C (A.at' (toNat e)).z (A.at' (toNat e)).I (A.at' (toNat e)).w (A.at' (toNat e)).m (A.at' (toNat e)).N (A.at' (toNat e)).ao (A.at' (toNat e)).i (A.at' (toNat e)).aC (A.at' (toNat e)).bU (A.at' (toNat e)).bY (A.at' (toNat e)).bN (A.at' (toNat e)).cc (A.at' (toNat e)).aY (A.at' (toNat e)).cU (A.at' (toNat e)).eI (A.at' (toNat e)).ei (A.at' (toNat e)).eJ (A.at' (toNat e)).ej)!=0) false (cond ((A.at' (toNat e)).q==1) true (cond ((A.at' (toNat e)).q==2) (cond ((Dk hQ hP h9 (A.at' (toNat e)).I (A.at' (toNat e)).w (A.at' (toNat e)).m (A.at' (toNat e)).N (A.at' (toNat e)).ao (A.at' (toNat e)).i (A.at' (toNat e)).aC (A.at' (toNat e)).bU (A.at' (toNat e)).bY (A.at' (toNat e)).bN (A.at' (toNat e)).cc)!=0) false true) true)))
def rV(A:G bo):Nat→Int→Int→Int→Int→Int→Int→G L→Int→G aw→Int→Int→G aq→Bool×Int×Int×Int×Int×Int×G L×Int×G aw×Int×Int×G aq×Int×Int×Int×Int×Int×G L×Int×G aw×Int×Int×G aq×Int
 |0,_,_,_,_,_,_,_,_,_,_,_,_=>default
 |k+1,e,f,aW,bA,cL,a,b,c,d,hQ,hP,h9=>(cond (decide (e<(A.n:Int))) (cond (oQ A e hQ hP h9) (rV A k (i64.wrap (e+1)) (QN A e f) (QO A e aW) (Dh A e bA) (aoL A e bA cL) (aoM A e bA a) (aoN A e bA b) (aoO A e bA c) (aoP A e bA d) (t_ A e bA hQ hP h9) (zv A e bA hQ hP h9) (tZ A e bA hQ hP h9)) (cond ((ff (A.at' (toNat e)).q (A.at' (toNat e)).C (A.at' (toNat e)).z (A.at' (toNat e)).I (A.at' (toNat e)).w (A.at' (toNat e)).m (A.at' (toNat e)).N (A.at' (toNat e)).ao (A.at' (toNat e)).i (A.at' (toNat e)).aC (A.at' (toNat e)).bU (A.at' (toNat e)).bY (A.at' (toNat e)).bN (A.at' (toNat e)).cc (A.at' (toNat e)).aY (A.at' (toNat e)).cU (A.at' (toNat e)).eI (A.at' (toNat e)).ei (A.at' (toNat e)).eJ (A.at' (toNat e)).ej)!=0) (true,default,default,default,default,default,default,default,default,default,default,default,0,0,0,0,0,(D:G L),0,(D:G aw),0,0,(D:G aq),(ff (A.at' (toNat e)).q (A.at' (toNat e)).C (A.at' (toNat e)).z (A.at' (toNat e)).I (A.at' (toNat e)).w (A.at' (toNat e)).m (A.at' (toNat e)).N (A.at' (toNat e)).ao (A.at' (toNat e)).i (A.at' (toNat e)).aC (A.at' (toNat e)).bU (A.at' (toNat e)).bY (A.at' (toNat e)).bN (A.at' (toNat e)).cc (A.at' (toNat e)).aY (A.at' (toNat e)).cU (A.at' (toNat e)).eI (A.at' (toNat e)).ei (A.at' (toNat e)).eJ (A.at' (toNat e)).ej)) (true,default,default,default,default,default,default,default,default,default,default,default,0,0,0,0,0,(D:G L),0,(D:G aw),0,0,(D:G aq),(Dk hQ hP h9 (A.at' (toNat e)).I (A.at' (toNat e)).w (A.at' (toNat e)).m (A.at' (toNat e)).N (A.at' (toNat e)).ao (A.at' (toNat e)).i (A.at' (toNat e)).aC (A.at' (toNat e)).bU (A.at' (toNat e)).bY (A.at' (toNat e)).bN (A.at' (toNat e)).cc)))) (false,f,aW,bA,cL,a,b,c,d,hQ,hP,h9,default,default,default,default,default,default,default,default,default,default,default,default))
def e7:Bool×Int×Int×Int×Int×Int×G L×Int×G aw×Int×Int×G aq×Int×Int×Int×Int×Int×G L×Int×G aw×Int×Int×G aq×Int:=rV A ((toNat ((A.n:Int)-0))+1) 0 EZ E0 xg AH uP uQ uR uS xh xi xf
def kY:Bool:=(cond (e7 A).1 false true)
def zs:Int:=(cond (kY A) (e7 A).2.1 (e7 A).2.2.2.2.2.2.2.2.2.2.2.2.1)
def zt:Int:=(cond (kY A) (e7 A).2.2.1 (e7 A).2.2.2.2.2.2.2.2.2.2.2.2.2.1)
def mL:Int:=(cond (kY A) (e7 A).2.2.2.1 (e7 A).2.2.2.2.2.2.2.2.2.2.2.2.2.2.1)
def QM:Int:=(cond (kY A) (e7 A).2.2.2.2.1 (e7 A).2.2.2.2.2.2.2.2.2.2.2.2.2.2.2.1)
def Df:Int:=let a:=e7 A;(cond (kY A) (xx (jz a.2.2.2.2.2.1 a.2.2.2.2.2.2.1 a.2.2.2.2.2.2.2.1 a.2.2.2.2.2.2.2.2.1)) a.2.2.2.2.2.2.2.2.2.2.2.2.2.2.2.2.1)
def wv:G L:=(cond (kY A) (qC (jz (e7 A).2.2.2.2.2.1 (e7 A).2.2.2.2.2.2.1 (e7 A).2.2.2.2.2.2.2.1 (e7 A).2.2.2.2.2.2.2.2.1)) (e7 A).2.2.2.2.2.2.2.2.2.2.2.2.2.2.2.2.2.1)
def Dg:Int:=let a:=e7 A;(cond (kY A) (xy (jz a.2.2.2.2.2.1 a.2.2.2.2.2.2.1 a.2.2.2.2.2.2.2.1 a.2.2.2.2.2.2.2.2.1)) a.2.2.2.2.2.2.2.2.2.2.2.2.2.2.2.2.2.2.1)
def wx:G aw:=(cond (kY A) (qD (jz (e7 A).2.2.2.2.2.1 (e7 A).2.2.2.2.2.2.1 (e7 A).2.2.2.2.2.2.2.1 (e7 A).2.2.2.2.2.2.2.2.1)) (e7 A).2.2.2.2.2.2.2.2.2.2.2.2.2.2.2.2.2.2.2.1)
def oP:Int:=(cond (kY A) (e7 A).2.2.2.2.2.2.2.2.2.1 (e7 A).2.2.2.2.2.2.2.2.2.2.2.2.2.2.2.2.2.2.2.2.1)
def zu:Int:=(cond (kY A) (e7 A).2.2.2.2.2.2.2.2.2.2.1 (e7 A).2.2.2.2.2.2.2.2.2.2.2.2.2.2.2.2.2.2.2.2.2.1)
def p5:G aq:=(cond (kY A) (e7 A).2.2.2.2.2.2.2.2.2.2.2.1 (e7 A).2.2.2.2.2.2.2.2.2.2.2.2.2.2.2.2.2.2.2.2.2.2.1)
def aoK:Int:=(cond (kY A) 0 (e7 A).2.2.2.2.2.2.2.2.2.2.2.2.2.2.2.2.2.2.2.2.2.2.2)
theorem qF:lj xh xi xf:=UA ⟨by decide,by decide,⟨fun _=>rfl,fun _=>rfl⟩,cf _,by decide,fun i a=>absurd a (en i),fun i a=>absurd a (en _)⟩
theorem aqn{A g:Int}{r:G aq}{h o c:Int}{v:Bool}{y p x:Int}{R bz bP:u}{b2:Int}(a:lj A g r):lj (IU A) (IV g) (wy A g r h o c v y p x R bz bP b2):=by
 unfold IU IV wy
 cases decide (h≤A)
 ·cases decide (h>(i64.wrap ((j1 A g r)+1)))
  ·simp only[aS]
   cases e:((cz A g (G.app (G.part r 0 (i64.wrap ((i64.wrap (h-A))-1))) (G.lit ([(⟨o,c,v,y,p,x,R,bz,bP,b2⟩:aq)]:List aq))))!=0)
   ·exact bB e
   ·exact a
  ·exact a
 ·exact a
theorem qG{A:G bo}{a c b t:Int}{s:G aq}(h:lj b t s)(d:(oQ A a b t s)=true):lj (t_ A a c b t s) (zv A a c b t s) (tZ A a c b t s):=by
 unfold oQ at d;have f:=V0 (s:=A) (i:=toNat a);unfold t_ zv tZ;generalize A.at' (toNat a)=E at*
 cases e:(ff E.q E.C E.z E.I E.w E.m E.N E.ao E.i E.aC E.bU E.bY E.bN E.cc E.aY E.cU E.eI E.ei E.eJ E.ej !=0)with
 |true=>rw[e]at d;cases d
 |false=>
  have f:=f e
  cases g:(E.q==1)
  ·simp only[aS]
   cases j:(E.q==2)
   ·simp only[aS]
    cases aZ:(E.q==3)
    ·exact h
    ·simp only[aQ]
     cases decide (E.aY>c)
     ·exact h
     ·have aZ:=eq_of_beq aZ;have r:(1≤E.aY∧E.aY≤1048576)∧(1≤E.cU∧E.cU≤1048576):=by omega
      exact UA (axc (axa h) r.1 r.2)
   ·exact aqn h
  ·exact h
def aiF:ba:=⟨[.v (.ab yP)],fun A=>⟨⟨none,.c7 [.agg [b (zs A),b (zt A),b (mL A),b (QM A),b (Df A),aI 8 gp (wv A),b (Dg A),aI 7 gV (wx A),b (oP A),b (zu A),aI 10 dU (p5 A)],b (aoK A)]⟩⟩⟩
theorem atN:bn 99 aiF:=bq Tryz.func99
 fun A z _=>bu ⟨.pure,[.cell 2 94,.tmp 3],[(.c 0 0,a),(.c 0 1,a),(.c 0 2,a),(.c 0 3,a),(.c 0 4,a),(.c 0 5,.ab bd),(.c 0 6,a),(.c 0 7,.ab bT),(.c 0 8,a),(.c 0 9,a),(.c 0 10,.ab dh),(.t 1,a)],⟨[.agg (us 11 []),U],[]⟩⟩ (.ae (.ae (.j ⟨28,[],[],[],.f⟩ (.ae (.cW ⟨57372,[],[],[(.t 15,a),(.h 1 0,a),(.h 1 1,a),(.h 1 2,a),(.h 1 3,a),(.h 1 4,a),(.h 1 5,.ab bd),(.h 1 6,a),(.h 1 7,.ab bT),(.h 1 8,a),(.h 1 9,a),(.h 1 10,.ab dh)],some 0,true,28,[],[(.h 1 0,a),(.h 1 1,a),(.h 1 2,a),(.h 1 3,a),(.h 1 4,a),(.h 1 5,.ab bd),(.h 1 6,a),(.h 1 7,.ab bT),(.h 1 8,a),(.h 1 9,a),(.h 1 10,.ab dh)],fun k (s:Int×Int×Int×Int×Int×Int×G L×Int×G aw×Int×Int×G aq)=>rV A k s.1 s.2.1 s.2.2.1 s.2.2.2.1 s.2.2.2.2.1 s.2.2.2.2.2.1 s.2.2.2.2.2.2.1 s.2.2.2.2.2.2.2.1 s.2.2.2.2.2.2.2.2.1 s.2.2.2.2.2.2.2.2.2.1 s.2.2.2.2.2.2.2.2.2.2.1 s.2.2.2.2.2.2.2.2.2.2.2,.f,fun(s:Int×Int×Int×Int×Int×Int×G L×Int×G aw×Int×Int×G aq)=>(lj s.2.2.2.2.2.2.2.2.2.1 s.2.2.2.2.2.2.2.2.2.2.1 s.2.2.2.2.2.2.2.2.2.2.2∧0≤s.1∧s.1≤(A.n:Int)),fun(s:Int×Int×Int×Int×Int×Int×G L×Int×G aw×Int×Int×G aq)=>(toNat ((A.n:Int)-s.1)),none⟩ (.ae (.ae (.j ⟨511697116,[],[(.h 1 0,a),(.h 1 1,a),(.h 1 2,a),(.h 1 3,a),(.h 1 4,a),(.h 1 5,.ab bd),(.h 1 6,a),(.h 1 7,.ab bT),(.h 1 8,a),(.h 1 9,a),(.h 1 10,.ab dh)],[(.b .f .l),(.b .f .l),.f,.f,.f,.f,.f,.f,.f,.f,.f],(.b .f (.b .f (.b .f .l)))⟩ .z .z))))) .z))) (let c:=e7 A;(((lj xh xi xf∧0≤(0:Int)∧(0:Int)≤(A.n:Int)))∧(∀(e:Int) (f:Int) (aW:Int) (bA:Int) (cL:Int) (o:Int) (p:G L) (q:Int) (r:G aw) (hQ:Int) (hP:Int) (h9:G aq),let h:=decide (e<(A.n:Int));let d:=i64.wrap (e+1);let b:=A.at' (toNat e);(lj hQ hP h9∧0≤e∧e≤(A.n:Int))→((h=true→(((0:Int)≤e∧e<(A.n:Int))∧(((ff b.q b.C b.z b.I b.w b.m b.N b.ao b.i b.aC b.bU b.bY b.bN b.cc b.aY b.cU b.eI b.ei b.eJ b.ej)!=0)=false→((b.q==1)=false→(((b.q==2)=true→(lj hQ hP h9))∧((b.q==2)=false→((b.q==3)=true→((decide (b.aY>bA))=true→(b.aY≤9223372036854775807)))))))))∧(h=true→((oQ A e hQ hP h9)=true→((lj (t_ A e bA hQ hP h9) (zv A e bA hQ hP h9) (tZ A e bA hQ hP h9)∧0≤d∧d≤(A.n:Int))∧(toNat ((A.n:Int)-d))<(toNat ((A.n:Int)-e))))))))∧((kY A)=true→(aD (jz c.2.2.2.2.2.1 c.2.2.2.2.2.2.1 c.2.2.2.2.2.2.2.1 c.2.2.2.2.2.2.2.2.1)))) (cu (aG aeE (aG aeM (aG aeN (aG Un (aG Bb (aG aen (aG atQ aT)))))))) Tryz.func99 (⟨⟨⟨(by apply qF),(by omega)⟩,(fun e f aW bA cL o p q r hQ hP h9 n=>have y:=n.1;⟨(fun i=>⟨(by have:=al i;omega),(fun j=>(fun l=>⟨(fun v=>(by assumption)),(fun m=>(fun w=>(fun x=>(by have:=V0 j;have:=cZ l;have:=cZ m;omega))))⟩))⟩),(fun g=>(fun t=>⟨⟨(by repeat first|assumption|apply qG),(by have:=al g;have:=E (e+1);omega)⟩,(by have:=al g;have:=E (e+1);omega)⟩))⟩)⟩,(fun u=>(by first|(with_reducible (repeat first|assumption|apply dG|apply dY|apply ee|apply ea|apply gh|apply B|apply fM|apply fF|apply fG|apply gf|apply fE|apply gg|apply gb|apply gd|apply gJ|apply g4|apply g5|apply hg|apply ld|apply kK|apply h8|apply M0);done)|assumption))⟩)
end
theorem GY:aD (D:G Int):=fun _=>⟨cR 0,(by decide:(0:Int)≤255)⟩
theorem M0{A:G Int}{g r:Int}(h:aD A):aD (o7 A g r):=by
 unfold o7
 cases (!(hc A g))
 ·cases decide (r<0)
  ·exact ld (kK h)
  ·exact GY
 ·exact GY
def l7(A:Int)(d:H):H:=let c:=uT d.aX d.bc A;let b:=o7 d.aX d.bc A;let a:=tY b c;{d with bh:=(wP d.bh),up:=R2,ro:=wZ,a6:=(Es (zs a)),cC:=(Et (zt a)),j:=(Eu (oP a)),lt:=(Ev (zu a)),li:=(Ew (p5 a)),bX:=(Ey (mL a)),gG:=(Ee (QM a)),gH:=(Ef (Df a)),eU:=(Eg (wv a)),gI:=(Eh (Dg a)),eT:=(Ei (wx a)),e5:=(Ej (Df a)),c6:=(Ek (wv a)),eN:=(El (Dg a)),dW:=(Em (wx a)),co:=(En (mL a)),v0:=wQ,v1:=wR,v2:=wS,dX:=wT,dz:=wU,dF:=wV,g1:=wW,q1:=wX,fh:=wY,ws:=(D:G hz),aX:=(wu b c),bc:=(De b c),bw:=(D:G ah)}
def Ob(i:Nat):c8:=⟨[.p 0,.fa 0 (33*i),.v a],b4,eH,eu,fun(A:Int)=>cA fun C=>⟨⟨some (aD (C.d i).aX),[],ca ((aH.set (2*i) 10).set (2*i+1) 11) 2 (C.set i (l7 A (C.d i)))⟩⟩⟩
def alE(i:Nat):cG:=⟨.eB true [.b 10,.b 11] [.kill (2*i+1),.kill (2*i+2),.own (.h 0 (33*i+29)) dd 10,.own (.h 0 (33*i+32)) cw 11] (ga i ((aH.set (2*i) 10).set (2*i+1) 11) 2 [] 0) (fY i ((aH.set (2*i) 10).set (2*i+1) 11)),[],[]++fy i ((aH.set (2*i) 10).set (2*i+1) 11),⟨[],[]⟩⟩
def VB(i:Nat)(A:Int)(C:ak):Prop:=(aD (o7 (C.d i).aX (C.d i).bc A))
theorem ayH(i:Nat)(c:i<3)(A:Int)(C:ak)(b:ez C)(d:aD (C.d i).aX):VB i A C:=by
 have a:=gE b i c;unfold fw at a;unfold VB;exact((by first|(with_reducible (repeat first|assumption|apply dG|apply dY|apply ee|apply ea|apply gh|apply e|apply fM|apply fF|apply fG|apply gf|apply fE|apply gg|apply gb|apply gd|apply gJ|apply g4|apply g5|apply hg|apply ld|apply kK|apply h8|apply M0);done)|assumption))
theorem aww(i:Nat)(a:i<3)(A:Int):eP Tryz.prog 74 (Ob i) b4 [] (cA fun C=>⟨⟨some (aD (C.d i).aX),[],ca ((aH.set (2*i) 10).set (2*i+1) 11) 2 (C.set i (l7 A (C.d i)))⟩⟩) [b A]:=by
 refine fW fun C c=>fun d=>ef (alE i) (.z) (VB i A C) (bJ 10 (aG avK (aG atL (aG atN (aG aet aT)))) bI) Tryz.func74 [] ?_ ?_ (ayH i a A C c d)
 ·rcases bV a with rfl|rfl|rfl<;>kernel_rfl
 ·rcases bV a with rfl|rfl|rfl<;>kernel_rfl
theorem azs(i:Nat)(b:i<3):fO 74 (Ob i):=
 jq (bm:=[a]) fun s c=>Eq.mp (by rcases bV b with rfl|rfl|rfl<;>kernel_rfl) (aww i b s.1)
theorem avr(i:Nat)(a:i<3):fP 74 (Ob i):=gj fV Tryz.func74 (azs i a)
def dS(s:G aq):Prop:= ∀j,kS (s.at' j)
theorem afc{s t:G aq}(a:dS s)(b:dS t):dS (s.app t):=fun j=>by
 show kS (cond (Nat.blt j s.n) (s.at' j) (t.at' (j-s.n)))
 cases Nat.blt j s.n
 ·exact b _
 ·exact a _
theorem x1{s:G aq}(c:dS s)(a b:Int):dS (s.part a b):=fun j=>c (a.toNat+j)
theorem ad2:kS default:=⟨cf _,cf _,cf _⟩
theorem lF:dS (D:G aq):=fun _=>ad2
theorem FW{c:Bool}{a b:G aq}(d:dS a)(e:dS b):dS (cond c a b):=by
 cases c
 ·exact e
 ·exact d
theorem vf{s:G aq}(h:dS s)(j:Nat):kS (s.at' j):=h j
section
variable {A g:Int} {r:G aq} {h:Int} {c:G aq}
theorem awZ(a:dS c):dS (dO A h c):=by
 unfold dO;exact FW (x1 a _ _) a
def alM(A g:Int)(r:G aq)(h:Int)(c:G aq)(a:Bool×Int×Int×G aq×Bool×Int×Int):Prop:=
 (a.1=false∧cn A h c-A+((dO A h c).n:Int)≤(r.n:Int))∨(a.1=true∧a.2.2.2.2.2.2≠0∧a.2.2.2.2.1=false)∨
  (a.1=true∧a.2.1=A∧a.2.2.1=g∧cz A g a.2.2.2.1=0∧(a.2.2.2.1.n:Int)=cn A h c-A+((dO A h c).n:Int)∧A+1≤a.2.2.2.2.2.1∧a.2.2.2.2.2.1≤cn A h c+((dO A h c).n:Int)∧(dS r→dS c→dS a.2.2.2.1))
theorem aft(i:0≤A∧A≤1048576)(o:r.n≤200)(n:A≤cn A h c∧cn A h c≤A+(r.n:Int))(m:(dO A h c).n≤200):
  ∀(k:Nat) (v:Int),0≤v→v≤((dO A h c).n:Int)→toNat (((dO A h c).n:Int)-v)<k→cn A h c-A+v≤(r.n:Int)→alM A g r h c (nb A g r h c k v)
 |0,v,_,_,f,_=>absurd f (en _)
 |k+1,v,s,t,p,u=>by
  rw[nb]
  by_cases b:v<((dO A h c).n:Int)
  ·rw[bS b];simp only[aQ]
   cases a:qz A r h c v with
   |true=>
    have q:cn A h c-A+v<(r.n:Int):=by
     unfold qz at a;rw[E (cn A h c-A),E (cn A h c-A+v)]at a
     by_cases d:cn A h c-A+v<(r.n:Int)
     ·exact d
     ·rw[bp d]at a;cases a
    simp only[aQ];rw[E (v+1)];exact aft i o n m k (v+1) (by omega) (by omega) (by omega) (by omega)
   |false=>
    simp only[aS];rw[E (cn A h c-A),E (cn A h c-A+v),E (cn A h c+v),E (cn A h c+v+1)]
    cases e:(cz A g (G.app (G.part r 0 (cn A h c-A+v)) (G.part (dO A h c) v (((dO A h c).n:Nat):Int)))!=0)with
    |true=>exact .inr (.inl ⟨rfl,(by decide:(6:Int)≠0),rfl⟩)
    |false=>
     refine .inr (.inr ⟨rfl,rfl,rfl,bB e,?_,?_,?_,fun j l=>afc (x1 j _ _) (x1 (awZ l) _ _)⟩)
     ·show(((G.part r 0 (cn A h c-A+v)).n+(G.part (dO A h c) v (((dO A h c).n:Nat):Int)).n:Nat):Int)=_;simp only[G.tc];omega
     ·show A+1≤cn A h c+v+1;omega
     ·show cn A h c+v+1≤_;omega
  ·rw[bp b];exact .inl ⟨rfl,by omega⟩
theorem afv{o:Int}(a:hI A g r h o c=0)(b:im A g r h o c=true):
  b9 A g r h o c=A∧0≤A∧cz A (sA A g r h o c) (bZ A g r h o c)=0∧h+(c.n:Int)≤A+((bZ A g r h o c).n:Int)∧((dp A g r h o c=0∧bZ A g r h o c=r)∨(A+1≤dp A g r h o c∧dp A g r h o c≤h+(c.n:Int)))∧(0≤h∧h+(c.n:Int)≤1048576)∧(dS r→dS c→dS (bZ A g r h o c)):=by
 unfold hI at a;unfold im at b;unfold b9 sA bZ dp
 cases i:(cz A g r !=0)with
 |true=>rw[i]at a;exact absurd a (by simpa using i)
 |false=>
 cases m:(cz h o c !=0)with
 |true=>rw[i,m]at a;cases a
 |false=>
 rw[i,m]at a b;simp only[aS]at a b ⊢;have z:=eS _ _ _ (bB i);have f:=eS _ _ _ (bB m)
 cases e:n8 A g r h o c with
 |false=>
  rw[e]at a b;simp only[aS]at a b ⊢;refine⟨by first|rfl|trivial,z.1.1,bB i,?_,.inl (by first|exact⟨rfl,rfl⟩|simp),⟨f.1.1,f.2.2.2⟩,fun n _=>n⟩
  by_cases j:h<A
  ·unfold n8 at e;rw[bS j]at e;simp only[aQ]at e;have k:=ob (i64.wrap (A-h)) (c.n:Int);rw[E (A-h)]at e k;generalize fs (A-h) (c.n:Int)=q at*
   rw[E (h+q)]at e
   by_cases d:h+q<A
   ·omega
   ·rw[bp d]at e;cases e
  ·rw[bp j]at b;cases b
 |true=>
  rw[e]at a b;simp only[aQ]at a b ⊢;have t:=f75 A g r h o c e ⟨⟨z.1,z.2.2.1⟩,f.1,f.2.2.1⟩;have B:cn A h c+((dO A h c).n:Int)=h+(c.n:Int):=by
   unfold cn dO
   by_cases j:h<A
   ·rw[bS j];simp only[aQ];have k:=ob (i64.wrap (A-h)) (c.n:Int);rw[E (A-h)]at k ⊢;generalize fs (A-h) (c.n:Int)=q at*
    rw[E (h+q),G.tc];omega
   ·rw[bp j];rfl
  have s:=aft (g:=g) z.1 z.2.2.1 t.1 (by omega) (toNat (((dO A h c).n:Int)-0)+1) 0 (cR _) (by omega) (by omega) (by omega);have u:nb A g r h c (toNat (((dO A h c).n:Int)-0)+1) 0=qA A g r h c:=rfl;rw[u]at s;unfold sB at a b ⊢;rcases s with⟨q1,l⟩|⟨q1,l,p⟩|⟨q1,l,x,p,C,v,D,w⟩
  ·rw[q1]at a b ⊢;simp only[aS,aQ]at a b ⊢;exact⟨by first|rfl|trivial,z.1.1,bB i,by omega,.inl (by first|exact⟨rfl,rfl⟩|simp),⟨f.1.1,f.2.2.2⟩,fun n _=>n⟩
  ·rw[q1]at a;simp only[aS,aQ]at a;exact absurd a l
  ·have y:=eS _ _ _ p;rw[q1]at a b ⊢;simp only[aS,aQ]at a b ⊢;exact⟨l,z.1.1,by rw[x];exact p,by omega,.inr ⟨v,by omega⟩,⟨f.1.1,f.2.2.2⟩,w⟩
theorem Bp{o:Int}(d:hI A g r h o c=0)(e:(!(im A g r h o c))=false):
  b9 A g r h o c=A∧0≤A∧(A+((bZ A g r h o c).n:Int)≤1048576∧(bZ A g r h o c).n≤200)∧h+(c.n:Int)≤A+((bZ A g r h o c).n:Int)∧(dp A g r h o c=0∨(A+1≤dp A g r h o c∧dp A g r h o c≤h+(c.n:Int)))∧(0≤h∧h+(c.n:Int)≤1048576)∧(dS r→dS c→dS (bZ A g r h o c)):=by
 have a:=afv d (by simpa using e);have b:=eS _ _ _ a.2.2.1;exact⟨a.1,a.2.1,⟨b.2.2.2,b.2.2.1⟩,a.2.2.2.1,a.2.2.2.2.1.imp And.left id,a.2.2.2.2.2⟩
end
structure js (n:H):Prop where
 bh:0≤n.bh∧n.bh<3
 j:0≤n.j
 ha:n.j≤n.co
 co:n.co≤1048576
 fZ:n.li.n≤200
 dP:n.j+(n.li.n:Int)≤1048576
 ws:n.ws.n≤3000
 pp:(0≤n.dX∧n.dX≤1048577)∧(0≤n.dz∧n.dz≤1048577)∧(0≤n.dF∧n.dF≤1048577)
 li:dS n.li
 u8:aD n.aX
 bX:0≤n.bX∧n.bX≤1048576
 g2:(0≤n.g1∧n.g1≤1048576)∧(0≤n.q1∧n.q1≤1048576)∧(0≤n.fh∧n.fh≤1048576)
structure gQ (m:ah):Prop where
 lp:0≤m.q∧m.q<3
 to:0≤m.C∧m.C<3
 od:0≤m.w∧m.w≤1048576
 bX:0≤m.aC∧m.aC≤1048576
 li:dS m.i
theorem HC(d:H)(h:0≤d.j∧d.j+(d.li.n:Int)≤4194304):0≤b7 d∧b7 d≤d.j+(d.li.n:Int):=by
 show 0≤j1 d.j d.lt d.li∧j1 d.j d.lt d.li≤d.j+(d.li.n:Int);have a:=E (d.j+(d.li.n:Int));unfold j1
 cases (cz d.j d.lt d.li !=0)with
 |true=>exact⟨cR 0,by show(0:Int)≤d.j+(d.li.n:Int);omega⟩
 |false=>
  show 0≤oW d.j d.li∧oW d.j d.li≤d.j+(d.li.n:Int);unfold oW
  cases decide ((d.li.n:Int)>0)with
  |true=>rw[aQ];omega
  |false=>rw[aS];omega
def tI(C:ak)(m:ah):Prop:=0≤m.q∧m.q<3∧0≤m.C∧m.C<3∧js (C.d (toNat m.C))∧gQ m∧C.told.n≤541000000000∧C.a8.n≤549000000000
structure Hf (a:aJ):Prop where
 b1:1≤a.q∧a.q≤12
 d:0≤a.C∧a.C<3
 lI:0≤a.z
 Md:a.q=6∨a.q=7∨a.q=8∨a.q=12→a.C=0
 yq:a.N.size≤10000000000
 yr:a.ao.size≤10000000000
 ys:a.i.size≤10000000000
structure hl (k:Nat) (C:ak):Prop where
 d: ∀i,js (C.d i)
 wn: ∀i,(C.d i).ws.n≤k
 vO: ∀j,j<C.ag.n→gQ (C.ag.at' j)
 oG:C.ag.n≤300
 bw: ∀i j,j<(C.d i).bw.n→gQ ((C.d i).bw.at' j)
 on: ∀i,(C.d i).bw.n≤300
 q_:C.told.n≤180001000*k
 fZ:C.a8.n≤300*k
def eO(C:ak)(a:aJ):Prop:=(∃k,k<3000∧hl k C)∧Hf a
theorem nI{C:ak}{a:aJ}(h:eO C a)(i:Nat):js (C.d i):=by
 obtain⟨⟨k,_,b⟩,_⟩:=h;exact b.d i
theorem oN{C:ak}{a:aJ}(h:eO C a):C.told.n≤540000000000∧C.a8.n≤900000∧C.ag.n≤300:=by
 obtain⟨⟨k,e,b⟩,_⟩:=h;have c:=b.q_;have d:=b.fZ;exact⟨by omega,by omega,b.oG⟩
theorem Zn{C X:ak}{a:aJ}(h:eO C a){j:Nat}(d:j<C.ag.n)(f: ∀i,js (X.d i))(g:X.told.n≤541000000000)(e:X.a8.n≤549000000000):tI X (C.ag.at' j):=by
 obtain⟨⟨k,l,c⟩,_⟩:=h;have b:=c.vO j d;exact⟨b.lp.1,b.lp.2,b.to.1,b.to.2,f _,b,g,e⟩
theorem al_{A g h o:Int}{r:G aq} :nR A g r h o=h:=by
 unfold nR
 cases e:nT A g r h o
 ·rfl
 ·simp only[aQ];unfold nT at e
  cases c:(sv A g r h==0)
  ·rw[c]at e;cases e
  ·have a:=eq_of_beq c;unfold sv at a;unfold o_
   cases b:(cz A g r !=0)
   ·rw[b]at a;simp only[aS]at a ⊢
    cases aZ:xu h
    ·rw[aZ]at a;simp only[aS]at a;rw[show(gW A r h !=0)=false by rw[a];rfl];rfl
    ·rw[aZ,aQ]at a;exact absurd a (by decide: ¬(2:Int)=0)
   ·rw[b]at a;simp only[aQ]at a;exact absurd a (bne_iff_ne.1 b)
def Oi(a b:Int):Prop:=b=a∧0≤a∧a≤1048576
theorem aof{A:G bo}{a c b t:Int}{s:G aq}(h:Oi c b)(d:(oQ A a b t s)=true):Oi (Dh A a c) (t_ A a c b t s):=by
 unfold oQ at d;have f:=V0 (s:=A) (i:=toNat a);unfold Dh t_;generalize A.at' (toNat a)=E at*
 cases e:(ff E.q E.C E.z E.I E.w E.m E.N E.ao E.i E.aC E.bU E.bY E.bN E.cc E.aY E.cU E.eI E.ei E.eJ E.ej !=0)with
 |true=>rw[e]at d;cases d
 |false=>
  have f:=f e
  cases g:(E.q==1)
  ·simp only[aS]
   cases j:(E.q==2)
   ·simp only[aS]
    cases aZ:(E.q==3)
    ·exact h
    ·simp only[aQ]
     cases decide (E.aY>c)
     ·exact h
     ·simp only[aQ];have aZ:=eq_of_beq aZ;have r:(1≤E.aY∧E.aY≤1048576)∧(1≤E.cU∧E.cU≤1048576):=by omega
      exact⟨al_,by omega,by omega⟩
   ·exact h
  ·exact h
theorem y1{x:u}(h:x.toList=(⟨#[]⟩:u).toList):x.size=0:=by
 rw[Yw (x:=x) (by rw[h];simp)];rfl
theorem an0{b c:Bool}{nn a d e f g:List UInt8}(h:(!(b&&((nn==e)&&((a==f)&&((d==g)&&(c&&true))))))=false):nn=e∧a=f∧d=g:=by
 simp at h;exact⟨h.2.1,h.2.2.1,h.2.2.2.1⟩
theorem aAK{A:Int}{g r h:u}{o:Int}(d:e3 A g r h o=0):g.size≤20∧r.size≤20∧h.size≤20:=by
 unfold e3 at d;obtain⟨_,d⟩:=dv d (by decide);obtain⟨e,d⟩:=dv d (by decide);obtain⟨m,d⟩:=dv d (by decide);obtain⟨i,j,_⟩:=an0 e;have l:A≠22→kn g=true:=fun a=>by
  cases q:kn g
  ·simp [qu,a,q]at m
  ·rfl
 have n:4≤A→A≤6→kn r=true:=fun a b=>by
  cases q:kn r
  ·simp [qu,a,b,q]at m
  ·rfl
 have p:iX h=true:=by
  cases q:iX h
  ·exfalso
   by_cases a:A=22
   ·subst a;simp [qu,q]at m
   ·by_cases b:A≥4
    ·by_cases c:A≤6
     ·simp [qu,b,c,q]at m
     ·simp [qu,b,c,q]at m
    ·simp [qu,b,q]at m
  ·rfl
 have k: ∀y:u,kn y=true→y.size≤20:=fun y f=>by
  unfold kn DA at f
  by_cases a:(y.size:Int)≥1
  ·simp [a]at f;omega
  ·simp [a]at f
 refine⟨?_,?_,?_⟩
 ·by_cases a:A=22
  ·subst a;rw[show E1 22 g=⟨#[]⟩from rfl]at i;rw[y1 i];omega
  ·exact k _ (l a)
 ·by_cases a:4≤A∧A≤6
  ·exact k _ (n a.1 a.2)
  ·have s:(A==4)=false:=by simp;omega
   have t:(A==5)=false:=by simp;omega
   have v:(A==6)=false:=by simp;omega
   have:AM A r=⟨#[]⟩:=by
    unfold AM xp;rw[s,t,v]
    cases xn A<;>cases xo A<;>rfl
   rw[this]at j;rw[y1 j];omega
 ·have:=al p;omega
theorem Qi{a b c d:Bool}{x y z:u}(h:(!(a&&(b&&(c&&((x.toList==(⟨#[]⟩:u).toList)&&((y.toList==(⟨#[]⟩:u).toList)&&((z.toList==(⟨#[]⟩:u).toList)&&(d&&true))))))))=false):x.size≤20∧y.size≤20∧z.size≤20:=by
 simp only[Bool.not_eq_false',bL,iM]at h;rw[y1 h.2.2.2.1,y1 h.2.2.2.2.1,y1 h.2.2.2.2.2.1];omega
theorem We{A g r:Int}{h o c:u}{v:Int}(b:hd A g r h o c v=0):h.size≤20∧o.size≤20∧c.size≤20:=by
 unfold hd at b
 cases a:(A==0)
 ·rw[a,aS]at b;obtain⟨_,b⟩:=dv b (by decide);exact aAK b
 ·rw[a,aQ]at b;exact Qi (dv b (by decide)).1
theorem aAL{A g:Int}{r:Bool}{h o c:Int}{v y p:u}{x:Int}(a:e_ A g r h o c v y p x=0):kS ⟨A,g,r,h,o,c,v,y,p,x⟩:=by
 have k:v.size≤20∧y.size≤20∧p.size≤20:=by
  unfold e_ at a;obtain⟨_,a⟩:=dv a (by decide)
  cases r
  ·exact We a
  ·simp only[aQ]at a;exact Qi (dv a (by decide)).1
 exact⟨dB k.1 (by decide),dB k.2.1 (by decide),dB k.2.2 (by decide)⟩
theorem aAM{a:aJ}(h:n6 a.q a.C a.z a.I a.w a.m a.N a.ao a.i a.aC=0):(1≤a.q∧a.q≤12)∧(0≤a.C∧a.C<3)∧0≤a.z∧(a.q=6∨a.q=7∨a.q=8∨a.q=12→a.C=0)∧a.N.size≤20∧a.ao.size≤20∧a.i.size≤20:=by
 unfold n6 at h;obtain⟨i,h⟩:=dv h (by decide);obtain⟨g,h⟩:=dv h (by decide);obtain⟨f,h⟩:=dv h (by decide);have l:1≤a.q∧a.q≤12:=by
  unfold E5 at i
  by_cases p:a.q<1
  ·simp [p]at i
  ·simp [p]at i;omega
 have n:l0 a.q=true→0≤a.C∧a.C<3:=fun e=>by
  unfold AQ at g;rw[e,aQ]at g
  by_cases p:a.C<0
  ·simp [p]at g
  ·by_cases q:a.C≥3
   ·simp [p,q]at g
   ·omega
 have j:l0 a.q=false→a.C=0:=fun e=>by
  unfold xt at f;rw[e]at f
  cases q:(a.C !=0)
  ·exact bB q
  ·rw[q]at f;exact absurd f (by simp)
 have o:l1 a.q=true→0≤a.z:=fun e=>by
  unfold AQ at g;rw[e]at g
  by_cases p:a.z<0
  ·exfalso
   cases z:l0 a.q<;>rw[z]at g
   ·simp [p]at g
   ·by_cases q:a.C<0
    ·simp [q]at g
    ·by_cases r:a.C≥3
     ·simp [q,r]at g
     ·simp [p,q,r]at g
  ·omega
 have s:l1 a.q=false→a.z=0:=fun e=>by
  unfold xt at f;rw[e]at f
  cases q:(a.z !=0)
  ·exact bB q
  ·rw[q]at f;exfalso
   cases z:l0 a.q<;>rw[z]at f<;>cases y:(a.C !=0)<;>rw[y]at f<;>simp at f
 have m:a.N.size≤20∧a.ao.size≤20∧a.i.size≤20:=by
  cases q:(a.q==1)
  ·have t:(a.q !=1)=true:=by rw[bne,q];rfl
   unfold xt at f;rw[t]at f;refine Qi (a:=(a.I==0)) (b:=(a.w==0)) (c:=(a.m==0)) (d:=(a.aC==0)) ?_;revert f;generalize (!((a.I==0)&&((a.w==0)&&((a.m==0)&&((a.N.toList==(⟨#[]⟩:u).toList)&&((a.ao.toList==(⟨#[]⟩:u).toList)&&((a.i.toList==(⟨#[]⟩:u).toList)&&((a.aC==0)&&true))))))))=z;intro f
   cases z
   ·rfl
   ·exfalso
    cases z:l0 a.q<;>rw[z]at f<;>cases y:(a.C !=0)<;>rw[y]at f<;>cases x:l1 a.q<;>rw[x]at f<;>cases w:(a.z !=0)<;>rw[w]at f<;>simp at f
  ·rw[q]at h;exact We h
 refine⟨l,?_,?_,?_,m⟩
 ·cases e:l0 a.q
  ·rw[j e];decide
  ·exact n e
 ·cases e:l1 a.q
  ·rw[s e];decide
  ·exact o e
 ·intro k;apply j;rcases k with e|e|e|e<;>rw[e]<;>rfl
end Go.Proofs.YtfmgjpcmcjjoiaaGreatDoor
