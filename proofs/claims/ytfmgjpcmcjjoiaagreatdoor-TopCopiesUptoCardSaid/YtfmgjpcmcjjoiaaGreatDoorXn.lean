/- Part of a proof: walks of the program. -/
import Derived.Test.YtfmgjpcmcjjoiaaGreatDoorXl
import Derived.Test.YtfmgjpcmcjjoiaaGreatDoorXm
open Go.IntKind (i64 u64 u8)
open Int (toNat)
set_option maxRecDepth 100000
set_option maxHeartbeats 4000000
set_option linter.all false
noncomputable section
namespace Go.Proofs.YtfmgjpcmcjjoiaaGreatDoor
open Go Go.RowKit Go.ah
section
variable(i:Nat)(d:Int)(Z:H)(B:A a7)(e:Int)(m:A aj)(a1:Int)(bA:A aG)(cM:Int)(gV:Int)
def I2:Int:=let a:=Z.li.at' (toNat (i64.wrap ((i64.wrap ((i64.wrap (cM+1))-Z.l))-1)));(cond (!a.K) (aa2 e m a1 bA a.ai a.an a.p a.v a.ax a.aF a.i a.aP) e)
def I3:A aj:=let a:=Z.li.at' (toNat (i64.wrap ((i64.wrap ((i64.wrap (cM+1))-Z.l))-1)));(cond (!a.K) (aa3 e m a1 bA a.ai a.an a.p a.v a.ax a.aF a.i a.aP) m)
def I4:Int:=let a:=Z.li.at' (toNat (i64.wrap ((i64.wrap ((i64.wrap (cM+1))-Z.l))-1)));(cond (!a.K) (aa4 e m a1 bA a.ai a.an a.p a.v a.ax a.aF a.i a.aP) a1)
def I5:A aG:=let a:=Z.li.at' (toNat (i64.wrap ((i64.wrap ((i64.wrap (cM+1))-Z.l))-1)));(cond (!a.K) (aa5 e m a1 bA a.ai a.an a.p a.v a.ax a.aF a.i a.aP) bA)
def acg:Int:=let a:=Z.li.at' (toNat (i64.wrap ((i64.wrap ((i64.wrap (cM+1))-Z.l))-1)));(cond (!a.K) (aa6 e m a1 bA a.ai a.an a.p a.v a.ax a.aF a.i a.aP) 0)
def ach:z:=let a:=Z.li.at' (toNat (i64.wrap ((i64.wrap ((i64.wrap (cM+1))-Z.l))-1)));(cond (!a.K) (aa7 e m a1 bA a.ai a.an a.p a.v a.ax a.aF a.i a.aP) ⟨#[]⟩)
def aci:Int:=let a:=Z.li.at' (toNat (i64.wrap ((i64.wrap ((i64.wrap (cM+1))-Z.l))-1)));(cond (!a.K) (aa8 e m a1 bA a.ai a.an a.p a.v a.ax a.aF a.i a.aP) 0)
def acj:A z:=let a:=Z.li.at' (toNat (i64.wrap ((i64.wrap ((i64.wrap (cM+1))-Z.l))-1)));(cond (!a.K) (aa9 e m a1 bA a.ai a.an a.p a.v a.ax a.aF a.i a.aP) (L:A z))
def aqN:H:={Z with eO:=(I2 Z e m a1 bA cM),eC:=(I3 Z e m a1 bA cM),et:=(I4 Z e m a1 bA cM),eD:=(I5 Z e m a1 bA cM),co:=(i64.wrap (cM+1))}
def acf:Bool:=let b:=i64.wrap (cM+1);let a:=Z.ws.at' (toNat gV);(cond (a.j==b) (a.ai==(Z.li.at' (toNat (i64.wrap ((i64.wrap (b-Z.l))-1)))).j) false)
def Ad(b:A a7):A a7:=let a:=Z.ws.at' (toNat gV);(cond (acf Z cM gV) (A.app b (A.lit ([(⟨Z.bm,a.K,a.an,a.p,a.v,a.ax,a.aF,a.i,(acg Z e m a1 bA cM),(ach Z e m a1 bA cM),(aci Z e m a1 bA cM),(acj Z e m a1 bA cM)⟩:a7)]:List a7))) b)
def Ac(Z:H)(e:Int)(m:A aj)(a1:Int)(bA:A aG)(cM:Int):Nat→Int→A a7→Int×A a7×Bool
 |0,_,_=>default
 |k+1,gV,a=>let b:=decide (gV<(Z.ws.n:Int));(cond b (Ac Z e m a1 bA cM k (i64.wrap (gV+1)) (Ad Z e m a1 bA cM gV a)) (gV,a,b))
def Ee(a:A a7):Int×A a7×Bool:=Ac Z e m a1 bA cM ((toNat ((Z.ws.n:Int)-0))+1) 0 a
def lV(d:Int)(Z:H):Nat→Int→A aj→Int→A aG→Int→A a7→Int×A aj×Int×A aG×Int×A a7
 |0,_,_,_,_,_,_=>default
 |k+1,e,m,a1,bA,cM,a=>(cond (decide (cM<d)) (lV d Z k (I2 Z e m a1 bA cM) (I3 Z e m a1 bA cM) (I4 Z e m a1 bA cM) (I5 Z e m a1 bA cM) (i64.wrap (cM+1)) (Ee Z e m a1 bA cM a).2.1) (e,m,a1,bA,cM,a))
def oe:Int×A aj×Int×A aG×Int×A a7:=lV d Z ((toNat (d-Z.co))+1) Z.eO Z.eC Z.et Z.eD Z.co B
def mu:A a7:=(oe d Z B).2.2.2.2.2
def iB:H:={Z with eO:=(oe d Z B).1,eC:=(oe d Z B).2.1,et:=(oe d Z B).2.2.1,eD:=(oe d Z B).2.2.2.1,co:=(oe d Z B).2.2.2.2.1}
theorem afv(Z:H)(a:Int)(b:A aj)(c:Int)(d:A aG)(e:Int)(i:Z.ws.n≤549755813888): ∀(k:Nat) (v:Int) (s:A a7),0≤v→v≤(Z.ws.n:Int)→toNat ((Z.ws.n:Int)-v)<k→(((Ac Z a b c d e k v s).2.1.n:Nat):Int)≤s.n+((Z.ws.n:Int)-v)
 |0,_,_,_,_,f=>absurd f (eH _)
 |k+1,v,s,j,l,f=>by
  show(((cond (decide (v<(Z.ws.n:Int))) (Ac Z a b c d e k (i64.wrap (v+1)) (Ad Z a b c d e v s)) (v,s,decide (v<(Z.ws.n:Int)))).2.1.n:Nat):Int)≤_
  by_cases h:v<(Z.ws.n:Int)
  ·rw[bT h,aN];have m:=N (v+1);have n:=afv Z a b c d e i k (i64.wrap (v+1)) (Ad Z a b c d e v s) (by omega) (by omega) (by omega);have g:=GU (s:=Ad Z a b c d e v s) _ _ _ rfl;simp only[A.jd,A.ic,fr,hs]at g;omega
  ·rw[bI h,aQ];show(s.n:Int)≤_;omega
theorem af9(Z:H)(a:Int)(b:A aj)(c:Int)(d:A aG)(e:Int)(s:A a7)(f:Z.ws.n≤549755813888):(((Ee Z a b c d e s).2.1.n:Nat):Int)≤s.n+(Z.ws.n:Int):=by
 have h:=afv Z a b c d e f (toNat ((Z.ws.n:Int)-0)+1) 0 s (by omega) (by omega) (by omega);show(((Ac Z a b c d e (toNat ((Z.ws.n:Int)-0)+1) 0 s).2.1.n:Nat):Int)≤_;omega
def Nn:db:=⟨[.p 0,.e9 0 (33*i),.v a],b8,eL,er,fun(d:Int)=>cB fun C=>let b:=C.Z i;⟨⟨some (C.told.n≤541000000000∧b.ws.n≤3000∧0≤b.l∧b.l≤b.co∧b.co≤4194304∧d≤b.l+(b.li.n:Int)∧b.li.n≤200),[],cj aK 0 (C.put i (iB d b C.told) C.s (mu d b C.told) C.a2)⟩⟩⟩
def Wl:cI:=⟨.eA true [] [] (gj i aK 0 [] 0) (gi i aK),[],[]++fy i aK,⟨[],[]⟩⟩
def arS(C:ak):cm (Wl i).b_:=let f:=C.Z i;(.uQ ⟨7,[],[],[(.h 0 (33*i+15),a),(.h 0 (33*i+16),.af a_),(.h 0 (33*i+17),a),(.h 0 (33*i+18),.af bP),(.h 0 (33*i+19),a),(.h 8 0,.ae gr)],some 0,false,0,[],[(.h 0 (33*i+15),a),(.h 0 (33*i+16),.af a_),(.h 0 (33*i+17),a),(.h 0 (33*i+18),.af bP),(.h 0 (33*i+19),a),(.h 8 0,.ae gr)],fun k (s:Int×A aj×Int×A aG×Int×A a7)=>lV d f k s.1 s.2.1 s.2.2.1 s.2.2.2.1 s.2.2.2.2.1 s.2.2.2.2.2,.f,fun(s:Int×A aj×Int×A aG×Int×A a7)=>((f.co≤s.2.2.2.2.1∧(s.2.2.2.2.1≤d∨s.2.2.2.2.1=f.co))∧(s.2.2.2.2.2.n:Int)≤C.told.n+(s.2.2.2.2.1-f.co)*3000),fun(s:Int×A aj×Int×A aG×Int×A a7)=>(toNat (d-s.2.2.2.2.1)),some fun(r:Int×A aj×Int×A aG×Int×A a7)=>(r.2.2.2.2.2.n:Int)≤C.told.n+(max (d-f.co) 0)*3000⟩ (fun(c:Int×A aj×Int×A aG×Int×A a7)=>let g:=i64.wrap (c.2.2.2.2.1+1);let h:=i64.wrap (g-f.l);let j:=i64.wrap (h-1);let l:=toNat j;let e:=f.li.at' l;(.ad (.ad (.ad (.ad (.j ⟨17592186043591,[],[(.h 0 (33*i+15),a),(.h 0 (33*i+16),.af a_),(.h 0 (33*i+17),a),(.h 0 (33*i+18),.af bP),(.h 11 0,a),(.h 11 1,au),(.h 11 2,a),(.h 11 3,.af bL)],[],.f⟩ .z (.bU ⟨([.ptr 0 0,.ptr 0 (33*i+0),b d,U,U,U,.ptr 10 0,.ptr 11 0,U,U,.ptr 0 (33*i+0),.ptr 0 (33*i+0),.ptr 0 (33*i+19),b c.2.2.2.2.1,b d,.bool (decide (c.2.2.2.2.1<d)),.ptr 0 (33*i+0),.ptr 0 (33*i+0),.ptr 0 (33*i+19),b c.2.2.2.2.1,b g,.ptr 0 (33*i+0),.ptr 0 (33*i+19),.ptr 0 (33*i+0),.ptr 0 (33*i+0),.ptr 0 (33*i+6),.ptr 0 (33*i+8),aH 10 dU f.li,.ptr 0 (33*i+0),.ptr 0 (33*i+0),.ptr 0 (33*i+19),b g,.ptr 0 (33*i+0),.ptr 0 (33*i+0),.ptr 0 (33*i+6),.ptr 0 (33*i+6),b f.l,b h,b j,.ref [b e.j,b e.ai,.bool e.K,b e.an,b e.p,b e.v,.str e.ax,.str e.aF,.str e.i,b e.aP],.agg [b e.j,b e.ai,.bool e.K,b e.an,b e.p,b e.v,.str e.ax,.str e.aF,.str e.i,b e.aP],.ptr 10 2,.bool e.K,.bool (!e.K)]++(us 57 ([]))),cn aK 2 (C.put i (aqN f c.1 c.2.1 c.2.2.1 c.2.2.2.1 c.2.2.2.2.1) C.s c.2.2.2.2.2 C.a2) [(10,[b e.j,b e.ai,.bool e.K,b e.an,b e.p,b e.v,.str e.ax,.str e.aF,.str e.i,b e.aP]),(11,[b (acg f c.1 c.2.1 c.2.2.1 c.2.2.2.1 c.2.2.2.2.1),.str (ach f c.1 c.2.1 c.2.2.1 c.2.2.2.1 c.2.2.2.2.1),b (aci f c.1 c.2.1 c.2.2.1 c.2.2.2.1 c.2.2.2.2.1),aH 1 cK (acj f c.1 c.2.1 c.2.2.1 c.2.2.2.1 c.2.2.2.2.1)])]⟩ (.ad (.cy ⟨72634072382417403079,[],[],[(.t 65,a),(.h 8 0,.ae gr)],some 2,false,146421048677255609543,[],[(.t 65,a),(.h 8 0,.ae gr),(.t 66,y)],fun k (s:Int×A a7)=>Ac f c.1 c.2.1 c.2.2.1 c.2.2.2.1 c.2.2.2.2.1 k s.1 s.2,.f,fun(s:Int×A a7)=>((0≤s.1∧s.1≤(f.ws.n:Int))∧(s.2.n:Int)≤c.2.2.2.2.2.n+(s.1-0)),fun(s:Int×A a7)=>(toNat ((f.ws.n:Int)-s.1)),some fun(r:Int×A a7×Bool)=>(r.2.1.n:Int)≤c.2.2.2.2.2.n+max ((f.ws.n:Int)-0) 0⟩ (.ad (.ad (.j ⟨4986817853006432924860103,[.b 13],[(.h 8 0,.ae gr)],[],.f⟩ (.ad (.j ⟨4986817853006432924860103,[],[(.t 76,y),(.t 82,y)],[],.f⟩ .z .z)) .z)))))))))))))
def Uq(i:Nat)(d:Int)(C:ak):Prop:=(((((C.Z i).co≤(C.Z i).co∧((C.Z i).co≤d∨(C.Z i).co=(C.Z i).co))∧(C.told.n:Int)≤C.told.n+((C.Z i).co- (C.Z i).co)*3000))∧(∀(e:Int) (m:A aj) (a1:Int) (bA:A aG) (cM:Int) (a:A a7),(((C.Z i).co≤cM∧(cM≤d∨cM=(C.Z i).co))∧(a.n:Int)≤C.told.n+(cM- (C.Z i).co)*3000)→(((decide (cM<d))=true→(((0:Int)≤(i64.wrap ((i64.wrap ((i64.wrap (cM+1))- (C.Z i).l))-1))∧(i64.wrap ((i64.wrap ((i64.wrap (cM+1))- (C.Z i).l))-1))<(((C.Z i).li.n:Nat):Int))∧((((0≤(0:Int)∧(0:Int)≤(((C.Z i).ws.n:Nat):Int))∧(a.n:Int)≤a.n+((0:Int)-0)))∧(∀(gV:Int) (b:A a7),((0≤gV∧gV≤(((C.Z i).ws.n:Nat):Int))∧(b.n:Int)≤a.n+(gV-0))→(((decide (gV<(((C.Z i).ws.n:Nat):Int)))=true→((((0:Int)≤gV∧gV<(((C.Z i).ws.n:Nat):Int))∧((toNat gV)<(C.Z i).ws.n))∧((acf (C.Z i) cM gV)=true→(b.n+1≤549755813888))))∧(((decide (gV<(((C.Z i).ws.n:Nat):Int)))=true→(((0≤(i64.wrap (gV+1))∧(i64.wrap (gV+1))≤(((C.Z i).ws.n:Nat):Int))∧(((Ad (C.Z i) e m a1 bA cM gV b).n:Nat):Int)≤a.n+((i64.wrap (gV+1))-0))∧(toNat ((((C.Z i).ws.n:Nat):Int)- (i64.wrap (gV+1))))<(toNat ((((C.Z i).ws.n:Nat):Int)-gV))))∧((decide (gV<(((C.Z i).ws.n:Nat):Int)))=false→((b.n:Int)≤a.n+max ((((C.Z i).ws.n:Nat):Int)-0) 0))))))))∧(((decide (cM<d))=true→((((C.Z i).co≤(i64.wrap (cM+1))∧((i64.wrap (cM+1))≤d∨(i64.wrap (cM+1))=(C.Z i).co))∧(((Ee (C.Z i) e m a1 bA cM a).2.1.n:Nat):Int)≤C.told.n+((i64.wrap (cM+1))- (C.Z i).co)*3000)∧(toNat (d- (i64.wrap (cM+1))))<(toNat (d-cM))))∧((decide (cM<d))=false→((a.n:Int)≤C.told.n+(max (d- (C.Z i).co) 0)*3000))))))
theorem azv(i:Nat)(k:i<3)(d:Int)(C:ak)(h:ey C)(l:C.told.n≤541000000000∧(C.Z i).ws.n≤3000∧0≤(C.Z i).l∧(C.Z i).l≤(C.Z i).co∧(C.Z i).co≤4194304∧d≤(C.Z i).l+((C.Z i).li.n:Int)∧(C.Z i).li.n≤200):Uq i d C:=by
 have g:=gQ h i k;unfold fv at g;unfold Uq;exact have⟨v,w,x,y,z,B,D⟩:=l;(⟨(by omega),(fun e m a1 bA cM n t=>⟨(fun b=>⟨(by have:=aq b;have:=N (cM+1);have:=N ((i64.wrap (cM+1))- (C.Z i).l);have:=N ((i64.wrap ((i64.wrap (cM+1))- (C.Z i).l))-1);omega),⟨(by omega),(fun gV o u=>⟨(fun a=>⟨⟨(by have:=aq a;omega),(by have:=aq a;omega)⟩,(fun p=>(by omega))⟩),⟨(fun c=>(by have:=aq c;have j:=GU (s:=(Ad (C.Z i) e m a1 bA cM gV o)) _ _ _ rfl;(try simp only[A.jd,A.ic,A.ll,fr,hs]at j);have:=N (gV+1);omega)),(fun q=>(by omega))⟩⟩)⟩⟩),⟨(fun f=>(by have:=aq f;have:=af9 (C.Z i) e m a1 bA cM n (by omega);have:=N (cM+1);omega)),(fun r=>(by omega))⟩⟩)⟩)
theorem axr(i:Nat)(a:i<3)(d:Int):eP Tryz.prog 91 (Nn i) b8 [] (cB fun C=>⟨⟨some (C.told.n≤541000000000∧(C.Z i).ws.n≤3000∧0≤(C.Z i).l∧(C.Z i).l≤(C.Z i).co∧(C.Z i).co≤4194304∧d≤(C.Z i).l+((C.Z i).li.n:Int)∧(C.Z i).li.n≤200),[],cj aK 0 (C.put i (iB d (C.Z i) C.told) C.s (mu d (C.Z i) C.told) C.a2)⟩⟩) [b d]:=by
 refine gg fun C c=>fun e=>ei (Wl i) (arS i d C) (Uq i d C) (bK 10 (aw avE aT) bJ) Tryz.func91 [] ?_ ?_ (azv i a d C c e)
 ·rcases b3 a with rfl|rfl|rfl<;>kernel_rfl
 ·rcases b3 a with rfl|rfl|rfl<;>kernel_rfl
theorem aAd(i:Nat)(b:i<3):fV 91 (Nn i):=
 jv (bp:=[a]) fun s c=>Eq.mp (by rcases b3 b with rfl|rfl|rfl<;>kernel_rfl) (axr i b s.1)
theorem afa(i:Nat)(a:i<3):fW 91 (Nn i):=gq gf Tryz.func91 (aAd i a)
end
def H.fP(j:Nat)(n:H):H:=match j with
 |0=>{n with v0:=true}
 |1=>{n with v1:=true}
 |_=>{n with v2:=true}
def H.xk(j:Nat)(n:H):Int:=match j with
 |0=>n.eb
 |1=>n.dF
 |_=>n.dW
def H.sk(j:Nat)(n:H):Int:=match j with
 |0=>n.g6
 |1=>n.q1
 |_=>n.fp
def H.sp(j:Nat)(x:Int)(n:H):H:=match j with
 |0=>{n with eb:=x}
 |1=>{n with dF:=x}
 |_=>{n with dW:=x}
def H.oA(j:Nat)(x y:Int)(n:H):H:=match j with
 |0=>{n with eb:=x,g6:=y}
 |1=>{n with dF:=x,q1:=y}
 |_=>{n with dW:=x,fp:=y}
section
variable(e:Int)(a1:Bool)(u:A Int)(h:Bool)(r:A aj)(o:A aG)
def HR:A Int:=(bz (Da (ec u h) (ep u h)) (HS (ec u h) (ep u h)))
def aav:Bool:=(bC (Da (ec u h) (ep u h)) (HS (ec u h) (ep u h)))
def C_:A aj:=let b:=ep u h;let a:=ec u h;(A.app r (A.lit ([(⟨(o2 u h),(aaw a b),(aax a b),(aay a b),(aaz a b),(aaA a b),(aaB a b),(fa (Da a b) (HS a b))⟩:aj)]:List aj)))
def ajX:b5:=⟨[.p 0,.p 1],[(.h 0 0,a),(.h 0 2,a),(.h 2 0,.af a8),(.h 2 1,y),(.h 3 0,.ae a_),(.h 4 0,.ae bP)],[[U,.own 3 0,U,.own 4 0],[.ptr 2 0],[U,U],[U],[U]],fun(d:Int) (g:Int) u h r o=>⟨⟨some (aO u∧r.n≤1000),[],[[b d,.own 3 ((C_ u h r)).n,b g,.own 4 (o).n],[.ptr 2 0],[aH 1 cQ (HR u h),.bool (aav u h)],[(aB.ae a_).ab (C_ u h r)],[(aB.ae bP).ab o]]⟩⟩⟩
theorem avl:dB 137 ajX:=dI Tryz.func137
 fun(d:Int) (g:Int) u i h r j o k b=>dA ⟨.heap,[],[(.h 0 0,a),(.h 0 2,a),(.h 2 0,.af a8),(.h 2 1,y),(.h 3 0,.ae a_),(.h 4 0,.ae bP)],⟨[],[[U,.own 3 0,U,.own 4 0],[.ptr 2 0],[U,U],[U],[U]]⟩⟩ (.z) ((aO u)∧((aO (ec u h))∧(r.n+1≤549755813888))) (bK 5 aT (av uK (av xO (av avm bJ)))) Tryz.func137 (have⟨e,f⟩:=b;⟨(by first|(with_reducible (repeat first|assumption|apply dM|apply eW|apply eY|apply eX|apply gp|apply c|apply fQ|apply fI|apply fJ|apply gm|apply fH|apply gn|apply gk|apply gl|apply gU|apply g_|apply ha|apply ho);done)|assumption),⟨(by first|(with_reducible (repeat first|assumption|apply dM|apply eW|apply eY|apply eX|apply gp|apply c|apply fQ|apply fI|apply fJ|apply gm|apply fH|apply gn|apply gk|apply gl|apply gU|apply g_|apply ha|apply ho);done)|assumption),(by omega)⟩⟩)
theorem gU{u:A Int}{h:Bool}(a:aO u):aO (HR u h):=eW (gl (eX a))
theorem axE(u:A Int)(h:Bool)(r:A aj):(C_ u h r).n=r.n+1:=rfl
def C2:Bool:=(cond (decide (e>0)) (!a1) false)
def C1:Nat→Int→A Int→Bool→A aj→A Int×Bool×A aj
 |0,_,_,_,_=>default
 |k+1,e,m,a1,bA=>(cond (C2 e a1) (C1 k (i64.wrap (e-1)) (HR m a1) (aav m a1) (C_ m a1 bA)) (m,a1,bA))
def Qi:A Int×Bool×A aj:=C1 ((toNat (dV u h))+1) (dV u h) (dc u h) (dv u h) r
def tB:A Int:=(Qi u h r).1
def v_:Bool:=(Qi u h r).2.1
def zG:A aj:=(Qi u h r).2.2
def ajS:b5:=⟨[.p 2,.jA 137 [0,1]],[(.h 0 0,a),(.h 0 2,a),(.h 2 0,.af a8),(.h 2 1,y),(.h 3 0,.ae a_),(.h 4 0,.ae bP)],[[U,.own 3 0,U,.own 4 0],[.ptr 2 0],[U,U],[U],[U]],fun(d:Int) (g:Int) u h r o=>let c:=zG u h r;⟨⟨some (aO u∧r.n≤10),[],[[b d,.own 3 (c).n,b g,.own 4 (o).n],[.ptr 2 0],[aH 1 cQ (tB u h r),.bool (v_ u h r)],[(aB.ae a_).ab c],[(aB.ae bP).ab o]]⟩⟩⟩
theorem avg:dB 136 ajS:=dI Tryz.func136
 fun(d:Int) (g:Int) u v h r w o x l=>dA ⟨.heap,[],[(.h 0 0,a),(.h 0 2,a),(.h 2 0,.af a8),(.h 2 1,y),(.h 3 0,.ae a_),(.h 4 0,.ae bP)],⟨[],[[U,.own 3 0,U,.own 4 0],[.ptr 2 0],[U,U],[U],[U]]⟩⟩ (.ad (.cy ⟨19,[],[],[(.t 4,a),(.h 2 0,.af a8),(.h 2 1,y),(.h 3 0,.ae a_)],some 0,false,0,[],[(.h 2 0,.af a8),(.h 2 1,y),(.h 3 0,.ae a_)],fun k (s:Int×A Int×Bool×A aj)=>C1 k s.1 s.2.1 s.2.2.1 s.2.2.2,.f,fun(s:Int×A Int×Bool×A aj)=>(aO s.2.1∧0≤s.1∧s.1≤255∧(s.2.2.2.n:Int)≤(r.n:Int)+255-s.1),fun(s:Int×A Int×Bool×A aj)=>(toNat s.1),none⟩ (.s (.j ⟨33683,[],[(.t 9,y),(.t 15,y)],[],.f⟩ .z .z) .z))) (((aO (dc u h)∧0≤(dV u h)∧(dV u h)≤255∧(r.n:Int)≤(r.n:Int)+255- (dV u h)))∧(∀(e:Int) (m:A Int) (a1:Bool) (bA:A aj),let i:=C2 e a1;let b:=i64.wrap (e-1);(aO m∧0≤e∧e≤255∧(bA.n:Int)≤(r.n:Int)+255-e)→((i=true→(aO m∧bA.n≤1000))∧(i=true→((aO (HR m a1)∧0≤b∧b≤255∧(((C_ m a1 bA).n:Nat):Int)≤(r.n:Int)+255-b)∧(toNat b)<(toNat e)))))) (bK 5 aT (av avl (av qI bJ))) Tryz.func136 (have⟨p,q⟩:=l;⟨⟨(by first|(with_reducible (repeat first|assumption|apply dM|apply eW|apply eY|apply eX|apply gp|apply c|apply fQ|apply fI|apply fJ|apply gm|apply fH|apply gn|apply gk|apply gl|apply gU|apply g_|apply ha|apply ho);done)|assumption),(by have:=Bk u h (by first|(with_reducible (repeat first|assumption|apply dM|apply eW|apply eY|apply eX|apply gp|apply c|apply fQ|apply fI|apply fJ|apply gm|apply fH|apply gn|apply gk|apply gl|apply gU|apply g_|apply ha|apply ho);done)|assumption);omega)⟩,(fun e m a1 bA j=>have t:=j.1;⟨(fun n=>⟨(by first|(with_reducible (repeat first|assumption|apply dM|apply eW|apply eY|apply eX|apply gp|apply c|apply fQ|apply fI|apply fJ|apply gm|apply fH|apply gn|apply gk|apply gl|apply gU|apply g_|apply ha|apply ho);done)|assumption),(by omega)⟩),(fun f=>⟨⟨(by first|(with_reducible (repeat first|assumption|apply dM|apply eW|apply eY|apply eX|apply gp|apply c|apply fQ|apply fI|apply fJ|apply gm|apply fH|apply gn|apply gk|apply gl|apply gU|apply g_|apply ha|apply ho);done)|assumption),(by have:=f;(try simp [C2]at this);have:=axE m a1 bA;have:=N (e-1);omega)⟩,(by have:=f;(try simp [C2]at this);have:=N (e-1);omega)⟩)⟩)⟩)
theorem ah8: ∀(m:Nat) (n:Int) (s:A Int) (b:Bool) (l:A aj),aO s→aO (C1 m n s b l).1
 |0,_,_,_,_,_=>fun i=>by show(0:Int)≤0∧(0:Int)≤255;omega
 |m+1,n,s,b,l,h=>by
  rw[C1]
  cases C2 n b
  ·exact h
  ·exact ah8 m _ _ _ _ (gU h)
theorem g_{u:A Int}{h:Bool}{r:A aj}(a:aO u):aO (tB u h r):=ah8 _ _ _ _ _ (eY a)
def HT:A Int:=let d:=bC (bz u h) (bC u h);let c:=bz (bz u h) (bC u h);let b:=bC c d;let a:=bz c d;let f:=ep (dc a b) (dv a b);let e:=ec (dc a b) (dv a b);(wb (bz e f) (bC e f))
def aaC:Bool:=let d:=bC (bz u h) (bC u h);let c:=bz (bz u h) (bC u h);let b:=bC c d;let a:=bz c d;let f:=ep (dc a b) (dv a b);let e:=ec (dc a b) (dv a b);(Dc (bz e f) (bC e f))
def Db:A aG:=let i:=bC u h;let g:=bz u h;let d:=bC g i;let c:=bz g i;let b:=bC c d;let a:=bz c d;let k:=dv a b;let j:=dc a b;let f:=ep j k;let e:=ec j k;(A.app o (A.lit ([(⟨(fa u h),(fa g i),(fa c d),(dV a b),(o2 j k),(fa e f),(Qq (bz e f) (bC e f))⟩:aG)]:List aG)))
def aj0:b5:=⟨[.p 0,.p 1],[(.h 1 0,a),(.h 1 2,a),(.h 2 0,.af a8),(.h 2 1,y),(.h 3 0,.ae a_),(.h 4 0,.ae bP)],[[.ptr 2 0],[U,.own 3 0,U,.own 4 0],[U,U],[U],[U]],fun(d:Int) (g:Int) u h r o=>⟨⟨some (aO u∧o.n≤1000),[],[[.ptr 2 0],[b d,.own 3 (r).n,b g,.own 4 ((Db u h o)).n],[aH 1 cQ (HT u h),.bool (aaC u h)],[(aB.ae a_).ab r],[(aB.ae bP).ab (Db u h o)]]⟩⟩⟩
theorem avn:dB 140 aj0:=dI Tryz.func140
 fun(d:Int) (g:Int) u m h r n o p i=>dA ⟨.heap,[],[(.h 1 0,a),(.h 1 2,a),(.h 2 0,.af a8),(.h 2 1,y),(.h 3 0,.ae a_),(.h 4 0,.ae bP)],⟨[],[[.ptr 2 0],[U,.own 3 0,U,.own 4 0],[U,U],[U],[U]]⟩⟩ (.z) (let c:=bC (bz u h) (bC u h);let b:=bz (bz u h) (bC u h);let f:=dv (bz b c) (bC b c);let e:=dc (bz b c) (bC b c);(aO e)∧((aO (bz (ec e f) (ep e f)))∧(o.n+1≤549755813888))) (bK 5 aT (av uK (av xO (av qI (av aeS bJ))))) Tryz.func140 (have⟨k,l⟩:=i;⟨(by first|(with_reducible (repeat first|assumption|apply dM|apply eW|apply eY|apply eX|apply gp|apply j|apply fQ|apply fI|apply fJ|apply gm|apply fH|apply gn|apply gk|apply gl|apply gU|apply g_|apply ha|apply ho);done)|assumption),⟨(by first|(with_reducible (repeat first|assumption|apply dM|apply eW|apply eY|apply eX|apply gp|apply j|apply fQ|apply fI|apply fJ|apply gm|apply fH|apply gn|apply gk|apply gl|apply gU|apply g_|apply ha|apply ho);done)|assumption),(by omega)⟩⟩)
theorem ha{u:A Int}{h:Bool}(a:aO u):aO (HT u h):=fJ (eW (eX (eY (eW (eW (eW a))))))
theorem axF(u:A Int)(h:Bool)(o:A aG):(Db u h o).n=o.n+1:=rfl
def HQ:Bool:=(cond (decide (e>0)) (!a1) false)
def Qj:Nat→Int→A Int→Bool→A aG→A Int×Bool×A aG
 |0,_,_,_,_=>default
 |k+1,e,m,a1,bA=>(cond (HQ e a1) (Qj k (i64.wrap (e-1)) (HT m a1) (aaC m a1) (Db m a1 bA)) (m,a1,bA))
def Qk:A Int×Bool×A aG:=Qj ((toNat (dV u h))+1) (dV u h) (dc u h) (dv u h) o
def zH:A Int:=(Qk u h o).1
def zI:Bool:=(Qk u h o).2.1
def zJ:A aG:=(Qk u h o).2.2
def ajT:b5:=⟨[.p 2,.jA 140 [0,1]],[(.h 1 0,a),(.h 1 2,a),(.h 2 0,.af a8),(.h 2 1,y),(.h 3 0,.ae a_),(.h 4 0,.ae bP)],[[.ptr 2 0],[U,.own 3 0,U,.own 4 0],[U,U],[U],[U]],fun(d:Int) (g:Int) u h r o=>let c:=zJ u h o;⟨⟨some (aO u∧o.n≤10),[],[[.ptr 2 0],[b d,.own 3 (r).n,b g,.own 4 (c).n],[aH 1 cQ (zH u h o),.bool (zI u h o)],[(aB.ae a_).ab r],[(aB.ae bP).ab c]]⟩⟩⟩
theorem avh:dB 136 ajT:=dI Tryz.func136
 fun(d:Int) (g:Int) u v h r w o x l=>dA ⟨.heap,[],[(.h 1 0,a),(.h 1 2,a),(.h 2 0,.af a8),(.h 2 1,y),(.h 3 0,.ae a_),(.h 4 0,.ae bP)],⟨[],[[.ptr 2 0],[U,.own 3 0,U,.own 4 0],[U,U],[U],[U]]⟩⟩ (.ad (.cy ⟨19,[],[],[(.t 4,a),(.h 2 0,.af a8),(.h 2 1,y),(.h 4 0,.ae bP)],some 0,false,0,[],[(.h 2 0,.af a8),(.h 2 1,y),(.h 4 0,.ae bP)],fun k (s:Int×A Int×Bool×A aG)=>Qj k s.1 s.2.1 s.2.2.1 s.2.2.2,.f,fun(s:Int×A Int×Bool×A aG)=>(aO s.2.1∧0≤s.1∧s.1≤255∧(s.2.2.2.n:Int)≤(o.n:Int)+255-s.1),fun(s:Int×A Int×Bool×A aG)=>(toNat s.1),none⟩ (.s (.j ⟨33683,[],[(.t 9,y),(.t 15,y)],[],.f⟩ .z .z) .z))) (((aO (dc u h)∧0≤(dV u h)∧(dV u h)≤255∧(o.n:Int)≤(o.n:Int)+255- (dV u h)))∧(∀(e:Int) (m:A Int) (a1:Bool) (bA:A aG),let i:=HQ e a1;let b:=i64.wrap (e-1);(aO m∧0≤e∧e≤255∧(bA.n:Int)≤(o.n:Int)+255-e)→((i=true→(aO m∧bA.n≤1000))∧(i=true→((aO (HT m a1)∧0≤b∧b≤255∧(((Db m a1 bA).n:Nat):Int)≤(o.n:Int)+255-b)∧(toNat b)<(toNat e)))))) (bK 5 aT (av avn (av qI bJ))) Tryz.func136 (have⟨p,q⟩:=l;⟨⟨(by first|(with_reducible (repeat first|assumption|apply dM|apply eW|apply eY|apply eX|apply gp|apply c|apply fQ|apply fI|apply fJ|apply gm|apply fH|apply gn|apply gk|apply gl|apply gU|apply g_|apply ha|apply ho);done)|assumption),(by have:=Bk u h (by first|(with_reducible (repeat first|assumption|apply dM|apply eW|apply eY|apply eX|apply gp|apply c|apply fQ|apply fI|apply fJ|apply gm|apply fH|apply gn|apply gk|apply gl|apply gU|apply g_|apply ha|apply ho);done)|assumption);omega)⟩,(fun e m a1 bA j=>have t:=j.1;⟨(fun n=>⟨(by first|(with_reducible (repeat first|assumption|apply dM|apply eW|apply eY|apply eX|apply gp|apply c|apply fQ|apply fI|apply fJ|apply gm|apply fH|apply gn|apply gk|apply gl|apply gU|apply g_|apply ha|apply ho);done)|assumption),(by omega)⟩),(fun f=>⟨⟨(by first|(with_reducible (repeat first|assumption|apply dM|apply eW|apply eY|apply eX|apply gp|apply c|apply fQ|apply fI|apply fJ|apply gm|apply fH|apply gn|apply gk|apply gl|apply gU|apply g_|apply ha|apply ho);done)|assumption),(by have:=f;(try simp [HQ]at this);have:=axF m a1 bA;have:=N (e-1);omega)⟩,(by have:=f;(try simp [HQ]at this);have:=N (e-1);omega)⟩)⟩)⟩)
end
section
variable(d:A Int)
def RA:Int:=let e:=bC d false;let c:=bz d false;let b:=v_ c e (L:A aj);let a:=tB c e (L:A aj);let g:=bC a b;let f:=bz a b;(cond (decide ((d.n:Int)>20000)) 0 (cond ((ky true (zH f g (L:A aG)) (zI f g (L:A aG)))!=0) 0 (cond ((gA (fa d false) (zG c e (L:A aj)) (fa a b) (zJ f g (L:A aG)))!=0) 0 (fa d false))))
def RB:A aj:=let e:=bC d false;let c:=bz d false;let h:=zG c e (L:A aj);let b:=v_ c e (L:A aj);let a:=tB c e (L:A aj);let g:=bC a b;let f:=bz a b;(cond (decide ((d.n:Int)>20000)) (L:A aj) (cond ((ky true (zH f g (L:A aG)) (zI f g (L:A aG)))!=0) (L:A aj) (cond ((gA (fa d false) h (fa a b) (zJ f g (L:A aG)))!=0) (L:A aj) h)))
def RC:Int:=let e:=bC d false;let c:=bz d false;let b:=v_ c e (L:A aj);let a:=tB c e (L:A aj);let g:=bC a b;let f:=bz a b;(cond (decide ((d.n:Int)>20000)) 0 (cond ((ky true (zH f g (L:A aG)) (zI f g (L:A aG)))!=0) 0 (cond ((gA (fa d false) (zG c e (L:A aj)) (fa a b) (zJ f g (L:A aG)))!=0) 0 (fa a b))))
def RD:A aG:=let e:=bC d false;let c:=bz d false;let b:=v_ c e (L:A aj);let a:=tB c e (L:A aj);let g:=bC a b;let f:=bz a b;let h:=zJ f g (L:A aG);(cond (decide ((d.n:Int)>20000)) (L:A aG) (cond ((ky true (zH f g (L:A aG)) (zI f g (L:A aG)))!=0) (L:A aG) (cond ((gA (fa d false) (zG c e (L:A aj)) (fa a b) h)!=0) (L:A aG) h)))
def adi:Int:=let e:=bC d false;let c:=bz d false;let b:=v_ c e (L:A aj);let a:=tB c e (L:A aj);let g:=bC a b;let f:=bz a b;let i:=ky true (zH f g (L:A aG)) (zI f g (L:A aG));let h:=gA (fa d false) (zG c e (L:A aj)) (fa a b) (zJ f g (L:A aG));(cond (decide ((d.n:Int)>20000)) 1 (cond (i !=0) i (cond (h !=0) h 0)))
def alZ:a6:=⟨[.v (.af a8)],fun d=>⟨⟨some (aO d),.c9 [.agg [b (RA d),aH 8 fZ (RB d),b (RC d),aH 7 gK (RD d)],b (adi d)]⟩⟩⟩
theorem afl:bg 114 alZ:=bj Tryz.func114
 fun d g _ f=>bf ⟨.pure,[.cell 2 49,.tmp 3],[(.c 0 0,a),(.c 0 1,.af a_),(.c 0 2,a),(.c 0 3,.af bP),(.t 1,a)],⟨[.agg (us 4 []),U],[]⟩⟩ (.ad (.ad (.ad (.ad (.s (.ir [(.h 2 0,a8)]) (.s (.ir [(.h 4 1,a_),(.h 4 3,bP)]) .z)))))) (let b:=bz d false;(decide ((d.n:Int)>20000))=false→((aO b∧0≤10)∧(aO (bz (tB b (bC d false) (L:A aj)) (v_ b (bC d false) (L:A aj)))∧0≤10))) (bK 0 (aw K1 (aw aeR aT)) (av aeO (av uK (av avg (av avh bJ))))) Tryz.func114 ((fun e=>⟨⟨(by first|(with_reducible (repeat first|assumption|apply dM|apply eW|apply eY|apply eX|apply gp|apply c|apply fQ|apply fI|apply fJ|apply gm|apply fH|apply gn|apply gk|apply gl|apply gU|apply g_|apply ha|apply ho);done)|assumption),(by omega)⟩,⟨(by first|(with_reducible (repeat first|assumption|apply dM|apply eW|apply eY|apply eX|apply gp|apply c|apply fQ|apply fI|apply fJ|apply gm|apply fH|apply gn|apply gk|apply gl|apply gU|apply g_|apply ha|apply ho);done)|assumption),(by omega)⟩⟩))
end
section
variable(d:A Int)
def e1:Bool:=(cond ((d.n:Int)==5) ((d.at' (toNat 0))==1) false)
def fM:Bool:=(cond (decide ((d.n:Int)>4)) ((d.at' (toNat 0))==2) false)
def vV:Bool:=(cond (decide ((d.n:Int)>7)) ((d.at' (toNat 0))==3) false)
def ZQ:Int:=(cond (e1 d) 1 (cond (fM d) 2 3))
def ZR:Int:=(cond (e1 d) (ea (A.part d 1 (d.n:Int))) 0)
def ZS:Int:=(cond (e1 d) (i64.wrap ((i64.wrap (d.at' (toNat 4)))-1)) 0)
def ZT:Int:=(cond (e1 d) 0 (cond (fM d) (ea (A.part d 1 (d.n:Int))) 0))
def ZU:Int:=(cond (e1 d) 0 (cond (fM d) (ac4 (A.part d 4 (d.n:Int))) 0))
def ZV:Int:=(cond (e1 d) 0 (cond (fM d) (ac5 (A.part d 4 (d.n:Int))) 0))
def ZC:Bool:=(cond (e1 d) false (cond (fM d) (ac6 (A.part d 4 (d.n:Int))) false))
def ZD:Int:=(cond (e1 d) 0 (cond (fM d) (ac7 (A.part d 4 (d.n:Int))) 0))
def ZE:Int:=(cond (e1 d) 0 (cond (fM d) (ac8 (A.part d 4 (d.n:Int))) 0))
def ZF:Int:=(cond (e1 d) 0 (cond (fM d) (ac9 (A.part d 4 (d.n:Int))) 0))
def ZG:z:=(cond (e1 d) ⟨#[]⟩ (cond (fM d) (ac_ (A.part d 4 (d.n:Int))) ⟨#[]⟩))
def ZH:z:=(cond (e1 d) ⟨#[]⟩ (cond (fM d) (ada (A.part d 4 (d.n:Int))) ⟨#[]⟩))
def ZI:z:=(cond (e1 d) ⟨#[]⟩ (cond (fM d) (adb (A.part d 4 (d.n:Int))) ⟨#[]⟩))
def ZJ:Int:=(cond (e1 d) 0 (cond (fM d) (ade (A.part d 4 (d.n:Int))) 0))
def ZK:Int:=(cond (e1 d) 0 (cond (fM d) 0 (ea (A.part d 1 (d.n:Int)))))
def ZL:Int:=(cond (e1 d) 0 (cond (fM d) 0 (ea (A.part d 4 (d.n:Int)))))
def ZM:Int:=(cond (e1 d) 0 (cond (fM d) 0 (RA (A.part d 7 (d.n:Int)))))
def ZN:A aj:=(cond (e1 d) (L:A aj) (cond (fM d) (L:A aj) (RB (A.part d 7 (d.n:Int)))))
def ZO:Int:=(cond (e1 d) 0 (cond (fM d) 0 (RC (A.part d 7 (d.n:Int)))))
def ZP:A aG:=(cond (e1 d) (L:A aG) (cond (fM d) (L:A aG) (RD (A.part d 7 (d.n:Int)))))
def apF:Int:=(cond (e1 d) 0 (cond (fM d) (adf (A.part d 4 (d.n:Int))) (adi (A.part d 7 (d.n:Int)))))
def iI:Bool:=(cond (e1 d) true (cond (fM d) true (cond (vV d) true false)))
def apG:Bool:=(cond ((apF d)==0) ((jG (ZQ d) (ZR d) (ZS d) (ZT d) (ZU d) (ZV d) (ZC d) (ZD d) (ZE d) (ZF d) (ZG d) (ZH d) (ZI d) (ZJ d) (ZK d) (ZL d) (ZM d) (ZN d) (ZO d) (ZP d))==0) false)
def Zi:Int:=(cond (iI d) (ZQ d) 0)
def Zj:Int:=(cond (iI d) (ZR d) 0)
def Zu:Int:=(cond (iI d) (ZS d) 0)
def Zv:Int:=(cond (iI d) (ZT d) 0)
def Zw:Int:=(cond (iI d) (ZU d) 0)
def Zx:Int:=(cond (iI d) (ZV d) 0)
def Zy:Bool:=(cond (iI d) (ZC d) false)
def Zz:Int:=(cond (iI d) (ZD d) 0)
def ZA:Int:=(cond (iI d) (ZE d) 0)
def ZB:Int:=(cond (iI d) (ZF d) 0)
def Zk:z:=(cond (iI d) (ZG d) ⟨#[]⟩)
def Zl:z:=(cond (iI d) (ZH d) ⟨#[]⟩)
def Zm:z:=(cond (iI d) (ZI d) ⟨#[]⟩)
def Zn:Int:=(cond (iI d) (ZJ d) 0)
def Zo:Int:=(cond (iI d) (ZK d) 0)
def Zp:Int:=(cond (iI d) (ZL d) 0)
def Zq:Int:=(cond (iI d) (ZM d) 0)
def Zr:A aj:=(cond (iI d) (ZN d) (L:A aj))
def Zs:Int:=(cond (iI d) (ZO d) 0)
def Zt:A aG:=(cond (iI d) (ZP d) (L:A aG))
def Hz:Bool:=(cond (iI d) (apG d) false)
def ai2:a6:=⟨[.v (.af a8)],fun d=>⟨⟨some (aO d),.c9 [.agg [b (Zi d),b (Zj d),b (Zu d),b (Zv d),b (Zw d),b (Zx d),.bool (Zy d),b (Zz d),b (ZA d),b (ZB d),.str (Zk d),.str (Zl d),.str (Zm d),b (Zn d),b (Zo d),b (Zp d),b (Zq d),aH 8 fZ (Zr d),b (Zs d),aH 7 gK (Zt d)],.bool (Hz d)]⟩⟩⟩
theorem auL:bg 110 ai2:=bj Tryz.func110
 fun d p _ o=>bf ⟨.pure,[.cell 2 166,.tmp 3],[(.c 0 0,a),(.c 0 1,a),(.c 0 2,a),(.c 0 3,a),(.c 0 4,a),(.c 0 5,a),(.c 0 6,y),(.c 0 7,a),(.c 0 8,a),(.c 0 9,a),(.c 0 10,au),(.c 0 11,au),(.c 0 12,au),(.c 0 13,a),(.c 0 14,a),(.c 0 15,a),(.c 0 16,a),(.c 0 17,.af a_),(.c 0 18,a),(.c 0 19,.af bP),(.t 1,y)],⟨[.agg (us 20 []),U],[]⟩⟩ (.ad (.ad (.ad (.j ⟨60,[],[(.h 1 0,a),(.h 1 1,a),(.h 1 2,a),(.h 1 3,a),(.h 1 4,a),(.h 1 5,a),(.h 1 6,y),(.h 1 7,a),(.h 1 8,a),(.h 1 9,a),(.h 1 10,au),(.h 1 11,au),(.h 1 12,au),(.h 1 13,a),(.h 1 14,a),(.h 1 15,a),(.h 1 16,a),(.h 1 17,.af a_),(.h 1 18,a),(.h 1 19,.af bP),(.t 5,a)],[.f,(.b .f .l),(.b .f .l),.f,.f,.f,.f,.f,.f,.f,.f,.f,.f,.f,.f,.f,.f,.f,.f,.f,.f],.f⟩ (.j ⟨189,[],[(.t 7,y)],[],.f⟩ .z (.ad (.j ⟨67108925,[],[(.t 26,y)],[],.f⟩ .z (.ad (.j ⟨140737488355389,[],[(.t 47,y)],[],.f⟩ .z .z))))) (.j ⟨12,[.b 1],[(.t 3,y)],[],.f⟩ .z .z))))) (let k:=A.part d 4 (d.n:Int);let j:=A.part d 1 (d.n:Int);let i:=toNat ((d.n:Int)-1);(((d.n:Int)==5)=true→((0:Int)≤0∧0<(d.n:Int)))∧(((e1 d)=true→((((0:Int)≤1)∧((1:Int)≤(d.n:Int))∧(((d.n:Int):Int)≤(d.n:Int))∧(((d.n:Int):Int)≤(d.n:Int)))∧((aO j∧3≤i)∧((0:Int)≤4∧4<(d.n:Int)))))∧((e1 d)=false→(((decide ((d.n:Int)>4))=true→((0:Int)≤0∧0<(d.n:Int)))∧(((fM d)=true→(((((0:Int)≤1)∧((1:Int)≤(d.n:Int))∧(((d.n:Int):Int)≤(d.n:Int))∧(((d.n:Int):Int)≤(d.n:Int)))∧(aO j∧3≤i))∧((((0:Int)≤4)∧((4:Int)≤(d.n:Int))∧(((d.n:Int):Int)≤(d.n:Int))∧(((d.n:Int):Int)≤(d.n:Int)))∧(aO k))))∧((fM d)=false→(((decide ((d.n:Int)>7))=true→((0:Int)≤0∧0<(d.n:Int)))∧((vV d)=true→(((((0:Int)≤1)∧((1:Int)≤(d.n:Int))∧(((d.n:Int):Int)≤(d.n:Int))∧(((d.n:Int):Int)≤(d.n:Int)))∧((aO j∧3≤i)∧((((0:Int)≤4)∧((4:Int)≤(d.n:Int))∧(((d.n:Int):Int)≤(d.n:Int))∧(((d.n:Int):Int)≤(d.n:Int)))∧(aO k∧3≤(toNat ((d.n:Int)-4))))))∧((((0:Int)≤7)∧((7:Int)≤(d.n:Int))∧(((d.n:Int):Int)≤(d.n:Int))∧(((d.n:Int):Int)≤(d.n:Int)))∧(aO (A.part d 7 (d.n:Int))))))))))))) (b4 (aw awG (aw afl (aw Tf (aw aeH aT))))) Tryz.func110 (⟨(fun l=>(by have:=eq_of_beq l;omega)),⟨(fun g=>⟨(by have:=g;(try simp [e1]at this);omega),⟨⟨(by first|(with_reducible (repeat first|assumption|apply dM|apply eW|apply eY|apply eX|apply gp|apply f|apply fQ|apply fI|apply fJ|apply gm|apply fH|apply gn|apply gk|apply gl|apply gU|apply g_|apply ha|apply ho|apply l8|apply kR|apply gF);done)|assumption),(by have:=g;(try simp [e1]at this);omega)⟩,(by have:=g;(try simp [e1]at this);omega)⟩⟩),(fun b=>⟨(fun m=>(by have:=b;simp [e1]at this;have:=aq m;omega)),⟨(fun h=>⟨⟨(by have:=b;simp [e1]at this;have:=h;(try simp [fM]at this);omega),⟨(by first|(with_reducible (repeat first|assumption|apply dM|apply eW|apply eY|apply eX|apply gp|apply f|apply fQ|apply fI|apply fJ|apply gm|apply fH|apply gn|apply gk|apply gl|apply gU|apply g_|apply ha|apply ho|apply l8|apply kR|apply gF);done)|assumption),(by have:=b;simp [e1]at this;have:=h;(try simp [fM]at this);omega)⟩⟩,⟨(by have:=b;simp [e1]at this;have:=h;(try simp [fM]at this);omega),(by first|(with_reducible (repeat first|assumption|apply dM|apply eW|apply eY|apply eX|apply gp|apply f|apply fQ|apply fI|apply fJ|apply gm|apply fH|apply gn|apply gk|apply gl|apply gU|apply g_|apply ha|apply ho|apply l8|apply kR|apply gF);done)|assumption)⟩⟩),(fun c=>⟨(fun n=>(by have:=b;simp [e1]at this;have:=c;simp [fM]at this;have:=aq n;omega)),(fun e=>⟨⟨(by have:=b;simp [e1]at this;have:=c;simp [fM]at this;have:=e;(try simp [vV]at this);omega),⟨⟨(by first|(with_reducible (repeat first|assumption|apply dM|apply eW|apply eY|apply eX|apply gp|apply f|apply fQ|apply fI|apply fJ|apply gm|apply fH|apply gn|apply gk|apply gl|apply gU|apply g_|apply ha|apply ho|apply l8|apply kR|apply gF);done)|assumption),(by have:=b;simp [e1]at this;have:=c;simp [fM]at this;have:=e;(try simp [vV]at this);omega)⟩,⟨(by have:=b;simp [e1]at this;have:=c;simp [fM]at this;have:=e;(try simp [vV]at this);omega),⟨(by first|(with_reducible (repeat first|assumption|apply dM|apply eW|apply eY|apply eX|apply gp|apply f|apply fQ|apply fI|apply fJ|apply gm|apply fH|apply gn|apply gk|apply gl|apply gU|apply g_|apply ha|apply ho|apply l8|apply kR|apply gF);done)|assumption),(by have:=b;simp [e1]at this;have:=c;simp [fM]at this;have:=e;(try simp [vV]at this);omega)⟩⟩⟩⟩,⟨(by have:=b;simp [e1]at this;have:=c;simp [fM]at this;have:=e;(try simp [vV]at this);omega),(by first|(with_reducible (repeat first|assumption|apply dM|apply eW|apply eY|apply eX|apply gp|apply f|apply fQ|apply fI|apply fJ|apply gm|apply fH|apply gn|apply gk|apply gl|apply gU|apply g_|apply ha|apply ho|apply l8|apply kR|apply gF);done)|assumption)⟩⟩)⟩)⟩⟩)⟩⟩)
end
section
def h6(d:A Int)(g:Int):Nat→Int→A b7→Int×A b7
 |0,_,_=>default
 |k+1,ar,cE=>(cond (decide ((i64.wrap (ar+3))≤((bn d g).n:Int))) (cond (decide ((i64.wrap ((i64.wrap (ar+3))+(ea (A.part (bn d g) ar (((bn d g).n:Nat):Int)))))>((bn d g).n:Int))) (ar,cE) (cond (!(Hz (A.part (bn d g) (i64.wrap (ar+3)) (i64.wrap ((i64.wrap (ar+3))+(ea (A.part (bn d g) ar (((bn d g).n:Nat):Int)))))))) (ar,cE) (h6 d g k (i64.wrap (ar+(i64.wrap (3+(ea (A.part (bn d g) ar (((bn d g).n:Nat):Int))))))) (A.app cE (A.lit ([(⟨(Zi (A.part (bn d g) (i64.wrap (ar+3)) (i64.wrap ((i64.wrap (ar+3))+(ea (A.part (bn d g) ar (((bn d g).n:Nat):Int))))))),(Zj (A.part (bn d g) (i64.wrap (ar+3)) (i64.wrap ((i64.wrap (ar+3))+(ea (A.part (bn d g) ar (((bn d g).n:Nat):Int))))))),(Zu (A.part (bn d g) (i64.wrap (ar+3)) (i64.wrap ((i64.wrap (ar+3))+(ea (A.part (bn d g) ar (((bn d g).n:Nat):Int))))))),(Zv (A.part (bn d g) (i64.wrap (ar+3)) (i64.wrap ((i64.wrap (ar+3))+(ea (A.part (bn d g) ar (((bn d g).n:Nat):Int))))))),(Zw (A.part (bn d g) (i64.wrap (ar+3)) (i64.wrap ((i64.wrap (ar+3))+(ea (A.part (bn d g) ar (((bn d g).n:Nat):Int))))))),(Zx (A.part (bn d g) (i64.wrap (ar+3)) (i64.wrap ((i64.wrap (ar+3))+(ea (A.part (bn d g) ar (((bn d g).n:Nat):Int))))))),(Zy (A.part (bn d g) (i64.wrap (ar+3)) (i64.wrap ((i64.wrap (ar+3))+(ea (A.part (bn d g) ar (((bn d g).n:Nat):Int))))))),(Zz (A.part (bn d g) (i64.wrap (ar+3)) (i64.wrap ((i64.wrap (ar+3))+(ea (A.part (bn d g) ar (((bn d g).n:Nat):Int))))))),(ZA (A.part (bn d g) (i64.wrap (ar+3)) (i64.wrap ((i64.wrap (ar+3))+(ea (A.part (bn d g) ar (((bn d g).n:Nat):Int))))))),(ZB (A.part (bn d g) (i64.wrap (ar+3)) (i64.wrap ((i64.wrap (ar+3))+(ea (A.part (bn d g) ar (((bn d g).n:Nat):Int))))))),(Zk (A.part (bn d g) (i64.wrap (ar+3)) (i64.wrap ((i64.wrap (ar+3))+(ea (A.part (bn d g) ar (((bn d g).n:Nat):Int))))))),(Zl (A.part (bn d g) (i64.wrap (ar+3)) (i64.wrap ((i64.wrap (ar+3))+(ea (A.part (bn d g) ar (((bn d g).n:Nat):Int))))))),(Zm (A.part (bn d g) (i64.wrap (ar+3)) (i64.wrap ((i64.wrap (ar+3))+(ea (A.part (bn d g) ar (((bn d g).n:Nat):Int))))))),(Zn (A.part (bn d g) (i64.wrap (ar+3)) (i64.wrap ((i64.wrap (ar+3))+(ea (A.part (bn d g) ar (((bn d g).n:Nat):Int))))))),(Zo (A.part (bn d g) (i64.wrap (ar+3)) (i64.wrap ((i64.wrap (ar+3))+(ea (A.part (bn d g) ar (((bn d g).n:Nat):Int))))))),(Zp (A.part (bn d g) (i64.wrap (ar+3)) (i64.wrap ((i64.wrap (ar+3))+(ea (A.part (bn d g) ar (((bn d g).n:Nat):Int))))))),(Zq (A.part (bn d g) (i64.wrap (ar+3)) (i64.wrap ((i64.wrap (ar+3))+(ea (A.part (bn d g) ar (((bn d g).n:Nat):Int))))))),(Zr (A.part (bn d g) (i64.wrap (ar+3)) (i64.wrap ((i64.wrap (ar+3))+(ea (A.part (bn d g) ar (((bn d g).n:Nat):Int))))))),(Zs (A.part (bn d g) (i64.wrap (ar+3)) (i64.wrap ((i64.wrap (ar+3))+(ea (A.part (bn d g) ar (((bn d g).n:Nat):Int))))))),(Zt (A.part (bn d g) (i64.wrap (ar+3)) (i64.wrap ((i64.wrap (ar+3))+(ea (A.part (bn d g) ar (((bn d g).n:Nat):Int)))))))⟩:b7)]:List b7)))))) (ar,cE))
variable(d:A Int)(g:Int)
def k6:Int×A b7:=h6 d g ((toNat (((bn d g).n:Int)-0))+1) 0 (L:A b7)
def gL:A b7:=(cond (!(gy d g)) (L:A b7) (k6 d g).2)
def jB:A Int:=(cond (!(gy d g)) (L:A Int) (A.part (bn d g) 0 (k6 d g).1))
def k5:Int:=(cond (!(gy d g)) 0 (eU (jC d g) (k6 d g).1))
def apl:Int:=(cond (!(gy d g)) 13 0)
def aiX:a6:=⟨[.g [.af a8,a]],fun d (g:Int)=>⟨⟨some (aO d),.c9 [aH 20 O8 (gL d g),.agg [aH 1 cQ (jB d g),b (k5 d g)],b (apl d g)]⟩⟩⟩
theorem auH:bg 98 aiX:=bj Tryz.func98
 fun d E _ (g:Int) D=>bf ⟨.pure,[.tmp 2,.cell 3 85,.tmp 4],[(.t 0,.af yL),(.c 1 0,.af a8),(.c 1 1,a),(.t 2,a)],⟨[U,.agg (us 2 []),U],[]⟩⟩ (.ad (.ad (.ad (.ad (.ad (.j ⟨444,[],[],[],.f⟩ (.cy ⟨444,[.b 0],[(.t 7,yL)],[(.t 8,a),(.h 3 0,.ae yL)],some 0,false,444,[],[(.t 8,a),(.h 3 0,.ae yL)],fun k (s:Int×A b7)=>h6 d g k s.1 s.2,.f,fun(s:Int×A b7)=>(0≤s.1∧s.1≤((bn d g).n:Int)∧(s.2.n:Int)≤s.1),fun(s:Int×A b7)=>(toNat (((bn d g).n:Int)-s.1)),some fun(r:Int×A b7)=>(0≤r.1∧r.1≤((bn d g).n:Int)∧(r.2.n:Int)≤400000)⟩ .z) .z)))))) (let f:=k6 d g;let b:=bn d g;(!(gy d g))=false→((((0≤(0:Int)∧(0:Int)≤(b.n:Int)∧((0:Nat):Int)≤(0:Int)))∧(∀(ar:Int) (cE:A b7),let l:=A.part b ar (b.n:Int);let h:=i64.wrap (ar+3);let m:=decide (h≤(b.n:Int));let i:=i64.wrap (ar+(i64.wrap (3+(ea l))));let e:=i64.wrap (h+(ea l));let o:=Hz (A.part b h e);let n:=decide (e>(b.n:Int));(0≤ar∧ar≤(b.n:Int)∧(cE.n:Int)≤ar)→((m=true→(((((0:Int)≤ar)∧((ar:Int)≤(b.n:Int))∧(((b.n:Int):Int)≤(b.n:Int))∧(((b.n:Int):Int)≤(b.n:Int)))∧(aO l∧3≤(toNat ((b.n:Int)-ar))))∧(n=false→(((((0:Int)≤h)∧((h:Int)≤e)∧((e:Int)≤e)∧((e:Int)≤(b.n:Int)))∧(aO (A.part b h e)))∧((!o)=false→(cE.n+1≤549755813888))))))∧((m=true→((n=true→((0≤ar∧ar≤(b.n:Int)∧(cE.n:Int)≤400000)))∧(n=false→(((!o)=true→((0≤ar∧ar≤(b.n:Int)∧(cE.n:Int)≤400000)))∧((!o)=false→((0≤i∧i≤(b.n:Int)∧(((cE.n+1):Nat):Int)≤i)∧(toNat ((b.n:Int)-i))<(toNat ((b.n:Int)-ar))))))))∧(m=false→((0≤ar∧ar≤(b.n:Int)∧(cE.n:Int)≤400000)))))))∧(((0≤f.1∧f.1≤(b.n:Int)∧(f.2.n:Int)≤400000))→(((0:Int)≤0)∧((0:Int)≤f.1)∧((f.1:Int)≤f.1)∧((f.1:Int)≤(b.n:Int)))))) (b4 (aw KT (aw aeH (aw auL aT)))) Tryz.func98 ((fun c=>⟨⟨(by omega),(fun ar cE C=>⟨(fun p=>⟨⟨(by omega),⟨(by first|(with_reducible (repeat first|assumption|apply dM|apply eW|apply eY|apply eX|apply gp|apply j|apply fQ|apply fI|apply fJ|apply gm|apply fH|apply gn|apply gk|apply gl|apply gU|apply g_|apply ha|apply ho|apply l8|apply kR|apply gF);done)|assumption),(by have:=qB _ _ (by simpa using c);have:=ax5 p (by omega) (by omega);omega)⟩⟩,(fun q=>⟨⟨(by have:=qB _ _ (by simpa using c);have:=afQ q (by omega) (by omega);have:=Uz (A.part (bn d g) ar (((bn d g).n:Nat):Int)) (by first|(with_reducible (repeat first|assumption|apply dM|apply eW|apply eY|apply eX|apply gp|apply j|apply fQ|apply fI|apply fJ|apply gm|apply fH|apply gn|apply gk|apply gl|apply gU|apply g_|apply ha|apply ho|apply l8|apply kR|apply gF);done)|assumption);have:=N (ar+3);have:=N ((i64.wrap (ar+3))+(ea (A.part (bn d g) ar (((bn d g).n:Nat):Int))));omega),(by first|(with_reducible (repeat first|assumption|apply dM|apply eW|apply eY|apply eX|apply gp|apply j|apply fQ|apply fI|apply fJ|apply gm|apply fH|apply gn|apply gk|apply gl|apply gU|apply g_|apply ha|apply ho|apply l8|apply kR|apply gF);done)|assumption)⟩,(fun w=>(by have:=qB _ _ (by simpa using c);omega))⟩)⟩),⟨(fun x=>⟨(fun y=>(by have:=qB _ _ (by simpa using c);omega)),(fun t=>⟨(fun z=>(by have:=qB _ _ (by simpa using c);omega)),(fun u=>(by have:=qB _ _ (by simpa using c);have:=afQ t (by omega) (by omega);have:=Uz (A.part (bn d g) ar (((bn d g).n:Nat):Int)) (by first|(with_reducible (repeat first|assumption|apply dM|apply eW|apply eY|apply eX|apply gp|apply j|apply fQ|apply fI|apply fJ|apply gm|apply fH|apply gn|apply gk|apply gl|apply gU|apply g_|apply ha|apply ho|apply l8|apply kR|apply gF);done)|assumption);have:=N (3+(ea (A.part (bn d g) ar (((bn d g).n:Nat):Int))));have:=N (ar+(i64.wrap (3+(ea (A.part (bn d g) ar (((bn d g).n:Nat):Int))))));omega))⟩)⟩),(fun v=>(by have:=qB _ _ (by simpa using c);omega))⟩⟩)⟩,(fun B=>(by omega))⟩))
end
def KS(e:aI):Int:=se e.j e.ai e.K e.an e.p e.v e.ax e.aF e.i e.aP
structure tj (b t:Int) (s:A aI):Prop where
 cS:0≤b∧b≤1048576
 t0:0≤t∧t≤1048576
 z:b=0↔t=0
 n:s.n≤200
 top:b+(s.n:Int)≤1048576
 ok: ∀i,i<s.n→KS (s.at' i)=0∧t≤(s.at' i).j
 Bq: ∀i,i+1<s.n→(s.at' i).j≤(s.at' (i+1)).j∧(s.at' i).ai≤(s.at' (i+1)).ai
theorem ax7{b t:Int}{s:A aI}(h:uk b t s=0):tj b t s:=by
 have m:=ant b t s h;obtain⟨j,p,o,u⟩:=m;unfold uk at h;obtain⟨d,h⟩:=ez h (by decide);have n:Ar t s=scan (fun i=>my t s i||nh s i) (fun _=>13) s.n 0:=pA (sg t s) s.n _ _ (by omega) fun k i=>by
  show(cond (decide (i<(s.n:Int))) (cond (my t s i) (true,13) (cond (nh s i) (true,13) (sg t s k (i64.wrap (i+1))))) (false,default))=_;rw[B6]
 unfold JK at h;rw[Hj n]at h;obtain⟨aZ,_⟩:=ez h (by decide);have q: ∀i,i<s.n→my t s (i:Int)=false∧nh s (i:Int)=false:=fun i f=>by
  have:=ss aZ i f;simpa only[BJ]using this
 refine⟨j,p,?_,o,u,fun i f=> ?_,fun i f=> ?_⟩
 ·unfold um at d;obtain⟨_,d⟩:=dT d;obtain⟨_,d⟩:=dT d;obtain⟨d,_⟩:=dT d;have d:((b==0)==(t==0))=true:=by simpa using d
  have e:(b==0)=(t==0):=eq_of_beq d;constructor
  ·intro l;rw[l]at e;have e:(t==0)=true:=e.symm;exact eq_of_beq e
  ·intro r;rw[r]at e;have e:(b==0)=true:=e;exact eq_of_beq e
 ·have q1:=(q i f).1;unfold my at q1;rw[fT]at q1;obtain⟨a,c⟩:=dT q1;have c:=en c;exact⟨bE a,by omega⟩
 ·have g:=(q (i+1) f).2;unfold nh at g;rw[bT (show((i+1:Nat):Int)>0 by omega),fT,show i64.wrap (((i+1:Nat):Int)-1)=(i:Int) by rw[N _];omega,fT]at g;obtain⟨a,c⟩:=dT g;have a:=en a;have c:=en c;exact⟨by omega,by omega⟩
theorem ax9{b t:Int}{s:A aI}(h:tj b t s):uk b t s=0:=by
 have w:=h.n;have x:=h.top;obtain⟨g,l⟩:=h.cS;obtain⟨r,u⟩:=h.t0;have q:um b t s=false:=by
  unfold um;rw[rX,rX,bT (show b≥0 from g),bT l,bT (show t≥0 from r),bT u,bI (show¬(s.n:Int)>200 by omega),N _,bI (show¬b+(s.n:Int)>1048576 by omega)];have e:((b==0)==(t==0))=true:=by
   by_cases a:b=0
   ·have c:=h.z.1 a;subst a;subst c;rfl
   ·have c:t≠0:=fun e=>a (h.z.2 e);rw[ik.2 a,ik.2 c];rfl
  rw[e];rfl
 have o:Ar t s=scan (fun i=>my t s i||nh s i) (fun _=>13) s.n 0:=pA (sg t s) s.n _ _ (by omega) fun k i=>by
  show(cond (decide (i<(s.n:Int))) (cond (my t s i) (true,13) (cond (nh s i) (true,13) (sg t s k (i64.wrap (i+1))))) (false,default))=_;rw[B6]
 have n:Ar t s=(false,default):=by
  rw[o];refine ahJ s.n 0 fun j m v=> ?_;obtain⟨i,rfl⟩:=Gm m;have d:i<s.n:=by omega
  obtain⟨f,y⟩:=h.ok i d;show(my t s (i:Int)||nh s (i:Int))=false;have bl:my t s (i:Int)=false:=by
   unfold my;rw[fT];unfold KS at f;rw[f];show decide _=false;exact bI (by omega)
  have cQ:nh s (i:Int)=false:=by
   unfold nh
   by_cases p:i=0
   ·subst p;rfl
   ·obtain⟨k,rfl⟩: ∃k,i=k+1:=⟨i-1,by omega⟩;obtain⟨z,B⟩:=h.Bq k d;rw[bT (show((k+1:Nat):Int)>0 by omega),fT,show i64.wrap (((k+1:Nat):Int)-1)=(k:Int) by rw[N _];omega,fT,bI (by omega),bI (by omega)];rfl
  rw[bl,cQ];rfl
 unfold uk JK;rw[q,n];rfl
theorem ax6{b t:Int}{s:A aI}(h:cC b t s=0):tj b t s:=by
 have a:=eS b t s h;rw[acZ b t s (by omega) (by omega)]at h;exact ax7 h
theorem Ts{b t:Int}{s:A aI}(h:tj b t s):cC b t s=0:=by
 have:=h.n;have:=h.cS;rw[acZ b t s (by omega) (by omega)];exact ax9 h
theorem ax_{b t:Int}{s:A aI}(h:tj b t s){p:Int}(u:b≤p)(v:p≤b+(s.n:Int))(y:1≤p):tj p (o0 b t s p) (A.part s (i64.wrap (p-b)) (s.n:Int)):=by
 have C:=h.n;have z:=h.cS;have E:=h.t0;have F:=h.top;have w:i64.wrap (p-b)=p-b:=N _;rw[w];obtain⟨k,f⟩: ∃k:Nat,p-b=(k:Int):=⟨(p-b).toNat,by omega⟩;have D:(A.part s (p-b) (s.n:Int)).n=s.n-k:=by
  rw[A.ll,f];omega
 have d: ∀i,(A.part s (p-b) (s.n:Int)).at' i=s.at' (k+i):=fun i=>by
  show s.at' (toNat (p-b)+i)=_;rw[f,fT]
 have e:o0 b t s p=if k=0 then t else(s.at' (k-1)).j:=by
  unfold o0;rw[bI (show¬p<b by omega)]
  by_cases c:k=0
  ·rw[show p=b by omega,bF c];simp
  ·rw[ik.2 (show p≠b by omega),w,bI (show¬p-b>(s.n:Int) by omega),bH c,N _,show toNat (p-b-1)=k-1 by omega];rfl
 have G:0<k→t≤(s.at' (k-1)).j:=fun c=>(h.ok (k-1) (by omega)).2;have n: ∀x:aI,KS x=0→1≤x.j∧x.j≤1048576:=fun x g=>by
  unfold KS se at g;obtain⟨a,_⟩:=ez g (by decide);unfold w9 at a;obtain⟨a,_⟩:=dT a;have a:rY x.j=true:=by simpa using a
  unfold rY at a;rw[rX,bY]at a;exact⟨aq a.1,aq a.2⟩
 have l:0≤o0 b t s p∧o0 b t s p≤1048576∧1≤o0 b t s p:=by
  rw[e]
  by_cases c:k=0
  ·rw[bF c];have:t≠0:=fun e=>by have:=h.z.2 e;omega
   omega
  ·rw[bH c];have:=n _ (h.ok (k-1) (by omega)).1;omega
 refine⟨by omega,⟨l.1,l.2.1⟩,⟨fun e=>by omega,fun e=>by omega⟩,by omega,by omega,fun i m=> ?_,fun i m=> ?_⟩
 ·rw[d];refine⟨(h.ok (k+i) (by omega)).1,?_⟩;rw[e]
  by_cases c:k=0
  ·rw[bF c];exact(h.ok (k+i) (by omega)).2
  ·rw[bH c];have q: ∀j,k-1+j<s.n→(s.at' (k-1)).j≤(s.at' (k-1+j)).j:=by
    intro j
    induction j with
    |zero=>intro _;exact dp _
    |succ j o=>
     intro B;have:=o (by omega);have r:=(h.Bq (k-1+j) (by omega)).1;rw[show k-1+(j+1)=k-1+j+1 by omega];omega
   have:=q (i+1) (by omega);rwa [show k-1+(i+1)=k+i by omega]at this
 ·rw[d,d,show k+(i+1)=k+i+1 by omega];exact h.Bq (k+i) (by omega)
theorem ax8{b t:Int}{s:A aI}(h:tj b t s){p u:Int}(g:1≤p∧p≤1048576)(o:1≤u∧u≤1048576):tj (tC b t s p u) (Dd b t s p u) (wc b t s p u):=by
 have l:=h.n;have k:=h.cS;have n:=h.top;unfold tC Dd wc
 cases m:p_ b t s p u with
 |false=>
  exact⟨by simp only[aQ];omega,by simp only[aQ];omega,⟨fun e=>by simp only[aQ]at e;omega,fun e=>by simp only[aQ]at e;omega⟩,cA _,by show p+0≤_;omega,fun i a=>absurd a (eH i),fun i a=>absurd a (eH _)⟩
 |true=>
  simp only[aN];unfold p_ at m;have z:=Ts h
  cases c:(xa b t s p==0)with
  |false=>rw[c]at m;cases m
  |true=>
   have c:=eq_of_beq c;unfold xa at c;rw[z]at c;have c:(cond (At p) 2 (ix b s p))=0:=c;obtain⟨_,c⟩:=ez c (by decide);have f:b≤p∧p≤b+(s.n:Int):=by
    unfold ix at c;obtain⟨d,c⟩:=ez c (by decide);have d:=en d
    by_cases j:p=b
    ·omega
    ·rw[ik.2 j]at c;simp only[aQ]at c;obtain⟨K,_⟩:=ez c (by decide);rw[N _]at K;have K:=en K;omega
   unfold sh JL uq;rw[z,c];exact ax_ h f.1 f.2 g.1
def lD(b t:Int)(s:A aI):Prop:=cC b t s=0
theorem UF{s:A b7}{i:Nat}(h:(jG (s.at' i).j (s.at' i).ai (s.at' i).K (s.at' i).an (s.at' i).p (s.at' i).v (s.at' i).ax (s.at' i).aF (s.at' i).i (s.at' i).aP (s.at' i).cG (s.at' i).cZ (s.at' i).cJ (s.at' i).dh (s.at' i).b1 (s.at' i).gv (s.at' i).kp (s.at' i).jx (s.at' i).kq (s.at' i).jy !=0)=false):
  ((s.at' i).j=3∧(1≤(s.at' i).b1∧(s.at' i).b1≤1048576)∧(1≤(s.at' i).gv∧(s.at' i).gv≤1048576))∨((s.at' i).j=2∧(1≤(s.at' i).an∧(s.at' i).an≤1048576))∨(s.at' i).j=1:=by
 rcases UH (bE h)with⟨e,_⟩|⟨e,q,_⟩|⟨e,q,r,_⟩
 ·exact .inr (.inr e)
 ·exact .inr (.inl ⟨e,q⟩)
 ·exact .inl ⟨e,q,r⟩
section
variable(d:Int)(g:Int)(u:A aI)(h:Int)(r:Int)(o:Int)(q:Bool)(t:Int)(f:Int)(w:Int)(ao:z)(bb:z)(bR:z)(b0:Int)
def HA:Int:=d
def HB:Int:=g
def CR:A aI:=(cond (decide (h≤d)) u (cond (decide (h>(i64.wrap ((lf d g u)+1)))) u (cond ((cC d g (A.app (A.part u 0 (i64.wrap ((i64.wrap (h-d))-1))) (A.lit ([(⟨r,o,q,t,f,w,ao,bb,bR,b0⟩:aI)]:List aI))))!=0) u (A.app (A.part u 0 (i64.wrap ((i64.wrap (h-d))-1))) (A.lit ([(⟨r,o,q,t,f,w,ao,bb,bR,b0⟩:aI)]:List aI))))))
def PX:Int:=(cond (decide (h≤d)) 0 (cond (decide (h>(i64.wrap ((lf d g u)+1)))) 10 (cond ((cC d g (A.app (A.part u 0 (i64.wrap ((i64.wrap (h-d))-1))) (A.lit ([(⟨r,o,q,t,f,w,ao,bb,bR,b0⟩:aI)]:List aI))))!=0) 10 0)))
theorem afz(d g:Int)(u:A aI)(h:lD d g u):lf d g u=d+(u.n:Int):=by
 have a:=eS d g u h;unfold lD at h;unfold lf p9;rw[h];show(cond (decide ((u.n:Int)>0)) _ d)=_
 by_cases e:(u.n:Int)>0
 ·rw[bT e];simp only[aN];exact N _
 ·rw[bI e];simp only[aQ];omega
def ai3:a6:=⟨[.g [a,a,.af c6],.v a,.g [a,a,y,a,a,a,au,au,au,a]],fun(d:Int) (g:Int) u (h:Int) (r:Int) (o:Int) q (t:Int) (f:Int) (w:Int) ao bb bR (b0:Int)=>⟨⟨some (lD d g u),.c9 [.agg [b (HA d),b (HB g),aH 10 dU (CR d g u h r o q t f w ao bb bR b0)],b (PX d g u h r o q t f w ao bb bR b0)]⟩⟩⟩
theorem auM:bg 112 ai3:=bj Tryz.func112
 fun(d:Int) (g:Int) u m _ (h:Int) (r:Int) (o:Int) q (t:Int) (f:Int) (w:Int) ao j bb k bR l (b0:Int) c=>bf (ms:=[.l,.l,.f,.f]) ⟨.pure,[.cell 6 43,.tmp 7],[(.c 0 0,a),(.c 0 1,a),(.c 0 2,.af c6),(.t 1,a)],⟨[.agg (us 3 []),U],[]⟩⟩ (.z) (let b:=i64.wrap ((i64.wrap (h-d))-1);(decide (h≤d))=false→((decide (h>(i64.wrap ((lf d g u)+1))))=false→((((0:Int)≤0)∧((0:Int)≤b)∧((b:Int)≤b)∧((b:Int)≤(u.n:Int)))∧((toNat (b-0))+1≤549755813888)))) (b4 (aw uM (aw afd (aw xN aT)))) Tryz.func112 ((fun e=>(fun i=>⟨(by have:=dQ e;have:=dQ i;have:=eS d g u c;have:=afz d g u c;have:=N (lf d g u+1);have:=N (h-d);have:=N ((i64.wrap (h-d))-1);omega),(by have:=dQ e;have:=dQ i;have:=eS d g u c;have:=afz d g u c;have:=N (lf d g u+1);have:=N (h-d);have:=N ((i64.wrap (h-d))-1);omega)⟩)))
end
section
variable(d:A b7)(e:Int)(bA:Int)(hW:Int)(hV:Int)(ij:A aI)
def apn(m:Int):Int:=(cond ((d.at' (toNat e)).j==1) (d.at' (toNat e)).ai m)
def apo(a1:Int):Int:=(cond ((d.at' (toNat e)).j==1) (d.at' (toNat e)).K a1)
def PR:Int:=(cond ((d.at' (toNat e)).j==1) bA (cond ((d.at' (toNat e)).j==2) bA (cond ((d.at' (toNat e)).j==3) (cond (decide ((d.at' (toNat e)).b1>bA)) (d.at' (toNat e)).b1 bA) bA)))
def apq(cM:Int):Int:=let a:=d.at' (toNat e);(cond (a.j==1) cM (cond (a.j==2) cM (cond (a.j==3) (cond (decide (a.b1>bA)) a.gv cM) cM)))
def apr(b:Int):Int:=let a:=d.at' (toNat e);(cond (a.j==1) b (cond (a.j==2) b (cond (a.j==3) (cond (decide (a.b1>bA)) a.kp b) b)))
def aps(b:A aj):A aj:=let a:=d.at' (toNat e);(cond (a.j==1) b (cond (a.j==2) b (cond (a.j==3) (cond (decide (a.b1>bA)) a.jx b) b)))
def apt(b:Int):Int:=let a:=d.at' (toNat e);(cond (a.j==1) b (cond (a.j==2) b (cond (a.j==3) (cond (decide (a.b1>bA)) a.kq b) b)))
def apu(b:A aG):A aG:=let a:=d.at' (toNat e);(cond (a.j==1) b (cond (a.j==2) b (cond (a.j==3) (cond (decide (a.b1>bA)) a.jy b) b)))
def zt:Int:=(cond ((d.at' (toNat e)).j==1) hW (cond ((d.at' (toNat e)).j==2) (HA hW) (cond ((d.at' (toNat e)).j==3) (cond (decide ((d.at' (toNat e)).b1>bA)) (tC hW hV ij (d.at' (toNat e)).b1 (d.at' (toNat e)).gv) hW) hW)))
def Hw:Int:=(cond ((d.at' (toNat e)).j==1) hV (cond ((d.at' (toNat e)).j==2) (HB hV) (cond ((d.at' (toNat e)).j==3) (cond (decide ((d.at' (toNat e)).b1>bA)) (Dd hW hV ij (d.at' (toNat e)).b1 (d.at' (toNat e)).gv) hV) hV)))
def zs:A aI:=(cond ((d.at' (toNat e)).j==1) ij (cond ((d.at' (toNat e)).j==2) (CR hW hV ij (d.at' (toNat e)).an (d.at' (toNat e)).p (d.at' (toNat e)).v (d.at' (toNat e)).ax (d.at' (toNat e)).aF (d.at' (toNat e)).i (d.at' (toNat e)).aP (d.at' (toNat e)).cG (d.at' (toNat e)).cZ (d.at' (toNat e)).cJ (d.at' (toNat e)).dh) (cond ((d.at' (toNat e)).j==3) (cond (decide ((d.at' (toNat e)).b1>bA)) (wc hW hV ij (d.at' (toNat e)).b1 (d.at' (toNat e)).gv) ij) ij)))
def rR:Bool:=(cond ((jG (d.at' (toNat e)).j (d.at' (toNat e)).ai (d.at' (toNat e)).K (d.at' (toNat e)).an (d.at' (toNat e)).p (d.at' (toNat e)).v (d.at' (toNat e)).ax (d.at' (toNat e)).aF (d.at' (toNat e)).i (d.at' (toNat e)).aP (d.at' (toNat e)).cG (d.at' (toNat e)).cZ (d.at' (toNat e)).cJ (d.at' (toNat e)).dh (d.at' (toNat e)).b1 (d.at' (toNat e)).gv (d.at' (toNat e)).kp (d.at' (toNat e)).jx (d.at' (toNat e)).kq (d.at' (toNat e)).jy)!=0) false (cond ((d.at' (toNat e)).j==1) true (cond ((d.at' (toNat e)).j==2) (cond ((PX hW hV ij (d.at' (toNat e)).an (d.at' (toNat e)).p (d.at' (toNat e)).v (d.at' (toNat e)).ax (d.at' (toNat e)).aF (d.at' (toNat e)).i (d.at' (toNat e)).aP (d.at' (toNat e)).cG (d.at' (toNat e)).cZ (d.at' (toNat e)).cJ (d.at' (toNat e)).dh)!=0) false true) true)))
def zr(d:A b7):Nat→Int→Int→Int→Int→Int→Int→A aj→Int→A aG→Int→Int→A aI→Bool×Int×Int×Int×Int×Int×A aj×Int×A aG×Int×Int×A aI×Int×Int×Int×Int×Int×A aj×Int×A aG×Int×Int×A aI×Int
 |0,_,_,_,_,_,_,_,_,_,_,_,_=>default
 |k+1,e,m,a1,bA,cM,a,b,c,f,hW,hV,ij=>(cond (decide (e<(d.n:Int))) (cond (rR d e hW hV ij) (zr d k (i64.wrap (e+1)) (apn d e m) (apo d e a1) (PR d e bA) (apq d e bA cM) (apr d e bA a) (aps d e bA b) (apt d e bA c) (apu d e bA f) (zt d e bA hW hV ij) (Hw d e bA hW hV ij) (zs d e bA hW hV ij)) (cond ((jG (d.at' (toNat e)).j (d.at' (toNat e)).ai (d.at' (toNat e)).K (d.at' (toNat e)).an (d.at' (toNat e)).p (d.at' (toNat e)).v (d.at' (toNat e)).ax (d.at' (toNat e)).aF (d.at' (toNat e)).i (d.at' (toNat e)).aP (d.at' (toNat e)).cG (d.at' (toNat e)).cZ (d.at' (toNat e)).cJ (d.at' (toNat e)).dh (d.at' (toNat e)).b1 (d.at' (toNat e)).gv (d.at' (toNat e)).kp (d.at' (toNat e)).jx (d.at' (toNat e)).kq (d.at' (toNat e)).jy)!=0) (true,default,default,default,default,default,default,default,default,default,default,default,0,0,0,0,0,(L:A aj),0,(L:A aG),0,0,(L:A aI),(jG (d.at' (toNat e)).j (d.at' (toNat e)).ai (d.at' (toNat e)).K (d.at' (toNat e)).an (d.at' (toNat e)).p (d.at' (toNat e)).v (d.at' (toNat e)).ax (d.at' (toNat e)).aF (d.at' (toNat e)).i (d.at' (toNat e)).aP (d.at' (toNat e)).cG (d.at' (toNat e)).cZ (d.at' (toNat e)).cJ (d.at' (toNat e)).dh (d.at' (toNat e)).b1 (d.at' (toNat e)).gv (d.at' (toNat e)).kp (d.at' (toNat e)).jx (d.at' (toNat e)).kq (d.at' (toNat e)).jy)) (true,default,default,default,default,default,default,default,default,default,default,default,0,0,0,0,0,(L:A aj),0,(L:A aG),0,0,(L:A aI),(PX hW hV ij (d.at' (toNat e)).an (d.at' (toNat e)).p (d.at' (toNat e)).v (d.at' (toNat e)).ax (d.at' (toNat e)).aF (d.at' (toNat e)).i (d.at' (toNat e)).aP (d.at' (toNat e)).cG (d.at' (toNat e)).cZ (d.at' (toNat e)).cJ (d.at' (toNat e)).dh)))) (false,m,a1,bA,cM,a,b,c,f,hW,hV,ij,default,default,default,default,default,default,default,default,default,default,default,default))
def iw:Bool×Int×Int×Int×Int×Int×A aj×Int×A aG×Int×Int×A aI×Int×Int×Int×Int×Int×A aj×Int×A aG×Int×Int×A aI×Int:=zr d ((toNat ((d.n:Int)-0))+1) 0 Eh Ei wQ Ej wR wS wT wU wV wW wP
def mi:Bool:=(cond (iw d).1 false true)
def PM:Int:=(cond (mi d) (iw d).2.1 (iw d).2.2.2.2.2.2.2.2.2.2.2.2.1)
def PN:Int:=(cond (mi d) (iw d).2.2.1 (iw d).2.2.2.2.2.2.2.2.2.2.2.2.2.1)
def p2:Int:=(cond (mi d) (iw d).2.2.2.1 (iw d).2.2.2.2.2.2.2.2.2.2.2.2.2.2.1)
def PO:Int:=(cond (mi d) (iw d).2.2.2.2.1 (iw d).2.2.2.2.2.2.2.2.2.2.2.2.2.2.2.1)
def CM:Int:=let a:=iw d;(cond (mi d) (RA (ni a.2.2.2.2.2.1 a.2.2.2.2.2.2.1 a.2.2.2.2.2.2.2.1 a.2.2.2.2.2.2.2.2.1)) a.2.2.2.2.2.2.2.2.2.2.2.2.2.2.2.2.1)
def CN:A aj:=let a:=iw d;(cond (mi d) (RB (ni a.2.2.2.2.2.1 a.2.2.2.2.2.2.1 a.2.2.2.2.2.2.2.1 a.2.2.2.2.2.2.2.2.1)) a.2.2.2.2.2.2.2.2.2.2.2.2.2.2.2.2.2.1)
def CO:Int:=let a:=iw d;(cond (mi d) (RC (ni a.2.2.2.2.2.1 a.2.2.2.2.2.2.1 a.2.2.2.2.2.2.2.1 a.2.2.2.2.2.2.2.2.1)) a.2.2.2.2.2.2.2.2.2.2.2.2.2.2.2.2.2.2.1)
def CP:A aG:=let a:=iw d;(cond (mi d) (RD (ni a.2.2.2.2.2.1 a.2.2.2.2.2.2.1 a.2.2.2.2.2.2.2.1 a.2.2.2.2.2.2.2.2.1)) a.2.2.2.2.2.2.2.2.2.2.2.2.2.2.2.2.2.2.2.1)
def tz:Int:=(cond (mi d) (iw d).2.2.2.2.2.2.2.2.2.1 (iw d).2.2.2.2.2.2.2.2.2.2.2.2.2.2.2.2.2.2.2.2.1)
def PQ:Int:=(cond (mi d) (iw d).2.2.2.2.2.2.2.2.2.2.1 (iw d).2.2.2.2.2.2.2.2.2.2.2.2.2.2.2.2.2.2.2.2.2.1)
def vU:A aI:=(cond (mi d) (iw d).2.2.2.2.2.2.2.2.2.2.2.1 (iw d).2.2.2.2.2.2.2.2.2.2.2.2.2.2.2.2.2.2.2.2.2.2.1)
def apm:Int:=(cond (mi d) 0 (iw d).2.2.2.2.2.2.2.2.2.2.2.2.2.2.2.2.2.2.2.2.2.2.2)
theorem kD:lD wV wW wP:=Ts ⟨by decide,by decide,⟨fun _=>rfl,fun _=>rfl⟩,cA _,by decide,fun i a=>absurd a (eH i),fun i a=>absurd a (eH _)⟩
theorem ari{d g:Int}{u:A aI}{h r o:Int}{q:Bool}{t f w:Int}{ao bb bR:z}{b0:Int}(a:lD d g u):lD (HA d) (HB g) (CR d g u h r o q t f w ao bb bR b0):=by
 unfold HA HB CR
 cases decide (h≤d)
 ·cases decide (h>(i64.wrap ((lf d g u)+1)))
  ·simp only[aQ]
   cases e:((cC d g (A.app (A.part u 0 (i64.wrap ((i64.wrap (h-d))-1))) (A.lit ([(⟨r,o,q,t,f,w,ao,bb,bR,b0⟩:aI)]:List aI))))!=0)
   ·exact bE e
   ·exact a
  ·exact a
 ·exact a
theorem kE{d:A b7}{a c b t:Int}{s:A aI}(h:lD b t s)(e:(rR d a b t s)=true):lD (zt d a c b t s) (Hw d a c b t s) (zs d a c b t s):=by
 unfold rR at e;have g:=UF (s:=d) (i:=toNat a);unfold zt Hw zs;generalize d.at' (toNat a)=E at*
 cases f:(jG E.j E.ai E.K E.an E.p E.v E.ax E.aF E.i E.aP E.cG E.cZ E.cJ E.dh E.b1 E.gv E.kp E.jx E.kq E.jy !=0)with
 |true=>rw[f]at e;cases e
 |false=>
  have g:=g f
  cases j:(E.j==1)
  ·simp only[aQ]
   cases k:(E.j==2)
   ·simp only[aQ]
    cases bl:(E.j==3)
    ·exact h
    ·simp only[aN]
     cases decide (E.b1>c)
     ·exact h
     ·have bl:=eq_of_beq bl;have r:(1≤E.b1∧E.b1≤1048576)∧(1≤E.gv∧E.gv≤1048576):=by omega
      exact Ts (ax8 (ax6 h) r.1 r.2)
   ·exact ari h
  ·exact h
def aiZ:a6:=⟨[.v (.af yL)],fun d=>⟨⟨none,.c9 [.agg [b (PM d),b (PN d),b (p2 d),b (PO d),b (CM d),aH 8 fZ (CN d),b (CO d),aH 7 gK (CP d),b (tz d),b (PQ d),aH 10 dU (vU d)],b (apm d)]⟩⟩⟩
theorem auJ:bg 99 aiZ:=bj Tryz.func99
 fun d B _=>bf ⟨.pure,[.cell 2 94,.tmp 3],[(.c 0 0,a),(.c 0 1,a),(.c 0 2,a),(.c 0 3,a),(.c 0 4,a),(.c 0 5,.af a_),(.c 0 6,a),(.c 0 7,.af bP),(.c 0 8,a),(.c 0 9,a),(.c 0 10,.af c6),(.t 1,a)],⟨[.agg (us 11 []),U],[]⟩⟩ (.ad (.ad (.j ⟨28,[],[],[],.f⟩ (.ad (.cy ⟨57372,[],[],[(.t 15,a),(.h 1 0,a),(.h 1 1,a),(.h 1 2,a),(.h 1 3,a),(.h 1 4,a),(.h 1 5,.af a_),(.h 1 6,a),(.h 1 7,.af bP),(.h 1 8,a),(.h 1 9,a),(.h 1 10,.af c6)],some 0,true,28,[],[(.h 1 0,a),(.h 1 1,a),(.h 1 2,a),(.h 1 3,a),(.h 1 4,a),(.h 1 5,.af a_),(.h 1 6,a),(.h 1 7,.af bP),(.h 1 8,a),(.h 1 9,a),(.h 1 10,.af c6)],fun k (s:Int×Int×Int×Int×Int×Int×A aj×Int×A aG×Int×Int×A aI)=>zr d k s.1 s.2.1 s.2.2.1 s.2.2.2.1 s.2.2.2.2.1 s.2.2.2.2.2.1 s.2.2.2.2.2.2.1 s.2.2.2.2.2.2.2.1 s.2.2.2.2.2.2.2.2.1 s.2.2.2.2.2.2.2.2.2.1 s.2.2.2.2.2.2.2.2.2.2.1 s.2.2.2.2.2.2.2.2.2.2.2,.f,fun(s:Int×Int×Int×Int×Int×Int×A aj×Int×A aG×Int×Int×A aI)=>(lD s.2.2.2.2.2.2.2.2.2.1 s.2.2.2.2.2.2.2.2.2.2.1 s.2.2.2.2.2.2.2.2.2.2.2∧0≤s.1∧s.1≤(d.n:Int)),fun(s:Int×Int×Int×Int×Int×Int×A aj×Int×A aG×Int×Int×A aI)=>(toNat ((d.n:Int)-s.1)),none⟩ (.ad (.ad (.j ⟨511697116,[],[(.h 1 0,a),(.h 1 1,a),(.h 1 2,a),(.h 1 3,a),(.h 1 4,a),(.h 1 5,.af a_),(.h 1 6,a),(.h 1 7,.af bP),(.h 1 8,a),(.h 1 9,a),(.h 1 10,.af c6)],[(.b .f .l),(.b .f .l),.f,.f,.f,.f,.f,.f,.f,.f,.f],(.b .f (.b .f (.b .f .l)))⟩ .z .z))))) .z))) (let c:=iw d;(((lD wV wW wP∧0≤(0:Int)∧(0:Int)≤(d.n:Int)))∧(∀(e:Int) (m:Int) (a1:Int) (bA:Int) (cM:Int) (p:Int) (q:A aj) (r:Int) (t:A aG) (hW:Int) (hV:Int) (ij:A aI),let h:=decide (e<(d.n:Int));let f:=i64.wrap (e+1);let b:=d.at' (toNat e);(lD hW hV ij∧0≤e∧e≤(d.n:Int))→((h=true→(((0:Int)≤e∧e<(d.n:Int))∧(((jG b.j b.ai b.K b.an b.p b.v b.ax b.aF b.i b.aP b.cG b.cZ b.cJ b.dh b.b1 b.gv b.kp b.jx b.kq b.jy)!=0)=false→((b.j==1)=false→(((b.j==2)=true→(lD hW hV ij))∧((b.j==2)=false→((b.j==3)=true→((decide (b.b1>bA))=true→(b.b1≤9223372036854775807)))))))))∧(h=true→((rR d e hW hV ij)=true→((lD (zt d e bA hW hV ij) (Hw d e bA hW hV ij) (zs d e bA hW hV ij)∧0≤f∧f≤(d.n:Int))∧(toNat ((d.n:Int)-f))<(toNat ((d.n:Int)-e))))))))∧((mi d)=true→(aO (ni c.2.2.2.2.2.1 c.2.2.2.2.2.2.1 c.2.2.2.2.2.2.2.1 c.2.2.2.2.2.2.2.2.1)))) (b4 (aw S_ (aw afk (aw afl (aw Tf (aw xN (aw aeT (aw auM aT)))))))) Tryz.func99 (⟨⟨⟨(by apply kD),(by omega)⟩,(fun e m a1 bA cM p q r t hW hV ij o=>have z:=o.1;⟨(fun i=>⟨(by have:=aq i;omega),(fun j=>(fun l=>⟨(fun w=>(by assumption)),(fun n=>(fun x=>(fun y=>(by have:=UF j;have:=cU l;have:=cU n;omega))))⟩))⟩),(fun g=>(fun u=>⟨⟨(by repeat first|assumption|apply kE),(by have:=aq g;have:=N (e+1);omega)⟩,(by have:=aq g;have:=N (e+1);omega)⟩))⟩)⟩,(fun v=>(by first|(with_reducible (repeat first|assumption|apply dM|apply eW|apply eY|apply eX|apply gp|apply C|apply fQ|apply fI|apply fJ|apply gm|apply fH|apply gn|apply gk|apply gl|apply gU|apply g_|apply ha|apply ho|apply l8|apply kR|apply gF|apply Mi);done)|assumption))⟩)
end
theorem Gb:aO (L:A Int):=fun _=>⟨dp 0,(by decide:(0:Int)≤255)⟩
theorem Mi{d:A Int}{g u:Int}(h:aO d):aO (fO d g u):=by
 unfold fO
 cases (!(gy d g))
 ·cases decide (u<0)
  ·exact l8 (kR h)
  ·exact Gb
 ·exact Gb
def lT(d:Int)(Z:H):H:={Z with bm:=(wj Z.bm),up:=QO,ro:=wA,aX:=(DI (PM (gL (fO Z.bd Z.bh d) (gO Z.bd Z.bh d)))),dH:=(DJ (PN (gL (fO Z.bd Z.bh d) (gO Z.bd Z.bh d)))),l:=(DK (tz (gL (fO Z.bd Z.bh d) (gO Z.bd Z.bh d)))),lt:=(DL (PQ (gL (fO Z.bd Z.bh d) (gO Z.bd Z.bh d)))),li:=(DM (vU (gL (fO Z.bd Z.bh d) (gO Z.bd Z.bh d)))),c8:=(DN (p2 (gL (fO Z.bd Z.bh d) (gO Z.bd Z.bh d)))),gR:=(Dv (PO (gL (fO Z.bd Z.bh d) (gO Z.bd Z.bh d)))),gS:=(Dw (CM (gL (fO Z.bd Z.bh d) (gO Z.bd Z.bh d)))),fG:=(Dx (CN (gL (fO Z.bd Z.bh d) (gO Z.bd Z.bh d)))),gT:=(Dy (CO (gL (fO Z.bd Z.bh d) (gO Z.bd Z.bh d)))),fF:=(Dz (CP (gL (fO Z.bd Z.bh d) (gO Z.bd Z.bh d)))),eO:=(DA (CM (gL (fO Z.bd Z.bh d) (gO Z.bd Z.bh d)))),eC:=(DB (CN (gL (fO Z.bd Z.bh d) (gO Z.bd Z.bh d)))),et:=(DC (CO (gL (fO Z.bd Z.bh d) (gO Z.bd Z.bh d)))),eD:=(DD (CP (gL (fO Z.bd Z.bh d) (gO Z.bd Z.bh d)))),co:=(DE (p2 (gL (fO Z.bd Z.bh d) (gO Z.bd Z.bh d)))),v0:=wk,v1:=wm,v2:=wo,eb:=wq,dF:=wu,dW:=wv,g6:=wx,q1:=wy,fp:=wz,ws:=(L:A hI),bd:=(jB (fO Z.bd Z.bh d) (gO Z.bd Z.bh d)),bh:=(k5 (fO Z.bd Z.bh d) (gO Z.bd Z.bh d)),bS:=(L:A O)}
def Na(i:Nat):db:=⟨[.p 0,.e9 0 (33*i),.v a],b8,eL,er,fun(d:Int)=>cB fun C=>⟨⟨some (aO (C.Z i).bd),[],cj ((aK.set (2*i) 10).set (2*i+1) 11) 2 (C.set i (lT d (C.Z i)))⟩⟩⟩
def ame(i:Nat):cI:=⟨.eA true [.b 10,.b 11] [.kill (2*i+1),.kill (2*i+2),.own (.h 0 (33*i+29)) cV 10,.own (.h 0 (33*i+32)) ca 11] (gj i ((aK.set (2*i) 10).set (2*i+1) 11) 2 [] 0) (gi i ((aK.set (2*i) 10).set (2*i+1) 11)),[],[]++fy i ((aK.set (2*i) 10).set (2*i+1) 11),⟨[],[]⟩⟩
def Un(i:Nat)(d:Int)(C:ak):Prop:=(aO (fO (C.Z i).bd (C.Z i).bh d))
theorem azr(i:Nat)(c:i<3)(d:Int)(C:ak)(b:ey C)(e:aO (C.Z i).bd):Un i d C:=by
 have a:=gQ b i c;unfold fv at a;unfold Un;exact((by first|(with_reducible (repeat first|assumption|apply dM|apply eW|apply eY|apply eX|apply gp|apply f|apply fQ|apply fI|apply fJ|apply gm|apply fH|apply gn|apply gk|apply gl|apply gU|apply g_|apply ha|apply ho|apply l8|apply kR|apply gF|apply Mi);done)|assumption))
theorem axm(i:Nat)(a:i<3)(d:Int):eP Tryz.prog 74 (Na i) b8 [] (cB fun C=>⟨⟨some (aO (C.Z i).bd),[],cj ((aK.set (2*i) 10).set (2*i+1) 11) 2 (C.set i (lT d (C.Z i)))⟩⟩) [b d]:=by
 refine gg fun C c=>fun e=>ei (ame i) (.z) (Un i d C) (bK 10 (aw awE (aw auH (aw auJ (aw S7 aT)))) bJ) Tryz.func74 [] ?_ ?_ (azr i a d C c e)
 ·rcases b3 a with rfl|rfl|rfl<;>kernel_rfl
 ·rcases b3 a with rfl|rfl|rfl<;>kernel_rfl
theorem az9(i:Nat)(b:i<3):fV 74 (Na i):=
 jv (bp:=[a]) fun s c=>Eq.mp (by rcases b3 b with rfl|rfl|rfl<;>kernel_rfl) (axm i b s.1)
theorem awg(i:Nat)(a:i<3):fW 74 (Na i):=gq gf Tryz.func74 (az9 i a)
def dZ(s:A aI):Prop:= ∀j,kZ (s.at' j)
theorem afI{s t:A aI}(a:dZ s)(b:dZ t):dZ (s.app t):=fun j=>by
 show kZ (cond (Nat.blt j s.n) (s.at' j) (t.at' (j-s.n)))
 cases Nat.blt j s.n
 ·exact b _
 ·exact a _
theorem xZ{s:A aI}(c:dZ s)(a b:Int):dZ (s.part a b):=fun j=>c (a.toNat+j)
theorem aey:kZ default:=⟨cA _,cA _,cA _⟩
theorem l2:dZ (L:A aI):=fun _=>aey
theorem Fl{c:Bool}{a b:A aI}(d:dZ a)(e:dZ b):dZ (cond c a b):=by
 cases c
 ·exact e
 ·exact d
theorem lZ{s:A aI}(h:dZ s)(j:Nat):kZ (s.at' j):=h j
section
variable {d g:Int} {u:A aI} {h:Int} {o:A aI}
theorem axR(a:dZ o):dZ (ds d h o):=by
 unfold ds;exact Fl (xZ a _ _) a
def amn(d g:Int)(u:A aI)(h:Int)(o:A aI)(r:Bool×Int×Int×A aI×Bool×Int×Int):Prop:=
 (r.1=false∧cc d h o-d+((ds d h o).n:Int)≤(u.n:Int))∨(r.1=true∧r.2.2.2.2.2.2≠0∧r.2.2.2.2.1=false)∨
  (r.1=true∧r.2.1=d∧r.2.2.1=g∧cC d g r.2.2.2.1=0∧(r.2.2.2.1.n:Int)=cc d h o-d+((ds d h o).n:Int)∧d+1≤r.2.2.2.2.2.1∧r.2.2.2.2.2.1≤cc d h o+((ds d h o).n:Int)∧(dZ u→dZ o→dZ r.2.2.2.1))
theorem af0(i:0≤d∧d≤1048576)(p:u.n≤200)(n:d≤cc d h o∧cc d h o≤d+(u.n:Int))(m:(ds d h o).n≤200):
  ∀(k:Nat) (v:Int),0≤v→v≤((ds d h o).n:Int)→toNat (((ds d h o).n:Int)-v)<k→cc d h o-d+v≤(u.n:Int)→amn d g u h o (j9 d g u h o k v)
 |0,v,_,_,f,_=>absurd f (eH _)
 |k+1,v,s,t,q,w=>by
  rw[j9]
  by_cases c:v<((ds d h o).n:Int)
  ·rw[bT c];simp only[aN]
   cases a:lW d u h o v with
   |true=>
    have r:cc d h o-d+v<(u.n:Int):=by
     unfold lW at a;rw[N (cc d h o-d),N (cc d h o-d+v)]at a
     by_cases b:cc d h o-d+v<(u.n:Int)
     ·exact b
     ·rw[bI b]at a;cases a
    simp only[aN];rw[N (v+1)];exact af0 i p n m k (v+1) (by omega) (by omega) (by omega) (by omega)
   |false=>
    simp only[aQ];rw[N (cc d h o-d),N (cc d h o-d+v),N (cc d h o+v),N (cc d h o+v+1)]
    cases e:(cC d g (A.app (A.part u 0 (cc d h o-d+v)) (A.part (ds d h o) v (((ds d h o).n:Nat):Int)))!=0)with
    |true=>exact .inr (.inl ⟨rfl,(by decide:(6:Int)≠0),rfl⟩)
    |false=>
     refine .inr (.inr ⟨rfl,rfl,rfl,bE e,?_,?_,?_,fun j l=>afI (xZ j _ _) (xZ (axR l) _ _)⟩)
     ·show(((A.part u 0 (cc d h o-d+v)).n+(A.part (ds d h o) v (((ds d h o).n:Nat):Int)).n:Nat):Int)=_;simp only[A.ll];omega
     ·show d+1≤cc d h o+v+1;omega
     ·show cc d h o+v+1≤_;omega
  ·rw[bI c];exact .inl ⟨rfl,by omega⟩
theorem Tz{r:Int}(a:fc d g u h r o=0)(b:gd d g u h r o=true):
  b6 d g u h r o=d∧0≤d∧cC d (oi d g u h r o) (b2 d g u h r o)=0∧h+(o.n:Int)≤d+((b2 d g u h r o).n:Int)∧((c7 d g u h r o=0∧b2 d g u h r o=u)∨(d+1≤c7 d g u h r o∧c7 d g u h r o≤h+(o.n:Int)))∧(0≤h∧h+(o.n:Int)≤1048576)∧(dZ u→dZ o→dZ (b2 d g u h r o)):=by
 unfold fc at a;unfold gd at b;unfold b6 oi b2 c7
 cases i:(cC d g u !=0)with
 |true=>rw[i]at a;exact absurd a (by simpa using i)
 |false=>
 cases l:(cC h r o !=0)with
 |true=>rw[i,l]at a;cases a
 |false=>
 rw[i,l]at a b;simp only[aQ]at a b ⊢;have K:=eS _ _ _ (bE i);have f:=eS _ _ _ (bE l)
 cases e:mA d g u h r o with
 |false=>
  rw[e]at a b;simp only[aQ]at a b ⊢;refine⟨by first|rfl|trivial,K.1.1,bE i,?_,.inl (by first|exact⟨rfl,rfl⟩|simp),⟨f.1.1,f.2.2.2⟩,fun m _=>m⟩
  by_cases c:h<d
  ·unfold mA at e;rw[bT c]at e;simp only[aN]at e;have k:=lY (i64.wrap (d-h)) (o.n:Int);rw[N (d-h)]at e k;generalize eU (d-h) (o.n:Int)=q at*
   rw[N (h+q)]at e
   by_cases s:h+q<d
   ·omega
   ·rw[bI s]at e;cases e
  ·rw[bI c]at b;cases b
 |true=>
  rw[e]at a b;simp only[aN]at a b ⊢;have t:=f75 d g u h r o e ⟨⟨K.1,K.2.2.1⟩,f.1,f.2.2.1⟩;have B:cc d h o+((ds d h o).n:Int)=h+(o.n:Int):=by
   unfold cc ds
   by_cases c:h<d
   ·rw[bT c];simp only[aN];have k:=lY (i64.wrap (d-h)) (o.n:Int);rw[N (d-h)]at k ⊢;generalize eU (d-h) (o.n:Int)=q at*
    rw[N (h+q),A.ll];omega
   ·rw[bI c];rfl
  have p:=af0 (g:=g) K.1 K.2.2.1 t.1 (by omega) (toNat (((ds d h o).n:Int)-0)+1) 0 (dp _) (by omega) (by omega) (by omega);have v:j9 d g u h o (toNat (((ds d h o).n:Int)-0)+1) 0=qx d g u h o:=rfl;rw[v]at p;unfold o8 at a b ⊢;rcases p with⟨q1,j⟩|⟨q1,j,n⟩|⟨q1,j,y,n,C,w,D,x⟩
  ·rw[q1]at a b ⊢;simp only[aQ,aN]at a b ⊢;exact⟨by first|rfl|trivial,K.1.1,bE i,by omega,.inl (by first|exact⟨rfl,rfl⟩|simp),⟨f.1.1,f.2.2.2⟩,fun m _=>m⟩
  ·rw[q1]at a;simp only[aQ,aN]at a;exact absurd a j
  ·have z:=eS _ _ _ n;rw[q1]at a b ⊢;simp only[aQ,aN]at a b ⊢;exact⟨j,K.1.1,by rw[y];exact n,by omega,.inr ⟨w,by omega⟩,⟨f.1.1,f.2.2.2⟩,x⟩
theorem A2{r:Int}(b:fc d g u h r o=0)(e:(!(gd d g u h r o))=false):
  b6 d g u h r o=d∧0≤d∧(d+((b2 d g u h r o).n:Int)≤1048576∧(b2 d g u h r o).n≤200)∧h+(o.n:Int)≤d+((b2 d g u h r o).n:Int)∧(c7 d g u h r o=0∨(d+1≤c7 d g u h r o∧c7 d g u h r o≤h+(o.n:Int)))∧(0≤h∧h+(o.n:Int)≤1048576)∧(dZ u→dZ o→dZ (b2 d g u h r o)):=by
 have a:=Tz b (by simpa using e);have c:=eS _ _ _ a.2.2.1;exact⟨a.1,a.2.1,⟨c.2.2.2,c.2.2.1⟩,a.2.2.2.1,a.2.2.2.2.1.imp And.left id,a.2.2.2.2.2⟩
end
structure jb (n:H):Prop where
 bm:0≤n.bm∧n.bm<3
 l:0≤n.l
 hK:n.l≤n.co
 co:n.co≤1048576
 gP:n.li.n≤200
 hn:n.l+(n.li.n:Int)≤1048576
 ws:n.ws.n≤3000
 pp:(0≤n.eb∧n.eb≤1048577)∧(0≤n.dF∧n.dF≤1048577)∧(0≤n.dW∧n.dW≤1048577)
 li:dZ n.li
 u8:aO n.bd
 c8:0≤n.c8∧n.c8≤1048576
 g7:(0≤n.g6∧n.g6≤1048576)∧(0≤n.q1∧n.q1≤1048576)∧(0≤n.fp∧n.fp≤1048576)
structure fu (m:O):Prop where
 p0:0≤m.j∧m.j<3
 to:0≤m.ai∧m.ai<3
 ou:0≤m.p∧m.p≤1048576
 c8:0≤m.aP∧m.aP≤1048576
 li:dZ m.i
theorem B2(Z:H)(h:0≤Z.l∧Z.l+(Z.li.n:Int)≤4194304):0≤ck Z∧ck Z≤Z.l+(Z.li.n:Int):=by
 show 0≤lf Z.l Z.lt Z.li∧lf Z.l Z.lt Z.li≤Z.l+(Z.li.n:Int);have a:=N (Z.l+(Z.li.n:Int));unfold lf
 cases (cC Z.l Z.lt Z.li !=0)with
 |true=>exact⟨dp 0,by show(0:Int)≤Z.l+(Z.li.n:Int);omega⟩
 |false=>
  show 0≤p9 Z.l Z.li∧p9 Z.l Z.li≤Z.l+(Z.li.n:Int);unfold p9
  cases decide ((Z.li.n:Int)>0)with
  |true=>rw[aN];omega
  |false=>rw[aQ];omega
def tg(C:ak)(m:O):Prop:=0≤m.j∧m.j<3∧0≤m.ai∧m.ai<3∧jb (C.Z (toNat m.ai))∧fu m∧C.told.n≤541000000000∧C.a2.n≤549000000000
structure Mt (a:F):Prop where
 b_:1≤a.j∧a.j≤12
 Z:0≤a.ai∧a.ai<3
 nB:0≤a.K
 LA:a.j=6∨a.j=7∨a.j=8∨a.j=12→a.ai=0
 yn:a.ax.size≤10000000000
 yo:a.aF.size≤10000000000
 yp:a.i.size≤10000000000
structure fs (k:Nat) (C:ak):Prop where
 Z: ∀i,jb (C.Z i)
 wn: ∀i,(C.Z i).ws.n≤k
 tn: ∀j,j<C.s.n→fu (C.s.at' j)
 jU:C.s.n≤300
 bS: ∀i j,j<(C.Z i).bS.n→fu ((C.Z i).bS.at' j)
 on: ∀i,(C.Z i).bS.n≤300
 q4:C.told.n≤180001000*k
 gP:C.a2.n≤300*k
def eM(C:ak)(a:F):Prop:=(∃k,k<3000∧fs k C)∧Mt a
theorem nV{C:ak}{a:F}(h:eM C a)(i:Nat):jb (C.Z i):=by
 obtain⟨⟨k,_,b⟩,_⟩:=h;exact b.Z i
theorem oY{C:ak}{a:F}(h:eM C a):C.told.n≤540000000000∧C.a2.n≤900000∧C.s.n≤300:=by
 obtain⟨⟨k,e,b⟩,_⟩:=h;have c:=b.q4;have d:=b.gP;exact⟨by omega,by omega,b.jU⟩
theorem X5{C X:ak}{a:F}(h:eM C a){j:Nat}(d:j<C.s.n)(f: ∀i,jb (X.Z i))(g:X.told.n≤541000000000)(e:X.a2.n≤549000000000):tg X (C.s.at' j):=by
 obtain⟨⟨k,l,c⟩,_⟩:=h;have b:=c.tn j d;exact⟨b.p0.1,b.p0.2,b.to.1,b.to.2,f _,b,g,e⟩
theorem amU{d g h r:Int}{u:A aI} :tC d g u h r=h:=by
 unfold tC
 cases e:p_ d g u h r
 ·rfl
 ·simp only[aN];unfold p_ at e
  cases c:(xa d g u h==0)
  ·rw[c]at e;cases e
  ·have a:=eq_of_beq c;unfold xa at a;unfold sh
   cases b:(cC d g u !=0)
   ·rw[b]at a;simp only[aQ]at a ⊢
    cases bl:At h
    ·rw[bl]at a;simp only[aQ]at a;rw[show(ix d u h !=0)=false by rw[a];rfl];rfl
    ·rw[bl,aN]at a;exact absurd a (by decide: ¬(2:Int)=0)
   ·rw[b]at a;simp only[aN]at a;exact absurd a (bne_iff_ne.1 b)
def Ns(a b:Int):Prop:=b=a∧0≤a∧a≤1048576
theorem aoS{d:A b7}{a c b t:Int}{s:A aI}(h:Ns c b)(e:(rR d a b t s)=true):Ns (PR d a c) (zt d a c b t s):=by
 unfold rR at e;have g:=UF (s:=d) (i:=toNat a);unfold PR zt;generalize d.at' (toNat a)=E at*
 cases f:(jG E.j E.ai E.K E.an E.p E.v E.ax E.aF E.i E.aP E.cG E.cZ E.cJ E.dh E.b1 E.gv E.kp E.jx E.kq E.jy !=0)with
 |true=>rw[f]at e;cases e
 |false=>
  have g:=g f
  cases j:(E.j==1)
  ·simp only[aQ]
   cases k:(E.j==2)
   ·simp only[aQ]
    cases bl:(E.j==3)
    ·exact h
    ·simp only[aN]
     cases decide (E.b1>c)
     ·exact h
     ·simp only[aN];have bl:=eq_of_beq bl;have r:(1≤E.b1∧E.b1≤1048576)∧(1≤E.gv∧E.gv≤1048576):=by omega
      exact⟨amU,by omega,by omega⟩
   ·exact h
  ·exact h
theorem B3{x:z}(h:x.toList=(⟨#[]⟩:z).toList):x.size=0:=by
 rw[WV (x:=x) (by rw[h];simp)];rfl
theorem aoB{b c:Bool}{fo a d e f g:List UInt8}(h:(!(b&&((fo==e)&&((a==f)&&((d==g)&&(c&&true))))))=false):fo=e∧a=f∧d=g:=by
 simp at h;exact⟨h.2.1,h.2.2.1,h.2.2.2.1⟩
theorem aBy{d:Int}{g u h:z}{r:Int}(f:fC d g u h r=0):g.size≤20∧u.size≤20∧h.size≤20:=by
 unfold fC at f;obtain⟨_,f⟩:=ez f (by decide);obtain⟨e,f⟩:=ez f (by decide);obtain⟨m,f⟩:=ez f (by decide);obtain⟨j,k,_⟩:=aoB e;have n:d≠22→kx g=true:=fun a=>by
  cases q:kx g
  ·simp [sd,a,q]at m
  ·rfl
 have o:4≤d→d≤6→kx u=true:=fun a b=>by
  cases q:kx u
  ·simp [sd,a,b,q]at m
  ·rfl
 have p:ji h=true:=by
  cases q:ji h
  ·exfalso
   by_cases a:d=22
   ·subst a;simp [sd,q]at m
   ·by_cases b:d≥4
    ·by_cases c:d≤6
     ·simp [sd,b,c,q]at m
     ·simp [sd,b,c,q]at m
    ·simp [sd,b,q]at m
  ·rfl
 have l: ∀y:z,kx y=true→y.size≤20:=fun y i=>by
  unfold kx C0 at i
  by_cases a:(y.size:Int)≥1
  ·simp [a]at i;omega
  ·simp [a]at i
 refine⟨?_,?_,?_⟩
 ·by_cases a:d=22
  ·subst a;rw[show JJ 22 g=⟨#[]⟩from rfl]at j;rw[B3 j];omega
  ·exact l _ (n a)
 ·by_cases a:4≤d∧d≤6
  ·exact l _ (o a.1 a.2)
  ·have s:(d==4)=false:=by simp;omega
   have t:(d==5)=false:=by simp;omega
   have v:(d==6)=false:=by simp;omega
   have:Eo d u=⟨#[]⟩:=by
    unfold Eo w8;rw[s,t,v]
    cases w6 d<;>cases w7 d<;>rfl
   rw[this]at k;rw[B3 k];omega
 ·have:=aq p;omega
theorem Pd{a b c d:Bool}{x y e:z}(h:(!(a&&(b&&(c&&((x.toList==(⟨#[]⟩:z).toList)&&((y.toList==(⟨#[]⟩:z).toList)&&((e.toList==(⟨#[]⟩:z).toList)&&(d&&true))))))))=false):x.size≤20∧y.size≤20∧e.size≤20:=by
 simp only[Bool.not_eq_false',bY,ri]at h;rw[B3 h.2.2.2.1,B3 h.2.2.2.2.1,B3 h.2.2.2.2.2.1];omega
theorem ahB{d g u:Int}{h r o:z}{q:Int}(b:iO d g u h r o q=0):h.size≤20∧r.size≤20∧o.size≤20:=by
 unfold iO at b
 cases a:(d==0)
 ·rw[a,aQ]at b;obtain⟨_,b⟩:=ez b (by decide);exact aBy b
 ·rw[a,aN]at b;exact Pd (ez b (by decide)).1
theorem aBz{d g:Int}{u:Bool}{h r o:Int}{q t f:z}{w:Int}(a:hC d g u h r o q t f w=0):kZ ⟨d,g,u,h,r,o,q,t,f,w⟩:=by
 have k:q.size≤20∧t.size≤20∧f.size≤20:=by
  unfold hC at a;obtain⟨_,a⟩:=ez a (by decide)
  cases u
  ·exact ahB a
  ·simp only[aN]at a;exact Pd (ez a (by decide)).1
 exact⟨fg k.1 (by decide),fg k.2.1 (by decide),fg k.2.2 (by decide)⟩
theorem aBA{a:F}(h:ld a.j a.ai a.K a.an a.p a.v a.ax a.aF a.i a.aP=0):(1≤a.j∧a.j≤12)∧(0≤a.ai∧a.ai<3)∧0≤a.K∧(a.j=6∨a.j=7∨a.j=8∨a.j=12→a.ai=0)∧a.ax.size≤20∧a.aF.size≤20∧a.i.size≤20:=by
 unfold ld at h;obtain⟨j,h⟩:=ez h (by decide);obtain⟨g,h⟩:=ez h (by decide);obtain⟨f,h⟩:=ez h (by decide);have m:1≤a.j∧a.j≤12:=by
  unfold Et at j
  by_cases p:a.j<1
  ·simp [p]at j
  ·simp [p]at j;omega
 have o:ml a.j=true→0≤a.ai∧a.ai<3:=fun e=>by
  unfold As at g;rw[e,aN]at g
  by_cases p:a.ai<0
  ·simp [p]at g
  ·by_cases q:a.ai≥3
   ·simp [p,q]at g
   ·omega
 have k:ml a.j=false→a.ai=0:=fun e=>by
  unfold w_ at f;rw[e]at f
  cases q:(a.ai !=0)
  ·exact bE q
  ·rw[q]at f;exact absurd f (by simp)
 have s:mm a.j=true→0≤a.K:=fun e=>by
  unfold As at g;rw[e]at g
  by_cases p:a.K<0
  ·exfalso
   cases i:ml a.j<;>rw[i]at g
   ·simp [p]at g
   ·by_cases q:a.ai<0
    ·simp [q]at g
    ·by_cases r:a.ai≥3
     ·simp [q,r]at g
     ·simp [p,q,r]at g
  ·omega
 have t:mm a.j=false→a.K=0:=fun e=>by
  unfold w_ at f;rw[e]at f
  cases q:(a.K !=0)
  ·exact bE q
  ·rw[q]at f;exfalso
   cases i:ml a.j<;>rw[i]at f<;>cases y:(a.ai !=0)<;>rw[y]at f<;>simp at f
 have n:a.ax.size≤20∧a.aF.size≤20∧a.i.size≤20:=by
  cases q:(a.j==1)
  ·have u:(a.j !=1)=true:=by rw[bne,q];rfl
   unfold w_ at f;rw[u]at f;refine Pd (a:=(a.an==0)) (b:=(a.p==0)) (c:=(a.v==0)) (d:=(a.aP==0)) ?_;revert f;generalize (!((a.an==0)&&((a.p==0)&&((a.v==0)&&((a.ax.toList==(⟨#[]⟩:z).toList)&&((a.aF.toList==(⟨#[]⟩:z).toList)&&((a.i.toList==(⟨#[]⟩:z).toList)&&((a.aP==0)&&true))))))))=i;intro f
   cases i
   ·rfl
   ·exfalso
    cases i:ml a.j<;>rw[i]at f<;>cases y:(a.ai !=0)<;>rw[y]at f<;>cases x:mm a.j<;>rw[x]at f<;>cases w:(a.K !=0)<;>rw[w]at f<;>simp at f
  ·rw[q]at h;exact ahB h
 refine⟨m,?_,?_,?_,n⟩
 ·cases e:ml a.j
  ·rw[k e];decide
  ·exact o e
 ·cases e:mm a.j
  ·rw[t e];decide
  ·exact s e
 ·intro l;apply k;rcases l with e|e|e|e<;>rw[e]<;>rfl
end Go.Proofs.YtfmgjpcmcjjoiaaGreatDoor
