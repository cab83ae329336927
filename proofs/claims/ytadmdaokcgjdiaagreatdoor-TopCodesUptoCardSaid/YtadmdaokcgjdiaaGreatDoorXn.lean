import Derived.Test.YtadmdaokcgjdiaaGreatDoorXl
import Derived.Test.YtadmdaokcgjdiaaGreatDoorXm
open Go.IntKind (i64 u64 u8)
open Int (toNat)
set_option maxRecDepth 100000
set_option maxHeartbeats 4000000
set_option linter.all false
noncomputable section
namespace Go.Proofs.YtadmdaokcgjdiaaGreatDoor
open Go Go.RowKit Go.af
section
variable(i:Nat)(A:Int)(d:H)(ah:G bF)(e:Int)(l:G N)(bg:Int)(bO:G ar)(c0:Int)(g7:Int)
def T8:Int:=let a:=d.li.at' (toNat (i64 ((i64 ((i64 (c0+1))-d.j))-1)));(cond (!a.z) (Td e l bg bO a.F a.M a.w a.C a.P a.aw a.f a.aD) e)
def T9:G N:=let a:=d.li.at' (toNat (i64 ((i64 ((i64 (c0+1))-d.j))-1)));(cond (!a.z) (Te e l bg bO a.F a.M a.w a.C a.P a.aw a.f a.aD) l)
def T_:Int:=let a:=d.li.at' (toNat (i64 ((i64 ((i64 (c0+1))-d.j))-1)));(cond (!a.z) (adi e l bg bO a.F a.M a.w a.C a.P a.aw a.f a.aD) bg)
def Um:G ar:=let a:=d.li.at' (toNat (i64 ((i64 ((i64 (c0+1))-d.j))-1)));(cond (!a.z) (Tf e l bg bO a.F a.M a.w a.C a.P a.aw a.f a.aD) bO)
def aea:Int:=let a:=d.li.at' (toNat (i64 ((i64 ((i64 (c0+1))-d.j))-1)));(cond (!a.z) (adj e l bg bO a.F a.M a.w a.C a.P a.aw a.f a.aD) 0)
def aeb:u:=let a:=d.li.at' (toNat (i64 ((i64 ((i64 (c0+1))-d.j))-1)));(cond (!a.z) (adk e l bg bO a.F a.M a.w a.C a.P a.aw a.f a.aD) ⟨#[]⟩)
def aec:Int:=let a:=d.li.at' (toNat (i64 ((i64 ((i64 (c0+1))-d.j))-1)));(cond (!a.z) (adl e l bg bO a.F a.M a.w a.C a.P a.aw a.f a.aD) 0)
def aed:G u:=let a:=d.li.at' (toNat (i64 ((i64 ((i64 (c0+1))-d.j))-1)));(cond (!a.z) (adm e l bg bO a.F a.M a.w a.C a.P a.aw a.f a.aD) (B:G u))
def ar7:H:={d with ep:=(T8 d e l bg bO c0),dn:=(T9 d e l bg bO c0),e1:=(T_ d e l bg bO c0),er:=(Um d e l bg bO c0),co:=(i64 (c0+1))}
def ad_:Bool:=let b:=i64 (c0+1);let a:=d.ws.at' (toNat g7);(cond (a.q==b) (a.F==(d.li.at' (toNat (i64 ((i64 (b-d.j))-1)))).q) false)
def BT(b:G bF):G bF:=let a:=d.ws.at' (toNat g7);(cond (ad_ d c0 g7) (G.app b (G.lit ([(⟨d.bf,a.z,a.M,a.w,a.C,a.P,a.aw,a.f,(aea d e l bg bO c0),(aeb d e l bg bO c0),(aec d e l bg bO c0),(aed d e l bg bO c0)⟩:bF)]:List bF))) b)
def BS(d:H)(e:Int)(l:G N)(bg:Int)(bO:G ar)(c0:Int):Nat->Int->G bF->Int×G bF×Bool
 |0,_,_=>default
 |k+1,g7,a=>let b:=decide (g7<(d.ws.n:Int));(cond b (BS d e l bg bO c0 k (i64 (g7+1)) (BT d e l bg bO c0 g7 a)) (g7,a,b))
def Lm(a:G bF):Int×G bF×Bool:=BS d e l bg bO c0 ((toNat ((d.ws.n:Int)-0))+1) 0 a
def k7(A:Int)(d:H):Nat->Int->G N->Int->G ar->Int->G bF->Int×G N×Int×G ar×Int×G bF
 |0,_,_,_,_,_,_=>default
 |k+1,e,l,bg,bO,c0,a=>(cond (decide (c0<A)) (k7 A d k (T8 d e l bg bO c0) (T9 d e l bg bO c0) (T_ d e l bg bO c0) (Um d e l bg bO c0) (i64 (c0+1)) (Lm d e l bg bO c0 a).2.1) (e,l,bg,bO,c0,a))
def BU:Int×G N×Int×G ar×Int×G bF:=k7 A d ((toNat (A-d.co))+1) d.ep d.dn d.e1 d.er d.co ah
def yp:G bF:=(BU A d ah).2.2.2.2.2
def lK:H:=let a:=BU A d ah;{d with ep:=a.1,dn:=a.2.1,e1:=a.2.2.1,er:=a.2.2.2.1,co:=a.2.2.2.2.1}
def ag1(d:H)(a:Int)(b:G N)(c:Int)(f:G ar)(e:Int)(j:d.ws.n<=549755813888): ∀(k:Nat) (v:Int) (s:G bF),0<=v->v<=(d.ws.n:Int)->toNat ((d.ws.n:Int)-v)<k->(((BS d a b c f e k v s).2.1.n:Nat):Int)<=s.n+((d.ws.n:Int)-v)
 |0,_,_,_,_,g=>absurd g (eD _)
 |k+1,v,s,l,m,g=>by
  show(((cond (decide (v<(d.ws.n:Int))) (BS d a b c f e k (i64 (v+1)) (BT d a b c f e v s)) (v,s,decide (v<(d.ws.n:Int)))).2.1.n:Nat):Int)<=_
  by_cases h:v<(d.ws.n:Int)
  .rw[bM h,aR];have n:=E (v+1);have o:=ag1 d a b c f e j k (i64 (v+1)) (BT d a b c f e v s) Ω Ω Ω;have i:=Jn (s:=BT d a b c f e v s) _ _ _ rfl;simp only[G.pI,G.na,dy,fs]at i;omega
  .rw[bj h,aX];show(s.n:Int)<=_;omega
def ahL(d:H)(a:Int)(b:G N)(c:Int)(f:G ar)(e:Int)(s:G bF)(g:d.ws.n<=549755813888):(((Lm d a b c f e s).2.1.n:Nat):Int)<=s.n+(d.ws.n:Int):=by
 have h:=ag1 d a b c f e g (toNat ((d.ws.n:Int)-0)+1) 0 s Ω Ω Ω;show(((BS d a b c f e (toNat ((d.ws.n:Int)-0)+1) 0 s).2.1.n:Nat):Int)<=_;omega
def PX:dr:=⟨[.p 0,.fC 0 (33*i),.v a],ck,e0,eN,λ(A:Int)=>cP λC=>let b:=C.d i;⟨⟨some (C.told.n<=541000000000/\b.ws.n<=3000/\0<=b.j/\b.j<=b.co/\b.co<=4194304/\A<=b.j+(b.li.n:Int)/\b.li.n<=200),[],cu aO 0 (C.put i (lK A b C.told) C.ag (yp A b C.told) C.bh)⟩⟩⟩
def Z0:cT:=⟨.eR true [] [] (gJ i aO 0 [] 0) (gF i aO),[],[]++fT i aO,⟨[],[]⟩⟩
def atr(C:aA):cw (Z0 i).cg:=let e:=C.d i;(.zg ⟨7,[],[],[(.h 0 (33*i+15),a),(.h 0 (33*i+16),.ab bp),(.h 0 (33*i+17),a),(.h 0 (33*i+18),.ab bZ),(.h 0 (33*i+19),a),(.h 8 0,.ad j_)],some 0,false,0,[],[(.h 0 (33*i+15),a),(.h 0 (33*i+16),.ab bp),(.h 0 (33*i+17),a),(.h 0 (33*i+18),.ab bZ),(.h 0 (33*i+19),a),(.h 8 0,.ad j_)],λk (s:Int×G N×Int×G ar×Int×G bF)=>k7 A e k s.1 s.2.1 s.2.2.1 s.2.2.2.1 s.2.2.2.2.1 s.2.2.2.2.2,.f,λ(s:Int×G N×Int×G ar×Int×G bF)=>((e.co<=s.2.2.2.2.1/\(s.2.2.2.2.1<=A\/s.2.2.2.2.1=e.co))/\(s.2.2.2.2.2.n:Int)<=C.told.n+(s.2.2.2.2.1-e.co)*3000),λ(s:Int×G N×Int×G ar×Int×G bF)=>(toNat (A-s.2.2.2.2.1)),some λ(r:Int×G N×Int×G ar×Int×G bF)=>(r.2.2.2.2.2.n:Int)<=C.told.n+(max (A-e.co) 0)*3000⟩ (λ(c:Int×G N×Int×G ar×Int×G bF)=>let f:=i64 (c.2.2.2.2.1+1);let g:=i64 (f-e.j);let h:=i64 (g-1);let j:=toNat h;let d:=e.li.at' j;(.ae (.ae (.ae (.ae (.j ⟨17592186043591,[],[(.h 0 (33*i+15),a),(.h 0 (33*i+16),.ab bp),(.h 0 (33*i+17),a),(.h 0 (33*i+18),.ab bZ),(.h 11 0,a),(.h 11 1,al),(.h 11 2,a),(.h 11 3,.ab bV)],[],.f⟩ .z (.bs ⟨([.ptr 0 0,.ptr 0 (33*i+0),b A,U,U,U,.ptr 10 0,.ptr 11 0,U,U,.ptr 0 (33*i+0),.ptr 0 (33*i+0),.ptr 0 (33*i+19),b c.2.2.2.2.1,b A,.bool (decide (c.2.2.2.2.1<A)),.ptr 0 (33*i+0),.ptr 0 (33*i+0),.ptr 0 (33*i+19),b c.2.2.2.2.1,b f,.ptr 0 (33*i+0),.ptr 0 (33*i+19),.ptr 0 (33*i+0),.ptr 0 (33*i+0),.ptr 0 (33*i+6),.ptr 0 (33*i+8),aP 10 eo e.li,.ptr 0 (33*i+0),.ptr 0 (33*i+0),.ptr 0 (33*i+19),b f,.ptr 0 (33*i+0),.ptr 0 (33*i+0),.ptr 0 (33*i+6),.ptr 0 (33*i+6),b e.j,b g,b h,.ref [b d.q,b d.F,.bool d.z,b d.M,b d.w,b d.C,.str d.P,.str d.aw,.str d.f,b d.aD],.agg [b d.q,b d.F,.bool d.z,b d.M,b d.w,b d.C,.str d.P,.str d.aw,.str d.f,b d.aD],.ptr 10 2,.bool d.z,.bool (!d.z)]++(us 57 ([]))),cy aO 2 (C.put i (ar7 e c.1 c.2.1 c.2.2.1 c.2.2.2.1 c.2.2.2.2.1) C.ag c.2.2.2.2.2 C.bh) [(10,[b d.q,b d.F,.bool d.z,b d.M,b d.w,b d.C,.str d.P,.str d.aw,.str d.f,b d.aD]),(11,[b (aea e c.1 c.2.1 c.2.2.1 c.2.2.2.1 c.2.2.2.2.1),.str (aeb e c.1 c.2.1 c.2.2.1 c.2.2.2.1 c.2.2.2.2.1),b (aec e c.1 c.2.1 c.2.2.1 c.2.2.2.1 c.2.2.2.2.1),aP 1 cU (aed e c.1 c.2.1 c.2.2.1 c.2.2.2.1 c.2.2.2.2.1)])]⟩ (.ae (.cX ⟨72634072382417403079,[],[],[(.t 65,a),(.h 8 0,.ad j_)],some 2,false,146421048677255609543,[],[(.t 65,a),(.h 8 0,.ad j_),(.t 66,K)],λk (s:Int×G bF)=>BS e c.1 c.2.1 c.2.2.1 c.2.2.2.1 c.2.2.2.2.1 k s.1 s.2,.f,λ(s:Int×G bF)=>((0<=s.1/\s.1<=(e.ws.n:Int))/\(s.2.n:Int)<=c.2.2.2.2.2.n+(s.1-0)),λ(s:Int×G bF)=>(toNat ((e.ws.n:Int)-s.1)),some λ(r:Int×G bF×Bool)=>(r.2.1.n:Int)<=c.2.2.2.2.2.n+max ((e.ws.n:Int)-0) 0⟩ (.ae (.ae (.j ⟨4986817853006432924860103,[.b 13],[(.h 8 0,.ad j_)],[],.f⟩ (.ae (.j ⟨4986817853006432924860103,[],[(.t 76,K),(.t 82,K)],[],.f⟩ .z .z)) .z)))))))))))))
def XS(i:Nat)(A:Int)(C:aA):Prop:=(((((C.d i).co<=(C.d i).co/\((C.d i).co<=A\/(C.d i).co=(C.d i).co))/\(C.told.n:Int)<=C.told.n+((C.d i).co- (C.d i).co)*3000))/\(∀(e:Int) (l:G N) (bg:Int) (bO:G ar) (c0:Int) (a:G bF),(((C.d i).co<=c0/\(c0<=A\/c0=(C.d i).co))/\(a.n:Int)<=C.told.n+(c0- (C.d i).co)*3000)->(((decide (c0<A))=true->(((0:Int)<=(i64 ((i64 ((i64 (c0+1))- (C.d i).j))-1))/\(i64 ((i64 ((i64 (c0+1))- (C.d i).j))-1))<(((C.d i).li.n:Nat):Int))/\((((0<=(0:Int)/\(0:Int)<=(((C.d i).ws.n:Nat):Int))/\(a.n:Int)<=a.n+((0:Int)-0)))/\(∀(g7:Int) (b:G bF),((0<=g7/\g7<=(((C.d i).ws.n:Nat):Int))/\(b.n:Int)<=a.n+(g7-0))->(((decide (g7<(((C.d i).ws.n:Nat):Int)))=true->((((0:Int)<=g7/\g7<(((C.d i).ws.n:Nat):Int))/\((toNat g7)<(C.d i).ws.n))/\((ad_ (C.d i) c0 g7)=true->(b.n+1<=549755813888))))/\(((decide (g7<(((C.d i).ws.n:Nat):Int)))=true->(((0<=(i64 (g7+1))/\(i64 (g7+1))<=(((C.d i).ws.n:Nat):Int))/\(((BT (C.d i) e l bg bO c0 g7 b).n:Nat):Int)<=a.n+((i64 (g7+1))-0))/\(toNat ((((C.d i).ws.n:Nat):Int)- (i64 (g7+1))))<(toNat ((((C.d i).ws.n:Nat):Int)-g7))))/\((decide (g7<(((C.d i).ws.n:Nat):Int)))=false->((b.n:Int)<=a.n+max ((((C.d i).ws.n:Nat):Int)-0) 0))))))))/\(((decide (c0<A))=true->((((C.d i).co<=(i64 (c0+1))/\((i64 (c0+1))<=A\/(i64 (c0+1))=(C.d i).co))/\(((Lm (C.d i) e l bg bO c0 a).2.1.n:Nat):Int)<=C.told.n+((i64 (c0+1))- (C.d i).co)*3000)/\(toNat (A- (i64 (c0+1))))<(toNat (A-c0))))/\((decide (c0<A))=false->((a.n:Int)<=C.told.n+(max (A- (C.d i).co) 0)*3000))))))
def aBo(i:Nat)(j:i<3)(A:Int)(C:aA)(g:eP C)(k:C.told.n<=541000000000/\(C.d i).ws.n<=3000/\0<=(C.d i).j/\(C.d i).j<=(C.d i).co/\(C.d i).co<=4194304/\A<=(C.d i).j+((C.d i).li.n:Int)/\(C.d i).li.n<=200):XS i A C:=by
 have f:=g4 g i j;unfold fS at f;unfold XS;exact have⟨u,v,w,x,y,z,B⟩:=k;(⟨Ω,(λe l bg bO c0 m r=>⟨(λb=>⟨(by have:=an b;have:=E (c0+1);have:=E ((i64 (c0+1))- (C.d i).j);have:=E ((i64 ((i64 (c0+1))- (C.d i).j))-1);omega),⟨Ω,(λg7 n t=>⟨(λa=>⟨⟨(by have:=an a;omega),(by have:=an a;omega)⟩,(λo=>Ω)⟩),⟨(λc=>(by have:=an c;have h:=Jn (s:=(BT (C.d i) e l bg bO c0 g7 n)) _ _ _ rfl;(try simp only[G.pI,G.na,G.uw,dy,fs]at h);have:=E (g7+1);omega)),(λp=>Ω)⟩⟩)⟩⟩),⟨(λd=>(by have:=an d;have:=ahL (C.d i) e l bg bO c0 m Ω;have:=E (c0+1);omega)),(λq=>Ω)⟩⟩)⟩)
def aza(i:Nat)(a:i<3)(A:Int):e8 Tryz.prog 77 (PX i) ck [] (cP λC=>⟨⟨some (C.told.n<=541000000000/\(C.d i).ws.n<=3000/\0<=(C.d i).j/\(C.d i).j<=(C.d i).co/\(C.d i).co<=4194304/\A<=(C.d i).j+((C.d i).li.n:Int)/\(C.d i).li.n<=200),[],cu aO 0 (C.put i (lK A (C.d i) C.told) C.ag (yp A (C.d i) C.told) C.bh)⟩⟩) [b A]:=by
 refine gC λC c=>λd=>eC (Z0 i) (atr i A C) (XS i A C) (b1 10 (aJ axf a2) b0) Tryz.func77 [] ?_ ?_ (aBo i a A C c d)
 .rcases ca a with rfl|rfl|rfl<;>kernel_rfl
 .rcases ca a with rfl|rfl|rfl<;>kernel_rfl
def aCc(i:Nat)(b:i<3):gr 77 (PX i):=
 jR (bE:=[a]) λs c=>Eq.mp (by rcases ca b with rfl|rfl|rfl<;>kernel_rfl) (aza i b s.1)
def agG(i:Nat)(a:i<3):gu 77 (PX i):=gQ gB Tryz.func77 (aCc i a)
end
def H.kF(j:Nat)(n:H):H:=match j with
 |0=>{n with v0:=true}
 |1=>{n with v1:=true}
 |_=>{n with v2:=true}
def H.asU(j:Nat)(n:H):Int:=match j with
 |0=>n.dO
 |1=>n.dD
 |_=>n.dG
def H.aeZ(j:Nat)(n:H):Int:=match j with
 |0=>n.hq
 |1=>n.q1
 |_=>n.fQ
def H.sp(j:Nat)(x:Int)(n:H):H:=match j with
 |0=>{n with dO:=x}
 |1=>{n with dD:=x}
 |_=>{n with dG:=x}
def H.aDH(j:Nat)(x y:Int)(n:H):H:=match j with
 |0=>{n with dO:=x,hq:=y}
 |1=>{n with dD:=x,q1:=y}
 |_=>{n with dG:=x,fQ:=y}
section
variable(e:Int)(bg:Bool)(r:G Int)(h:Bool)(o:G N)(c:G ar)
def Bd:G Int:=(aL (tb (cC r h) (cN r h)) (xR (cC r h) (cN r h)))
def KD:Bool:=(aM (tb (cC r h) (cN r h)) (xR (cC r h) (cN r h)))
def Fi:G N:=let b:=cN r h;let a:=cC r h;(G.app o (G.lit ([(⟨(h8 r h),(Fj a b),(Fk a b),(Fl a b),(Be a b),(Bf a b),(Bg a b),(cW (tb a b) (xR a b))⟩:N)]:List N)))
def alG:cf:=⟨[.p 0,.p 1],[(.h 0 0,a),(.h 0 2,a),(.h 2 0,.ab bo),(.h 2 1,K),(.h 3 0,.ad bp),(.h 4 0,.ad bZ)],[[U,.own 3 0,U,.own 4 0],[.ptr 2 0],[U,U],[U],[U]],λ(A:Int) (g:Int) r h o c=>⟨⟨some (aK r/\o.n<=1000),[],[[b A,.own 3 ((Fi r h o)).n,b g,.own 4 (c).n],[.ptr 2 0],[aP 1 cZ (Bd r h),.bool (KD r h)],[(aH.ad bp).av (Fi r h o)],[(aH.ad bZ).av c]]⟩⟩⟩
theorem awX:dV 125 alG:=ea Tryz.func125
 λ(A:Int) (g:Int) r i h o j c k b=>dU ⟨.heap,[],[(.h 0 0,a),(.h 0 2,a),(.h 2 0,.ab bo),(.h 2 1,K),(.h 3 0,.ad bp),(.h 4 0,.ad bZ)],⟨[],[[U,.own 3 0,U,.own 4 0],[.ptr 2 0],[U,U],[U],[U]]⟩⟩ (.z) ((aK r)/\((aK (cC r h))/\(o.n+1<=549755813888))) (b1 5 a2 (ay wu (ay y9 (ay awY b0)))) Tryz.func125 (have⟨e,f⟩:=b;⟨(by first|(with_reducible (repeat first|assumption|apply dS|apply d_|apply eB|apply eu|apply gP|apply d|apply gq|apply gd|apply gf|apply gN|apply gb|apply gO|apply gL|apply gM|apply g6|apply ht|apply hv|apply hH);done)|assumption),⟨(by first|(with_reducible (repeat first|assumption|apply dS|apply d_|apply eB|apply eu|apply gP|apply d|apply gq|apply gd|apply gf|apply gN|apply gb|apply gO|apply gL|apply gM|apply g6|apply ht|apply hv|apply hH);done)|assumption),Ω⟩⟩)
theorem g6{r:G Int}{h:Bool}(a:aK r):aK (Bd r h):=d_ (gM (eu a))
theorem azl(r:G Int)(h:Bool)(o:G N):(Fi r h o).n=o.n+1:=rfl
def E9:Bool:=(cond (decide (e>0)) (!bg) false)
def xN:Nat->Int->G Int->Bool->G N->G Int×Bool×G N
 |0,_,_,_,_=>default
 |k+1,e,l,bg,bO=>(cond (E9 e bg) (xN k (i64 (e-1)) (Bd l bg) (KD l bg) (Fi l bg bO)) (l,bg,bO))
def SV:G Int×Bool×G N:=xN ((toNat (cD r h))+1) (cD r h) (cc r h) (cl r h) o
def pV:G Int:=(SV r h o).1
def s_:Bool:=(SV r h o).2.1
def pW:G N:=(SV r h o).2.2
def alB:cf:=⟨[.p 2,.jU 125 [0,1]],[(.h 0 0,a),(.h 0 2,a),(.h 2 0,.ab bo),(.h 2 1,K),(.h 3 0,.ad bp),(.h 4 0,.ad bZ)],[[U,.own 3 0,U,.own 4 0],[.ptr 2 0],[U,U],[U],[U]],λ(A:Int) (g:Int) r h o c=>let d:=pW r h o;⟨⟨some (aK r/\o.n<=10),[],[[b A,.own 3 (d).n,b g,.own 4 (c).n],[.ptr 2 0],[aP 1 cZ (pV r h o),.bool (s_ r h o)],[(aH.ad bp).av d],[(aH.ad bZ).av c]]⟩⟩⟩
theorem awS:dV 124 alB:=ea Tryz.func124
 λ(A:Int) (g:Int) r u h o v c w m=>dU ⟨.heap,[],[(.h 0 0,a),(.h 0 2,a),(.h 2 0,.ab bo),(.h 2 1,K),(.h 3 0,.ad bp),(.h 4 0,.ad bZ)],⟨[],[[U,.own 3 0,U,.own 4 0],[.ptr 2 0],[U,U],[U],[U]]⟩⟩ (.ae (.cX ⟨19,[],[],[(.t 4,a),(.h 2 0,.ab bo),(.h 2 1,K),(.h 3 0,.ad bp)],some 0,false,0,[],[(.h 2 0,.ab bo),(.h 2 1,K),(.h 3 0,.ad bp)],λk (s:Int×G Int×Bool×G N)=>xN k s.1 s.2.1 s.2.2.1 s.2.2.2,.f,λ(s:Int×G Int×Bool×G N)=>(aK s.2.1/\0<=s.1/\s.1<=255/\(s.2.2.2.n:Int)<=(o.n:Int)+255-s.1),λ(s:Int×G Int×Bool×G N)=>(toNat s.1),none⟩ (.s (.j ⟨33683,[],[(.t 9,K),(.t 15,K)],[],.f⟩ .z .z) .z))) (((aK (cc r h)/\0<=(cD r h)/\(cD r h)<=255/\(o.n:Int)<=(o.n:Int)+255- (cD r h)))/\(∀(e:Int) (l:G Int) (bg:Bool) (bO:G N),let i:=E9 e bg;let b:=i64 (e-1);(aK l/\0<=e/\e<=255/\(bO.n:Int)<=(o.n:Int)+255-e)->((i=true->(aK l/\bO.n<=1000))/\(i=true->((aK (Bd l bg)/\0<=b/\b<=255/\(((Fi l bg bO).n:Nat):Int)<=(o.n:Int)+255-b)/\(toNat b)<(toNat e)))))) (b1 5 a2 (ay awX (ay r2 b0))) Tryz.func124 (have⟨p,q⟩:=m;⟨⟨(by first|(with_reducible (repeat first|assumption|apply dS|apply d_|apply eB|apply eu|apply gP|apply d|apply gq|apply gd|apply gf|apply gN|apply gb|apply gO|apply gL|apply gM|apply g6|apply ht|apply hv|apply hH);done)|assumption),(by have:=C6 r h (by first|(with_reducible (repeat first|assumption|apply dS|apply d_|apply eB|apply eu|apply gP|apply d|apply gq|apply gd|apply gf|apply gN|apply gb|apply gO|apply gL|apply gM|apply g6|apply ht|apply hv|apply hH);done)|assumption);omega)⟩,(λe l bg bO j=>have t:=j.1;⟨(λn=>⟨(by first|(with_reducible (repeat first|assumption|apply dS|apply d_|apply eB|apply eu|apply gP|apply d|apply gq|apply gd|apply gf|apply gN|apply gb|apply gO|apply gL|apply gM|apply g6|apply ht|apply hv|apply hH);done)|assumption),Ω⟩),(λf=>⟨⟨(by first|(with_reducible (repeat first|assumption|apply dS|apply d_|apply eB|apply eu|apply gP|apply d|apply gq|apply gd|apply gf|apply gN|apply gb|apply gO|apply gL|apply gM|apply g6|apply ht|apply hv|apply hH);done)|assumption),(by have:=f;(try simp [E9]at this);have:=azl l bg bO;have:=E (e-1);omega)⟩,(by have:=f;(try simp [E9]at this);have:=E (e-1);omega)⟩)⟩)⟩)
theorem ajQ: ∀(m:Nat) (n:Int) (s:G Int) (b:Bool) (l:G N),aK s->aK (xN m n s b l).1
 |0,_,_,_,_,_=>λi=>by show(0:Int)<=0/\(0:Int)<=255;omega
 |m+1,n,s,b,l,h=>by
  rw[xN]
  cases E9 n b
  .exact h
  .exact ajQ m _ _ _ _ (g6 h)
theorem ht{r:G Int}{h:Bool}{o:G N}(a:aK r):aK (pV r h o):=ajQ _ _ _ _ _ (eB a)
def Bh:G Int:=let d:=aM (aL r h) (aM r h);let c:=aL (aL r h) (aM r h);let b:=aM c d;let a:=aL c d;let f:=cN (cc a b) (cl a b);let e:=cC (cc a b) (cl a b);(tc (aL e f) (aM e f))
def KE:Bool:=let d:=aM (aL r h) (aM r h);let c:=aL (aL r h) (aM r h);let b:=aM c d;let a:=aL c d;let f:=cN (cc a b) (cl a b);let e:=cC (cc a b) (cl a b);(xT (aL e f) (aM e f))
def Fm:G ar:=let j:=aM r h;let i:=aL r h;let e:=aM i j;let d:=aL i j;let b:=aM d e;let a:=aL d e;let l:=cl a b;let k:=cc a b;let g:=cN k l;let f:=cC k l;(G.app c (G.lit ([(⟨(cW r h),(cW i j),(cW d e),(cD a b),(h8 k l),(cW f g),(xS (aL f g) (aM f g))⟩:ar)]:List ar)))
def alJ:cf:=⟨[.p 0,.p 1],[(.h 1 0,a),(.h 1 2,a),(.h 2 0,.ab bo),(.h 2 1,K),(.h 3 0,.ad bp),(.h 4 0,.ad bZ)],[[.ptr 2 0],[U,.own 3 0,U,.own 4 0],[U,U],[U],[U]],λ(A:Int) (g:Int) r h o c=>⟨⟨some (aK r/\c.n<=1000),[],[[.ptr 2 0],[b A,.own 3 (o).n,b g,.own 4 ((Fm r h c)).n],[aP 1 cZ (Bh r h),.bool (KE r h)],[(aH.ad bp).av o],[(aH.ad bZ).av (Fm r h c)]]⟩⟩⟩
theorem awZ:dV 128 alJ:=ea Tryz.func128
 λ(A:Int) (g:Int) r m h o n c p i=>dU ⟨.heap,[],[(.h 1 0,a),(.h 1 2,a),(.h 2 0,.ab bo),(.h 2 1,K),(.h 3 0,.ad bp),(.h 4 0,.ad bZ)],⟨[],[[.ptr 2 0],[U,.own 3 0,U,.own 4 0],[U,U],[U],[U]]⟩⟩ (.z) (let d:=aM (aL r h) (aM r h);let b:=aL (aL r h) (aM r h);let f:=cl (aL b d) (aM b d);let e:=cc (aL b d) (aM b d);(aK e)/\((aK (aL (cC e f) (cN e f)))/\(c.n+1<=549755813888))) (b1 5 a2 (ay wu (ay y9 (ay r2 (ay agp b0))))) Tryz.func128 (have⟨k,l⟩:=i;⟨(by first|(with_reducible (repeat first|assumption|apply dS|apply d_|apply eB|apply eu|apply gP|apply j|apply gq|apply gd|apply gf|apply gN|apply gb|apply gO|apply gL|apply gM|apply g6|apply ht|apply hv|apply hH);done)|assumption),⟨(by first|(with_reducible (repeat first|assumption|apply dS|apply d_|apply eB|apply eu|apply gP|apply j|apply gq|apply gd|apply gf|apply gN|apply gb|apply gO|apply gL|apply gM|apply g6|apply ht|apply hv|apply hH);done)|assumption),Ω⟩⟩)
theorem hv{r:G Int}{h:Bool}(a:aK r):aK (Bh r h):=gf (d_ (eu (eB (d_ (d_ (d_ a))))))
theorem azm(r:G Int)(h:Bool)(c:G ar):(Fm r h c).n=c.n+1:=rfl
def KC:Bool:=(cond (decide (e>0)) (!bg) false)
def E_:Nat->Int->G Int->Bool->G ar->G Int×Bool×G ar
 |0,_,_,_,_=>default
 |k+1,e,l,bg,bO=>(cond (KC e bg) (E_ k (i64 (e-1)) (Bh l bg) (KE l bg) (Fm l bg bO)) (l,bg,bO))
def SW:G Int×Bool×G ar:=E_ ((toNat (cD r h))+1) (cD r h) (cc r h) (cl r h) c
def vn:G Int:=(SW r h c).1
def vo:Bool:=(SW r h c).2.1
def pX:G ar:=(SW r h c).2.2
def alC:cf:=⟨[.p 2,.jU 128 [0,1]],[(.h 1 0,a),(.h 1 2,a),(.h 2 0,.ab bo),(.h 2 1,K),(.h 3 0,.ad bp),(.h 4 0,.ad bZ)],[[.ptr 2 0],[U,.own 3 0,U,.own 4 0],[U,U],[U],[U]],λ(A:Int) (g:Int) r h o c=>let d:=pX r h c;⟨⟨some (aK r/\c.n<=10),[],[[.ptr 2 0],[b A,.own 3 (o).n,b g,.own 4 (d).n],[aP 1 cZ (vn r h c),.bool (vo r h c)],[(aH.ad bp).av o],[(aH.ad bZ).av d]]⟩⟩⟩
theorem awT:dV 124 alC:=ea Tryz.func124
 λ(A:Int) (g:Int) r u h o v c w m=>dU ⟨.heap,[],[(.h 1 0,a),(.h 1 2,a),(.h 2 0,.ab bo),(.h 2 1,K),(.h 3 0,.ad bp),(.h 4 0,.ad bZ)],⟨[],[[.ptr 2 0],[U,.own 3 0,U,.own 4 0],[U,U],[U],[U]]⟩⟩ (.ae (.cX ⟨19,[],[],[(.t 4,a),(.h 2 0,.ab bo),(.h 2 1,K),(.h 4 0,.ad bZ)],some 0,false,0,[],[(.h 2 0,.ab bo),(.h 2 1,K),(.h 4 0,.ad bZ)],λk (s:Int×G Int×Bool×G ar)=>E_ k s.1 s.2.1 s.2.2.1 s.2.2.2,.f,λ(s:Int×G Int×Bool×G ar)=>(aK s.2.1/\0<=s.1/\s.1<=255/\(s.2.2.2.n:Int)<=(c.n:Int)+255-s.1),λ(s:Int×G Int×Bool×G ar)=>(toNat s.1),none⟩ (.s (.j ⟨33683,[],[(.t 9,K),(.t 15,K)],[],.f⟩ .z .z) .z))) (((aK (cc r h)/\0<=(cD r h)/\(cD r h)<=255/\(c.n:Int)<=(c.n:Int)+255- (cD r h)))/\(∀(e:Int) (l:G Int) (bg:Bool) (bO:G ar),let i:=KC e bg;let b:=i64 (e-1);(aK l/\0<=e/\e<=255/\(bO.n:Int)<=(c.n:Int)+255-e)->((i=true->(aK l/\bO.n<=1000))/\(i=true->((aK (Bh l bg)/\0<=b/\b<=255/\(((Fm l bg bO).n:Nat):Int)<=(c.n:Int)+255-b)/\(toNat b)<(toNat e)))))) (b1 5 a2 (ay awZ (ay r2 b0))) Tryz.func124 (have⟨p,q⟩:=m;⟨⟨(by first|(with_reducible (repeat first|assumption|apply dS|apply d_|apply eB|apply eu|apply gP|apply d|apply gq|apply gd|apply gf|apply gN|apply gb|apply gO|apply gL|apply gM|apply g6|apply ht|apply hv|apply hH);done)|assumption),(by have:=C6 r h (by first|(with_reducible (repeat first|assumption|apply dS|apply d_|apply eB|apply eu|apply gP|apply d|apply gq|apply gd|apply gf|apply gN|apply gb|apply gO|apply gL|apply gM|apply g6|apply ht|apply hv|apply hH);done)|assumption);omega)⟩,(λe l bg bO j=>have t:=j.1;⟨(λn=>⟨(by first|(with_reducible (repeat first|assumption|apply dS|apply d_|apply eB|apply eu|apply gP|apply d|apply gq|apply gd|apply gf|apply gN|apply gb|apply gO|apply gL|apply gM|apply g6|apply ht|apply hv|apply hH);done)|assumption),Ω⟩),(λf=>⟨⟨(by first|(with_reducible (repeat first|assumption|apply dS|apply d_|apply eB|apply eu|apply gP|apply d|apply gq|apply gd|apply gf|apply gN|apply gb|apply gO|apply gL|apply gM|apply g6|apply ht|apply hv|apply hH);done)|assumption),(by have:=f;(try simp [KC]at this);have:=azm l bg bO;have:=E (e-1);omega)⟩,(by have:=f;(try simp [KC]at this);have:=E (e-1);omega)⟩)⟩)⟩)
end
section
variable(A:G Int)
def rN:Int:=let d:=aM A false;let c:=aL A false;let b:=s_ c d (B:G N);let a:=pV c d (B:G N);let f:=aM a b;let e:=aL a b;(cond (decide ((A.n:Int)>20000)) 0 (cond ((gm true (vn e f (B:G ar)) (vo e f (B:G ar)))!=0) 0 (cond ((ed (cW A false) (pW c d (B:G N)) (cW a b) (pX e f (B:G ar)))!=0) 0 (cW A false))))
def rO:G N:=let d:=aM A false;let c:=aL A false;let g:=pW c d (B:G N);let b:=s_ c d (B:G N);let a:=pV c d (B:G N);let f:=aM a b;let e:=aL a b;(cond (decide ((A.n:Int)>20000)) (B:G N) (cond ((gm true (vn e f (B:G ar)) (vo e f (B:G ar)))!=0) (B:G N) (cond ((ed (cW A false) g (cW a b) (pX e f (B:G ar)))!=0) (B:G N) g)))
def yM:Int:=let d:=aM A false;let c:=aL A false;let b:=s_ c d (B:G N);let a:=pV c d (B:G N);let f:=aM a b;let e:=aL a b;(cond (decide ((A.n:Int)>20000)) 0 (cond ((gm true (vn e f (B:G ar)) (vo e f (B:G ar)))!=0) 0 (cond ((ed (cW A false) (pW c d (B:G N)) (cW a b) (pX e f (B:G ar)))!=0) 0 (cW a b))))
def rP:G ar:=let d:=aM A false;let c:=aL A false;let b:=s_ c d (B:G N);let a:=pV c d (B:G N);let f:=aM a b;let e:=aL a b;let g:=pX e f (B:G ar);(cond (decide ((A.n:Int)>20000)) (B:G ar) (cond ((gm true (vn e f (B:G ar)) (vo e f (B:G ar)))!=0) (B:G ar) (cond ((ed (cW A false) (pW c d (B:G N)) (cW a b) g)!=0) (B:G ar) g)))
def Mg:Int:=let d:=aM A false;let c:=aL A false;let b:=s_ c d (B:G N);let a:=pV c d (B:G N);let f:=aM a b;let e:=aL a b;let h:=gm true (vn e f (B:G ar)) (vo e f (B:G ar));let g:=ed (cW A false) (pW c d (B:G N)) (cW a b) (pX e f (B:G ar));(cond (decide ((A.n:Int)>20000)) 1 (cond (h !=0) h (cond (g !=0) g 0)))
def anz:bq:=⟨[.v (.ab bo)],λA=>⟨⟨some (aK A),.dp [.agg [b (rN A),aP 8 gU (rO A),b (yM A),aP 7 hi (rP A)],b (Mg A)]⟩⟩⟩
def agR:bx 101 anz:=bA Tryz.func101
 λA f _ e=>bD ⟨.pure,[.cell 2 49,.tmp 3],[(.c 0 0,a),(.c 0 1,.ab bp),(.c 0 2,a),(.c 0 3,.ab bZ),(.t 1,a)],⟨[.agg (us 4 []),U],[]⟩⟩ (.ae (.ae (.ae (.ae (.s (.jb [(.h 2 0,bo)]) (.s (.jb [(.h 4 1,bp),(.h 4 3,bZ)]) .z)))))) (let b:=aL A false;(decide ((A.n:Int)>20000))=false->((aK b/\0<=10)/\(aK (aL (pV b (aM A false) (B:G N)) (s_ b (aM A false) (B:G N)))/\0<=10))) (b1 0 (aJ Nq (aJ ago a2)) (ay agl (ay wu (ay awS (ay awT b0))))) Tryz.func101 ((λd=>⟨⟨(by first|(with_reducible (repeat first|assumption|apply dS|apply d_|apply eB|apply eu|apply gP|apply c|apply gq|apply gd|apply gf|apply gN|apply gb|apply gO|apply gL|apply gM|apply g6|apply ht|apply hv|apply hH);done)|assumption),Ω⟩,⟨(by first|(with_reducible (repeat first|assumption|apply dS|apply d_|apply eB|apply eu|apply gP|apply c|apply gq|apply gd|apply gf|apply gN|apply gb|apply gO|apply gL|apply gM|apply g6|apply ht|apply hv|apply hH);done)|assumption),Ω⟩⟩))
end
section
variable(A:G Int)
def eJ:Bool:=(cond ((A.n:Int)==5) ((A.at' (toNat 0))==1) false)
def fz:Bool:=(cond (decide ((A.n:Int)>4)) ((A.at' (toNat 0))==2) false)
def s4:Bool:=(cond (decide ((A.n:Int)>7)) ((A.at' (toNat 0))==3) false)
def nY:Int:=(cond (eJ A) 1 (cond (fz A) 2 3))
def nZ:Int:=(cond (eJ A) (eG (G.part A 1 (A.n:Int))) 0)
def n0:Int:=(cond (eJ A) (i64 ((i64 (A.at' (toNat 4)))-1)) 0)
def n1:Int:=(cond (eJ A) 0 (cond (fz A) (eG (G.part A 1 (A.n:Int))) 0))
def n2:Int:=(cond (eJ A) 0 (cond (fz A) (L5 (G.part A 4 (A.n:Int))) 0))
def n3:Int:=(cond (eJ A) 0 (cond (fz A) (L6 (G.part A 4 (A.n:Int))) 0))
def nK:Bool:=(cond (eJ A) false (cond (fz A) (L7 (G.part A 4 (A.n:Int))) false))
def nL:Int:=(cond (eJ A) 0 (cond (fz A) (L8 (G.part A 4 (A.n:Int))) 0))
def nM:Int:=(cond (eJ A) 0 (cond (fz A) (L9 (G.part A 4 (A.n:Int))) 0))
def nN:Int:=(cond (eJ A) 0 (cond (fz A) (L_ (G.part A 4 (A.n:Int))) 0))
def nO:u:=(cond (eJ A) ⟨#[]⟩ (cond (fz A) (Ma (G.part A 4 (A.n:Int))) ⟨#[]⟩))
def nP:u:=(cond (eJ A) ⟨#[]⟩ (cond (fz A) (Mb (G.part A 4 (A.n:Int))) ⟨#[]⟩))
def nQ:u:=(cond (eJ A) ⟨#[]⟩ (cond (fz A) (Mc (G.part A 4 (A.n:Int))) ⟨#[]⟩))
def nR:Int:=(cond (eJ A) 0 (cond (fz A) (Md (G.part A 4 (A.n:Int))) 0))
def nS:Int:=(cond (eJ A) 0 (cond (fz A) 0 (eG (G.part A 1 (A.n:Int)))))
def nT:Int:=(cond (eJ A) 0 (cond (fz A) 0 (eG (G.part A 4 (A.n:Int)))))
def nU:Int:=(cond (eJ A) 0 (cond (fz A) 0 (rN (G.part A 7 (A.n:Int)))))
def nV:G N:=(cond (eJ A) (B:G N) (cond (fz A) (B:G N) (rO (G.part A 7 (A.n:Int)))))
def nW:Int:=(cond (eJ A) 0 (cond (fz A) 0 (yM (G.part A 7 (A.n:Int)))))
def nX:G ar:=(cond (eJ A) (B:G ar) (cond (fz A) (B:G ar) (rP (G.part A 7 (A.n:Int)))))
def EG:Int:=(cond (eJ A) 0 (cond (fz A) (Me (G.part A 4 (A.n:Int))) (Mg (G.part A 7 (A.n:Int)))))
def hO:Bool:=(cond (eJ A) true (cond (fz A) true (cond (s4 A) true false)))
def acz:Bool:=(cond ((EG A)==0) ((fA (nY A) (nZ A) (n0 A) (n1 A) (n2 A) (n3 A) (nK A) (nL A) (nM A) (nN A) (nO A) (nP A) (nQ A) (nR A) (nS A) (nT A) (nU A) (nV A) (nW A) (nX A))==0) false)
def J0:Int:=(cond (hO A) (nY A) 0)
def J3:Int:=(cond (hO A) (nZ A) 0)
def Kn:Int:=(cond (hO A) (n0 A) 0)
def Ko:Int:=(cond (hO A) (n1 A) 0)
def Kp:Int:=(cond (hO A) (n2 A) 0)
def Kq:Int:=(cond (hO A) (n3 A) 0)
def Kr:Bool:=(cond (hO A) (nK A) false)
def Ks:Int:=(cond (hO A) (nL A) 0)
def Kt:Int:=(cond (hO A) (nM A) 0)
def Ku:Int:=(cond (hO A) (nN A) 0)
def J4:u:=(cond (hO A) (nO A) ⟨#[]⟩)
def J5:u:=(cond (hO A) (nP A) ⟨#[]⟩)
def J6:u:=(cond (hO A) (nQ A) ⟨#[]⟩)
def J7:Int:=(cond (hO A) (nR A) 0)
def J8:Int:=(cond (hO A) (nS A) 0)
def J9:Int:=(cond (hO A) (nT A) 0)
def J_:Int:=(cond (hO A) (nU A) 0)
def Kd:G N:=(cond (hO A) (nV A) (B:G N))
def Kk:Int:=(cond (hO A) (nW A) 0)
def Km:G ar:=(cond (hO A) (nX A) (B:G ar))
def A0:Bool:=(cond (hO A) (acz A) false)
def akJ:bq:=⟨[.v (.ab bo)],λA=>⟨⟨some (aK A),.dp [.agg [b (J0 A),b (J3 A),b (Kn A),b (Ko A),b (Kp A),b (Kq A),.bool (Kr A),b (Ks A),b (Kt A),b (Ku A),.str (J4 A),.str (J5 A),.str (J6 A),b (J7 A),b (J8 A),b (J9 A),b (J_ A),aP 8 gU (Kd A),b (Kk A),aP 7 hi (Km A)],.bool (A0 A)]⟩⟩⟩
def awm:bx 97 akJ:=bA Tryz.func97
 λA o _ n=>bD ⟨.pure,[.cell 2 155,.tmp 3],[(.c 0 0,a),(.c 0 1,a),(.c 0 2,a),(.c 0 3,a),(.c 0 4,a),(.c 0 5,a),(.c 0 6,K),(.c 0 7,a),(.c 0 8,a),(.c 0 9,a),(.c 0 10,al),(.c 0 11,al),(.c 0 12,al),(.c 0 13,a),(.c 0 14,a),(.c 0 15,a),(.c 0 16,a),(.c 0 17,.ab bp),(.c 0 18,a),(.c 0 19,.ab bZ),(.t 1,K)],⟨[.agg (us 20 []),U],[]⟩⟩ (.ae (.ae (.ae (.j ⟨60,[],[(.h 1 0,a),(.h 1 1,a),(.h 1 2,a),(.h 1 3,a),(.h 1 4,a),(.h 1 5,a),(.h 1 6,K),(.h 1 7,a),(.h 1 8,a),(.h 1 9,a),(.h 1 10,al),(.h 1 11,al),(.h 1 12,al),(.h 1 13,a),(.h 1 14,a),(.h 1 15,a),(.h 1 16,a),(.h 1 17,.ab bp),(.h 1 18,a),(.h 1 19,.ab bZ),(.t 5,a)],[.f,(.b .f .l),(.b .f .l),.f,.f,.f,.f,.f,.f,.f,.f,.f,.f,.f,.f,.f,.f,.f,.f,.f,.f],.f⟩ (.j ⟨189,[],[(.t 7,K)],[],.f⟩ .z (.ae (.j ⟨67108925,[],[(.t 26,K)],[],.f⟩ .z (.ae (.j ⟨140737488355389,[],[(.t 47,K)],[],.f⟩ .z .z))))) (.j ⟨12,[.b 1],[(.t 3,K)],[],.f⟩ .z .z))))) (let j:=G.part A 4 (A.n:Int);let i:=G.part A 1 (A.n:Int);let h:=toNat ((A.n:Int)-1);(((A.n:Int)==5)=true->((0:Int)<=0/\0<(A.n:Int)))/\(((eJ A)=true->((((0:Int)<=1)/\((1:Int)<=(A.n:Int))/\(((A.n:Int):Int)<=(A.n:Int))/\(((A.n:Int):Int)<=(A.n:Int)))/\((aK i/\3<=h)/\((0:Int)<=4/\4<(A.n:Int)))))/\((eJ A)=false->(((decide ((A.n:Int)>4))=true->((0:Int)<=0/\0<(A.n:Int)))/\(((fz A)=true->(((((0:Int)<=1)/\((1:Int)<=(A.n:Int))/\(((A.n:Int):Int)<=(A.n:Int))/\(((A.n:Int):Int)<=(A.n:Int)))/\(aK i/\3<=h))/\((((0:Int)<=4)/\((4:Int)<=(A.n:Int))/\(((A.n:Int):Int)<=(A.n:Int))/\(((A.n:Int):Int)<=(A.n:Int)))/\(aK j))))/\((fz A)=false->(((decide ((A.n:Int)>7))=true->((0:Int)<=0/\0<(A.n:Int)))/\((s4 A)=true->(((((0:Int)<=1)/\((1:Int)<=(A.n:Int))/\(((A.n:Int):Int)<=(A.n:Int))/\(((A.n:Int):Int)<=(A.n:Int)))/\((aK i/\3<=h)/\((((0:Int)<=4)/\((4:Int)<=(A.n:Int))/\(((A.n:Int):Int)<=(A.n:Int))/\(((A.n:Int):Int)<=(A.n:Int)))/\(aK j/\3<=(toNat ((A.n:Int)-4))))))/\((((0:Int)<=7)/\((7:Int)<=(A.n:Int))/\(((A.n:Int):Int)<=(A.n:Int))/\(((A.n:Int):Int)<=(A.n:Int)))/\(aK (G.part A 7 (A.n:Int))))))))))))) (ct (aJ ayl (aJ agR (aJ Wa (aJ agd a2))))) Tryz.func97 (⟨(λk=>(by have:=eq_of_beq k;omega)),⟨(λf=>⟨(by have:=f;(try simp [eJ]at this);omega),⟨⟨(by first|(with_reducible (repeat first|assumption|apply dS|apply d_|apply eB|apply eu|apply gP|apply e|apply gq|apply gd|apply gf|apply gN|apply gb|apply gO|apply gL|apply gM|apply g6|apply ht|apply hv|apply hH|apply lW|apply ll|apply ig);done)|assumption),(by have:=f;(try simp [eJ]at this);omega)⟩,(by have:=f;(try simp [eJ]at this);omega)⟩⟩),(λb=>⟨(λl=>(by have:=b;simp [eJ]at this;have:=an l;omega)),⟨(λg=>⟨⟨(by have:=b;simp [eJ]at this;have:=g;(try simp [fz]at this);omega),⟨(by first|(with_reducible (repeat first|assumption|apply dS|apply d_|apply eB|apply eu|apply gP|apply e|apply gq|apply gd|apply gf|apply gN|apply gb|apply gO|apply gL|apply gM|apply g6|apply ht|apply hv|apply hH|apply lW|apply ll|apply ig);done)|assumption),(by have:=b;simp [eJ]at this;have:=g;(try simp [fz]at this);omega)⟩⟩,⟨(by have:=b;simp [eJ]at this;have:=g;(try simp [fz]at this);omega),(by first|(with_reducible (repeat first|assumption|apply dS|apply d_|apply eB|apply eu|apply gP|apply e|apply gq|apply gd|apply gf|apply gN|apply gb|apply gO|apply gL|apply gM|apply g6|apply ht|apply hv|apply hH|apply lW|apply ll|apply ig);done)|assumption)⟩⟩),(λc=>⟨(λm=>(by have:=b;simp [eJ]at this;have:=c;simp [fz]at this;have:=an m;omega)),(λd=>⟨⟨(by have:=b;simp [eJ]at this;have:=c;simp [fz]at this;have:=d;(try simp [s4]at this);omega),⟨⟨(by first|(with_reducible (repeat first|assumption|apply dS|apply d_|apply eB|apply eu|apply gP|apply e|apply gq|apply gd|apply gf|apply gN|apply gb|apply gO|apply gL|apply gM|apply g6|apply ht|apply hv|apply hH|apply lW|apply ll|apply ig);done)|assumption),(by have:=b;simp [eJ]at this;have:=c;simp [fz]at this;have:=d;(try simp [s4]at this);omega)⟩,⟨(by have:=b;simp [eJ]at this;have:=c;simp [fz]at this;have:=d;(try simp [s4]at this);omega),⟨(by first|(with_reducible (repeat first|assumption|apply dS|apply d_|apply eB|apply eu|apply gP|apply e|apply gq|apply gd|apply gf|apply gN|apply gb|apply gO|apply gL|apply gM|apply g6|apply ht|apply hv|apply hH|apply lW|apply ll|apply ig);done)|assumption),(by have:=b;simp [eJ]at this;have:=c;simp [fz]at this;have:=d;(try simp [s4]at this);omega)⟩⟩⟩⟩,⟨(by have:=b;simp [eJ]at this;have:=c;simp [fz]at this;have:=d;(try simp [s4]at this);omega),(by first|(with_reducible (repeat first|assumption|apply dS|apply d_|apply eB|apply eu|apply gP|apply e|apply gq|apply gd|apply gf|apply gN|apply gb|apply gO|apply gL|apply gM|apply g6|apply ht|apply hv|apply hH|apply lW|apply ll|apply ig);done)|assumption)⟩⟩)⟩)⟩⟩)⟩⟩)
end
section
def nG(A:G Int)(g:Int):Nat->Int->G bm->Int×G bm
 |0,_,_=>default
 |k+1,aB,cQ=>(cond (decide ((i64 (aB+3))<=((bH A g).n:Int))) (cond (decide ((i64 ((i64 (aB+3))+(eG (G.part (bH A g) aB (((bH A g).n:Nat):Int)))))>((bH A g).n:Int))) (aB,cQ) (cond (!(A0 (G.part (bH A g) (i64 (aB+3)) (i64 ((i64 (aB+3))+(eG (G.part (bH A g) aB (((bH A g).n:Nat):Int)))))))) (aB,cQ) (nG A g k (i64 (aB+(i64 (3+(eG (G.part (bH A g) aB (((bH A g).n:Nat):Int))))))) (G.app cQ (G.lit ([(⟨(J0 (G.part (bH A g) (i64 (aB+3)) (i64 ((i64 (aB+3))+(eG (G.part (bH A g) aB (((bH A g).n:Nat):Int))))))),(J3 (G.part (bH A g) (i64 (aB+3)) (i64 ((i64 (aB+3))+(eG (G.part (bH A g) aB (((bH A g).n:Nat):Int))))))),(Kn (G.part (bH A g) (i64 (aB+3)) (i64 ((i64 (aB+3))+(eG (G.part (bH A g) aB (((bH A g).n:Nat):Int))))))),(Ko (G.part (bH A g) (i64 (aB+3)) (i64 ((i64 (aB+3))+(eG (G.part (bH A g) aB (((bH A g).n:Nat):Int))))))),(Kp (G.part (bH A g) (i64 (aB+3)) (i64 ((i64 (aB+3))+(eG (G.part (bH A g) aB (((bH A g).n:Nat):Int))))))),(Kq (G.part (bH A g) (i64 (aB+3)) (i64 ((i64 (aB+3))+(eG (G.part (bH A g) aB (((bH A g).n:Nat):Int))))))),(Kr (G.part (bH A g) (i64 (aB+3)) (i64 ((i64 (aB+3))+(eG (G.part (bH A g) aB (((bH A g).n:Nat):Int))))))),(Ks (G.part (bH A g) (i64 (aB+3)) (i64 ((i64 (aB+3))+(eG (G.part (bH A g) aB (((bH A g).n:Nat):Int))))))),(Kt (G.part (bH A g) (i64 (aB+3)) (i64 ((i64 (aB+3))+(eG (G.part (bH A g) aB (((bH A g).n:Nat):Int))))))),(Ku (G.part (bH A g) (i64 (aB+3)) (i64 ((i64 (aB+3))+(eG (G.part (bH A g) aB (((bH A g).n:Nat):Int))))))),(J4 (G.part (bH A g) (i64 (aB+3)) (i64 ((i64 (aB+3))+(eG (G.part (bH A g) aB (((bH A g).n:Nat):Int))))))),(J5 (G.part (bH A g) (i64 (aB+3)) (i64 ((i64 (aB+3))+(eG (G.part (bH A g) aB (((bH A g).n:Nat):Int))))))),(J6 (G.part (bH A g) (i64 (aB+3)) (i64 ((i64 (aB+3))+(eG (G.part (bH A g) aB (((bH A g).n:Nat):Int))))))),(J7 (G.part (bH A g) (i64 (aB+3)) (i64 ((i64 (aB+3))+(eG (G.part (bH A g) aB (((bH A g).n:Nat):Int))))))),(J8 (G.part (bH A g) (i64 (aB+3)) (i64 ((i64 (aB+3))+(eG (G.part (bH A g) aB (((bH A g).n:Nat):Int))))))),(J9 (G.part (bH A g) (i64 (aB+3)) (i64 ((i64 (aB+3))+(eG (G.part (bH A g) aB (((bH A g).n:Nat):Int))))))),(J_ (G.part (bH A g) (i64 (aB+3)) (i64 ((i64 (aB+3))+(eG (G.part (bH A g) aB (((bH A g).n:Nat):Int))))))),(Kd (G.part (bH A g) (i64 (aB+3)) (i64 ((i64 (aB+3))+(eG (G.part (bH A g) aB (((bH A g).n:Nat):Int))))))),(Kk (G.part (bH A g) (i64 (aB+3)) (i64 ((i64 (aB+3))+(eG (G.part (bH A g) aB (((bH A g).n:Nat):Int))))))),(Km (G.part (bH A g) (i64 (aB+3)) (i64 ((i64 (aB+3))+(eG (G.part (bH A g) aB (((bH A g).n:Nat):Int)))))))⟩:bm)]:List bm)))))) (aB,cQ))
variable(A:G Int)(g:Int)
def mR:Int×G bm:=nG A g ((toNat (((bH A g).n:Int)-0))+1) 0 (B:G bm)
def vf:G bm:=(cond (!(hE A g)) (B:G bm) (mR A g).2)
def xB:G Int:=(cond (!(hE A g)) (B:G Int) (G.part (bH A g) 0 (mR A g).1))
def EC:Int:=(cond (!(hE A g)) 0 (ff (kk A g) (mR A g).1))
def aqU:Int:=(cond (!(hE A g)) 13 0)
def akE:bq:=⟨[.g [.ab bo,a]],λA (g:Int)=>⟨⟨some (aK A),.dp [aP 20 RK (vf A g),.agg [aP 1 cZ (xB A g),b (EC A g)],b (aqU A g)]⟩⟩⟩
def awi:bx 84 akE:=bA Tryz.func84
 λA D _ (g:Int) C=>bD ⟨.pure,[.tmp 2,.cell 3 78,.tmp 4],[(.t 0,.ab z6),(.c 1 0,.ab bo),(.c 1 1,a),(.t 2,a)],⟨[U,.agg (us 2 []),U],[]⟩⟩ (.ae (.ae (.ae (.ae (.ae (.j ⟨444,[],[],[],.f⟩ (.cX ⟨444,[.b 0],[(.t 7,z6)],[(.t 8,a),(.h 3 0,.ad z6)],some 0,false,444,[],[(.t 8,a),(.h 3 0,.ad z6)],λk (s:Int×G bm)=>nG A g k s.1 s.2,.f,λ(s:Int×G bm)=>(0<=s.1/\s.1<=((bH A g).n:Int)/\(s.2.n:Int)<=s.1),λ(s:Int×G bm)=>(toNat (((bH A g).n:Int)-s.1)),some λ(r:Int×G bm)=>(0<=r.1/\r.1<=((bH A g).n:Int)/\(r.2.n:Int)<=400000)⟩ .z) .z)))))) (let e:=mR A g;let b:=bH A g;(!(hE A g))=false->((((0<=(0:Int)/\(0:Int)<=(b.n:Int)/\((0:Nat):Int)<=(0:Int)))/\(∀(aB:Int) (cQ:G bm),let j:=G.part b aB (b.n:Int);let f:=i64 (aB+3);let l:=decide (f<=(b.n:Int));let h:=i64 (aB+(i64 (3+(eG j))));let d:=i64 (f+(eG j));let n:=A0 (G.part b f d);let m:=decide (d>(b.n:Int));(0<=aB/\aB<=(b.n:Int)/\(cQ.n:Int)<=aB)->((l=true->(((((0:Int)<=aB)/\((aB:Int)<=(b.n:Int))/\(((b.n:Int):Int)<=(b.n:Int))/\(((b.n:Int):Int)<=(b.n:Int)))/\(aK j/\3<=(toNat ((b.n:Int)-aB))))/\(m=false->(((((0:Int)<=f)/\((f:Int)<=d)/\((d:Int)<=d)/\((d:Int)<=(b.n:Int)))/\(aK (G.part b f d)))/\((!n)=false->(cQ.n+1<=549755813888))))))/\((l=true->((m=true->((0<=aB/\aB<=(b.n:Int)/\(cQ.n:Int)<=400000)))/\(m=false->(((!n)=true->((0<=aB/\aB<=(b.n:Int)/\(cQ.n:Int)<=400000)))/\((!n)=false->((0<=h/\h<=(b.n:Int)/\(((cQ.n+1):Nat):Int)<=h)/\(toNat ((b.n:Int)-h))<(toNat ((b.n:Int)-aB))))))))/\(l=false->((0<=aB/\aB<=(b.n:Int)/\(cQ.n:Int)<=400000)))))))/\(((0<=e.1/\e.1<=(b.n:Int)/\(e.2.n:Int)<=400000))->(((0:Int)<=0)/\((0:Int)<=e.1)/\((e.1:Int)<=e.1)/\((e.1:Int)<=(b.n:Int)))))) (ct (aJ M9 (aJ agd (aJ awm a2)))) Tryz.func84 ((λc=>⟨⟨Ω,(λaB cQ B=>⟨(λo=>⟨⟨Ω,⟨(by first|(with_reducible (repeat first|assumption|apply dS|apply d_|apply eB|apply eu|apply gP|apply i|apply gq|apply gd|apply gf|apply gN|apply gb|apply gO|apply gL|apply gM|apply g6|apply ht|apply hv|apply hH|apply lW|apply ll|apply ig);done)|assumption),(by have:=rT _ _ (by simpa using c);have:=azK o Ω Ω;omega)⟩⟩,(λp=>⟨⟨(by have:=rT _ _ (by simpa using c);have:=ahm p Ω Ω;have:=aiB (G.part (bH A g) aB (((bH A g).n:Nat):Int)) (by first|(with_reducible (repeat first|assumption|apply dS|apply d_|apply eB|apply eu|apply gP|apply i|apply gq|apply gd|apply gf|apply gN|apply gb|apply gO|apply gL|apply gM|apply g6|apply ht|apply hv|apply hH|apply lW|apply ll|apply ig);done)|assumption);have:=E (aB+3);have:=E ((i64 (aB+3))+(eG (G.part (bH A g) aB (((bH A g).n:Nat):Int))));omega),(by first|(with_reducible (repeat first|assumption|apply dS|apply d_|apply eB|apply eu|apply gP|apply i|apply gq|apply gd|apply gf|apply gN|apply gb|apply gO|apply gL|apply gM|apply g6|apply ht|apply hv|apply hH|apply lW|apply ll|apply ig);done)|assumption)⟩,(λv=>(by have:=rT _ _ (by simpa using c);omega))⟩)⟩),⟨(λw=>⟨(λx=>(by have:=rT _ _ (by simpa using c);omega)),(λq=>⟨(λy=>(by have:=rT _ _ (by simpa using c);omega)),(λt=>(by have:=rT _ _ (by simpa using c);have:=ahm q Ω Ω;have:=aiB (G.part (bH A g) aB (((bH A g).n:Nat):Int)) (by first|(with_reducible (repeat first|assumption|apply dS|apply d_|apply eB|apply eu|apply gP|apply i|apply gq|apply gd|apply gf|apply gN|apply gb|apply gO|apply gL|apply gM|apply g6|apply ht|apply hv|apply hH|apply lW|apply ll|apply ig);done)|assumption);have:=E (3+(eG (G.part (bH A g) aB (((bH A g).n:Nat):Int))));have:=E (aB+(i64 (3+(eG (G.part (bH A g) aB (((bH A g).n:Nat):Int))))));omega))⟩)⟩),(λu=>(by have:=rT _ _ (by simpa using c);omega))⟩⟩)⟩,(λz=>Ω)⟩))
end
def M7(e:R):Int:=tA e.q e.F e.z e.M e.w e.C e.P e.aw e.f e.aD
structure u1 (b t:Int) (s:G R):Prop where
 c1:0<=b/\b<=1048576
 t0:0<=t/\t<=1048576
 z:b=0↔t=0
 n:s.n<=200
 top:b+(s.n:Int)<=1048576
 ok: ∀i,i<s.n->M7 (s.at' i)=0/\t<=(s.at' i).q
 wJ: ∀i,i+1<s.n->(s.at' i).q<=(s.at' (i+1)).q/\(s.at' i).F<=(s.at' (i+1)).F
def azM{b t:Int}{s:G R}(h:vT b t s=0):u1 b t s:=by
 have m:=apa b t s h;obtain⟨j,p,o,u⟩:=m;unfold vT at h;obtain⟨d,h⟩:=dv h Δ;have n:B8 t s=scan (λi=>mZ t s i||oa s i) (λ_=>13) s.n 0:=oz (tB t s) s.n _ _ Ω λk i=>by
  show(cond (decide (i<(s.n:Int))) (cond (mZ t s i) (true,13) (cond (oa s i) (true,13) (tB t s k (i64 (i+1))))) (false,default))=_;rw[D4]
 unfold LZ at h;rw[JN n]at h;obtain⟨hh,_⟩:=dv h Δ;have q: ∀i,i<s.n->mZ t s (i:Int)=false/\oa s (i:Int)=false:=λi f=>by
  have:=rW hh i f;simpa only[DB]using this
 refine⟨j,p,?_,o,u,λi f=> ?_,λi f=> ?_⟩
 .unfold vU at d;obtain⟨_,d⟩:=c2 d;obtain⟨_,d⟩:=c2 d;obtain⟨d,_⟩:=c2 d;have d:((b==0)==(t==0))=true:=by simpa using d
  have e:(b==0)=(t==0):=eq_of_beq d;constructor
  .intro l;rw[l]at e;have e:(t==0)=true:=e.symm;exact eq_of_beq e
  .intro r;rw[r]at e;have e:(b==0)=true:=e;exact eq_of_beq e
 .have q1:=(q i f).1;unfold mZ at q1;rw[gi]at q1;obtain⟨a,c⟩:=c2 q1;have c:=df c;exact⟨bK a,Ω⟩
 .have g:=(q (i+1) f).2;unfold oa at g;rw[bM (show((i+1:Nat):Int)>0 by omega),gi,show i64 (((i+1:Nat):Int)-1)=(i:Int) by rw[E _];omega,gi]at g;obtain⟨a,c⟩:=c2 g;have a:=df a;have c:=df c;exact⟨Ω,Ω⟩
def azO{b t:Int}{s:G R}(h:u1 b t s):vT b t s=0:=by
 have w:=h.n;have x:=h.top;obtain⟨g,l⟩:=h.c1;obtain⟨r,u⟩:=h.t0;have q:vU b t s=false:=by
  unfold vU;rw[s6,s6,bM (show b>=0 from g),bM l,bM (show t>=0 from r),bM u,bj (show¬(s.n:Int)>200 by omega),E _,bj (show¬b+(s.n:Int)>1048576 by omega)];have e:((b==0)==(t==0))=true:=by
   by_cases a:b=0
   .have c:=h.z.1 a;subst a;subst c;rfl
   .have c:t≠0:=λe=>a (h.z.2 e);rw[fl.2 a,fl.2 c];rfl
  rw[e];rfl
 have o:B8 t s=scan (λi=>mZ t s i||oa s i) (λ_=>13) s.n 0:=oz (tB t s) s.n _ _ Ω λk i=>by
  show(cond (decide (i<(s.n:Int))) (cond (mZ t s i) (true,13) (cond (oa s i) (true,13) (tB t s k (i64 (i+1))))) (false,default))=_;rw[D4]
 have n:B8 t s=(false,default):=by
  rw[o];refine ajk s.n 0 λj m v=> ?_;obtain⟨i,rfl⟩:=wY m;have d:i<s.n:=by omega
  obtain⟨f,y⟩:=h.ok i d;show(mZ t s (i:Int)||oa s (i:Int))=false;have bk:mZ t s (i:Int)=false:=by
   unfold mZ;rw[gi];unfold M7 at f;rw[f];show decide _=false;exact bj Ω
  have cZ:oa s (i:Int)=false:=by
   unfold oa
   by_cases p:i=0
   .subst p;rfl
   .obtain⟨k,rfl⟩: ∃k,i=k+1:=⟨i-1,Ω⟩;obtain⟨z,A⟩:=h.wJ k d;rw[bM (show((k+1:Nat):Int)>0 by omega),gi,show i64 (((k+1:Nat):Int)-1)=(k:Int) by rw[E _];omega,gi,bj Ω,bj Ω];rfl
  rw[bk,cZ];rfl
 unfold vT LZ;rw[q,n];rfl
def azL{b t:Int}{s:G R}(h:cE b t s=0):u1 b t s:=by
 have a:=fb b t s h;rw[aeI b t s Ω Ω]at h;exact azM h
def Wo{b t:Int}{s:G R}(h:u1 b t s):cE b t s=0:=by
 have:=h.n;have:=h.c1;rw[aeI b t s Ω Ω];exact azO h
def azP{b t:Int}{s:G R}(h:u1 b t s){p:Int}(u:b<=p)(v:p<=b+(s.n:Int))(y:1<=p):u1 p (h7 b t s p) (G.part s (i64 (p-b)) (s.n:Int)):=by
 have B:=h.n;have z:=h.c1;have D:=h.t0;have F:=h.top;have w:i64 (p-b)=p-b:=E _;rw[w];obtain⟨k,f⟩: ∃k:Nat,p-b=(k:Int):=⟨(p-b).toNat,Ω⟩;have C:(G.part s (p-b) (s.n:Int)).n=s.n-k:=by
  rw[G.uw,f];omega
 have d: ∀i,(G.part s (p-b) (s.n:Int)).at' i=s.at' (k+i):=λi=>by
  show s.at' (toNat (p-b)+i)=_;rw[f,gi]
 have e:h7 b t s p=if k=0 then t else(s.at' (k-1)).q:=by
  unfold h7;rw[bj (show¬p<b by omega)]
  by_cases c:k=0
  .rw[show p=b by omega,a5 c];simp
  .rw[fl.2 (show p≠b by omega),w,bj (show¬p-b>(s.n:Int) by omega),aS c,E _,show toNat (p-b-1)=k-1 by omega];rfl
 have H:0<k->t<=(s.at' (k-1)).q:=λc=>(h.ok (k-1) Ω).2;have n: ∀x:R,M7 x=0->1<=x.q/\x.q<=1048576:=λx g=>by
  unfold M7 tA at g;obtain⟨a,_⟩:=dv g Δ;unfold yG at a;obtain⟨a,_⟩:=c2 a;have a:s7 x.q=true:=by simpa using a
  unfold s7 at a;rw[s6,b4]at a;exact⟨an a.1,an a.2⟩
 have l:0<=h7 b t s p/\h7 b t s p<=1048576/\1<=h7 b t s p:=by
  rw[e]
  by_cases c:k=0
  .rw[a5 c];have:t≠0:=λe=>by have:=h.z.2 e;omega
   omega
  .rw[aS c];have:=n _ (h.ok (k-1) Ω).1;omega
 refine⟨Ω,⟨l.1,l.2.1⟩,⟨λe=>by omega,λe=>by omega⟩,Ω,Ω,λi m=> ?_,λi m=> ?_⟩
 .rw[d];refine⟨(h.ok (k+i) Ω).1,?_⟩;rw[e]
  by_cases c:k=0
  .rw[a5 c];exact(h.ok (k+i) Ω).2
  .rw[aS c];have q: ∀j,k-1+j<s.n->(s.at' (k-1)).q<=(s.at' (k-1+j)).q:=by
    intro j
    induction j with
    |zero=>intro _;exact aZ _
    |succ j o=>
     intro A;have:=o Ω;have r:=(h.wJ (k-1+j) Ω).1;rw[show k-1+(j+1)=k-1+j+1 by omega];omega
   have:=q (i+1) Ω;rwa [show k-1+(i+1)=k+i by omega]at this
 .rw[d,d,show k+(i+1)=k+i+1 by omega];exact h.wJ (k+i) Ω
def azN{b t:Int}{s:G R}(h:u1 b t s){p u:Int}(j:1<=p/\p<=1048576)(q:1<=u/\u<=1048576):u1 (oV b t s p u) (td b t s p u) (oW b t s p u):=by
 have n:=h.n;have l:=h.c1;have o:=h.top;unfold oV td oW
 cases m:oX b t s p u with
 |false=>
  exact⟨by simp only[aX];omega,by simp only[aX];omega,⟨λe=>by simp only[aX]at e;omega,λe=>by simp only[aX]at e;omega⟩,cp _,by show p+0<=_;omega,λi a=>absurd a (eD i),λi a=>absurd a (eD _)⟩
 |true=>
  simp only[aR];unfold oX at m;have g:=Wo h
  cases c:(tC b t s p==0)with
  |false=>rw[c]at m;cases m
  |true=>
   have c:=eq_of_beq c;unfold tC at c;rw[g]at c;have c:(cond (yJ p) 2 (gx b s p))=0:=c;obtain⟨_,c⟩:=dv c Δ;have f:b<=p/\p<=b+(s.n:Int):=by
    unfold gx at c;obtain⟨d,c⟩:=dv c Δ;have d:=df d
    by_cases k:p=b
    .omega
    .rw[fl.2 k]at c;simp only[aX]at c;obtain⟨z,_⟩:=dv c Δ;rw[E _]at z;have z:=df z;omega
   unfold qe B_ rJ;rw[g,c];exact azP h f.1 f.2 j.1
def l2(b t:Int)(s:G R):Prop:=cE b t s=0
def Yc{s:G bm}{i:Nat}(h:(fA (s.at' i).q (s.at' i).F (s.at' i).z (s.at' i).M (s.at' i).w (s.at' i).C (s.at' i).P (s.at' i).aw (s.at' i).f (s.at' i).aD (s.at' i).bX (s.at' i).b_ (s.at' i).b2 (s.at' i).cm (s.at' i).bb (s.at' i).cO (s.at' i).eK (s.at' i).ek (s.at' i).eL (s.at' i).en !=0)=false):
  ((s.at' i).q=3/\(1<=(s.at' i).bb/\(s.at' i).bb<=1048576)/\(1<=(s.at' i).cO/\(s.at' i).cO<=1048576))\/((s.at' i).q=2/\(1<=(s.at' i).M/\(s.at' i).M<=1048576))\/(s.at' i).q=1:=by
 rcases Yf (bK h)with⟨e,_⟩|⟨e,q,_⟩|⟨e,q,r,_⟩
 .exact .inr (.inr e)
 .exact .inr (.inl ⟨e,q⟩)
 .exact .inl ⟨e,q,r⟩
section
variable(A:Int)(g:Int)(r:G R)(h:Int)(o:Int)(c:Int)(v:Bool)(y:Int)(p:Int)(x:Int)(ai:u)(bn:u)(bY:u)(b9:Int)
def Kv:Int:=A
def Kw:Int:=g
def xG:G R:=(cond (decide (h<=A)) r (cond (decide (h>(i64 ((ks A g r)+1)))) r (cond ((cE A g (G.app (G.part r 0 (i64 ((i64 (h-A))-1))) (G.lit ([(⟨o,c,v,y,p,x,ai,bn,bY,b9⟩:R)]:List R))))!=0) r (G.app (G.part r 0 (i64 ((i64 (h-A))-1))) (G.lit ([(⟨o,c,v,y,p,x,ai,bn,bY,b9⟩:R)]:List R))))))
def EH:Int:=(cond (decide (h<=A)) 0 (cond (decide (h>(i64 ((ks A g r)+1)))) 10 (cond ((cE A g (G.app (G.part r 0 (i64 ((i64 (h-A))-1))) (G.lit ([(⟨o,c,v,y,p,x,ai,bn,bY,b9⟩:R)]:List R))))!=0) 10 0)))
theorem ag4(A g:Int)(r:G R)(h:l2 A g r):ks A g r=A+(r.n:Int):=by
 have a:=fb A g r h;unfold l2 at h;unfold ks pU;rw[h];show(cond (decide ((r.n:Int)>0)) _ A)=_
 by_cases e:(r.n:Int)>0
 .rw[bM e];simp only[aR];exact E _
 .rw[bj e];simp only[aX];omega
def akK:bq:=⟨[.g [a,a,.ab dk],.v a,.g [a,a,K,a,a,a,al,al,al,a]],λ(A:Int) (g:Int) r (h:Int) (o:Int) (c:Int) v (y:Int) (p:Int) (x:Int) ai bn bY (b9:Int)=>⟨⟨some (l2 A g r),.dp [.agg [b (Kv A),b (Kw g),aP 10 eo (xG A g r h o c v y p x ai bn bY b9)],b (EH A g r h o c v y p x ai bn bY b9)]⟩⟩⟩
theorem awn:bx 99 akK:=bA Tryz.func99
 λ(A:Int) (g:Int) r l _ (h:Int) (o:Int) (c:Int) v (y:Int) (p:Int) (x:Int) ai i bn j bY k (b9:Int) d=>bD (ms:=[.l,.l,.f,.f]) ⟨.pure,[.cell 6 43,.tmp 7],[(.c 0 0,a),(.c 0 1,a),(.c 0 2,.ab dk),(.t 1,a)],⟨[.agg (us 3 []),U],[]⟩⟩ (.z) (let b:=i64 ((i64 (h-A))-1);(decide (h<=A))=false->((decide (h>(i64 ((ks A g r)+1))))=false->((((0:Int)<=0)/\((0:Int)<=b)/\((b:Int)<=b)/\((b:Int)<=(r.n:Int)))/\((toNat (b-0))+1<=549755813888)))) (ct (aJ wv (aJ agJ (aJ Cz a2)))) Tryz.func99 ((λe=>(λf=>⟨(by have:=hX e;have:=hX f;have:=fb A g r d;have:=ag4 A g r d;have:=E (ks A g r+1);have:=E (h-A);have:=E ((i64 (h-A))-1);omega),(by have:=hX e;have:=hX f;have:=fb A g r d;have:=ag4 A g r d;have:=E (ks A g r+1);have:=E (h-A);have:=E ((i64 (h-A))-1);omega)⟩)))
end
section
variable(A:G bm)(e:Int)(bO:Int)(ij:Int)(ih:Int)(iH:G R)
def Sj(l:Int):Int:=(cond ((A.at' (toNat e)).q==1) (A.at' (toNat e)).F l)
def Sk(bg:Int):Int:=(cond ((A.at' (toNat e)).q==1) (A.at' (toNat e)).z bg)
def EE:Int:=(cond ((A.at' (toNat e)).q==1) bO (cond ((A.at' (toNat e)).q==2) bO (cond ((A.at' (toNat e)).q==3) (cond (decide ((A.at' (toNat e)).bb>bO)) (A.at' (toNat e)).bb bO) bO)))
def Sl(c0:Int):Int:=(cond ((A.at' (toNat e)).q==1) c0 (cond ((A.at' (toNat e)).q==2) c0 (cond ((A.at' (toNat e)).q==3) (cond (decide ((A.at' (toNat e)).bb>bO)) (A.at' (toNat e)).cO c0) c0)))
def aqW(b:Int):Int:=let a:=A.at' (toNat e);(cond (a.q==1) b (cond (a.q==2) b (cond (a.q==3) (cond (decide (a.bb>bO)) a.eK b) b)))
def aqX(b:G N):G N:=let a:=A.at' (toNat e);(cond (a.q==1) b (cond (a.q==2) b (cond (a.q==3) (cond (decide (a.bb>bO)) a.ek b) b)))
def aqY(b:Int):Int:=let a:=A.at' (toNat e);(cond (a.q==1) b (cond (a.q==2) b (cond (a.q==3) (cond (decide (a.bb>bO)) a.eL b) b)))
def aqZ(b:G ar):G ar:=let a:=A.at' (toNat e);(cond (a.q==1) b (cond (a.q==2) b (cond (a.q==3) (cond (decide (a.bb>bO)) a.en b) b)))
def vh:Int:=(cond ((A.at' (toNat e)).q==1) ij (cond ((A.at' (toNat e)).q==2) (Kv ij) (cond ((A.at' (toNat e)).q==3) (cond (decide ((A.at' (toNat e)).bb>bO)) (oV ij ih iH (A.at' (toNat e)).bb (A.at' (toNat e)).cO) ij) ij)))
def AW:Int:=(cond ((A.at' (toNat e)).q==1) ih (cond ((A.at' (toNat e)).q==2) (Kw ih) (cond ((A.at' (toNat e)).q==3) (cond (decide ((A.at' (toNat e)).bb>bO)) (td ij ih iH (A.at' (toNat e)).bb (A.at' (toNat e)).cO) ih) ih)))
def vg:G R:=(cond ((A.at' (toNat e)).q==1) iH (cond ((A.at' (toNat e)).q==2) (xG ij ih iH (A.at' (toNat e)).M (A.at' (toNat e)).w (A.at' (toNat e)).C (A.at' (toNat e)).P (A.at' (toNat e)).aw (A.at' (toNat e)).f (A.at' (toNat e)).aD (A.at' (toNat e)).bX (A.at' (toNat e)).b_ (A.at' (toNat e)).b2 (A.at' (toNat e)).cm) (cond ((A.at' (toNat e)).q==3) (cond (decide ((A.at' (toNat e)).bb>bO)) (oW ij ih iH (A.at' (toNat e)).bb (A.at' (toNat e)).cO) iH) iH)))
def pP:Bool:=(cond ((fA (A.at' (toNat e)).q (A.at' (toNat e)).F (A.at' (toNat e)).z (A.at' (toNat e)).M (A.at' (toNat e)).w (A.at' (toNat e)).C (A.at' (toNat e)).P (A.at' (toNat e)).aw (A.at' (toNat e)).f (A.at' (toNat e)).aD (A.at' (toNat e)).bX (A.at' (toNat e)).b_ (A.at' (toNat e)).b2 (A.at' (toNat e)).cm (A.at' (toNat e)).bb (A.at' (toNat e)).cO (A.at' (toNat e)).eK (A.at' (toNat e)).ek (A.at' (toNat e)).eL (A.at' (toNat e)).en)!=0) false (cond ((A.at' (toNat e)).q==1) true (cond ((A.at' (toNat e)).q==2) (cond ((EH ij ih iH (A.at' (toNat e)).M (A.at' (toNat e)).w (A.at' (toNat e)).C (A.at' (toNat e)).P (A.at' (toNat e)).aw (A.at' (toNat e)).f (A.at' (toNat e)).aD (A.at' (toNat e)).bX (A.at' (toNat e)).b_ (A.at' (toNat e)).b2 (A.at' (toNat e)).cm)!=0) false true) true)))
def s3(A:G bm):Nat->Int->Int->Int->Int->Int->Int->G N->Int->G ar->Int->Int->G R->Bool×Int×Int×Int×Int×Int×G N×Int×G ar×Int×Int×G R×Int×Int×Int×Int×Int×G N×Int×G ar×Int×Int×G R×Int
 |0,_,_,_,_,_,_,_,_,_,_,_,_=>default
 |k+1,e,l,bg,bO,c0,a,b,c,d,ij,ih,iH=>(cond (decide (e<(A.n:Int))) (cond (pP A e ij ih iH) (s3 A k (i64 (e+1)) (Sj A e l) (Sk A e bg) (EE A e bO) (Sl A e bO c0) (aqW A e bO a) (aqX A e bO b) (aqY A e bO c) (aqZ A e bO d) (vh A e bO ij ih iH) (AW A e bO ij ih iH) (vg A e bO ij ih iH)) (cond ((fA (A.at' (toNat e)).q (A.at' (toNat e)).F (A.at' (toNat e)).z (A.at' (toNat e)).M (A.at' (toNat e)).w (A.at' (toNat e)).C (A.at' (toNat e)).P (A.at' (toNat e)).aw (A.at' (toNat e)).f (A.at' (toNat e)).aD (A.at' (toNat e)).bX (A.at' (toNat e)).b_ (A.at' (toNat e)).b2 (A.at' (toNat e)).cm (A.at' (toNat e)).bb (A.at' (toNat e)).cO (A.at' (toNat e)).eK (A.at' (toNat e)).ek (A.at' (toNat e)).eL (A.at' (toNat e)).en)!=0) (true,default,default,default,default,default,default,default,default,default,default,default,0,0,0,0,0,(B:G N),0,(B:G ar),0,0,(B:G R),(fA (A.at' (toNat e)).q (A.at' (toNat e)).F (A.at' (toNat e)).z (A.at' (toNat e)).M (A.at' (toNat e)).w (A.at' (toNat e)).C (A.at' (toNat e)).P (A.at' (toNat e)).aw (A.at' (toNat e)).f (A.at' (toNat e)).aD (A.at' (toNat e)).bX (A.at' (toNat e)).b_ (A.at' (toNat e)).b2 (A.at' (toNat e)).cm (A.at' (toNat e)).bb (A.at' (toNat e)).cO (A.at' (toNat e)).eK (A.at' (toNat e)).ek (A.at' (toNat e)).eL (A.at' (toNat e)).en)) (true,default,default,default,default,default,default,default,default,default,default,default,0,0,0,0,0,(B:G N),0,(B:G ar),0,0,(B:G R),(EH ij ih iH (A.at' (toNat e)).M (A.at' (toNat e)).w (A.at' (toNat e)).C (A.at' (toNat e)).P (A.at' (toNat e)).aw (A.at' (toNat e)).f (A.at' (toNat e)).aD (A.at' (toNat e)).bX (A.at' (toNat e)).b_ (A.at' (toNat e)).b2 (A.at' (toNat e)).cm)))) (false,l,bg,bO,c0,a,b,c,d,ij,ih,iH,default,default,default,default,default,default,default,default,default,default,default,default))
def e4:Bool×Int×Int×Int×Int×Int×G N×Int×G ar×Int×Int×G R×Int×Int×Int×Int×Int×G N×Int×G ar×Int×Int×G R×Int:=s3 A ((toNat ((A.n:Int)-0))+1) 0 Gm Gn yu Gp vN vO vP vQ yv yw yt
def lC:Bool:=(cond (e4 A).1 false true)
def AT:Int:=(cond (lC A) (e4 A).2.1 (e4 A).2.2.2.2.2.2.2.2.2.2.2.2.1)
def AU:Int:=(cond (lC A) (e4 A).2.2.1 (e4 A).2.2.2.2.2.2.2.2.2.2.2.2.2.1)
def nH:Int:=(cond (lC A) (e4 A).2.2.2.1 (e4 A).2.2.2.2.2.2.2.2.2.2.2.2.2.2.1)
def AV:Int:=(cond (lC A) (e4 A).2.2.2.2.1 (e4 A).2.2.2.2.2.2.2.2.2.2.2.2.2.2.2.1)
def xC:Int:=(cond (lC A) (rN (jE (e4 A).2.2.2.2.2.1 (e4 A).2.2.2.2.2.2.1 (e4 A).2.2.2.2.2.2.2.1 (e4 A).2.2.2.2.2.2.2.2.1)) (e4 A).2.2.2.2.2.2.2.2.2.2.2.2.2.2.2.2.1)
def xD:G N:=(cond (lC A) (rO (jE (e4 A).2.2.2.2.2.1 (e4 A).2.2.2.2.2.2.1 (e4 A).2.2.2.2.2.2.2.1 (e4 A).2.2.2.2.2.2.2.2.1)) (e4 A).2.2.2.2.2.2.2.2.2.2.2.2.2.2.2.2.2.1)
def ED:Int:=let a:=e4 A;(cond (lC A) (yM (jE a.2.2.2.2.2.1 a.2.2.2.2.2.2.1 a.2.2.2.2.2.2.2.1 a.2.2.2.2.2.2.2.2.1)) a.2.2.2.2.2.2.2.2.2.2.2.2.2.2.2.2.2.2.1)
def xE:G ar:=(cond (lC A) (rP (jE (e4 A).2.2.2.2.2.1 (e4 A).2.2.2.2.2.2.1 (e4 A).2.2.2.2.2.2.2.1 (e4 A).2.2.2.2.2.2.2.2.1)) (e4 A).2.2.2.2.2.2.2.2.2.2.2.2.2.2.2.2.2.2.2.1)
def pO:Int:=(cond (lC A) (e4 A).2.2.2.2.2.2.2.2.2.1 (e4 A).2.2.2.2.2.2.2.2.2.2.2.2.2.2.2.2.2.2.2.2.1)
def xF:Int:=(cond (lC A) (e4 A).2.2.2.2.2.2.2.2.2.2.1 (e4 A).2.2.2.2.2.2.2.2.2.2.2.2.2.2.2.2.2.2.2.2.2.1)
def ra:G R:=(cond (lC A) (e4 A).2.2.2.2.2.2.2.2.2.2.2.1 (e4 A).2.2.2.2.2.2.2.2.2.2.2.2.2.2.2.2.2.2.2.2.2.2.1)
def aqV:Int:=(cond (lC A) 0 (e4 A).2.2.2.2.2.2.2.2.2.2.2.2.2.2.2.2.2.2.2.2.2.2.2)
def rR:l2 yv yw yt:=Wo ⟨Δ,Δ,⟨λ_=>rfl,λ_=>rfl⟩,cp _,Δ,λi a=>absurd a (eD i),λi a=>absurd a (eD _)⟩
def asC{A g:Int}{r:G R}{h o c:Int}{v:Bool}{y p x:Int}{ai bn bY:u}{b9:Int}(a:l2 A g r):l2 (Kv A) (Kw g) (xG A g r h o c v y p x ai bn bY b9):=by
 unfold Kv Kw xG
 cases decide (h<=A)
 .cases decide (h>(i64 ((ks A g r)+1)))
  .simp only[aX]
   cases e:((cE A g (G.app (G.part r 0 (i64 ((i64 (h-A))-1))) (G.lit ([(⟨o,c,v,y,p,x,ai,bn,bY,b9⟩:R)]:List R))))!=0)
   .exact bK e
   .exact a
  .exact a
 .exact a
def rS{A:G bm}{a c b t:Int}{s:G R}(h:l2 b t s)(d:(pP A a b t s)=true):l2 (vh A a c b t s) (AW A a c b t s) (vg A a c b t s):=by
 unfold pP at d;have f:=Yc (s:=A) (i:=toNat a);unfold vh AW vg;generalize A.at' (toNat a)=E at*
 cases e:(fA E.q E.F E.z E.M E.w E.C E.P E.aw E.f E.aD E.bX E.b_ E.b2 E.cm E.bb E.cO E.eK E.ek E.eL E.en !=0)with
 |true=>rw[e]at d;cases d
 |false=>
  have f:=f e
  cases g:(E.q==1)
  .simp only[aX]
   cases j:(E.q==2)
   .simp only[aX]
    cases bk:(E.q==3)
    .exact h
    .simp only[aR]
     cases decide (E.bb>c)
     .exact h
     .have bk:=eq_of_beq bk;have r:(1<=E.bb/\E.bb<=1048576)/\(1<=E.cO/\E.cO<=1048576):=by omega
      exact Wo (azN (azL h) r.1 r.2)
   .exact asC h
  .exact h
def akG:bq:=⟨[.v (.ab z6)],λA=>⟨⟨none,.dp [.agg [b (AT A),b (AU A),b (nH A),b (AV A),b (xC A),aP 8 gU (xD A),b (ED A),aP 7 hi (xE A),b (pO A),b (xF A),aP 10 eo (ra A)],b (aqV A)]⟩⟩⟩
def awk:bx 85 akG:=bA Tryz.func85
 λA z _=>bD ⟨.pure,[.cell 2 87,.tmp 3],[(.c 0 0,a),(.c 0 1,a),(.c 0 2,a),(.c 0 3,a),(.c 0 4,a),(.c 0 5,.ab bp),(.c 0 6,a),(.c 0 7,.ab bZ),(.c 0 8,a),(.c 0 9,a),(.c 0 10,.ab dk),(.t 1,a)],⟨[.agg (us 11 []),U],[]⟩⟩ (.ae (.ae (.j ⟨28,[],[],[],.f⟩ (.ae (.cX ⟨57372,[],[],[(.t 15,a),(.h 1 0,a),(.h 1 1,a),(.h 1 2,a),(.h 1 3,a),(.h 1 4,a),(.h 1 5,.ab bp),(.h 1 6,a),(.h 1 7,.ab bZ),(.h 1 8,a),(.h 1 9,a),(.h 1 10,.ab dk)],some 0,true,28,[],[(.h 1 0,a),(.h 1 1,a),(.h 1 2,a),(.h 1 3,a),(.h 1 4,a),(.h 1 5,.ab bp),(.h 1 6,a),(.h 1 7,.ab bZ),(.h 1 8,a),(.h 1 9,a),(.h 1 10,.ab dk)],λk (s:Int×Int×Int×Int×Int×Int×G N×Int×G ar×Int×Int×G R)=>s3 A k s.1 s.2.1 s.2.2.1 s.2.2.2.1 s.2.2.2.2.1 s.2.2.2.2.2.1 s.2.2.2.2.2.2.1 s.2.2.2.2.2.2.2.1 s.2.2.2.2.2.2.2.2.1 s.2.2.2.2.2.2.2.2.2.1 s.2.2.2.2.2.2.2.2.2.2.1 s.2.2.2.2.2.2.2.2.2.2.2,.f,λ(s:Int×Int×Int×Int×Int×Int×G N×Int×G ar×Int×Int×G R)=>(l2 s.2.2.2.2.2.2.2.2.2.1 s.2.2.2.2.2.2.2.2.2.2.1 s.2.2.2.2.2.2.2.2.2.2.2/\0<=s.1/\s.1<=(A.n:Int)),λ(s:Int×Int×Int×Int×Int×Int×G N×Int×G ar×Int×Int×G R)=>(toNat ((A.n:Int)-s.1)),none⟩ (.ae (.ae (.j ⟨511697116,[],[(.h 1 0,a),(.h 1 1,a),(.h 1 2,a),(.h 1 3,a),(.h 1 4,a),(.h 1 5,.ab bp),(.h 1 6,a),(.h 1 7,.ab bZ),(.h 1 8,a),(.h 1 9,a),(.h 1 10,.ab dk)],[(.b .f .l),(.b .f .l),.f,.f,.f,.f,.f,.f,.f,.f,.f],(.b .f (.b .f (.b .f .l)))⟩ .z .z))))) .z))) (let c:=e4 A;(((l2 yv yw yt/\0<=(0:Int)/\(0:Int)<=(A.n:Int)))/\(∀(e:Int) (l:Int) (bg:Int) (bO:Int) (c0:Int) (o:Int) (p:G N) (q:Int) (r:G ar) (ij:Int) (ih:Int) (iH:G R),let g:=decide (e<(A.n:Int));let d:=i64 (e+1);let b:=A.at' (toNat e);(l2 ij ih iH/\0<=e/\e<=(A.n:Int))->((g=true->(((0:Int)<=e/\e<(A.n:Int))/\(((fA b.q b.F b.z b.M b.w b.C b.P b.aw b.f b.aD b.bX b.b_ b.b2 b.cm b.bb b.cO b.eK b.ek b.eL b.en)!=0)=false->((b.q==1)=false->(((b.q==2)=true->(l2 ij ih iH))/\((b.q==2)=false->((b.q==3)=true->((decide (b.bb>bO))=true->(b.bb<=9223372036854775807)))))))))/\(g=true->((pP A e ij ih iH)=true->((l2 (vh A e bO ij ih iH) (AW A e bO ij ih iH) (vg A e bO ij ih iH)/\0<=d/\d<=(A.n:Int))/\(toNat ((A.n:Int)-d))<(toNat ((A.n:Int)-e))))))))/\((lC A)=true->(aK (jE c.2.2.2.2.2.1 c.2.2.2.2.2.2.1 c.2.2.2.2.2.2.2.1 c.2.2.2.2.2.2.2.2.1)))) (ct (aJ agH (aJ agQ (aJ agR (aJ Wa (aJ Cz (aJ agq (aJ awn a2)))))))) Tryz.func85 (⟨⟨⟨(by apply rR),Ω⟩,(λe l bg bO c0 o p q r ij ih iH n=>have y:=n.1;⟨(λh=>⟨(by have:=an h;omega),(λi=>(λj=>⟨(λv=>Ψ),(λm=>(λw=>(λx=>(by have:=Yc i;have:=dc j;have:=dc m;omega))))⟩))⟩),(λf=>(λt=>⟨⟨(by repeat first|assumption|apply rS),(by have:=an f;have:=E (e+1);omega)⟩,(by have:=an f;have:=E (e+1);omega)⟩))⟩)⟩,(λu=>(by first|(with_reducible (repeat first|assumption|apply dS|apply d_|apply eB|apply eu|apply gP|apply B|apply gq|apply gd|apply gf|apply gN|apply gb|apply gO|apply gL|apply gM|apply g6|apply ht|apply hv|apply hH|apply lW|apply ll|apply ig|apply ON);done)|assumption))⟩)
end
def IC:aK (B:G Int):=λ_=>⟨aZ 0,(by decide:(0:Int)<=255)⟩
def ON{A:G Int}{g r:Int}(h:aK A):aK (qb A g r):=by
 unfold qb
 cases (!(hE A g))
 .cases decide (r<0)
  .exact lW (ll h)
  .exact IC
 .exact IC
def hF(A:Int)(d:H):H:=let c:=vR d.a_ d.br A;let b:=qb d.a_ d.br A;let a:=vf b c;{d with bf:=(xY d.bf),up:=TG,ro:=x8,ao:=(FQ (AT a)),b3:=(FR (AU a)),j:=(FT (pO a)),lt:=(FU (xF a)),li:=(FV (ra a)),bR:=(FW (nH a)),eU:=(FD (AV a)),fI:=(FE (xC a)),fi:=(FF (xD a)),gK:=(FG (ED a)),fh:=(FH (xE a)),ep:=(FI (xC a)),dn:=(FJ (xD a)),e1:=(FK (ED a)),er:=(FL (xE a)),co:=(FM (nH a)),v0:=xZ,v1:=x0,v2:=x1,dO:=x2,dD:=x3,dG:=x4,hq:=x5,q1:=x6,fQ:=x7,ws:=(B:G hc),a_:=(xB b c),br:=(EC b c),bd:=(B:G aj)}
def PS(i:Nat):dr:=⟨[.p 0,.fC 0 (33*i),.v a],ck,e0,eN,λ(A:Int)=>cP λC=>⟨⟨some (aK (C.d i).a_),[],cu ((aO.set (2*i) 10).set (2*i+1) 11) 2 (C.set i (hF A (C.d i)))⟩⟩⟩
def anP(i:Nat):cT:=⟨.eR true [.b 10,.b 11] [.kill (2*i+1),.kill (2*i+2),.own (.h 0 (33*i+29)) du 10,.own (.h 0 (33*i+32)) cJ 11] (gJ i ((aO.set (2*i) 10).set (2*i+1) 11) 2 [] 0) (gF i ((aO.set (2*i) 10).set (2*i+1) 11)),[],[]++fT i ((aO.set (2*i) 10).set (2*i+1) 11),⟨[],[]⟩⟩
def XP(i:Nat)(A:Int)(C:aA):Prop:=(aK (qb (C.d i).a_ (C.d i).br A))
def aBk(i:Nat)(c:i<3)(A:Int)(C:aA)(b:eP C)(d:aK (C.d i).a_):XP i A C:=by
 have a:=g4 b i c;unfold fS at a;unfold XP;exact((by first|(with_reducible (repeat first|assumption|apply dS|apply d_|apply eB|apply eu|apply gP|apply e|apply gq|apply gd|apply gf|apply gN|apply gb|apply gO|apply gL|apply gM|apply g6|apply ht|apply hv|apply hH|apply lW|apply ll|apply ig|apply ON);done)|assumption))
def ay6(i:Nat)(a:i<3)(A:Int):e8 Tryz.prog 62 (PS i) ck [] (cP λC=>⟨⟨some (aK (C.d i).a_),[],cu ((aO.set (2*i) 10).set (2*i+1) 11) 2 (C.set i (hF A (C.d i)))⟩⟩) [b A]:=by
 refine gC λC c=>λd=>eC (anP i) (.z) (XP i A C) (b1 10 (aJ ayi (aJ awi (aJ awk (aJ agw a2)))) b0) Tryz.func62 [] ?_ ?_ (aBk i a A C c d)
 .rcases ca a with rfl|rfl|rfl<;>kernel_rfl
 .rcases ca a with rfl|rfl|rfl<;>kernel_rfl
def aB8(i:Nat)(b:i<3):gr 62 (PS i):=
 jR (bE:=[a]) λs c=>Eq.mp (by rcases ca b with rfl|rfl|rfl<;>kernel_rfl) (ay6 i b s.1)
def axU(i:Nat)(a:i<3):gu 62 (PS i):=gQ gB Tryz.func62 (aB8 i a)
def ei(s:G R):Prop:= ∀j,lv (s.at' j)
def ahf{s t:G R}(a:ei s)(b:ei t):ei (s.app t):=λj=>by
 show lv (cond (Nat.blt j s.n) (s.at' j) (t.at' (j-s.n)))
 cases Nat.blt j s.n
 .exact b _
 .exact a _
def ze{s:G R}(c:ei s)(a b:Int):ei (s.part a b):=λj=>c (a.toNat+j)
def af3:lv default:=⟨cp _,cp _,cp _⟩
def mr:ei (B:G R):=λ_=>af3
def Hu{c:Bool}{a b:G R}(d:ei a)(e:ei b):ei (cond c a b):=by
 cases c
 .exact e
 .exact d
def wq{s:G R}(h:ei s)(j:Nat):lv (s.at' j):=h j
section
variable {A g:Int} {r:G R} {h:Int} {c:G R}
theorem azy(a:ei c):ei (dC A h c):=by
 unfold dC;exact Hu (ze a _ _) a
def anX(A g:Int)(r:G R)(h:Int)(c:G R)(a:Bool×Int×Int×G R×Bool×Int×Int):Prop:=
 (a.1=false/\cv A h c-A+((dC A h c).n:Int)<=(r.n:Int))\/(a.1=true/\a.2.2.2.2.2.2≠0/\a.2.2.2.2.1=false)\/
  (a.1=true/\a.2.1=A/\a.2.2.1=g/\cE A g a.2.2.2.1=0/\(a.2.2.2.1.n:Int)=cv A h c-A+((dC A h c).n:Int)/\A+1<=a.2.2.2.2.2.1/\a.2.2.2.2.2.1<=cv A h c+((dC A h c).n:Int)/\(ei r->ei c->ei a.2.2.2.1))
theorem ahv(i:0<=A/\A<=1048576)(o:r.n<=200)(n:A<=cv A h c/\cv A h c<=A+(r.n:Int))(m:(dC A h c).n<=200):
  ∀(k:Nat) (v:Int),0<=v->v<=((dC A h c).n:Int)->toNat (((dC A h c).n:Int)-v)<k->cv A h c-A+v<=(r.n:Int)->anX A g r h c (m1 A g r h c k v)
 |0,v,_,_,f,_=>absurd f (eD _)
 |k+1,v,s,t,p,u=>by
  rw[m1]
  by_cases b:v<((dC A h c).n:Int)
  .rw[bM b];simp only[aR]
   cases a:pa A r h c v with
   |true=>
    have q:cv A h c-A+v<(r.n:Int):=by
     unfold pa at a;rw[E (cv A h c-A),E (cv A h c-A+v)]at a
     by_cases d:cv A h c-A+v<(r.n:Int)
     .exact d
     .rw[bj d]at a;cases a
    simp only[aR];rw[E (v+1)];exact ahv i o n m k (v+1) Ω Ω Ω Ω
   |false=>
    simp only[aX];rw[E (cv A h c-A),E (cv A h c-A+v),E (cv A h c+v),E (cv A h c+v+1)]
    cases e:(cE A g (G.app (G.part r 0 (cv A h c-A+v)) (G.part (dC A h c) v (((dC A h c).n:Nat):Int)))!=0)with
    |true=>exact .inr (.inl ⟨rfl,(by decide:(6:Int)≠0),rfl⟩)
    |false=>
     refine .inr (.inr ⟨rfl,rfl,rfl,bK e,?_,?_,?_,λj l=>ahf (ze j _ _) (ze (azy l) _ _)⟩)
     .show(((G.part r 0 (cv A h c-A+v)).n+(G.part (dC A h c) v (((dC A h c).n:Nat):Int)).n:Nat):Int)=_;simp only[G.uw];omega
     .show A+1<=cv A h c+v+1;omega
     .show cv A h c+v+1<=_;omega
  .rw[bj b];exact .inl ⟨rfl,Ω⟩
theorem ahy{o:Int}(a:hk A g r h o c=0)(b:hT A g r h o c=true):
  cn A g r h o c=A/\0<=A/\cE A (tH A g r h o c) (cd A g r h o c)=0/\h+(c.n:Int)<=A+((cd A g r h o c).n:Int)/\((dt A g r h o c=0/\cd A g r h o c=r)\/(A+1<=dt A g r h o c/\dt A g r h o c<=h+(c.n:Int)))/\(0<=h/\h+(c.n:Int)<=1048576)/\(ei r->ei c->ei (cd A g r h o c)):=by
 unfold hk at a;unfold hT at b;unfold cn tH cd dt
 cases i:(cE A g r !=0)with
 |true=>rw[i]at a;exact absurd a (by simpa using i)
 |false=>
 cases m:(cE h o c !=0)with
 |true=>rw[i,m]at a;cases a
 |false=>
 rw[i,m]at a b;simp only[aX]at a b |-;have z:=fb _ _ _ (bK i);have f:=fb _ _ _ (bK m)
 cases e:m2 A g r h o c with
 |false=>
  rw[e]at a b;simp only[aX]at a b |-;refine⟨by first|rfl|trivial,z.1.1,bK i,?_,.inl (by first|exact⟨rfl,rfl⟩|simp),⟨f.1.1,f.2.2.2⟩,λn _=>n⟩
  by_cases j:h<A
  .unfold m2 at e;rw[bM j]at e;simp only[aR]at e;have k:=lP (i64 (A-h)) (c.n:Int);rw[E (A-h)]at e k;generalize ff (A-h) (c.n:Int)=q at*
   rw[E (h+q)]at e
   by_cases d:h+q<A
   .omega
   .rw[bj d]at e;cases e
  .rw[bj j]at b;cases b
 |true=>
  rw[e]at a b;simp only[aR]at a b |-;have t:=f75 A g r h o c e ⟨⟨z.1,z.2.2.1⟩,f.1,f.2.2.1⟩;have B:cv A h c+((dC A h c).n:Int)=h+(c.n:Int):=by
   unfold cv dC
   by_cases j:h<A
   .rw[bM j];simp only[aR];have k:=lP (i64 (A-h)) (c.n:Int);rw[E (A-h)]at k |-;generalize ff (A-h) (c.n:Int)=q at*
    rw[E (h+q),G.uw];omega
   .rw[bj j];rfl
  have s:=ahv (g:=g) z.1 z.2.2.1 t.1 Ω (toNat (((dC A h c).n:Int)-0)+1) 0 (aZ _) Ω Ω Ω;have u:m1 A g r h c (toNat (((dC A h c).n:Int)-0)+1) 0=pb A g r h c:=rfl;rw[u]at s;unfold qf at a b |-;rcases s with⟨q1,l⟩|⟨q1,l,p⟩|⟨q1,l,x,p,C,v,D,w⟩
  .rw[q1]at a b |-;simp only[aX,aR]at a b |-;exact⟨by first|rfl|trivial,z.1.1,bK i,Ω,.inl (by first|exact⟨rfl,rfl⟩|simp),⟨f.1.1,f.2.2.2⟩,λn _=>n⟩
  .rw[q1]at a;simp only[aX,aR]at a;exact absurd a l
  .have y:=fb _ _ _ p;rw[q1]at a b |-;simp only[aX,aR]at a b |-;exact⟨l,z.1.1,by rw[x];exact p,Ω,.inr ⟨v,Ω⟩,⟨f.1.1,f.2.2.2⟩,w⟩
theorem zo{o:Int}(d:hk A g r h o c=0)(e:(!(hT A g r h o c))=false):
  cn A g r h o c=A/\0<=A/\(A+((cd A g r h o c).n:Int)<=1048576/\(cd A g r h o c).n<=200)/\h+(c.n:Int)<=A+((cd A g r h o c).n:Int)/\(dt A g r h o c=0\/(A+1<=dt A g r h o c/\dt A g r h o c<=h+(c.n:Int)))/\(0<=h/\h+(c.n:Int)<=1048576)/\(ei r->ei c->ei (cd A g r h o c)):=by
 have a:=ahy d (by simpa using e);have b:=fb _ _ _ a.2.2.1;exact⟨a.1,a.2.1,⟨b.2.2.2,b.2.2.1⟩,a.2.2.2.1,a.2.2.2.2.1.imp And.left id,a.2.2.2.2.2⟩
end
structure jS (n:H):Prop where
 bf:0<=n.bf/\n.bf<3
 j:0<=n.j
 hM:n.j<=n.co
 co:n.co<=1048576
 gG:n.li.n<=200
 ee:n.j+(n.li.n:Int)<=1048576
 ws:n.ws.n<=3000
 pp:(0<=n.dO/\n.dO<=1048577)/\(0<=n.dD/\n.dD<=1048577)/\(0<=n.dG/\n.dG<=1048577)
 li:ei n.li
 u8:aK n.a_
 bR:0<=n.bR/\n.bR<=1048576
 hr:(0<=n.hq/\n.hq<=1048576)/\(0<=n.q1/\n.q1<=1048576)/\(0<=n.fQ/\n.fQ<=1048576)
structure hb (m:aj):Prop where
 lB:0<=m.q/\m.q<3
 to:0<=m.F/\m.F<3
 ky:0<=m.w/\m.w<=1048576
 bR:0<=m.aD/\m.aD<=1048576
 li:ei m.f
def Jg(d:H)(h:0<=d.j/\d.j+(d.li.n:Int)<=4194304):0<=bP d/\bP d<=d.j+(d.li.n:Int):=by
 show 0<=ks d.j d.lt d.li/\ks d.j d.lt d.li<=d.j+(d.li.n:Int);have a:=E (d.j+(d.li.n:Int));unfold ks
 cases (cE d.j d.lt d.li !=0)with
 |true=>exact⟨aZ 0,by show(0:Int)<=d.j+(d.li.n:Int);omega⟩
 |false=>
  show 0<=pU d.j d.li/\pU d.j d.li<=d.j+(d.li.n:Int);unfold pU
  cases decide ((d.li.n:Int)>0)with
  |true=>rw[aR];omega
  |false=>rw[aX];omega
def uY(C:aA)(m:aj):Prop:=0<=m.q/\m.q<3/\0<=m.F/\m.F<3/\jS (C.d (toNat m.F))/\hb m/\C.told.n<=541000000000/\C.bh.n<=549000000000
structure DE (a:a7):Prop where
 cg:1<=a.q/\a.q<=12
 d:0<=a.F/\a.F<3
 lS:0<=a.z
 NZ:a.q=6\/a.q=7\/a.q=8\/a.q=12->a.F=0
 zG:a.P.size<=10000000000
 zH:a.aw.size<=10000000000
 zI:a.f.size<=10000000000
structure hA (k:Nat) (C:aA):Prop where
 d: ∀i,jS (C.d i)
 wn: ∀i,(C.d i).ws.n<=k
 Am: ∀j,j<C.ag.n->hb (C.ag.at' j)
 nu:C.ag.n<=300
 bd: ∀i j,j<(C.d i).bd.n->hb ((C.d i).bd.at' j)
 on: ∀i,(C.d i).bd.n<=300
 qE:C.told.n<=180001000*k
 gG:C.bh.n<=300*k
def e7(C:aA)(a:a7):Prop:=(∃k,k<3000/\hA k C)/\DE a
def oN{C:aA}{a:a7}(h:e7 C a)(i:Nat):jS (C.d i):=by
 obtain⟨⟨k,_,b⟩,_⟩:=h;exact b.d i
def pM{C:aA}{a:a7}(h:e7 C a):C.told.n<=540000000000/\C.bh.n<=900000/\C.ag.n<=300:=by
 obtain⟨⟨k,e,b⟩,_⟩:=h;have c:=b.qE;have d:=b.gG;exact⟨Ω,Ω,b.nu⟩
def abq{C X:aA}{a:a7}(h:e7 C a){j:Nat}(d:j<C.ag.n)(f: ∀i,jS (X.d i))(g:X.told.n<=541000000000)(e:X.bh.n<=549000000000):uY X (C.ag.at' j):=by
 obtain⟨⟨k,l,c⟩,_⟩:=h;have b:=c.Am j d;exact⟨b.lB.1,b.lB.2,b.to.1,b.to.2,f _,b,g,e⟩
def aol{A g h o:Int}{r:G R} :oV A g r h o=h:=by
 unfold oV
 cases e:oX A g r h o
 .rfl
 .simp only[aR];unfold oX at e
  cases c:(tC A g r h==0)
  .rw[c]at e;cases e
  .have a:=eq_of_beq c;unfold tC at a;unfold qe
   cases b:(cE A g r !=0)
   .rw[b]at a;simp only[aX]at a |-
    cases bk:yJ h
    .rw[bk]at a;simp only[aX]at a;rw[show(gx A r h !=0)=false by rw[a];rfl];rfl
    .rw[bk,aR]at a;exact absurd a (by decide: ¬(2:Int)=0)
   .rw[b]at a;simp only[aR]at a;exact absurd a (bne_iff_ne.1 b)
def PZ(a b:Int):Prop:=b=a/\0<=a/\a<=1048576
def aqp{A:G bm}{a c b t:Int}{s:G R}(h:PZ c b)(d:(pP A a b t s)=true):PZ (EE A a c) (vh A a c b t s):=by
 unfold pP at d;have f:=Yc (s:=A) (i:=toNat a);unfold EE vh;generalize A.at' (toNat a)=E at*
 cases e:(fA E.q E.F E.z E.M E.w E.C E.P E.aw E.f E.aD E.bX E.b_ E.b2 E.cm E.bb E.cO E.eK E.ek E.eL E.en !=0)with
 |true=>rw[e]at d;cases d
 |false=>
  have f:=f e
  cases g:(E.q==1)
  .simp only[aX]
   cases j:(E.q==2)
   .simp only[aX]
    cases bk:(E.q==3)
    .exact h
    .simp only[aR]
     cases decide (E.bb>c)
     .exact h
     .simp only[aR];have bk:=eq_of_beq bk;have r:(1<=E.bb/\E.bb<=1048576)/\(1<=E.cO/\E.cO<=1048576):=by omega
      exact⟨aol,Ω,Ω⟩
   .exact h
  .exact h
def An{x:u}(h:x.toList=(⟨#[]⟩:u).toList):x.size=0:=by
 rw[aax (x:=x) (by rw[h];simp)];rfl
def ap_{b c:Bool}{m_ a d e f g:List UInt8}(h:(!(b&&((m_==e)&&((a==f)&&((d==g)&&(c&&true))))))=false):m_=e/\a=f/\d=g:=by
 simp at h;exact⟨h.2.1,h.2.2.1,h.2.2.2.1⟩
def aDm{A:Int}{g r h:u}{o:Int}(d:fw A g r h o=0):g.size<=20/\r.size<=20/\h.size<=20:=by
 unfold fw at d;obtain⟨_,d⟩:=dv d Δ;obtain⟨e,d⟩:=dv d Δ;obtain⟨m,d⟩:=dv d Δ;obtain⟨i,j,_⟩:=ap_ e;have l:A≠22->kS g=true:=λa=>by
  cases q:kS g
  .simp [rH,a,q]at m
  .rfl
 have n:4<=A->A<=6->kS r=true:=λa b=>by
  cases q:kS r
  .simp [rH,a,b,q]at m
  .rfl
 have p:jz h=true:=by
  cases q:jz h
  .exfalso
   by_cases a:A=22
   .subst a;simp [rH,q]at m
   .by_cases b:A>=4
    .by_cases c:A<=6
     .simp [rH,b,c,q]at m
     .simp [rH,b,c,q]at m
    .simp [rH,b,q]at m
  .rfl
 have k: ∀y:u,kS y=true->y.size<=20:=λy f=>by
  unfold kS EU at f
  by_cases a:(y.size:Int)>=1
  .simp [a]at f;omega
  .simp [a]at f
 refine⟨?_,?_,?_⟩
 .by_cases a:A=22
  .subst a;rw[show Gv 22 g=⟨#[]⟩from rfl]at i;rw[An i];omega
  .exact k _ (l a)
 .by_cases a:4<=A/\A<=6
  .exact k _ (n a.1 a.2)
  .have s:(A==4)=false:=by simp;omega
   have t:(A==5)=false:=by simp;omega
   have v:(A==6)=false:=by simp;omega
   have:B6 A r=⟨#[]⟩:=by
    unfold B6 yE;rw[s,t,v]
    cases yC A<;>cases yD A<;>rfl
   rw[this]at j;rw[An j];omega
 .have:=an p;omega
def RN{a b c d:Bool}{x y z:u}(h:(!(a&&(b&&(c&&((x.toList==(⟨#[]⟩:u).toList)&&((y.toList==(⟨#[]⟩:u).toList)&&((z.toList==(⟨#[]⟩:u).toList)&&(d&&true))))))))=false):x.size<=20/\y.size<=20/\z.size<=20:=by
 simp only[Bool.not_eq_false',b4,iK]at h;rw[An h.2.2.2.1,An h.2.2.2.2.1,An h.2.2.2.2.2.1];omega
def Yq{A g r:Int}{h o c:u}{v:Int}(b:g3 A g r h o c v=0):h.size<=20/\o.size<=20/\c.size<=20:=by
 unfold g3 at b
 cases a:(A==0)
 .rw[a,aX]at b;obtain⟨_,b⟩:=dv b Δ;exact aDm b
 .rw[a,aR]at b;exact RN (dv b Δ).1
def aDn{A g:Int}{r:Bool}{h o c:Int}{v y p:u}{x:Int}(a:fc A g r h o c v y p x=0):lv ⟨A,g,r,h,o,c,v,y,p,x⟩:=by
 have k:v.size<=20/\y.size<=20/\p.size<=20:=by
  unfold fc at a;obtain⟨_,a⟩:=dv a Δ
  cases r
  .exact Yq a
  .simp only[aR]at a;exact RN (dv a Δ).1
 exact⟨dP k.1 Δ,dP k.2.1 Δ,dP k.2.2 Δ⟩
def aDo{a:a7}(h:o9 a.q a.F a.z a.M a.w a.C a.P a.aw a.f a.aD=0):(1<=a.q/\a.q<=12)/\(0<=a.F/\a.F<3)/\0<=a.z/\(a.q=6\/a.q=7\/a.q=8\/a.q=12->a.F=0)/\a.P.size<=20/\a.aw.size<=20/\a.f.size<=20:=by
 unfold o9 at h;obtain⟨i,h⟩:=dv h Δ;obtain⟨g,h⟩:=dv h Δ;obtain⟨f,h⟩:=dv h Δ;have l:1<=a.q/\a.q<=12:=by
  unfold Gz at i
  by_cases p:a.q<1
  .simp [p]at i
  .simp [p]at i;omega
 have n:mS a.q=true->0<=a.F/\a.F<3:=λe=>by
  unfold B9 at g;rw[e,aR]at g
  by_cases p:a.F<0
  .simp [p]at g
  .by_cases q:a.F>=3
   .simp [p,q]at g
   .omega
 have j:mS a.q=false->a.F=0:=λe=>by
  unfold yH at f;rw[e]at f
  cases q:(a.F !=0)
  .exact bK q
  .rw[q]at f;exact absurd f (by simp)
 have o:mT a.q=true->0<=a.z:=λe=>by
  unfold B9 at g;rw[e]at g
  by_cases p:a.z<0
  .exfalso
   cases z:mS a.q<;>rw[z]at g
   .simp [p]at g
   .by_cases q:a.F<0
    .simp [q]at g
    .by_cases r:a.F>=3
     .simp [q,r]at g
     .simp [p,q,r]at g
  .omega
 have s:mT a.q=false->a.z=0:=λe=>by
  unfold yH at f;rw[e]at f
  cases q:(a.z !=0)
  .exact bK q
  .rw[q]at f;exfalso
   cases z:mS a.q<;>rw[z]at f<;>cases y:(a.F !=0)<;>rw[y]at f<;>simp at f
 have m:a.P.size<=20/\a.aw.size<=20/\a.f.size<=20:=by
  cases q:(a.q==1)
  .have t:(a.q !=1)=true:=by rw[bne,q];rfl
   unfold yH at f;rw[t]at f;refine RN (a:=(a.M==0)) (b:=(a.w==0)) (c:=(a.C==0)) (d:=(a.aD==0)) ?_;revert f;generalize (!((a.M==0)&&((a.w==0)&&((a.C==0)&&((a.P.toList==(⟨#[]⟩:u).toList)&&((a.aw.toList==(⟨#[]⟩:u).toList)&&((a.f.toList==(⟨#[]⟩:u).toList)&&((a.aD==0)&&true))))))))=z;intro f
   cases z
   .rfl
   .exfalso
    cases z:mS a.q<;>rw[z]at f<;>cases y:(a.F !=0)<;>rw[y]at f<;>cases x:mT a.q<;>rw[x]at f<;>cases w:(a.z !=0)<;>rw[w]at f<;>simp at f
  .rw[q]at h;exact Yq h
 refine⟨l,?_,?_,?_,m⟩
 .cases e:mS a.q
  .rw[j e];decide
  .exact n e
 .cases e:mT a.q
  .rw[s e];decide
  .exact o e
 .intro k;apply j;rcases k with e|e|e|e<;>rw[e]<;>rfl
end Go.Proofs.YtadmdaokcgjdiaaGreatDoor
