import Derived.Test.YtadmdaokcgjdiaaGreatDoorXm
import Derived.Test.YtadmdaokcgjdiaaGreatDoorXo
open Go.IntKind (i64 u64 u8)
open Int (toNat)
set_option maxRecDepth 100000
set_option maxHeartbeats 4000000
set_option linter.all false
noncomputable section
namespace Go.Proofs.YtadmdaokcgjdiaaGreatDoor
open Go Go.RowKit Go.af
section
variable(i:Nat)(A:Int)(g:Int)(d:H)
def lI:Bool:=(cond (!(gn (⟨1,A,g,0,0,0,false,0,0,0,⟨#[]⟩,⟨#[]⟩,⟨#[]⟩,0,0,0,0,(B:G N),0,(B:G ar)⟩:bm) d)) false true)
def K9:Int:=(cond (!(gn (⟨1,A,g,0,0,0,false,0,0,0,⟨#[]⟩,⟨#[]⟩,⟨#[]⟩,0,0,0,0,(B:G N),0,(B:G ar)⟩:bm) d)) d.ao A)
def TU:Int:=(cond (!(gn (⟨1,A,g,0,0,0,false,0,0,0,⟨#[]⟩,⟨#[]⟩,⟨#[]⟩,0,0,0,0,(B:G N),0,(B:G ar)⟩:bm) d)) d.b3 g)
def ez:H:={d with ao:=(K9 A g d),b3:=(TU A g d),a_:=(fO (⟨1,A,g,0,0,0,false,0,0,0,⟨#[]⟩,⟨#[]⟩,⟨#[]⟩,0,0,0,0,(B:G N),0,(B:G ar)⟩:bm) d).a_,br:=(fO (⟨1,A,g,0,0,0,false,0,0,0,⟨#[]⟩,⟨#[]⟩,⟨#[]⟩,0,0,0,0,(B:G N),0,(B:G ar)⟩:bm) d).br}
def PB:dr:=⟨[.fC 0 (33*i),.v a,.v a],ck,e0,eN,λ(A:Int) (g:Int)=>cP λC=>⟨⟨none,[.bool (lI A g (C.d i))],cu aO 0 (C.set i (ez A g (C.d i)))⟩⟩⟩
def ZM:cT:=⟨.eR true [] [] (gJ i aO 0 [0] 1) (gF i aO),[.tmp 6],[(.t 0,K)]++fT i aO,⟨[],[]⟩⟩
def atd(C:aA):cw (ZM i).cg:=(.ae (.s (.ae (.bs ⟨([.ptr 0 (33*i+0),b A,b g,U,U,U,.lit false]++(us 5 (([.bool (!(gn (⟨1,A,g,0,0,0,false,0,0,0,⟨#[]⟩,⟨#[]⟩,⟨#[]⟩,0,0,0,0,(B:G N),0,(B:G ar)⟩:bm) (C.d i)))]++(us 8 ([])))))),cy aO 0 (C.set i (fO (⟨1,A,g,0,0,0,false,0,0,0,⟨#[]⟩,⟨#[]⟩,⟨#[]⟩,0,0,0,0,(B:G N),0,(B:G ar)⟩:bm) (C.d i))) []⟩ .z)) .z))
def XH(i:Nat)(A:Int)(g:Int)(C:aA):Prop:=(pG (⟨1,A,g,0,0,0,false,0,0,0,⟨#[]⟩,⟨#[]⟩,⟨#[]⟩,0,0,0,0,(B:G N),0,(B:G ar)⟩:bm))
def aBc(i:Nat)(c:i<3)(A:Int)(g:Int)(C:aA)(b:eP C):XH i A g C:=by
 have a:=g4 b i c;unfold fS at a;unfold XH;exact((by apply uz))
def ayR(i:Nat)(a:i<3)(A:Int)(g:Int):e8 Tryz.prog 46 (PB i) ck [] (cP λC=>⟨⟨none,[.bool (lI A g (C.d i))],cu aO 0 (C.set i (ez A g (C.d i)))⟩⟩) [b A,b g]:=by
 refine gC λC c=>eC (ZM i) (atd i A g C) (XH i A g C) (b1 10 a2 (ay (Hn i a) b0)) Tryz.func46 ([.f]++List.replicate 4 .l++[.f,.f]++List.replicate 96 .l) ?_ ?_ (aBc i a A g C c)
 .rcases ca a with rfl|rfl|rfl<;>kernel_rfl
 .rcases ca a with rfl|rfl|rfl<;>kernel_rfl
def aBT(i:Nat)(b:i<3):gr 46 (PB i):=
 jR (bE:=[a,a]) λs c=>Eq.mp (by rcases ca b with rfl|rfl|rfl<;>kernel_rfl) (ayR i b s.1 s.2.1)
def qo(i:Nat)(a:i<3):gu 46 (PB i):=gQ gB Tryz.func46 (aBT i a)
def F2(aQ:j9)(y:Int)(d:H)(ah:G bF):G bF:=(G.app ah (G.lit ([(⟨d.bf,aQ.q,aQ.F,aQ.z,aQ.M,aQ.w,aQ.C,aQ.P,y,⟨#[]⟩,0,(B:G u)⟩:bF)]:List bF)))
def Px:dr:=⟨[.p 0,.fC 0 (33*i),.g [a,a,a,al,al,al,a],.v a],ck,e0,eN,λ(b:Int) (c:Int) (d:Int) e f g (h:Int) (y:Int)=>cP λC=>⟨⟨some (C.told.n<=549000000000),[],cu aO 0 (C.put i (C.d i) C.ag (F2 (⟨b,c,d,e,f,g,h⟩:j9) y (C.d i) C.told) C.bh)⟩⟩⟩
def anK:cT:=⟨.eR true [] [] (gJ i aO 0 [] 0) (gF i aO),[],[]++fT i aO,⟨[],[]⟩⟩
def XF(i:Nat)(C:aA):Prop:=(C.told.n+1<=549755813888)
def aA_(i:Nat)(c:i<3)(C:aA)(b:eP C)(d:C.told.n<=549000000000):XF i C:=by
 have a:=g4 b i c;unfold fS at a;unfold XF;exact(Ω)
def ayN(i:Nat)(a:i<3)(aQ:j9)(y:Int):e8 Tryz.prog 42 (Px i) ck [] (cP λC=>⟨⟨some (C.told.n<=549000000000),[],cu aO 0 (C.put i (C.d i) C.ag (F2 aQ y (C.d i) C.told) C.bh)⟩⟩) [b aQ.q,b aQ.F,b aQ.z,.str aQ.M,.str aQ.w,.str aQ.C,b aQ.P,b y]:=by
 refine gC λC c=>λd=>eC (anK i) (.z) (XF i C) (b1 10 a2 b0) Tryz.func42 [] ?_ ?_ (aA_ i a C c d)
 .rcases ca a with rfl|rfl|rfl<;>kernel_rfl
 .rcases ca a with rfl|rfl|rfl<;>kernel_rfl
def aBP(i:Nat)(b:i<3):gr 42 (Px i):=
 jR (bE:=[a,a,a,al,al,al,a,a]) λs c=>Eq.mp (by rcases ca b with rfl|rfl|rfl<;>kernel_rfl) (ayN i b ⟨s.1,s.2.1,s.2.2.1,s.2.2.2.1,s.2.2.2.2.1,s.2.2.2.2.2.1,s.2.2.2.2.2.2.1⟩ s.2.2.2.2.2.2.2.1)
def axS(i:Nat)(a:i<3):gu 42 (Px i):=gQ gB Tryz.func42 (aBP i a)
end
section
variable(i:Nat)(ms:aj)(d:H)
def Ld:Bool:=(cond (rI d.j d.lt d.li ms.w ms.C) (decide (ms.M>d.ao)) false)
def ad4:G aj:=(cond (Ld ms d) (dJ ms.q (⟨0,0,2,ms.M,0,0,false,0,(B:G R),0,0,0,(B:G N),0,(B:G ar)⟩:aj) d).bd (rq ms.q d).bd)
def vD:H:={d with bd:=(ad4 ms d)}
def PD:dr:=⟨[.fC 0 (33*i),.g [a,a,a,a,a,a,K,a,.ab dk,a,a,a,.ab bp,a,.ab bZ]],ck,e0,eN,λ(b:Int) (c:Int) (j:Int) (k:Int) (l:Int) (m:Int) n (o:Int) p (q:Int) (d:Int) (e:Int) f (g:Int) h=>cP λC=>⟨⟨none,[],cu aO 0 (C.set i (vD (⟨b,c,j,k,l,m,n,o,p,q,d,e,f,g,h⟩:aj) (C.d i)))⟩⟩⟩
def ZN:cT:=⟨.eR true [] [] (gJ i aO 0 [] 0) (gF i aO),[],[]++fT i aO,⟨[],[]⟩⟩
def ate(C:aA):cw (ZN i).cg:=(.ae (.s (.ae (.j ⟨134217737,[],[(.t 27,K)],[],.f⟩ .z (.bs ⟨([.ptr 0 (33*i+0),U,U,.ptr 10 0]++(us 23 (([.bool (Ld ms (C.d i))]++(us 11 ([])))))),cy aO 1 C [(10,(iQ ms))]⟩ (.s (.ae (.bs ⟨([.ptr 0 (33*i+0),U,U,.ptr 10 0]++(us 35 ([]))),cy aO 1 (C.set i (dJ ms.q (⟨0,0,2,ms.M,0,0,false,0,(B:G R),0,0,0,(B:G N),0,(B:G ar)⟩:aj) (C.d i))) [(10,(iQ ms))]⟩ .z)) .z)))) .z))
def ayT(i:Nat)(a:i<3)(ms:aj):e8 Tryz.prog 48 (PD i) ck [] (cP λC=>⟨⟨none,[],cu aO 0 (C.set i (vD ms (C.d i)))⟩⟩) (iQ ms):=by
 refine gC λC b=>eC (ZN i) (ate i ms C) True (b1 10 (aJ V9 a2) (ay (qp i a) (ay (za i a) b0))) Tryz.func48 (List.replicate 94 .l++[.f]++List.replicate 7 .l) ?_ ?_ trivial
 .rcases ca a with rfl|rfl|rfl<;>kernel_rfl
 .rcases ca a with rfl|rfl|rfl<;>kernel_rfl
def aBV(i:Nat)(b:i<3):gr 48 (PD i):=
 jR (bE:=[a,a,a,a,a,a,K,a,.ab dk,a,a,a,.ab bp,a,.ab bZ]) λs c=>Eq.mp (by rcases ca b with rfl|rfl|rfl<;>kernel_rfl) (ayT i b ⟨s.1,s.2.1,s.2.2.1,s.2.2.2.1,s.2.2.2.2.1,s.2.2.2.2.2.1,s.2.2.2.2.2.2.1,s.2.2.2.2.2.2.2.1,s.2.2.2.2.2.2.2.2.1,s.2.2.2.2.2.2.2.2.2.1,s.2.2.2.2.2.2.2.2.2.2.1,s.2.2.2.2.2.2.2.2.2.2.2.1,s.2.2.2.2.2.2.2.2.2.2.2.2.1,s.2.2.2.2.2.2.2.2.2.2.2.2.2.1,s.2.2.2.2.2.2.2.2.2.2.2.2.2.2.1⟩)
def tZ(i:Nat)(a:i<3):gu 48 (PD i):=gQ gB Tryz.func48 (aBV i a)
end
section
variable(i:Nat)(d:H)
def Le:Int:=(cond (d.ao==1048576) d.ao (ez (i64 (d.ao+1)) d.bf d).ao)
def TX:Int:=(cond (d.ao==1048576) d.b3 (ez (i64 (d.ao+1)) d.bf d).b3)
def F4:G Int:=(cond (d.ao==1048576) d.a_ (ez (i64 (d.ao+1)) d.bf d).a_)
def TY:Int:=(cond (d.ao==1048576) d.br (ez (i64 (d.ao+1)) d.bf d).br)
def tp:Bool:=(cond (d.ao==1048576) true (!(lI (i64 (d.ao+1)) d.bf d)))
def mX:H:={d with ao:=(Le d),b3:=(TX d),a_:=(F4 d),br:=(TY d)}
def BE:H:={(mX d)with ro:=2,v0:=(d.bf==0),v1:=(d.bf==1),v2:=(d.bf==2)}
def mg:H:=(H.bif (tp d) (mX d) (o4 (⟨0,0,3,(Le d),(bP (BE d)),(p5 (BE d)),false,0,(B:G R),0,0,0,(B:G N),0,(B:G ar)⟩:aj) (BE d)))
def PF:dr:=⟨[.fC 0 (33*i)],ck,e0,eN,cP λC=>⟨⟨some (0<=(C.d i).bf/\(C.d i).bf<3),[],cu aO 0 (C.set i (mg (C.d i)))⟩⟩⟩
def ZP:cT:=⟨.eR true [] [] (gJ i aO 0 [] 0) (gF i aO),[],[]++fT i aO,⟨[],[]⟩⟩
def atg(C:aA):cw (ZP i).cg:=let c:=BE (C.d i);(.s (.j ⟨4194305,[],[(.h 0 (33*i+4),a),(.h 0 (33*i+5),a),(.h 0 (33*i+30),.ab bo),(.h 0 (33*i+31),a),(.t 22,K)],[],.f⟩ (.mw [(0,(33*i+0))]) (.bs ⟨([.ptr 0 (33*i+0)]++(us 21 (([.bool (tp (C.d i))]++(us 25 ([])))))),cy aO 0 (C.set i (mX (C.d i))) []⟩ .z)) (.ae (.ae (.ae (.bs ⟨([.ptr 0 (33*i+0),U,b (bP c),b (p5 c)]++(us 44 ([]))),cy aO 0 (C.set i c) []⟩ .z)))))
def XI(i:Nat)(C:aA):Prop:=((tp (C.d i))=false->((0:Int)<=(C.d i).bf/\((C.d i).bf:Int)<3))
def aBd(i:Nat)(d:i<3)(C:aA)(c:eP C)(e:0<=(C.d i).bf/\(C.d i).bf<3):XI i C:=by
 have b:=g4 c i d;unfold fS at b;unfold XI;exact have⟨f,g⟩:=e;((λa=>(by have:=a;simp [tp]at this;omega)))
def ayV(i:Nat)(a:i<3):e8 Tryz.prog 50 (PF i) ck [] (cP λC=>⟨⟨some (0<=(C.d i).bf/\(C.d i).bf<3),[],cu aO 0 (C.set i (mg (C.d i)))⟩⟩) []:=by
 refine gC λC b=>λc=>eC (ZP i) (atg i C) (XI i C) (b1 10 (aJ agC a2) (ay (y_ i a) (ay (qo i a) (ay (agD i a) b0)))) Tryz.func50 (List.replicate 31 .f++List.replicate 62 .l++[.f,.f]++List.replicate 7 .l) ?_ ?_ (aBd i a C b c)
 .rcases ca a with rfl|rfl|rfl<;>kernel_rfl
 .rcases ca a with rfl|rfl|rfl<;>kernel_rfl
def aBX(i:Nat)(a:i<3):gr 50 (PF i):=
 ayV i a
def ua(i:Nat)(a:i<3):gu 50 (PF i):=gQ gB Tryz.func50 (aBX i a)
end
def ym(d:H):H:=let a:=hS d.j d.lt d.li d.co;{(fO (⟨3,0,0,0,0,0,false,0,0,0,⟨#[]⟩,⟨#[]⟩,⟨#[]⟩,0,d.co,a,d.ep,d.dn,d.e1,d.er⟩:bm) d)with j:=(qe d.j d.lt d.li d.co),lt:=(B_ d.j d.lt d.li d.co),li:=(rJ d.j d.lt d.li d.co),bR:=d.co,eU:=a,fI:=d.ep,fi:=d.dn,gK:=d.e1,fh:=d.er}
def lJ(d:H):H:=(H.bif (d.co==d.j) d (H.bif (gn (⟨3,0,0,0,0,0,false,0,0,0,⟨#[]⟩,⟨#[]⟩,⟨#[]⟩,0,d.co,(hS d.j d.lt d.li d.co),d.ep,d.dn,d.e1,d.er⟩:bm) d) (ym d) (fO (⟨3,0,0,0,0,0,false,0,0,0,⟨#[]⟩,⟨#[]⟩,⟨#[]⟩,0,d.co,(hS d.j d.lt d.li d.co),d.ep,d.dn,d.e1,d.er⟩:bm) d)))
def PT(i:Nat):dr:=⟨[.fC 0 (33*i)],ck,e0,eN,cP λC=>⟨⟨some ((C.d i).co<=4194304),[],cu aO 0 (C.set i (lJ (C.d i)))⟩⟩⟩
def ZY(i:Nat):cT:=⟨.eR true [] [] (gJ i aO 0 [] 0) (gF i aO),[],[]++fT i aO,⟨[],[]⟩⟩
def atp(i:Nat)(C:aA):cw (ZY i).cg:=let a:=C.d i;let c:=hS a.j a.lt a.li a.co;(.ae (.ae (.ae (.ae (.bs ⟨([.ptr 0 (33*i+0),U,U,U,.ptr 10 0]++(us 35 (([.bool (gn (⟨3,0,0,0,0,0,false,0,0,0,⟨#[]⟩,⟨#[]⟩,⟨#[]⟩,0,a.co,c,a.ep,a.dn,a.e1,a.er⟩:bm) a)]++(us 19 ([])))))),cy aO 1 (C.set i (fO (⟨3,0,0,0,0,0,false,0,0,0,⟨#[]⟩,⟨#[]⟩,⟨#[]⟩,0,a.co,c,a.ep,a.dn,a.e1,a.er⟩:bm) a)) [(10,[b a.co,b c,b a.ep,aP 8 gU a.dn,b a.e1,aP 7 hi a.er])]⟩ .z)))))
def XQ(i:Nat)(C:aA):Prop:=(((C.d i).co==(C.d i).j)=false->((pG (⟨3,0,0,0,0,0,false,0,0,0,⟨#[]⟩,⟨#[]⟩,⟨#[]⟩,0,(C.d i).co,(hS (C.d i).j (C.d i).lt (C.d i).li (C.d i).co),(C.d i).ep,(C.d i).dn,(C.d i).e1,(C.d i).er⟩:bm))/\((gn (⟨3,0,0,0,0,0,false,0,0,0,⟨#[]⟩,⟨#[]⟩,⟨#[]⟩,0,(C.d i).co,(hS (C.d i).j (C.d i).lt (C.d i).li (C.d i).co),(C.d i).ep,(C.d i).dn,(C.d i).e1,(C.d i).er⟩:bm) (C.d i))=true->((C.d i).co<=9223372036854775807))))
def aBl(i:Nat)(c:i<3)(C:aA)(b:eP C)(f:(C.d i).co<=4194304):XQ i C:=by
 have a:=g4 b i c;unfold fS at a;unfold XQ;exact((λd=>⟨(by apply sd),(λe=>Ω)⟩))
def ay7(i:Nat)(a:i<3):e8 Tryz.prog 63 (PT i) ck [] (cP λC=>⟨⟨some ((C.d i).co<=4194304),[],cu aO 0 (C.set i (lJ (C.d i)))⟩⟩) []:=by
 refine gC λC b=>λc=>eC (ZY i) (atp i C) (XQ i C) (b1 10 (aJ Nh (aJ agK a2)) (ay (Hn i a) b0)) Tryz.func63 (List.replicate 31 .f++List.replicate 62 .l++[.f,.f]++List.replicate 7 .l) ?_ ?_ (aBl i a C b c)
 .rcases ca a with rfl|rfl|rfl<;>kernel_rfl
 .rcases ca a with rfl|rfl|rfl<;>kernel_rfl
def aB9(i:Nat)(a:i<3):gr 63 (PT i):=
 ay7 i a
def axV(i:Nat)(a:i<3):gu 63 (PT i):=gQ gB Tryz.func63 (aB9 i a)
section
variable(i:Nat)(ms:aj)(d:H)
def TZ:Int:=(cond (!(rI d.j d.lt d.li ms.w ms.C)) d.ao (cond (decide (d.b3>=0)) (cond (d.b3 !=ms.q) d.ao (cond (decide (d.b3<0)) (ez d.ao ms.q d).ao d.ao)) (cond (decide (d.b3<0)) (ez d.ao ms.q d).ao d.ao)))
def ad6:Int:=(cond (!(rI d.j d.lt d.li ms.w ms.C)) d.b3 (cond (decide (d.b3>=0)) (cond (d.b3 !=ms.q) d.b3 (cond (decide (d.b3<0)) (ez d.ao ms.q d).b3 d.b3)) (cond (decide (d.b3<0)) (ez d.ao ms.q d).b3 d.b3)))
def Lf:G Int:=(cond (!(rI d.j d.lt d.li ms.w ms.C)) d.a_ (cond (decide (d.b3>=0)) (cond (d.b3 !=ms.q) d.a_ (cond (decide (d.b3<0)) (ez d.ao ms.q d).a_ d.a_)) (cond (decide (d.b3<0)) (ez d.ao ms.q d).a_ d.a_)))
def ad7:Int:=(cond (!(rI d.j d.lt d.li ms.w ms.C)) d.br (cond (decide (d.b3>=0)) (cond (d.b3 !=ms.q) d.br (cond (decide (d.b3<0)) (ez d.ao ms.q d).br d.br)) (cond (decide (d.b3<0)) (ez d.ao ms.q d).br d.br)))
def Lh:Bool:=let a:=lI d.ao ms.q d;(cond (!(rI d.j d.lt d.li ms.w ms.C)) true (cond (decide (d.b3>=0)) (cond (d.b3 !=ms.q) true (cond (decide (d.b3<0)) (!a) false)) (cond (decide (d.b3<0)) (!a) false)))
def rr:H:={d with ao:=(TZ ms d),b3:=(ad6 ms d),a_:=(Lf ms d),br:=(ad7 ms d)}
def p6:H:=(H.bif (Lh ms d) (rq ms.q (rr ms d)) (dJ ms.q (⟨0,0,4,(TZ ms d),0,0,false,0,(B:G R),0,0,0,(B:G N),0,(B:G ar)⟩:aj) (rr ms d)))
def PH:dr:=⟨[.fC 0 (33*i),.g [a,a,a,a,a,a,K,a,.ab dk,a,a,a,.ab bp,a,.ab bZ]],ck,e0,eN,λ(b:Int) (c:Int) (j:Int) (k:Int) (l:Int) (m:Int) n (o:Int) p (q:Int) (d:Int) (e:Int) f (g:Int) h=>cP λC=>⟨⟨none,[],cu aO 0 (C.set i (p6 (⟨b,c,j,k,l,m,n,o,p,q,d,e,f,g,h⟩:aj) (C.d i)))⟩⟩⟩
def ZQ:cT:=⟨.eR true [] [] (gJ i aO 0 [] 0) (gF i aO),[],[]++fT i aO,⟨[],[]⟩⟩
def ath(C:aA):cw (ZQ i).cg:=(.ae (.ae (.s (.j ⟨9007199254741001,[],[(.h 0 (33*i+4),a),(.h 0 (33*i+5),a),(.h 0 (33*i+30),.ab bo),(.h 0 (33*i+31),a),(.t 53,K)],[],.f⟩ .z (.bs ⟨([.ptr 0 (33*i+0),U,U,.ptr 10 0]++(us 49 (([.bool (Lh ms (C.d i))]++(us 13 ([])))))),cy aO 1 (C.set i (rr ms (C.d i))) [(10,(iQ ms))]⟩ (.s (.ae (.bs ⟨([.ptr 0 (33*i+0),U,U,.ptr 10 0]++(us 63 ([]))),cy aO 1 (C.set i (rq ms.q (rr ms (C.d i)))) [(10,(iQ ms))]⟩ .z)) .z))) (.mw [(0,(33*i+4))]))))
def ayX(i:Nat)(a:i<3)(ms:aj):e8 Tryz.prog 52 (PH i) ck [] (cP λC=>⟨⟨none,[],cu aO 0 (C.set i (p6 ms (C.d i)))⟩⟩) (iQ ms):=by
 refine gC λC b=>eC (ZQ i) (ath i ms C) True (b1 10 (aJ V9 a2) (ay (qo i a) (ay (qp i a) (ay (za i a) b0)))) Tryz.func52 (List.replicate 31 .f++List.replicate 62 .l++[.f,.f]++List.replicate 7 .l) ?_ ?_ trivial
 .rcases ca a with rfl|rfl|rfl<;>kernel_rfl
 .rcases ca a with rfl|rfl|rfl<;>kernel_rfl
def aBZ(i:Nat)(b:i<3):gr 52 (PH i):=
 jR (bE:=[a,a,a,a,a,a,K,a,.ab dk,a,a,a,.ab bp,a,.ab bZ]) λs c=>Eq.mp (by rcases ca b with rfl|rfl|rfl<;>kernel_rfl) (ayX i b ⟨s.1,s.2.1,s.2.2.1,s.2.2.2.1,s.2.2.2.2.1,s.2.2.2.2.2.1,s.2.2.2.2.2.2.1,s.2.2.2.2.2.2.2.1,s.2.2.2.2.2.2.2.2.1,s.2.2.2.2.2.2.2.2.2.1,s.2.2.2.2.2.2.2.2.2.2.1,s.2.2.2.2.2.2.2.2.2.2.2.1,s.2.2.2.2.2.2.2.2.2.2.2.2.1,s.2.2.2.2.2.2.2.2.2.2.2.2.2.1,s.2.2.2.2.2.2.2.2.2.2.2.2.2.2.1⟩)
def ub(i:Nat)(a:i<3):gu 52 (PH i):=gQ gB Tryz.func52 (aBZ i a)
end
section
def yg(A:Int):Nat->Int->Int->G aU->Int×Int×G aU
 |0,_,_,_=>default
 |k+1,e,l,bg=>(cond (decide (l<=A)) (yg A k l (i64 (l+20)) (G.cut (yn e l bg) bg.n)) (e,l,bg))
variable(A:Int)(bC:Int)(jl:G aU)(g:G aU)
def TS:Int×Int×G aU:=yg A ((toNat (A+21-20))+1) 0 20 g
def yh(A:Int)(bC:Int):Nat->Int->Int->G aU->Int×Int×G aU×Int×Int×Bool
 |0,_,_,_=>default
 |k+1,b,a,c=>(cond (decide (a<=A)) (yh A bC k a (i64 (a+(i64 (2*bC)))) (G.cut (qU 900001 b (i64 (b+bC)) a c) c.n)) (b,a,c,a,A,(decide (a<=A))))
def mf:Int×Int×G aU×Int×Int×Bool:=yh A bC ((toNat (A+2*bC+1- (i64 (2*bC))))+1) 0 (i64 (2*bC)) jl
def K8:G aU:=(cond (decide ((i64 ((mf A bC jl).1+bC))<A)) (G.cut (qU 900001 (mf A bC jl).1 (i64 ((mf A bC jl).1+bC)) A (mf A bC jl).2.2.1) (mf A bC jl).2.2.1.n) (mf A bC jl).2.2.1)
def F1(A:Int):Nat->Int->Int->Int->G aU->G aU
 |0,_,_,_,_=>default
 |k+1,bC,_,_,jl=>(cond (decide (bC<A)) (F1 A k (i64 (bC*2)) (mf A bC jl).1 (mf A bC jl).2.1 (K8 A bC jl)) jl)
def arR:G aU:=let a:=TS A g;F1 A ((toNat (A-20))+1) 20 a.1 a.2.1 (G.cut (yn a.1 A a.2.2) a.2.2.n)
def BC:G aU:=(arR A g)
def Xs(A:Int)(g:A<=900000): ∀(k:Nat) (a b:Int) (s:G aU),0<=a->a<=A->b=a+20->toNat (A+21-b)<k->(0<=(yg A k a b s).1/\(yg A k a b s).1<=A)/\(yg A k a b s).2.2.n=s.n
 |0,_,_,_,_,_,_,c=>absurd c (eD _)
 |k+1,a,b,s,d,f,h,c=>by
  rw[yg]
  by_cases e:b<=A
  .rw[bM e,aR,E (b+20)];exact Xs A g k b (b+20) _ Ω e rfl Ω
  .rw[bj e,aX];exact⟨⟨d,f⟩,rfl⟩
def aie(A v:Int)(h:0<=A/\A<=900000)(g:20<=v/\v<=1800000): ∀(k:Nat) (a b:Int) (s:G aU),0<=a->a<=A->b=a+2*v->toNat (A+2*v+1-b)<k->(0<=(yh A v k a b s).1/\(yh A v k a b s).1<=A)/\(yh A v k a b s).2.2.1.n=s.n
 |0,_,_,_,_,_,_,c=>absurd c (eD _)
 |k+1,a,b,s,d,f,i,c=>by
  rw[yh,E (2*v)]
  by_cases e:b<=A
  .rw[bM e,aR,E (b+2*v)];exact aie A v h g k b (b+2*v) _ Ω e rfl Ω
  .rw[bj e,aX];exact⟨⟨d,f⟩,rfl⟩
def aDZ(A v:Int)(s:G aU):((0<=A/\A<=900000)/\(20<=v/\v<=1800000))->(0<=(mf A v s).1/\(mf A v s).1<=A)/\(mf A v s).2.2.1.n=s.n:=λh=>by
 obtain⟨a,b⟩:=h;have c:=E (2*v);unfold mf;rw[c];exact aie A v a b _ 0 (2*v) s (aZ _) a.1 Ω Ω
def aho(A v:Int)(s:G aU)(h:(0<=A/\A<=900000)/\(20<=v/\v<=1800000)):(K8 A v s).n=s.n:=by
 have t:=aDZ A v s h;unfold K8;generalize decide (i64 ((mf A v s).1+v)<A)=b
 cases b
 .exact t.2
 .exact t.2
def aii(A:Int)(d:0<=A/\A<=900000): ∀(k:Nat) (v a b:Int) (s:G aU),20<=v->v<=1800000->toNat (A-v)<k->(F1 A k v a b s).n=s.n
 |0,_,_,_,_,_,_,c=>absurd c (eD _)
 |k+1,v,a,b,s,f,g,c=>by
  rw[F1]
  by_cases e:v<A
  .rw[bM e,aR,E (v*2)];exact(aii A d k (v*2) _ _ _ Ω Ω Ω).trans (aho A v s ⟨d,f,g⟩)
  .rw[bj e,aX]
def aAD(A:Int)(g:G aU)(b:A=(g.n:Int)/\g.n<=900000):(BC A g).n=g.n:=by
 have a:(TS A g).2.2.n=g.n:=by
  by_cases e:(20:Int)<=A
  .have:=Xs A Ω (toNat (A+21-20)+1) 0 20 g (aZ _) Ω rfl Ω;exact this.2
  .have:=Xs A Ω (toNat (A+21-20)+1) 0 20 g (aZ _) Ω rfl Ω;exact this.2
 exact(aii A ⟨Ω,Ω⟩ _ 20 _ _ _ Δ Δ Ω).trans a
def amO:cf:=⟨[.o 0,.v a,.jU 21 []],[(.h 0 0,.ad cY)],[[U]],λ(A:Int) g=>⟨⟨some (A=(g.n:Int)/\g.n<=900000),[],[[(aH.ad cY).av (G.cut (BC A g) g.n)]]⟩⟩⟩
def axR:dV 33 amO:=ea Tryz.func33
 λ(A:Int) g W q=>have x:=G.AA (aAD A g q);yW (rs:=[]) (H':=[[(aH.ad cY).av (BC A g)]]) (dU ⟨.heap,[],[(.h 0 0,.ad cY)],⟨[],[[U]]⟩⟩ (.ae (.ae (.j ⟨455,[],[],[],.f⟩ (.cX ⟨455,[],[],[(.t 7,a),(.t 8,a),(.h 0 0,.ad cY)],some 0,false,455,[],[(.t 7,a),(.t 8,a),(.h 0 0,.ad cY)],λk (s:Int×Int×G aU)=>yg A k s.1 s.2.1 s.2.2,.f,λ(s:Int×Int×G aU)=>(0<=s.1/\s.1<=A/\s.2.1=s.1+20/\(s.2.2.n:Int)=g.n),λ(s:Int×Int×G aU)=>(toNat (A+21-s.2.1)),some λ(r:Int×Int×G aU)=>(0<=r.1/\r.1<=A/\(r.2.2.n:Int)=g.n)⟩ .z) (.ae (.zg ⟨455,[],[],[(.t 6,a),(.t 7,a),(.t 8,a),(.h 0 0,.ad cY)],some 2,false,0,[],[(.h 0 0,.ad cY)],λk (s:Int×Int×Int×G aU)=>F1 A k s.1 s.2.1 s.2.2.1 s.2.2.2,.f,λ(s:Int×Int×Int×G aU)=>(20<=s.1/\s.1<=1800000/\(s.2.2.2.n:Int)=g.n),λ(s:Int×Int×Int×G aU)=>(toNat (A-s.1)),some λ(r:G aU)=>(r.n:Int)=g.n⟩ (λ(i:Int×Int×Int×G aU)=>(.ae (.ae (.j ⟨68451041735,[],[],[],.f⟩ (.cX ⟨8321499591,[],[],[(.t 7,a),(.t 8,a),(.h 0 0,.ad cY)],some 4,false,68451041735,[],[(.t 7,a),(.t 8,a),(.h 0 0,.ad cY),(.t 33,a),(.t 34,a),(.t 35,K)],λk (s:Int×Int×G aU)=>yh A i.1 k s.1 s.2.1 s.2.2,.f,λ(s:Int×Int×G aU)=>(0<=s.1/\s.1<=A/\s.2.1=s.1+2*i.1/\(s.2.2.n:Int)=g.n),λ(s:Int×Int×G aU)=>(toNat (A+2*i.1+1-s.2.1)),some λ(r:Int×Int×G aU×Int×Int×Bool)=>(0<=r.1/\r.1<=A/\(r.2.2.1.n:Int)=g.n)⟩ .z) (.j ⟨35465915516584903,[],[(.h 0 0,.ad cY)],[],.f⟩ .z .z)))))))))) (let f:=TS A g;(((0<=(0:Int)/\(0:Int)<=A/\(20:Int)=(0:Int)+20/\(g.n:Int)=g.n))/\(∀(e:Int) (l:Int) (bg:G aU),let v:=i64 (l+20);let o:=decide (l<=A);(0<=e/\e<=A/\l=e+20/\(bg.n:Int)=g.n)->((o=true->(0<=e/\e<=l/\l<=(bg.n:Int)/\bg.n<=900000))/\((o=true->((0<=l/\l<=A/\v=l+20/\(bg.n:Int)=g.n)/\(toNat (A+21-v))<(toNat (A+21-l))))/\(o=false->((0<=e/\e<=A/\(bg.n:Int)=g.n)))))))/\(((0<=f.1/\f.1<=A/\(f.2.2.n:Int)=g.n))->((0<=f.1/\f.1<=A/\A<=(f.2.2.n:Int)/\f.2.2.n<=900000)/\(((20<=(20:Int)/\(20:Int)<=1800000/\(f.2.2.n:Int)=g.n))/\(∀(bC:Int) (H:Int) (I:Int) (jl:G aU),let w:=i64 (2*bC);let p:=decide (bC<A);let m:=i64 (bC*2);let d:=mf A bC jl;let j:=i64 (d.1+bC);(20<=bC/\bC<=1800000/\(jl.n:Int)=g.n)->((p=true->((((0<=(0:Int)/\(0:Int)<=A/\w=(0:Int)+2*bC/\(jl.n:Int)=g.n))/\(∀(c:Int) (b:Int) (h:G aU),let u:=i64 (c+bC);let n:=decide (b<=A);let t:=i64 (b+w);(0<=c/\c<=A/\b=c+2*bC/\(h.n:Int)=g.n)->((n=true->(0<=c/\c<u/\u<b/\b<=(h.n:Int)/\h.n<=900000/\b-c<((900001:Nat):Int)))/\((n=true->((0<=b/\b<=A/\t=b+2*bC/\(h.n:Int)=g.n)/\(toNat (A+2*bC+1-t))<(toNat (A+2*bC+1-b))))/\(n=false->((0<=c/\c<=A/\(h.n:Int)=g.n)))))))/\(((0<=d.1/\d.1<=A/\(d.2.2.1.n:Int)=g.n))->((decide (j<A))=true->(0<=d.1/\d.1<j/\j<A/\A<=(d.2.2.1.n:Int)/\d.2.2.1.n<=900000/\A-d.1<((900001:Nat):Int))))))/\((p=true->((20<=m/\m<=1800000/\(((K8 A bC jl).n:Nat):Int)=g.n)/\(toNat (A-m))<(toNat (A-bC))))/\(p=false->((jl.n:Int)=g.n))))))))) (b1 1 a2 (ay axW (ay (agF 900001) b0))) Tryz.func33 (have⟨T,V⟩:=q;⟨⟨Ω,(λe l bg Q=>⟨(λC=>(by have:=an C;omega)),⟨(λD=>(by have:=an D;have:=E (l+20);omega)),(λM=>Ω)⟩⟩)⟩,(λP=>⟨Ω,⟨Ω,(λbC H I jl R=>⟨(λN=>⟨⟨(by have:=E (2*bC);omega),(λc b h S=>⟨(λF=>(by have:=an F;have:=E (c+bC);omega)),⟨(λy=>(by have:=an y;have:=E (2*bC);have:=E (b+(i64 (2*bC)));omega)),(λJ=>Ω)⟩⟩)⟩,(λO=>(λz=>(by have:=an z;have:=E ((mf A bC jl).1+bC);omega)))⟩),⟨(λB=>(by have:=an B;have:=aho A bC jl;have:=E (bC*2);omega)),(λL=>Ω)⟩⟩)⟩⟩)⟩)) rfl (show([[(aH.ad cY).av (BC A g)]]:Heap)=[[(aH.ad cY).av (G.cut (BC A g) g.n)]] by rw[x])
end
def BA(A:G aU):G aU:=(G.cut (BC (A.n:Int) A) A.n)
def aAB(A:G aU)(a:A.n<=900000):(BA A).n=A.n:=rfl
def amK:cf:=⟨[.o 0,.jU 21 []],[(.h 0 0,.ad cY)],[[U]],λA=>⟨⟨some (A.n<=900000),[],[[(aH.ad cY).av (G.cut (BA A) A.n)]]⟩⟩⟩
def axN:dV 20 amK:=ea Tryz.func20
 λA c b=>have a:=G.AA (aAB A b);yW (rs:=[]) (H':=[[(aH.ad cY).av (BA A)]]) (dU ⟨.heap,[],[(.h 0 0,.ad cY)],⟨[],[[U]]⟩⟩ (.z) ((A.n:Int)=(A.n:Int)/\A.n<=900000) (b1 1 a2 (ay axR b0)) Tryz.func20 (Ω)) rfl (show([[(aH.ad cY).av (BA A)]]:Heap)=[[(aH.ad cY).av (G.cut (BA A) A.n)]] by rw[a])
end Go.Proofs.YtadmdaokcgjdiaaGreatDoor
