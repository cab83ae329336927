import Derived.Test.YtadmdaokcgjdiaaGreatDoorXn
open Go.IntKind (i64 u64 u8)
open Int (toNat)
set_option maxRecDepth 100000
set_option maxHeartbeats 4000000
set_option linter.all false
noncomputable section
namespace Go.Proofs.YtadmdaokcgjdiaaGreatDoor
open Go Go.RowKit Go.af
section
variable(i:Nat)(it:R)(d:H)
def F3:G Int:=(cond ((hk d.j d.lt d.li (bP d) (eM d) (G.lit ([it]:List R)))!=0) d.a_ (cond (!(hT d.j d.lt d.li (bP d) (eM d) (G.lit ([it]:List R)))) d.a_ (cond ((dt d.j d.lt d.li (bP d) (eM d) (G.lit ([it]:List R)))==0) d.a_ (fO (⟨2,0,0,(i64 ((bP d)+1)),it.q,it.F,it.z,it.M,it.w,it.C,it.P,it.aw,it.f,it.aD,0,0,0,(B:G N),0,(B:G ar)⟩:bm) d).a_)))
def TT:Int:=(cond ((hk d.j d.lt d.li (bP d) (eM d) (G.lit ([it]:List R)))!=0) d.br (cond (!(hT d.j d.lt d.li (bP d) (eM d) (G.lit ([it]:List R)))) d.br (cond ((dt d.j d.lt d.li (bP d) (eM d) (G.lit ([it]:List R)))==0) d.br (fO (⟨2,0,0,(i64 ((bP d)+1)),it.q,it.F,it.z,it.M,it.w,it.C,it.P,it.aw,it.f,it.aD,0,0,0,(B:G N),0,(B:G ar)⟩:bm) d).br)))
def n9:Bool:=(cond ((hk d.j d.lt d.li (bP d) (eM d) (G.lit ([it]:List R)))!=0) true (cond (!(hT d.j d.lt d.li (bP d) (eM d) (G.lit ([it]:List R)))) true (cond ((dt d.j d.lt d.li (bP d) (eM d) (G.lit ([it]:List R)))==0) true (!(gn (⟨2,0,0,(i64 ((bP d)+1)),it.q,it.F,it.z,it.M,it.w,it.C,it.P,it.aw,it.f,it.aD,0,0,0,(B:G N),0,(B:G ar)⟩:bm) d)))))
def arS:H:={(fO (⟨2,0,0,(i64 ((bP d)+1)),it.q,it.F,it.z,it.M,it.w,it.C,it.P,it.aw,it.f,it.aD,0,0,0,(B:G N),0,(B:G ar)⟩:bm) d)with a_:=(F3 it d),br:=(TT it d)}
def o3:Bool:=(cond (n9 it d) false true)
def vB:Int:=(cond (n9 it d) d.j (cn d.j d.lt d.li (bP d) (eM d) (G.lit ([it]:List R))))
def ad3:Int:=(cond (n9 it d) d.lt (tH d.j d.lt d.li (bP d) (eM d) (G.lit ([it]:List R))))
def vC:G R:=(cond (n9 it d) d.li (cd d.j d.lt d.li (bP d) (eM d) (G.lit ([it]:List R))))
def hQ:H:={d with j:=(vB it d),lt:=(ad3 it d),li:=(vC it d),a_:=(F3 it d),br:=(TT it d)}
def Py:dr:=⟨[.fC 0 (33*i),.g [a,a,K,a,a,a,al,al,al,a]],ck,e0,eN,λ(b:Int) (c:Int) d (e:Int) (f:Int) (g:Int) h j k (l:Int)=>cP λC=>⟨⟨some (lv (⟨b,c,d,e,f,g,h,j,k,l⟩:R)),[.bool (o3 (⟨b,c,d,e,f,g,h,j,k,l⟩:R) (C.d i))],cu aO 0 (C.set i (hQ (⟨b,c,d,e,f,g,h,j,k,l⟩:R) (C.d i)))⟩⟩⟩
def ZK:cT:=⟨.eR true [] [] (gJ i aO 0 [0] 1) (gF i aO),[.tmp 4],[(.t 0,K)]++fT i aO,⟨[],[]⟩⟩
def atb(C:aA):cw (ZK i).cg:=let e:=G.lit ([it]:List R);let c:=C.d i;let f:=eM c;let d:=bP c;let j:=cd c.j c.lt c.li d f e;let h:=tH c.j c.lt c.li d f e;let g:=cn c.j c.lt c.li d f e;(.ae (.ae (.bs ⟨([.ptr 0 (33*i+0),U,U,.ptr 10 0,.lit false,b d]++(us 48 ([]))),cy aO 1 C [(10,[b it.q,b it.F,.bool it.z,b it.M,b it.w,b it.C,.str it.P,.str it.aw,.str it.f,b it.aD])]⟩ (.s (.mw [(0,(33*i+6)),(0,(33*i+7)),(0,(33*i+8))]) (.bs ⟨([.ptr 0 (33*i+0),U,U,.ptr 10 0,.lit false,b d,U,.ptr 12 0,.bool (hT c.j c.lt c.li d f e),b (dt c.j c.lt c.li d f e),b (hk c.j c.lt c.li d f e)]++(us 43 ([]))),cy aO 3 C [(10,[b it.q,b it.F,.bool it.z,b it.M,b it.w,b it.C,.str it.P,.str it.aw,.str it.f,b it.aD]),(11,[.ad true 10 1 λq=>eo (G.at' e q)]),(12,[b g,b h,aP 10 eo j])]⟩ (.s (.j ⟨562949953421457,[.b 10,.b 11],[(.h 0 (33*i+30),.ab bo),(.h 0 (33*i+31),a),(.t 49,K)],[],.f⟩ .z (.bs ⟨([.ptr 0 (33*i+0),U,U,U,.lit false,U,U,.ptr 12 0]++(us 41 ([.bool (n9 it c),U,U,U,U]))),cy aO 3 (C.set i (arS it c)) [(12,[b g,b h,aP 10 eo j])]⟩ .z)) .z))))))
def XG(i:Nat)(it:R)(C:aA):Prop:=(((hk (C.d i).j (C.d i).lt (C.d i).li (bP (C.d i)) (eM (C.d i)) (G.lit ([it]:List R)))!=0)=false->((!(hT (C.d i).j (C.d i).lt (C.d i).li (bP (C.d i)) (eM (C.d i)) (G.lit ([it]:List R))))=false->(((dt (C.d i).j (C.d i).lt (C.d i).li (bP (C.d i)) (eM (C.d i)) (G.lit ([it]:List R)))==0)=false->(pG (⟨2,0,0,(i64 ((bP (C.d i))+1)),it.q,it.F,it.z,it.M,it.w,it.C,it.P,it.aw,it.f,it.aD,0,0,0,(B:G N),0,(B:G ar)⟩:bm)))))
def aBa(i:Nat)(c:i<3)(it:R)(C:aA)(b:eP C)(h:it.P.size<=549755813888)(j:it.aw.size<=549755813888)(k:it.f.size<=549755813888)(g:lv it):XG i it C:=by
 have a:=g4 b i c;unfold fS at a;unfold XG;exact((λd=>(λe=>(λf=>(by repeat first|assumption|apply uy)))))
def ayO(i:Nat)(a:i<3)(it:R)(e:it.P.size<=549755813888)(f:it.aw.size<=549755813888)(g:it.f.size<=549755813888):e8 Tryz.prog 43 (Py i) ck [] (cP λC=>⟨⟨some (lv it),[.bool (o3 it (C.d i))],cu aO 0 (C.set i (hQ it (C.d i)))⟩⟩) [b it.q,b it.F,.bool it.z,b it.M,b it.w,b it.C,.str it.P,.str it.aw,.str it.f,b it.aD]:=by
 refine gC λC c=>λd=>eC (ZK i) (atb i it C) (XG i it C) (b1 10 (aJ agM a2) (ay (y_ i a) (ay (axX i a) (ay (Hn i a) b0)))) Tryz.func43 ([.f]++List.replicate 6 .l++[.f,.f,.f]++List.replicate 93 .l) ?_ ?_ (aBa i a it C c e f g d)
 .rcases ca a with rfl|rfl|rfl<;>kernel_rfl
 .rcases ca a with rfl|rfl|rfl<;>kernel_rfl
def aBQ(i:Nat)(c:i<3):gr 43 (Py i):=
 jR (bE:=[a,a,K,a,a,a,al,al,al,a]) λs b=>Eq.mp (by rcases ca c with rfl|rfl|rfl<;>kernel_rfl) (ayO i c ⟨s.1,s.2.1,s.2.2.1,s.2.2.2.1,s.2.2.2.2.1,s.2.2.2.2.2.1,s.2.2.2.2.2.2.1,s.2.2.2.2.2.2.2.1,s.2.2.2.2.2.2.2.2.1,s.2.2.2.2.2.2.2.2.2.1⟩ (b.2.2.2.2.2.2.1 rfl) (b.2.2.2.2.2.2.2.1 rfl) (b.2.2.2.2.2.2.2.2.1 rfl))
def agA(i:Nat)(a:i<3):gu 43 (Py i):=gQ gB Tryz.func43 (aBQ i a)
end
section
variable(i:Nat)(C:aA)(d:H)(L:G aj)(ah:G bF)(au:G aU)(e:Int)
def ar8:Bool:=(cond (0 !=d.bf) true false)
def aef:Bool:=(cond (0 !=d.bf) (decide (d.hq>=e)) false)
def Ln:Int:=(cond (aef d e) 2 1)
def ar9:Bool:=(cond (1 !=d.bf) true false)
def aeg:Bool:=(cond (1 !=d.bf) (decide (d.q1>=e)) false)
def Lo:Int:=(cond (aeg d e) (i64 ((Ln d e)+1)) (Ln d e))
def Un:Bool:=(cond (2 !=d.bf) true false)
def aeh:Bool:=(cond (2 !=d.bf) (decide (d.fQ>=e)) false)
def Uo:Int:=(cond (aeh d e) (i64 ((Lo d e)+1)) (Lo d e))
def aee:Bool:=(cond (decide ((Uo d e)>=2)) true false)
def vL:Bool:=(cond (decide ((Uo d e)>=2)) ((hS d.j d.lt d.li e)==d.ao) false)
def o6(d:H)(L:G aj)(ah:G bF)(au:G aU):Nat->Int->Bool×sA
 |0,_=>default
 |k+1,e=>(cond (decide (e>d.co)) (cond (vL d e) (true,(wO (lK e d ah) L (yp e d ah) au)) (o6 d L ah au k (i64 (e-1)))) (false,default))
def p_:Bool×sA:=o6 d L ah au ((toNat ((bP d)-d.co))+1) (bP d)
def o5:H:=(H.bif (p_ d L ah au).1 (HG (p_ d L ah au).2) d)
def yq:G aj:=(cond (p_ d L ah au).1 (agT (p_ d L ah au).2) L)
def ys:G bF:=(cond (p_ d L ah au).1 (agX (p_ d L ah au).2) ah)
def yr:G aU:=(cond (p_ d L ah au).1 (agW (p_ d L ah au).2) au)
def PY:dr:=⟨[.p 0,.fC 0 (33*i)],ck,e0,eN,cP λC=>let a:=C.d i;⟨⟨some (C.told.n<=541000000000/\a.ws.n<=3000/\0<=a.j/\a.j<=a.co/\a.co<=4194304/\a.j+(a.li.n:Int)<=4194304/\a.li.n<=200),[],cu aO 0 (C.put i (o5 a C.ag C.told C.bh) (yq a C.ag C.told C.bh) (ys a C.ag C.told C.bh) (yr a C.ag C.told C.bh))⟩⟩⟩
def Z2:cT:=⟨.eR true [] [] (zM i aO 0 [] 0 C) (zd i aO),[],[]++xj i aO,⟨[],[]⟩⟩
def ats:cw (Z2 i C).cg:=let c:=C.d i;(.ae (.bs ⟨([.ptr 0 0,.ptr 0 (33*i+0),U,U,b (bP c)]++(us 65 ([]))),cy aO 0 C []⟩ (.ae (.zg ⟨67,[],[],[(.t 6,a)],some 0,true,0,[],[],λk (s:Int)=>o6 c C.ag C.told C.bh k s,.f,λ(s:Int)=>(s<=c.j+(c.li.n:Int)),λ(s:Int)=>(toNat (s-c.co)),none⟩ (λ(d:Int)=>let n:=tC c.j c.lt c.li d;let h:=aeh c d;let f:=decide (d>c.co);let g:=hS c.j c.lt c.li d;let e:=Uo c d;let m:=us 8 (([b d,.ptr 0 (33*i+0),.ptr 0 (33*i+0),.ptr 0 (33*i+19),b c.co,.bool f,U,U,b 0,.bool true,b 0,b 0,.ptr 0 (33*i+0),.ptr 0 (33*i+0),.ptr 0 (33*i+0),b c.bf,.bool (0 !=c.bf),.bool (ar8 c)]++(us 8 (([.bool (aef c d)]++(us 26 ([])))))));let l:=us 8 (([b d,.ptr 0 (33*i+0),.ptr 0 (33*i+0),.ptr 0 (33*i+19),b c.co,.bool f,U,U,b 2,.bool true,b 2,b 2,.ptr 0 (33*i+0),.ptr 0 (33*i+0),.ptr 0 (33*i+0),b c.bf,.bool (2 !=c.bf),.bool (Un c)]++(us 8 (([.bool h,U,U,b 2]++(us 23 ([])))))));let j:=us 8 (([b d,.ptr 0 (33*i+0),.ptr 0 (33*i+0),.ptr 0 (33*i+19),b c.co,.bool f,U,U,b 1,.bool true,b 1,b 1,.ptr 0 (33*i+0),.ptr 0 (33*i+0),.ptr 0 (33*i+0),b c.bf,.bool (1 !=c.bf),.bool (ar9 c)]++(us 8 (([.bool (aeg c d),U,U,b 1]++(us 23 ([])))))));(.ae (.s (.ae (.s (.ae (.un 3 (.s (.ae (.s (.c true .z) (.j ⟨8830427464131,[],[(.t 7,a)],[],.f⟩ (.ae (.j ⟨8830427464131,[],[(.t 34,K),(.t 43,K)],[],.f⟩ .z (.bs ⟨([.ptr 0 0,.ptr 0 (33*i+0),U,U,U,U,b d,b 1,b 0]++m),cy aO 0 C []⟩ .z))) (.bs ⟨([.ptr 0 0,.ptr 0 (33*i+0),U,U,U,U,b d,b (Ln c d),b 0]++m),cy aO 0 C []⟩ .z)))) (.s (.ae (.s (.c true .z) (.j ⟨79199171641795,[],[(.t 7,a)],[],.f⟩ (.ae (.j ⟨79199171641795,[],[(.t 34,K),(.t 43,K)],[],.f⟩ .z (.bs ⟨([.ptr 0 0,.ptr 0 (33*i+0),U,U,U,U,b d,b (Ln c d),b 1]++j),cy aO 0 C []⟩ .z))) (.bs ⟨([.ptr 0 0,.ptr 0 (33*i+0),U,U,U,U,b d,b (Lo c d),b 1]++j),cy aO 0 C []⟩ .z)))) (.s (.ae (.s (.c true .z) (.j ⟨79199171641795,[],[(.t 7,a)],[],.f⟩ (.ae (.j ⟨79199171641795,[],[(.t 34,K),(.t 43,K)],[],.f⟩ .z (.bs ⟨([.ptr 0 0,.ptr 0 (33*i+0),U,U,U,U,b d,b (Lo c d),b 2]++l),cy aO 0 C []⟩ .z))) (.bs ⟨([.ptr 0 0,.ptr 0 (33*i+0),U,U,U,U,b d,b e,b 2]++l),cy aO 0 C []⟩ .z)))) (.ae (.s (.c false .z) .z))))))) (.ae (.j ⟨37460739424662717379,[],[(.t 58,K),(.t 65,K)],[],.f⟩ .z (.bs ⟨([.ptr 0 0,.ptr 0 (33*i+0),U,U,U,U,b d,b e,b 2,b g]++(us 7 (([b d,.ptr 0 (33*i+0),.ptr 0 (33*i+0),.ptr 0 (33*i+19),b c.co,.bool f,U,U,b 3,.bool false,b 2,b 2,.ptr 0 (33*i+0),.ptr 0 (33*i+0),.ptr 0 (33*i+0),b c.bf,.bool (2 !=c.bf),.bool (Un c)]++(us 8 (([.bool h,U,U,b 3,U,.ptr 0 (33*i+0),.ptr 0 (33*i+0),.ptr 0 (33*i+6),.agg [b c.j,b c.lt,aP 10 eo c.li],b d,U,b g,b n,b e,.bool (decide (e>=2)),.bool (aee c d)]++(us 6 ([.bool (vL c d),U,U,U,U]))))))))),cy aO 0 C []⟩ (.s (.ae (.bs ⟨([.ptr 0 0,.ptr 0 (33*i+0),U,U,U,U,b d,b e,b 2,b g]++(us 7 (([b d,.ptr 0 (33*i+0),.ptr 0 (33*i+0),.ptr 0 (33*i+19),b c.co,.bool f,U,U,b 3,.bool false,b 2,b 2,.ptr 0 (33*i+0),.ptr 0 (33*i+0),.ptr 0 (33*i+0),b c.bf,.bool (2 !=c.bf),.bool (Un c)]++(us 8 (([.bool h,U,U,b 3,U,.ptr 0 (33*i+0),.ptr 0 (33*i+0),.ptr 0 (33*i+6),.agg [b c.j,b c.lt,aP 10 eo c.li],b d,U,b g,b n,b e,.bool (decide (e>=2)),.bool (aee c d)]++(us 6 ([.bool (vL c d),.ptr 0 0,.ptr 0 (33*i+0),b d,U]))))))))),cy aO 0 (C.put i (lK d c C.told) C.ag (yp d c C.told) C.bh) []⟩ .z)) .z)))))) .z)))))))
def XT(i:Nat)(C:aA):Prop:=((((bP (C.d i))<=(C.d i).j+((C.d i).li.n:Int)))/\(∀(e:Int),(e<=(C.d i).j+((C.d i).li.n:Int))->(((decide (e>(C.d i).co))=true->((vL (C.d i) e)=true->(C.told.n<=541000000000/\(C.d i).ws.n<=3000/\0<=(C.d i).j/\(C.d i).j<=(C.d i).co/\(C.d i).co<=4194304/\e<=(C.d i).j+((C.d i).li.n:Int)/\(C.d i).li.n<=200)))/\((decide (e>(C.d i).co))=true->((vL (C.d i) e)=false->(((i64 (e-1))<=(C.d i).j+((C.d i).li.n:Int))/\(toNat ((i64 (e-1))- (C.d i).co))<(toNat (e- (C.d i).co))))))))
def aBp(i:Nat)(f:i<3)(C:aA)(d:eP C)(g:C.told.n<=541000000000/\(C.d i).ws.n<=3000/\0<=(C.d i).j/\(C.d i).j<=(C.d i).co/\(C.d i).co<=4194304/\(C.d i).j+((C.d i).li.n:Int)<=4194304/\(C.d i).li.n<=200):XT i C:=by
 have c:=g4 d i f;unfold fS at c;unfold XT;exact have⟨l,m,n,o,p,q,r⟩:=g;have:=Jg (C.d i) Ω;(⟨Ω,(λe k=>⟨(λh=>(λj=>Ω)),(λa=>(λb=>(by have:=an a;have:=b;simp [vL]at this;first|omega|(have:=E (e-1);omega))))⟩)⟩)
def azb(i:Nat)(a:i<3):e8 Tryz.prog 79 (PY i) ck [] (cP λC=>⟨⟨some (C.told.n<=541000000000/\(C.d i).ws.n<=3000/\0<=(C.d i).j/\(C.d i).j<=(C.d i).co/\(C.d i).co<=4194304/\(C.d i).j+((C.d i).li.n:Int)<=4194304/\(C.d i).li.n<=200),[],cu aO 0 (C.put i (o5 (C.d i) C.ag C.told C.bh) (yq (C.d i) C.ag C.told C.bh) (ys (C.d i) C.ag C.told C.bh) (yr (C.d i) C.ag C.told C.bh))⟩⟩) []:=by
 refine gC λC b=>λc=>eC (Z2 i C) (ats i C) (XT i C) (b1 10 (aJ Nh a2) (ay (y_ i a) (ay (agG i a) b0))) Tryz.func79 [] ?_ ?_ (aBp i a C b c)
 .rcases ca a with rfl|rfl|rfl<;>kernel_rfl
 .rcases ca a with rfl|rfl|rfl<;>kernel_rfl
def aCd(i:Nat)(a:i<3):gr 79 (PY i):=
 azb i a
def axY(i:Nat)(a:i<3):gu 79 (PY i):=gQ gB Tryz.func79 (aCd i a)
end
section
variable(i:Nat)(j:Nat)(ms:aj)(d:H)(L:G aj)(ah:G bF)(au:G aU)
def ts:H:=(H.aDH j (imax (H.asU j d) (i64 (ms.w+1))) (imax (H.aeZ j d) ms.w) d)
def Li:H:=(H.sp j (i64 ((imax (H.aeZ j d) ms.w)+1)) d)
def BK:H:=(H.bif ms.P (o5 (ts j ms d) L ah au) (Li j ms d))
def T1:G aj:=(cond ms.P (yq (ts j ms d) L ah au) L)
def T3:G bF:=(cond ms.P (ys (ts j ms d) L ah au) ah)
def T2:G aU:=(cond ms.P (yr (ts j ms d) L ah au) au)
def PN:dr:=⟨[.p 0,.fC 0 (33*i),.g [a,a,a,a,a,a,K,a,.ab dk,a,a,a,.ab bp,a,.ab bZ]],ck,e0,eN,λ(c:Int) (d:Int) (l:Int) (m:Int) (n:Int) (o:Int) p (q:Int) r (s:Int) (e:Int) (f:Int) g (h:Int) k=>cP λC=>let b:=C.d i;⟨⟨some (C.told.n<=541000000000/\b.ws.n<=3000/\0<=b.j/\b.j<=b.co/\b.co<=4194304/\b.j+(b.li.n:Int)<=4194304/\b.li.n<=200),[],cu aO 0 (C.put i (BK j (⟨c,d,l,m,n,o,p,q,r,s,e,f,g,h,k⟩:aj) b C.ag C.told C.bh) (T1 j (⟨c,d,l,m,n,o,p,q,r,s,e,f,g,h,k⟩:aj) b C.ag C.told C.bh) (T3 j (⟨c,d,l,m,n,o,p,q,r,s,e,f,g,h,k⟩:aj) b C.ag C.told C.bh) (T2 j (⟨c,d,l,m,n,o,p,q,r,s,e,f,g,h,k⟩:aj) b C.ag C.told C.bh))⟩⟩⟩
def ZU:cT:=⟨.eR true [] [] (gJ i aO 0 [] 0) (gF i aO),[],[]++fT i aO,⟨[],[]⟩⟩
def atl(C:aA):cw (ZU i).cg:=let a:=ts j ms (C.d i);(.ae (.s (.ae (.s (.ae (.ae (.ae (.bs ⟨([U,.ptr 0 (33*i+0),U,U,U,.ptr 10 0]++(us 55 ([]))),cy aO 1 (C.put i (o5 a C.ag C.told C.bh) (yq a C.ag C.told C.bh) (ys a C.ag C.told C.bh) (yr a C.ag C.told C.bh)) [(10,(jo (j:Int) ms.F ms))]⟩ .z)))) .z)) .z))
def XM(i:Nat)(j:Nat)(ms:aj)(C:aA):Prop:=(ms.P=true->(C.told.n<=541000000000/\(C.d i).ws.n<=3000/\0<=(C.d i).j/\(C.d i).j<=(C.d i).co/\(C.d i).co<=4194304/\(C.d i).j+((C.d i).li.n:Int)<=4194304/\(C.d i).li.n<=200))
def aBh(i:Nat)(c:i<3)(j:Nat)(f:j<3)(ms:aj)(C:aA)(b:eP C)(r:ms.f.n<=549755813888)(p:ms.b2.n<=549755813888)(q:ms.bb.n<=549755813888)(d:C.told.n<=541000000000/\(C.d i).ws.n<=3000/\0<=(C.d i).j/\(C.d i).j<=(C.d i).co/\(C.d i).co<=4194304/\(C.d i).j+((C.d i).li.n:Int)<=4194304/\(C.d i).li.n<=200):XM i j ms C:=by
 have a:=g4 b i c;unfold fS at a;unfold XM;exact have⟨g,h,k,l,m,n,o⟩:=d;((λe=>Ω))
def We(i:Nat)(a:i<3)(j:Nat)(b:j<3)(ms:aj)(g:ms.f.n<=549755813888)(e:ms.b2.n<=549755813888)(f:ms.bb.n<=549755813888)(C:aA)(c:eP C)(d:C.told.n<=541000000000/\(C.d i).ws.n<=3000/\0<=(C.d i).j/\(C.d i).j<=(C.d i).co/\(C.d i).co<=4194304/\(C.d i).j+((C.d i).li.n:Int)<=4194304/\(C.d i).li.n<=200):fL Tryz.prog 57 ((PN i j).args ((jo (j:Int) ms.F ms)++ix C)) ((PN i j).dh (((jo (j:Int) ms.F ms)++ix C).drop (PN i j).dR)) [] (cu aO 0 (C.put i (BK j ms (C.d i) C.ag C.told C.bh) (T1 j ms (C.d i) C.ag C.told C.bh) (T3 j ms (C.d i) C.ag C.told C.bh) (T2 j ms (C.d i) C.ag C.told C.bh))):=by
 refine eC (ZU i) (atl i j ms C) (XM i j ms C) (b1 10 a2 (ay (axY i a) b0)) Tryz.func57 (List.replicate 31 .f++List.replicate 62 .l++[.f,.f]++List.replicate 4 .l++[.f,.f,.f]) ?_ ?_ (aBh i a j b ms C c g e f d)
 .rcases ca a with rfl|rfl|rfl<;>rcases ca b with rfl|rfl|rfl<;>kernel_rfl
 .rcases ca a with rfl|rfl|rfl<;>rcases ca b with rfl|rfl|rfl<;>kernel_rfl
def vG:H:=(BK (toNat ms.q) ms d L ah au)
def F9:G aj:=(T1 (toNat ms.q) ms d L ah au)
def Ga:G bF:=(T3 (toNat ms.q) ms d L ah au)
def F_:G aU:=(T2 (toNat ms.q) ms d L ah au)
def PM:dr:=⟨[.p 0,.fC 0 (33*i),.g [a,a,a,a,a,a,K,a,.ab dk,a,a,a,.ab bp,a,.ab bZ]],ck,e0,eN,λ(c:Int) (d:Int) (k:Int) (l:Int) (m:Int) (n:Int) o (p:Int) q (r:Int) (e:Int) (f:Int) g (h:Int) j=>cP λC=>let b:=C.d i;⟨⟨some (0<=(⟨c,d,k,l,m,n,o,p,q,r,e,f,g,h,j⟩:aj).q/\(⟨c,d,k,l,m,n,o,p,q,r,e,f,g,h,j⟩:aj).q<3/\C.told.n<=541000000000/\b.ws.n<=3000/\0<=b.j/\b.j<=b.co/\b.co<=4194304/\b.j+(b.li.n:Int)<=4194304/\b.li.n<=200),[],cu aO 0 ((C.put i (vG (⟨c,d,k,l,m,n,o,p,q,r,e,f,g,h,j⟩:aj) b C.ag C.told C.bh) (F9 (⟨c,d,k,l,m,n,o,p,q,r,e,f,g,h,j⟩:aj) b C.ag C.told C.bh) (Ga (⟨c,d,k,l,m,n,o,p,q,r,e,f,g,h,j⟩:aj) b C.ag C.told C.bh) (F_ (⟨c,d,k,l,m,n,o,p,q,r,e,f,g,h,j⟩:aj) b C.ag C.told C.bh)):aA)⟩⟩⟩
def ay2(i:Nat)(a:i<3)(ms:aj)(u:ms.f.n<=549755813888)(s:ms.b2.n<=549755813888)(t:ms.bb.n<=549755813888):e8 Tryz.prog 57 (PM i) ck [] (cP λC=>⟨⟨some (0<=ms.q/\ms.q<3/\C.told.n<=541000000000/\(C.d i).ws.n<=3000/\0<=(C.d i).j/\(C.d i).j<=(C.d i).co/\(C.d i).co<=4194304/\(C.d i).j+((C.d i).li.n:Int)<=4194304/\(C.d i).li.n<=200),[],cu aO 0 ((C.put i (vG ms (C.d i) C.ag C.told C.bh) (F9 ms (C.d i) C.ag C.told C.bh) (Ga ms (C.d i) C.ag C.told C.bh) (F_ ms (C.d i) C.ag C.told C.bh)):aA)⟩⟩) (iQ ms):=by
 refine gC λC r b=> ?_;obtain⟨a0,c,j,k,l,m,n,o,p,q,d,e,f,g,h⟩:=ms;have v:a0=0\/a0=1\/a0=2:=by
  have w:0<=a0:=b.1;have x:a0<3:=b.2.1;omega
 rcases v with rfl|rfl|rfl
 .exact Eq.mp (by rcases ca a with rfl|rfl|rfl<;>kernel_rfl) (We i a 0 Ω ⟨0,c,j,k,l,m,n,o,p,q,d,e,f,g,h⟩ u s t C r b.2.2)
 .exact Eq.mp (by rcases ca a with rfl|rfl|rfl<;>kernel_rfl) (We i a 1 Ω ⟨1,c,j,k,l,m,n,o,p,q,d,e,f,g,h⟩ u s t C r b.2.2)
 .exact Eq.mp (by rcases ca a with rfl|rfl|rfl<;>kernel_rfl) (We i a 2 Ω ⟨2,c,j,k,l,m,n,o,p,q,d,e,f,g,h⟩ u s t C r b.2.2)
def aB4(i:Nat)(c:i<3):gr 57 (PM i):=
 jR (bE:=[a,a,a,a,a,a,K,a,.ab dk,a,a,a,.ab bp,a,.ab bZ]) λs b=>Eq.mp (by rcases ca c with rfl|rfl|rfl<;>kernel_rfl) (ay2 i c ⟨s.1,s.2.1,s.2.2.1,s.2.2.2.1,s.2.2.2.2.1,s.2.2.2.2.2.1,s.2.2.2.2.2.2.1,s.2.2.2.2.2.2.2.1,s.2.2.2.2.2.2.2.2.1,s.2.2.2.2.2.2.2.2.2.1,s.2.2.2.2.2.2.2.2.2.2.1,s.2.2.2.2.2.2.2.2.2.2.2.1,s.2.2.2.2.2.2.2.2.2.2.2.2.1,s.2.2.2.2.2.2.2.2.2.2.2.2.2.1,s.2.2.2.2.2.2.2.2.2.2.2.2.2.2.1⟩ (b.2.2.2.2.2.2.2.2.1 rfl) (b.2.2.2.2.2.2.2.2.2.2.2.2.1 rfl) (b.2.2.2.2.2.2.2.2.2.2.2.2.2.2.1 rfl))
def ug(i:Nat)(a:i<3):gu 57 (PM i):=gQ gB Tryz.func57 (aB4 i a)
end
section
variable(i:Nat)(ac:a7)(C:aA)(d:H)
def arK(L:G aj):Int:=(cond (decide ((L.n:Int)>0)) (ac.z.tmod (L.n:Int)) (-1))
def arL:H:={d with up:=true}
def TN:H:=(arL d)
def Po:dr:=⟨[.p 0,.g [a,a,a,a,a,a,al,al,al,a]],ck,e0,eN,λ(b:Int) (c:Int) (d:Int) (e:Int) (f:Int) (g:Int) h j k (l:Int)=>cP λC=>⟨⟨some (e7 C (⟨b,c,d,e,f,g,h,j,k,l⟩:a7)),[],cu [10,13,11,14,12,15,16,8,9] 7 (C.set i (TN (C.d i)))⟩⟩⟩
def ZF:cT:=⟨.eR true [.b 10] [.own (.h 0 99) cJ 16,.own (.h 0 29) du 10,.own (.h 0 62) du 11,.own (.h 0 95) du 12,.own (.h 0 32) cJ 13,.own (.h 0 65) cJ 14,.own (.h 0 98) cJ 15] (zM i [10,13,11,14,12,15,16,8,9] 7 [] 0 C) (zd i [10,13,11,14,12,15,16,8,9]),[],[]++xj i [10,13,11,14,12,15,16,8,9],⟨[],[]⟩⟩
def as7:cw (ZF i C).cg:=(.ae (.ae (.ae (.j ⟨57,[],[(.t 5,a)],[],.f⟩ .z (.bs ⟨([.ptr 0 0,U,U,.ptr 10 0,.ptr 0 (33*i+0),b (arK ac C.ag)]++(us 135 ([]))),cy aO 1 C [(10,[b 10,b (i:Int),b ac.z,b ac.M,b ac.w,b ac.C,.str ac.P,.str ac.aw,.str ac.f,b ac.aD])]⟩ (.ae (.ae (.c false (.ae (.c false (.ae (.c true .z))))))))))))
def XA(i:Nat)(ac:a7)(C:aA):Prop:=((decide ((C.ag.n:Int)>0))=true->(((C.ag.n:Int):Int)≠0))
def aA5(i:Nat)(e:i<3)(ac:a7)(C:aA)(d:eP C)(f:ac.P.size<=549755813888)(g:ac.aw.size<=549755813888)(h:ac.f.size<=549755813888)(a:e7 C ac):XA i ac C:=by
 have c:=g4 d i e;unfold fS at c;unfold XA;exact have:=oN a i;have:=(oN a i).j;have:=(oN a i).ws;have:=pM a;have:=a.2.zG;have:=a.2.zH;have:=a.2.zI;have:=a.2.lS;((λb=>(by have:=an b;omega)))
def Wd(i:Nat)(a:i<3)(ac:a7)(e:ac.P.size<=549755813888)(f:ac.aw.size<=549755813888)(g:ac.f.size<=549755813888)(C:aA)(c:eP C)(d:e7 C ac):fL Tryz.prog 18 ((Po i).args ([b 10,b (i:Int),b ac.z,b ac.M,b ac.w,b ac.C,.str ac.P,.str ac.aw,.str ac.f,b ac.aD]++ix C)) ((Po i).dh (([b 10,b (i:Int),b ac.z,b ac.M,b ac.w,b ac.C,.str ac.P,.str ac.aw,.str ac.f,b ac.aD]++ix C).drop (Po i).dR)) [] (cu [10,13,11,14,12,15,16,8,9] 7 (C.set i (TN (C.d i)))):=by
 refine eC (ZF i C) (as7 i ac C) (XA i ac C) (b1 10 a2 b0) Tryz.func18 [] ?_ ?_ (aA5 i a ac C c e f g d)
 .rcases ca a with rfl|rfl|rfl<;>kernel_rfl
 .rcases ca a with rfl|rfl|rfl<;>kernel_rfl
end
end Go.Proofs.YtadmdaokcgjdiaaGreatDoor
