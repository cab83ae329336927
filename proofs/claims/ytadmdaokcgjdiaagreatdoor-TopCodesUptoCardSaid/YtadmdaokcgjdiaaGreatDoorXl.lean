import Derived.Test.YtadmdaokcgjdiaaGreatDoorXj
open Go.IntKind (i64 u64 u8)
open Int (toNat)
set_option maxRecDepth 100000
set_option maxHeartbeats 4000000
set_option linter.all false
noncomputable section
namespace Go.Proofs.YtadmdaokcgjdiaaGreatDoor
open Go Go.RowKit Go.af
section
variable(i:Nat)(A:Int)(ms:aj)(d:H)
def Gj:G aj:=(cond (decide ((d.bd.n:Int)<300)) (G.app d.bd (G.lit ([(⟨d.bf,A,ms.z,ms.M,ms.w,ms.C,ms.P,ms.aw,ms.f,ms.aD,ms.bX,ms.b_,ms.b2,ms.cm,ms.bb⟩:aj)]:List aj))) d.bd)
def dJ:H:={d with bd:=(Gj A ms d)}
def PW:dr:=⟨[.fC 0 (33*i),.v a,.g [a,a,a,a,a,a,K,a,.ab dk,a,a,a,.ab bp,a,.ab bZ]],ck,e0,eN,λ(A:Int) (b:Int) (j:Int) (k:Int) (l:Int) (m:Int) (n:Int) o (p:Int) q (c:Int) (d:Int) (e:Int) f (g:Int) h=>cP λC=>⟨⟨none,[],cu aO 0 (C.set i (dJ A (⟨b,j,k,l,m,n,o,p,q,c,d,e,f,g,h⟩:aj) (C.d i)))⟩⟩⟩
def anR:cT:=⟨.eR true [] [] (gJ i aO 0 [] 0) (gF i aO),[],[]++fT i aO,⟨[],[]⟩⟩
def aih(i:Nat)(C:aA):Prop:=((decide ((((C.d i).bd.n:Nat):Int)<300))=true->((C.d i).bd.n+1<=549755813888))
def aBn(i:Nat)(d:i<3)(C:aA)(c:eP C):aih i C:=by
 have b:=g4 c i d;unfold fS at b;exact((λa=>(by have:=an a;omega)))
def ay_(i:Nat)(a:i<3)(A:Int)(ms:aj):e8 Tryz.prog 76 (PW i) ck [] (cP λC=>⟨⟨none,[],cu aO 0 (C.set i (dJ A ms (C.d i)))⟩⟩) [b A,b ms.q,b ms.F,b ms.z,b ms.M,b ms.w,b ms.C,.bool ms.P,b ms.aw,aP 10 eo ms.f,b ms.aD,b ms.bX,b ms.b_,aP 8 gU ms.b2,b ms.cm,aP 7 hi ms.bb]:=by
 refine gC λC c=>eC (anR i) (.z) (aih i C) (b1 10 a2 b0) Tryz.func76 (List.replicate 94 .l++[.f]++List.replicate 7 .l) ?_ ?_ (aBn i a C c)
 .rcases ca a with rfl|rfl|rfl<;>kernel_rfl
 .rcases ca a with rfl|rfl|rfl<;>kernel_rfl
def aCb(i:Nat)(b:i<3):gr 76 (PW i):=
 jR (bE:=[a,a,a,a,a,a,a,K,a,.ab dk,a,a,a,.ab bp,a,.ab bZ]) λs c=>Eq.mp (by rcases ca b with rfl|rfl|rfl<;>kernel_rfl) (ay_ i b s.1 ⟨s.2.1,s.2.2.1,s.2.2.2.1,s.2.2.2.2.1,s.2.2.2.2.2.1,s.2.2.2.2.2.2.1,s.2.2.2.2.2.2.2.1,s.2.2.2.2.2.2.2.2.1,s.2.2.2.2.2.2.2.2.2.1,s.2.2.2.2.2.2.2.2.2.2.1,s.2.2.2.2.2.2.2.2.2.2.2.1,s.2.2.2.2.2.2.2.2.2.2.2.2.1,s.2.2.2.2.2.2.2.2.2.2.2.2.2.1,s.2.2.2.2.2.2.2.2.2.2.2.2.2.2.1,s.2.2.2.2.2.2.2.2.2.2.2.2.2.2.2.1⟩)
def za(i:Nat)(a:i<3):gu 76 (PW i):=gQ gB Tryz.func76 (aCb i a)
end
section
variable(i:Nat)(C:aA)(d:H)
def K_:H:={d with ro:=0,ws:=(B:G hc)}
def PC:dr:=⟨[.fC 0 (33*i)],ck,e0,eN,cP λC=>⟨⟨none,[],cu (aO.set (2*i) 10) 1 (C.set i (K_ (C.d i)))⟩⟩⟩
def anM:cT:=⟨.eR true [] [.kill (2*i+1),.own (.h 0 (33*i+29)) du 10] (gJ i (aO.set (2*i) 10) 1 [] 0) (gF i (aO.set (2*i) 10)),[],[]++fT i (aO.set (2*i) 10),⟨[],[]⟩⟩
def ayS(i:Nat)(a:i<3):e8 Tryz.prog 47 (PC i) ck [] (cP λC=>⟨⟨none,[],cu (aO.set (2*i) 10) 1 (C.set i (K_ (C.d i)))⟩⟩) []:=by
 refine gC λC b=>eC (anM i) (.z) True (b1 10 a2 b0) Tryz.func47 [] ?_ ?_ trivial
 .rcases ca a with rfl|rfl|rfl<;>kernel_rfl
 .rcases ca a with rfl|rfl|rfl<;>kernel_rfl
def aBU(i:Nat)(a:i<3):gr 47 (PC i):=
 ayS i a
def r3(i:Nat)(a:i<3):gu 47 (PC i):=gQ gB Tryz.func47 (aBU i a)
def rq(A:Int)(d:H):H:={d with bd:=(dJ A (⟨0,0,8,d.ao,0,0,false,0,(B:G R),0,0,0,(B:G N),0,(B:G ar)⟩:aj) d).bd}
def PG:dr:=⟨[.fC 0 (33*i),.v a],ck,e0,eN,λ(A:Int)=>cP λC=>⟨⟨none,[],cu aO 0 (C.set i (rq A (C.d i)))⟩⟩⟩
def anN:cT:=⟨.eR true [] [] (gJ i aO 0 [] 0) (gF i aO),[],[]++fT i aO,⟨[],[]⟩⟩
def ayW(i:Nat)(a:i<3)(A:Int):e8 Tryz.prog 51 (PG i) ck [] (cP λC=>⟨⟨none,[],cu aO 0 (C.set i (rq A (C.d i)))⟩⟩) [b A]:=by
 refine gC λC c=>eC (anN i) (.z) True (b1 10 a2 (ay (za i a) b0)) Tryz.func51 [] ?_ ?_ trivial
 .rcases ca a with rfl|rfl|rfl<;>kernel_rfl
 .rcases ca a with rfl|rfl|rfl<;>kernel_rfl
def aBY(i:Nat)(b:i<3):gr 51 (PG i):=
 jR (bE:=[a]) λs c=>Eq.mp (by rcases ca b with rfl|rfl|rfl<;>kernel_rfl) (ayW i b s.1)
def qp(i:Nat)(a:i<3):gu 51 (PG i):=gQ gB Tryz.func51 (aBY i a)
def TV:Int:=(cond d.v0 1 0)
def TW:Int:=(cond d.v1 (i64 ((TV d)+1)) (TV d))
def ad5:Int:=(cond d.v2 (i64 ((TW d)+1)) (TW d))
def kq:Bool:=(decide ((ad5 d)>=2))
def PE:dr:=⟨[.fC 0 (33*i)],ck,e0,eN,cP λC=>⟨⟨none,[.bool (kq (C.d i))],cu aO 0 C⟩⟩⟩
def ZO:cT:=⟨.eR true [] [] (gJ i aO 0 [0] 1) (gF i aO),[.tmp 2],[(.t 0,K)]++fT i aO,⟨[],[]⟩⟩
def atf:cw (ZO i).cg:=let c:=C.d i;(.ae (.ae (.s (.ae (.un 3 (.s (.ae (.s (.c true .z) (.j ⟨15916,[],[(.t 3,a)],[],.f⟩ .z (.bs ⟨([U,U,.lit false,b (TV c),U,.bool c.v0,U,U,U,.agg [.bool c.v0,.bool c.v1,.bool c.v2],b 0,.bool true,.bool c.v0,.bool c.v0]++(us 5 ([]))),cy aO 0 C []⟩ .z)))) (.s (.ae (.s (.c true .z) (.j ⟨81452,[],[(.t 3,a)],[],.f⟩ .z (.bs ⟨[U,U,.lit false,b (TW c),U,.bool c.v1,U,U,U,.agg [.bool c.v0,.bool c.v1,.bool c.v2],b 1,.bool true,.bool c.v1,.bool c.v1,U,U,b 1,U,U],cy aO 0 C []⟩ .z)))) (.s (.ae (.s (.c true .z) (.j ⟨81452,[],[(.t 3,a)],[],.f⟩ .z (.bs ⟨[U,U,.lit false,b (ad5 c),U,.bool c.v2,U,U,U,.agg [.bool c.v0,.bool c.v1,.bool c.v2],b 2,.bool true,.bool c.v2,.bool c.v2,U,U,b 2,U,U],cy aO 0 C []⟩ .z)))) (.ae (.s (.c false .z) .z))))))) .z)))
def ayU(i:Nat)(a:i<3):e8 Tryz.prog 49 (PE i) ck [] (cP λC=>⟨⟨none,[.bool (kq (C.d i))],cu aO 0 C⟩⟩) []:=by
 refine gC λC b=>eC (ZO i) (atf i C) True (b1 10 a2 b0) Tryz.func49 [] ?_ ?_ trivial
 .rcases ca a with rfl|rfl|rfl<;>kernel_rfl
 .rcases ca a with rfl|rfl|rfl<;>kernel_rfl
def aBW(i:Nat)(a:i<3):gr 49 (PE i):=
 ayU i a
def t_(i:Nat)(a:i<3):gu 49 (PE i):=gQ gB Tryz.func49 (aBW i a)
def BD:Int:=(cond (decide ((d.li.n:Int)>0)) (imax (imax d.bs d.ep) (d.li.at' (toNat (i64 ((d.li.n:Int)-1)))).F) (imax d.bs d.ep))
def gV:Int:=(BD d)
def Pz:dr:=⟨[.fC 0 (33*i)],ck,e0,eN,cP λC=>⟨⟨none,[b (gV (C.d i))],cu aO 0 C⟩⟩⟩
def ZL:cT:=⟨.eR true [] [] (gJ i aO 0 [0] 1) (gF i aO),[.tmp 2],[(.t 0,a)]++fT i aO,⟨[],[]⟩⟩
def atc:cw (ZL i).cg:=(.ae (.ae (.j ⟨12,[],[(.t 3,a)],[],.f⟩ .z (.bs ⟨([U,U,b 0,b (BD (C.d i))]++(us 33 ([]))),cy aO 0 C []⟩ .z))))
def aif(i:Nat)(C:aA):Prop:=let a:=i64 (((C.d i).li.n:Int)-1);((decide (((C.d i).li.n:Int)>0))=true->((0:Int)<=a/\a<(((C.d i).li.n:Nat):Int)))
def aBb(i:Nat)(d:i<3)(C:aA)(c:eP C):aif i C:=by
 have b:=g4 c i d;unfold fS at b;exact((λa=>(by have:=an a;have:=E (((C.d i).li.n:Int)-1);omega)))
def ayP(i:Nat)(a:i<3):e8 Tryz.prog 44 (Pz i) ck [] (cP λC=>⟨⟨none,[b (gV (C.d i))],cu aO 0 C⟩⟩) []:=by
 refine gC λC c=>eC (ZL i) (atc i C) (aif i C) (b1 10 a2 b0) Tryz.func44 [] ?_ ?_ (aBb i a C c)
 .rcases ca a with rfl|rfl|rfl<;>kernel_rfl
 .rcases ca a with rfl|rfl|rfl<;>kernel_rfl
def aBR(i:Nat)(a:i<3):gr 44 (Pz i):=
 ayP i a
def agB(i:Nat)(a:i<3):gu 44 (Pz i):=gQ gB Tryz.func44 (aBR i a)
def vE:Int:=(cond (d.ro==2) 0 d.ro)
def arT:G hc:=(cond (d.ro==2) (K_ d).ws d.ws)
def jX:H:={d with ro:=(vE d),ws:=(arT d)}
def PJ:dr:=⟨[.fC 0 (33*i)],ck,e0,eN,cP λC=>⟨⟨none,[],cu (aO.set (2*i) 10) 1 (C.set i (jX (C.d i)))⟩⟩⟩
def anO:cT:=⟨.eR true [] [.own (.h 0 (33*i+29)) du 10] (gJ i (aO.set (2*i) 10) 1 [] 0) (gF i (aO.set (2*i) 10)),[],[]++fT i (aO.set (2*i) 10),⟨[],[]⟩⟩
def ayZ(i:Nat)(a:i<3):e8 Tryz.prog 54 (PJ i) ck [] (cP λC=>⟨⟨none,[],cu (aO.set (2*i) 10) 1 (C.set i (jX (C.d i)))⟩⟩) []:=by
 refine gC λC b=>eC (anO i) (.z) True (b1 10 a2 (ay (r3 i a) b0)) Tryz.func54 ([.l,.l,.l]++[.f]++List.replicate 89 .l++[.f]++List.replicate 8 .l) ?_ ?_ trivial
 .rcases ca a with rfl|rfl|rfl<;>kernel_rfl
 .rcases ca a with rfl|rfl|rfl<;>kernel_rfl
def aB1(i:Nat)(a:i<3):gr 54 (PJ i):=
 ayZ i a
def ud(i:Nat)(a:i<3):gu 54 (PJ i):=gQ gB Tryz.func54 (aB1 i a)
end
section
variable(i:Nat)(ms:aj)(d:H)
def Gb:G aj:=(cond (0 !=d.bf) (dJ 0 ms d).bd d.bd)
def yj:H:={(dJ 0 ms d)with bd:=(Gb ms d)}
def Gc:G aj:=(cond (1 !=d.bf) (dJ 1 ms (yj ms d)).bd (Gb ms d))
def yk:H:={(dJ 1 ms (yj ms d))with bd:=(Gc ms d)}
def T4:G aj:=(cond (2 !=d.bf) (dJ 2 ms (yk ms d)).bd (Gc ms d))
def ar3:H:={(dJ 2 ms (yk ms d))with bd:=(T4 ms d)}
def o4:H:={d with bd:=(T4 ms d)}
def PO:dr:=⟨[.fC 0 (33*i),.g [a,a,a,a,a,a,K,a,.ab dk,a,a,a,.ab bp,a,.ab bZ]],ck,e0,eN,λ(b:Int) (c:Int) (j:Int) (k:Int) (l:Int) (m:Int) n (o:Int) p (q:Int) (d:Int) (e:Int) f (g:Int) h=>cP λC=>⟨⟨none,[],cu aO 0 (C.set i (o4 (⟨b,c,j,k,l,m,n,o,p,q,d,e,f,g,h⟩:aj) (C.d i)))⟩⟩⟩
def ZV:cT:=⟨.eR true [] [] (gJ i aO 0 [] 0) (gF i aO),[],[]++fT i aO,⟨[],[]⟩⟩
def atm(C:aA):cw (ZV i).cg:=let a:=C.d i;(.ae (.ae (.un 3 (.s (.ae (.s (.c true .z) (.j ⟨16377,[],[(.h (2*i+2) 0,.ad cJ)],[],.f⟩ .z (.bs ⟨([.ptr 0 (33*i+0),U,U,.ptr 10 0,b 0,b 0,.bool true,b 0,b 0,.ptr 0 (33*i+0),.ptr 0 (33*i+0),.ptr 0 (33*i+0),b a.bf,.bool (0 !=a.bf)]++(us 5 ([]))),cy aO 1 (C.set i (yj ms a)) [(10,(iQ ms))]⟩ .z)))) (.s (.ae (.s (.c true .z) (.j ⟨278521,[],[(.h (2*i+2) 0,.ad cJ)],[],.f⟩ .z (.bs ⟨[.ptr 0 (33*i+0),U,U,.ptr 10 0,b 1,b 1,.bool true,b 1,b 1,.ptr 0 (33*i+0),.ptr 0 (33*i+0),.ptr 0 (33*i+0),b a.bf,.bool (1 !=a.bf),U,U,U,U,b 1],cy aO 1 (C.set i (yk ms a)) [(10,(iQ ms))]⟩ .z)))) (.s (.ae (.s (.c true .z) (.j ⟨278521,[],[(.h (2*i+2) 0,.ad cJ)],[],.f⟩ .z (.bs ⟨[.ptr 0 (33*i+0),U,U,.ptr 10 0,b 2,b 2,.bool true,b 2,b 2,.ptr 0 (33*i+0),.ptr 0 (33*i+0),.ptr 0 (33*i+0),b a.bf,.bool (2 !=a.bf),U,U,U,U,b 2],cy aO 1 (C.set i (ar3 ms a)) [(10,(iQ ms))]⟩ .z)))) (.ae (.s (.c false .z) .z))))))))
def ay3(i:Nat)(a:i<3)(ms:aj):e8 Tryz.prog 59 (PO i) ck [] (cP λC=>⟨⟨none,[],cu aO 0 (C.set i (o4 ms (C.d i)))⟩⟩) (iQ ms):=by
 refine gC λC b=>eC (ZV i) (atm i ms C) True (b1 10 a2 (ay (za i a) b0)) Tryz.func59 [] ?_ ?_ trivial
 .rcases ca a with rfl|rfl|rfl<;>kernel_rfl
 .rcases ca a with rfl|rfl|rfl<;>kernel_rfl
def aB5(i:Nat)(b:i<3):gr 59 (PO i):=
 jR (bE:=[a,a,a,a,a,a,K,a,.ab dk,a,a,a,.ab bp,a,.ab bZ]) λs c=>Eq.mp (by rcases ca b with rfl|rfl|rfl<;>kernel_rfl) (ay3 i b ⟨s.1,s.2.1,s.2.2.1,s.2.2.2.1,s.2.2.2.2.1,s.2.2.2.2.2.1,s.2.2.2.2.2.2.1,s.2.2.2.2.2.2.2.1,s.2.2.2.2.2.2.2.2.1,s.2.2.2.2.2.2.2.2.2.1,s.2.2.2.2.2.2.2.2.2.2.1,s.2.2.2.2.2.2.2.2.2.2.2.1,s.2.2.2.2.2.2.2.2.2.2.2.2.1,s.2.2.2.2.2.2.2.2.2.2.2.2.2.1,s.2.2.2.2.2.2.2.2.2.2.2.2.2.2.1⟩)
def agD(i:Nat)(a:i<3):gu 59 (PO i):=gQ gB Tryz.func59 (aB5 i a)
end
section
variable(i:Nat)(d:H)
def BL:G aj:=(cond (0==d.bf) d.bd (cond (decide ((i64 (d.dO-1))<d.j)) (dJ 0 (⟨0,0,7,d.ao,0,0,false,0,(B:G R),d.bR,d.eU,d.fI,d.fi,d.gK,d.fh⟩:aj) d).bd (dJ 0 (⟨0,0,5,d.ao,(i64 (d.dO-1)),(hS d.j d.lt d.li (i64 (d.dO-1))),false,d.co,(kt d.j d.lt d.li (i64 (d.dO-1)) 8),0,0,0,(B:G N),0,(B:G ar)⟩:aj) d).bd))
def tt:H:=let a:=i64 (d.dO-1);{(dJ 0 (⟨0,0,5,d.ao,a,(hS d.j d.lt d.li a),false,d.co,(kt d.j d.lt d.li a 8),0,0,0,(B:G N),0,(B:G ar)⟩:aj) d)with bd:=(BL d)}
def BM:G aj:=(cond (1==d.bf) (BL d) (cond (decide ((i64 (d.dD-1))<d.j)) (dJ 1 (⟨0,0,7,d.ao,0,0,false,0,(B:G R),d.bR,d.eU,d.fI,d.fi,d.gK,d.fh⟩:aj) (tt d)).bd (dJ 1 (⟨0,0,5,d.ao,(i64 (d.dD-1)),(hS d.j d.lt d.li (i64 (d.dD-1))),false,d.co,(kt d.j d.lt d.li (i64 (d.dD-1)) 8),0,0,0,(B:G N),0,(B:G ar)⟩:aj) (tt d)).bd))
def tu:H:=let a:=i64 (d.dD-1);{(dJ 1 (⟨0,0,5,d.ao,a,(hS d.j d.lt d.li a),false,d.co,(kt d.j d.lt d.li a 8),0,0,0,(B:G N),0,(B:G ar)⟩:aj) (tt d))with bd:=(BM d)}
def yl:G aj:=(cond (2==d.bf) (BM d) (cond (decide ((i64 (d.dG-1))<d.j)) (dJ 2 (⟨0,0,7,d.ao,0,0,false,0,(B:G R),d.bR,d.eU,d.fI,d.fi,d.gK,d.fh⟩:aj) (tu d)).bd (dJ 2 (⟨0,0,5,d.ao,(i64 (d.dG-1)),(hS d.j d.lt d.li (i64 (d.dG-1))),false,d.co,(kt d.j d.lt d.li (i64 (d.dG-1)) 8),0,0,0,(B:G N),0,(B:G ar)⟩:aj) (tu d)).bd))
def ar4:H:=let a:=i64 (d.dG-1);{(dJ 2 (⟨0,0,5,d.ao,a,(hS d.j d.lt d.li a),false,d.co,(kt d.j d.lt d.li a 8),0,0,0,(B:G N),0,(B:G ar)⟩:aj) (tu d))with bd:=(yl d)}
def p8:H:={d with bd:=(yl d)}
def PQ:dr:=⟨[.fC 0 (33*i)],ck,e0,eN,cP λC=>let a:=C.d i;⟨⟨some (0<=a.dO/\a.dO<=4194304/\0<=a.dD/\a.dD<=4194304/\0<=a.dG/\a.dG<=4194304),[],cu aO 0 (C.set i (p8 a))⟩⟩⟩
def ZW:cT:=⟨.eR true [] [] (gJ i aO 0 [] 0) (gF i aO),[],[]++fT i aO,⟨[],[]⟩⟩
def atn(C:aA):cw (ZW i).cg:=let a:=C.d i;let e:=i64 (a.dG-1);let d:=i64 (a.dD-1);let c:=i64 (a.dO-1);(.ae (.un 3 (.s (.ae (.s (.c true .z) (.j ⟨130821,[],[(.h (2*i+2) 0,.ad cJ)],[],.f⟩ (.ae (.ae (.ae (.s (.ae (.s (.s (.mw [(0,(33*i+4)),(0,(33*i+9)),(0,(33*i+10)),(0,(33*i+11)),(0,(33*i+12)),(0,(33*i+13)),(0,(33*i+14))]) (.bs ⟨([.ptr 0 (33*i+0),U,b 0,b c,U,U,U,U,b 0,.bool true,b 0,b 0,.ptr 0 (33*i+0),.ptr 0 (33*i+0),.ptr 0 (33*i+0),b a.bf,.bool (0==a.bf),.ptr 0 (33*i+0),b 0,.ptr 0 (33*i+0),.ptr 0 (33*i+23),.ptr 0 (33*i+23),b a.dO,b c,b c,.ptr 0 (33*i+0),.ptr 0 (33*i+0),.ptr 0 (33*i+6),.ptr 0 (33*i+6),b a.j,.bool (decide (c<a.j)),.ptr 0 (33*i+0),b 0,.ptr 0 (33*i+0),.ptr 0 (33*i+0),.ptr 0 (33*i+4),b a.ao,.ptr 0 (33*i+0),.ptr 0 (33*i+0),.ptr 0 (33*i+9),.agg [b a.bR,b a.eU,b a.fI,aP 8 gU a.fi,b a.gK,aP 7 hi a.fh],.agg [b 0,b 0,b 7,b a.ao,b 0,b 0,.bool false,b 0,.aG,b a.bR,b a.eU,b a.fI,aP 8 gU a.fi,b a.gK,aP 7 hi a.fh]]++(us 35 ([]))),cy aO 0 (C.set i (dJ 0 (⟨0,0,7,a.ao,0,0,false,0,(B:G R),a.bR,a.eU,a.fI,a.fi,a.gK,a.fh⟩:aj) a)) []⟩ .z)) .z)) (.ae (.ae (.mw [(0,(33*i+4)),(0,(33*i+19))]))))))) (.bs ⟨([.ptr 0 (33*i+0),U,b 0]++(us 5 (([b 0,.bool true,b 0,b 0,.ptr 0 (33*i+0),.ptr 0 (33*i+0),.ptr 0 (33*i+0),b a.bf,.bool (0==a.bf)]++(us 60 ([])))))),cy aO 0 (C.set i (tt a)) []⟩ .z)))) (.s (.ae (.s (.c true .z) (.j ⟨75557863725914323549957,[],[(.h (2*i+2) 0,.ad cJ)],[],.f⟩ (.ae (.ae (.ae (.s (.ae (.s (.s (.mw [(0,(33*i+4)),(0,(33*i+9)),(0,(33*i+10)),(0,(33*i+11)),(0,(33*i+12)),(0,(33*i+13)),(0,(33*i+14))]) (.bs ⟨([.ptr 0 (33*i+0),U,b 1,b d,U,U,U,U,b 1,.bool true,b 1,b 1,.ptr 0 (33*i+0),.ptr 0 (33*i+0),.ptr 0 (33*i+0),b a.bf,.bool (1==a.bf),.ptr 0 (33*i+0),b 1,.ptr 0 (33*i+0),.ptr 0 (33*i+23),.ptr 0 (33*i+24),b a.dD,b d,b d,.ptr 0 (33*i+0),.ptr 0 (33*i+0),.ptr 0 (33*i+6),.ptr 0 (33*i+6),b a.j,.bool (decide (d<a.j)),.ptr 0 (33*i+0),b 1,.ptr 0 (33*i+0),.ptr 0 (33*i+0),.ptr 0 (33*i+4),b a.ao,.ptr 0 (33*i+0),.ptr 0 (33*i+0),.ptr 0 (33*i+9),.agg [b a.bR,b a.eU,b a.fI,aP 8 gU a.fi,b a.gK,aP 7 hi a.fh],.agg [b 0,b 0,b 7,b a.ao,b 0,b 0,.bool false,b 0,.aG,b a.bR,b a.eU,b a.fI,aP 8 gU a.fi,b a.gK,aP 7 hi a.fh]]++(us 34 ([b 1]))),cy aO 0 (C.set i (dJ 1 (⟨0,0,7,a.ao,0,0,false,0,(B:G R),a.bR,a.eU,a.fI,a.fi,a.gK,a.fh⟩:aj) (tt a))) []⟩ .z)) .z)) (.ae (.ae (.mw [(0,(33*i+4)),(0,(33*i+19))]))))))) (.bs ⟨([.ptr 0 (33*i+0),U,b 1]++(us 5 (([b 1,.bool true,b 1,b 1,.ptr 0 (33*i+0),.ptr 0 (33*i+0),.ptr 0 (33*i+0),b a.bf,.bool (1==a.bf)]++(us 59 ([b 1])))))),cy aO 0 (C.set i (tu a)) []⟩ .z)))) (.s (.ae (.s (.c true .z) (.j ⟨75557863725914323549957,[],[(.h (2*i+2) 0,.ad cJ)],[],.f⟩ (.ae (.ae (.ae (.s (.ae (.s (.s (.mw [(0,(33*i+4)),(0,(33*i+9)),(0,(33*i+10)),(0,(33*i+11)),(0,(33*i+12)),(0,(33*i+13)),(0,(33*i+14))]) (.bs ⟨([.ptr 0 (33*i+0),U,b 2,b e,U,U,U,U,b 2,.bool true,b 2,b 2,.ptr 0 (33*i+0),.ptr 0 (33*i+0),.ptr 0 (33*i+0),b a.bf,.bool (2==a.bf),.ptr 0 (33*i+0),b 2,.ptr 0 (33*i+0),.ptr 0 (33*i+23),.ptr 0 (33*i+25),b a.dG,b e,b e,.ptr 0 (33*i+0),.ptr 0 (33*i+0),.ptr 0 (33*i+6),.ptr 0 (33*i+6),b a.j,.bool (decide (e<a.j)),.ptr 0 (33*i+0),b 2,.ptr 0 (33*i+0),.ptr 0 (33*i+0),.ptr 0 (33*i+4),b a.ao,.ptr 0 (33*i+0),.ptr 0 (33*i+0),.ptr 0 (33*i+9),.agg [b a.bR,b a.eU,b a.fI,aP 8 gU a.fi,b a.gK,aP 7 hi a.fh],.agg [b 0,b 0,b 7,b a.ao,b 0,b 0,.bool false,b 0,.aG,b a.bR,b a.eU,b a.fI,aP 8 gU a.fi,b a.gK,aP 7 hi a.fh]]++(us 34 ([b 2]))),cy aO 0 (C.set i (dJ 2 (⟨0,0,7,a.ao,0,0,false,0,(B:G R),a.bR,a.eU,a.fI,a.fi,a.gK,a.fh⟩:aj) (tu a))) []⟩ .z)) .z)) (.ae (.ae (.mw [(0,(33*i+4)),(0,(33*i+19))]))))))) (.bs ⟨([.ptr 0 (33*i+0),U,b 2]++(us 5 (([b 2,.bool true,b 2,b 2,.ptr 0 (33*i+0),.ptr 0 (33*i+0),.ptr 0 (33*i+0),b a.bf,.bool (2==a.bf)]++(us 59 ([b 2])))))),cy aO 0 (C.set i (ar4 a)) []⟩ .z)))) (.ae (.s (.c false .z) .z)))))))
def XN(i:Nat)(C:aA):Prop:=(((0==(C.d i).bf)=false->((decide ((i64 ((C.d i).dO-1))<(C.d i).j))=false->((i64 ((C.d i).dO-1))<=9223372036854775807/\ -9223372036854775808<=(i64 ((C.d i).dO-1))/\(8:Int)<=9223372036854775807/\ -9223372036854775808<=(8:Int))))/\(((1==(C.d i).bf)=false->((decide ((i64 ((C.d i).dD-1))<(C.d i).j))=false->((i64 ((C.d i).dD-1))<=9223372036854775807/\ -9223372036854775808<=(i64 ((C.d i).dD-1))/\(8:Int)<=9223372036854775807/\ -9223372036854775808<=(8:Int))))/\((2==(C.d i).bf)=false->((decide ((i64 ((C.d i).dG-1))<(C.d i).j))=false->((i64 ((C.d i).dG-1))<=9223372036854775807/\ -9223372036854775808<=(i64 ((C.d i).dG-1))/\(8:Int)<=9223372036854775807/\ -9223372036854775808<=(8:Int))))))
def aBi(i:Nat)(c:i<3)(C:aA)(b:eP C)(d:0<=(C.d i).dO/\(C.d i).dO<=4194304/\0<=(C.d i).dD/\(C.d i).dD<=4194304/\0<=(C.d i).dG/\(C.d i).dG<=4194304):XN i C:=by
 have a:=g4 b i c;unfold fS at a;unfold XN;exact have⟨l,m,n,o,p,q⟩:=d;(⟨(λe=>(λf=>(by have:=E ((C.d i).dO-1);omega))),⟨(λg=>(λh=>(by have:=E ((C.d i).dD-1);omega))),(λj=>(λk=>(by have:=E ((C.d i).dG-1);omega)))⟩⟩)
def ay4(i:Nat)(a:i<3):e8 Tryz.prog 60 (PQ i) ck [] (cP λC=>⟨⟨some (0<=(C.d i).dO/\(C.d i).dO<=4194304/\0<=(C.d i).dD/\(C.d i).dD<=4194304/\0<=(C.d i).dG/\(C.d i).dG<=4194304),[],cu aO 0 (C.set i (p8 (C.d i)))⟩⟩) []:=by
 refine gC λC b=>λc=>eC (ZW i) (atn i C) (XN i C) (b1 10 (aJ Nh (aJ ayk a2)) (ay (za i a) b0)) Tryz.func60 [] ?_ ?_ (aBi i a C b c)
 .rcases ca a with rfl|rfl|rfl<;>kernel_rfl
 .rcases ca a with rfl|rfl|rfl<;>kernel_rfl
def aB6(i:Nat)(a:i<3):gr 60 (PQ i):=
 ay4 i a
def agE(i:Nat)(a:i<3):gu 60 (PQ i):=gQ gB Tryz.func60 (aB6 i a)
end
def aei:Int:=0
def aej:G N:=(B:G N)
def aek:Int:=1
def ael:G ar:=(B:G ar)
def Zs:bq:=⟨[],⟨⟨none,.agg [b aei,aP 8 gU aej,b aek,aP 7 hi ael]⟩⟩⟩
def aCe:IG 28 Zs:=
 bD ⟨.pure,[.cell 0 49],[(.c 0 0,a),(.c 0 1,.ab bp),(.c 0 2,a),(.c 0 3,.ab bZ)],⟨[.agg (us 4 [])],[]⟩⟩ (.z) True fx Tryz.func28 (trivial)
def ax1:bx 28 Zs:=bA Tryz.func28 aCe
def Gm:Int:=0
def Gn:Int:=(-1)
def yu:Int:=0
def Gp:Int:=0
def vN:Int:=aei
def vO:G N:=aej
def vP:Int:=aek
def vQ:G ar:=ael
def yv:Int:=0
def yw:Int:=0
def yt:G R:=(B:G R)
def Zt:bq:=⟨[],⟨⟨none,.agg [b Gm,b Gn,b yu,b Gp,b vN,aP 8 gU vO,b vP,aP 7 hi vQ,b yv,b yw,aP 10 eo yt]⟩⟩⟩
def aCf:IG 17 Zt:=
 bD ⟨.pure,[.cell 0 87],[(.c 0 0,a),(.c 0 1,a),(.c 0 2,a),(.c 0 3,a),(.c 0 4,a),(.c 0 5,.ab bp),(.c 0 6,a),(.c 0 7,.ab bZ),(.c 0 8,a),(.c 0 9,a),(.c 0 10,.ab dk)],⟨[.agg (us 11 [])],[]⟩⟩ (.z) True (ct (aJ ax1 a2)) Tryz.func17 (trivial)
def agH:bx 17 Zt:=bA Tryz.func17 aCf
def ao_{A g:Int}{r:Bool}{h o c:Int}{v y p:u}{x:Int}(a:(tA A g r h o c v y p x !=0)=false):0<=g:=by
 have a:=bK a;unfold tA at a
 cases b:yG A g with
 |true=>rw[b]at a;simp at a
 |false=>
  simp [yG,s7,kl,EP]at b;omega
def loops(g:Int)(r:G R)(y:r.n<=549755813888): ∀(m k:Nat) (i t u:Int),0<=i->i+(m:Int)=r.n->m<=k->(i=0->t=g/\u=0)->(0<i->t=(r.at' (toNat (i-1))).q/\u=(r.at' (toNat (i-1))).F/\g<=t)->
  qc r (k+1) t u i=tB g r (k+1) i
 |0,k,i,t,u,j,v,x,_,_=>by
  have e:decide (i<(r.n:Int))=false:=by simp;omega
  simp only[qc,tB,e,aX]
 |m+1,k,i,t,u,j,v,x,A,z=>by
  obtain⟨k,rfl⟩: ∃B,k=B+1:=⟨k-1,Ω⟩;have e:decide (i<(r.n:Int))=true:=by simp;omega
  have C:i64 (i+1)=i+1:=E _;have D:i64 (i-1)=i-1:=E _;rw[qc,tB,e];simp only[aR];have p:vS r t u i=(cond (mZ g r i) true (oa r i)):=by
   simp only[vS,mZ,oa,asn,D]
   cases s:(tA (r.at' i.toNat).q (r.at' i.toNat).F (r.at' i.toNat).z (r.at' i.toNat).M (r.at' i.toNat).w (r.at' i.toNat).C (r.at' i.toNat).P (r.at' i.toNat).aw (r.at' i.toNat).f (r.at' i.toNat).aD !=0)with
   |true=>rfl
   |false=>
    have F:=ao_ s;simp only[aX]
    by_cases w:i=0
    .obtain⟨rfl,rfl⟩:=A w;have d:decide (i>0)=false:=by simp;omega
     rw[d];have o: ¬(r.at' i.toNat).F<0:=by omega
     by_cases c:(r.at' i.toNat).q<t<;>simp [c,o]
    .obtain⟨l,n,f⟩:=z Ω;have d:decide (i>0)=true:=by simp;omega
     rw[d,<-l,<-n];simp only[aR]
     by_cases c:(r.at' i.toNat).q<t<;>by_cases q:(r.at' i.toNat).q<g<;>simp [c,q]<;>omega
  rw[p]
  cases a:mZ g r i with
  |true=>rfl
  |false=>
   simp only[aX]
   cases H:oa r i with
   |true=>rfl
   |false=>
    simp only[aX];rw[C];have f:g<=(r.at' i.toNat).q:=by
     simp only[mZ]at a;generalize (tA _ _ _ _ _ _ _ _ _ _ !=0)=b at a
     cases b with
     |true=>cases a
     |false=>
      have:=hX a;omega
    refine loops g r y m k (i+1) _ _ Ω Ω Ω (λh=>by omega) λ_=> ?_;rw[show i+1-1=i by omega];exact⟨rfl,rfl,f⟩
def aeI(A g:Int)(r:G R)(m:r.n<=549755813888)(o: -9223372036854775808<=A/\A<=9223372036854775807):cE A g r=vT A g r:=by
 have n:B7 g r=B8 g r:=loops g r m r.n _ 0 g 0 (aZ _) Ω Ω (λ_=>⟨rfl,rfl⟩) (λh=>by omega);have l:o8 A g r=vU A g r:=by
  simp only[o8,vU,kl,EP]
  by_cases a:A<0
  .have i: ¬0<=A:=by omega
   simp [a,i]
  .have i:0<=A:=by omega
   by_cases b:g<0
   .have b': ¬0<=g:=by omega
    simp [a,i,b,b']
   .have b':0<=g:=by omega
    by_cases c:g>1048576
    .have j: ¬g<=1048576:=by omega
     simp [a,b,c,j,i,b']
    .have j:g<=1048576:=by omega
     by_cases d:(r.n:Int)>200
     .simp [a,i,b,b',c,j,d]
     .rw[E (1048576- (r.n:Int))]
      by_cases e:A<=1048576
      .rw[E (A+(r.n:Int))]
       by_cases f:A>1048576- (r.n:Int)
       .have k:A+(r.n:Int)>1048576:=by omega
        simp [a,i,b,b',c,j,d,e,f,k]
       .have k: ¬A+(r.n:Int)>1048576:=by omega
        simp [a,i,b,b',c,j,d,e,f,k]
      .have f:A>1048576- (r.n:Int):=by omega
       simp [a,i,b,b',c,j,d,e,f]
 simp only[cE,vT,LY,LZ,l,n]
section
variable(A:Int)(g:Int)(r:Int)(h:Int)(o:Int)(c:Int)(v:u)(y:u)(p:u)(x:Int)
def acM:Bool:=(cond (A==6) (A==6) (cond (A==7) (A==7) (A==8)))
def acN:Bool:=(cond (A==5) (A==5) (A==9))
def mS:Bool:=(cond (acM A) false (cond (acN A) true (cond (A==12) false true)))
def mT:Bool:=(cond (acM A) true (cond (acN A) true false))
def ak6:bq:=⟨[.v a],λA=>⟨⟨none,.dp [.bool (mS A),.bool (mT A)]⟩⟩⟩
theorem awE:bx 26 ak6:=bA Tryz.func26
 λ(A:Int)=>bD (ms:=[.f,(.b .f (.b .f .l))]) ⟨.pure,[.tmp 2,.tmp 3],[(.t 0,K),(.t 1,K)],⟨[U,U],[]⟩⟩ (.ae (.s (.ae (.j ⟨60,[],[(.t 5,K)],[],.f⟩ .z (.ae (.j ⟨540,[],[(.t 9,K)],[],.f⟩ .z .z)))) .z)) True fx Tryz.func26 (trivial)
def Gz:Bool:=(cond (decide (A<1)) true (decide (A>12)))
def B9:Bool:=(cond (mS A) (cond (decide (g<0)) true (cond (decide (g>=3)) true (cond (mT A) (cond (decide (r<0)) true (decide (r>400000))) false))) (cond (mT A) (cond (decide (r<0)) true (decide (r>400000))) false))
def yH:Bool:=(cond (!(mS A)) (cond (g !=0) true (cond (!(mT A)) (cond (r !=0) true (cond (A !=1) (!((h==0)&&((o==0)&&((c==0)&&(((v:u).toList==(⟨#[]⟩:u).toList)&&(((y:u).toList==(⟨#[]⟩:u).toList)&&(((p:u).toList==(⟨#[]⟩:u).toList)&&((x==0)&&true)))))))) false)) (cond (A !=1) (!((h==0)&&((o==0)&&((c==0)&&(((v:u).toList==(⟨#[]⟩:u).toList)&&(((y:u).toList==(⟨#[]⟩:u).toList)&&(((p:u).toList==(⟨#[]⟩:u).toList)&&((x==0)&&true)))))))) false))) (cond (!(mT A)) (cond (r !=0) true (cond (A !=1) (!((h==0)&&((o==0)&&((c==0)&&(((v:u).toList==(⟨#[]⟩:u).toList)&&(((y:u).toList==(⟨#[]⟩:u).toList)&&(((p:u).toList==(⟨#[]⟩:u).toList)&&((x==0)&&true)))))))) false)) (cond (A !=1) (!((h==0)&&((o==0)&&((c==0)&&(((v:u).toList==(⟨#[]⟩:u).toList)&&(((y:u).toList==(⟨#[]⟩:u).toList)&&(((p:u).toList==(⟨#[]⟩:u).toList)&&((x==0)&&true)))))))) false)))
def o9:Int:=(cond (Gz A) 3 (cond (B9 A g r) 2 (cond (yH A g r h o c v y p x) 8 (cond (A==1) (g3 h o c v y p x) 0))))
def ank:bq:=⟨[.g [a,a,a,a,a,a,al,al,al,a]],λA g r h o c v y p x=>⟨⟨none,b (o9 A g r h o c v y p x)⟩⟩⟩
theorem ayj:bx 15 ank:=bA Tryz.func15
 λ(A:Int) (g:Int) (r:Int) (h:Int) (o:Int) (c:Int) v _ y _ p _ (x:Int)=>bD ⟨.pure,[.tmp 2],[(.t 0,a)],⟨[U],[]⟩⟩ (.ae (.s (.j ⟨4102,[],[(.t 12,K)],[],.f⟩ .z .z) (.ae (.s (.j ⟨524318,[],[(.t 19,K)],[],.f⟩ .z (.ae (.j ⟨17592186044422,[],[(.t 44,K)],[],.f⟩ .z .z))) .z)))) True (ct (aJ V8 (aJ awE a2))) Tryz.func15 (trivial)
end
section
def xY(A:Int):Int:=A
def TG:Bool:=false
def FN:Int:=0
def x8:Int:=0
def FQ(g:Int):Int:=g
def FR(r:Int):Int:=r
def FT(x:Int):Int:=x
def FU(ai:Int):Int:=ai
def FV(bn:G R):G R:=bn
variable(h:Int)(c:Int)(v:G N)(y:Int)(p:G ar)
def FW:Int:=h
def FD(o:Int):Int:=o
def FE:Int:=c
def FF:G N:=v
def FG:Int:=y
def FH:G ar:=p
def FI:Int:=c
def FJ:G N:=v
def FK:Int:=y
def FL:G ar:=p
def FM:Int:=h
def xZ:Bool:=false
def x0:Bool:=false
def x1:Bool:=false
def x2:Int:=0
def x3:Int:=0
def x4:Int:=0
def x5:Int:=0
def x6:Int:=0
def x7:Int:=0
def FO:G Int:=(B:G Int)
def FP:Int:=0
def amJ:bq:=⟨[.v a,.g [a,a,a,a,a,.ab bp,a,.ab bZ,a,a,.ab dk]],λA g r h o c v y p x ai bn=>⟨⟨none,.agg [b (xY A),.bool TG,b FN,b x8,b (FQ g),b (FR r),b (FT x),b (FU ai),aP 10 eo (FV bn),b (FW h),b (FD o),b (FE c),aP 8 gU (FF v),b (FG y),aP 7 hi (FH p),b (FI c),aP 8 gU (FJ v),b (FK y),aP 7 hi (FL p),b (FM h),.bool xZ,.bool x0,.bool x1,b x2,b x3,b x4,b x5,b x6,b x7,.aG,aP 1 cZ FO,b FP,.aG]⟩⟩⟩
theorem agw:bx 16 amJ:=bA Tryz.func16
 λ(A:Int) (g:Int) (r:Int) (h:Int) (o:Int) (c:Int) v _ _ (y:Int) p _ _ (x:Int) (ai:Int) bn _ _=>bD ⟨.pure,[.cell 4 81],[(.c 0 0,a),(.c 0 1,K),(.c 0 2,a),(.c 0 3,a),(.c 0 4,a),(.c 0 5,a),(.c 0 6,a),(.c 0 7,a),(.c 0 8,.ab dk),(.c 0 9,a),(.c 0 10,a),(.c 0 11,a),(.c 0 12,.ab bp),(.c 0 13,a),(.c 0 14,.ab bZ),(.c 0 15,a),(.c 0 16,.ab bp),(.c 0 17,a),(.c 0 18,.ab bZ),(.c 0 19,a),(.c 0 20,K),(.c 0 21,K),(.c 0 22,K),(.c 0 23,a),(.c 0 24,a),(.c 0 25,a),(.c 0 26,a),(.c 0 27,a),(.c 0 28,a),(.c 0 30,.ab bo),(.c 0 31,a)],⟨[.agg [U,U,U,U,U,U,U,U,U,U,U,U,U,U,U,U,U,U,U,U,U,U,U,U,U,U,U,U,U,.aG,U,U,.aG]],[]⟩⟩ (.z) True fx Tryz.func16 (trivial)
end
end Go.Proofs.YtadmdaokcgjdiaaGreatDoor
namespace Go.Proofs.YtadmdaokcgjdiaaGreatDoor
open Go Go.Proofs Go.RowKit Go.Shelf Go.af
abbrev amN:cf:=xn cJ
def agy:ju Tryz.prog 30 amN.hd:=AF (E:=cJ) (z:=(.agg #[.int .i64 0,.int .i64 0,.int .i64 0,.int .i64 0,.int .i64 0,.int .i64 0,.bool false,.int .i64 0,.slice none 0 0,.int .i64 0,.int .i64 0,.int .i64 0,.slice none 0 0,.int .i64 0,.slice none 0 0])) (AE (ρ:=AD 30 79 107) (b:=168) mixed ⟨ "slices.Delete[[]rostrum/api.Message,rostrum/api.Message]",Ξ,Ξ⟩ Ξ Ξ) ⟨_,_,Tryz.func30,rfl,Ξ⟩ (sn rfl Ξ)
end Go.Proofs.YtadmdaokcgjdiaaGreatDoor
namespace Go.Proofs.YtadmdaokcgjdiaaGreatDoor
open Go Go.RowKit Go.af
def rn(A:Int)(r:Int):Int:=(i64 (A-r))
def amL:bq:=⟨[.g [a,a],.g [a,a]],λA _ r _=>⟨⟨none,b (rn A r)⟩⟩⟩
def agx:bx 21 amL:=bA Tryz.func21
 λ(A:Int) (g:Int) (r:Int) (h:Int)=>bD ⟨.pure,[.tmp 4],[(.t 0,a)],⟨[U],[]⟩⟩ (.z) True fx Tryz.func21 (trivial)
def G.AA{α:Type}{s:G α}{n:Nat}(h:s.n=n):G.cut s n=s:=by subst h;rfl
def half{x:Int}(a:0<=x)(b:x<=4611686018427387904):i64 (u64 (i64 x)/2^(toNat 1))=x/2:=by
 have e:(2:Int)^(toNat 1)=2:=rfl;rw[e,E x];have u:u64 x=x%18446744073709551616:=rfl;rw[u,E (x%18446744073709551616/2)];omega
end Go.Proofs.YtadmdaokcgjdiaaGreatDoor
