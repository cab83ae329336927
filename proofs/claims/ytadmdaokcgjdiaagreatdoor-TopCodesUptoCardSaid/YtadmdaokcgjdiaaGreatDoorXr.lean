import Derived.Test.YtadmdaokcgjdiaaGreatDoorXn
open Go.IntKind (i64 u64 u8)
open Int (toNat)
set_option maxRecDepth 100000
set_option maxHeartbeats 4000000
set_option linter.all false
noncomputable section
namespace Go.Proofs.YtadmdaokcgjdiaaGreatDoor
open Go Go.RowKit Go.af
section
variable(i:Nat)(ms:aj)(d:H)
def ru:Int:=(cond (decide (ms.aD>d.co)) (vX d.j d.lt d.li ms.aD ms.bX ms.b_ ms.b2 ms.cm ms.bb) d.j)
def BJ:Int:=(cond (decide (ms.aD>d.co)) (UI d.j d.lt d.li ms.aD ms.bX ms.b_ ms.b2 ms.cm ms.bb) d.lt)
def ry:G R:=(cond (decide (ms.aD>d.co)) (vY d.j d.lt d.li ms.aD ms.bX ms.b_ ms.b2 ms.cm ms.bb) d.li)
def rz:Int:=(cond (decide (ms.aD>d.co)) ms.aD d.bR)
def arY:Int:=(cond (decide (ms.aD>d.co)) ms.bX d.eU)
def arZ:Int:=(cond (decide (ms.aD>d.co)) ms.b_ d.fI)
def ar0:G N:=(cond (decide (ms.aD>d.co)) ms.b2 d.fi)
def ar1:Int:=(cond (decide (ms.aD>d.co)) ms.cm d.gK)
def ar2:G ar:=(cond (decide (ms.aD>d.co)) ms.bb d.fh)
def arU:Int:=(cond (decide (ms.aD>d.co)) ms.b_ d.ep)
def arV:G N:=(cond (decide (ms.aD>d.co)) ms.b2 d.dn)
def arW:Int:=(cond (decide (ms.aD>d.co)) ms.cm d.e1)
def arX:G ar:=(cond (decide (ms.aD>d.co)) ms.bb d.er)
def F8:Int:=(cond (decide (ms.aD>d.co)) ms.aD d.co)
def rv:G Int:=(cond (decide (ms.aD>d.co)) (fO (⟨3,0,0,0,0,0,false,0,0,0,⟨#[]⟩,⟨#[]⟩,⟨#[]⟩,0,ms.aD,ms.bX,ms.b_,ms.b2,ms.cm,ms.bb⟩:bm) d).a_ d.a_)
def BI:Int:=(cond (decide (ms.aD>d.co)) (fO (⟨3,0,0,0,0,0,false,0,0,0,⟨#[]⟩,⟨#[]⟩,⟨#[]⟩,0,ms.aD,ms.bX,ms.b_,ms.b2,ms.cm,ms.bb⟩:bm) d).br d.br)
def tr:Bool:=(cond (decide (ms.aD>d.co)) (cond (!(gn (⟨3,0,0,0,0,0,false,0,0,0,⟨#[]⟩,⟨#[]⟩,⟨#[]⟩,0,ms.aD,ms.bX,ms.b_,ms.b2,ms.cm,ms.bb⟩:bm) d)) false true) true)
def mj:H:={d with j:=(ru ms d),lt:=(BJ ms d),li:=(ry ms d),bR:=(rz ms d),eU:=(arY ms d),fI:=(arZ ms d),fi:=(ar0 ms d),gK:=(ar1 ms d),fh:=(ar2 ms d),ep:=(arU ms d),dn:=(arV ms d),e1:=(arW ms d),er:=(arX ms d),co:=(F8 ms d),a_:=(rv ms d),br:=(BI ms d)}
def k6:H:=(H.bif (tr ms d) (dJ ms.q (⟨0,0,6,d.ao,ms.aD,0,true,0,(B:G R),0,0,0,(B:G N),0,(B:G ar)⟩:aj) (mj ms d)) (fO (⟨3,0,0,0,0,0,false,0,0,0,⟨#[]⟩,⟨#[]⟩,⟨#[]⟩,0,ms.aD,ms.bX,ms.b_,ms.b2,ms.cm,ms.bb⟩:bm) d))
def PL:dr:=⟨[.fC 0 (33*i),.g [a,a,a,a,a,a,K,a,.ab dk,a,a,a,.ab bp,a,.ab bZ]],ck,e0,eN,λ(b:Int) (c:Int) (j:Int) (k:Int) (l:Int) (m:Int) n (o:Int) p (q:Int) (d:Int) (e:Int) f (g:Int) h=>cP λC=>⟨⟨some ((⟨b,c,j,k,l,m,n,o,p,q,d,e,f,g,h⟩:aj).aD<=4194304),[],cu aO 0 (C.set i (k6 (⟨b,c,j,k,l,m,n,o,p,q,d,e,f,g,h⟩:aj) (C.d i)))⟩⟩⟩
def ZT:cT:=⟨.eR true [] [] (gJ i aO 0 [] 0) (gF i aO),[],[]++fT i aO,⟨[],[]⟩⟩
def atk(C:aA):cw (ZT i).cg:=(.ae (.j ⟨9,[],[(.h 0 (33*i+6),a),(.h 0 (33*i+7),a),(.h 0 (33*i+8),.ab dk),(.h 0 (33*i+9),a),(.h 0 (33*i+10),a),(.h 0 (33*i+11),a),(.h 0 (33*i+12),.ab bp),(.h 0 (33*i+13),a),(.h 0 (33*i+14),.ab bZ),(.h 0 (33*i+15),a),(.h 0 (33*i+16),.ab bp),(.h 0 (33*i+17),a),(.h 0 (33*i+18),.ab bZ),(.h 0 (33*i+19),a),(.h 0 (33*i+30),.ab bo),(.h 0 (33*i+31),a)],[],.f⟩ (.ae (.s (.s (.ae (.bs ⟨([.ptr 0 (33*i+0),U,U,.ptr 10 0]++(us 13 (([.bool (!(gn (⟨3,0,0,0,0,0,false,0,0,0,⟨#[]⟩,⟨#[]⟩,⟨#[]⟩,0,ms.aD,ms.bX,ms.b_,ms.b2,ms.cm,ms.bb⟩:bm) (C.d i)))]++(us 42 ([])))))),cy aO 1 (C.set i (fO (⟨3,0,0,0,0,0,false,0,0,0,⟨#[]⟩,⟨#[]⟩,⟨#[]⟩,0,ms.aD,ms.bX,ms.b_,ms.b2,ms.cm,ms.bb⟩:bm) (C.d i))) [(10,(iQ ms))]⟩ .z)) .z) .z)) (.bs ⟨([.ptr 0 (33*i+0),U,U,.ptr 10 0]++(us 56 ([]))),cy aO 1 (C.set i (mj ms (C.d i))) [(10,(iQ ms))]⟩ (.mw [(0,(33*i+4))]))))
def XL(i:Nat)(ms:aj)(C:aA):Prop:=((decide (ms.aD>(C.d i).co))=true->((pG (⟨3,0,0,0,0,0,false,0,0,0,⟨#[]⟩,⟨#[]⟩,⟨#[]⟩,0,ms.aD,ms.bX,ms.b_,ms.b2,ms.cm,ms.bb⟩:bm))/\((!(gn (⟨3,0,0,0,0,0,false,0,0,0,⟨#[]⟩,⟨#[]⟩,⟨#[]⟩,0,ms.aD,ms.bX,ms.b_,ms.b2,ms.cm,ms.bb⟩:bm) (C.d i)))=false->(ms.aD<=9223372036854775807))))
def aBg(i:Nat)(c:i<3)(ms:aj)(C:aA)(b:eP C)(j:ms.f.n<=549755813888)(g:ms.b2.n<=549755813888)(h:ms.bb.n<=549755813888)(f:ms.aD<=4194304):XL i ms C:=by
 have a:=g4 b i c;unfold fS at a;unfold XL;exact((λd=>⟨(by apply sd),(λe=>Ω)⟩))
def ay1(i:Nat)(a:i<3)(ms:aj)(f:ms.f.n<=549755813888)(d:ms.b2.n<=549755813888)(e:ms.bb.n<=549755813888):e8 Tryz.prog 56 (PL i) ck [] (cP λC=>⟨⟨some (ms.aD<=4194304),[],cu aO 0 (C.set i (k6 ms (C.d i)))⟩⟩) (iQ ms):=by
 refine gC λC b=>λc=>eC (ZT i) (atk i ms C) (XL i ms C) (b1 10 (aJ aym a2) (ay (Hn i a) (ay (za i a) b0))) Tryz.func56 (List.replicate 31 .f++List.replicate 62 .l++[.f,.f]++List.replicate 7 .l) ?_ ?_ (aBg i a ms C b f d e c)
 .rcases ca a with rfl|rfl|rfl<;>kernel_rfl
 .rcases ca a with rfl|rfl|rfl<;>kernel_rfl
def aB3(i:Nat)(c:i<3):gr 56 (PL i):=
 jR (bE:=[a,a,a,a,a,a,K,a,.ab dk,a,a,a,.ab bp,a,.ab bZ]) λs b=>Eq.mp (by rcases ca c with rfl|rfl|rfl<;>kernel_rfl) (ay1 i c ⟨s.1,s.2.1,s.2.2.1,s.2.2.2.1,s.2.2.2.2.1,s.2.2.2.2.2.1,s.2.2.2.2.2.2.1,s.2.2.2.2.2.2.2.1,s.2.2.2.2.2.2.2.2.1,s.2.2.2.2.2.2.2.2.2.1,s.2.2.2.2.2.2.2.2.2.2.1,s.2.2.2.2.2.2.2.2.2.2.2.1,s.2.2.2.2.2.2.2.2.2.2.2.2.1,s.2.2.2.2.2.2.2.2.2.2.2.2.2.1,s.2.2.2.2.2.2.2.2.2.2.2.2.2.2.1⟩ (b.2.2.2.2.2.2.2.2.1 rfl) (b.2.2.2.2.2.2.2.2.2.2.2.2.1 rfl) (b.2.2.2.2.2.2.2.2.2.2.2.2.2.2.1 rfl))
def uf(i:Nat)(a:i<3):gu 56 (PL i):=gQ gB Tryz.func56 (aB3 i a)
end
section
variable(i:Nat)(ms:aj)(C:aA)(d:H)(L:G aj)(ah:G bF)(au:G aU)
def BH(a:G Int)(b:Int):H:={d with a_:=a,br:=b}
def mh(ms:aj)(d:H)(L:G aj)(ah:G bF)(au:G aU):Nat->Int->G Int->Int->Bool×G Int×Int×sA
 |0,_,_,_=>default
 |k+1,a,b,c=>(cond (decide (a<=(i64 ((cn d.j d.lt d.li ms.w ms.C ms.f)+((cd d.j d.lt d.li ms.w ms.C ms.f).n:Int))))) (cond (!(gn (⟨2,0,0,a,((cd d.j d.lt d.li ms.w ms.C ms.f).at' (toNat (i64 ((i64 (a- (cn d.j d.lt d.li ms.w ms.C ms.f)))-1)))).q,((cd d.j d.lt d.li ms.w ms.C ms.f).at' (toNat (i64 ((i64 (a- (cn d.j d.lt d.li ms.w ms.C ms.f)))-1)))).F,((cd d.j d.lt d.li ms.w ms.C ms.f).at' (toNat (i64 ((i64 (a- (cn d.j d.lt d.li ms.w ms.C ms.f)))-1)))).z,((cd d.j d.lt d.li ms.w ms.C ms.f).at' (toNat (i64 ((i64 (a- (cn d.j d.lt d.li ms.w ms.C ms.f)))-1)))).M,((cd d.j d.lt d.li ms.w ms.C ms.f).at' (toNat (i64 ((i64 (a- (cn d.j d.lt d.li ms.w ms.C ms.f)))-1)))).w,((cd d.j d.lt d.li ms.w ms.C ms.f).at' (toNat (i64 ((i64 (a- (cn d.j d.lt d.li ms.w ms.C ms.f)))-1)))).C,((cd d.j d.lt d.li ms.w ms.C ms.f).at' (toNat (i64 ((i64 (a- (cn d.j d.lt d.li ms.w ms.C ms.f)))-1)))).P,((cd d.j d.lt d.li ms.w ms.C ms.f).at' (toNat (i64 ((i64 (a- (cn d.j d.lt d.li ms.w ms.C ms.f)))-1)))).aw,((cd d.j d.lt d.li ms.w ms.C ms.f).at' (toNat (i64 ((i64 (a- (cn d.j d.lt d.li ms.w ms.C ms.f)))-1)))).f,((cd d.j d.lt d.li ms.w ms.C ms.f).at' (toNat (i64 ((i64 (a- (cn d.j d.lt d.li ms.w ms.C ms.f)))-1)))).aD,0,0,0,(B:G N),0,(B:G ar)⟩:bm) (BH d b c))) (true,default,default,(wO d L ah au)) (mh ms d L ah au k (i64 (a+1)) (fO (⟨2,0,0,a,((cd d.j d.lt d.li ms.w ms.C ms.f).at' (toNat (i64 ((i64 (a- (cn d.j d.lt d.li ms.w ms.C ms.f)))-1)))).q,((cd d.j d.lt d.li ms.w ms.C ms.f).at' (toNat (i64 ((i64 (a- (cn d.j d.lt d.li ms.w ms.C ms.f)))-1)))).F,((cd d.j d.lt d.li ms.w ms.C ms.f).at' (toNat (i64 ((i64 (a- (cn d.j d.lt d.li ms.w ms.C ms.f)))-1)))).z,((cd d.j d.lt d.li ms.w ms.C ms.f).at' (toNat (i64 ((i64 (a- (cn d.j d.lt d.li ms.w ms.C ms.f)))-1)))).M,((cd d.j d.lt d.li ms.w ms.C ms.f).at' (toNat (i64 ((i64 (a- (cn d.j d.lt d.li ms.w ms.C ms.f)))-1)))).w,((cd d.j d.lt d.li ms.w ms.C ms.f).at' (toNat (i64 ((i64 (a- (cn d.j d.lt d.li ms.w ms.C ms.f)))-1)))).C,((cd d.j d.lt d.li ms.w ms.C ms.f).at' (toNat (i64 ((i64 (a- (cn d.j d.lt d.li ms.w ms.C ms.f)))-1)))).P,((cd d.j d.lt d.li ms.w ms.C ms.f).at' (toNat (i64 ((i64 (a- (cn d.j d.lt d.li ms.w ms.C ms.f)))-1)))).aw,((cd d.j d.lt d.li ms.w ms.C ms.f).at' (toNat (i64 ((i64 (a- (cn d.j d.lt d.li ms.w ms.C ms.f)))-1)))).f,((cd d.j d.lt d.li ms.w ms.C ms.f).at' (toNat (i64 ((i64 (a- (cn d.j d.lt d.li ms.w ms.C ms.f)))-1)))).aD,0,0,0,(B:G N),0,(B:G ar)⟩:bm) (BH d b c)).a_ (fO (⟨2,0,0,a,((cd d.j d.lt d.li ms.w ms.C ms.f).at' (toNat (i64 ((i64 (a- (cn d.j d.lt d.li ms.w ms.C ms.f)))-1)))).q,((cd d.j d.lt d.li ms.w ms.C ms.f).at' (toNat (i64 ((i64 (a- (cn d.j d.lt d.li ms.w ms.C ms.f)))-1)))).F,((cd d.j d.lt d.li ms.w ms.C ms.f).at' (toNat (i64 ((i64 (a- (cn d.j d.lt d.li ms.w ms.C ms.f)))-1)))).z,((cd d.j d.lt d.li ms.w ms.C ms.f).at' (toNat (i64 ((i64 (a- (cn d.j d.lt d.li ms.w ms.C ms.f)))-1)))).M,((cd d.j d.lt d.li ms.w ms.C ms.f).at' (toNat (i64 ((i64 (a- (cn d.j d.lt d.li ms.w ms.C ms.f)))-1)))).w,((cd d.j d.lt d.li ms.w ms.C ms.f).at' (toNat (i64 ((i64 (a- (cn d.j d.lt d.li ms.w ms.C ms.f)))-1)))).C,((cd d.j d.lt d.li ms.w ms.C ms.f).at' (toNat (i64 ((i64 (a- (cn d.j d.lt d.li ms.w ms.C ms.f)))-1)))).P,((cd d.j d.lt d.li ms.w ms.C ms.f).at' (toNat (i64 ((i64 (a- (cn d.j d.lt d.li ms.w ms.C ms.f)))-1)))).aw,((cd d.j d.lt d.li ms.w ms.C ms.f).at' (toNat (i64 ((i64 (a- (cn d.j d.lt d.li ms.w ms.C ms.f)))-1)))).f,((cd d.j d.lt d.li ms.w ms.C ms.f).at' (toNat (i64 ((i64 (a- (cn d.j d.lt d.li ms.w ms.C ms.f)))-1)))).aD,0,0,0,(B:G N),0,(B:G ar)⟩:bm) (BH d b c)).br)) (false,b,c,default))
def iB:Bool×G Int×Int×sA:=let a:=dt d.j d.lt d.li ms.w ms.C ms.f;mh ms d L ah au ((toNat ((i64 ((cn d.j d.lt d.li ms.w ms.C ms.f)+((cd d.j d.lt d.li ms.w ms.C ms.f).n:Int)))+1-a))+1) a d.a_ d.br
def yi:Bool:=(cond (iB ms d L ah au).1 false true)
def mi:Int:=(cond (decide ((dt d.j d.lt d.li ms.w ms.C ms.f)>0)) (cn d.j d.lt d.li ms.w ms.C ms.f) d.j)
def BF:Int:=(cond (decide ((dt d.j d.lt d.li ms.w ms.C ms.f)>0)) (tH d.j d.lt d.li ms.w ms.C ms.f) d.lt)
def k5:G R:=(cond (decide ((dt d.j d.lt d.li ms.w ms.C ms.f)>0)) (cd d.j d.lt d.li ms.w ms.C ms.f) d.li)
def vF:G Int:=(cond (decide ((dt d.j d.lt d.li ms.w ms.C ms.f)>0)) (iB ms d L ah au).2.1 d.a_)
def BG:Int:=(cond (decide ((dt d.j d.lt d.li ms.w ms.C ms.f)>0)) (iB ms d L ah au).2.2.1 d.br)
def kr:Bool:=(cond (decide ((dt d.j d.lt d.li ms.w ms.C ms.f)>0)) (cond (yi ms d L ah au) true false) true)
def p7:H:={d with j:=(mi ms d),lt:=(BF ms d),li:=(k5 ms d),a_:=(vF ms d L ah au),br:=(BG ms d L ah au)}
def k4:H:=(H.bif ((hk d.j d.lt d.li ms.w ms.C ms.f)!=0) d (H.bif (!(hT d.j d.lt d.li ms.w ms.C ms.f)) (dJ ms.q (⟨0,0,6,d.ao,d.co,0,false,0,(B:G R),0,0,0,(B:G N),0,(B:G ar)⟩:aj) d) (H.bif (kr ms d L ah au) (lK (ff ms.aw (i64 (ms.w+(ms.f.n:Int)))) (dJ ms.q (⟨0,0,6,d.ao,(i64 (ms.w+(ms.f.n:Int))),0,true,0,(B:G R),0,0,0,(B:G N),0,(B:G ar)⟩:aj) (p7 ms d L ah au)) ah) (HG (iB ms d L ah au).2.2.2))))
def F5:G aj:=(cond ((hk d.j d.lt d.li ms.w ms.C ms.f)!=0) L (cond (!(hT d.j d.lt d.li ms.w ms.C ms.f)) L (cond (kr ms d L ah au) L (agT (iB ms d L ah au).2.2.2))))
def F7:G bF:=(cond ((hk d.j d.lt d.li ms.w ms.C ms.f)!=0) ah (cond (!(hT d.j d.lt d.li ms.w ms.C ms.f)) ah (cond (kr ms d L ah au) (yp (ff ms.aw (i64 (ms.w+(ms.f.n:Int)))) (dJ ms.q (⟨0,0,6,d.ao,(i64 (ms.w+(ms.f.n:Int))),0,true,0,(B:G R),0,0,0,(B:G N),0,(B:G ar)⟩:aj) (p7 ms d L ah au)) ah) (agX (iB ms d L ah au).2.2.2))))
def F6:G aU:=(cond ((hk d.j d.lt d.li ms.w ms.C ms.f)!=0) au (cond (!(hT d.j d.lt d.li ms.w ms.C ms.f)) au (cond (kr ms d L ah au) au (agW (iB ms d L ah au).2.2.2))))
def Q9(ms:aj)(d:H)(b:hk d.j d.lt d.li ms.w ms.C ms.f=0)(f:(!(hT d.j d.lt d.li ms.w ms.C ms.f))=false):mi ms d=d.j/\ms.w+(ms.f.n:Int)<=d.j+((k5 ms d).n:Int)/\(k5 ms d).n<=200:=by
 have h:=ahy b (by simpa using f);have c:=fb _ _ _ h.2.2.1;unfold mi k5
 by_cases a:dt d.j d.lt d.li ms.w ms.C ms.f>0
 .rw[bM a];simp only[aR];exact⟨h.1,h.2.2.2.1,c.2.2.1⟩
 .rw[bj a];simp only[aX];rcases h.2.2.2.2.1 with⟨_,e⟩|e
  .rw[e]at h c;exact⟨trivial,h.2.2.2.1,c.2.2.1⟩
  .have:=h.2.1;omega
def PK:dr:=⟨[.p 0,.fC 0 (33*i),.g [a,a,a,a,a,a,K,a,.ab dk,a,a,a,.ab bp,a,.ab bZ]],ck,e0,eN,λ(c:Int) (d:Int) (k:Int) (l:Int) (m:Int) (n:Int) o (p:Int) q (r:Int) (e:Int) (f:Int) g (h:Int) j=>cP λC=>let b:=C.d i;⟨⟨some (ei b.li/\ei (⟨c,d,k,l,m,n,o,p,q,r,e,f,g,h,j⟩:aj).f/\C.told.n<=541000000000/\b.ws.n<=3000/\0<=b.j/\b.j<=b.co/\b.co<=4194304),[],cu aO 0 (C.put i (k4 (⟨c,d,k,l,m,n,o,p,q,r,e,f,g,h,j⟩:aj) b C.ag C.told C.bh) (F5 (⟨c,d,k,l,m,n,o,p,q,r,e,f,g,h,j⟩:aj) b C.ag C.told C.bh) (F7 (⟨c,d,k,l,m,n,o,p,q,r,e,f,g,h,j⟩:aj) b C.ag C.told C.bh) (F6 (⟨c,d,k,l,m,n,o,p,q,r,e,f,g,h,j⟩:aj) b C.ag C.told C.bh))⟩⟩⟩
def ZS:cT:=⟨.eR true [] [] (zM i aO 0 [] 0 C) (zd i aO),[],[]++xj i aO,⟨[],[]⟩⟩
def atj:cw (ZS i C).cg:=let o:=i64 (ms.w+(ms.f.n:Int));let d:=C.d i;let p:=p7 ms d C.ag C.told C.bh;let n:=tH d.j d.lt d.li ms.w ms.C ms.f;let j:=dt d.j d.lt d.li ms.w ms.C ms.f;let g:=cn d.j d.lt d.li ms.w ms.C ms.f;let f:=cd d.j d.lt d.li ms.w ms.C ms.f;let h:=i64 (g+(f.n:Int));(.ae (.ae (.ae (.s (.ae (.s (.s (.mw [(0,(33*i+4)),(0,(33*i+19))]) (.bs ⟨([.ptr 0 0,.ptr 0 (33*i+0),U,U,U,.ptr 10 0,.ptr 11 0,U,b j]++(us 99 ([]))),cy aO 2 (C.set i (dJ ms.q (⟨0,0,6,d.ao,d.co,0,false,0,(B:G R),0,0,0,(B:G N),0,(B:G ar)⟩:aj) d)) [(10,(iQ ms)),(11,[b g,b n,aP 10 eo f])]⟩ .z)) .z)) (.j ⟨35,[.b 11],[(.h 0 (33*i+6),a),(.h 0 (33*i+7),a),(.h 0 (33*i+8),.ab dk),(.h 0 (33*i+30),.ab bo),(.h 0 (33*i+31),a)],[],.f⟩ (.ae (.s (.ae (.j ⟨99,[],[],[],.f⟩ (.ae (.zg ⟨3171,[],[],[(.t 11,a),(.h 0 (33*i+30),.ab bo),(.h 0 (33*i+31),a)],some 0,true,99,[.b 12],[(.h 0 (33*i+30),.ab bo),(.h 0 (33*i+31),a)],λk (s:Int×G Int×Int)=>mh ms d C.ag C.told C.bh k s.1 s.2.1 s.2.2,.f,λ(s:Int×G Int×Int)=>(j<=s.1/\(s.1<=h+1\/s.1=j)),λ(s:Int×G Int×Int)=>(toNat (h+1-s.1)),none⟩ (λ(e:Int×G Int×Int)=>let r:=BH d e.2.1 e.2.2;let m:=i64 (e.1-g);let q:=i64 (m-1);let t:=toNat q;let c:=f.at' t;let l:=gn (⟨2,0,0,e.1,c.q,c.F,c.z,c.M,c.w,c.C,c.P,c.aw,c.f,c.aD,0,0,0,(B:G N),0,(B:G ar)⟩:bm) r;(.ae (.s (.ae (.bs ⟨([.ptr 0 0,.ptr 0 (33*i+0),U,U,U,.ptr 10 0,.ptr 11 0,U,U,U,.ptr 12 0,b e.1]++(us 41 (([b e.1,.ptr 11 0,b g,.ptr 11 2,aP 10 eo f,b (f.n:Int),b h,.bool (decide (e.1<=h)),U,U,.ptr 0 (33*i+0),b e.1,.ptr 11 2,aP 10 eo f,b e.1,.ptr 11 0,b g,b m,b q,.ref [b c.q,b c.F,.bool c.z,b c.M,b c.w,b c.C,.str c.P,.str c.aw,.str c.f,b c.aD],.agg [b c.q,b c.F,.bool c.z,b c.M,b c.w,b c.C,.str c.P,.str c.aw,.str c.f,b c.aD],.agg [b 2,b 0,b 0,b e.1,b c.q,b c.F,.bool c.z,b c.M,b c.w,b c.C,.str c.P,.str c.aw,.str c.f,b c.aD,b 0,b 0,b 0,.aG,b 0,.aG],.bool l,.bool (!l)]++(us 31 ([])))))),cy aO 3 (C.set i (fO (⟨2,0,0,e.1,c.q,c.F,c.z,c.M,c.w,c.C,c.P,c.aw,c.f,c.aD,0,0,0,(B:G N),0,(B:G ar)⟩:bm) r)) [(10,(iQ ms)),(11,[b g,b n,aP 10 eo f]),(12,[aP 1 cZ d.a_,b d.br])]⟩ .z)) .z))))) .z)) .z)) (.bs ⟨([.ptr 0 0,.ptr 0 (33*i+0),U,U,U,.ptr 10 0]++(us 102 ([]))),cy aO 1 (C.set i p) [(10,(iQ ms))]⟩ (.ae (.s (.mw [(0,(33*i+4))]) (.bs ⟨([.ptr 0 0,.ptr 0 (33*i+0),U,U,U,.ptr 10 0]++(us 6 (([b o]++(us 95 ([])))))),cy aO 1 (C.set i (dJ ms.q (⟨0,0,6,d.ao,o,0,true,0,(B:G R),0,0,0,(B:G N),0,(B:G ar)⟩:aj) p)) [(10,(iQ ms))]⟩ .z)))))))))
def XK(i:Nat)(ms:aj)(C:aA):Prop:=(((hk (C.d i).j (C.d i).lt (C.d i).li ms.w ms.C ms.f)!=0)=false->((!(hT (C.d i).j (C.d i).lt (C.d i).li ms.w ms.C ms.f))=false->(((decide ((dt (C.d i).j (C.d i).lt (C.d i).li ms.w ms.C ms.f)>0))=true->((((dt (C.d i).j (C.d i).lt (C.d i).li ms.w ms.C ms.f)<=(dt (C.d i).j (C.d i).lt (C.d i).li ms.w ms.C ms.f)/\((dt (C.d i).j (C.d i).lt (C.d i).li ms.w ms.C ms.f)<=(i64 ((cn (C.d i).j (C.d i).lt (C.d i).li ms.w ms.C ms.f)+((cd (C.d i).j (C.d i).lt (C.d i).li ms.w ms.C ms.f).n:Int)))+1\/(dt (C.d i).j (C.d i).lt (C.d i).li ms.w ms.C ms.f)=(dt (C.d i).j (C.d i).lt (C.d i).li ms.w ms.C ms.f))))/\(∀(a:Int) (b:G Int) (c:Int),((dt (C.d i).j (C.d i).lt (C.d i).li ms.w ms.C ms.f)<=a/\(a<=(i64 ((cn (C.d i).j (C.d i).lt (C.d i).li ms.w ms.C ms.f)+((cd (C.d i).j (C.d i).lt (C.d i).li ms.w ms.C ms.f).n:Int)))+1\/a=(dt (C.d i).j (C.d i).lt (C.d i).li ms.w ms.C ms.f)))->(((decide (a<=(i64 ((cn (C.d i).j (C.d i).lt (C.d i).li ms.w ms.C ms.f)+((cd (C.d i).j (C.d i).lt (C.d i).li ms.w ms.C ms.f).n:Int)))))=true->(((0:Int)<=(i64 ((i64 (a- (cn (C.d i).j (C.d i).lt (C.d i).li ms.w ms.C ms.f)))-1))/\(i64 ((i64 (a- (cn (C.d i).j (C.d i).lt (C.d i).li ms.w ms.C ms.f)))-1))<(((cd (C.d i).j (C.d i).lt (C.d i).li ms.w ms.C ms.f).n:Nat):Int))/\(pG (⟨2,0,0,a,((cd (C.d i).j (C.d i).lt (C.d i).li ms.w ms.C ms.f).at' (toNat (i64 ((i64 (a- (cn (C.d i).j (C.d i).lt (C.d i).li ms.w ms.C ms.f)))-1)))).q,((cd (C.d i).j (C.d i).lt (C.d i).li ms.w ms.C ms.f).at' (toNat (i64 ((i64 (a- (cn (C.d i).j (C.d i).lt (C.d i).li ms.w ms.C ms.f)))-1)))).F,((cd (C.d i).j (C.d i).lt (C.d i).li ms.w ms.C ms.f).at' (toNat (i64 ((i64 (a- (cn (C.d i).j (C.d i).lt (C.d i).li ms.w ms.C ms.f)))-1)))).z,((cd (C.d i).j (C.d i).lt (C.d i).li ms.w ms.C ms.f).at' (toNat (i64 ((i64 (a- (cn (C.d i).j (C.d i).lt (C.d i).li ms.w ms.C ms.f)))-1)))).M,((cd (C.d i).j (C.d i).lt (C.d i).li ms.w ms.C ms.f).at' (toNat (i64 ((i64 (a- (cn (C.d i).j (C.d i).lt (C.d i).li ms.w ms.C ms.f)))-1)))).w,((cd (C.d i).j (C.d i).lt (C.d i).li ms.w ms.C ms.f).at' (toNat (i64 ((i64 (a- (cn (C.d i).j (C.d i).lt (C.d i).li ms.w ms.C ms.f)))-1)))).C,((cd (C.d i).j (C.d i).lt (C.d i).li ms.w ms.C ms.f).at' (toNat (i64 ((i64 (a- (cn (C.d i).j (C.d i).lt (C.d i).li ms.w ms.C ms.f)))-1)))).P,((cd (C.d i).j (C.d i).lt (C.d i).li ms.w ms.C ms.f).at' (toNat (i64 ((i64 (a- (cn (C.d i).j (C.d i).lt (C.d i).li ms.w ms.C ms.f)))-1)))).aw,((cd (C.d i).j (C.d i).lt (C.d i).li ms.w ms.C ms.f).at' (toNat (i64 ((i64 (a- (cn (C.d i).j (C.d i).lt (C.d i).li ms.w ms.C ms.f)))-1)))).f,((cd (C.d i).j (C.d i).lt (C.d i).li ms.w ms.C ms.f).at' (toNat (i64 ((i64 (a- (cn (C.d i).j (C.d i).lt (C.d i).li ms.w ms.C ms.f)))-1)))).aD,0,0,0,(B:G N),0,(B:G ar)⟩:bm))))/\((decide (a<=(i64 ((cn (C.d i).j (C.d i).lt (C.d i).li ms.w ms.C ms.f)+((cd (C.d i).j (C.d i).lt (C.d i).li ms.w ms.C ms.f).n:Int)))))=true->((!(gn (⟨2,0,0,a,((cd (C.d i).j (C.d i).lt (C.d i).li ms.w ms.C ms.f).at' (toNat (i64 ((i64 (a- (cn (C.d i).j (C.d i).lt (C.d i).li ms.w ms.C ms.f)))-1)))).q,((cd (C.d i).j (C.d i).lt (C.d i).li ms.w ms.C ms.f).at' (toNat (i64 ((i64 (a- (cn (C.d i).j (C.d i).lt (C.d i).li ms.w ms.C ms.f)))-1)))).F,((cd (C.d i).j (C.d i).lt (C.d i).li ms.w ms.C ms.f).at' (toNat (i64 ((i64 (a- (cn (C.d i).j (C.d i).lt (C.d i).li ms.w ms.C ms.f)))-1)))).z,((cd (C.d i).j (C.d i).lt (C.d i).li ms.w ms.C ms.f).at' (toNat (i64 ((i64 (a- (cn (C.d i).j (C.d i).lt (C.d i).li ms.w ms.C ms.f)))-1)))).M,((cd (C.d i).j (C.d i).lt (C.d i).li ms.w ms.C ms.f).at' (toNat (i64 ((i64 (a- (cn (C.d i).j (C.d i).lt (C.d i).li ms.w ms.C ms.f)))-1)))).w,((cd (C.d i).j (C.d i).lt (C.d i).li ms.w ms.C ms.f).at' (toNat (i64 ((i64 (a- (cn (C.d i).j (C.d i).lt (C.d i).li ms.w ms.C ms.f)))-1)))).C,((cd (C.d i).j (C.d i).lt (C.d i).li ms.w ms.C ms.f).at' (toNat (i64 ((i64 (a- (cn (C.d i).j (C.d i).lt (C.d i).li ms.w ms.C ms.f)))-1)))).P,((cd (C.d i).j (C.d i).lt (C.d i).li ms.w ms.C ms.f).at' (toNat (i64 ((i64 (a- (cn (C.d i).j (C.d i).lt (C.d i).li ms.w ms.C ms.f)))-1)))).aw,((cd (C.d i).j (C.d i).lt (C.d i).li ms.w ms.C ms.f).at' (toNat (i64 ((i64 (a- (cn (C.d i).j (C.d i).lt (C.d i).li ms.w ms.C ms.f)))-1)))).f,((cd (C.d i).j (C.d i).lt (C.d i).li ms.w ms.C ms.f).at' (toNat (i64 ((i64 (a- (cn (C.d i).j (C.d i).lt (C.d i).li ms.w ms.C ms.f)))-1)))).aD,0,0,0,(B:G N),0,(B:G ar)⟩:bm) (BH (C.d i) b c)))=false->(((dt (C.d i).j (C.d i).lt (C.d i).li ms.w ms.C ms.f)<=(i64 (a+1))/\((i64 (a+1))<=(i64 ((cn (C.d i).j (C.d i).lt (C.d i).li ms.w ms.C ms.f)+((cd (C.d i).j (C.d i).lt (C.d i).li ms.w ms.C ms.f).n:Int)))+1\/(i64 (a+1))=(dt (C.d i).j (C.d i).lt (C.d i).li ms.w ms.C ms.f)))/\(toNat ((i64 ((cn (C.d i).j (C.d i).lt (C.d i).li ms.w ms.C ms.f)+((cd (C.d i).j (C.d i).lt (C.d i).li ms.w ms.C ms.f).n:Int)))+1- (i64 (a+1))))<(toNat ((i64 ((cn (C.d i).j (C.d i).lt (C.d i).li ms.w ms.C ms.f)+((cd (C.d i).j (C.d i).lt (C.d i).li ms.w ms.C ms.f).n:Int)))+1-a)))))))))/\((kr ms (C.d i) C.ag C.told C.bh)=true->(C.told.n<=541000000000/\(C.d i).ws.n<=3000/\0<=(mi ms (C.d i))/\(mi ms (C.d i))<=(C.d i).co/\(C.d i).co<=4194304/\(ff ms.aw (i64 (ms.w+(ms.f.n:Int))))<=(mi ms (C.d i))+((k5 ms (C.d i)).n:Int)/\(k5 ms (C.d i)).n<=200)))))
def aBf(i:Nat)(k:i<3)(ms:aj)(C:aA)(j:eP C)(A:ms.f.n<=549755813888)(y:ms.b2.n<=549755813888)(z:ms.bb.n<=549755813888)(l:ei (C.d i).li/\ei ms.f/\C.told.n<=541000000000/\(C.d i).ws.n<=3000/\0<=(C.d i).j/\(C.d i).j<=(C.d i).co/\(C.d i).co<=4194304):XK i ms C:=by
 have h:=g4 j i k;unfold fS at h;unfold XK;exact have⟨r,s,t,u,v,w,x⟩:=l;((λa=>(λm=>⟨(λd=>⟨Ω,(λc B D q=>⟨(λe=>⟨(by have:=bK a;have:=an d;have:=an e;(try have b:=zo Ψ Ψ);have:=E ((cn (C.d i).j (C.d i).lt (C.d i).li ms.w ms.C ms.f)+((cd (C.d i).j (C.d i).lt (C.d i).li ms.w ms.C ms.f).n:Int));have:=E (c- (cn (C.d i).j (C.d i).lt (C.d i).li ms.w ms.C ms.f));have:=E ((i64 (c- (cn (C.d i).j (C.d i).lt (C.d i).li ms.w ms.C ms.f)))-1);omega),(by have:=bK a;have:=an d;have:=an e;have:=trivial;(try have b:=zo Ψ Ψ);(try have o:=b.2.2.2.2.2.2 Ψ Ψ);(try have g:=Q9 _ _ Ψ Ψ);repeat first|assumption|apply sX|apply sY|apply uK|apply q9|apply wq|apply mA|apply r1|apply uz|apply uy|apply sd|apply rR|apply rS|apply ig|apply uI|apply xl|apply lV|apply j3|apply ov|apply And.intro)⟩),(λf=>(λn=>(by have:=bK a;have:=an f;(try have b:=zo Ψ Ψ);have:=E ((cn (C.d i).j (C.d i).lt (C.d i).li ms.w ms.C ms.f)+((cd (C.d i).j (C.d i).lt (C.d i).li ms.w ms.C ms.f).n:Int));have:=E (c+1);omega)))⟩)⟩),(λp=>(by have:=bK a;(try have b:=zo Ψ Ψ);(try have g:=Q9 _ _ Ψ Ψ);have:=lP ms.aw (i64 (ms.w+(ms.f.n:Int)));have:=E (ms.w+(ms.f.n:Int));omega))⟩)))
def ay0(i:Nat)(a:i<3)(ms:aj)(f:ms.f.n<=549755813888)(d:ms.b2.n<=549755813888)(e:ms.bb.n<=549755813888):e8 Tryz.prog 55 (PK i) ck [] (cP λC=>⟨⟨some (ei (C.d i).li/\ei ms.f/\C.told.n<=541000000000/\(C.d i).ws.n<=3000/\0<=(C.d i).j/\(C.d i).j<=(C.d i).co/\(C.d i).co<=4194304),[],cu aO 0 (C.put i (k4 ms (C.d i) C.ag C.told C.bh) (F5 ms (C.d i) C.ag C.told C.bh) (F7 ms (C.d i) C.ag C.told C.bh) (F6 ms (C.d i) C.ag C.told C.bh))⟩⟩) (iQ ms):=by
 refine gC λC b=>λc=>eC (ZS i C) (atj i ms C) (XK i ms C) (b1 10 (aJ agM a2) (ay (Hn i a) (ay (za i a) (ay (agG i a) b0)))) Tryz.func55 [] ?_ ?_ (aBf i a ms C b f d e c)
 .rcases ca a with rfl|rfl|rfl<;>kernel_rfl
 .rcases ca a with rfl|rfl|rfl<;>kernel_rfl
def aB2(i:Nat)(c:i<3):gr 55 (PK i):=
 jR (bE:=[a,a,a,a,a,a,K,a,.ab dk,a,a,a,.ab bp,a,.ab bZ]) λs b=>Eq.mp (by rcases ca c with rfl|rfl|rfl<;>kernel_rfl) (ay0 i c ⟨s.1,s.2.1,s.2.2.1,s.2.2.2.1,s.2.2.2.2.1,s.2.2.2.2.2.1,s.2.2.2.2.2.2.1,s.2.2.2.2.2.2.2.1,s.2.2.2.2.2.2.2.2.1,s.2.2.2.2.2.2.2.2.2.1,s.2.2.2.2.2.2.2.2.2.2.1,s.2.2.2.2.2.2.2.2.2.2.2.1,s.2.2.2.2.2.2.2.2.2.2.2.2.1,s.2.2.2.2.2.2.2.2.2.2.2.2.2.1,s.2.2.2.2.2.2.2.2.2.2.2.2.2.2.1⟩ (b.2.2.2.2.2.2.2.2.1 rfl) (b.2.2.2.2.2.2.2.2.2.2.2.2.1 rfl) (b.2.2.2.2.2.2.2.2.2.2.2.2.2.2.1 rfl))
def ue(i:Nat)(a:i<3):gu 55 (PK i):=gQ gB Tryz.func55 (aB2 i a)
end
def ajW{l:List Int}(h: ∀x∈l,0<=x/\x<=255):aK (G.lit l):=λi=>by
 show 0<=l.getD i default/\l.getD i default<=255
 by_cases c:i<l.length
 .rw[DD,cM c];exact h _ (j8 c)
 .rw[DD,eX Ω];exact OS
def IB(x:Int):aK (h9 x):=ajW λy a=>by
 simp only[iI,zZ,or_false]at a;rcases a with rfl|rfl|rfl<;>exact ajX _
def ajU{l:List (G Int)}(h: ∀s∈l,aK s):aK (te (G.lit l)):=by
 unfold te KG;refine wQ (λ_ _=>rfl) (λ_ _ _=>rfl) (λi t a=>wP a ?_) _ _ _ wR;show aK (l.getD (toNat i) default)
 by_cases c:toNat i<l.length
 .rw[DD,cM c];exact h _ (j8 c)
 .rw[DD,eX Ω];exact YW
def YX(x:Int)(h:0<=x/\x<=255):aK (G.lit [x]):=ajW λy a=>by
 rw[List.mem_singleton]at a;rw[a];exact h
def u64(A g:Int)(r:Bool)(h o c:Int)(v y p:u)(x:Int):aK (qd A g r h o c v y p x):=by
 unfold qd
 cases (fc A g r h o c v y p x !=0)
 .simp only[aX];have a:aK (bu g (bu A (B:G Int))):=mB _ (mB _ wR);unfold EX
  cases r
  .simp only[aX];have b:=qG 0 a;unfold Fp
   cases decide (h>0)
   .simp only[aX];exact mB _ b
   .simp only[aR];unfold Fz;exact mB _ (sk _ (sk _ (sk _ (qG _ (mB _ (mB _ b))))))
  .exact qG _ a
 .exact wR
def aEn(A g r h o c:Int)(v:Bool)(y p x:Int)(ai bn bY:u)(b9 ch dj c8:Int)(c4:G N)(c9:Int)(c5:G ar):aK (jB A g r h o c v y p x ai bn bY b9 ch dj c8 c4 c9 c5):=by
 unfold jB
 cases (A==1)
 .simp only[aX]
  cases (A==2)
  .simp only[aX];refine ajU λs a=> ?_;simp only[iI,zZ,or_false]at a;rcases a with rfl|rfl|rfl|rfl
   .exact YX 3 Δ
   .exact IB _
   .exact IB _
   .exact ig _ _ _ _
  .exact wP (wP (YX 2 Δ) (IB _)) (u64 _ _ _ _ _ _ _ _ _ _)
 .exact wP (wP (YX 1 Δ) (IB _)) (YZ _)
def aEt{A:G Int}(b:aK A)(g r h o c v y:Int)(p:Bool)(x ai bn:Int)(bY b9 ch:u)(dj c8 c4 c9:Int)(c5:G N)(gg:Int)(gh:G ar):aK (yN A g r h o c v y p x ai bn bY b9 ch dj c8 c4 c9 c5 gg gh):=by
 unfold yN
 cases (!(hE A g))
 .simp only[aX]
  cases (fA r h o c v y p x ai bn bY b9 ch dj c8 c4 c9 c5 gg gh !=0)
  .simp only[aX];generalize decide ((i64 ((i64 (((bH A g).n:Int)+3))+(((jB r h o c v y p x ai bn bY b9 ch dj c8 c4 c9 c5 gg gh).n:Nat):Int)))>400000)=d
   cases d
   .refine ajU λs a=> ?_;simp only[iI,zZ,or_false]at a;rcases a with rfl|rfl|rfl
    .exact ll b
    .exact IB _
    .exact aEn _ _ _ _ _ _ _ _ _ _ _ _ _ _ _ _ _ _ _ _
   .exact wR
  .exact wR
 .exact wR
def uL{rc:bm}{d:H}(h:aK d.a_):aK (fO rc d).a_:=by
 show aK (vK rc d);unfold vK;generalize (vZ d.a_ d.br rc.q rc.F rc.z rc.M rc.w rc.C rc.P rc.aw rc.f rc.aD rc.bX rc.b_ rc.b2 rc.cm rc.bb rc.cO rc.eK rc.ek rc.eL rc.en !=0)=b
 cases b
 .exact aEt h _ _ _ _ _ _ _ _ _ _ _ _ _ _ _ _ _ _ _ _ _
 .exact h
section
variable(i:Nat)(ac:a7)(C:aA)(d:H)
def arF(L:G aj):Int:=(cond (decide ((L.n:Int)>0)) (ac.z.tmod (L.n:Int)) (-1))
def arG:H:={d with bs:=(ff (i64 (d.bs+ac.z)) 1073741824)}
def K6:H:=(arG ac d)
def Ph:dr:=⟨[.p 0,.g [a,a,a,a,a,a,al,al,al,a]],ck,e0,eN,λ(b:Int) (c:Int) (d:Int) (e:Int) (f:Int) (g:Int) h j k (l:Int)=>cP λC=>⟨⟨some (e7 C (⟨b,c,d,e,f,g,h,j,k,l⟩:a7)),[],cu [10,13,11,14,12,15,16,8,9] 7 (C.set i (K6 (⟨b,c,d,e,f,g,h,j,k,l⟩:a7) (C.d i)))⟩⟩⟩
def ZB:cT:=⟨.eR true [.b 10] [.own (.h 0 99) cJ 16,.own (.h 0 29) du 10,.own (.h 0 62) du 11,.own (.h 0 95) du 12,.own (.h 0 32) cJ 13,.own (.h 0 65) cJ 14,.own (.h 0 98) cJ 15] (zM i [10,13,11,14,12,15,16,8,9] 7 [] 0 C) (zd i [10,13,11,14,12,15,16,8,9]),[],[]++xj i [10,13,11,14,12,15,16,8,9],⟨[],[]⟩⟩
def as3:cw (ZB i C).cg:=(.ae (.ae (.ae (.j ⟨57,[],[(.t 5,a)],[],.f⟩ .z (.bs ⟨([.ptr 0 0,U,U,.ptr 10 0,.ptr 0 (33*i+0),b (arF ac C.ag)]++(us 135 ([]))),cy aO 1 C [(10,[b 5,b (i:Int),b ac.z,b ac.M,b ac.w,b ac.C,.str ac.P,.str ac.aw,.str ac.f,b ac.aD])]⟩ (.ae (.ae (.c false (.ae (.c true .z))))))))))
def Xv(i:Nat)(ac:a7)(C:aA):Prop:=((decide ((C.ag.n:Int)>0))=true->(((C.ag.n:Int):Int)≠0))
def aA1(i:Nat)(e:i<3)(ac:a7)(C:aA)(d:eP C)(f:ac.P.size<=549755813888)(g:ac.aw.size<=549755813888)(h:ac.f.size<=549755813888)(a:e7 C ac):Xv i ac C:=by
 have c:=g4 d i e;unfold fS at c;unfold Xv;exact have:=oN a i;have:=(oN a i).j;have:=(oN a i).ws;have:=pM a;have:=a.2.zG;have:=a.2.zH;have:=a.2.zI;have:=a.2.lS;((λb=>(by have:=an b;omega)))
def Wc(i:Nat)(a:i<3)(ac:a7)(e:ac.P.size<=549755813888)(f:ac.aw.size<=549755813888)(g:ac.f.size<=549755813888)(C:aA)(c:eP C)(d:e7 C ac):fL Tryz.prog 18 ((Ph i).args ([b 5,b (i:Int),b ac.z,b ac.M,b ac.w,b ac.C,.str ac.P,.str ac.aw,.str ac.f,b ac.aD]++ix C)) ((Ph i).dh (([b 5,b (i:Int),b ac.z,b ac.M,b ac.w,b ac.C,.str ac.P,.str ac.aw,.str ac.f,b ac.aD]++ix C).drop (Ph i).dR)) [] (cu [10,13,11,14,12,15,16,8,9] 7 (C.set i (K6 ac (C.d i)))):=by
 refine eC (ZB i C) (as3 i ac C) (Xv i ac C) (b1 10 a2 b0) Tryz.func18 [] ?_ ?_ (aA1 i a ac C c e f g d)
 .rcases ca a with rfl|rfl|rfl<;>kernel_rfl
 .rcases ca a with rfl|rfl|rfl<;>kernel_rfl
end
end Go.Proofs.YtadmdaokcgjdiaaGreatDoor
