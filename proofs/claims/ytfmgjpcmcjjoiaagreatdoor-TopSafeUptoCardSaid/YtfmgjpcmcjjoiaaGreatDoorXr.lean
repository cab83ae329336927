import Derived.Test.YtfmgjpcmcjjoiaaGreatDoorXn
open Go.IntKind (i64 u64 u8)
open Int (toNat)
set_option maxRecDepth 100000
set_option maxHeartbeats 4000000
set_option linter.all false
noncomputable section
namespace Go.Proofs.YtfmgjpcmcjjoiaaGreatDoor
open Go Go.RowKit Go.af
section
variable(i:Nat)(ms:ah)(d:H)
def qi:Int:=(cond (decide (ms.aC>d.co)) (uZ d.j d.lt d.li ms.aC ms.bU ms.bY ms.bN ms.cc ms.aY) d.j)
def Av:Int:=(cond (decide (ms.aC>d.co)) (SQ d.j d.lt d.li ms.aC ms.bU ms.bY ms.bN ms.cc ms.aY) d.lt)
def qk:G aq:=(cond (decide (ms.aC>d.co)) (u0 d.j d.lt d.li ms.aC ms.bU ms.bY ms.bN ms.cc ms.aY) d.li)
def ql:Int:=(cond (decide (ms.aC>d.co)) ms.aC d.bX)
def apL:Int:=(cond (decide (ms.aC>d.co)) ms.bU d.gG)
def apM:Int:=(cond (decide (ms.aC>d.co)) ms.bY d.gH)
def apN:G L:=(cond (decide (ms.aC>d.co)) ms.bN d.eU)
def apO:Int:=(cond (decide (ms.aC>d.co)) ms.cc d.gI)
def apP:G aw:=(cond (decide (ms.aC>d.co)) ms.aY d.eT)
def apH:Int:=(cond (decide (ms.aC>d.co)) ms.bY d.e5)
def apI:G L:=(cond (decide (ms.aC>d.co)) ms.bN d.c6)
def apJ:Int:=(cond (decide (ms.aC>d.co)) ms.cc d.eN)
def apK:G aw:=(cond (decide (ms.aC>d.co)) ms.aY d.dW)
def EJ:Int:=(cond (decide (ms.aC>d.co)) ms.aC d.co)
def qj:G Int:=(cond (decide (ms.aC>d.co)) (fr (⟨3,0,0,0,0,0,false,0,0,0,⟨#[]⟩,⟨#[]⟩,⟨#[]⟩,0,ms.aC,ms.bU,ms.bY,ms.bN,ms.cc,ms.aY⟩:bo) d).aX d.aX)
def Au:Int:=(cond (decide (ms.aC>d.co)) (fr (⟨3,0,0,0,0,0,false,0,0,0,⟨#[]⟩,⟨#[]⟩,⟨#[]⟩,0,ms.aC,ms.bU,ms.bY,ms.bN,ms.cc,ms.aY⟩:bo) d).bc d.bc)
def uD:Bool:=(cond (decide (ms.aC>d.co)) (cond (!(gD (⟨3,0,0,0,0,0,false,0,0,0,⟨#[]⟩,⟨#[]⟩,⟨#[]⟩,0,ms.aC,ms.bU,ms.bY,ms.bN,ms.cc,ms.aY⟩:bo) d)) false true) true)
def o4:H:={d with j:=(qi ms d),lt:=(Av ms d),li:=(qk ms d),bX:=(ql ms d),gG:=(apL ms d),gH:=(apM ms d),eU:=(apN ms d),gI:=(apO ms d),eT:=(apP ms d),e5:=(apH ms d),c6:=(apI ms d),eN:=(apJ ms d),dW:=(apK ms d),co:=(EJ ms d),aX:=(qj ms d),bc:=(Au ms d)}
def n0:H:=(H.bif (uD ms d) (et ms.q (⟨0,0,6,d.a6,ms.aC,0,true,0,(D:G aq),0,0,0,(D:G L),0,(D:G aw)⟩:ah) (o4 ms d)) (fr (⟨3,0,0,0,0,0,false,0,0,0,⟨#[]⟩,⟨#[]⟩,⟨#[]⟩,0,ms.aC,ms.bU,ms.bY,ms.bN,ms.cc,ms.aY⟩:bo) d))
def N6:c8:=⟨[.fa 0 (33*i),.g [a,a,a,a,a,a,l,a,.ab dh,a,a,a,.ab bd,a,.ab bT]],b4,eH,eu,fun(b:Int) (c:Int) (j:Int) (k:Int) (m:Int) (n:Int) o (p:Int) q (r:Int) (d:Int) (e:Int) f (g:Int) h=>cA fun C=>⟨⟨some ((⟨b,c,j,k,m,n,o,p,q,r,d,e,f,g,h⟩:ah).aC≤4194304),[],ca aH 0 (C.set i (n0 (⟨b,c,j,k,m,n,o,p,q,r,d,e,f,g,h⟩:ah) (C.d i)))⟩⟩⟩
def XV:cG:=⟨.eB true [] [] (ga i aH 0 [] 0) (fY i aH),[],[]++fy i aH,⟨[],[]⟩⟩
def aqP(C:ak):cb (XV i).b1:=(.ae (.j ⟨9,[],[(.h 0 (33*i+6),a),(.h 0 (33*i+7),a),(.h 0 (33*i+8),.ab dh),(.h 0 (33*i+9),a),(.h 0 (33*i+10),a),(.h 0 (33*i+11),a),(.h 0 (33*i+12),.ab bd),(.h 0 (33*i+13),a),(.h 0 (33*i+14),.ab bT),(.h 0 (33*i+15),a),(.h 0 (33*i+16),.ab bd),(.h 0 (33*i+17),a),(.h 0 (33*i+18),.ab bT),(.h 0 (33*i+19),a),(.h 0 (33*i+30),.ab a5),(.h 0 (33*i+31),a)],[],.f⟩ (.ae (.s (.s (.ae (.bO ⟨([.ptr 0 (33*i+0),U,U,.ptr 10 0]++(us 13 (([.bool (!(gD (⟨3,0,0,0,0,0,false,0,0,0,⟨#[]⟩,⟨#[]⟩,⟨#[]⟩,0,ms.aC,ms.bU,ms.bY,ms.bN,ms.cc,ms.aY⟩:bo) (C.d i)))]++(us 42 ([])))))),cd aH 1 (C.set i (fr (⟨3,0,0,0,0,0,false,0,0,0,⟨#[]⟩,⟨#[]⟩,⟨#[]⟩,0,ms.aC,ms.bU,ms.bY,ms.bN,ms.cc,ms.aY⟩:bo) (C.d i))) [(10,(ig ms))]⟩ .z)) .z) .z)) (.bO ⟨([.ptr 0 (33*i+0),U,U,.ptr 10 0]++(us 56 ([]))),cd aH 1 (C.set i (o4 ms (C.d i))) [(10,(ig ms))]⟩ (.lG [(0,(33*i+4))]))))
def Vx(i:Nat)(ms:ah)(C:ak):Prop:=((decide (ms.aC>(C.d i).co))=true→((oE (⟨3,0,0,0,0,0,false,0,0,0,⟨#[]⟩,⟨#[]⟩,⟨#[]⟩,0,ms.aC,ms.bU,ms.bY,ms.bN,ms.cc,ms.aY⟩:bo))∧((!(gD (⟨3,0,0,0,0,0,false,0,0,0,⟨#[]⟩,⟨#[]⟩,⟨#[]⟩,0,ms.aC,ms.bU,ms.bY,ms.bN,ms.cc,ms.aY⟩:bo) (C.d i)))=false→(ms.aC≤9223372036854775807))))
theorem ayD(i:Nat)(c:i<3)(ms:ah)(C:ak)(b:ez C)(j:ms.i.n≤549755813888)(g:ms.bN.n≤549755813888)(h:ms.aY.n≤549755813888)(f:ms.aC≤4194304):Vx i ms C:=by
 have a:=gE b i c;unfold fw at a;unfold Vx;exact((fun d=>⟨(by apply q3),(fun e=>(by omega))⟩))
theorem awr(i:Nat)(a:i<3)(ms:ah)(f:ms.i.n≤549755813888)(d:ms.bN.n≤549755813888)(e:ms.aY.n≤549755813888):eP Tryz.prog 68 (N6 i) b4 [] (cA fun C=>⟨⟨some (ms.aC≤4194304),[],ca aH 0 (C.set i (n0 ms (C.d i)))⟩⟩) (ig ms):=by
 refine fW fun C b=>fun c=>ef (XV i) (aqP i ms C) (Vx i ms C) (bJ 10 (aG avO aT) (aj (FQ i a) (aj (xW i a) bI))) Tryz.func68 (List.replicate 31 .f++List.replicate 62 .l++[.f,.f]++List.replicate 7 .l) ?_ ?_ (ayD i a ms C b f d e c)
 ·rcases bV a with rfl|rfl|rfl<;>kernel_rfl
 ·rcases bV a with rfl|rfl|rfl<;>kernel_rfl
theorem azn(i:Nat)(c:i<3):fO 68 (N6 i):=
 jq (bm:=[a,a,a,a,a,a,l,a,.ab dh,a,a,a,.ab bd,a,.ab bT]) fun s b=>Eq.mp (by rcases bV c with rfl|rfl|rfl<;>kernel_rfl) (awr i c ⟨s.1,s.2.1,s.2.2.1,s.2.2.2.1,s.2.2.2.2.1,s.2.2.2.2.2.1,s.2.2.2.2.2.2.1,s.2.2.2.2.2.2.2.1,s.2.2.2.2.2.2.2.2.1,s.2.2.2.2.2.2.2.2.2.1,s.2.2.2.2.2.2.2.2.2.2.1,s.2.2.2.2.2.2.2.2.2.2.2.1,s.2.2.2.2.2.2.2.2.2.2.2.2.1,s.2.2.2.2.2.2.2.2.2.2.2.2.2.1,s.2.2.2.2.2.2.2.2.2.2.2.2.2.2.1⟩ (b.2.2.2.2.2.2.2.2.1 rfl) (b.2.2.2.2.2.2.2.2.2.2.2.2.1 rfl) (b.2.2.2.2.2.2.2.2.2.2.2.2.2.2.1 rfl))
theorem s0(i:Nat)(a:i<3):fP 68 (N6 i):=gj fV Tryz.func68 (azn i a)
end
section
variable(i:Nat)(ms:ah)(C:ak)(d:H)(F:G ah)(O:G bF)(ar:G aM)
def At(a:G Int)(b:Int):H:={d with aX:=a,bc:=b}
def ja(ms:ah)(d:H)(F:G ah)(O:G bF)(ar:G aM):Nat→Int→G Int→Int→Bool×G Int×Int×ru
 |0,_,_,_=>default
 |k+1,a,b,c=>(cond (decide (a≤(i64.wrap ((b9 d.j d.lt d.li ms.w ms.m ms.i)+((bZ d.j d.lt d.li ms.w ms.m ms.i).n:Int))))) (cond (!(gD (⟨2,0,0,a,((bZ d.j d.lt d.li ms.w ms.m ms.i).at' (toNat (i64.wrap ((i64.wrap (a- (b9 d.j d.lt d.li ms.w ms.m ms.i)))-1)))).q,((bZ d.j d.lt d.li ms.w ms.m ms.i).at' (toNat (i64.wrap ((i64.wrap (a- (b9 d.j d.lt d.li ms.w ms.m ms.i)))-1)))).C,((bZ d.j d.lt d.li ms.w ms.m ms.i).at' (toNat (i64.wrap ((i64.wrap (a- (b9 d.j d.lt d.li ms.w ms.m ms.i)))-1)))).z,((bZ d.j d.lt d.li ms.w ms.m ms.i).at' (toNat (i64.wrap ((i64.wrap (a- (b9 d.j d.lt d.li ms.w ms.m ms.i)))-1)))).I,((bZ d.j d.lt d.li ms.w ms.m ms.i).at' (toNat (i64.wrap ((i64.wrap (a- (b9 d.j d.lt d.li ms.w ms.m ms.i)))-1)))).w,((bZ d.j d.lt d.li ms.w ms.m ms.i).at' (toNat (i64.wrap ((i64.wrap (a- (b9 d.j d.lt d.li ms.w ms.m ms.i)))-1)))).m,((bZ d.j d.lt d.li ms.w ms.m ms.i).at' (toNat (i64.wrap ((i64.wrap (a- (b9 d.j d.lt d.li ms.w ms.m ms.i)))-1)))).N,((bZ d.j d.lt d.li ms.w ms.m ms.i).at' (toNat (i64.wrap ((i64.wrap (a- (b9 d.j d.lt d.li ms.w ms.m ms.i)))-1)))).ao,((bZ d.j d.lt d.li ms.w ms.m ms.i).at' (toNat (i64.wrap ((i64.wrap (a- (b9 d.j d.lt d.li ms.w ms.m ms.i)))-1)))).i,((bZ d.j d.lt d.li ms.w ms.m ms.i).at' (toNat (i64.wrap ((i64.wrap (a- (b9 d.j d.lt d.li ms.w ms.m ms.i)))-1)))).aC,0,0,0,(D:G L),0,(D:G aw)⟩:bo) (At d b c))) (true,default,default,(yA d F O ar)) (ja ms d F O ar k (i64.wrap (a+1)) (fr (⟨2,0,0,a,((bZ d.j d.lt d.li ms.w ms.m ms.i).at' (toNat (i64.wrap ((i64.wrap (a- (b9 d.j d.lt d.li ms.w ms.m ms.i)))-1)))).q,((bZ d.j d.lt d.li ms.w ms.m ms.i).at' (toNat (i64.wrap ((i64.wrap (a- (b9 d.j d.lt d.li ms.w ms.m ms.i)))-1)))).C,((bZ d.j d.lt d.li ms.w ms.m ms.i).at' (toNat (i64.wrap ((i64.wrap (a- (b9 d.j d.lt d.li ms.w ms.m ms.i)))-1)))).z,((bZ d.j d.lt d.li ms.w ms.m ms.i).at' (toNat (i64.wrap ((i64.wrap (a- (b9 d.j d.lt d.li ms.w ms.m ms.i)))-1)))).I,((bZ d.j d.lt d.li ms.w ms.m ms.i).at' (toNat (i64.wrap ((i64.wrap (a- (b9 d.j d.lt d.li ms.w ms.m ms.i)))-1)))).w,((bZ d.j d.lt d.li ms.w ms.m ms.i).at' (toNat (i64.wrap ((i64.wrap (a- (b9 d.j d.lt d.li ms.w ms.m ms.i)))-1)))).m,((bZ d.j d.lt d.li ms.w ms.m ms.i).at' (toNat (i64.wrap ((i64.wrap (a- (b9 d.j d.lt d.li ms.w ms.m ms.i)))-1)))).N,((bZ d.j d.lt d.li ms.w ms.m ms.i).at' (toNat (i64.wrap ((i64.wrap (a- (b9 d.j d.lt d.li ms.w ms.m ms.i)))-1)))).ao,((bZ d.j d.lt d.li ms.w ms.m ms.i).at' (toNat (i64.wrap ((i64.wrap (a- (b9 d.j d.lt d.li ms.w ms.m ms.i)))-1)))).i,((bZ d.j d.lt d.li ms.w ms.m ms.i).at' (toNat (i64.wrap ((i64.wrap (a- (b9 d.j d.lt d.li ms.w ms.m ms.i)))-1)))).aC,0,0,0,(D:G L),0,(D:G aw)⟩:bo) (At d b c)).aX (fr (⟨2,0,0,a,((bZ d.j d.lt d.li ms.w ms.m ms.i).at' (toNat (i64.wrap ((i64.wrap (a- (b9 d.j d.lt d.li ms.w ms.m ms.i)))-1)))).q,((bZ d.j d.lt d.li ms.w ms.m ms.i).at' (toNat (i64.wrap ((i64.wrap (a- (b9 d.j d.lt d.li ms.w ms.m ms.i)))-1)))).C,((bZ d.j d.lt d.li ms.w ms.m ms.i).at' (toNat (i64.wrap ((i64.wrap (a- (b9 d.j d.lt d.li ms.w ms.m ms.i)))-1)))).z,((bZ d.j d.lt d.li ms.w ms.m ms.i).at' (toNat (i64.wrap ((i64.wrap (a- (b9 d.j d.lt d.li ms.w ms.m ms.i)))-1)))).I,((bZ d.j d.lt d.li ms.w ms.m ms.i).at' (toNat (i64.wrap ((i64.wrap (a- (b9 d.j d.lt d.li ms.w ms.m ms.i)))-1)))).w,((bZ d.j d.lt d.li ms.w ms.m ms.i).at' (toNat (i64.wrap ((i64.wrap (a- (b9 d.j d.lt d.li ms.w ms.m ms.i)))-1)))).m,((bZ d.j d.lt d.li ms.w ms.m ms.i).at' (toNat (i64.wrap ((i64.wrap (a- (b9 d.j d.lt d.li ms.w ms.m ms.i)))-1)))).N,((bZ d.j d.lt d.li ms.w ms.m ms.i).at' (toNat (i64.wrap ((i64.wrap (a- (b9 d.j d.lt d.li ms.w ms.m ms.i)))-1)))).ao,((bZ d.j d.lt d.li ms.w ms.m ms.i).at' (toNat (i64.wrap ((i64.wrap (a- (b9 d.j d.lt d.li ms.w ms.m ms.i)))-1)))).i,((bZ d.j d.lt d.li ms.w ms.m ms.i).at' (toNat (i64.wrap ((i64.wrap (a- (b9 d.j d.lt d.li ms.w ms.m ms.i)))-1)))).aC,0,0,0,(D:G L),0,(D:G aw)⟩:bo) (At d b c)).bc)) (false,b,c,default))
def iC:Bool×G Int×Int×ru:=ja ms d F O ar ((toNat ((i64.wrap ((b9 d.j d.lt d.li ms.w ms.m ms.i)+((bZ d.j d.lt d.li ms.w ms.m ms.i).n:Int)))+1- (dp d.j d.lt d.li ms.w ms.m ms.i)))+1) (dp d.j d.lt d.li ms.w ms.m ms.i) d.aX d.bc
def w7:Bool:=(cond (iC ms d F O ar).1 false true)
def lA:Int:=(cond (decide ((dp d.j d.lt d.li ms.w ms.m ms.i)>0)) (b9 d.j d.lt d.li ms.w ms.m ms.i) d.j)
def Ar:Int:=(cond (decide ((dp d.j d.lt d.li ms.w ms.m ms.i)>0)) (sA d.j d.lt d.li ms.w ms.m ms.i) d.lt)
def ky:G aq:=(cond (decide ((dp d.j d.lt d.li ms.w ms.m ms.i)>0)) (bZ d.j d.lt d.li ms.w ms.m ms.i) d.li)
def uC:G Int:=(cond (decide ((dp d.j d.lt d.li ms.w ms.m ms.i)>0)) (iC ms d F O ar).2.1 d.aX)
def As:Int:=(cond (decide ((dp d.j d.lt d.li ms.w ms.m ms.i)>0)) (iC ms d F O ar).2.2.1 d.bc)
def j0:Bool:=(cond (decide ((dp d.j d.lt d.li ms.w ms.m ms.i)>0)) (cond (w7 ms d F O ar) true false) true)
def w8:H:={d with j:=(lA ms d),lt:=(Ar ms d),li:=(ky ms d),aX:=(uC ms d F O ar),bc:=(As ms d F O ar)}
def nZ:H:=(H.bif ((hI d.j d.lt d.li ms.w ms.m ms.i)!=0) d (H.bif (!(im d.j d.lt d.li ms.w ms.m ms.i)) (et ms.q (⟨0,0,6,d.a6,d.co,0,false,0,(D:G aq),0,0,0,(D:G L),0,(D:G aw)⟩:ah) d) (H.bif (j0 ms d F O ar) (o6 (fs ms.ao (i64.wrap (ms.w+(ms.i.n:Int)))) (et ms.q (⟨0,0,6,d.a6,(i64.wrap (ms.w+(ms.i.n:Int))),0,true,0,(D:G aq),0,0,0,(D:G L),0,(D:G aw)⟩:ah) (w8 ms d F O ar)) O) (Bt (iC ms d F O ar).2.2.2))))
def EG:G ah:=(cond ((hI d.j d.lt d.li ms.w ms.m ms.i)!=0) F (cond (!(im d.j d.lt d.li ms.w ms.m ms.i)) F (cond (j0 ms d F O ar) F (aeP (iC ms d F O ar).2.2.2))))
def EI:G bF:=(cond ((hI d.j d.lt d.li ms.w ms.m ms.i)!=0) O (cond (!(im d.j d.lt d.li ms.w ms.m ms.i)) O (cond (j0 ms d F O ar) (xb (fs ms.ao (i64.wrap (ms.w+(ms.i.n:Int)))) (et ms.q (⟨0,0,6,d.a6,(i64.wrap (ms.w+(ms.i.n:Int))),0,true,0,(D:G aq),0,0,0,(D:G L),0,(D:G aw)⟩:ah) (w8 ms d F O ar)) O) (aeT (iC ms d F O ar).2.2.2))))
def EH:G aM:=(cond ((hI d.j d.lt d.li ms.w ms.m ms.i)!=0) ar (cond (!(im d.j d.lt d.li ms.w ms.m ms.i)) ar (cond (j0 ms d F O ar) ar (aeS (iC ms d F O ar).2.2.2))))
theorem PF(ms:ah)(d:H)(b:hI d.j d.lt d.li ms.w ms.m ms.i=0)(f:(!(im d.j d.lt d.li ms.w ms.m ms.i))=false):lA ms d=d.j∧ms.w+(ms.i.n:Int)≤d.j+((ky ms d).n:Int)∧(ky ms d).n≤200:=by
 have h:=afv b (by simpa using f);have c:=eS _ _ _ h.2.2.1;unfold lA ky
 by_cases a:dp d.j d.lt d.li ms.w ms.m ms.i>0
 ·rw[bS a];simp only[aQ];exact⟨h.1,h.2.2.2.1,c.2.2.1⟩
 ·rw[bp a];simp only[aS];rcases h.2.2.2.2.1 with⟨_,e⟩|e
  ·rw[e]at h c;exact⟨trivial,h.2.2.2.1,c.2.2.1⟩
  ·have:=h.2.1;omega
def N5:c8:=⟨[.p 0,.fa 0 (33*i),.g [a,a,a,a,a,a,l,a,.ab dh,a,a,a,.ab bd,a,.ab bT]],b4,eH,eu,fun(c:Int) (d:Int) (k:Int) (m:Int) (n:Int) (o:Int) p (q:Int) r (s:Int) (e:Int) (f:Int) g (h:Int) j=>cA fun C=>let b:=C.d i;⟨⟨some (dS b.li∧dS (⟨c,d,k,m,n,o,p,q,r,s,e,f,g,h,j⟩:ah).i∧C.told.n≤541000000000∧b.ws.n≤3000∧0≤b.j∧b.j≤b.co∧b.co≤4194304),[],ca aH 0 (C.put i (nZ (⟨c,d,k,m,n,o,p,q,r,s,e,f,g,h,j⟩:ah) b C.ag C.told C.a8) (EG (⟨c,d,k,m,n,o,p,q,r,s,e,f,g,h,j⟩:ah) b C.ag C.told C.a8) (EI (⟨c,d,k,m,n,o,p,q,r,s,e,f,g,h,j⟩:ah) b C.ag C.told C.a8) (EH (⟨c,d,k,m,n,o,p,q,r,s,e,f,g,h,j⟩:ah) b C.ag C.told C.a8))⟩⟩⟩
def XU:cG:=⟨.eB true [] [] (yw i aH 0 [] 0 C) (x0 i aH),[],[]++v5 i aH,⟨[],[]⟩⟩
def aqO:cb (XU i C).b1:=let o:=i64.wrap (ms.w+(ms.i.n:Int));let d:=C.d i;let p:=w8 ms d C.ag C.told C.a8;let n:=sA d.j d.lt d.li ms.w ms.m ms.i;let j:=dp d.j d.lt d.li ms.w ms.m ms.i;let g:=b9 d.j d.lt d.li ms.w ms.m ms.i;let f:=bZ d.j d.lt d.li ms.w ms.m ms.i;let h:=i64.wrap (g+(f.n:Int));(.ae (.ae (.ae (.s (.ae (.s (.s (.lG [(0,(33*i+4)),(0,(33*i+19))]) (.bO ⟨([.ptr 0 0,.ptr 0 (33*i+0),U,U,U,.ptr 10 0,.ptr 11 0,U,b j]++(us 99 ([]))),cd aH 2 (C.set i (et ms.q (⟨0,0,6,d.a6,d.co,0,false,0,(D:G aq),0,0,0,(D:G L),0,(D:G aw)⟩:ah) d)) [(10,(ig ms)),(11,[b g,b n,aI 10 dU f])]⟩ .z)) .z)) (.j ⟨35,[.b 11],[(.h 0 (33*i+6),a),(.h 0 (33*i+7),a),(.h 0 (33*i+8),.ab dh),(.h 0 (33*i+30),.ab a5),(.h 0 (33*i+31),a)],[],.f⟩ (.ae (.s (.ae (.j ⟨99,[],[],[],.f⟩ (.ae (.x3 ⟨3171,[],[],[(.t 11,a),(.h 0 (33*i+30),.ab a5),(.h 0 (33*i+31),a)],some 0,true,99,[.b 12],[(.h 0 (33*i+30),.ab a5),(.h 0 (33*i+31),a)],fun k (s:Int×G Int×Int)=>ja ms d C.ag C.told C.a8 k s.1 s.2.1 s.2.2,.f,fun(s:Int×G Int×Int)=>(j≤s.1∧(s.1≤h+1∨s.1=j)),fun(s:Int×G Int×Int)=>(toNat (h+1-s.1)),none⟩ (fun(e:Int×G Int×Int)=>let r:=At d e.2.1 e.2.2;let m:=i64.wrap (e.1-g);let q:=i64.wrap (m-1);let t:=toNat q;let c:=f.at' t;let l:=gD (⟨2,0,0,e.1,c.q,c.C,c.z,c.I,c.w,c.m,c.N,c.ao,c.i,c.aC,0,0,0,(D:G L),0,(D:G aw)⟩:bo) r;(.ae (.s (.ae (.bO ⟨([.ptr 0 0,.ptr 0 (33*i+0),U,U,U,.ptr 10 0,.ptr 11 0,U,U,U,.ptr 12 0,b e.1]++(us 41 (([b e.1,.ptr 11 0,b g,.ptr 11 2,aI 10 dU f,b (f.n:Int),b h,.bool (decide (e.1≤h)),U,U,.ptr 0 (33*i+0),b e.1,.ptr 11 2,aI 10 dU f,b e.1,.ptr 11 0,b g,b m,b q,.ref [b c.q,b c.C,.bool c.z,b c.I,b c.w,b c.m,.str c.N,.str c.ao,.str c.i,b c.aC],.agg [b c.q,b c.C,.bool c.z,b c.I,b c.w,b c.m,.str c.N,.str c.ao,.str c.i,b c.aC],.agg [b 2,b 0,b 0,b e.1,b c.q,b c.C,.bool c.z,b c.I,b c.w,b c.m,.str c.N,.str c.ao,.str c.i,b c.aC,b 0,b 0,b 0,.aA,b 0,.aA],.bool l,.bool (!l)]++(us 31 ([])))))),cd aH 3 (C.set i (fr (⟨2,0,0,e.1,c.q,c.C,c.z,c.I,c.w,c.m,c.N,c.ao,c.i,c.aC,0,0,0,(D:G L),0,(D:G aw)⟩:bo) r)) [(10,(ig ms)),(11,[b g,b n,aI 10 dU f]),(12,[aI 1 cN d.aX,b d.bc])]⟩ .z)) .z))))) .z)) .z)) (.bO ⟨([.ptr 0 0,.ptr 0 (33*i+0),U,U,U,.ptr 10 0]++(us 102 ([]))),cd aH 1 (C.set i p) [(10,(ig ms))]⟩ (.ae (.s (.lG [(0,(33*i+4))]) (.bO ⟨([.ptr 0 0,.ptr 0 (33*i+0),U,U,U,.ptr 10 0]++(us 6 (([b o]++(us 95 ([])))))),cd aH 1 (C.set i (et ms.q (⟨0,0,6,d.a6,o,0,true,0,(D:G aq),0,0,0,(D:G L),0,(D:G aw)⟩:ah) p)) [(10,(ig ms))]⟩ .z)))))))))
def Vw(i:Nat)(ms:ah)(C:ak):Prop:=(((hI (C.d i).j (C.d i).lt (C.d i).li ms.w ms.m ms.i)!=0)=false→((!(im (C.d i).j (C.d i).lt (C.d i).li ms.w ms.m ms.i))=false→(((decide ((dp (C.d i).j (C.d i).lt (C.d i).li ms.w ms.m ms.i)>0))=true→((((dp (C.d i).j (C.d i).lt (C.d i).li ms.w ms.m ms.i)≤(dp (C.d i).j (C.d i).lt (C.d i).li ms.w ms.m ms.i)∧((dp (C.d i).j (C.d i).lt (C.d i).li ms.w ms.m ms.i)≤(i64.wrap ((b9 (C.d i).j (C.d i).lt (C.d i).li ms.w ms.m ms.i)+((bZ (C.d i).j (C.d i).lt (C.d i).li ms.w ms.m ms.i).n:Int)))+1∨(dp (C.d i).j (C.d i).lt (C.d i).li ms.w ms.m ms.i)=(dp (C.d i).j (C.d i).lt (C.d i).li ms.w ms.m ms.i))))∧(∀(a:Int) (b:G Int) (c:Int),((dp (C.d i).j (C.d i).lt (C.d i).li ms.w ms.m ms.i)≤a∧(a≤(i64.wrap ((b9 (C.d i).j (C.d i).lt (C.d i).li ms.w ms.m ms.i)+((bZ (C.d i).j (C.d i).lt (C.d i).li ms.w ms.m ms.i).n:Int)))+1∨a=(dp (C.d i).j (C.d i).lt (C.d i).li ms.w ms.m ms.i)))→(((decide (a≤(i64.wrap ((b9 (C.d i).j (C.d i).lt (C.d i).li ms.w ms.m ms.i)+((bZ (C.d i).j (C.d i).lt (C.d i).li ms.w ms.m ms.i).n:Int)))))=true→(((0:Int)≤(i64.wrap ((i64.wrap (a- (b9 (C.d i).j (C.d i).lt (C.d i).li ms.w ms.m ms.i)))-1))∧(i64.wrap ((i64.wrap (a- (b9 (C.d i).j (C.d i).lt (C.d i).li ms.w ms.m ms.i)))-1))<(((bZ (C.d i).j (C.d i).lt (C.d i).li ms.w ms.m ms.i).n:Nat):Int))∧(oE (⟨2,0,0,a,((bZ (C.d i).j (C.d i).lt (C.d i).li ms.w ms.m ms.i).at' (toNat (i64.wrap ((i64.wrap (a- (b9 (C.d i).j (C.d i).lt (C.d i).li ms.w ms.m ms.i)))-1)))).q,((bZ (C.d i).j (C.d i).lt (C.d i).li ms.w ms.m ms.i).at' (toNat (i64.wrap ((i64.wrap (a- (b9 (C.d i).j (C.d i).lt (C.d i).li ms.w ms.m ms.i)))-1)))).C,((bZ (C.d i).j (C.d i).lt (C.d i).li ms.w ms.m ms.i).at' (toNat (i64.wrap ((i64.wrap (a- (b9 (C.d i).j (C.d i).lt (C.d i).li ms.w ms.m ms.i)))-1)))).z,((bZ (C.d i).j (C.d i).lt (C.d i).li ms.w ms.m ms.i).at' (toNat (i64.wrap ((i64.wrap (a- (b9 (C.d i).j (C.d i).lt (C.d i).li ms.w ms.m ms.i)))-1)))).I,((bZ (C.d i).j (C.d i).lt (C.d i).li ms.w ms.m ms.i).at' (toNat (i64.wrap ((i64.wrap (a- (b9 (C.d i).j (C.d i).lt (C.d i).li ms.w ms.m ms.i)))-1)))).w,((bZ (C.d i).j (C.d i).lt (C.d i).li ms.w ms.m ms.i).at' (toNat (i64.wrap ((i64.wrap (a- (b9 (C.d i).j (C.d i).lt (C.d i).li ms.w ms.m ms.i)))-1)))).m,((bZ (C.d i).j (C.d i).lt (C.d i).li ms.w ms.m ms.i).at' (toNat (i64.wrap ((i64.wrap (a- (b9 (C.d i).j (C.d i).lt (C.d i).li ms.w ms.m ms.i)))-1)))).N,((bZ (C.d i).j (C.d i).lt (C.d i).li ms.w ms.m ms.i).at' (toNat (i64.wrap ((i64.wrap (a- (b9 (C.d i).j (C.d i).lt (C.d i).li ms.w ms.m ms.i)))-1)))).ao,((bZ (C.d i).j (C.d i).lt (C.d i).li ms.w ms.m ms.i).at' (toNat (i64.wrap ((i64.wrap (a- (b9 (C.d i).j (C.d i).lt (C.d i).li ms.w ms.m ms.i)))-1)))).i,((bZ (C.d i).j (C.d i).lt (C.d i).li ms.w ms.m ms.i).at' (toNat (i64.wrap ((i64.wrap (a- (b9 (C.d i).j (C.d i).lt (C.d i).li ms.w ms.m ms.i)))-1)))).aC,0,0,0,(D:G L),0,(D:G aw)⟩:bo))))∧((decide (a≤(i64.wrap ((b9 (C.d i).j (C.d i).lt (C.d i).li ms.w ms.m ms.i)+((bZ (C.d i).j (C.d i).lt (C.d i).li ms.w ms.m ms.i).n:Int)))))=true→((!(gD (⟨2,0,0,a,((bZ (C.d i).j (C.d i).lt (C.d i).li ms.w ms.m ms.i).at' (toNat (i64.wrap ((i64.wrap (a- (b9 (C.d i).j (C.d i).lt (C.d i).li ms.w ms.m ms.i)))-1)))).q,((bZ (C.d i).j (C.d i).lt (C.d i).li ms.w ms.m ms.i).at' (toNat (i64.wrap ((i64.wrap (a- (b9 (C.d i).j (C.d i).lt (C.d i).li ms.w ms.m ms.i)))-1)))).C,((bZ (C.d i).j (C.d i).lt (C.d i).li ms.w ms.m ms.i).at' (toNat (i64.wrap ((i64.wrap (a- (b9 (C.d i).j (C.d i).lt (C.d i).li ms.w ms.m ms.i)))-1)))).z,((bZ (C.d i).j (C.d i).lt (C.d i).li ms.w ms.m ms.i).at' (toNat (i64.wrap ((i64.wrap (a- (b9 (C.d i).j (C.d i).lt (C.d i).li ms.w ms.m ms.i)))-1)))).I,((bZ (C.d i).j (C.d i).lt (C.d i).li ms.w ms.m ms.i).at' (toNat (i64.wrap ((i64.wrap (a- (b9 (C.d i).j (C.d i).lt (C.d i).li ms.w ms.m ms.i)))-1)))).w,((bZ (C.d i).j (C.d i).lt (C.d i).li ms.w ms.m ms.i).at' (toNat (i64.wrap ((i64.wrap (a- (b9 (C.d i).j (C.d i).lt (C.d i).li ms.w ms.m ms.i)))-1)))).m,((bZ (C.d i).j (C.d i).lt (C.d i).li ms.w ms.m ms.i).at' (toNat (i64.wrap ((i64.wrap (a- (b9 (C.d i).j (C.d i).lt (C.d i).li ms.w ms.m ms.i)))-1)))).N,((bZ (C.d i).j (C.d i).lt (C.d i).li ms.w ms.m ms.i).at' (toNat (i64.wrap ((i64.wrap (a- (b9 (C.d i).j (C.d i).lt (C.d i).li ms.w ms.m ms.i)))-1)))).ao,((bZ (C.d i).j (C.d i).lt (C.d i).li ms.w ms.m ms.i).at' (toNat (i64.wrap ((i64.wrap (a- (b9 (C.d i).j (C.d i).lt (C.d i).li ms.w ms.m ms.i)))-1)))).i,((bZ (C.d i).j (C.d i).lt (C.d i).li ms.w ms.m ms.i).at' (toNat (i64.wrap ((i64.wrap (a- (b9 (C.d i).j (C.d i).lt (C.d i).li ms.w ms.m ms.i)))-1)))).aC,0,0,0,(D:G L),0,(D:G aw)⟩:bo) (At (C.d i) b c)))=false→(((dp (C.d i).j (C.d i).lt (C.d i).li ms.w ms.m ms.i)≤(i64.wrap (a+1))∧((i64.wrap (a+1))≤(i64.wrap ((b9 (C.d i).j (C.d i).lt (C.d i).li ms.w ms.m ms.i)+((bZ (C.d i).j (C.d i).lt (C.d i).li ms.w ms.m ms.i).n:Int)))+1∨(i64.wrap (a+1))=(dp (C.d i).j (C.d i).lt (C.d i).li ms.w ms.m ms.i)))∧(toNat ((i64.wrap ((b9 (C.d i).j (C.d i).lt (C.d i).li ms.w ms.m ms.i)+((bZ (C.d i).j (C.d i).lt (C.d i).li ms.w ms.m ms.i).n:Int)))+1- (i64.wrap (a+1))))<(toNat ((i64.wrap ((b9 (C.d i).j (C.d i).lt (C.d i).li ms.w ms.m ms.i)+((bZ (C.d i).j (C.d i).lt (C.d i).li ms.w ms.m ms.i).n:Int)))+1-a)))))))))∧((j0 ms (C.d i) C.ag C.told C.a8)=true→(C.told.n≤541000000000∧(C.d i).ws.n≤3000∧0≤(lA ms (C.d i))∧(lA ms (C.d i))≤(C.d i).co∧(C.d i).co≤4194304∧(fs ms.ao (i64.wrap (ms.w+(ms.i.n:Int))))≤(lA ms (C.d i))+((ky ms (C.d i)).n:Int)∧(ky ms (C.d i)).n≤200)))))
theorem ayC(i:Nat)(k:i<3)(ms:ah)(C:ak)(j:ez C)(A:ms.i.n≤549755813888)(y:ms.bN.n≤549755813888)(z:ms.aY.n≤549755813888)(l:dS (C.d i).li∧dS ms.i∧C.told.n≤541000000000∧(C.d i).ws.n≤3000∧0≤(C.d i).j∧(C.d i).j≤(C.d i).co∧(C.d i).co≤4194304):Vw i ms C:=by
 have h:=gE j i k;unfold fw at h;unfold Vw;exact have⟨r,s,t,u,v,w,x⟩:=l;((fun a=>(fun m=>⟨(fun d=>⟨(by omega),(fun c B D q=>⟨(fun e=>⟨(by have:=bB a;have:=al d;have:=al e;(try have b:=Bp (by assumption) (by assumption));have:=E ((b9 (C.d i).j (C.d i).lt (C.d i).li ms.w ms.m ms.i)+((bZ (C.d i).j (C.d i).lt (C.d i).li ms.w ms.m ms.i).n:Int));have:=E (c- (b9 (C.d i).j (C.d i).lt (C.d i).li ms.w ms.m ms.i));have:=E ((i64.wrap (c- (b9 (C.d i).j (C.d i).lt (C.d i).li ms.w ms.m ms.i)))-1);omega),(by have:=bB a;have:=al d;have:=al e;have:=trivial;(try have b:=Bp (by assumption) (by assumption));(try have o:=b.2.2.2.2.2.2 (by assumption) (by assumption));(try have g:=PF _ _ (by assumption) (by assumption));repeat first|assumption|apply rR|apply rS|apply tq|apply p3|apply vf|apply lK|apply qO|apply tf|apply te|apply q3|apply qF|apply qG|apply h8|apply tn|apply v_|apply lb|apply jF|apply ns|apply And.intro)⟩),(fun f=>(fun n=>(by have:=bB a;have:=al f;(try have b:=Bp (by assumption) (by assumption));have:=E ((b9 (C.d i).j (C.d i).lt (C.d i).li ms.w ms.m ms.i)+((bZ (C.d i).j (C.d i).lt (C.d i).li ms.w ms.m ms.i).n:Int));have:=E (c+1);omega)))⟩)⟩),(fun p=>(by have:=bB a;(try have b:=Bp (by assumption) (by assumption));(try have g:=PF _ _ (by assumption) (by assumption));have:=ob ms.ao (i64.wrap (ms.w+(ms.i.n:Int)));have:=E (ms.w+(ms.i.n:Int));omega))⟩)))
theorem awq(i:Nat)(a:i<3)(ms:ah)(f:ms.i.n≤549755813888)(d:ms.bN.n≤549755813888)(e:ms.aY.n≤549755813888):eP Tryz.prog 67 (N5 i) b4 [] (cA fun C=>⟨⟨some (dS (C.d i).li∧dS ms.i∧C.told.n≤541000000000∧(C.d i).ws.n≤3000∧0≤(C.d i).j∧(C.d i).j≤(C.d i).co∧(C.d i).co≤4194304),[],ca aH 0 (C.put i (nZ ms (C.d i) C.ag C.told C.a8) (EG ms (C.d i) C.ag C.told C.a8) (EI ms (C.d i) C.ag C.told C.a8) (EH ms (C.d i) C.ag C.told C.a8))⟩⟩) (ig ms):=by
 refine fW fun C b=>fun c=>ef (XU i C) (aqO i ms C) (Vw i ms C) (bJ 10 (aG aeI aT) (aj (FQ i a) (aj (xW i a) (aj (aeD i a) bI)))) Tryz.func67 [] ?_ ?_ (ayC i a ms C b f d e c)
 ·rcases bV a with rfl|rfl|rfl<;>kernel_rfl
 ·rcases bV a with rfl|rfl|rfl<;>kernel_rfl
theorem azm(i:Nat)(c:i<3):fO 67 (N5 i):=
 jq (bm:=[a,a,a,a,a,a,l,a,.ab dh,a,a,a,.ab bd,a,.ab bT]) fun s b=>Eq.mp (by rcases bV c with rfl|rfl|rfl<;>kernel_rfl) (awq i c ⟨s.1,s.2.1,s.2.2.1,s.2.2.2.1,s.2.2.2.2.1,s.2.2.2.2.2.1,s.2.2.2.2.2.2.1,s.2.2.2.2.2.2.2.1,s.2.2.2.2.2.2.2.2.1,s.2.2.2.2.2.2.2.2.2.1,s.2.2.2.2.2.2.2.2.2.2.1,s.2.2.2.2.2.2.2.2.2.2.2.1,s.2.2.2.2.2.2.2.2.2.2.2.2.1,s.2.2.2.2.2.2.2.2.2.2.2.2.2.1,s.2.2.2.2.2.2.2.2.2.2.2.2.2.2.1⟩ (b.2.2.2.2.2.2.2.2.1 rfl) (b.2.2.2.2.2.2.2.2.2.2.2.2.1 rfl) (b.2.2.2.2.2.2.2.2.2.2.2.2.2.2.1 rfl))
theorem sZ(i:Nat)(a:i<3):fP 67 (N5 i):=gj fV Tryz.func67 (azm i a)
end
theorem ahT{l:List Int}(h: ∀x∈l,0≤x∧x≤255):aD (G.lit l):=fun i=>by
 show 0≤l.getD i default∧l.getD i default≤255
 by_cases c:i<l.length
 ·rw[yK,cI c];exact h _ (oz c)
 ·rw[yK,eF (by omega)];exact M5
theorem GX(x:Int):aD (hH x):=ahT fun y a=>by
 simp only[hS,yL,or_false]at a;rcases a with rfl|rfl|rfl<;>exact ahU _
theorem ahR{l:List (G Int)}(h: ∀s∈l,aD s):aD (r7 (G.lit l)):=by
 unfold r7 I6;refine vv (fun _ _=>rfl) (fun _ _ _=>rfl) (fun i t a=>vu a ?_) _ _ _ vw;show aD (l.getD (toNat i) default)
 by_cases c:toNat i<l.length
 ·rw[yK,cI c];exact h _ (oz c)
 ·rw[yK,eF (by omega)];exact WI
theorem WJ(x:Int)(h:0≤x∧x≤255):aD (G.lit [x]):=ahT fun y a=>by
 rw[List.mem_singleton]at a;rw[a];exact h
theorem u64(A g:Int)(r:Bool)(h o c:Int)(v y p:u)(x:Int):aD (o9 A g r h o c v y p x):=by
 unfold o9
 cases (e_ A g r h o c v y p x !=0)
 ·simp only[aS];have a:aD (bb g (bb A (D:G Int))):=lL _ (lL _ vw);unfold DC
  cases r
  ·simp only[aS];have b:=pD 0 a;unfold D2
   cases decide (h>0)
   ·simp only[aS];exact lL _ b
   ·simp only[aQ];unfold Ea;exact lL _ (ra _ (ra _ (ra _ (pD _ (lL _ (lL _ b))))))
  ·exact pD _ a
 ·exact vw
theorem aBK(A g r h o c:Int)(v:Bool)(y p x:Int)(R bz bP:u)(b2 ck dq df:Int)(c_:G L)(dg:Int)(da:G aw):aD (jx A g r h o c v y p x R bz bP b2 ck dq df c_ dg da):=by
 unfold jx
 cases (A==1)
 ·simp only[aS]
  cases (A==2)
  ·simp only[aS];refine ahR fun s a=> ?_;simp only[hS,yL,or_false]at a;rcases a with rfl|rfl|rfl|rfl
   ·exact WJ 3 (by decide)
   ·exact GX _
   ·exact GX _
   ·exact h8 _ _ _ _
  ·exact vu (vu (WJ 2 (by decide)) (GX _)) (u64 _ _ _ _ _ _ _ _ _ _)
 ·exact vu (vu (WJ 1 (by decide)) (GX _)) (WL _)
theorem aBQ{A:G Int}(b:aD A)(g r h o c v y:Int)(p:Bool)(x R bz:Int)(bP b2 ck:u)(dq df c_ dg:Int)(da:G L)(hs:Int)(ht:G aw):aD (xz A g r h o c v y p x R bz bP b2 ck dq df c_ dg da hs ht):=by
 unfold xz
 cases (!(hc A g))
 ·simp only[aS]
  cases (ff r h o c v y p x R bz bP b2 ck dq df c_ dg da hs ht !=0)
  ·simp only[aS];generalize decide ((i64.wrap ((i64.wrap (((br A g).n:Int)+3))+(((jx r h o c v y p x R bz bP b2 ck dq df c_ dg da hs ht).n:Nat):Int)))>400000)=d
   cases d
   ·refine ahR fun s a=> ?_;simp only[hS,yL,or_false]at a;rcases a with rfl|rfl|rfl
    ·exact kK b
    ·exact GX _
    ·exact aBK _ _ _ _ _ _ _ _ _ _ _ _ _ _ _ _ _ _ _ _
   ·exact vw
  ·exact vw
 ·exact vw
theorem tr{rc:bo}{d:H}(h:aD d.aX):aD (fr rc d).aX:=by
 show aD (uN rc d);unfold uN;generalize (xA d.aX d.bc rc.q rc.C rc.z rc.I rc.w rc.m rc.N rc.ao rc.i rc.aC rc.bU rc.bY rc.bN rc.cc rc.aY rc.cU rc.eI rc.ei rc.eJ rc.ej !=0)=b
 cases b
 ·exact aBQ h _ _ _ _ _ _ _ _ _ _ _ _ _ _ _ _ _ _ _ _ _
 ·exact h
section
variable(i:Nat)(ac:aJ)(C:ak)(d:H)
def apt(F:G ah):Int:=(cond (decide ((F.n:Int)>0)) (ac.z.tmod (F.n:Int)) (-1))
def apu:H:={d with bO:=(fs (i64.wrap (d.bO+ac.z)) 1073741824)}
def R5:H:=(apu ac d)
def NG:c8:=⟨[.p 0,.g [a,a,a,a,a,a,ai,ai,ai,a]],b4,eH,eu,fun(b:Int) (c:Int) (d:Int) (e:Int) (f:Int) (g:Int) h j k (l:Int)=>cA fun C=>⟨⟨some (eO C (⟨b,c,d,e,f,g,h,j,k,l⟩:aJ)),[],ca [10,13,11,14,12,15,16,8,9] 7 (C.set i (R5 (⟨b,c,d,e,f,g,h,j,k,l⟩:aJ) (C.d i)))⟩⟩⟩
def XD:cG:=⟨.eB true [.b 10] [.own (.h 0 99) cw 16,.own (.h 0 29) dd 10,.own (.h 0 62) dd 11,.own (.h 0 95) dd 12,.own (.h 0 32) cw 13,.own (.h 0 65) cw 14,.own (.h 0 98) cw 15] (yw i [10,13,11,14,12,15,16,8,9] 7 [] 0 C) (x0 i [10,13,11,14,12,15,16,8,9]),[],[]++v5 i [10,13,11,14,12,15,16,8,9],⟨[],[]⟩⟩
def aqx:cb (XD i C).b1:=(.ae (.ae (.ae (.j ⟨57,[],[(.t 5,a)],[],.f⟩ .z (.bO ⟨([.ptr 0 0,U,U,.ptr 10 0,.ptr 0 (33*i+0),b (apt ac C.ag)]++(us 135 ([]))),cd aH 1 C [(10,[b 5,b (i:Int),b ac.z,b ac.I,b ac.w,b ac.m,.str ac.N,.str ac.ao,.str ac.i,b ac.aC])]⟩ (.ae (.ae (.c false (.ae (.c true .z))))))))))
def Vi(i:Nat)(ac:aJ)(C:ak):Prop:=((decide ((C.ag.n:Int)>0))=true→(((C.ag.n:Int):Int)≠0))
theorem ayn(i:Nat)(e:i<3)(ac:aJ)(C:ak)(d:ez C)(f:ac.N.size≤549755813888)(g:ac.ao.size≤549755813888)(h:ac.i.size≤549755813888)(a:eO C ac):Vi i ac C:=by
 have c:=gE d i e;unfold fw at c;unfold Vi;exact have:=nI a i;have:=(nI a i).j;have:=(nI a i).ws;have:=oN a;have:=a.2.yq;have:=a.2.yr;have:=a.2.ys;have:=a.2.lI;((fun b=>(by have:=al b;omega)))
theorem Up(i:Nat)(a:i<3)(ac:aJ)(e:ac.N.size≤549755813888)(f:ac.ao.size≤549755813888)(g:ac.i.size≤549755813888)(C:ak)(c:ez C)(d:eO C ac):fm Tryz.prog 31 ((NG i).args ([b 5,b (i:Int),b ac.z,b ac.I,b ac.w,b ac.m,.str ac.N,.str ac.ao,.str ac.i,b ac.aC]++hX C)) ((NG i).c3 (([b 5,b (i:Int),b ac.z,b ac.I,b ac.w,b ac.m,.str ac.N,.str ac.ao,.str ac.i,b ac.aC]++hX C).drop (NG i).dE)) [] (ca [10,13,11,14,12,15,16,8,9] 7 (C.set i (R5 ac (C.d i)))):=by
 refine ef (XD i C) (aqx i ac C) (Vi i ac C) (bJ 10 aT bI) Tryz.func31 [] ?_ ?_ (ayn i a ac C c e f g d)
 ·rcases bV a with rfl|rfl|rfl<;>kernel_rfl
 ·rcases bV a with rfl|rfl|rfl<;>kernel_rfl
end
end Go.Proofs.YtfmgjpcmcjjoiaaGreatDoor
