import Derived.Test.YtfmgjpcmcjjoiaaGreatDoorXs
open Go.IntKind (i64 u64 u8)
open Int (toNat)
set_option maxRecDepth 100000
set_option maxHeartbeats 4000000
set_option linter.all false
noncomputable section
namespace Go.Proofs.YtfmgjpcmcjjoiaaGreatDoor
open Go Go.RowKit Go.af
section
variable(i:Nat)(j:Nat)(ms:ah)(C:ak)(d:H)(F:G ah)(O:G bF)(ar:G aM)
def ab6:Bool:=(cond (ms.z==1) true (ms.z==2))
def l5:Bool:=(cond (!(ab6 ms)) (decide (ms.I>d.a6)) false)
def qf:G hz:=(cond (l5 ms d) (Ju (fq ms.I (-1) d)).ws d.ws)
def ly:Int:=(cond (l5 ms d) 0 d.ro)
def qg:Int:=(cond (l5 ms d) (fq ms.I (-1) d).a6 d.a6)
def ab7:Int:=(cond (l5 ms d) (fq ms.I (-1) d).cC d.cC)
def Aj:G Int:=(cond (l5 ms d) (fq ms.I (-1) d).aX d.aX)
def ab8:Int:=(cond (l5 ms d) (fq ms.I (-1) d).bc d.bc)
def w3:Bool:=(cond (l5 ms d) (cond (!(si ms.I (-1) d)) false true) true)
def fK:H:={d with ro:=(ly ms d),a6:=(qg ms d),cC:=(ab7 ms d),ws:=(qf ms d),aX:=(Aj ms d),bc:=(ab8 ms d)}
def w2:Bool:=(cond ((ly ms d)==1) (ms.I==(i64.wrap ((qg ms d)+1))) false)
def iZ:H:=(H.q9 j (fK ms d))
def qe:H:=(H.bif (!d.up) d (H.bif (w3 ms d) (H.bif (ms.z==1) (uA (⟨(j:Int),(i:Int),ms.z,ms.I,ms.w,ms.m,ms.N,ms.ao,ms.i,ms.aC,ms.bU,ms.bY,ms.bN,ms.cc,ms.aY⟩:ah) (fK ms d)) (H.bif (ms.z==2) (H.bif (w2 ms d) (H.bif (jY (iZ j ms d)) (sj (iZ j ms d)) (iZ j ms d)) (fK ms d)) (H.bif (decide (ms.I<(qg ms d))) (H.bif (ms.z !=8) (qh (j:Int) (fK ms d)) (fK ms d)) (H.bif (ms.z==3) (sk (⟨(j:Int),(i:Int),ms.z,ms.I,ms.w,ms.m,ms.N,ms.ao,ms.i,ms.aC,ms.bU,ms.bY,ms.bN,ms.cc,ms.aY⟩:ah) (fK ms d)) (H.bif (ms.z==4) (H.bif ((ly ms d)==2) (H.bif (jY (iZ j ms d)) (w6 (iZ j ms d)) (iZ j ms d)) (fK ms d)) (H.bif (ms.z==5) (nZ (⟨(j:Int),(i:Int),ms.z,ms.I,ms.w,ms.m,ms.N,ms.ao,ms.i,ms.aC,ms.bU,ms.bY,ms.bN,ms.cc,ms.aY⟩:ah) (jZ (fK ms d)) F O ar) (H.bif (ms.z==7) (n0 (⟨(j:Int),(i:Int),ms.z,ms.I,ms.w,ms.m,ms.N,ms.ao,ms.i,ms.aC,ms.bU,ms.bY,ms.bN,ms.cc,ms.aY⟩:ah) (jZ (fK ms d))) (H.bif (ms.z==6) (H.bif ((ly ms d)==3) (uE (⟨(j:Int),(i:Int),ms.z,ms.I,ms.w,ms.m,ms.N,ms.ao,ms.i,ms.aC,ms.bU,ms.bY,ms.bN,ms.cc,ms.aY⟩:ah) (fK ms d) F O ar) (fK ms d)) (fK ms d))))))))) (fq ms.I (-1) d)))
def Ag:G ah:=(cond (!d.up) F (cond (w3 ms d) (cond (ms.z==1) F (cond (ms.z==2) (cond (w2 ms d) (cond (jY (iZ j ms d)) F F) F) (cond (decide (ms.I<(qg ms d))) (cond (ms.z !=8) F F) (cond (ms.z==3) F (cond (ms.z==4) (cond ((ly ms d)==2) (cond (jY (iZ j ms d)) F F) F) (cond (ms.z==5) (EG (⟨(j:Int),(i:Int),ms.z,ms.I,ms.w,ms.m,ms.N,ms.ao,ms.i,ms.aC,ms.bU,ms.bY,ms.bN,ms.cc,ms.aY⟩:ah) (jZ (fK ms d)) F O ar) (cond (ms.z==7) F (cond (ms.z==6) (cond ((ly ms d)==3) (EK (⟨(j:Int),(i:Int),ms.z,ms.I,ms.w,ms.m,ms.N,ms.ao,ms.i,ms.aC,ms.bU,ms.bY,ms.bN,ms.cc,ms.aY⟩:ah) (fK ms d) F O ar) F) F)))))))) F))
def Ai:G bF:=(cond (!d.up) O (cond (w3 ms d) (cond (ms.z==1) O (cond (ms.z==2) (cond (w2 ms d) (cond (jY (iZ j ms d)) O O) O) (cond (decide (ms.I<(qg ms d))) (cond (ms.z !=8) O O) (cond (ms.z==3) O (cond (ms.z==4) (cond ((ly ms d)==2) (cond (jY (iZ j ms d)) O O) O) (cond (ms.z==5) (EI (⟨(j:Int),(i:Int),ms.z,ms.I,ms.w,ms.m,ms.N,ms.ao,ms.i,ms.aC,ms.bU,ms.bY,ms.bN,ms.cc,ms.aY⟩:ah) (jZ (fK ms d)) F O ar) (cond (ms.z==7) O (cond (ms.z==6) (cond ((ly ms d)==3) (EM (⟨(j:Int),(i:Int),ms.z,ms.I,ms.w,ms.m,ms.N,ms.ao,ms.i,ms.aC,ms.bU,ms.bY,ms.bN,ms.cc,ms.aY⟩:ah) (fK ms d) F O ar) O) O)))))))) O))
def Ah:G aM:=(cond (!d.up) ar (cond (w3 ms d) (cond (ms.z==1) ar (cond (ms.z==2) (cond (w2 ms d) (cond (jY (iZ j ms d)) ar ar) ar) (cond (decide (ms.I<(qg ms d))) (cond (ms.z !=8) ar ar) (cond (ms.z==3) ar (cond (ms.z==4) (cond ((ly ms d)==2) (cond (jY (iZ j ms d)) (Sn (iZ j ms d) ar) ar) ar) (cond (ms.z==5) (EH (⟨(j:Int),(i:Int),ms.z,ms.I,ms.w,ms.m,ms.N,ms.ao,ms.i,ms.aC,ms.bU,ms.bY,ms.bN,ms.cc,ms.aY⟩:ah) (jZ (fK ms d)) F O ar) (cond (ms.z==7) ar (cond (ms.z==6) (cond ((ly ms d)==3) (EL (⟨(j:Int),(i:Int),ms.z,ms.I,ms.w,ms.m,ms.N,ms.ao,ms.i,ms.aC,ms.bU,ms.bY,ms.bN,ms.cc,ms.aY⟩:ah) (fK ms d) F O ar) ar) ar)))))))) ar))
theorem aCr(ms:ah)(d:H)(h:d.ws.n≤3000):(jZ (fK ms d)).ws.n≤3000:=by
 have a:(D:G hz).n≤3000:=cf _;have e:(qf ms d).n≤3000:=by
  unfold qf
  cases l5 ms d
  ·exact h
  ·exact a
 show(cond ((fK ms d).ro==2) (D:G hz) (qf ms d)).n≤3000
 cases ((fK ms d).ro==2)
 ·exact e
 ·exact a
theorem WQ(ms:ah)(d:H)(h:d.ws.n≤3000):(qf ms d).n≤3000:=by
 have a:(D:G hz).n≤3000:=cf _;unfold qf
 cases l5 ms d
 ·exact h
 ·exact a
def NP:c8:=⟨[.p 0,.g [a,a,a,a,a,a,l,a,.ab dh,a,a,a,.ab bd,a,.ab bT]],b4,eH,eu,fun(b:Int) (c:Int) (k:Int) (m:Int) (n:Int) (o:Int) p (q:Int) r (s:Int) (d:Int) (e:Int) f (g:Int) h=>cA fun C=>⟨⟨some (js (C.d i)∧gQ (⟨b,c,k,m,n,o,p,q,r,s,d,e,f,g,h⟩:ah)∧C.told.n≤541000000000∧C.a8.n≤549000000000),[],ca [10,2,11,4,12,6,7,8,9] 3 (C.put i (qe i j (⟨b,c,k,m,n,o,p,q,r,s,d,e,f,g,h⟩:ah) (C.d i) C.ag C.told C.a8) (Ag i j (⟨b,c,k,m,n,o,p,q,r,s,d,e,f,g,h⟩:ah) (C.d i) C.ag C.told C.a8) (Ai i j (⟨b,c,k,m,n,o,p,q,r,s,d,e,f,g,h⟩:ah) (C.d i) C.ag C.told C.a8) (Ah i j (⟨b,c,k,m,n,o,p,q,r,s,d,e,f,g,h⟩:ah) (C.d i) C.ag C.told C.a8))⟩⟩⟩
def pU:cG:=⟨.eB true [.b 10] [.own (.h 0 29) dd 10,.own (.h 0 62) dd 11,.own (.h 0 95) dd 12] (yw i [10,2,11,4,12,6,7,8,9] 3 [] 0 C) (x0 i [10,2,11,4,12,6,7,8,9]),[],[]++v5 i [10,2,11,4,12,6,7,8,9],⟨[],[]⟩⟩
def sG:cb (pU i C).b1:=let d:=C.d i;let f:=fK ms d;let e:=iZ j ms d;let b:=aH.set (2*i) 45;let c:=C.set i f;(.ae (.ae (.ae (.j ⟨57,[],[(.t 5,l)],[],.f⟩ .z (.bO ⟨([.ptr 0 0,U,U,.ptr 10 0,.ptr 0 (33*i+0),.bool (ab6 ms)]++(us 147 ([]))),cd aH 1 C [(10,(iN (j:Int) (i:Int) ms))]⟩ (.xT ⟨25,[],[(.h 45 0,.ad dd),(.h 0 (33*i+3),a),(.h 0 (33*i+4),a),(.h 0 (33*i+5),a),(.h 0 (33*i+30),.ab a5),(.h 0 (33*i+31),a)],[],.f⟩ [.own (.h 0 (33*i+29)) dd 45] (.j ⟨34359738393,[],[(.t 35,l)],[],.f⟩ .z (.bO ⟨([.ptr 0 0,U,U,.ptr 10 0,.ptr 0 (33*i+0)]++(us 30 (([.bool (l5 ms d)]++(us 117 ([])))))),cd aH 1 C [(10,(iN (j:Int) (i:Int) ms))]⟩ (.s (.s (.ae (.bO ⟨([.ptr 0 0,U,U,.ptr 10 0,.ptr 0 (33*i+0)]++(us 35 (([.bool (!(si ms.I (-1) d))]++(us 112 ([])))))),cd aH 1 (C.set i (fq ms.I (-1) d)) [(10,(iN (j:Int) (i:Int) ms))]⟩ .z)) .z) .z))) (.bO ⟨([.ptr 0 0,U,U,.ptr 10 0,.ptr 0 (33*i+0)]++(us 148 ([]))),cd b 36 c [(10,(iN (j:Int) (i:Int) ms))]⟩ (.ae (.ae (.ae (.bO ⟨([.ptr 0 0,U,U,.ptr 10 0,.ptr 0 (33*i+0)]++(us 45 (([.bool (ms.z==2)]++(us 102 ([])))))),cd b 36 c [(10,(iN (j:Int) (i:Int) ms))]⟩ (.s (.j ⟨295147905179352825880,[],[(.t 68,l)],[],.f⟩ .z (.bO ⟨([U,U,U,.ptr 10 0,.ptr 0 (33*i+0)]++(us 63 (([.bool (w2 ms d)]++(us 84 ([])))))),cd b 36 c [(10,(iN (j:Int) (i:Int) ms))]⟩ (.s (.ae (.ae (.bO ⟨([U,U,U,U,.ptr 0 (33*i+0)]++(us 71 (([.bool (jY e)]++(us 76 ([])))))),cd b 36 (C.set i e) [(10,(iN (j:Int) (i:Int) ms))]⟩ .z))) .z))) (.ae (.bO ⟨([.ptr 0 0,U,U,.ptr 10 0,.ptr 0 (33*i+0)]++(us 74 (([.bool (decide (ms.I<(qg ms d)))]++(us 73 ([])))))),cd b 36 c [(10,(iN (j:Int) (i:Int) ms))]⟩ (.ae (.ae (.bO ⟨([.ptr 0 0,U,U,.ptr 10 0,.ptr 0 (33*i+0)]++(us 89 (([.bool (ms.z==3)]++(us 58 ([])))))),cd b 36 c [(10,(iN (j:Int) (i:Int) ms))]⟩ (.ae (.ae (.bO ⟨([.ptr 0 0,U,U,.ptr 10 0,.ptr 0 (33*i+0)]++(us 96 (([.bool (ms.z==4)]++(us 51 ([])))))),cd b 36 c [(10,(iN (j:Int) (i:Int) ms))]⟩ (.s (.ae (.s (.ae (.ae (.bO ⟨([.ptr 0 0,U,U,U,.ptr 0 (33*i+0)]++(us 112 (([.bool (jY e)]++(us 35 ([])))))),cd b 36 (C.set i e) [(10,(iN (j:Int) (i:Int) ms))]⟩ .z))) .z)) (.ae (.bO ⟨([.ptr 0 0,U,U,.ptr 10 0,.ptr 0 (33*i+0)]++(us 116 (([.bool (ms.z==5)]++(us 31 ([])))))),cd b 36 c [(10,(iN (j:Int) (i:Int) ms))]⟩ (.s (.ae (.bO ⟨([.ptr 0 0,U,U,.ptr 10 0,.ptr 0 (33*i+0)]++(us 148 ([]))),cd (aH.set (2*i) 78) 69 (C.set i (jZ f)) [(10,(iN (j:Int) (i:Int) ms)),(45,[dk])]⟩ .z)) (.ae (.bO ⟨([.ptr 0 0,U,U,.ptr 10 0,.ptr 0 (33*i+0)]++(us 126 (([.bool (ms.z==7)]++(us 21 ([])))))),cd b 36 c [(10,(iN (j:Int) (i:Int) ms))]⟩ (.s (.ae (.bO ⟨([U,U,U,.ptr 10 0,.ptr 0 (33*i+0)]++(us 148 ([]))),cd (aH.set (2*i) 78) 69 (C.set i (jZ f)) [(10,(iN (j:Int) (i:Int) ms)),(45,[dk])]⟩ .z)) (.ae (.bO ⟨([.ptr 0 0,U,U,.ptr 10 0,.ptr 0 (33*i+0)]++(us 135 (([.bool (ms.z==6)]++(us 12 ([])))))),cd b 36 c [(10,(iN (j:Int) (i:Int) ms))]⟩ .z)))))))))))))))))))))))))))))
def pv(i:Nat)(j:Nat)(ms:ah)(C:ak):Prop:=((!(C.d i).up)=false→((w3 ms (C.d i))=true→((ms.z==1)=false→(((ms.z==2)=true→((w2 ms (C.d i))=true→((jY (iZ j ms (C.d i)))=true→(0≤(C.d i).bh∧(C.d i).bh<3))))∧((ms.z==2)=false→((decide (ms.I<(qg ms (C.d i))))=false→((ms.z==3)=false→(((ms.z==4)=true→(((ly ms (C.d i))==2)=true→((jY (iZ j ms (C.d i)))=true→(C.a8.n≤549000000000∧0≤(C.d i).j∧(C.d i).j+((C.d i).li.n:Int)+1≤4194304))))∧((ms.z==4)=false→(((ms.z==5)=true→(dS (C.d i).li∧dS ms.i∧C.told.n≤541000000000∧(jZ (fK ms (C.d i))).ws.n≤3000∧0≤(C.d i).j∧(C.d i).j≤(C.d i).co∧(C.d i).co≤4194304))∧((ms.z==5)=false→(((ms.z==7)=true→(ms.aC≤4194304))∧((ms.z==7)=false→((ms.z==6)=true→(((ly ms (C.d i))==3)=true→(0≤(j:Int)∧(j:Int)<3∧C.told.n≤541000000000∧(qf ms (C.d i)).n≤3000∧0≤(C.d i).j∧(C.d i).j≤(C.d i).co∧(C.d i).co≤4194304∧(C.d i).j+((C.d i).li.n:Int)≤4194304∧(C.d i).li.n≤200))))))))))))))))
theorem s_(i:Nat)(e:i<3)(j:Nat)(B:j<3)(ms:ah)(C:ak)(d:ez C)(H:ms.i.n≤549755813888)(F:ms.bN.n≤549755813888)(G:ms.aY.n≤549755813888)(f:js (C.d i)∧gQ ms∧C.told.n≤541000000000∧C.a8.n≤549000000000):pv i j ms C:=by
 have c:=gE d i e;unfold fw at c;unfold pv;exact have⟨a,b,D,E⟩:=f;have:=a.bh;have:=a.j;have:=a.ha;have:=a.co;have:=a.fZ;have:=a.dP;have:=a.ws;have:=a.li;have:=b.od;have:=b.bX;have:=b.li;have:=aCr ms (C.d i) a.ws;have:=WQ ms (C.d i) a.ws;((fun g=>(fun t=>(fun u=>⟨(fun v=>(fun w=>(fun x=>(by omega)))),(fun y=>(fun z=>(fun A=>⟨(fun h=>(fun k=>(fun l=>(by omega)))),(fun m=>⟨(fun n=>⟨(by assumption),(by assumption),(by omega)⟩),(fun o=>⟨(fun p=>(by omega)),(fun q=>(fun r=>(fun s=>(by omega))))⟩)⟩)⟩)))⟩))))
def pS(i j:Nat):Prop:= ∀(ms:ah) (e:ms.i.n≤549755813888) (c:ms.bN.n≤549755813888) (d:ms.aY.n≤549755813888) (C:ak) (a:ez C) (b:js (C.d i)∧gQ ms∧C.told.n≤541000000000∧C.a8.n≤549000000000),fm Tryz.prog 44 ((NP i j).args ((iN (j:Int) (i:Int) ms)++hX C)) ((NP i j).c3 (((iN (j:Int) (i:Int) ms)++hX C).drop (NP i j).dE)) [] (ca [10,2,11,4,12,6,7,8,9] 3 (C.put i (qe i j ms (C.d i) C.ag C.told C.a8) (Ag i j ms (C.d i) C.ag C.told C.a8) (Ai i j ms (C.d i) C.ag C.told C.a8) (Ah i j ms (C.d i) C.ag C.told C.a8)))
theorem av4:pS 0 0:=by
 intro ms e c d C a b;refine ef (pU 0 C) (sG 0 0 ms C) (pv 0 0 ms C) (bJ 10 aT (aj (pj 0 (by omega)) (aj (qQ 0 (by omega)) (aj (sT 0 (by omega)) (aj (sU 0 (by omega)) (aj (sV 0 (by omega)) (aj (pk 0 (by omega)) (aj (sW 0 (by omega)) (aj (sX 0 (by omega)) (aj (sY 0 (by omega)) (aj (sZ 0 (by omega)) (aj (s0 0 (by omega)) (aj (s3 0 (by omega)) bI))))))))))))) Tryz.func44 [] ?_ ?_ (s_ 0 (by omega) 0 (by omega) ms C a e c d b)
 ·kernel_rfl
 ·kernel_rfl
theorem av5:pS 0 1:=by
 intro ms e c d C a b;refine ef (pU 0 C) (sG 0 1 ms C) (pv 0 1 ms C) (bJ 10 aT (aj (pj 0 (by omega)) (aj (qQ 0 (by omega)) (aj (sT 0 (by omega)) (aj (sU 0 (by omega)) (aj (sV 0 (by omega)) (aj (pk 0 (by omega)) (aj (sW 0 (by omega)) (aj (sX 0 (by omega)) (aj (sY 0 (by omega)) (aj (sZ 0 (by omega)) (aj (s0 0 (by omega)) (aj (s3 0 (by omega)) bI))))))))))))) Tryz.func44 [] ?_ ?_ (s_ 0 (by omega) 1 (by omega) ms C a e c d b)
 ·kernel_rfl
 ·kernel_rfl
theorem av6:pS 0 2:=by
 intro ms e c d C a b;refine ef (pU 0 C) (sG 0 2 ms C) (pv 0 2 ms C) (bJ 10 aT (aj (pj 0 (by omega)) (aj (qQ 0 (by omega)) (aj (sT 0 (by omega)) (aj (sU 0 (by omega)) (aj (sV 0 (by omega)) (aj (pk 0 (by omega)) (aj (sW 0 (by omega)) (aj (sX 0 (by omega)) (aj (sY 0 (by omega)) (aj (sZ 0 (by omega)) (aj (s0 0 (by omega)) (aj (s3 0 (by omega)) bI))))))))))))) Tryz.func44 [] ?_ ?_ (s_ 0 (by omega) 2 (by omega) ms C a e c d b)
 ·kernel_rfl
 ·kernel_rfl
theorem av7:pS 1 0:=by
 intro ms e c d C a b;refine ef (pU 1 C) (sG 1 0 ms C) (pv 1 0 ms C) (bJ 10 aT (aj (pj 1 (by omega)) (aj (qQ 1 (by omega)) (aj (sT 1 (by omega)) (aj (sU 1 (by omega)) (aj (sV 1 (by omega)) (aj (pk 1 (by omega)) (aj (sW 1 (by omega)) (aj (sX 1 (by omega)) (aj (sY 1 (by omega)) (aj (sZ 1 (by omega)) (aj (s0 1 (by omega)) (aj (s3 1 (by omega)) bI))))))))))))) Tryz.func44 [] ?_ ?_ (s_ 1 (by omega) 0 (by omega) ms C a e c d b)
 ·kernel_rfl
 ·kernel_rfl
theorem av8:pS 1 1:=by
 intro ms e c d C a b;refine ef (pU 1 C) (sG 1 1 ms C) (pv 1 1 ms C) (bJ 10 aT (aj (pj 1 (by omega)) (aj (qQ 1 (by omega)) (aj (sT 1 (by omega)) (aj (sU 1 (by omega)) (aj (sV 1 (by omega)) (aj (pk 1 (by omega)) (aj (sW 1 (by omega)) (aj (sX 1 (by omega)) (aj (sY 1 (by omega)) (aj (sZ 1 (by omega)) (aj (s0 1 (by omega)) (aj (s3 1 (by omega)) bI))))))))))))) Tryz.func44 [] ?_ ?_ (s_ 1 (by omega) 1 (by omega) ms C a e c d b)
 ·kernel_rfl
 ·kernel_rfl
theorem av9:pS 1 2:=by
 intro ms e c d C a b;refine ef (pU 1 C) (sG 1 2 ms C) (pv 1 2 ms C) (bJ 10 aT (aj (pj 1 (by omega)) (aj (qQ 1 (by omega)) (aj (sT 1 (by omega)) (aj (sU 1 (by omega)) (aj (sV 1 (by omega)) (aj (pk 1 (by omega)) (aj (sW 1 (by omega)) (aj (sX 1 (by omega)) (aj (sY 1 (by omega)) (aj (sZ 1 (by omega)) (aj (s0 1 (by omega)) (aj (s3 1 (by omega)) bI))))))))))))) Tryz.func44 [] ?_ ?_ (s_ 1 (by omega) 2 (by omega) ms C a e c d b)
 ·kernel_rfl
 ·kernel_rfl
theorem av_:pS 2 0:=by
 intro ms e c d C a b;refine ef (pU 2 C) (sG 2 0 ms C) (pv 2 0 ms C) (bJ 10 aT (aj (pj 2 (by omega)) (aj (qQ 2 (by omega)) (aj (sT 2 (by omega)) (aj (sU 2 (by omega)) (aj (sV 2 (by omega)) (aj (pk 2 (by omega)) (aj (sW 2 (by omega)) (aj (sX 2 (by omega)) (aj (sY 2 (by omega)) (aj (sZ 2 (by omega)) (aj (s0 2 (by omega)) (aj (s3 2 (by omega)) bI))))))))))))) Tryz.func44 [] ?_ ?_ (s_ 2 (by omega) 0 (by omega) ms C a e c d b)
 ·kernel_rfl
 ·kernel_rfl
theorem awa:pS 2 1:=by
 intro ms e c d C a b;refine ef (pU 2 C) (sG 2 1 ms C) (pv 2 1 ms C) (bJ 10 aT (aj (pj 2 (by omega)) (aj (qQ 2 (by omega)) (aj (sT 2 (by omega)) (aj (sU 2 (by omega)) (aj (sV 2 (by omega)) (aj (pk 2 (by omega)) (aj (sW 2 (by omega)) (aj (sX 2 (by omega)) (aj (sY 2 (by omega)) (aj (sZ 2 (by omega)) (aj (s0 2 (by omega)) (aj (s3 2 (by omega)) bI))))))))))))) Tryz.func44 [] ?_ ?_ (s_ 2 (by omega) 1 (by omega) ms C a e c d b)
 ·kernel_rfl
 ·kernel_rfl
theorem awb:pS 2 2:=by
 intro ms e c d C a b;refine ef (pU 2 C) (sG 2 2 ms C) (pv 2 2 ms C) (bJ 10 aT (aj (pj 2 (by omega)) (aj (qQ 2 (by omega)) (aj (sT 2 (by omega)) (aj (sU 2 (by omega)) (aj (sV 2 (by omega)) (aj (pk 2 (by omega)) (aj (sW 2 (by omega)) (aj (sX 2 (by omega)) (aj (sY 2 (by omega)) (aj (sZ 2 (by omega)) (aj (s0 2 (by omega)) (aj (s3 2 (by omega)) bI))))))))))))) Tryz.func44 [] ?_ ?_ (s_ 2 (by omega) 2 (by omega) ms C a e c d b)
 ·kernel_rfl
 ·kernel_rfl
theorem s4(i:Nat)(a:i<3)(j:Nat)(b:j<3):pS i j:=by
 rcases bV a with rfl|rfl|rfl<;>rcases bV b with rfl|rfl|rfl
 ·exact av4
 ·exact av5
 ·exact av6
 ·exact av7
 ·exact av8
 ·exact av9
 ·exact av_
 ·exact awa
 ·exact awb
end
end Go.Proofs.YtfmgjpcmcjjoiaaGreatDoor
