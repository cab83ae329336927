/- Part of a proof: walks of the program. -/
import Derived.Test.YtfmgjpcmcjjoiaaGreatDoorXt
import Derived.Test.YtfmgjpcmcjjoiaaGreatDoorXu
import Derived.Test.YtfmgjpcmcjjoiaaGreatDoorXw
import Derived.Test.YtfmgjpcmcjjoiaaGreatDoorXy
import Derived.Test.YtfmgjpcmcjjoiaaGreatDoorXz
open Go.IntKind (i64 u64 u8)
open Int (toNat)
set_option maxRecDepth 100000
set_option maxHeartbeats 4000000
set_option linter.all false
noncomputable section
namespace Go.Proofs.YtfmgjpcmcjjoiaaGreatDoor
open Go Go.RowKit Go.ah
section
variable(i:Nat)(j:Nat)(ms:O)(C:ak)(Z:H)(E:A O)(B:A a7)(G:A aJ)
def DR:Bool:=(cond (ms.K==1) true (ms.K==2))
def j5:Bool:=(cond (!(DR ms)) (decide (ms.an>Z.aX)) false)
def qi:A hI:=(cond (j5 ms Z) (IC (f_ ms.an (-1) Z)).ws Z.ws)
def lN:Int:=(cond (j5 ms Z) 0 Z.ro)
def oa:Int:=(cond (j5 ms Z) (f_ ms.an (-1) Z).aX Z.aX)
def ab0:Int:=(cond (j5 ms Z) (f_ ms.an (-1) Z).dH Z.dH)
def z1:A Int:=(cond (j5 ms Z) (f_ ms.an (-1) Z).bd Z.bd)
def ab1:Int:=(cond (j5 ms Z) (f_ ms.an (-1) Z).bh Z.bh)
def lO:Bool:=(cond (j5 ms Z) (cond (!(lQ ms.an (-1) Z)) false true) true)
def eN:H:={Z with ro:=(lN ms Z),aX:=(oa ms Z),dH:=(ab0 ms Z),ws:=(qi ms Z),bd:=(z1 ms Z),bh:=(ab1 ms Z)}
def wD:Bool:=(cond ((lN ms Z)==1) (ms.an==(i64.wrap ((oa ms Z)+1))) false)
def jk:H:=(H.fP j (eN ms Z))
def iy:H:=(H.bif (!Z.up) Z (H.bif (lO ms Z) (H.bif (ms.K==1) (wH (⟨(j:Int),(i:Int),ms.K,ms.an,ms.p,ms.v,ms.ax,ms.aF,ms.i,ms.aP,ms.cG,ms.cZ,ms.cJ,ms.dh,ms.b1⟩:O) (eN ms Z)) (H.bif (ms.K==2) (H.bif (wD ms Z) (H.bif (hj (jk j ms Z)) (lR (jk j ms Z)) (jk j ms Z)) (eN ms Z)) (H.bif (decide (ms.an<(oa ms Z))) (H.bif (ms.K !=8) (qk (j:Int) (eN ms Z)) (eN ms Z)) (H.bif (ms.K==3) (k_ (⟨(j:Int),(i:Int),ms.K,ms.an,ms.p,ms.v,ms.ax,ms.aF,ms.i,ms.aP,ms.cG,ms.cZ,ms.cJ,ms.dh,ms.b1⟩:O) (eN ms Z)) (H.bif (ms.K==4) (H.bif ((lN ms Z)==2) (H.bif (hj (jk j ms Z)) (tX (jk j ms Z)) (jk j ms Z)) (eN ms Z)) (H.bif (ms.K==5) (ga (⟨(j:Int),(i:Int),ms.K,ms.an,ms.p,ms.v,ms.ax,ms.aF,ms.i,ms.aP,ms.cG,ms.cZ,ms.cJ,ms.dh,ms.b1⟩:O) (gM (eN ms Z)) E B G) (H.bif (ms.K==7) (gz (⟨(j:Int),(i:Int),ms.K,ms.an,ms.p,ms.v,ms.ax,ms.aF,ms.i,ms.aP,ms.cG,ms.cZ,ms.cJ,ms.dh,ms.b1⟩:O) (gM (eN ms Z))) (H.bif (ms.K==6) (H.bif ((lN ms Z)==3) (od (⟨(j:Int),(i:Int),ms.K,ms.an,ms.p,ms.v,ms.ax,ms.aF,ms.i,ms.aP,ms.cG,ms.cZ,ms.cJ,ms.dh,ms.b1⟩:O) (eN ms Z) E B G) (eN ms Z)) (eN ms Z))))))))) (f_ ms.an (-1) Z)))
def wC:A O:=(cond (!Z.up) E (cond (lO ms Z) (cond (ms.K==1) E (cond (ms.K==2) (cond (wD ms Z) (cond (hj (jk j ms Z)) E E) E) (cond (decide (ms.an<(oa ms Z))) (cond (ms.K !=8) E E) (cond (ms.K==3) E (cond (ms.K==4) (cond ((lN ms Z)==2) (cond (hj (jk j ms Z)) E E) E) (cond (ms.K==5) (D1 (⟨(j:Int),(i:Int),ms.K,ms.an,ms.p,ms.v,ms.ax,ms.aF,ms.i,ms.aP,ms.cG,ms.cZ,ms.cJ,ms.dh,ms.b1⟩:O) (gM (eN ms Z)) E B G) (cond (ms.K==7) E (cond (ms.K==6) (cond ((lN ms Z)==3) (D4 (⟨(j:Int),(i:Int),ms.K,ms.an,ms.p,ms.v,ms.ax,ms.aF,ms.i,ms.aP,ms.cG,ms.cZ,ms.cJ,ms.dh,ms.b1⟩:O) (eN ms Z) E B G) E) E)))))))) E))
def jj:A a7:=(cond (!Z.up) B (cond (lO ms Z) (cond (ms.K==1) B (cond (ms.K==2) (cond (wD ms Z) (cond (hj (jk j ms Z)) B B) B) (cond (decide (ms.an<(oa ms Z))) (cond (ms.K !=8) B B) (cond (ms.K==3) B (cond (ms.K==4) (cond ((lN ms Z)==2) (cond (hj (jk j ms Z)) B B) B) (cond (ms.K==5) (iA (⟨(j:Int),(i:Int),ms.K,ms.an,ms.p,ms.v,ms.ax,ms.aF,ms.i,ms.aP,ms.cG,ms.cZ,ms.cJ,ms.dh,ms.b1⟩:O) (gM (eN ms Z)) E B G) (cond (ms.K==7) B (cond (ms.K==6) (cond ((lN ms Z)==3) (qm (⟨(j:Int),(i:Int),ms.K,ms.an,ms.p,ms.v,ms.ax,ms.aF,ms.i,ms.aP,ms.cG,ms.cZ,ms.cJ,ms.dh,ms.b1⟩:O) (eN ms Z) E B G) B) B)))))))) B))
def qh:A aJ:=(cond (!Z.up) G (cond (lO ms Z) (cond (ms.K==1) G (cond (ms.K==2) (cond (wD ms Z) (cond (hj (jk j ms Z)) G G) G) (cond (decide (ms.an<(oa ms Z))) (cond (ms.K !=8) G G) (cond (ms.K==3) G (cond (ms.K==4) (cond ((lN ms Z)==2) (cond (hj (jk j ms Z)) (Q0 (jk j ms Z) G) G) G) (cond (ms.K==5) (tY (⟨(j:Int),(i:Int),ms.K,ms.an,ms.p,ms.v,ms.ax,ms.aF,ms.i,ms.aP,ms.cG,ms.cZ,ms.cJ,ms.dh,ms.b1⟩:O) (gM (eN ms Z)) E B G) (cond (ms.K==7) G (cond (ms.K==6) (cond ((lN ms Z)==3) (ud (⟨(j:Int),(i:Int),ms.K,ms.an,ms.p,ms.v,ms.ax,ms.aF,ms.i,ms.aP,ms.cG,ms.cZ,ms.cJ,ms.dh,ms.b1⟩:O) (eN ms Z) E B G) G) G)))))))) G))
theorem aDE(ms:O)(Z:H)(h:Z.ws.n≤3000):(gM (eN ms Z)).ws.n≤3000:=by
 have a:(L:A hI).n≤3000:=cA _;have e:(qi ms Z).n≤3000:=by
  unfold qi
  cases j5 ms Z
  ·exact h
  ·exact a
 show(cond ((eN ms Z).ro==2) (L:A hI) (qi ms Z)).n≤3000
 cases ((eN ms Z).ro==2)
 ·exact e
 ·exact a
theorem Vu(ms:O)(Z:H)(h:Z.ws.n≤3000):(qi ms Z).n≤3000:=by
 have a:(L:A hI).n≤3000:=cA _;unfold qi
 cases j5 ms Z
 ·exact h
 ·exact a
def MN:db:=⟨[.p 0,.g [a,a,a,a,a,a,y,a,.af c6,a,a,a,.af a_,a,.af bP]],b8,eL,er,fun(b:Int) (c:Int) (k:Int) (l:Int) (m:Int) (n:Int) o (p:Int) q (r:Int) (d:Int) (e:Int) f (g:Int) h=>cB fun C=>⟨⟨some (jb (C.Z i)∧fu (⟨b,c,k,l,m,n,o,p,q,r,d,e,f,g,h⟩:O)∧C.told.n≤541000000000∧C.a2.n≤549000000000),[],cj [10,2,11,4,12,6,7,8,9] 3 (C.put i (iy i j (⟨b,c,k,l,m,n,o,p,q,r,d,e,f,g,h⟩:O) (C.Z i) C.s C.told C.a2) (wC i j (⟨b,c,k,l,m,n,o,p,q,r,d,e,f,g,h⟩:O) (C.Z i) C.s C.told C.a2) (jj i j (⟨b,c,k,l,m,n,o,p,q,r,d,e,f,g,h⟩:O) (C.Z i) C.s C.told C.a2) (qh i j (⟨b,c,k,l,m,n,o,p,q,r,d,e,f,g,h⟩:O) (C.Z i) C.s C.told C.a2))⟩⟩⟩
def pP:cI:=⟨.eA true [.b 10] [.own (.h 0 29) cV 10,.own (.h 0 62) cV 11,.own (.h 0 95) cV 12] (ys i [10,2,11,4,12,6,7,8,9] 3 [] 0 C) (xY i [10,2,11,4,12,6,7,8,9]),[],[]++vC i [10,2,11,4,12,6,7,8,9],⟨[],[]⟩⟩
def sl:cm (pP i C).b_:=let d:=C.Z i;let f:=eN ms d;let e:=jk j ms d;let b:=aK.set (2*i) 45;let c:=C.set i f;(.ad (.ad (.ad (.j ⟨57,[],[(.t 5,y)],[],.f⟩ .z (.bU ⟨([.ptr 0 0,U,U,.ptr 10 0,.ptr 0 (33*i+0),.bool (DR ms)]++(us 147 ([]))),cn aK 1 C [(10,(iZ (j:Int) (i:Int) ms))]⟩ (.xD ⟨25,[],[(.h 45 0,.ae cV),(.h 0 (33*i+3),a),(.h 0 (33*i+4),a),(.h 0 (33*i+5),a),(.h 0 (33*i+30),.af a8),(.h 0 (33*i+31),a)],[],.f⟩ [.own (.h 0 (33*i+29)) cV 45] (.j ⟨34359738393,[],[(.t 35,y)],[],.f⟩ .z (.bU ⟨([.ptr 0 0,U,U,.ptr 10 0,.ptr 0 (33*i+0)]++(us 30 (([.bool (j5 ms d)]++(us 117 ([])))))),cn aK 1 C [(10,(iZ (j:Int) (i:Int) ms))]⟩ (.s (.s (.ad (.bU ⟨([.ptr 0 0,U,U,.ptr 10 0,.ptr 0 (33*i+0)]++(us 35 (([.bool (!(lQ ms.an (-1) d))]++(us 112 ([])))))),cn aK 1 (C.set i (f_ ms.an (-1) d)) [(10,(iZ (j:Int) (i:Int) ms))]⟩ .z)) .z) .z))) (.bU ⟨([.ptr 0 0,U,U,.ptr 10 0,.ptr 0 (33*i+0)]++(us 148 ([]))),cn b 36 c [(10,(iZ (j:Int) (i:Int) ms))]⟩ (.ad (.ad (.ad (.bU ⟨([.ptr 0 0,U,U,.ptr 10 0,.ptr 0 (33*i+0)]++(us 45 (([.bool (ms.K==2)]++(us 102 ([])))))),cn b 36 c [(10,(iZ (j:Int) (i:Int) ms))]⟩ (.s (.j ⟨295147905179352825880,[],[(.t 68,y)],[],.f⟩ .z (.bU ⟨([U,U,U,.ptr 10 0,.ptr 0 (33*i+0)]++(us 63 (([.bool (wD ms d)]++(us 84 ([])))))),cn b 36 c [(10,(iZ (j:Int) (i:Int) ms))]⟩ (.s (.ad (.ad (.bU ⟨([U,U,U,U,.ptr 0 (33*i+0)]++(us 71 (([.bool (hj e)]++(us 76 ([])))))),cn b 36 (C.set i e) [(10,(iZ (j:Int) (i:Int) ms))]⟩ .z))) .z))) (.ad (.bU ⟨([.ptr 0 0,U,U,.ptr 10 0,.ptr 0 (33*i+0)]++(us 74 (([.bool (decide (ms.an<(oa ms d)))]++(us 73 ([])))))),cn b 36 c [(10,(iZ (j:Int) (i:Int) ms))]⟩ (.ad (.ad (.bU ⟨([.ptr 0 0,U,U,.ptr 10 0,.ptr 0 (33*i+0)]++(us 89 (([.bool (ms.K==3)]++(us 58 ([])))))),cn b 36 c [(10,(iZ (j:Int) (i:Int) ms))]⟩ (.ad (.ad (.bU ⟨([.ptr 0 0,U,U,.ptr 10 0,.ptr 0 (33*i+0)]++(us 96 (([.bool (ms.K==4)]++(us 51 ([])))))),cn b 36 c [(10,(iZ (j:Int) (i:Int) ms))]⟩ (.s (.ad (.s (.ad (.ad (.bU ⟨([.ptr 0 0,U,U,U,.ptr 0 (33*i+0)]++(us 112 (([.bool (hj e)]++(us 35 ([])))))),cn b 36 (C.set i e) [(10,(iZ (j:Int) (i:Int) ms))]⟩ .z))) .z)) (.ad (.bU ⟨([.ptr 0 0,U,U,.ptr 10 0,.ptr 0 (33*i+0)]++(us 116 (([.bool (ms.K==5)]++(us 31 ([])))))),cn b 36 c [(10,(iZ (j:Int) (i:Int) ms))]⟩ (.s (.ad (.bU ⟨([.ptr 0 0,U,U,.ptr 10 0,.ptr 0 (33*i+0)]++(us 148 ([]))),cn (aK.set (2*i) 78) 69 (C.set i (gM f)) [(10,(iZ (j:Int) (i:Int) ms)),(45,[dn])]⟩ .z)) (.ad (.bU ⟨([.ptr 0 0,U,U,.ptr 10 0,.ptr 0 (33*i+0)]++(us 126 (([.bool (ms.K==7)]++(us 21 ([])))))),cn b 36 c [(10,(iZ (j:Int) (i:Int) ms))]⟩ (.s (.ad (.bU ⟨([U,U,U,.ptr 10 0,.ptr 0 (33*i+0)]++(us 148 ([]))),cn (aK.set (2*i) 78) 69 (C.set i (gM f)) [(10,(iZ (j:Int) (i:Int) ms)),(45,[dn])]⟩ .z)) (.ad (.bU ⟨([.ptr 0 0,U,U,.ptr 10 0,.ptr 0 (33*i+0)]++(us 135 (([.bool (ms.K==6)]++(us 12 ([])))))),cn b 36 c [(10,(iZ (j:Int) (i:Int) ms))]⟩ .z)))))))))))))))))))))))))))))
def pr(i:Nat)(j:Nat)(ms:O)(C:ak):Prop:=((!(C.Z i).up)=false→((lO ms (C.Z i))=true→((ms.K==1)=false→(((ms.K==2)=true→((wD ms (C.Z i))=true→((hj (jk j ms (C.Z i)))=true→(0≤(C.Z i).bm∧(C.Z i).bm<3))))∧((ms.K==2)=false→((decide (ms.an<(oa ms (C.Z i))))=false→((ms.K==3)=false→(((ms.K==4)=true→(((lN ms (C.Z i))==2)=true→((hj (jk j ms (C.Z i)))=true→(C.a2.n≤549000000000∧0≤(C.Z i).l∧(C.Z i).l+((C.Z i).li.n:Int)+1≤4194304))))∧((ms.K==4)=false→(((ms.K==5)=true→(dZ (C.Z i).li∧dZ ms.i∧C.told.n≤541000000000∧(gM (eN ms (C.Z i))).ws.n≤3000∧0≤(C.Z i).l∧(C.Z i).l≤(C.Z i).co∧(C.Z i).co≤4194304))∧((ms.K==5)=false→(((ms.K==7)=true→(ms.aP≤4194304))∧((ms.K==7)=false→((ms.K==6)=true→(((lN ms (C.Z i))==3)=true→(0≤(j:Int)∧(j:Int)<3∧C.told.n≤541000000000∧(qi ms (C.Z i)).n≤3000∧0≤(C.Z i).l∧(C.Z i).l≤(C.Z i).co∧(C.Z i).co≤4194304∧(C.Z i).l+((C.Z i).li.n:Int)≤4194304∧(C.Z i).li.n≤200))))))))))))))))
theorem sO(i:Nat)(e:i<3)(j:Nat)(B:j<3)(ms:O)(C:ak)(d:ey C)(H:ms.i.n≤549755813888)(F:ms.cJ.n≤549755813888)(G:ms.b1.n≤549755813888)(f:jb (C.Z i)∧fu ms∧C.told.n≤541000000000∧C.a2.n≤549000000000):pr i j ms C:=by
 have c:=gQ d i e;unfold fv at c;unfold pr;exact have⟨a,b,D,E⟩:=f;have:=a.bm;have:=a.l;have:=a.hK;have:=a.co;have:=a.gP;have:=a.hn;have:=a.ws;have:=a.li;have:=b.ou;have:=b.c8;have:=b.li;have:=aDE ms (C.Z i) a.ws;have:=Vu ms (C.Z i) a.ws;((fun g=>(fun t=>(fun u=>⟨(fun v=>(fun w=>(fun x=>(by omega)))),(fun y=>(fun z=>(fun A=>⟨(fun h=>(fun k=>(fun l=>(by omega)))),(fun m=>⟨(fun n=>⟨(by assumption),(by assumption),(by omega)⟩),(fun o=>⟨(fun p=>(by omega)),(fun q=>(fun r=>(fun s=>(by omega))))⟩)⟩)⟩)))⟩))))
def pO(i j:Nat):Prop:= ∀(ms:O) (e:ms.i.n≤549755813888) (c:ms.cJ.n≤549755813888) (d:ms.b1.n≤549755813888) (C:ak) (a:ey C) (b:jb (C.Z i)∧fu ms∧C.told.n≤541000000000∧C.a2.n≤549000000000),fj Tryz.prog 44 ((MN i j).args ((iZ (j:Int) (i:Int) ms)++h3 C)) ((MN i j).c4 (((iZ (j:Int) (i:Int) ms)++h3 C).drop (MN i j).dL)) [] (cj [10,2,11,4,12,6,7,8,9] 3 (C.put i (iy i j ms (C.Z i) C.s C.told C.a2) (wC i j ms (C.Z i) C.s C.told C.a2) (jj i j ms (C.Z i) C.s C.told C.a2) (qh i j ms (C.Z i) C.s C.told C.a2)))
theorem awU:pO 0 0:=by
 intro ms e c d C a b;refine ei (pP 0 C) (sl 0 0 ms C) (pr 0 0 ms C) (bK 10 aT (av (pg 0 (by omega)) (av (qJ 0 (by omega)) (av (sA 0 (by omega)) (av (sB 0 (by omega)) (av (sC 0 (by omega)) (av (ph 0 (by omega)) (av (sD 0 (by omega)) (av (sE 0 (by omega)) (av (sF 0 (by omega)) (av (sG 0 (by omega)) (av (sH 0 (by omega)) (av (sI 0 (by omega)) bJ))))))))))))) Tryz.func44 [] ?_ ?_ (sO 0 (by omega) 0 (by omega) ms C a e c d b)
 ·kernel_rfl
 ·kernel_rfl
theorem awV:pO 0 1:=by
 intro ms e c d C a b;refine ei (pP 0 C) (sl 0 1 ms C) (pr 0 1 ms C) (bK 10 aT (av (pg 0 (by omega)) (av (qJ 0 (by omega)) (av (sA 0 (by omega)) (av (sB 0 (by omega)) (av (sC 0 (by omega)) (av (ph 0 (by omega)) (av (sD 0 (by omega)) (av (sE 0 (by omega)) (av (sF 0 (by omega)) (av (sG 0 (by omega)) (av (sH 0 (by omega)) (av (sI 0 (by omega)) bJ))))))))))))) Tryz.func44 [] ?_ ?_ (sO 0 (by omega) 1 (by omega) ms C a e c d b)
 ·kernel_rfl
 ·kernel_rfl
theorem awW:pO 0 2:=by
 intro ms e c d C a b;refine ei (pP 0 C) (sl 0 2 ms C) (pr 0 2 ms C) (bK 10 aT (av (pg 0 (by omega)) (av (qJ 0 (by omega)) (av (sA 0 (by omega)) (av (sB 0 (by omega)) (av (sC 0 (by omega)) (av (ph 0 (by omega)) (av (sD 0 (by omega)) (av (sE 0 (by omega)) (av (sF 0 (by omega)) (av (sG 0 (by omega)) (av (sH 0 (by omega)) (av (sI 0 (by omega)) bJ))))))))))))) Tryz.func44 [] ?_ ?_ (sO 0 (by omega) 2 (by omega) ms C a e c d b)
 ·kernel_rfl
 ·kernel_rfl
theorem awX:pO 1 0:=by
 intro ms e c d C a b;refine ei (pP 1 C) (sl 1 0 ms C) (pr 1 0 ms C) (bK 10 aT (av (pg 1 (by omega)) (av (qJ 1 (by omega)) (av (sA 1 (by omega)) (av (sB 1 (by omega)) (av (sC 1 (by omega)) (av (ph 1 (by omega)) (av (sD 1 (by omega)) (av (sE 1 (by omega)) (av (sF 1 (by omega)) (av (sG 1 (by omega)) (av (sH 1 (by omega)) (av (sI 1 (by omega)) bJ))))))))))))) Tryz.func44 [] ?_ ?_ (sO 1 (by omega) 0 (by omega) ms C a e c d b)
 ·kernel_rfl
 ·kernel_rfl
theorem awY:pO 1 1:=by
 intro ms e c d C a b;refine ei (pP 1 C) (sl 1 1 ms C) (pr 1 1 ms C) (bK 10 aT (av (pg 1 (by omega)) (av (qJ 1 (by omega)) (av (sA 1 (by omega)) (av (sB 1 (by omega)) (av (sC 1 (by omega)) (av (ph 1 (by omega)) (av (sD 1 (by omega)) (av (sE 1 (by omega)) (av (sF 1 (by omega)) (av (sG 1 (by omega)) (av (sH 1 (by omega)) (av (sI 1 (by omega)) bJ))))))))))))) Tryz.func44 [] ?_ ?_ (sO 1 (by omega) 1 (by omega) ms C a e c d b)
 ·kernel_rfl
 ·kernel_rfl
theorem awZ:pO 1 2:=by
 intro ms e c d C a b;refine ei (pP 1 C) (sl 1 2 ms C) (pr 1 2 ms C) (bK 10 aT (av (pg 1 (by omega)) (av (qJ 1 (by omega)) (av (sA 1 (by omega)) (av (sB 1 (by omega)) (av (sC 1 (by omega)) (av (ph 1 (by omega)) (av (sD 1 (by omega)) (av (sE 1 (by omega)) (av (sF 1 (by omega)) (av (sG 1 (by omega)) (av (sH 1 (by omega)) (av (sI 1 (by omega)) bJ))))))))))))) Tryz.func44 [] ?_ ?_ (sO 1 (by omega) 2 (by omega) ms C a e c d b)
 ·kernel_rfl
 ·kernel_rfl
theorem aw0:pO 2 0:=by
 intro ms e c d C a b;refine ei (pP 2 C) (sl 2 0 ms C) (pr 2 0 ms C) (bK 10 aT (av (pg 2 (by omega)) (av (qJ 2 (by omega)) (av (sA 2 (by omega)) (av (sB 2 (by omega)) (av (sC 2 (by omega)) (av (ph 2 (by omega)) (av (sD 2 (by omega)) (av (sE 2 (by omega)) (av (sF 2 (by omega)) (av (sG 2 (by omega)) (av (sH 2 (by omega)) (av (sI 2 (by omega)) bJ))))))))))))) Tryz.func44 [] ?_ ?_ (sO 2 (by omega) 0 (by omega) ms C a e c d b)
 ·kernel_rfl
 ·kernel_rfl
theorem aw1:pO 2 1:=by
 intro ms e c d C a b;refine ei (pP 2 C) (sl 2 1 ms C) (pr 2 1 ms C) (bK 10 aT (av (pg 2 (by omega)) (av (qJ 2 (by omega)) (av (sA 2 (by omega)) (av (sB 2 (by omega)) (av (sC 2 (by omega)) (av (ph 2 (by omega)) (av (sD 2 (by omega)) (av (sE 2 (by omega)) (av (sF 2 (by omega)) (av (sG 2 (by omega)) (av (sH 2 (by omega)) (av (sI 2 (by omega)) bJ))))))))))))) Tryz.func44 [] ?_ ?_ (sO 2 (by omega) 1 (by omega) ms C a e c d b)
 ·kernel_rfl
 ·kernel_rfl
theorem aw2:pO 2 2:=by
 intro ms e c d C a b;refine ei (pP 2 C) (sl 2 2 ms C) (pr 2 2 ms C) (bK 10 aT (av (pg 2 (by omega)) (av (qJ 2 (by omega)) (av (sA 2 (by omega)) (av (sB 2 (by omega)) (av (sC 2 (by omega)) (av (ph 2 (by omega)) (av (sD 2 (by omega)) (av (sE 2 (by omega)) (av (sF 2 (by omega)) (av (sG 2 (by omega)) (av (sH 2 (by omega)) (av (sI 2 (by omega)) bJ))))))))))))) Tryz.func44 [] ?_ ?_ (sO 2 (by omega) 2 (by omega) ms C a e c d b)
 ·kernel_rfl
 ·kernel_rfl
theorem sJ(i:Nat)(a:i<3)(j:Nat)(b:j<3):pO i j:=by
 rcases b3 a with rfl|rfl|rfl<;>rcases b3 b with rfl|rfl|rfl
 ·exact awU
 ·exact awV
 ·exact awW
 ·exact awX
 ·exact awY
 ·exact awZ
 ·exact aw0
 ·exact aw1
 ·exact aw2
end
end Go.Proofs.YtfmgjpcmcjjoiaaGreatDoor
