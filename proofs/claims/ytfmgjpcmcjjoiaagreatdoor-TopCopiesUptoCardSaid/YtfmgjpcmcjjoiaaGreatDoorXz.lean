/- Part of a proof: walks of the program. -/
import Derived.Test.YtfmgjpcmcjjoiaaGreatDoorXv
open Go.IntKind (i64 u64 u8)
open Int (toNat)
set_option maxRecDepth 100000
set_option maxHeartbeats 4000000
set_option linter.all false
noncomputable section
namespace Go.Proofs.YtfmgjpcmcjjoiaaGreatDoor
open Go Go.RowKit Go.ah
section
variable(i:Nat)(j:Nat)(ms:O)(Z:H)(E:A O)(B:A a7)(G:A aJ)
def lS:H:=(H.oA j (imax (H.xk j Z) (i64.wrap (ms.p+1))) (imax (H.sk j Z) ms.p) Z)
def IV:H:=(H.sp j (i64.wrap ((imax (H.sk j Z) ms.p)+1)) Z)
def j8:H:=(H.bif ms.ax (hB (lS j ms Z) E B G) (IV j ms Z))
def Q2:A O:=(cond ms.ax (wO (lS j ms Z) E B G) E)
def ng:A a7:=(cond ms.ax (jE (lS j ms Z) E B G) B)
def IU:A aJ:=(cond ms.ax (qp (lS j ms Z) E B G) G)
def M7:db:=⟨[.p 0,.e9 0 (33*i),.g [a,a,a,a,a,a,y,a,.af c6,a,a,a,.af a_,a,.af bP]],b8,eL,er,fun(c:Int) (d:Int) (l:Int) (m:Int) (n:Int) (o:Int) p (q:Int) r (s:Int) (e:Int) (f:Int) g (h:Int) k=>cB fun C=>let b:=C.Z i;⟨⟨some (C.told.n≤541000000000∧b.ws.n≤3000∧0≤b.l∧b.l≤b.co∧b.co≤4194304∧b.l+(b.li.n:Int)≤4194304∧b.li.n≤200),[],cj aK 0 (C.put i (j8 j (⟨c,d,l,m,n,o,p,q,r,s,e,f,g,h,k⟩:O) b C.s C.told C.a2) (Q2 j (⟨c,d,l,m,n,o,p,q,r,s,e,f,g,h,k⟩:O) b C.s C.told C.a2) (ng j (⟨c,d,l,m,n,o,p,q,r,s,e,f,g,h,k⟩:O) b C.s C.told C.a2) (IU j (⟨c,d,l,m,n,o,p,q,r,s,e,f,g,h,k⟩:O) b C.s C.told C.a2))⟩⟩⟩
def Wf:cI:=⟨.eA true [] [] (gj i aK 0 [] 0) (gi i aK),[],[]++fy i aK,⟨[],[]⟩⟩
def arM(C:ak):cm (Wf i).b_:=let a:=lS j ms (C.Z i);(.ad (.s (.ad (.s (.ad (.ad (.ad (.bU ⟨([U,.ptr 0 (33*i+0),U,U,U,.ptr 10 0]++(us 55 ([]))),cn aK 1 (C.put i (hB a C.s C.told C.a2) (wO a C.s C.told C.a2) (jE a C.s C.told C.a2) (qp a C.s C.told C.a2)) [(10,(iZ (j:Int) ms.ai ms))]⟩ .z)))) .z)) .z))
def Uk(i:Nat)(j:Nat)(ms:O)(C:ak):Prop:=(ms.ax=true→(C.told.n≤541000000000∧(C.Z i).ws.n≤3000∧0≤(C.Z i).l∧(C.Z i).l≤(C.Z i).co∧(C.Z i).co≤4194304∧(C.Z i).l+((C.Z i).li.n:Int)≤4194304∧(C.Z i).li.n≤200))
theorem azo(i:Nat)(c:i<3)(j:Nat)(f:j<3)(ms:O)(C:ak)(b:ey C)(r:ms.i.n≤549755813888)(p:ms.cJ.n≤549755813888)(q:ms.b1.n≤549755813888)(d:C.told.n≤541000000000∧(C.Z i).ws.n≤3000∧0≤(C.Z i).l∧(C.Z i).l≤(C.Z i).co∧(C.Z i).co≤4194304∧(C.Z i).l+((C.Z i).li.n:Int)≤4194304∧(C.Z i).li.n≤200):Uk i j ms C:=by
 have a:=gQ b i c;unfold fv at a;unfold Uk;exact have⟨g,h,k,l,m,n,o⟩:=d;((fun e=>(by omega)))
theorem Tk(i:Nat)(a:i<3)(j:Nat)(b:j<3)(ms:O)(g:ms.i.n≤549755813888)(e:ms.cJ.n≤549755813888)(f:ms.b1.n≤549755813888)(C:ak)(c:ey C)(d:C.told.n≤541000000000∧(C.Z i).ws.n≤3000∧0≤(C.Z i).l∧(C.Z i).l≤(C.Z i).co∧(C.Z i).co≤4194304∧(C.Z i).l+((C.Z i).li.n:Int)≤4194304∧(C.Z i).li.n≤200):fj Tryz.prog 69 ((M7 i j).args ((iZ (j:Int) ms.ai ms)++h3 C)) ((M7 i j).c4 (((iZ (j:Int) ms.ai ms)++h3 C).drop (M7 i j).dL)) [] (cj aK 0 (C.put i (j8 j ms (C.Z i) C.s C.told C.a2) (Q2 j ms (C.Z i) C.s C.told C.a2) (ng j ms (C.Z i) C.s C.told C.a2) (IU j ms (C.Z i) C.s C.told C.a2))):=by
 refine ei (Wf i) (arM i j ms C) (Uk i j ms C) (bK 10 aT (av (awk i a) bJ)) Tryz.func69 (List.replicate 31 .f++List.replicate 62 .l++[.f,.f]++List.replicate 4 .l++[.f,.f,.f]) ?_ ?_ (azo i a j b ms C c g e f d)
 ·rcases b3 a with rfl|rfl|rfl<;>rcases b3 b with rfl|rfl|rfl<;>kernel_rfl
 ·rcases b3 a with rfl|rfl|rfl<;>rcases b3 b with rfl|rfl|rfl<;>kernel_rfl
def od:H:=(j8 (toNat ms.j) ms Z E B G)
def D4:A O:=(Q2 (toNat ms.j) ms Z E B G)
def qm:A a7:=(ng (toNat ms.j) ms Z E B G)
def ud:A aJ:=(IU (toNat ms.j) ms Z E B G)
def M6:db:=⟨[.p 0,.e9 0 (33*i),.g [a,a,a,a,a,a,y,a,.af c6,a,a,a,.af a_,a,.af bP]],b8,eL,er,fun(c:Int) (d:Int) (k:Int) (l:Int) (m:Int) (n:Int) o (p:Int) q (r:Int) (e:Int) (f:Int) g (h:Int) j=>cB fun C=>let b:=C.Z i;⟨⟨some (0≤(⟨c,d,k,l,m,n,o,p,q,r,e,f,g,h,j⟩:O).j∧(⟨c,d,k,l,m,n,o,p,q,r,e,f,g,h,j⟩:O).j<3∧C.told.n≤541000000000∧b.ws.n≤3000∧0≤b.l∧b.l≤b.co∧b.co≤4194304∧b.l+(b.li.n:Int)≤4194304∧b.li.n≤200),[],cj aK 0 ((C.put i (od (⟨c,d,k,l,m,n,o,p,q,r,e,f,g,h,j⟩:O) b C.s C.told C.a2) (D4 (⟨c,d,k,l,m,n,o,p,q,r,e,f,g,h,j⟩:O) b C.s C.told C.a2) (qm (⟨c,d,k,l,m,n,o,p,q,r,e,f,g,h,j⟩:O) b C.s C.told C.a2) (ud (⟨c,d,k,l,m,n,o,p,q,r,e,f,g,h,j⟩:O) b C.s C.told C.a2)):ak)⟩⟩⟩
theorem axi(i:Nat)(a:i<3)(ms:O)(u:ms.i.n≤549755813888)(s:ms.cJ.n≤549755813888)(t:ms.b1.n≤549755813888):eP Tryz.prog 69 (M6 i) b8 [] (cB fun C=>⟨⟨some (0≤ms.j∧ms.j<3∧C.told.n≤541000000000∧(C.Z i).ws.n≤3000∧0≤(C.Z i).l∧(C.Z i).l≤(C.Z i).co∧(C.Z i).co≤4194304∧(C.Z i).l+((C.Z i).li.n:Int)≤4194304∧(C.Z i).li.n≤200),[],cj aK 0 ((C.put i (od ms (C.Z i) C.s C.told C.a2) (D4 ms (C.Z i) C.s C.told C.a2) (qm ms (C.Z i) C.s C.told C.a2) (ud ms (C.Z i) C.s C.told C.a2)):ak)⟩⟩) (iu ms):=by
 refine gg fun C r b=> ?_;obtain⟨a0,c,j,k,l,m,n,o,p,q,d,e,f,g,h⟩:=ms;have v:a0=0∨a0=1∨a0=2:=by
  have w:0≤a0:=b.1;have x:a0<3:=b.2.1;omega
 rcases v with rfl|rfl|rfl
 ·exact Eq.mp (by rcases b3 a with rfl|rfl|rfl<;>kernel_rfl) (Tk i a 0 (by omega) ⟨0,c,j,k,l,m,n,o,p,q,d,e,f,g,h⟩ u s t C r b.2.2)
 ·exact Eq.mp (by rcases b3 a with rfl|rfl|rfl<;>kernel_rfl) (Tk i a 1 (by omega) ⟨1,c,j,k,l,m,n,o,p,q,d,e,f,g,h⟩ u s t C r b.2.2)
 ·exact Eq.mp (by rcases b3 a with rfl|rfl|rfl<;>kernel_rfl) (Tk i a 2 (by omega) ⟨2,c,j,k,l,m,n,o,p,q,d,e,f,g,h⟩ u s t C r b.2.2)
theorem az5(i:Nat)(c:i<3):fV 69 (M6 i):=
 jv (bp:=[a,a,a,a,a,a,y,a,.af c6,a,a,a,.af a_,a,.af bP]) fun s b=>Eq.mp (by rcases b3 c with rfl|rfl|rfl<;>kernel_rfl) (axi i c ⟨s.1,s.2.1,s.2.2.1,s.2.2.2.1,s.2.2.2.2.1,s.2.2.2.2.2.1,s.2.2.2.2.2.2.1,s.2.2.2.2.2.2.2.1,s.2.2.2.2.2.2.2.2.1,s.2.2.2.2.2.2.2.2.2.1,s.2.2.2.2.2.2.2.2.2.2.1,s.2.2.2.2.2.2.2.2.2.2.2.1,s.2.2.2.2.2.2.2.2.2.2.2.2.1,s.2.2.2.2.2.2.2.2.2.2.2.2.2.1,s.2.2.2.2.2.2.2.2.2.2.2.2.2.2.1⟩ (b.2.2.2.2.2.2.2.2.1 rfl) (b.2.2.2.2.2.2.2.2.2.2.2.2.1 rfl) (b.2.2.2.2.2.2.2.2.2.2.2.2.2.2.1 rfl))
theorem sI(i:Nat)(a:i<3):fW 69 (M6 i):=gq gf Tryz.func69 (az5 i a)
end
end Go.Proofs.YtfmgjpcmcjjoiaaGreatDoor
