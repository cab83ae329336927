/- Part of a proof: walks of the program. -/
import Derived.Test.YtfmgjpcmcjjoiaaGreatDoorXm
import Derived.Test.YtfmgjpcmcjjoiaaGreatDoorXo
open Go.IntKind (i64 u64 u8)
open Int (toNat)
set_option maxRecDepth 100000
set_option maxHeartbeats 4000000
set_option linter.all false
noncomputable section
namespace Go.Proofs.YtfmgjpcmcjjoiaaGreatDoor
open Go Go.RowKit Go.ah
section
variable(i:Nat)(d:Int)(g:Int)(Z:H)
def lQ:Bool:=(cond (!(gN (⟨1,d,g,0,0,0,false,0,0,0,⟨#[]⟩,⟨#[]⟩,⟨#[]⟩,0,0,0,0,(L:A aj),0,(L:A aG)⟩:b7) Z)) false true)
def QW:Int:=(cond (!(gN (⟨1,d,g,0,0,0,false,0,0,0,⟨#[]⟩,⟨#[]⟩,⟨#[]⟩,0,0,0,0,(L:A aj),0,(L:A aG)⟩:b7) Z)) Z.aX d)
def ab4:Int:=(cond (!(gN (⟨1,d,g,0,0,0,false,0,0,0,⟨#[]⟩,⟨#[]⟩,⟨#[]⟩,0,0,0,0,(L:A aj),0,(L:A aG)⟩:b7) Z)) Z.dH g)
def f_:H:={Z with aX:=(QW d g Z),dH:=(ab4 d g Z),bd:=(h_ (⟨1,d,g,0,0,0,false,0,0,0,⟨#[]⟩,⟨#[]⟩,⟨#[]⟩,0,0,0,0,(L:A aj),0,(L:A aG)⟩:b7) Z).bd,bh:=(h_ (⟨1,d,g,0,0,0,false,0,0,0,⟨#[]⟩,⟨#[]⟩,⟨#[]⟩,0,0,0,0,(L:A aj),0,(L:A aG)⟩:b7) Z).bh}
def MT:db:=⟨[.e9 0 (33*i),.v a,.v a],b8,eL,er,fun(d:Int) (g:Int)=>cB fun C=>⟨⟨none,[.bool (lQ d g (C.Z i))],cj aK 0 (C.set i (f_ d g (C.Z i)))⟩⟩⟩
def V8:cI:=⟨.eA true [] [] (gj i aK 0 [0] 1) (gi i aK),[.tmp 6],[(.t 0,y)]++fy i aK,⟨[],[]⟩⟩
def arE(C:ak):cm (V8 i).b_:=(.ad (.s (.ad (.bU ⟨([.ptr 0 (33*i+0),b d,b g,U,U,U,.lit false]++(us 5 (([.bool (!(gN (⟨1,d,g,0,0,0,false,0,0,0,⟨#[]⟩,⟨#[]⟩,⟨#[]⟩,0,0,0,0,(L:A aj),0,(L:A aG)⟩:b7) (C.Z i)))]++(us 8 ([])))))),cn aK 0 (C.set i (h_ (⟨1,d,g,0,0,0,false,0,0,0,⟨#[]⟩,⟨#[]⟩,⟨#[]⟩,0,0,0,0,(L:A aj),0,(L:A aG)⟩:b7) (C.Z i))) []⟩ .z)) .z))
def Uf(i:Nat)(d:Int)(g:Int)(C:ak):Prop:=(oQ (⟨1,d,g,0,0,0,false,0,0,0,⟨#[]⟩,⟨#[]⟩,⟨#[]⟩,0,0,0,0,(L:A aj),0,(L:A aG)⟩:b7))
theorem azj(i:Nat)(c:i<3)(d:Int)(g:Int)(C:ak)(b:ey C):Uf i d g C:=by
 have a:=gQ b i c;unfold fv at a;unfold Uf;exact((by apply lo))
theorem aw8(i:Nat)(a:i<3)(d:Int)(g:Int):eP Tryz.prog 58 (MT i) b8 [] (cB fun C=>⟨⟨none,[.bool (lQ d g (C.Z i))],cj aK 0 (C.set i (f_ d g (C.Z i)))⟩⟩) [b d,b g]:=by
 refine gg fun C c=>ei (V8 i) (arE i d g C) (Uf i d g C) (bK 10 aT (av (Fb i a) bJ)) Tryz.func58 ([.f]++List.replicate 4 .l++[.f,.f]++List.replicate 96 .l) ?_ ?_ (azj i a d g C c)
 ·rcases b3 a with rfl|rfl|rfl<;>kernel_rfl
 ·rcases b3 a with rfl|rfl|rfl<;>kernel_rfl
theorem azU(i:Nat)(b:i<3):fV 58 (MT i):=
 jv (bp:=[a,a]) fun s c=>Eq.mp (by rcases b3 b with rfl|rfl|rfl<;>kernel_rfl) (aw8 i b s.1 s.2.1)
theorem pg(i:Nat)(a:i<3):fW 58 (MT i):=gq gf Tryz.func58 (azU i a)
def DU(aW:kW)(t:Int)(Z:H)(B:A a7):A a7:=(A.app B (A.lit ([(⟨Z.bm,aW.j,aW.ai,aW.K,aW.an,aW.p,aW.v,aW.ax,t,⟨#[]⟩,0,(L:A z)⟩:a7)]:List a7)))
def MP:db:=⟨[.p 0,.e9 0 (33*i),.g [a,a,a,au,au,au,a],.v a],b8,eL,er,fun(b:Int) (c:Int) (d:Int) e f g (h:Int) (t:Int)=>cB fun C=>⟨⟨some (C.told.n≤549000000000),[],cj aK 0 (C.put i (C.Z i) C.s (DU (⟨b,c,d,e,f,g,h⟩:kW) t (C.Z i) C.told) C.a2)⟩⟩⟩
def al_:cI:=⟨.eA true [] [] (gj i aK 0 [] 0) (gi i aK),[],[]++fy i aK,⟨[],[]⟩⟩
def Ud(i:Nat)(C:ak):Prop:=(C.told.n+1≤549755813888)
theorem azg(i:Nat)(c:i<3)(C:ak)(b:ey C)(d:C.told.n≤549000000000):Ud i C:=by
 have a:=gQ b i c;unfold fv at a;unfold Ud;exact((by omega))
theorem aw4(i:Nat)(a:i<3)(aW:kW)(t:Int):eP Tryz.prog 54 (MP i) b8 [] (cB fun C=>⟨⟨some (C.told.n≤549000000000),[],cj aK 0 (C.put i (C.Z i) C.s (DU aW t (C.Z i) C.told) C.a2)⟩⟩) [b aW.j,b aW.ai,b aW.K,.str aW.an,.str aW.p,.str aW.v,b aW.ax,b t]:=by
 refine gg fun C c=>fun d=>ei (al_ i) (.z) (Ud i C) (bK 10 aT bJ) Tryz.func54 [] ?_ ?_ (azg i a C c d)
 ·rcases b3 a with rfl|rfl|rfl<;>kernel_rfl
 ·rcases b3 a with rfl|rfl|rfl<;>kernel_rfl
theorem azQ(i:Nat)(b:i<3):fV 54 (MP i):=
 jv (bp:=[a,a,a,au,au,au,a,a]) fun s c=>Eq.mp (by rcases b3 b with rfl|rfl|rfl<;>kernel_rfl) (aw4 i b ⟨s.1,s.2.1,s.2.2.1,s.2.2.2.1,s.2.2.2.2.1,s.2.2.2.2.2.1,s.2.2.2.2.2.2.1⟩ s.2.2.2.2.2.2.2.1)
theorem awe(i:Nat)(a:i<3):fW 54 (MP i):=gq gf Tryz.func54 (azQ i a)
end
section
variable(i:Nat)(Z:H)
def QZ:Int:=(cond (Z.aX==1048576) Z.aX (f_ (i64.wrap (Z.aX+1)) Z.bm Z).aX)
def ab6:Int:=(cond (Z.aX==1048576) Z.dH (f_ (i64.wrap (Z.aX+1)) Z.bm Z).dH)
def IE:A Int:=(cond (Z.aX==1048576) Z.bd (f_ (i64.wrap (Z.aX+1)) Z.bm Z).bd)
def ab7:Int:=(cond (Z.aX==1048576) Z.bh (f_ (i64.wrap (Z.aX+1)) Z.bm Z).bh)
def tW:Bool:=(cond (Z.aX==1048576) true (!(lQ (i64.wrap (Z.aX+1)) Z.bm Z)))
def DX:H:={Z with aX:=(QZ Z),dH:=(ab6 Z),bd:=(IE Z),bh:=(ab7 Z)}
def DY:H:={(DX Z)with ro:=2,v0:=(Z.bm==0),v1:=(Z.bm==1),v2:=(Z.bm==2)}
def lR:H:=(H.bif (tW Z) (DX Z) (z5 (⟨0,0,3,(QZ Z),(ck (DY Z)),(tV (DY Z)),false,0,(L:A aI),0,0,0,(L:A aj),0,(L:A aG)⟩:O) (DY Z)))
def MX:db:=⟨[.e9 0 (33*i)],b8,eL,er,cB fun C=>⟨⟨some (0≤(C.Z i).bm∧(C.Z i).bm<3),[],cj aK 0 (C.set i (lR (C.Z i)))⟩⟩⟩
def Wa:cI:=⟨.eA true [] [] (gj i aK 0 [] 0) (gi i aK),[],[]++fy i aK,⟨[],[]⟩⟩
def arH(C:ak):cm (Wa i).b_:=let c:=DY (C.Z i);(.s (.j ⟨4194305,[],[(.h 0 (33*i+4),a),(.h 0 (33*i+5),a),(.h 0 (33*i+30),.af a8),(.h 0 (33*i+31),a),(.t 22,y)],[],.f⟩ (.lk [(0,(33*i+0))]) (.bU ⟨([.ptr 0 (33*i+0)]++(us 21 (([.bool (tW (C.Z i))]++(us 25 ([])))))),cn aK 0 (C.set i (DX (C.Z i))) []⟩ .z)) (.ad (.ad (.ad (.bU ⟨([.ptr 0 (33*i+0),U,b (ck c),b (tV c)]++(us 44 ([]))),cn aK 0 (C.set i c) []⟩ .z)))))
def Ug(i:Nat)(C:ak):Prop:=((tW (C.Z i))=false→((0:Int)≤(C.Z i).bm∧((C.Z i).bm:Int)<3))
theorem azk(i:Nat)(d:i<3)(C:ak)(c:ey C)(e:0≤(C.Z i).bm∧(C.Z i).bm<3):Ug i C:=by
 have b:=gQ c i d;unfold fv at b;unfold Ug;exact have⟨f,g⟩:=e;((fun a=>(by have:=a;simp [tW]at this;omega)))
theorem axb(i:Nat)(a:i<3):eP Tryz.prog 62 (MX i) b8 [] (cB fun C=>⟨⟨some (0≤(C.Z i).bm∧(C.Z i).bm<3),[],cj aK 0 (C.set i (lR (C.Z i)))⟩⟩) []:=by
 refine gg fun C b=>fun c=>ei (Wa i) (arH i C) (Ug i C) (bK 10 (aw ae7 aT) (av (xQ i a) (av (pg i a) (av (ae8 i a) bJ)))) Tryz.func62 (List.replicate 31 .f++List.replicate 62 .l++[.f,.f]++List.replicate 7 .l) ?_ ?_ (azk i a C b c)
 ·rcases b3 a with rfl|rfl|rfl<;>kernel_rfl
 ·rcases b3 a with rfl|rfl|rfl<;>kernel_rfl
theorem azY(i:Nat)(a:i<3):fV 62 (MX i):=
 axb i a
theorem sC(i:Nat)(a:i<3):fW 62 (MX i):=gq gf Tryz.func62 (azY i a)
end
section
variable(i:Nat)(ms:O)(Z:H)
def DZ:Int:=(cond (!(uo Z.l Z.lt Z.li ms.p ms.v)) Z.aX (cond (decide (Z.dH≥0)) (cond (Z.dH !=ms.j) Z.aX (cond (decide (Z.dH<0)) (f_ Z.aX ms.j Z).aX Z.aX)) (cond (decide (Z.dH<0)) (f_ Z.aX ms.j Z).aX Z.aX)))
def ab8:Int:=(cond (!(uo Z.l Z.lt Z.li ms.p ms.v)) Z.dH (cond (decide (Z.dH≥0)) (cond (Z.dH !=ms.j) Z.dH (cond (decide (Z.dH<0)) (f_ Z.aX ms.j Z).dH Z.dH)) (cond (decide (Z.dH<0)) (f_ Z.aX ms.j Z).dH Z.dH)))
def IF:A Int:=(cond (!(uo Z.l Z.lt Z.li ms.p ms.v)) Z.bd (cond (decide (Z.dH≥0)) (cond (Z.dH !=ms.j) Z.bd (cond (decide (Z.dH<0)) (f_ Z.aX ms.j Z).bd Z.bd)) (cond (decide (Z.dH<0)) (f_ Z.aX ms.j Z).bd Z.bd)))
def ab9:Int:=(cond (!(uo Z.l Z.lt Z.li ms.p ms.v)) Z.bh (cond (decide (Z.dH≥0)) (cond (Z.dH !=ms.j) Z.bh (cond (decide (Z.dH<0)) (f_ Z.aX ms.j Z).bh Z.bh)) (cond (decide (Z.dH<0)) (f_ Z.aX ms.j Z).bh Z.bh)))
def D0:Bool:=let a:=lQ Z.aX ms.j Z;(cond (!(uo Z.l Z.lt Z.li ms.p ms.v)) true (cond (decide (Z.dH≥0)) (cond (Z.dH !=ms.j) true (cond (decide (Z.dH<0)) (!a) false)) (cond (decide (Z.dH<0)) (!a) false)))
def wI:H:={Z with aX:=(DZ ms Z),dH:=(ab8 ms Z),bd:=(IF ms Z),bh:=(ab9 ms Z)}
def k_:H:=(H.bif (D0 ms Z) (qk ms.j (wI ms Z)) (ed ms.j (⟨0,0,4,(DZ ms Z),0,0,false,0,(L:A aI),0,0,0,(L:A aj),0,(L:A aG)⟩:O) (wI ms Z)))
def MZ:db:=⟨[.e9 0 (33*i),.g [a,a,a,a,a,a,y,a,.af c6,a,a,a,.af a_,a,.af bP]],b8,eL,er,fun(b:Int) (c:Int) (j:Int) (k:Int) (l:Int) (m:Int) n (o:Int) p (q:Int) (d:Int) (e:Int) f (g:Int) h=>cB fun C=>⟨⟨none,[],cj aK 0 (C.set i (k_ (⟨b,c,j,k,l,m,n,o,p,q,d,e,f,g,h⟩:O) (C.Z i)))⟩⟩⟩
def Wb:cI:=⟨.eA true [] [] (gj i aK 0 [] 0) (gi i aK),[],[]++fy i aK,⟨[],[]⟩⟩
def arI(C:ak):cm (Wb i).b_:=(.ad (.ad (.s (.j ⟨9007199254741001,[],[(.h 0 (33*i+4),a),(.h 0 (33*i+5),a),(.h 0 (33*i+30),.af a8),(.h 0 (33*i+31),a),(.t 53,y)],[],.f⟩ .z (.bU ⟨([.ptr 0 (33*i+0),U,U,.ptr 10 0]++(us 49 (([.bool (D0 ms (C.Z i))]++(us 13 ([])))))),cn aK 1 (C.set i (wI ms (C.Z i))) [(10,(iu ms))]⟩ (.s (.ad (.bU ⟨([.ptr 0 (33*i+0),U,U,.ptr 10 0]++(us 63 ([]))),cn aK 1 (C.set i (qk ms.j (wI ms (C.Z i)))) [(10,(iu ms))]⟩ .z)) .z))) (.lk [(0,(33*i+4))]))))
theorem axd(i:Nat)(a:i<3)(ms:O):eP Tryz.prog 64 (MZ i) b8 [] (cB fun C=>⟨⟨none,[],cj aK 0 (C.set i (k_ ms (C.Z i)))⟩⟩) (iu ms):=by
 refine gg fun C b=>ei (Wb i) (arI i ms C) True (bK 10 (aw Td aT) (av (pg i a) (av (ph i a) (av (xR i a) bJ)))) Tryz.func64 (List.replicate 31 .f++List.replicate 62 .l++[.f,.f]++List.replicate 7 .l) ?_ ?_ trivial
 ·rcases b3 a with rfl|rfl|rfl<;>kernel_rfl
 ·rcases b3 a with rfl|rfl|rfl<;>kernel_rfl
theorem az0(i:Nat)(b:i<3):fV 64 (MZ i):=
 jv (bp:=[a,a,a,a,a,a,y,a,.af c6,a,a,a,.af a_,a,.af bP]) fun s c=>Eq.mp (by rcases b3 b with rfl|rfl|rfl<;>kernel_rfl) (axd i b ⟨s.1,s.2.1,s.2.2.1,s.2.2.2.1,s.2.2.2.2.1,s.2.2.2.2.2.1,s.2.2.2.2.2.2.1,s.2.2.2.2.2.2.2.1,s.2.2.2.2.2.2.2.2.1,s.2.2.2.2.2.2.2.2.2.1,s.2.2.2.2.2.2.2.2.2.2.1,s.2.2.2.2.2.2.2.2.2.2.2.1,s.2.2.2.2.2.2.2.2.2.2.2.2.1,s.2.2.2.2.2.2.2.2.2.2.2.2.2.1,s.2.2.2.2.2.2.2.2.2.2.2.2.2.2.1⟩)
theorem sD(i:Nat)(a:i<3):fW 64 (MZ i):=gq gf Tryz.func64 (az0 i a)
end
end Go.Proofs.YtfmgjpcmcjjoiaaGreatDoor
