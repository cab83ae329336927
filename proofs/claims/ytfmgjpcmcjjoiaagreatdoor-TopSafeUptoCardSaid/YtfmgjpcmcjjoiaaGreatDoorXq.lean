import Derived.Test.YtfmgjpcmcjjoiaaGreatDoorXm
import Derived.Test.YtfmgjpcmcjjoiaaGreatDoorXo
open Go.IntKind (i64 u64 u8)
open Int (toNat)
set_option maxRecDepth 100000
set_option maxHeartbeats 4000000
set_option linter.all false
noncomputable section
namespace Go.Proofs.YtfmgjpcmcjjoiaaGreatDoor
open Go Go.RowKit Go.af
section
variable(i:Nat)(A:Int)(g:Int)(d:H)
def si:Bool:=(cond (!(gD (⟨1,A,g,0,0,0,false,0,0,0,⟨#[]⟩,⟨#[]⟩,⟨#[]⟩,0,0,0,0,(D:G L),0,(D:G aw)⟩:bo) d)) false true)
def Sh:Int:=(cond (!(gD (⟨1,A,g,0,0,0,false,0,0,0,⟨#[]⟩,⟨#[]⟩,⟨#[]⟩,0,0,0,0,(D:G L),0,(D:G aw)⟩:bo) d)) d.a6 A)
def Si:Int:=(cond (!(gD (⟨1,A,g,0,0,0,false,0,0,0,⟨#[]⟩,⟨#[]⟩,⟨#[]⟩,0,0,0,0,(D:G L),0,(D:G aw)⟩:bo) d)) d.cC g)
def fq:H:={d with a6:=(Sh A g d),cC:=(Si A g d),aX:=(fr (⟨1,A,g,0,0,0,false,0,0,0,⟨#[]⟩,⟨#[]⟩,⟨#[]⟩,0,0,0,0,(D:G L),0,(D:G aw)⟩:bo) d).aX,bc:=(fr (⟨1,A,g,0,0,0,false,0,0,0,⟨#[]⟩,⟨#[]⟩,⟨#[]⟩,0,0,0,0,(D:G L),0,(D:G aw)⟩:bo) d).bc}
def NV:c8:=⟨[.fa 0 (33*i),.v a,.v a],b4,eH,eu,fun(A:Int) (g:Int)=>cA fun C=>⟨⟨none,[.bool (si A g (C.d i))],ca aH 0 (C.set i (fq A g (C.d i)))⟩⟩⟩
def XO:cG:=⟨.eB true [] [] (ga i aH 0 [0] 1) (fY i aH),[.tmp 6],[(.t 0,l)]++fy i aH,⟨[],[]⟩⟩
def aqI(C:ak):cb (XO i).b1:=(.ae (.s (.ae (.bO ⟨([.ptr 0 (33*i+0),b A,b g,U,U,U,.lit false]++(us 5 (([.bool (!(gD (⟨1,A,g,0,0,0,false,0,0,0,⟨#[]⟩,⟨#[]⟩,⟨#[]⟩,0,0,0,0,(D:G L),0,(D:G aw)⟩:bo) (C.d i)))]++(us 8 ([])))))),cd aH 0 (C.set i (fr (⟨1,A,g,0,0,0,false,0,0,0,⟨#[]⟩,⟨#[]⟩,⟨#[]⟩,0,0,0,0,(D:G L),0,(D:G aw)⟩:bo) (C.d i))) []⟩ .z)) .z))
def Vt(i:Nat)(A:Int)(g:Int)(C:ak):Prop:=(oE (⟨1,A,g,0,0,0,false,0,0,0,⟨#[]⟩,⟨#[]⟩,⟨#[]⟩,0,0,0,0,(D:G L),0,(D:G aw)⟩:bo))
theorem ayz(i:Nat)(c:i<3)(A:Int)(g:Int)(C:ak)(b:ez C):Vt i A g C:=by
 have a:=gE b i c;unfold fw at a;unfold Vt;exact((by apply tf))
theorem awh(i:Nat)(a:i<3)(A:Int)(g:Int):eP Tryz.prog 58 (NV i) b4 [] (cA fun C=>⟨⟨none,[.bool (si A g (C.d i))],ca aH 0 (C.set i (fq A g (C.d i)))⟩⟩) [b A,b g]:=by
 refine fW fun C c=>ef (XO i) (aqI i A g C) (Vt i A g C) (bJ 10 aT (aj (FQ i a) bI)) Tryz.func58 ([.f]++List.replicate 4 .l++[.f,.f]++List.replicate 96 .l) ?_ ?_ (ayz i a A g C c)
 ·rcases bV a with rfl|rfl|rfl<;>kernel_rfl
 ·rcases bV a with rfl|rfl|rfl<;>kernel_rfl
theorem azd(i:Nat)(b:i<3):fO 58 (NV i):=
 jq (bm:=[a,a]) fun s c=>Eq.mp (by rcases bV b with rfl|rfl|rfl<;>kernel_rfl) (awh i b s.1 s.2.1)
theorem pj(i:Nat)(a:i<3):fP 58 (NV i):=gj fV Tryz.func58 (azd i a)
def EE(aL:ke)(y:Int)(d:H)(O:G bF):G bF:=(G.app O (G.lit ([(⟨d.bh,aL.q,aL.C,aL.z,aL.I,aL.w,aL.m,aL.N,y,⟨#[]⟩,0,(D:G u)⟩:bF)]:List bF)))
def NR:c8:=⟨[.p 0,.fa 0 (33*i),.g [a,a,a,ai,ai,ai,a],.v a],b4,eH,eu,fun(b:Int) (c:Int) (d:Int) e f g (h:Int) (y:Int)=>cA fun C=>⟨⟨some (C.told.n≤549000000000),[],ca aH 0 (C.put i (C.d i) C.ag (EE (⟨b,c,d,e,f,g,h⟩:ke) y (C.d i) C.told) C.a8)⟩⟩⟩
def alz:cG:=⟨.eB true [] [] (ga i aH 0 [] 0) (fY i aH),[],[]++fy i aH,⟨[],[]⟩⟩
def Vr(i:Nat)(C:ak):Prop:=(C.told.n+1≤549755813888)
theorem ayw(i:Nat)(c:i<3)(C:ak)(b:ez C)(d:C.told.n≤549000000000):Vr i C:=by
 have a:=gE b i c;unfold fw at a;unfold Vr;exact((by omega))
theorem awd(i:Nat)(a:i<3)(aL:ke)(y:Int):eP Tryz.prog 54 (NR i) b4 [] (cA fun C=>⟨⟨some (C.told.n≤549000000000),[],ca aH 0 (C.put i (C.d i) C.ag (EE aL y (C.d i) C.told) C.a8)⟩⟩) [b aL.q,b aL.C,b aL.z,.str aL.I,.str aL.w,.str aL.m,b aL.N,b y]:=by
 refine fW fun C c=>fun d=>ef (alz i) (.z) (Vr i C) (bJ 10 aT bI) Tryz.func54 [] ?_ ?_ (ayw i a C c d)
 ·rcases bV a with rfl|rfl|rfl<;>kernel_rfl
 ·rcases bV a with rfl|rfl|rfl<;>kernel_rfl
theorem ay_(i:Nat)(b:i<3):fO 54 (NR i):=
 jq (bm:=[a,a,a,ai,ai,ai,a,a]) fun s c=>Eq.mp (by rcases bV b with rfl|rfl|rfl<;>kernel_rfl) (awd i b ⟨s.1,s.2.1,s.2.2.1,s.2.2.2.1,s.2.2.2.2.1,s.2.2.2.2.2.1,s.2.2.2.2.2.2.1⟩ s.2.2.2.2.2.2.2.1)
theorem avp(i:Nat)(a:i<3):fP 54 (NR i):=gj fV Tryz.func54 (ay_ i a)
end
section
variable(i:Nat)(ms:ah)(d:H)
def Jv:Bool:=(cond (su d.j d.lt d.li ms.w ms.m) (decide (ms.I>d.a6)) false)
def aca:G ah:=(cond (Jv ms d) (et ms.q (⟨0,0,2,ms.I,0,0,false,0,(D:G aq),0,0,0,(D:G L),0,(D:G aw)⟩:ah) d).bw (qh ms.q d).bw)
def uA:H:={d with bw:=(aca ms d)}
def NY:c8:=⟨[.fa 0 (33*i),.g [a,a,a,a,a,a,l,a,.ab dh,a,a,a,.ab bd,a,.ab bT]],b4,eH,eu,fun(b:Int) (c:Int) (j:Int) (k:Int) (m:Int) (n:Int) o (p:Int) q (r:Int) (d:Int) (e:Int) f (g:Int) h=>cA fun C=>⟨⟨none,[],ca aH 0 (C.set i (uA (⟨b,c,j,k,m,n,o,p,q,r,d,e,f,g,h⟩:ah) (C.d i)))⟩⟩⟩
def XP:cG:=⟨.eB true [] [] (ga i aH 0 [] 0) (fY i aH),[],[]++fy i aH,⟨[],[]⟩⟩
def aqJ(C:ak):cb (XP i).b1:=(.ae (.s (.ae (.j ⟨134217737,[],[(.t 27,l)],[],.f⟩ .z (.bO ⟨([.ptr 0 (33*i+0),U,U,.ptr 10 0]++(us 23 (([.bool (Jv ms (C.d i))]++(us 11 ([])))))),cd aH 1 C [(10,(ig ms))]⟩ (.s (.ae (.bO ⟨([.ptr 0 (33*i+0),U,U,.ptr 10 0]++(us 35 ([]))),cd aH 1 (C.set i (et ms.q (⟨0,0,2,ms.I,0,0,false,0,(D:G aq),0,0,0,(D:G L),0,(D:G aw)⟩:ah) (C.d i))) [(10,(ig ms))]⟩ .z)) .z)))) .z))
theorem awj(i:Nat)(a:i<3)(ms:ah):eP Tryz.prog 60 (NY i) b4 [] (cA fun C=>⟨⟨none,[],ca aH 0 (C.set i (uA ms (C.d i)))⟩⟩) (ig ms):=by
 refine fW fun C b=>ef (XP i) (aqJ i ms C) True (bJ 10 (aG Ul aT) (aj (pk i a) (aj (xW i a) bI))) Tryz.func60 (List.replicate 94 .l++[.f]++List.replicate 7 .l) ?_ ?_ trivial
 ·rcases bV a with rfl|rfl|rfl<;>kernel_rfl
 ·rcases bV a with rfl|rfl|rfl<;>kernel_rfl
theorem azf(i:Nat)(b:i<3):fO 60 (NY i):=
 jq (bm:=[a,a,a,a,a,a,l,a,.ab dh,a,a,a,.ab bd,a,.ab bT]) fun s c=>Eq.mp (by rcases bV b with rfl|rfl|rfl<;>kernel_rfl) (awj i b ⟨s.1,s.2.1,s.2.2.1,s.2.2.2.1,s.2.2.2.2.1,s.2.2.2.2.2.1,s.2.2.2.2.2.2.1,s.2.2.2.2.2.2.2.1,s.2.2.2.2.2.2.2.2.1,s.2.2.2.2.2.2.2.2.2.1,s.2.2.2.2.2.2.2.2.2.2.1,s.2.2.2.2.2.2.2.2.2.2.2.1,s.2.2.2.2.2.2.2.2.2.2.2.2.1,s.2.2.2.2.2.2.2.2.2.2.2.2.2.1,s.2.2.2.2.2.2.2.2.2.2.2.2.2.2.1⟩)
theorem sT(i:Nat)(a:i<3):fP 60 (NY i):=gj fV Tryz.func60 (azf i a)
end
section
variable(i:Nat)(d:H)
def Sl:Int:=(cond (d.a6==1048576) d.a6 (fq (i64.wrap (d.a6+1)) d.bh d).a6)
def acd:Int:=(cond (d.a6==1048576) d.cC (fq (i64.wrap (d.a6+1)) d.bh d).cC)
def Jw:G Int:=(cond (d.a6==1048576) d.aX (fq (i64.wrap (d.a6+1)) d.bh d).aX)
def ace:Int:=(cond (d.a6==1048576) d.bc (fq (i64.wrap (d.a6+1)) d.bh d).bc)
def Jx:Bool:=(cond (d.a6==1048576) true (!(si (i64.wrap (d.a6+1)) d.bh d)))
def uB:H:={d with a6:=(Sl d),cC:=(acd d),aX:=(Jw d),bc:=(ace d)}
def Aq:H:={(uB d)with ro:=2,v0:=(d.bh==0),v1:=(d.bh==1),v2:=(d.bh==2)}
def sj:H:=(H.bif (Jx d) (uB d) (uF (⟨0,0,3,(Sl d),(b7 (Aq d)),(uz (Aq d)),false,0,(D:G aq),0,0,0,(D:G L),0,(D:G aw)⟩:ah) (Aq d)))
def N0:c8:=⟨[.fa 0 (33*i)],b4,eH,eu,cA fun C=>⟨⟨some (0≤(C.d i).bh∧(C.d i).bh<3),[],ca aH 0 (C.set i (sj (C.d i)))⟩⟩⟩
def XR:cG:=⟨.eB true [] [] (ga i aH 0 [] 0) (fY i aH),[],[]++fy i aH,⟨[],[]⟩⟩
def aqL(C:ak):cb (XR i).b1:=let c:=Aq (C.d i);(.s (.j ⟨4194305,[],[(.h 0 (33*i+4),a),(.h 0 (33*i+5),a),(.h 0 (33*i+30),.ab a5),(.h 0 (33*i+31),a),(.t 22,l)],[],.f⟩ (.lG [(0,(33*i+0))]) (.bO ⟨([.ptr 0 (33*i+0)]++(us 21 (([.bool (Jx (C.d i))]++(us 25 ([])))))),cd aH 0 (C.set i (uB (C.d i))) []⟩ .z)) (.ae (.ae (.ae (.bO ⟨([.ptr 0 (33*i+0),U,b (b7 c),b (uz c)]++(us 44 ([]))),cd aH 0 (C.set i c) []⟩ .z)))))
def Vu(i:Nat)(C:ak):Prop:=((Jx (C.d i))=false→((0:Int)≤(C.d i).bh∧((C.d i).bh:Int)<3))
theorem ayA(i:Nat)(d:i<3)(C:ak)(c:ez C)(e:0≤(C.d i).bh∧(C.d i).bh<3):Vu i C:=by
 have b:=gE c i d;unfold fw at b;unfold Vu;exact have⟨f,g⟩:=e;((fun a=>(by have:=a;simp [Jx]at this;omega)))
theorem awl(i:Nat)(a:i<3):eP Tryz.prog 62 (N0 i) b4 [] (cA fun C=>⟨⟨some (0≤(C.d i).bh∧(C.d i).bh<3),[],ca aH 0 (C.set i (sj (C.d i)))⟩⟩) []:=by
 refine fW fun C b=>fun c=>ef (XR i) (aqL i C) (Vu i C) (bJ 10 (aG aez aT) (aj (xV i a) (aj (pj i a) (aj (aeA i a) bI)))) Tryz.func62 (List.replicate 31 .f++List.replicate 62 .l++[.f,.f]++List.replicate 7 .l) ?_ ?_ (ayA i a C b c)
 ·rcases bV a with rfl|rfl|rfl<;>kernel_rfl
 ·rcases bV a with rfl|rfl|rfl<;>kernel_rfl
theorem azh(i:Nat)(a:i<3):fO 62 (N0 i):=
 awl i a
theorem sV(i:Nat)(a:i<3):fP 62 (N0 i):=gj fV Tryz.func62 (azh i a)
end
def Su(d:H):H:=let a:=iE d.j d.lt d.li d.co;{(fr (⟨3,0,0,0,0,0,false,0,0,0,⟨#[]⟩,⟨#[]⟩,⟨#[]⟩,0,d.co,a,d.e5,d.c6,d.eN,d.dW⟩:bo) d)with j:=(o_ d.j d.lt d.li d.co),lt:=(AR d.j d.lt d.li d.co),li:=(qv d.j d.lt d.li d.co),bX:=d.co,gG:=a,gH:=d.e5,eU:=d.c6,gI:=d.eN,eT:=d.dW}
def o5(d:H):H:=(H.bif (d.co==d.j) d (H.bif (gD (⟨3,0,0,0,0,0,false,0,0,0,⟨#[]⟩,⟨#[]⟩,⟨#[]⟩,0,d.co,(iE d.j d.lt d.li d.co),d.e5,d.c6,d.eN,d.dW⟩:bo) d) (Su d) (fr (⟨3,0,0,0,0,0,false,0,0,0,⟨#[]⟩,⟨#[]⟩,⟨#[]⟩,0,d.co,(iE d.j d.lt d.li d.co),d.e5,d.c6,d.eN,d.dW⟩:bo) d)))
def Oc(i:Nat):c8:=⟨[.fa 0 (33*i)],b4,eH,eu,cA fun C=>⟨⟨some ((C.d i).co≤4194304),[],ca aH 0 (C.set i (o5 (C.d i)))⟩⟩⟩
def X0(i:Nat):cG:=⟨.eB true [] [] (ga i aH 0 [] 0) (fY i aH),[],[]++fy i aH,⟨[],[]⟩⟩
def aqU(i:Nat)(C:ak):cb (X0 i).b1:=let a:=C.d i;let c:=iE a.j a.lt a.li a.co;(.ae (.ae (.ae (.ae (.bO ⟨([.ptr 0 (33*i+0),U,U,U,.ptr 10 0]++(us 35 (([.bool (gD (⟨3,0,0,0,0,0,false,0,0,0,⟨#[]⟩,⟨#[]⟩,⟨#[]⟩,0,a.co,c,a.e5,a.c6,a.eN,a.dW⟩:bo) a)]++(us 19 ([])))))),cd aH 1 (C.set i (fr (⟨3,0,0,0,0,0,false,0,0,0,⟨#[]⟩,⟨#[]⟩,⟨#[]⟩,0,a.co,c,a.e5,a.c6,a.eN,a.dW⟩:bo) a)) [(10,[b a.co,b c,b a.e5,aI 8 gp a.c6,b a.eN,aI 7 gV a.dW])]⟩ .z)))))
def VC(i:Nat)(C:ak):Prop:=(((C.d i).co==(C.d i).j)=false→((oE (⟨3,0,0,0,0,0,false,0,0,0,⟨#[]⟩,⟨#[]⟩,⟨#[]⟩,0,(C.d i).co,(iE (C.d i).j (C.d i).lt (C.d i).li (C.d i).co),(C.d i).e5,(C.d i).c6,(C.d i).eN,(C.d i).dW⟩:bo))∧((gD (⟨3,0,0,0,0,0,false,0,0,0,⟨#[]⟩,⟨#[]⟩,⟨#[]⟩,0,(C.d i).co,(iE (C.d i).j (C.d i).lt (C.d i).li (C.d i).co),(C.d i).e5,(C.d i).c6,(C.d i).eN,(C.d i).dW⟩:bo) (C.d i))=true→((C.d i).co≤9223372036854775807))))
theorem ayI(i:Nat)(c:i<3)(C:ak)(b:ez C)(f:(C.d i).co≤4194304):VC i C:=by
 have a:=gE b i c;unfold fw at a;unfold VC;exact((fun d=>⟨(by apply q3),(fun e=>(by omega))⟩))
theorem awx(i:Nat)(a:i<3):eP Tryz.prog 75 (Oc i) b4 [] (cA fun C=>⟨⟨some ((C.d i).co≤4194304),[],ca aH 0 (C.set i (o5 (C.d i)))⟩⟩) []:=by
 refine fW fun C b=>fun c=>ef (X0 i) (aqU i C) (VC i C) (bJ 10 (aG LL (aG aeG aT)) (aj (FQ i a) bI)) Tryz.func75 (List.replicate 31 .f++List.replicate 62 .l++[.f,.f]++List.replicate 7 .l) ?_ ?_ (ayI i a C b c)
 ·rcases bV a with rfl|rfl|rfl<;>kernel_rfl
 ·rcases bV a with rfl|rfl|rfl<;>kernel_rfl
theorem azt(i:Nat)(a:i<3):fO 75 (Oc i):=
 awx i a
theorem avs(i:Nat)(a:i<3):fP 75 (Oc i):=gj fV Tryz.func75 (azt i a)
section
variable(i:Nat)(ms:ah)(d:H)
def Sm:Int:=(cond (!(su d.j d.lt d.li ms.w ms.m)) d.a6 (cond (decide (d.cC≥0)) (cond (d.cC !=ms.q) d.a6 (cond (decide (d.cC<0)) (fq d.a6 ms.q d).a6 d.a6)) (cond (decide (d.cC<0)) (fq d.a6 ms.q d).a6 d.a6)))
def acf:Int:=(cond (!(su d.j d.lt d.li ms.w ms.m)) d.cC (cond (decide (d.cC≥0)) (cond (d.cC !=ms.q) d.cC (cond (decide (d.cC<0)) (fq d.a6 ms.q d).cC d.cC)) (cond (decide (d.cC<0)) (fq d.a6 ms.q d).cC d.cC)))
def Jy:G Int:=(cond (!(su d.j d.lt d.li ms.w ms.m)) d.aX (cond (decide (d.cC≥0)) (cond (d.cC !=ms.q) d.aX (cond (decide (d.cC<0)) (fq d.a6 ms.q d).aX d.aX)) (cond (decide (d.cC<0)) (fq d.a6 ms.q d).aX d.aX)))
def acg:Int:=(cond (!(su d.j d.lt d.li ms.w ms.m)) d.bc (cond (decide (d.cC≥0)) (cond (d.cC !=ms.q) d.bc (cond (decide (d.cC<0)) (fq d.a6 ms.q d).bc d.bc)) (cond (decide (d.cC<0)) (fq d.a6 ms.q d).bc d.bc)))
def ach:Bool:=let a:=si d.a6 ms.q d;(cond (!(su d.j d.lt d.li ms.w ms.m)) true (cond (decide (d.cC≥0)) (cond (d.cC !=ms.q) true (cond (decide (d.cC<0)) (!a) false)) (cond (decide (d.cC<0)) (!a) false)))
def sl:H:={d with a6:=(Sm ms d),cC:=(acf ms d),aX:=(Jy ms d),bc:=(acg ms d)}
def sk:H:=(H.bif (ach ms d) (qh ms.q (sl ms d)) (et ms.q (⟨0,0,4,(Sm ms d),0,0,false,0,(D:G aq),0,0,0,(D:G L),0,(D:G aw)⟩:ah) (sl ms d)))
def N2:c8:=⟨[.fa 0 (33*i),.g [a,a,a,a,a,a,l,a,.ab dh,a,a,a,.ab bd,a,.ab bT]],b4,eH,eu,fun(b:Int) (c:Int) (j:Int) (k:Int) (m:Int) (n:Int) o (p:Int) q (r:Int) (d:Int) (e:Int) f (g:Int) h=>cA fun C=>⟨⟨none,[],ca aH 0 (C.set i (sk (⟨b,c,j,k,m,n,o,p,q,r,d,e,f,g,h⟩:ah) (C.d i)))⟩⟩⟩
def XS:cG:=⟨.eB true [] [] (ga i aH 0 [] 0) (fY i aH),[],[]++fy i aH,⟨[],[]⟩⟩
def aqM(C:ak):cb (XS i).b1:=(.ae (.ae (.s (.j ⟨9007199254741001,[],[(.h 0 (33*i+4),a),(.h 0 (33*i+5),a),(.h 0 (33*i+30),.ab a5),(.h 0 (33*i+31),a),(.t 53,l)],[],.f⟩ .z (.bO ⟨([.ptr 0 (33*i+0),U,U,.ptr 10 0]++(us 49 (([.bool (ach ms (C.d i))]++(us 13 ([])))))),cd aH 1 (C.set i (sl ms (C.d i))) [(10,(ig ms))]⟩ (.s (.ae (.bO ⟨([.ptr 0 (33*i+0),U,U,.ptr 10 0]++(us 63 ([]))),cd aH 1 (C.set i (qh ms.q (sl ms (C.d i)))) [(10,(ig ms))]⟩ .z)) .z))) (.lG [(0,(33*i+4))]))))
theorem awn(i:Nat)(a:i<3)(ms:ah):eP Tryz.prog 64 (N2 i) b4 [] (cA fun C=>⟨⟨none,[],ca aH 0 (C.set i (sk ms (C.d i)))⟩⟩) (ig ms):=by
 refine fW fun C b=>ef (XS i) (aqM i ms C) True (bJ 10 (aG Ul aT) (aj (pj i a) (aj (pk i a) (aj (xW i a) bI)))) Tryz.func64 (List.replicate 31 .f++List.replicate 62 .l++[.f,.f]++List.replicate 7 .l) ?_ ?_ trivial
 ·rcases bV a with rfl|rfl|rfl<;>kernel_rfl
 ·rcases bV a with rfl|rfl|rfl<;>kernel_rfl
theorem azj(i:Nat)(b:i<3):fO 64 (N2 i):=
 jq (bm:=[a,a,a,a,a,a,l,a,.ab dh,a,a,a,.ab bd,a,.ab bT]) fun s c=>Eq.mp (by rcases bV b with rfl|rfl|rfl<;>kernel_rfl) (awn i b ⟨s.1,s.2.1,s.2.2.1,s.2.2.2.1,s.2.2.2.2.1,s.2.2.2.2.2.1,s.2.2.2.2.2.2.1,s.2.2.2.2.2.2.2.1,s.2.2.2.2.2.2.2.2.1,s.2.2.2.2.2.2.2.2.2.1,s.2.2.2.2.2.2.2.2.2.2.1,s.2.2.2.2.2.2.2.2.2.2.2.1,s.2.2.2.2.2.2.2.2.2.2.2.2.1,s.2.2.2.2.2.2.2.2.2.2.2.2.2.1,s.2.2.2.2.2.2.2.2.2.2.2.2.2.2.1⟩)
theorem sW(i:Nat)(a:i<3):fP 64 (N2 i):=gj fV Tryz.func64 (azj i a)
end
section
def w4(A:Int):Nat→Int→Int→G aM→Int×Int×G aM
 |0,_,_,_=>default
 |k+1,e,f,aW=>(cond (decide (f≤A)) (w4 A k f (i64.wrap (f+20)) (G.cut (w_ e f aW) aW.n)) (e,f,aW))
variable(A:Int)(bk:Int)(iJ:G aM)(g:G aM)
def Sf:Int×Int×G aM:=w4 A ((toNat (A+21-20))+1) 0 20 g
def w5(A:Int)(bk:Int):Nat→Int→Int→G aM→Int×Int×G aM×Int×Int×Bool
 |0,_,_,_=>default
 |k+1,b,a,c=>(cond (decide (a≤A)) (w5 A bk k a (i64.wrap (a+(i64.wrap (2*bk)))) (G.cut (pP 900001 b (i64.wrap (b+bk)) a c) c.n)) (b,a,c,a,A,(decide (a≤A))))
def lz:Int×Int×G aM×Int×Int×Bool:=w5 A bk ((toNat (A+2*bk+1- (i64.wrap (2*bk))))+1) 0 (i64.wrap (2*bk)) iJ
def Jt:G aM:=(cond (decide ((i64.wrap ((lz A bk iJ).1+bk))<A)) (G.cut (pP 900001 (lz A bk iJ).1 (i64.wrap ((lz A bk iJ).1+bk)) A (lz A bk iJ).2.2.1) (lz A bk iJ).2.2.1.n) (lz A bk iJ).2.2.1)
def ED(A:Int):Nat→Int→Int→Int→G aM→G aM
 |0,_,_,_,_=>default
 |k+1,bk,_,_,iJ=>(cond (decide (bk<A)) (ED A k (i64.wrap (bk*2)) (lz A bk iJ).1 (lz A bk iJ).2.1 (Jt A bk iJ)) iJ)
def apD:G aM:=let a:=Sf A g;ED A ((toNat (A-20))+1) 20 a.1 a.2.1 (G.cut (w_ a.1 A a.2.2) a.2.2.n)
def An:G aM:=(apD A g)
theorem Vf(A:Int)(g:A≤900000): ∀(k:Nat) (a b:Int) (s:G aM),0≤a→a≤A→b=a+20→toNat (A+21-b)<k→(0≤(w4 A k a b s).1∧(w4 A k a b s).1≤A)∧(w4 A k a b s).2.2.n=s.n
 |0,_,_,_,_,_,_,c=>absurd c (en _)
 |k+1,a,b,s,d,f,h,c=>by
  rw[w4]
  by_cases e:b≤A
  ·rw[bS e,aQ,E (b+20)];exact Vf A g k b (b+20) _ (by omega) e rfl (by omega)
  ·rw[bp e,aS];exact⟨⟨d,f⟩,rfl⟩
theorem agc(A v:Int)(h:0≤A∧A≤900000)(g:20≤v∧v≤1800000): ∀(k:Nat) (a b:Int) (s:G aM),0≤a→a≤A→b=a+2*v→toNat (A+2*v+1-b)<k→(0≤(w5 A v k a b s).1∧(w5 A v k a b s).1≤A)∧(w5 A v k a b s).2.2.1.n=s.n
 |0,_,_,_,_,_,_,c=>absurd c (en _)
 |k+1,a,b,s,d,f,i,c=>by
  rw[w5,E (2*v)]
  by_cases e:b≤A
  ·rw[bS e,aQ,E (b+2*v)];exact agc A v h g k b (b+2*v) _ (by omega) e rfl (by omega)
  ·rw[bp e,aS];exact⟨⟨d,f⟩,rfl⟩
theorem aBm(A v:Int)(s:G aM):((0≤A∧A≤900000)∧(20≤v∧v≤1800000))→(0≤(lz A v s).1∧(lz A v s).1≤A)∧(lz A v s).2.2.1.n=s.n:=fun h=>by
 obtain⟨a,b⟩:=h;have c:=E (2*v);unfold lz;rw[c];exact agc A v a b _ 0 (2*v) s (cR _) a.1 (by omega) (by omega)
theorem afl(A v:Int)(s:G aM)(h:(0≤A∧A≤900000)∧(20≤v∧v≤1800000)):(Jt A v s).n=s.n:=by
 have t:=aBm A v s h;unfold Jt;generalize decide (i64.wrap ((lz A v s).1+v)<A)=b
 cases b
 ·exact t.2
 ·exact t.2
theorem agf(A:Int)(d:0≤A∧A≤900000): ∀(k:Nat) (v a b:Int) (s:G aM),20≤v→v≤1800000→toNat (A-v)<k→(ED A k v a b s).n=s.n
 |0,_,_,_,_,_,_,c=>absurd c (en _)
 |k+1,v,a,b,s,f,g,c=>by
  rw[ED]
  by_cases e:v<A
  ·rw[bS e,aQ,E (v*2)];exact(agf A d k (v*2) _ _ _ (by omega) (by omega) (by omega)).trans (afl A v s ⟨d,f,g⟩)
  ·rw[bp e,aS]
theorem axY(A:Int)(g:G aM)(b:A=(g.n:Int)∧g.n≤900000):(An A g).n=g.n:=by
 have a:(Sf A g).2.2.n=g.n:=by
  by_cases e:(20:Int)≤A
  ·have:=Vf A (by omega) (toNat (A+21-20)+1) 0 20 g (cR _) (by omega) rfl (by omega);exact this.2
  ·have:=Vf A (by omega) (toNat (A+21-20)+1) 0 20 g (cR _) (by omega) rfl (by omega);exact this.2
 exact(agf A ⟨by omega,by omega⟩ _ 20 _ _ _ (by decide) (by decide) (by omega)).trans a
def akL:b0:=⟨[.o 0,.v a,.ju 34 []],[(.h 0 0,.ad cJ)],[[U]],fun(A:Int) g=>⟨⟨some (A=(g.n:Int)∧g.n≤900000),[],[[(aB.ad cJ).av (G.cut (An A g) g.n)]]⟩⟩⟩
theorem avo:dJ 46 akL:=dL Tryz.func46
 fun(A:Int) g W t=>have y:=G.zb (axY A g t);xH (rs:=[]) (H':=[[(aB.ad cJ).av (An A g)]]) (dI ⟨.heap,[],[(.h 0 0,.ad cJ)],⟨[],[[U]]⟩⟩ (.ae (.ae (.j ⟨455,[],[],[],.f⟩ (.cW ⟨455,[],[],[(.t 7,a),(.t 8,a),(.h 0 0,.ad cJ)],some 0,false,455,[],[(.t 7,a),(.t 8,a),(.h 0 0,.ad cJ)],fun k (s:Int×Int×G aM)=>w4 A k s.1 s.2.1 s.2.2,.f,fun(s:Int×Int×G aM)=>(0≤s.1∧s.1≤A∧s.2.1=s.1+20∧(s.2.2.n:Int)=g.n),fun(s:Int×Int×G aM)=>(toNat (A+21-s.2.1)),some fun(r:Int×Int×G aM)=>(0≤r.1∧r.1≤A∧(r.2.2.n:Int)=g.n)⟩ .z) (.ae (.x3 ⟨455,[],[],[(.t 6,a),(.t 7,a),(.t 8,a),(.h 0 0,.ad cJ)],some 2,false,0,[],[(.h 0 0,.ad cJ)],fun k (s:Int×Int×Int×G aM)=>ED A k s.1 s.2.1 s.2.2.1 s.2.2.2,.f,fun(s:Int×Int×Int×G aM)=>(20≤s.1∧s.1≤1800000∧(s.2.2.2.n:Int)=g.n),fun(s:Int×Int×Int×G aM)=>(toNat (A-s.1)),some fun(r:G aM)=>(r.n:Int)=g.n⟩ (fun(j:Int×Int×Int×G aM)=>(.ae (.ae (.j ⟨68451041735,[],[],[],.f⟩ (.cW ⟨8321499591,[],[],[(.t 7,a),(.t 8,a),(.h 0 0,.ad cJ)],some 4,false,68451041735,[],[(.t 7,a),(.t 8,a),(.h 0 0,.ad cJ),(.t 33,a),(.t 34,a),(.t 35,l)],fun k (s:Int×Int×G aM)=>w5 A j.1 k s.1 s.2.1 s.2.2,.f,fun(s:Int×Int×G aM)=>(0≤s.1∧s.1≤A∧s.2.1=s.1+2*j.1∧(s.2.2.n:Int)=g.n),fun(s:Int×Int×G aM)=>(toNat (A+2*j.1+1-s.2.1)),some fun(r:Int×Int×G aM×Int×Int×Bool)=>(0≤r.1∧r.1≤A∧(r.2.2.1.n:Int)=g.n)⟩ .z) (.j ⟨35465915516584903,[],[(.h 0 0,.ad cJ)],[],.f⟩ .z .z)))))))))) (let h:=Sf A g;(((0≤(0:Int)∧(0:Int)≤A∧(20:Int)=(0:Int)+20∧(g.n:Int)=g.n))∧(∀(e:Int) (f:Int) (aW:G aM),let w:=i64.wrap (f+20);let p:=decide (f≤A);(0≤e∧e≤A∧f=e+20∧(aW.n:Int)=g.n)→((p=true→(0≤e∧e≤f∧f≤(aW.n:Int)∧aW.n≤900000))∧((p=true→((0≤f∧f≤A∧w=f+20∧(aW.n:Int)=g.n)∧(toNat (A+21-w))<(toNat (A+21-f))))∧(p=false→((0≤e∧e≤A∧(aW.n:Int)=g.n)))))))∧(((0≤h.1∧h.1≤A∧(h.2.2.n:Int)=g.n))→((0≤h.1∧h.1≤A∧A≤(h.2.2.n:Int)∧h.2.2.n≤900000)∧(((20≤(20:Int)∧(20:Int)≤1800000∧(h.2.2.n:Int)=g.n))∧(∀(bk:Int) (I:Int) (J:Int) (iJ:G aM),let x:=i64.wrap (2*bk);let q:=decide (bk<A);let n:=i64.wrap (bk*2);let d:=lz A bk iJ;let m:=i64.wrap (d.1+bk);(20≤bk∧bk≤1800000∧(iJ.n:Int)=g.n)→((q=true→((((0≤(0:Int)∧(0:Int)≤A∧x=(0:Int)+2*bk∧(iJ.n:Int)=g.n))∧(∀(c:Int) (b:Int) (i:G aM),let v:=i64.wrap (c+bk);let o:=decide (b≤A);let u:=i64.wrap (b+x);(0≤c∧c≤A∧b=c+2*bk∧(i.n:Int)=g.n)→((o=true→(0≤c∧c<v∧v<b∧b≤(i.n:Int)∧i.n≤900000∧b-c<((900001:Nat):Int)))∧((o=true→((0≤b∧b≤A∧u=b+2*bk∧(i.n:Int)=g.n)∧(toNat (A+2*bk+1-u))<(toNat (A+2*bk+1-b))))∧(o=false→((0≤c∧c≤A∧(i.n:Int)=g.n)))))))∧(((0≤d.1∧d.1≤A∧(d.2.2.1.n:Int)=g.n))→((decide (m<A))=true→(0≤d.1∧d.1<m∧m<A∧A≤(d.2.2.1.n:Int)∧d.2.2.1.n≤900000∧A-d.1<((900001:Nat):Int))))))∧((q=true→((20≤n∧n≤1800000∧(((Jt A bk iJ).n:Nat):Int)=g.n)∧(toNat (A-n))<(toNat (A-bk))))∧(q=false→((iJ.n:Int)=g.n))))))))) (bJ 1 aT (aj avt (aj (aeC 900001) bI))) Tryz.func46 (have⟨T,V⟩:=t;⟨⟨(by omega),(fun e f aW Q=>⟨(fun D=>(by have:=al D;omega)),⟨(fun F=>(by have:=al F;have:=E (f+20);omega)),(fun M=>(by omega))⟩⟩)⟩,(fun P=>⟨(by omega),⟨(by omega),(fun bk I J iJ R=>⟨(fun N=>⟨⟨(by have:=E (2*bk);omega),(fun c b i S=>⟨(fun H=>(by have:=al H;have:=E (c+bk);omega)),⟨(fun z=>(by have:=al z;have:=E (2*bk);have:=E (b+(i64.wrap (2*bk)));omega)),(fun K=>(by omega))⟩⟩)⟩,(fun O=>(fun B=>(by have:=al B;have:=E ((lz A bk iJ).1+bk);omega)))⟩),⟨(fun C=>(by have:=al C;have:=afl A bk iJ;have:=E (bk*2);omega)),(fun L=>(by omega))⟩⟩)⟩⟩)⟩)) rfl (show([[(aB.ad cJ).av (An A g)]]:Heap)=[[(aB.ad cJ).av (G.cut (An A g) g.n)]] by rw[y])
end
def Ae(A:G aM):G aM:=(G.cut (An (A.n:Int) A) A.n)
theorem axW(A:G aM)(a:A.n≤900000):(Ae A).n=A.n:=rfl
def akH:b0:=⟨[.o 0,.ju 34 []],[(.h 0 0,.ad cJ)],[[U]],fun A=>⟨⟨some (A.n≤900000),[],[[(aB.ad cJ).av (G.cut (Ae A) A.n)]]⟩⟩⟩
theorem avk:dJ 33 akH:=dL Tryz.func33
 fun A c b=>have a:=G.zb (axW A b);xH (rs:=[]) (H':=[[(aB.ad cJ).av (Ae A)]]) (dI ⟨.heap,[],[(.h 0 0,.ad cJ)],⟨[],[[U]]⟩⟩ (.z) ((A.n:Int)=(A.n:Int)∧A.n≤900000) (bJ 1 aT (aj avo bI)) Tryz.func33 ((by omega))) rfl (show([[(aB.ad cJ).av (Ae A)]]:Heap)=[[(aB.ad cJ).av (G.cut (Ae A) A.n)]] by rw[a])
end Go.Proofs.YtfmgjpcmcjjoiaaGreatDoor
