/- Part of a proof: walks of the program. -/
import Derived.Test.YtfmgjpcmcjjoiaaGreatDoorXn
import Derived.Test.YtfmgjpcmcjjoiaaGreatDoorXo
open Go.IntKind (i64 u64 u8)
open Int (toNat)
set_option maxRecDepth 100000
set_option maxHeartbeats 4000000
set_option linter.all false
noncomputable section
namespace Go.Proofs.YtfmgjpcmcjjoiaaGreatDoor
open Go Go.RowKit Go.ah
section
variable(i:Nat)(ms:O)(Z:H)
def t_:Int:=(cond (decide (ms.aP>Z.co)) (xh Z.l Z.lt Z.li ms.aP ms.cG ms.cZ ms.cJ ms.dh ms.b1) Z.l)
def IM:Int:=(cond (decide (ms.aP>Z.co)) (adl Z.l Z.lt Z.li ms.aP ms.cG ms.cZ ms.cJ ms.dh ms.b1) Z.lt)
def ub:A aI:=(cond (decide (ms.aP>Z.co)) (xi Z.l Z.lt Z.li ms.aP ms.cG ms.cZ ms.cJ ms.dh ms.b1) Z.li)
def uc:Int:=(cond (decide (ms.aP>Z.co)) ms.aP Z.c8)
def IN:Int:=(cond (decide (ms.aP>Z.co)) ms.cG Z.gR)
def IP:Int:=(cond (decide (ms.aP>Z.co)) ms.cZ Z.gS)
def IQ:A aj:=(cond (decide (ms.aP>Z.co)) ms.cJ Z.fG)
def IS:Int:=(cond (decide (ms.aP>Z.co)) ms.dh Z.gT)
def IT:A aG:=(cond (decide (ms.aP>Z.co)) ms.b1 Z.fF)
def IH:Int:=(cond (decide (ms.aP>Z.co)) ms.cZ Z.eO)
def II:A aj:=(cond (decide (ms.aP>Z.co)) ms.cJ Z.eC)
def IJ:Int:=(cond (decide (ms.aP>Z.co)) ms.dh Z.et)
def IK:A aG:=(cond (decide (ms.aP>Z.co)) ms.b1 Z.eD)
def ql:Int:=(cond (decide (ms.aP>Z.co)) ms.aP Z.co)
def ua:A Int:=(cond (decide (ms.aP>Z.co)) (h_ (⟨3,0,0,0,0,0,false,0,0,0,⟨#[]⟩,⟨#[]⟩,⟨#[]⟩,0,ms.aP,ms.cG,ms.cZ,ms.cJ,ms.dh,ms.b1⟩:b7) Z).bd Z.bd)
def IL:Int:=(cond (decide (ms.aP>Z.co)) (h_ (⟨3,0,0,0,0,0,false,0,0,0,⟨#[]⟩,⟨#[]⟩,⟨#[]⟩,0,ms.aP,ms.cG,ms.cZ,ms.cJ,ms.dh,ms.b1⟩:b7) Z).bh Z.bh)
def wK:Bool:=(cond (decide (ms.aP>Z.co)) (cond (!(gN (⟨3,0,0,0,0,0,false,0,0,0,⟨#[]⟩,⟨#[]⟩,⟨#[]⟩,0,ms.aP,ms.cG,ms.cZ,ms.cJ,ms.dh,ms.b1⟩:b7) Z)) false true) true)
def oc:H:={Z with l:=(t_ ms Z),lt:=(IM ms Z),li:=(ub ms Z),c8:=(uc ms Z),gR:=(IN ms Z),gS:=(IP ms Z),fG:=(IQ ms Z),gT:=(IS ms Z),fF:=(IT ms Z),eO:=(IH ms Z),eC:=(II ms Z),et:=(IJ ms Z),eD:=(IK ms Z),co:=(ql ms Z),bd:=(ua ms Z),bh:=(IL ms Z)}
def gz:H:=(H.bif (wK ms Z) (ed ms.j (⟨0,0,6,Z.aX,ms.aP,0,true,0,(L:A aI),0,0,0,(L:A aj),0,(L:A aG)⟩:O) (oc ms Z)) (h_ (⟨3,0,0,0,0,0,false,0,0,0,⟨#[]⟩,⟨#[]⟩,⟨#[]⟩,0,ms.aP,ms.cG,ms.cZ,ms.cJ,ms.dh,ms.b1⟩:b7) Z))
def M5:db:=⟨[.e9 0 (33*i),.g [a,a,a,a,a,a,y,a,.af c6,a,a,a,.af a_,a,.af bP]],b8,eL,er,fun(b:Int) (c:Int) (j:Int) (k:Int) (l:Int) (m:Int) n (o:Int) p (q:Int) (d:Int) (e:Int) f (g:Int) h=>cB fun C=>⟨⟨some ((⟨b,c,j,k,l,m,n,o,p,q,d,e,f,g,h⟩:O).aP≤4194304),[],cj aK 0 (C.set i (gz (⟨b,c,j,k,l,m,n,o,p,q,d,e,f,g,h⟩:O) (C.Z i)))⟩⟩⟩
def We:cI:=⟨.eA true [] [] (gj i aK 0 [] 0) (gi i aK),[],[]++fy i aK,⟨[],[]⟩⟩
def arL(C:ak):cm (We i).b_:=(.ad (.j ⟨9,[],[(.h 0 (33*i+6),a),(.h 0 (33*i+7),a),(.h 0 (33*i+8),.af c6),(.h 0 (33*i+9),a),(.h 0 (33*i+10),a),(.h 0 (33*i+11),a),(.h 0 (33*i+12),.af a_),(.h 0 (33*i+13),a),(.h 0 (33*i+14),.af bP),(.h 0 (33*i+15),a),(.h 0 (33*i+16),.af a_),(.h 0 (33*i+17),a),(.h 0 (33*i+18),.af bP),(.h 0 (33*i+19),a),(.h 0 (33*i+30),.af a8),(.h 0 (33*i+31),a)],[],.f⟩ (.ad (.s (.s (.ad (.bU ⟨([.ptr 0 (33*i+0),U,U,.ptr 10 0]++(us 13 (([.bool (!(gN (⟨3,0,0,0,0,0,false,0,0,0,⟨#[]⟩,⟨#[]⟩,⟨#[]⟩,0,ms.aP,ms.cG,ms.cZ,ms.cJ,ms.dh,ms.b1⟩:b7) (C.Z i)))]++(us 42 ([])))))),cn aK 1 (C.set i (h_ (⟨3,0,0,0,0,0,false,0,0,0,⟨#[]⟩,⟨#[]⟩,⟨#[]⟩,0,ms.aP,ms.cG,ms.cZ,ms.cJ,ms.dh,ms.b1⟩:b7) (C.Z i))) [(10,(iu ms))]⟩ .z)) .z) .z)) (.bU ⟨([.ptr 0 (33*i+0),U,U,.ptr 10 0]++(us 56 ([]))),cn aK 1 (C.set i (oc ms (C.Z i))) [(10,(iu ms))]⟩ (.lk [(0,(33*i+4))]))))
def Uj(i:Nat)(ms:O)(C:ak):Prop:=((decide (ms.aP>(C.Z i).co))=true→((oQ (⟨3,0,0,0,0,0,false,0,0,0,⟨#[]⟩,⟨#[]⟩,⟨#[]⟩,0,ms.aP,ms.cG,ms.cZ,ms.cJ,ms.dh,ms.b1⟩:b7))∧((!(gN (⟨3,0,0,0,0,0,false,0,0,0,⟨#[]⟩,⟨#[]⟩,⟨#[]⟩,0,ms.aP,ms.cG,ms.cZ,ms.cJ,ms.dh,ms.b1⟩:b7) (C.Z i)))=false→(ms.aP≤9223372036854775807))))
theorem azn(i:Nat)(c:i<3)(ms:O)(C:ak)(b:ey C)(j:ms.i.n≤549755813888)(g:ms.cJ.n≤549755813888)(h:ms.b1.n≤549755813888)(f:ms.aP≤4194304):Uj i ms C:=by
 have a:=gQ b i c;unfold fv at a;unfold Uj;exact((fun d=>⟨(by apply kO),(fun e=>(by omega))⟩))
theorem axh(i:Nat)(a:i<3)(ms:O)(f:ms.i.n≤549755813888)(d:ms.cJ.n≤549755813888)(e:ms.b1.n≤549755813888):eP Tryz.prog 68 (M5 i) b8 [] (cB fun C=>⟨⟨some (ms.aP≤4194304),[],cj aK 0 (C.set i (gz ms (C.Z i)))⟩⟩) (iu ms):=by
 refine gg fun C b=>fun c=>ei (We i) (arL i ms C) (Uj i ms C) (bK 10 (aw awH aT) (av (Fb i a) (av (xR i a) bJ))) Tryz.func68 (List.replicate 31 .f++List.replicate 62 .l++[.f,.f]++List.replicate 7 .l) ?_ ?_ (azn i a ms C b f d e c)
 ·rcases b3 a with rfl|rfl|rfl<;>kernel_rfl
 ·rcases b3 a with rfl|rfl|rfl<;>kernel_rfl
theorem az4(i:Nat)(c:i<3):fV 68 (M5 i):=
 jv (bp:=[a,a,a,a,a,a,y,a,.af c6,a,a,a,.af a_,a,.af bP]) fun s b=>Eq.mp (by rcases b3 c with rfl|rfl|rfl<;>kernel_rfl) (axh i c ⟨s.1,s.2.1,s.2.2.1,s.2.2.2.1,s.2.2.2.2.1,s.2.2.2.2.2.1,s.2.2.2.2.2.2.1,s.2.2.2.2.2.2.2.1,s.2.2.2.2.2.2.2.2.1,s.2.2.2.2.2.2.2.2.2.1,s.2.2.2.2.2.2.2.2.2.2.1,s.2.2.2.2.2.2.2.2.2.2.2.1,s.2.2.2.2.2.2.2.2.2.2.2.2.1,s.2.2.2.2.2.2.2.2.2.2.2.2.2.1,s.2.2.2.2.2.2.2.2.2.2.2.2.2.2.1⟩ (b.2.2.2.2.2.2.2.2.1 rfl) (b.2.2.2.2.2.2.2.2.2.2.2.2.1 rfl) (b.2.2.2.2.2.2.2.2.2.2.2.2.2.2.1 rfl))
theorem sH(i:Nat)(a:i<3):fW 68 (M5 i):=gq gf Tryz.func68 (az4 i a)
end
theorem aid{l:List Int}(h: ∀x∈l,0≤x∧x≤255):aO (A.lit l):=fun i=>by
 show 0≤l.getD i default∧l.getD i default≤255
 by_cases c:i<l.length
 ·rw[Gn,cT c];exact h _ (vf c)
 ·rw[Gn,e0 (by omega)];exact Ml
theorem Ga(x:Int):aO (j2 x):=aid fun y a=>by
 simp only[hf,oH,or_false]at a;rcases a with rfl|rfl|rfl<;>exact aie _
theorem aib{l:List (A Int)}(h: ∀s∈l,aO s):aO (we (A.lit l)):=by
 unfold we HV;refine u6 (fun _ _=>rfl) (fun _ _ _=>rfl) (fun i t a=>u5 a ?_) _ _ _ u7;show aO (l.getD (toNat i) default)
 by_cases c:toNat i<l.length
 ·rw[Gn,cT c];exact h _ (vf c)
 ·rw[Gn,e0 (by omega)];exact Vl
theorem Vm(x:Int)(h:0≤x∧x≤255):aO (A.lit [x]):=aid fun y a=>by
 rw[List.mem_singleton]at a;rw[a];exact h
theorem u64(d g:Int)(u:Bool)(h r o:Int)(q t f:z)(w:Int):aO (xb d g u h r o q t f w):=by
 unfold xb
 cases (hC d g u h r o q t f w !=0)
 ·simp only[aQ];have a:aO (bu g (bu d (L:A Int))):=l7 _ (l7 _ u7);unfold HJ
  cases u
  ·simp only[aQ];have b:=pC 0 a;unfold HY
   cases decide (h>0)
   ·simp only[aQ];exact l7 _ b
   ·simp only[aN];unfold Ir;exact l7 _ (q5 _ (q5 _ (q5 _ (pC _ (l7 _ (l7 _ b))))))
  ·exact pC _ a
 ·exact u7
theorem aCW(d g u h r o:Int)(q:Bool)(t f w:Int)(ao bb bR:z)(b0 cl df c_:Int)(c0:A aj)(da:Int)(c1:A aG):aO (k8 d g u h r o q t f w ao bb bR b0 cl df c_ c0 da c1):=by
 unfold k8
 cases (d==1)
 ·simp only[aQ]
  cases (d==2)
  ·simp only[aQ];refine aib fun s a=> ?_;simp only[hf,oH,or_false]at a;rcases a with rfl|rfl|rfl|rfl
   ·exact Vm 3 (by decide)
   ·exact Ga _
   ·exact Ga _
   ·exact gF _ _ _ _
  ·exact u5 (u5 (Vm 2 (by decide)) (Ga _)) (u64 _ _ _ _ _ _ _ _ _ _)
 ·exact u5 (u5 (Vm 1 (by decide)) (Ga _)) (Vn _)
theorem aC1{d:A Int}(c:aO d)(g u h r o q t:Int)(f:Bool)(w ao bb:Int)(bR b0 cl:z)(df c_ c0 da:Int)(c1:A aj)(fR:Int)(fS:A aG):aO (JS d g u h r o q t f w ao bb bR b0 cl df c_ c0 da c1 fR fS):=by
 unfold JS
 cases (!(gy d g))
 ·simp only[aQ]
  cases (jG u h r o q t f w ao bb bR b0 cl df c_ c0 da c1 fR fS !=0)
  ·simp only[aQ];generalize decide ((i64.wrap ((i64.wrap (((bn d g).n:Int)+3))+(((k8 u h r o q t f w ao bb bR b0 cl df c_ c0 da c1 fR fS).n:Nat):Int)))>400000)=b
   cases b
   ·refine aib fun s a=> ?_;simp only[hf,oH,or_false]at a;rcases a with rfl|rfl|rfl
    ·exact kR c
    ·exact Ga _
    ·exact aCW _ _ _ _ _ _ _ _ _ _ _ _ _ _ _ _ _ _ _ _
   ·exact u7
  ·exact u7
 ·exact u7
theorem u4{rc:b7}{Z:H}(h:aO Z.bd):aO (h_ rc Z).bd:=by
 show aO (Ed rc Z);unfold Ed;generalize (Ew Z.bd Z.bh rc.j rc.ai rc.K rc.an rc.p rc.v rc.ax rc.aF rc.i rc.aP rc.cG rc.cZ rc.cJ rc.dh rc.b1 rc.gv rc.kp rc.jx rc.kq rc.jy !=0)=b
 cases b
 ·exact aC1 h _ _ _ _ _ _ _ _ _ _ _ _ _ _ _ _ _ _ _ _ _
 ·exact h
section
variable(i:Nat)(ac:F)(C:ak)(Z:H)
def aqw(E:A O):Int:=(cond (decide ((E.n:Int)>0)) (ac.K.tmod (E.n:Int)) (-1))
def aqx:H:={Z with bU:=(eU (i64.wrap (Z.bU+ac.K)) 1073741824)}
def QR:H:=(aqx ac Z)
def ME:db:=⟨[.p 0,.g [a,a,a,a,a,a,au,au,au,a]],b8,eL,er,fun(b:Int) (c:Int) (d:Int) (e:Int) (f:Int) (g:Int) h j k (l:Int)=>cB fun C=>⟨⟨some (eM C (⟨b,c,d,e,f,g,h,j,k,l⟩:F)),[],cj [10,13,11,14,12,15,16,8,9] 7 (C.set i (QR (⟨b,c,d,e,f,g,h,j,k,l⟩:F) (C.Z i)))⟩⟩⟩
def VX:cI:=⟨.eA true [.b 10] [.own (.h 0 99) ca 16,.own (.h 0 29) cV 10,.own (.h 0 62) cV 11,.own (.h 0 95) cV 12,.own (.h 0 32) ca 13,.own (.h 0 65) ca 14,.own (.h 0 98) ca 15] (ys i [10,13,11,14,12,15,16,8,9] 7 [] 0 C) (xY i [10,13,11,14,12,15,16,8,9]),[],[]++vC i [10,13,11,14,12,15,16,8,9],⟨[],[]⟩⟩
def art:cm (VX i C).b_:=(.ad (.ad (.ad (.j ⟨57,[],[(.t 5,a)],[],.f⟩ .z (.bU ⟨([.ptr 0 0,U,U,.ptr 10 0,.ptr 0 (33*i+0),b (aqw ac C.s)]++(us 135 ([]))),cn aK 1 C [(10,[b 5,b (i:Int),b ac.K,b ac.an,b ac.p,b ac.v,.str ac.ax,.str ac.aF,.str ac.i,b ac.aP])]⟩ (.ad (.ad (.c false (.ad (.c true .z))))))))))
def T5(i:Nat)(ac:F)(C:ak):Prop:=((decide ((C.s.n:Int)>0))=true→(((C.s.n:Int):Int)≠0))
theorem ay8(i:Nat)(e:i<3)(ac:F)(C:ak)(d:ey C)(f:ac.ax.size≤549755813888)(g:ac.aF.size≤549755813888)(h:ac.i.size≤549755813888)(a:eM C ac):T5 i ac C:=by
 have c:=gQ d i e;unfold fv at c;unfold T5;exact have:=nV a i;have:=(nV a i).l;have:=(nV a i).ws;have:=oY a;have:=a.2.yn;have:=a.2.yo;have:=a.2.yp;have:=a.2.nB;((fun b=>(by have:=aq b;omega)))
theorem Th(i:Nat)(a:i<3)(ac:F)(e:ac.ax.size≤549755813888)(f:ac.aF.size≤549755813888)(g:ac.i.size≤549755813888)(C:ak)(c:ey C)(d:eM C ac):fj Tryz.prog 31 ((ME i).args ([b 5,b (i:Int),b ac.K,b ac.an,b ac.p,b ac.v,.str ac.ax,.str ac.aF,.str ac.i,b ac.aP]++h3 C)) ((ME i).c4 (([b 5,b (i:Int),b ac.K,b ac.an,b ac.p,b ac.v,.str ac.ax,.str ac.aF,.str ac.i,b ac.aP]++h3 C).drop (ME i).dL)) [] (cj [10,13,11,14,12,15,16,8,9] 7 (C.set i (QR ac (C.Z i)))):=by
 refine ei (VX i C) (art i ac C) (T5 i ac C) (bK 10 aT bJ) Tryz.func31 [] ?_ ?_ (ay8 i a ac C c e f g d)
 ·rcases b3 a with rfl|rfl|rfl<;>kernel_rfl
 ·rcases b3 a with rfl|rfl|rfl<;>kernel_rfl
end
end Go.Proofs.YtfmgjpcmcjjoiaaGreatDoor
