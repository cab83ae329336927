/- Part of a proof: walks of the program. -/
import Derived.Test.YtfmgjpcmcjjoiaaGreatDoorXn
open Go.IntKind (i64 u64 u8)
open Int (toNat)
set_option maxRecDepth 100000
set_option maxHeartbeats 4000000
set_option linter.all false
noncomputable section
namespace Go.Proofs.YtfmgjpcmcjjoiaaGreatDoor
open Go Go.RowKit Go.ah
section
variable(i:Nat)(it:aI)(Z:H)
def IB:A Int:=(cond ((fc Z.l Z.lt Z.li (ck Z) (hk Z) (A.lit ([it]:List aI)))!=0) Z.bd (cond (!(gd Z.l Z.lt Z.li (ck Z) (hk Z) (A.lit ([it]:List aI)))) Z.bd (cond ((c7 Z.l Z.lt Z.li (ck Z) (hk Z) (A.lit ([it]:List aI)))==0) Z.bd (h_ (⟨2,0,0,(i64.wrap ((ck Z)+1)),it.j,it.ai,it.K,it.an,it.p,it.v,it.ax,it.aF,it.i,it.aP,0,0,0,(L:A aj),0,(L:A aG)⟩:b7) Z).bd)))
def ab2:Int:=let a:=ck Z;let b:=A.lit ([it]:List aI);(cond ((fc Z.l Z.lt Z.li a (hk Z) b)!=0) Z.bh (cond (!(gd Z.l Z.lt Z.li a (hk Z) b)) Z.bh (cond ((c7 Z.l Z.lt Z.li a (hk Z) b)==0) Z.bh (h_ (⟨2,0,0,(i64.wrap (a+1)),it.j,it.ai,it.K,it.an,it.p,it.v,it.ax,it.aF,it.i,it.aP,0,0,0,(L:A aj),0,(L:A aG)⟩:b7) Z).bh)))
def tU:Bool:=(cond ((fc Z.l Z.lt Z.li (ck Z) (hk Z) (A.lit ([it]:List aI)))!=0) true (cond (!(gd Z.l Z.lt Z.li (ck Z) (hk Z) (A.lit ([it]:List aI)))) true (cond ((c7 Z.l Z.lt Z.li (ck Z) (hk Z) (A.lit ([it]:List aI)))==0) true (!(gN (⟨2,0,0,(i64.wrap ((ck Z)+1)),it.j,it.ai,it.K,it.an,it.p,it.v,it.ax,it.aF,it.i,it.aP,0,0,0,(L:A aj),0,(L:A aG)⟩:b7) Z)))))
def aqH:H:={(h_ (⟨2,0,0,(i64.wrap ((ck Z)+1)),it.j,it.ai,it.K,it.an,it.p,it.v,it.ax,it.aF,it.i,it.aP,0,0,0,(L:A aj),0,(L:A aG)⟩:b7) Z)with bd:=(IB it Z),bh:=(ab2 it Z)}
def qj:Bool:=(cond (tU it Z) false true)
def DV:Int:=(cond (tU it Z) Z.l (b6 Z.l Z.lt Z.li (ck Z) (hk Z) (A.lit ([it]:List aI))))
def aqG:Int:=(cond (tU it Z) Z.lt (oi Z.l Z.lt Z.li (ck Z) (hk Z) (A.lit ([it]:List aI))))
def DW:A aI:=(cond (tU it Z) Z.li (b2 Z.l Z.lt Z.li (ck Z) (hk Z) (A.lit ([it]:List aI))))
def iM:H:={Z with l:=(DV it Z),lt:=(aqG it Z),li:=(DW it Z),bd:=(IB it Z),bh:=(ab2 it Z)}
def MQ:db:=⟨[.e9 0 (33*i),.g [a,a,y,a,a,a,au,au,au,a]],b8,eL,er,fun(b:Int) (c:Int) d (e:Int) (f:Int) (g:Int) h j k (l:Int)=>cB fun C=>⟨⟨some (kZ (⟨b,c,d,e,f,g,h,j,k,l⟩:aI)),[.bool (qj (⟨b,c,d,e,f,g,h,j,k,l⟩:aI) (C.Z i))],cj aK 0 (C.set i (iM (⟨b,c,d,e,f,g,h,j,k,l⟩:aI) (C.Z i)))⟩⟩⟩
def V6:cI:=⟨.eA true [] [] (gj i aK 0 [0] 1) (gi i aK),[.tmp 4],[(.t 0,y)]++fy i aK,⟨[],[]⟩⟩
def arC(C:ak):cm (V6 i).b_:=let e:=A.lit ([it]:List aI);let c:=C.Z i;let f:=hk c;let d:=ck c;let j:=b2 c.l c.lt c.li d f e;let h:=oi c.l c.lt c.li d f e;let g:=b6 c.l c.lt c.li d f e;(.ad (.ad (.bU ⟨([.ptr 0 (33*i+0),U,U,.ptr 10 0,.lit false,b d]++(us 48 ([]))),cn aK 1 C [(10,[b it.j,b it.ai,.bool it.K,b it.an,b it.p,b it.v,.str it.ax,.str it.aF,.str it.i,b it.aP])]⟩ (.s (.lk [(0,(33*i+6)),(0,(33*i+7)),(0,(33*i+8))]) (.bU ⟨([.ptr 0 (33*i+0),U,U,.ptr 10 0,.lit false,b d,U,.ptr 12 0,.bool (gd c.l c.lt c.li d f e),b (c7 c.l c.lt c.li d f e),b (fc c.l c.lt c.li d f e)]++(us 43 ([]))),cn aK 3 C [(10,[b it.j,b it.ai,.bool it.K,b it.an,b it.p,b it.v,.str it.ax,.str it.aF,.str it.i,b it.aP]),(11,[.ae true 10 1 fun q=>dU (A.at' e q)]),(12,[b g,b h,aH 10 dU j])]⟩ (.s (.j ⟨562949953421457,[.b 10,.b 11],[(.h 0 (33*i+30),.af a8),(.h 0 (33*i+31),a),(.t 49,y)],[],.f⟩ .z (.bU ⟨([.ptr 0 (33*i+0),U,U,U,.lit false,U,U,.ptr 12 0]++(us 41 ([.bool (tU it c),U,U,U,U]))),cn aK 3 (C.set i (aqH it c)) [(12,[b g,b h,aH 10 dU j])]⟩ .z)) .z))))))
def Ue(i:Nat)(it:aI)(C:ak):Prop:=(((fc (C.Z i).l (C.Z i).lt (C.Z i).li (ck (C.Z i)) (hk (C.Z i)) (A.lit ([it]:List aI)))!=0)=false→((!(gd (C.Z i).l (C.Z i).lt (C.Z i).li (ck (C.Z i)) (hk (C.Z i)) (A.lit ([it]:List aI))))=false→(((c7 (C.Z i).l (C.Z i).lt (C.Z i).li (ck (C.Z i)) (hk (C.Z i)) (A.lit ([it]:List aI)))==0)=false→(oQ (⟨2,0,0,(i64.wrap ((ck (C.Z i))+1)),it.j,it.ai,it.K,it.an,it.p,it.v,it.ax,it.aF,it.i,it.aP,0,0,0,(L:A aj),0,(L:A aG)⟩:b7)))))
theorem azh(i:Nat)(c:i<3)(it:aI)(C:ak)(b:ey C)(h:it.ax.size≤549755813888)(j:it.aF.size≤549755813888)(k:it.i.size≤549755813888)(g:kZ it):Ue i it C:=by
 have a:=gQ b i c;unfold fv at a;unfold Ue;exact((fun d=>(fun e=>(fun f=>(by repeat first|assumption|apply ln)))))
theorem aw5(i:Nat)(a:i<3)(it:aI)(e:it.ax.size≤549755813888)(f:it.aF.size≤549755813888)(g:it.i.size≤549755813888):eP Tryz.prog 55 (MQ i) b8 [] (cB fun C=>⟨⟨some (kZ it),[.bool (qj it (C.Z i))],cj aK 0 (C.set i (iM it (C.Z i)))⟩⟩) [b it.j,b it.ai,.bool it.K,b it.an,b it.p,b it.v,.str it.ax,.str it.aF,.str it.i,b it.aP]:=by
 refine gg fun C c=>fun d=>ei (V6 i) (arC i it C) (Ue i it C) (bK 10 (aw afg aT) (av (xQ i a) (av (awj i a) (av (Fb i a) bJ)))) Tryz.func55 ([.f]++List.replicate 6 .l++[.f,.f,.f]++List.replicate 93 .l) ?_ ?_ (azh i a it C c e f g d)
 ·rcases b3 a with rfl|rfl|rfl<;>kernel_rfl
 ·rcases b3 a with rfl|rfl|rfl<;>kernel_rfl
theorem azR(i:Nat)(c:i<3):fV 55 (MQ i):=
 jv (bp:=[a,a,y,a,a,a,au,au,au,a]) fun s b=>Eq.mp (by rcases b3 c with rfl|rfl|rfl<;>kernel_rfl) (aw5 i c ⟨s.1,s.2.1,s.2.2.1,s.2.2.2.1,s.2.2.2.2.1,s.2.2.2.2.2.1,s.2.2.2.2.2.2.1,s.2.2.2.2.2.2.2.1,s.2.2.2.2.2.2.2.2.1,s.2.2.2.2.2.2.2.2.2.1⟩ (b.2.2.2.2.2.2.1 rfl) (b.2.2.2.2.2.2.2.1 rfl) (b.2.2.2.2.2.2.2.2.1 rfl))
theorem ae5(i:Nat)(a:i<3):fW 55 (MQ i):=gq gf Tryz.func55 (azR i a)
end
section
variable(i:Nat)(ac:F)(C:ak)(Z:H)
def aqy(E:A O):Int:=(cond (decide ((E.n:Int)>0)) (ac.K.tmod (E.n:Int)) (-1))
def aqz:H:={Z with up:=true}
def QS:H:=(aqz Z)
def MI:db:=⟨[.p 0,.g [a,a,a,a,a,a,au,au,au,a]],b8,eL,er,fun(b:Int) (c:Int) (d:Int) (e:Int) (f:Int) (g:Int) h j k (l:Int)=>cB fun C=>⟨⟨some (eM C (⟨b,c,d,e,f,g,h,j,k,l⟩:F)),[],cj [10,13,11,14,12,15,16,8,9] 7 (C.set i (QS (C.Z i)))⟩⟩⟩
def V1:cI:=⟨.eA true [.b 10] [.own (.h 0 99) ca 16,.own (.h 0 29) cV 10,.own (.h 0 62) cV 11,.own (.h 0 95) cV 12,.own (.h 0 32) ca 13,.own (.h 0 65) ca 14,.own (.h 0 98) ca 15] (ys i [10,13,11,14,12,15,16,8,9] 7 [] 0 C) (xY i [10,13,11,14,12,15,16,8,9]),[],[]++vC i [10,13,11,14,12,15,16,8,9],⟨[],[]⟩⟩
def arx:cm (V1 i C).b_:=(.ad (.ad (.ad (.j ⟨57,[],[(.t 5,a)],[],.f⟩ .z (.bU ⟨([.ptr 0 0,U,U,.ptr 10 0,.ptr 0 (33*i+0),b (aqy ac C.s)]++(us 135 ([]))),cn aK 1 C [(10,[b 10,b (i:Int),b ac.K,b ac.an,b ac.p,b ac.v,.str ac.ax,.str ac.aF,.str ac.i,b ac.aP])]⟩ (.ad (.ad (.c false (.ad (.c false (.ad (.c true .z))))))))))))
def T9(i:Nat)(ac:F)(C:ak):Prop:=((decide ((C.s.n:Int)>0))=true→(((C.s.n:Int):Int)≠0))
theorem azb(i:Nat)(e:i<3)(ac:F)(C:ak)(d:ey C)(f:ac.ax.size≤549755813888)(g:ac.aF.size≤549755813888)(h:ac.i.size≤549755813888)(a:eM C ac):T9 i ac C:=by
 have c:=gQ d i e;unfold fv at c;unfold T9;exact have:=nV a i;have:=(nV a i).l;have:=(nV a i).ws;have:=oY a;have:=a.2.yn;have:=a.2.yo;have:=a.2.yp;have:=a.2.nB;((fun b=>(by have:=aq b;omega)))
theorem Ti(i:Nat)(a:i<3)(ac:F)(e:ac.ax.size≤549755813888)(f:ac.aF.size≤549755813888)(g:ac.i.size≤549755813888)(C:ak)(c:ey C)(d:eM C ac):fj Tryz.prog 31 ((MI i).args ([b 10,b (i:Int),b ac.K,b ac.an,b ac.p,b ac.v,.str ac.ax,.str ac.aF,.str ac.i,b ac.aP]++h3 C)) ((MI i).c4 (([b 10,b (i:Int),b ac.K,b ac.an,b ac.p,b ac.v,.str ac.ax,.str ac.aF,.str ac.i,b ac.aP]++h3 C).drop (MI i).dL)) [] (cj [10,13,11,14,12,15,16,8,9] 7 (C.set i (QS (C.Z i)))):=by
 refine ei (V1 i C) (arx i ac C) (T9 i ac C) (bK 10 aT bJ) Tryz.func31 [] ?_ ?_ (azb i a ac C c e f g d)
 ·rcases b3 a with rfl|rfl|rfl<;>kernel_rfl
 ·rcases b3 a with rfl|rfl|rfl<;>kernel_rfl
end
end Go.Proofs.YtfmgjpcmcjjoiaaGreatDoor
