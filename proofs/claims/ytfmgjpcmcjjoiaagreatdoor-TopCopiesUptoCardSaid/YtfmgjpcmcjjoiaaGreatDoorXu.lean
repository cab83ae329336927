/- Part of a proof: walks of the program. -/
import Derived.Test.YtfmgjpcmcjjoiaaGreatDoorXm
import Derived.Test.YtfmgjpcmcjjoiaaGreatDoorXo
import Derived.Test.YtfmgjpcmcjjoiaaGreatDoorXp
import Derived.Test.YtfmgjpcmcjjoiaaGreatDoorXq
open Go.IntKind (i64 u64 u8)
open Int (toNat)
set_option maxRecDepth 100000
set_option maxHeartbeats 4000000
set_option linter.all false
noncomputable section
namespace Go.Proofs.YtfmgjpcmcjjoiaaGreatDoor
open Go Go.RowKit Go.ah
section
variable(i:Nat)(ms:O)(Z:H)
def ID:Bool:=(cond (uo Z.l Z.lt Z.li ms.p ms.v) (decide (ms.an>Z.aX)) false)
def aqI:A O:=(cond (ID ms Z) (ed ms.j (⟨0,0,2,ms.an,0,0,false,0,(L:A aI),0,0,0,(L:A aj),0,(L:A aG)⟩:O) Z).bS (qk ms.j Z).bS)
def wH:H:={Z with bS:=(aqI ms Z)}
def MV:db:=⟨[.e9 0 (33*i),.g [a,a,a,a,a,a,y,a,.af c6,a,a,a,.af a_,a,.af bP]],b8,eL,er,fun(b:Int) (c:Int) (j:Int) (k:Int) (l:Int) (m:Int) n (o:Int) p (q:Int) (d:Int) (e:Int) f (g:Int) h=>cB fun C=>⟨⟨none,[],cj aK 0 (C.set i (wH (⟨b,c,j,k,l,m,n,o,p,q,d,e,f,g,h⟩:O) (C.Z i)))⟩⟩⟩
def V9:cI:=⟨.eA true [] [] (gj i aK 0 [] 0) (gi i aK),[],[]++fy i aK,⟨[],[]⟩⟩
def arF(C:ak):cm (V9 i).b_:=(.ad (.s (.ad (.j ⟨134217737,[],[(.t 27,y)],[],.f⟩ .z (.bU ⟨([.ptr 0 (33*i+0),U,U,.ptr 10 0]++(us 23 (([.bool (ID ms (C.Z i))]++(us 11 ([])))))),cn aK 1 C [(10,(iu ms))]⟩ (.s (.ad (.bU ⟨([.ptr 0 (33*i+0),U,U,.ptr 10 0]++(us 35 ([]))),cn aK 1 (C.set i (ed ms.j (⟨0,0,2,ms.an,0,0,false,0,(L:A aI),0,0,0,(L:A aj),0,(L:A aG)⟩:O) (C.Z i))) [(10,(iu ms))]⟩ .z)) .z)))) .z))
theorem aw_(i:Nat)(a:i<3)(ms:O):eP Tryz.prog 60 (MV i) b8 [] (cB fun C=>⟨⟨none,[],cj aK 0 (C.set i (wH ms (C.Z i)))⟩⟩) (iu ms):=by
 refine gg fun C b=>ei (V9 i) (arF i ms C) True (bK 10 (aw Td aT) (av (ph i a) (av (xR i a) bJ))) Tryz.func60 (List.replicate 94 .l++[.f]++List.replicate 7 .l) ?_ ?_ trivial
 ·rcases b3 a with rfl|rfl|rfl<;>kernel_rfl
 ·rcases b3 a with rfl|rfl|rfl<;>kernel_rfl
theorem azW(i:Nat)(b:i<3):fV 60 (MV i):=
 jv (bp:=[a,a,a,a,a,a,y,a,.af c6,a,a,a,.af a_,a,.af bP]) fun s c=>Eq.mp (by rcases b3 b with rfl|rfl|rfl<;>kernel_rfl) (aw_ i b ⟨s.1,s.2.1,s.2.2.1,s.2.2.2.1,s.2.2.2.2.1,s.2.2.2.2.2.1,s.2.2.2.2.2.2.1,s.2.2.2.2.2.2.2.1,s.2.2.2.2.2.2.2.2.1,s.2.2.2.2.2.2.2.2.2.1,s.2.2.2.2.2.2.2.2.2.2.1,s.2.2.2.2.2.2.2.2.2.2.2.1,s.2.2.2.2.2.2.2.2.2.2.2.2.1,s.2.2.2.2.2.2.2.2.2.2.2.2.2.1,s.2.2.2.2.2.2.2.2.2.2.2.2.2.2.1⟩)
theorem sA(i:Nat)(a:i<3):fW 60 (MV i):=gq gf Tryz.func60 (azW i a)
end
def acb(Z:H):H:=let a:=kC Z.l Z.lt Z.li Z.co;{(h_ (⟨3,0,0,0,0,0,false,0,0,0,⟨#[]⟩,⟨#[]⟩,⟨#[]⟩,0,Z.co,a,Z.eO,Z.eC,Z.et,Z.eD⟩:b7) Z)with l:=(sh Z.l Z.lt Z.li Z.co),lt:=(JL Z.l Z.lt Z.li Z.co),li:=(uq Z.l Z.lt Z.li Z.co),c8:=Z.co,gR:=a,gS:=Z.eO,fG:=Z.eC,gT:=Z.et,fF:=Z.eD}
def r9(Z:H):H:=(H.bif (Z.co==Z.l) Z (H.bif (gN (⟨3,0,0,0,0,0,false,0,0,0,⟨#[]⟩,⟨#[]⟩,⟨#[]⟩,0,Z.co,(kC Z.l Z.lt Z.li Z.co),Z.eO,Z.eC,Z.et,Z.eD⟩:b7) Z) (acb Z) (h_ (⟨3,0,0,0,0,0,false,0,0,0,⟨#[]⟩,⟨#[]⟩,⟨#[]⟩,0,Z.co,(kC Z.l Z.lt Z.li Z.co),Z.eO,Z.eC,Z.et,Z.eD⟩:b7) Z)))
def Nb(i:Nat):db:=⟨[.e9 0 (33*i)],b8,eL,er,cB fun C=>⟨⟨some ((C.Z i).co≤4194304),[],cj aK 0 (C.set i (r9 (C.Z i)))⟩⟩⟩
def Wj(i:Nat):cI:=⟨.eA true [] [] (gj i aK 0 [] 0) (gi i aK),[],[]++fy i aK,⟨[],[]⟩⟩
def arQ(i:Nat)(C:ak):cm (Wj i).b_:=let a:=C.Z i;let c:=kC a.l a.lt a.li a.co;(.ad (.ad (.ad (.ad (.bU ⟨([.ptr 0 (33*i+0),U,U,U,.ptr 10 0]++(us 35 (([.bool (gN (⟨3,0,0,0,0,0,false,0,0,0,⟨#[]⟩,⟨#[]⟩,⟨#[]⟩,0,a.co,c,a.eO,a.eC,a.et,a.eD⟩:b7) a)]++(us 19 ([])))))),cn aK 1 (C.set i (h_ (⟨3,0,0,0,0,0,false,0,0,0,⟨#[]⟩,⟨#[]⟩,⟨#[]⟩,0,a.co,c,a.eO,a.eC,a.et,a.eD⟩:b7) a)) [(10,[b a.co,b c,b a.eO,aH 8 fZ a.eC,b a.et,aH 7 gK a.eD])]⟩ .z)))))
def Uo(i:Nat)(C:ak):Prop:=(((C.Z i).co==(C.Z i).l)=false→((oQ (⟨3,0,0,0,0,0,false,0,0,0,⟨#[]⟩,⟨#[]⟩,⟨#[]⟩,0,(C.Z i).co,(kC (C.Z i).l (C.Z i).lt (C.Z i).li (C.Z i).co),(C.Z i).eO,(C.Z i).eC,(C.Z i).et,(C.Z i).eD⟩:b7))∧((gN (⟨3,0,0,0,0,0,false,0,0,0,⟨#[]⟩,⟨#[]⟩,⟨#[]⟩,0,(C.Z i).co,(kC (C.Z i).l (C.Z i).lt (C.Z i).li (C.Z i).co),(C.Z i).eO,(C.Z i).eC,(C.Z i).et,(C.Z i).eD⟩:b7) (C.Z i))=true→((C.Z i).co≤9223372036854775807))))
theorem azs(i:Nat)(c:i<3)(C:ak)(b:ey C)(f:(C.Z i).co≤4194304):Uo i C:=by
 have a:=gQ b i c;unfold fv at a;unfold Uo;exact((fun d=>⟨(by apply kO),(fun e=>(by omega))⟩))
theorem axn(i:Nat)(a:i<3):eP Tryz.prog 75 (Nb i) b8 [] (cB fun C=>⟨⟨some ((C.Z i).co≤4194304),[],cj aK 0 (C.set i (r9 (C.Z i)))⟩⟩) []:=by
 refine gg fun C b=>fun c=>ei (Wj i) (arQ i C) (Uo i C) (bK 10 (aw KZ (aw afe aT)) (av (Fb i a) bJ)) Tryz.func75 (List.replicate 31 .f++List.replicate 62 .l++[.f,.f]++List.replicate 7 .l) ?_ ?_ (azs i a C b c)
 ·rcases b3 a with rfl|rfl|rfl<;>kernel_rfl
 ·rcases b3 a with rfl|rfl|rfl<;>kernel_rfl
theorem az_(i:Nat)(a:i<3):fV 75 (Nb i):=
 axn i a
theorem awh(i:Nat)(a:i<3):fW 75 (Nb i):=gq gf Tryz.func75 (az_ i a)
section
def wF(d:Int):Nat→Int→Int→A aJ→Int×Int×A aJ
 |0,_,_,_=>default
 |k+1,e,m,a1=>(cond (decide (m≤d)) (wF d k m (i64.wrap (m+20)) (A.cut (wM e m a1) a1.n)) (e,m,a1))
variable(d:Int)(bo:Int)(iU:A aJ)(g:A aJ)
def QV:Int×Int×A aJ:=wF d ((toNat (d+21-20))+1) 0 20 g
def wG(d:Int)(bo:Int):Nat→Int→Int→A aJ→Int×Int×A aJ×Int×Int×Bool
 |0,_,_,_=>default
 |k+1,b,a,c=>(cond (decide (a≤d)) (wG d bo k a (i64.wrap (a+(i64.wrap (2*bo)))) (A.cut (pL 900001 b (i64.wrap (b+bo)) a c) c.n)) (b,a,c,a,d,(decide (a≤d))))
def lP:Int×Int×A aJ×Int×Int×Bool:=wG d bo ((toNat (d+2*bo+1- (i64.wrap (2*bo))))+1) 0 (i64.wrap (2*bo)) iU
def IA:A aJ:=(cond (decide ((i64.wrap ((lP d bo iU).1+bo))<d)) (A.cut (pL 900001 (lP d bo iU).1 (i64.wrap ((lP d bo iU).1+bo)) d (lP d bo iU).2.2.1) (lP d bo iU).2.2.1.n) (lP d bo iU).2.2.1)
def DT(d:Int):Nat→Int→Int→Int→A aJ→A aJ
 |0,_,_,_,_=>default
 |k+1,bo,_,_,iU=>(cond (decide (bo<d)) (DT d k (i64.wrap (bo*2)) (lP d bo iU).1 (lP d bo iU).2.1 (IA d bo iU)) iU)
def aqF:A aJ:=let a:=QV d g;DT d ((toNat (d-20))+1) 20 a.1 a.2.1 (A.cut (wM a.1 d a.2.2) a.2.2.n)
def z2:A aJ:=(aqF d g)
theorem T2(d:Int)(h:d≤900000): ∀(k:Nat) (a b:Int) (s:A aJ),0≤a→a≤d→b=a+20→toNat (d+21-b)<k→(0≤(wF d k a b s).1∧(wF d k a b s).1≤d)∧(wF d k a b s).2.2.n=s.n
 |0,_,_,_,_,_,_,c=>absurd c (eH _)
 |k+1,a,b,s,f,g,i,c=>by
  rw[wF]
  by_cases e:b≤d
  ·rw[bT e,aN,N (b+20)];exact T2 d h k b (b+20) _ (by omega) e rfl (by omega)
  ·rw[bI e,aQ];exact⟨⟨f,g⟩,rfl⟩
theorem agD(d v:Int)(i:0≤d∧d≤900000)(h:20≤v∧v≤1800000): ∀(k:Nat) (a b:Int) (s:A aJ),0≤a→a≤d→b=a+2*v→toNat (d+2*v+1-b)<k→(0≤(wG d v k a b s).1∧(wG d v k a b s).1≤d)∧(wG d v k a b s).2.2.1.n=s.n
 |0,_,_,_,_,_,_,c=>absurd c (eH _)
 |k+1,a,b,s,f,g,j,c=>by
  rw[wG,N (2*v)]
  by_cases e:b≤d
  ·rw[bT e,aN,N (b+2*v)];exact agD d v i h k b (b+2*v) _ (by omega) e rfl (by omega)
  ·rw[bI e,aQ];exact⟨⟨f,g⟩,rfl⟩
theorem aCb(d v:Int)(s:A aJ):((0≤d∧d≤900000)∧(20≤v∧v≤1800000))→(0≤(lP d v s).1∧(lP d v s).1≤d)∧(lP d v s).2.2.1.n=s.n:=fun h=>by
 obtain⟨a,b⟩:=h;have c:=N (2*v);unfold lP;rw[c];exact agD d v a b _ 0 (2*v) s (dp _) a.1 (by omega) (by omega)
theorem afS(d v:Int)(s:A aJ)(h:(0≤d∧d≤900000)∧(20≤v∧v≤1800000)):(IA d v s).n=s.n:=by
 have t:=aCb d v s h;unfold IA;generalize decide (i64.wrap ((lP d v s).1+v)<d)=b
 cases b
 ·exact t.2
 ·exact t.2
theorem agG(d:Int)(f:0≤d∧d≤900000): ∀(k:Nat) (v a b:Int) (s:A aJ),20≤v→v≤1800000→toNat (d-v)<k→(DT d k v a b s).n=s.n
 |0,_,_,_,_,_,_,c=>absurd c (eH _)
 |k+1,v,a,b,s,g,h,c=>by
  rw[DT]
  by_cases e:v<d
  ·rw[bT e,aN,N (v*2)];exact(agG d f k (v*2) _ _ _ (by omega) (by omega) (by omega)).trans (afS d v s ⟨f,g,h⟩)
  ·rw[bI e,aQ]
theorem ayN(d:Int)(g:A aJ)(b:d=(g.n:Int)∧g.n≤900000):(z2 d g).n=g.n:=by
 have a:(QV d g).2.2.n=g.n:=by
  by_cases e:(20:Int)≤d
  ·have:=T2 d (by omega) (toNat (d+21-20)+1) 0 20 g (dp _) (by omega) rfl (by omega);exact this.2
  ·have:=T2 d (by omega) (toNat (d+21-20)+1) 0 20 g (dp _) (by omega) rfl (by omega);exact this.2
 exact(agG d ⟨by omega,by omega⟩ _ 20 _ _ _ (by decide) (by decide) (by omega)).trans a
def ak6:b5:=⟨[.o 0,.v a,.jA 34 []],[(.h 0 0,.ae ct)],[[U]],fun(d:Int) g=>⟨⟨some (d=(g.n:Int)∧g.n≤900000),[],[[(aB.ae ct).ab (A.cut (z2 d g) g.n)]]⟩⟩⟩
theorem awd:dB 46 ak6:=dI Tryz.func46
 fun(d:Int) g W t=>have z:=A.y9 (ayN d g t);uB (rs:=[]) (al:=[[(aB.ae ct).ab (z2 d g)]]) (dA ⟨.heap,[],[(.h 0 0,.ae ct)],⟨[],[[U]]⟩⟩ (.ad (.ad (.j ⟨455,[],[],[],.f⟩ (.cy ⟨455,[],[],[(.t 7,a),(.t 8,a),(.h 0 0,.ae ct)],some 0,false,455,[],[(.t 7,a),(.t 8,a),(.h 0 0,.ae ct)],fun k (s:Int×Int×A aJ)=>wF d k s.1 s.2.1 s.2.2,.f,fun(s:Int×Int×A aJ)=>(0≤s.1∧s.1≤d∧s.2.1=s.1+20∧(s.2.2.n:Int)=g.n),fun(s:Int×Int×A aJ)=>(toNat (d+21-s.2.1)),some fun(r:Int×Int×A aJ)=>(0≤r.1∧r.1≤d∧(r.2.2.n:Int)=g.n)⟩ .z) (.ad (.uQ ⟨455,[],[],[(.t 6,a),(.t 7,a),(.t 8,a),(.h 0 0,.ae ct)],some 2,false,0,[],[(.h 0 0,.ae ct)],fun k (s:Int×Int×Int×A aJ)=>DT d k s.1 s.2.1 s.2.2.1 s.2.2.2,.f,fun(s:Int×Int×Int×A aJ)=>(20≤s.1∧s.1≤1800000∧(s.2.2.2.n:Int)=g.n),fun(s:Int×Int×Int×A aJ)=>(toNat (d-s.1)),some fun(r:A aJ)=>(r.n:Int)=g.n⟩ (fun(j:Int×Int×Int×A aJ)=>(.ad (.ad (.j ⟨68451041735,[],[],[],.f⟩ (.cy ⟨8321499591,[],[],[(.t 7,a),(.t 8,a),(.h 0 0,.ae ct)],some 4,false,68451041735,[],[(.t 7,a),(.t 8,a),(.h 0 0,.ae ct),(.t 33,a),(.t 34,a),(.t 35,y)],fun k (s:Int×Int×A aJ)=>wG d j.1 k s.1 s.2.1 s.2.2,.f,fun(s:Int×Int×A aJ)=>(0≤s.1∧s.1≤d∧s.2.1=s.1+2*j.1∧(s.2.2.n:Int)=g.n),fun(s:Int×Int×A aJ)=>(toNat (d+2*j.1+1-s.2.1)),some fun(r:Int×Int×A aJ×Int×Int×Bool)=>(0≤r.1∧r.1≤d∧(r.2.2.1.n:Int)=g.n)⟩ .z) (.j ⟨35465915516584903,[],[(.h 0 0,.ae ct)],[],.f⟩ .z .z)))))))))) (let h:=QV d g;(((0≤(0:Int)∧(0:Int)≤d∧(20:Int)=(0:Int)+20∧(g.n:Int)=g.n))∧(∀(e:Int) (m:Int) (a1:A aJ),let w:=i64.wrap (m+20);let p:=decide (m≤d);(0≤e∧e≤d∧m=e+20∧(a1.n:Int)=g.n)→((p=true→(0≤e∧e≤m∧m≤(a1.n:Int)∧a1.n≤900000))∧((p=true→((0≤m∧m≤d∧w=m+20∧(a1.n:Int)=g.n)∧(toNat (d+21-w))<(toNat (d+21-m))))∧(p=false→((0≤e∧e≤d∧(a1.n:Int)=g.n)))))))∧(((0≤h.1∧h.1≤d∧(h.2.2.n:Int)=g.n))→((0≤h.1∧h.1≤d∧d≤(h.2.2.n:Int)∧h.2.2.n≤900000)∧(((20≤(20:Int)∧(20:Int)≤1800000∧(h.2.2.n:Int)=g.n))∧(∀(bo:Int) (H:Int) (I:Int) (iU:A aJ),let x:=i64.wrap (2*bo);let q:=decide (bo<d);let n:=i64.wrap (bo*2);let f:=lP d bo iU;let l:=i64.wrap (f.1+bo);(20≤bo∧bo≤1800000∧(iU.n:Int)=g.n)→((q=true→((((0≤(0:Int)∧(0:Int)≤d∧x=(0:Int)+2*bo∧(iU.n:Int)=g.n))∧(∀(c:Int) (b:Int) (i:A aJ),let v:=i64.wrap (c+bo);let o:=decide (b≤d);let u:=i64.wrap (b+x);(0≤c∧c≤d∧b=c+2*bo∧(i.n:Int)=g.n)→((o=true→(0≤c∧c<v∧v<b∧b≤(i.n:Int)∧i.n≤900000∧b-c<((900001:Nat):Int)))∧((o=true→((0≤b∧b≤d∧u=b+2*bo∧(i.n:Int)=g.n)∧(toNat (d+2*bo+1-u))<(toNat (d+2*bo+1-b))))∧(o=false→((0≤c∧c≤d∧(i.n:Int)=g.n)))))))∧(((0≤f.1∧f.1≤d∧(f.2.2.1.n:Int)=g.n))→((decide (l<d))=true→(0≤f.1∧f.1<l∧l<d∧d≤(f.2.2.1.n:Int)∧f.2.2.1.n≤900000∧d-f.1<((900001:Nat):Int))))))∧((q=true→((20≤n∧n≤1800000∧(((IA d bo iU).n:Nat):Int)=g.n)∧(toNat (d-n))<(toNat (d-bo))))∧(q=false→((iU.n:Int)=g.n))))))))) (bK 1 aT (av awi (av (ae_ 900001) bJ))) Tryz.func46 (have⟨T,V⟩:=t;⟨⟨(by omega),(fun e m a1 Q=>⟨(fun E=>(by have:=aq E;omega)),⟨(fun F=>(by have:=aq F;have:=N (m+20);omega)),(fun L=>(by omega))⟩⟩)⟩,(fun P=>⟨(by omega),⟨(by omega),(fun bo H I iU R=>⟨(fun M=>⟨⟨(by have:=N (2*bo);omega),(fun c b i S=>⟨(fun G=>(by have:=aq G;have:=N (c+bo);omega)),⟨(fun B=>(by have:=aq B;have:=N (2*bo);have:=N (b+(i64.wrap (2*bo)));omega)),(fun J=>(by omega))⟩⟩)⟩,(fun O=>(fun C=>(by have:=aq C;have:=N ((lP d bo iU).1+bo);omega)))⟩),⟨(fun D=>(by have:=aq D;have:=afS d bo iU;have:=N (bo*2);omega)),(fun K=>(by omega))⟩⟩)⟩⟩)⟩)) rfl (show([[(aB.ae ct).ab (z2 d g)]]:Heap)=[[(aB.ae ct).ab (A.cut (z2 d g) g.n)]] by rw[z])
end
def wB(d:A aJ):A aJ:=(A.cut (z2 (d.n:Int) d) d.n)
theorem ayL(d:A aJ)(a:d.n≤900000):(wB d).n=d.n:=rfl
def ak2:b5:=⟨[.o 0,.jA 34 []],[(.h 0 0,.ae ct)],[[U]],fun d=>⟨⟨some (d.n≤900000),[],[[(aB.ae ct).ab (A.cut (wB d) d.n)]]⟩⟩⟩
theorem ae0:dB 33 ak2:=dI Tryz.func33
 fun d c b=>have a:=A.y9 (ayL d b);uB (rs:=[]) (al:=[[(aB.ae ct).ab (wB d)]]) (dA ⟨.heap,[],[(.h 0 0,.ae ct)],⟨[],[[U]]⟩⟩ (.z) ((d.n:Int)=(d.n:Int)∧d.n≤900000) (bK 1 aT (av awd bJ)) Tryz.func33 ((by omega))) rfl (show([[(aB.ae ct).ab (wB d)]]:Heap)=[[(aB.ae ct).ab (A.cut (wB d) d.n)]] by rw[a])
end Go.Proofs.YtfmgjpcmcjjoiaaGreatDoor
