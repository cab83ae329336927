/- Part of a proof: walks of the program. -/
import Derived.Test.YtfmgjpcmcjjoiaaGreatDoorYb
import Derived.Test.YtfmgjpcmcjjoiaaGreatDoorYc
open Go.IntKind (i64 u64 u8)
open Int (toNat)
set_option maxRecDepth 100000
set_option maxHeartbeats 4000000
set_option linter.all false
noncomputable section
namespace Go.Proofs.YtfmgjpcmcjjoiaaGreatDoor
open Go Go.RowKit Go.ah
def ow(i j:Nat)(C:ak)(ms:O):ak:=(C.put i (iy i j ms (C.Z i) C.s C.told C.a2) (wC i j ms (C.Z i) C.s C.told C.a2) (jj i j ms (C.Z i) C.s C.told C.a2) (qh i j ms (C.Z i) C.s C.told C.a2))
def e2(C:ak)(ms:O):ak:=ow (toNat ms.ai) (toNat ms.j) C ms
def MM:db:=⟨[.p 0,.g [a,a,a,a,a,a,y,a,.af c6,a,a,a,.af a_,a,.af bP]],b8,eL,er,fun(b:Int) (c:Int) (i:Int) (j:Int) (k:Int) (l:Int) m (n:Int) o (p:Int) (d:Int) (e:Int) f (g:Int) h=>cB fun C=>⟨⟨some (tg C (⟨b,c,i,j,k,l,m,n,o,p,d,e,f,g,h⟩:O)),[],cj [10,2,11,4,12,6,7,8,9] 3 (e2 C (⟨b,c,i,j,k,l,m,n,o,p,d,e,f,g,h⟩:O))⟩⟩⟩
theorem awT(ms:O)(q:ms.i.n≤549755813888)(o:ms.cJ.n≤549755813888)(p:ms.b1.n≤549755813888):eP Tryz.prog 44 MM b8 [] (cB fun C=>⟨⟨some (tg C ms),[],cj [10,2,11,4,12,6,7,8,9] 3 (e2 C ms)⟩⟩) (iu ms):=by
 refine gg fun C n x=> ?_;obtain⟨a0,s,f,g,h,i,j,k,l,m,a,b,c,d,e⟩:=ms;obtain⟨y,q1,z,A,r⟩:=x;have t:a0=0∨a0=1∨a0=2:=by
  have v:0≤a0:=y;have w:a0<3:=q1;omega
 have u:s=0∨s=1∨s=2:=by
  have v:0≤s:=z;have w:s<3:=A;omega
 rcases t with rfl|rfl|rfl<;>rcases u with rfl|rfl|rfl
 ·exact Eq.mp (by kernel_rfl) (sJ 0 (by omega) 0 (by omega) ⟨0,0,f,g,h,i,j,k,l,m,a,b,c,d,e⟩ q o p C n r)
 ·exact Eq.mp (by kernel_rfl) (sJ 1 (by omega) 0 (by omega) ⟨0,1,f,g,h,i,j,k,l,m,a,b,c,d,e⟩ q o p C n r)
 ·exact Eq.mp (by kernel_rfl) (sJ 2 (by omega) 0 (by omega) ⟨0,2,f,g,h,i,j,k,l,m,a,b,c,d,e⟩ q o p C n r)
 ·exact Eq.mp (by kernel_rfl) (sJ 0 (by omega) 1 (by omega) ⟨1,0,f,g,h,i,j,k,l,m,a,b,c,d,e⟩ q o p C n r)
 ·exact Eq.mp (by kernel_rfl) (sJ 1 (by omega) 1 (by omega) ⟨1,1,f,g,h,i,j,k,l,m,a,b,c,d,e⟩ q o p C n r)
 ·exact Eq.mp (by kernel_rfl) (sJ 2 (by omega) 1 (by omega) ⟨1,2,f,g,h,i,j,k,l,m,a,b,c,d,e⟩ q o p C n r)
 ·exact Eq.mp (by kernel_rfl) (sJ 0 (by omega) 2 (by omega) ⟨2,0,f,g,h,i,j,k,l,m,a,b,c,d,e⟩ q o p C n r)
 ·exact Eq.mp (by kernel_rfl) (sJ 1 (by omega) 2 (by omega) ⟨2,1,f,g,h,i,j,k,l,m,a,b,c,d,e⟩ q o p C n r)
 ·exact Eq.mp (by kernel_rfl) (sJ 2 (by omega) 2 (by omega) ⟨2,2,f,g,h,i,j,k,l,m,a,b,c,d,e⟩ q o p C n r)
theorem azO:fV 44 MM:=
 jv (bp:=[a,a,a,a,a,a,y,a,.af c6,a,a,a,.af a_,a,.af bP]) fun s b=>Eq.mp (by kernel_rfl) (awT ⟨s.1,s.2.1,s.2.2.1,s.2.2.2.1,s.2.2.2.2.1,s.2.2.2.2.2.1,s.2.2.2.2.2.2.1,s.2.2.2.2.2.2.2.1,s.2.2.2.2.2.2.2.2.1,s.2.2.2.2.2.2.2.2.2.1,s.2.2.2.2.2.2.2.2.2.2.1,s.2.2.2.2.2.2.2.2.2.2.2.1,s.2.2.2.2.2.2.2.2.2.2.2.2.1,s.2.2.2.2.2.2.2.2.2.2.2.2.2.1,s.2.2.2.2.2.2.2.2.2.2.2.2.2.2.1⟩ (b.2.2.2.2.2.2.2.2.1 rfl) (b.2.2.2.2.2.2.2.2.2.2.2.2.1 rfl) (b.2.2.2.2.2.2.2.2.2.2.2.2.2.2.1 rfl))
theorem ae4:fW 44 MM:=gq gf Tryz.func44 azO
structure Mz (n:H) (E b9:A O) (B awM:A a7) (G awL:A aJ):Prop where
 j:bW n
 a:b9=E
 t:(awM.n:Int)≤(B.n:Int)+600000
 l:awL.n≤G.n+1
theorem mc{n:H}{E:A O}{B:A a7}{G:A aJ}(h:bW n):Mz n E E B B G G:=⟨h,rfl,by omega,by omega⟩
theorem XG{n:H}{E b9:A O}{B b:A a7}{G a:A aJ}(h:bW n∧b9=E∧(b.n:Int)≤(B.n:Int)+600000∧a=G):Mz n E b9 B b G a:=⟨h.1,h.2.1,h.2.2.1,by rw[h.2.2.2];omega⟩
theorem SW{i j:Nat}{ms:O}{Z:H}{E:A O}{B:A a7}{G:A aJ}(h:bW Z)(g:fu ms)(p:i<3)(o:j<3):
  Mz (iy i j ms Z E B G) E (wC i j ms Z E B G) B (jj i j ms Z E B G) G (qh i j ms Z E B G):=by
 have e:fu ⟨(j:Int),(i:Int),ms.K,ms.an,ms.p,ms.v,ms.ax,ms.aF,ms.i,ms.aP,ms.cG,ms.cZ,ms.cJ,ms.dh,ms.b1⟩:=⟨(by omega:(0:Int)≤(j:Int)∧(j:Int)<3),(by omega:(0:Int)≤(i:Int)∧(i:Int)<3),g.ou,g.c8,g.li⟩;have f:(0:Int)≤(j:Int)∧(j:Int)<3:=by omega
 have c:aO (z1 ms Z):=by
  unfold z1
  cases j5 ms Z
  ·exact h.i.u8
  ·exact(SX h).i.u8
 have d:=Vu ms Z h.i.ws;have a:bW (eN ms Z):=⟨h.i.hR _ (by kernel_rfl) c d,h.o⟩;have b:bW (jk j ms Z):=by
  rcases b3 o with rfl|rfl|rfl
  ·exact⟨h.i.hR _ (by kernel_rfl) c d,h.o⟩
  ·exact⟨h.i.hR _ (by kernel_rfl) c d,h.o⟩
  ·exact⟨h.i.hR _ (by kernel_rfl) c d,h.o⟩
 have k:=aeA a;have l:=auq (E:=E) (B:=B) (G:=G) k e;have m:=aur k e;have n:=aus (E:=E) (B:=B) (G:=G) a e;unfold iy wC jj qh;simp only[H.bV]
 cases (!Z.up)<;>simp only[aQ,aN]
 ·cases lO ms Z<;>simp only[aQ,aN]
  ·exact mc (SX h)
  ·cases (ms.K==1)<;>simp only[aQ,aN]
   ·cases (ms.K==2)<;>simp only[aQ,aN]
    ·cases decide (ms.an<oa ms Z)<;>simp only[aQ,aN]
     ·cases (ms.K==3)<;>simp only[aQ,aN]
      ·cases (ms.K==4)<;>simp only[aQ,aN]
       ·cases (ms.K==5)<;>simp only[aQ,aN]
        ·cases (ms.K==7)<;>simp only[aQ,aN]
         ·cases (ms.K==6)<;>simp only[aQ,aN]
          ·exact mc a
          ·cases (lN ms Z==3)<;>simp only[aQ,aN]
           ·exact mc a
           ·exact XG n
         ·exact mc m
        ·exact XG l
       ·cases (lN ms Z==2)<;>simp only[aQ,aN]
        ·exact mc a
        ·cases hj (jk j ms Z)<;>simp only[aQ,aN]
         ·exact mc b
         ·exact⟨aup b,rfl,by omega,bx _⟩
      ·exact mc (auo a f)
     ·cases (ms.K !=8)<;>simp only[aQ,aN]
      ·exact mc a
      ·exact mc (SY a f)
    ·cases wD ms Z<;>simp only[aQ,aN]
     ·exact mc a
     ·cases hj (jk j ms Z)<;>simp only[aQ,aN]
      ·exact mc b
      ·exact mc (aun b)
   ·exact mc (aum a f)
 ·exact mc h
structure VJ (C X:ak):Prop where
 j: ∀i,bW (X.Z i)
 a:X.s=C.s
 t:(X.told.n:Int)≤(C.told.n:Int)+600000
 l:X.a2.n≤C.a2.n+1
theorem nD{C:ak}{P:H→Prop}(h: ∀j,P (C.Z j))(i:Nat){n:H}(a:P n)(E:A O)(B:A a7)(G:A aJ)(j:Nat):P ((C.put i n E B G).Z j):=by
 have b:=h 0;have c:=h 1;have d:=h 2
 match i,j with
 |0,0=>exact a
 |0,1=>exact c
 |0,j+2=>exact d
 |1,0=>exact b
 |1,1=>exact a
 |1,j+2=>exact d
 |i+2,0=>exact b
 |i+2,1=>exact c
 |i+2,j+2=>exact a
theorem yg(C:ak)(i:Nat)(n:H)(E:A O)(B:A a7)(G:A aJ):(C.put i n E B G).s=E∧(C.put i n E B G).told=B∧(C.put i n E B G).a2=G:=by
 match i with
 |0=>exact⟨rfl,rfl,rfl⟩
 |1=>exact⟨rfl,rfl,rfl⟩
 |i+2=>exact⟨rfl,rfl,rfl⟩
theorem ayM{C:ak}{ms:O}(a: ∀i,bW (C.Z i))(d:fu ms){i j:Nat}(b:i<3)(c:j<3):VJ C (ow i j C ms):=by
 have q:=SW (i:=i) (j:=j) (ms:=ms) (E:=C.s) (B:=C.told) (G:=C.a2) (a i) d b c;have f:=yg C i (iy i j ms (C.Z i) C.s C.told C.a2) (wC i j ms (C.Z i) C.s C.told C.a2) (jj i j ms (C.Z i) C.s C.told C.a2) (qh i j ms (C.Z i) C.s C.told C.a2);unfold ow;exact⟨fun j=>nD (P:=bW) a i q.j _ _ _ j,by rw[f.1];exact q.a,by rw[f.2.1];exact q.t,by rw[f.2.2];exact q.l⟩
theorem yz{C:ak}{ms:O}(b: ∀i,bW (C.Z i))(a:fu ms):VJ C (e2 C ms):=by
 have c:=a.p0;have d:=a.to;exact ayM b a (by omega) (by omega)
def rn(C:ak)(v:Int)(X:ak):Prop:=(0≤v∧v≤(C.s.n:Int))∧(∀i,bW (X.Z i))∧(X.told.n:Int)≤(C.told.n:Int)+600000*v∧(X.a2.n:Int)≤(C.a2.n:Int)+v
theorem zd{C:ak}{a:F}(h:eM C a)(i:Nat):bW (C.Z i):=by
 obtain⟨⟨k,_,b⟩,_⟩:=h;exact⟨b.Z i,b.on i,b.bS i⟩
theorem CH{C X:ak}{v:Int}(h:rn C v X):0≤v∧v≤(C.s.n:Int):=h.1
theorem k3{C:ak}{a:F}(h:eM C a):rn C (0:Int) {C with s:=L} :=⟨⟨dp _,by omega⟩,fun i=>by
  have b:=zd h 0;have c:=zd h 1;have d:=zd h 2
  match i with
  |0=>exact b
  |1=>exact c
  |i+2=>exact d,by show(C.told.n:Int)≤_;omega,by show(C.a2.n:Int)≤_;omega⟩
theorem kt{C X:ak}{a:F}{v:Int}(h:eM C a)(b:rn C v X)(j:v<(C.s.n:Int)):tg X (C.s.at' (toNat v)):=by
 have e:=oY h;obtain⟨d,c,g,f⟩:=b;exact X5 h (by omega) (fun i=>(c i).i) (by omega) (by omega)
theorem k4{C X:ak}{a:F}{v:Int}(h:eM C a)(b:rn C v X)(e:v<(C.s.n:Int)):rn C (i64.wrap (v+1)) (e2 X (C.s.at' (toNat v))):=by
 have g:=oY h;have d:=(kt h b e).2.2.2.2.2.1;obtain⟨f,c,j,i⟩:=b;rw[N (v+1)];have q:=yz c d;have l:=q.t;have k:=q.l;exact⟨by omega,q.j,by omega,by omega⟩
theorem aCn{C:ak}{a:F}(h:eM C a){j:Nat}(e:j<C.s.n)(D:A O):tg {C with s:=D} (C.s.at' j):=by
 have f:=oY h;refine X5 h e (fun i=> ?_) (by show C.told.n≤_;omega) (by show C.a2.n≤_;omega);have b:=(zd h 0).i;have c:=(zd h 1).i;have d:=(zd h 2).i
 match i with
 |0=>exact b
 |1=>exact c
 |i+2=>exact d
theorem s4{c n:Int}(h:0≤c)(a:0<n):0≤c.tmod n∧c.tmod n<n:=⟨Int.tmod_nonneg n h,Int.tmod_lt_of_pos c a⟩
section
variable(ac:F)(E:A O)(C:ak)
def h8:Int:=(cond (decide ((E.n:Int)>0)) (ac.K.tmod (E.n:Int)) (-1))
def zX:ak:=({C with s:=(A.del E (toNat (h8 ac E)) (toNat (i64.wrap ((h8 ac E)+1))))} :ak)
def abW:ak:=(e2 (zX ac E C) (E.at' (toNat (h8 ac E))))
def DP:ak:=(ak.bif (decide ((h8 ac E)≥0)) (abW ac E C) C)
theorem ah0(ac:F)(E:A O)(h:0≤ac.K):h8 ac E<(E.n:Int):=by
 unfold h8
 by_cases c:(E.n:Int)>0
 ·rw[bT c];exact(s4 h c).2
 ·rw[bI c];show(-1:Int)<(E.n:Int);omega
theorem lu{C:ak}{ac:F}(h:eM C ac)(a:decide ((h8 ac C.s)≥0)=true):tg (zX ac C.s C) (C.s.at' (toNat (h8 ac C.s))):=by
 have b:=aq a;have c:=ah0 ac C.s h.2.nB;exact aCn h (by omega) _
def MF:db:=⟨[.p 0,.g [a,a,a,a,a,a,au,au,au,a]],b8,eL,er,fun(b:Int) (c:Int) (d:Int) (e:Int) (f:Int) (g:Int) h i j (k:Int)=>cB fun C=>⟨⟨some (eM C (⟨b,c,d,e,f,g,h,i,j,k⟩:F)),[],cj [10,13,11,14,12,15,16,8,9] 7 (DP (⟨b,c,d,e,f,g,h,i,j,k⟩:F) C.s C)⟩⟩⟩
def VY:cI:=⟨.eA true [.b 10,.b 11] [.own (.h 0 99) ca 16,.own (.h 0 29) cV 10,.own (.h 0 62) cV 11,.own (.h 0 95) cV 12,.own (.h 0 32) ca 13,.own (.h 0 65) ca 14,.own (.h 0 98) ca 15] (gj 0 [10,13,11,14,12,15,16,8,9] 7 [] 0) (gi 0 [10,13,11,14,12,15,16,8,9]),[],[]++fy 0 [10,13,11,14,12,15,16,8,9],⟨[],[]⟩⟩
def aru:cm (VY).b_:=(.ad (.ad (.ad (.j ⟨57,[],[(.t 5,a)],[],.f⟩ .z (.bU ⟨([.ptr 0 0,U,U,.ptr 10 0,.ptr 0 0,b (h8 ac C.s)]++(us 135 ([]))),cn [1,2,3,4,5,6,7,8,9] 1 C [(10,[b 6,b 0,b ac.K,b ac.an,b ac.p,b ac.v,.str ac.ax,.str ac.aF,.str ac.i,b ac.aP])]⟩ (.ad (.ad (.c false (.ad (.c false (.ad (.c false (.s (.ad (.c true .z)) (.c true (.ad (.s (.ad (.ad (.ad (.c true .z)))) .z))))))))))))))))
def T6(ac:F)(C:ak):Prop:=(((decide ((C.s.n:Int)>0))=true→(((C.s.n:Int):Int)≠0))∧((decide ((h8 ac C.s)≥0))=true→((((0:Int)≤(h8 ac C.s)∧(h8 ac C.s)<(C.s.n:Int))∧((toNat (h8 ac C.s))<C.s.n))∧(((0:Int)≤(h8 ac C.s)∧((h8 ac C.s):Int)<(i64.wrap ((h8 ac C.s)+1))∧((i64.wrap ((h8 ac C.s)+1)):Int)≤(C.s.n:Int))∧(tg (zX ac C.s C) (C.s.at' (toNat (h8 ac C.s))))))))
theorem ay9(ac:F)(C:ak)(e:ey C)(f:ac.ax.size≤549755813888)(g:ac.aF.size≤549755813888)(h:ac.i.size≤549755813888)(b:eM C ac):T6 ac C:=by
 have d:=gQ e 0 (by omega);unfold fv at d;unfold T6;exact have:=oY b;have:=b.2.nB;have:=ah0 ac C.s b.2.nB;(⟨(fun c=>(by have:=aq c;omega)),(fun a=>⟨⟨(by have:=aq a;omega),(by have:=aq a;omega)⟩,⟨(by have:=aq a;have:=N ((h8 ac C.s)+1);omega),(by repeat first|assumption|apply lu)⟩⟩)⟩)
theorem awO(ac:F)(d:ac.ax.size≤549755813888)(e:ac.aF.size≤549755813888)(f:ac.i.size≤549755813888)(C:ak)(a:ey C)(c:eM C ac):fj Tryz.prog 31 ((MF).args ([b 6,b 0,b ac.K,b ac.an,b ac.p,b ac.v,.str ac.ax,.str ac.aF,.str ac.i,b ac.aP]++h3 C)) ((MF).c4 (([b 6,b 0,b ac.K,b ac.an,b ac.p,b ac.v,.str ac.ax,.str ac.aF,.str ac.i,b ac.aP]++h3 C).drop (MF).dL)) [] (cj [10,13,11,14,12,15,16,8,9] 7 (DP ac C.s C)):=by
 refine ei VY (aru ac C) (T6 ac C) (bK 10 aT (av ae3 (av ae4 bJ))) Tryz.func31 [] ?_ ?_ (ay9 ac C a d e f c)
 ·kernel_rfl
 ·kernel_rfl
end
section
variable(ac:F)(E:A O)(C:ak)
def h9:Int:=(cond (decide ((E.n:Int)>0)) (ac.K.tmod (E.n:Int)) (-1))
def Iw:ak:=({C with s:=(A.del E (toNat (h9 ac E)) (toNat (i64.wrap ((h9 ac E)+1))))} :ak)
def zY:ak:=(ak.bif (decide ((h9 ac E)≥0)) (Iw ac E C) C)
theorem aCo(ac:F)(E:A O)(h:0≤ac.K):h9 ac E<(E.n:Int):=by
 unfold h9
 by_cases c:(E.n:Int)>0
 ·rw[bT c];exact(s4 h c).2
 ·rw[bI c];show(-1:Int)<(E.n:Int);omega
def MG:db:=⟨[.p 0,.g [a,a,a,a,a,a,au,au,au,a]],b8,eL,er,fun(b:Int) (c:Int) (d:Int) (e:Int) (f:Int) (g:Int) h i j (k:Int)=>cB fun C=>⟨⟨some (eM C (⟨b,c,d,e,f,g,h,i,j,k⟩:F)),[],cj [10,13,11,14,12,15,16,8,9] 7 (zY (⟨b,c,d,e,f,g,h,i,j,k⟩:F) C.s C)⟩⟩⟩
def VZ:cI:=⟨.eA true [.b 10,.b 11] [.own (.h 0 99) ca 16,.own (.h 0 29) cV 10,.own (.h 0 62) cV 11,.own (.h 0 95) cV 12,.own (.h 0 32) ca 13,.own (.h 0 65) ca 14,.own (.h 0 98) ca 15] (gj 0 [10,13,11,14,12,15,16,8,9] 7 [] 0) (gi 0 [10,13,11,14,12,15,16,8,9]),[],[]++fy 0 [10,13,11,14,12,15,16,8,9],⟨[],[]⟩⟩
def arv:cm (VZ).b_:=(.ad (.ad (.ad (.j ⟨57,[],[(.t 5,a)],[],.f⟩ .z (.bU ⟨([.ptr 0 0,U,U,.ptr 10 0,.ptr 0 0,b (h9 ac C.s)]++(us 135 ([]))),cn [1,2,3,4,5,6,7,8,9] 1 C [(10,[b 7,b 0,b ac.K,b ac.an,b ac.p,b ac.v,.str ac.ax,.str ac.aF,.str ac.i,b ac.aP])]⟩ (.ad (.ad (.c false (.ad (.c false (.ad (.c false (.s (.ad (.c false .z)) (.c true (.ad (.s (.ad (.ad (.ad (.c false .z)))) .z))))))))))))))))
def T7(ac:F)(C:ak):Prop:=(((decide ((C.s.n:Int)>0))=true→(((C.s.n:Int):Int)≠0))∧((decide ((h9 ac C.s)≥0))=true→((((0:Int)≤(h9 ac C.s)∧(h9 ac C.s)<(C.s.n:Int))∧((toNat (h9 ac C.s))<C.s.n))∧((0:Int)≤(h9 ac C.s)∧((h9 ac C.s):Int)<(i64.wrap ((h9 ac C.s)+1))∧((i64.wrap ((h9 ac C.s)+1)):Int)≤(C.s.n:Int)))))
theorem ay_(ac:F)(C:ak)(e:ey C)(f:ac.ax.size≤549755813888)(g:ac.aF.size≤549755813888)(h:ac.i.size≤549755813888)(b:eM C ac):T7 ac C:=by
 have d:=gQ e 0 (by omega);unfold fv at d;unfold T7;exact have:=oY b;have:=b.2.nB;have:=aCo ac C.s b.2.nB;(⟨(fun c=>(by have:=aq c;omega)),(fun a=>⟨⟨(by have:=aq a;omega),(by have:=aq a;omega)⟩,(by have:=aq a;have:=N ((h9 ac C.s)+1);omega)⟩)⟩)
theorem awP(ac:F)(d:ac.ax.size≤549755813888)(e:ac.aF.size≤549755813888)(f:ac.i.size≤549755813888)(C:ak)(a:ey C)(c:eM C ac):fj Tryz.prog 31 ((MG).args ([b 7,b 0,b ac.K,b ac.an,b ac.p,b ac.v,.str ac.ax,.str ac.aF,.str ac.i,b ac.aP]++h3 C)) ((MG).c4 (([b 7,b 0,b ac.K,b ac.an,b ac.p,b ac.v,.str ac.ax,.str ac.aF,.str ac.i,b ac.aP]++h3 C).drop (MG).dL)) [] (cj [10,13,11,14,12,15,16,8,9] 7 (zY ac C.s C)):=by
 refine ei VZ (arv ac C) (T7 ac C) (bK 10 aT (av ae3 bJ)) Tryz.func31 [] ?_ ?_ (ay_ ac C a d e f c)
 ·kernel_rfl
 ·kernel_rfl
end
section
variable(ac:F)(E:A O)(C:ak)
def mq:Int:=(cond (decide ((E.n:Int)>0)) (ac.K.tmod (E.n:Int)) (-1))
def tP:Bool:=(cond (decide ((mq ac E)≥0)) (decide ((E.n:Int)<300)) false)
def Ix:ak:=({C with s:=(A.app E (A.lit ([(E.at' (toNat (mq ac E)))]:List O)))} :ak)
def DQ:ak:=(ak.bif (tP ac E) (Ix ac E C) C)
theorem aCp(ac:F)(E:A O)(h:0≤ac.K):mq ac E<(E.n:Int):=by
 unfold mq
 by_cases c:(E.n:Int)>0
 ·rw[bT c];exact(s4 h c).2
 ·rw[bI c];show(-1:Int)<(E.n:Int);omega
def MH:db:=⟨[.p 0,.g [a,a,a,a,a,a,au,au,au,a]],b8,eL,er,fun(b:Int) (c:Int) (d:Int) (e:Int) (f:Int) (g:Int) h i j (k:Int)=>cB fun C=>⟨⟨some (eM C (⟨b,c,d,e,f,g,h,i,j,k⟩:F)),[],cj [10,13,11,14,12,15,16,8,9] 7 (DQ (⟨b,c,d,e,f,g,h,i,j,k⟩:F) C.s C)⟩⟩⟩
def V0:cI:=⟨.eA true [.b 10] [.own (.h 0 99) ca 16,.own (.h 0 29) cV 10,.own (.h 0 62) cV 11,.own (.h 0 95) cV 12,.own (.h 0 32) ca 13,.own (.h 0 65) ca 14,.own (.h 0 98) ca 15] (gj 0 [10,13,11,14,12,15,16,8,9] 7 [] 0) (gi 0 [10,13,11,14,12,15,16,8,9]),[],[]++fy 0 [10,13,11,14,12,15,16,8,9],⟨[],[]⟩⟩
def arw:cm (V0).b_:=(.ad (.ad (.ad (.j ⟨57,[],[(.t 5,a)],[],.f⟩ .z (.bU ⟨([.ptr 0 0,U,U,.ptr 10 0,.ptr 0 0,b (mq ac C.s)]++(us 135 ([]))),cn [1,2,3,4,5,6,7,8,9] 1 C [(10,[b 8,b 0,b ac.K,b ac.an,b ac.p,b ac.v,.str ac.ax,.str ac.aF,.str ac.i,b ac.aP])]⟩ (.ad (.ad (.c false (.ad (.c false (.ad (.c false (.s (.ad (.c false .z)) (.c false (.ad (.c true (.j ⟨40564819207303340847894502572065,[.b 10],[(.t 105,y)],[],.f⟩ .z (.bU ⟨([.ptr 0 0,U,U,U,U,b (mq ac C.s)]++(us 99 (([.bool (tP ac C.s)]++(us 35 ([])))))),cn [1,2,3,4,5,6,7,8,9] 0 C []⟩ .z))))))))))))))))))
def T8(ac:F)(C:ak):Prop:=(((decide ((C.s.n:Int)>0))=true→(((C.s.n:Int):Int)≠0))∧((tP ac C.s)=true→(((0:Int)≤(mq ac C.s)∧(mq ac C.s)<(C.s.n:Int))∧(((toNat (mq ac C.s))<C.s.n)∧(C.s.n+1≤549755813888)))))
theorem aza(ac:F)(C:ak)(e:ey C)(f:ac.ax.size≤549755813888)(g:ac.aF.size≤549755813888)(h:ac.i.size≤549755813888)(a:eM C ac):T8 ac C:=by
 have d:=gQ e 0 (by omega);unfold fv at d;unfold T8;exact have:=oY a;have:=a.2.nB;have:=aCp ac C.s a.2.nB;(⟨(fun c=>(by have:=aq c;omega)),(fun b=>⟨(by have:=b;(try simp [tP]at this);omega),⟨(by have:=b;(try simp [tP]at this);omega),(by omega)⟩⟩)⟩)
theorem awQ(ac:F)(d:ac.ax.size≤549755813888)(e:ac.aF.size≤549755813888)(f:ac.i.size≤549755813888)(C:ak)(a:ey C)(c:eM C ac):fj Tryz.prog 31 ((MH).args ([b 8,b 0,b ac.K,b ac.an,b ac.p,b ac.v,.str ac.ax,.str ac.aF,.str ac.i,b ac.aP]++h3 C)) ((MH).c4 (([b 8,b 0,b ac.K,b ac.an,b ac.p,b ac.v,.str ac.ax,.str ac.aF,.str ac.i,b ac.aP]++h3 C).drop (MH).dL)) [] (cj [10,13,11,14,12,15,16,8,9] 7 (DQ ac C.s C)):=by
 refine ei V0 (arw ac C) (T8 ac C) (bK 10 aT bJ) Tryz.func31 [] ?_ ?_ (aza ac C a d e f c)
 ·kernel_rfl
 ·kernel_rfl
end
section
variable(ac:F)(E:A O)(C:ak)
def aqB:Int:=(cond (decide ((E.n:Int)>0)) (ac.K.tmod (E.n:Int)) (-1))
def abX(a:Int)(b:ak):ak:=(e2 b (E.at' (toNat a)))
def r7(E:A O):Nat→Int→ak→hv
 |0,_,_=>default
 |k+1,a,b=>(cond (decide (a<(E.n:Int))) (r7 E k (i64.wrap (a+1)) (abX E a b)) (Vj b))
def Iy:ak:=({C with s:=(L:A O)} :ak)
def aqC:hv:=r7 E ((toNat ((C.s.n:Int)- (0:Int)))+1) (0:Int) (Iy C)
def aqA:ak:=(bc (aqC E C))
def n_:ak:=(aqA E C)
def MJ:db:=⟨[.p 0,.g [a,a,a,a,a,a,au,au,au,a]],b8,eL,er,fun(b:Int) (c:Int) (d:Int) (e:Int) (f:Int) (g:Int) h i j (k:Int)=>cB fun C=>⟨⟨some (eM C (⟨b,c,d,e,f,g,h,i,j,k⟩:F)),[],cj [10,13,11,14,12,15,16,8,9] 7 (n_ C.s C)⟩⟩⟩
def V2:cI:=⟨.eA true [] [.kill 7,.own (.h 0 99) ca 16,.own (.h 0 29) cV 10,.own (.h 0 62) cV 11,.own (.h 0 95) cV 12,.own (.h 0 32) ca 13,.own (.h 0 65) ca 14,.own (.h 0 98) ca 15] (gj 0 [10,13,11,14,12,15,16,8,9] 7 [] 0) (gi 0 [10,13,11,14,12,15,16,8,9]),[],[]++fy 0 [10,13,11,14,12,15,16,8,9],⟨[],[]⟩⟩
def ary:cm (V2).b_:=(.ad (.ad (.ad (.j ⟨57,[],[(.t 5,a)],[],.f⟩ .z (.bU ⟨([.ptr 0 0,U,U,.ptr 10 0,.ptr 0 0,b (aqB ac C.s)]++(us 135 ([]))),cn [1,2,3,4,5,6,7,8,9] 1 C [(10,[b 12,b 0,b ac.K,b ac.an,b ac.p,b ac.v,.str ac.ax,.str ac.aF,.str ac.i,b ac.aP])]⟩ (.ad (.ad (.c false (.ad (.c false (.ad (.c false (.s (.ad (.c false .z)) (.c false (.ad (.c false (.ad (.c true (.ad (.ad (.s (.pX [] [.own (.h 0 29) cV 40,.own (.h 0 62) cV 41,.own (.h 0 95) cV 42]) (.uQ ⟨19055812547572553953948978016179019841537,[.b 10],[(.h 0 99,ca)],(.t 133,a)::fy 0 [40,2,41,4,42,6,43,8,9],some 1,false,0,[],fy 0 [40,2,41,4,42,6,43,8,9],fun k (c:Int×hv)=>r7 C.s k c.1 (bc c.2),.f,fun(c:Int×hv)=>rn C c.1 (bc c.2),fun(c:Int×hv)=>(toNat ((C.s.n:Int)-c.1)),none⟩ (fun(c:Int×hv)=>(.ad (.bU ⟨([.ptr 0 0]++(us 130 (([.own 7 C.s.n,b (C.s.n:Int),b c.1,.bool (decide (c.1<(C.s.n:Int)))]++(us 6 ([])))))),cn [40,2,41,4,42,6,43,8,9] 34 (bc c.2) [(7,[(aB.ae ca).ab C.s])]⟩ (.ad (.ad (.pX [] [.own (.h 0 29) cV 40,.own (.h 0 62) cV 41,.own (.h 0 95) cV 42]))))))))))))))))))))))))))))
def T_(ac:F)(C:ak):Prop:=(((decide ((C.s.n:Int)>0))=true→(((C.s.n:Int):Int)≠0))∧((rn C (0:Int) (Iy C))∧(vm (aB.int .i64::b8) fun(a:Int×hv)=>rn C a.1 (bc a.2)→(((decide (a.1<(C.s.n:Int)))=true→((((0:Int)≤a.1∧a.1<(C.s.n:Int))∧((toNat a.1)<C.s.n))∧(tg (bc a.2) (C.s.at' (toNat a.1)))))∧((decide (a.1<(C.s.n:Int)))=true→(rn C (i64.wrap (a.1+1)) (abX C.s a.1 (bc a.2))∧(toNat ((C.s.n:Int)- (i64.wrap (a.1+1))))<(toNat ((C.s.n:Int)-a.1))))))))
theorem azc(ac:F)(C:ak)(g:ey C)(j:ac.ax.size≤549755813888)(k:ac.aF.size≤549755813888)(l:ac.i.size≤549755813888)(d:eM C ac):T_ ac C:=by
 have f:=gQ g 0 (by omega);unfold fv at f;unfold T_;exact have:=oY d;have:=d.2.nB;(⟨(fun e=>(by have:=aq e;omega)),⟨(by repeat first|assumption|apply k3),((yU _ _).2 fun(h:Int×hv) i=>⟨(fun b=>⟨⟨(by have:=aq b;(try have a:=CH (by assumption));omega),(by have:=aq b;(try have a:=CH (by assumption));omega)⟩,(by have:=aq b;have:=trivial;(try have a:=CH (by assumption));repeat first|assumption|apply kt)⟩),(fun c=>⟨(by have:=aq c;have:=trivial;(try have a:=CH (by assumption));repeat first|assumption|apply k4),(by have:=aq c;(try have a:=CH (by assumption));have:=N (h.1+1);omega)⟩)⟩)⟩⟩)
theorem awR(ac:F)(d:ac.ax.size≤549755813888)(e:ac.aF.size≤549755813888)(f:ac.i.size≤549755813888)(C:ak)(a:ey C)(c:eM C ac):fj Tryz.prog 31 ((MJ).args ([b 12,b 0,b ac.K,b ac.an,b ac.p,b ac.v,.str ac.ax,.str ac.aF,.str ac.i,b ac.aP]++h3 C)) ((MJ).c4 (([b 12,b 0,b ac.K,b ac.an,b ac.p,b ac.v,.str ac.ax,.str ac.aF,.str ac.i,b ac.aP]++h3 C).drop (MJ).dL)) [] (cj [10,13,11,14,12,15,16,8,9] 7 (n_ C.s C)):=by
 refine ei V2 (ary ac C) (T_ ac C) (bK 10 aT (av ae4 bJ)) Tryz.func31 [] ?_ ?_ (azc ac C a d e f c)
 ·kernel_rfl
 ·kernel_rfl
end
section
abbrev zW(i:Nat)(ac:F)(Z:H):H:=o6 4 i ac Z
abbrev QQ(i:Nat)(ac:F)(Z:H)(E:A O):A O:=qf 4 i ac Z E
variable(i:Nat)(C:ak)(ac:F)
def ayH:ak:=(C.put i (DO ac (C.Z i)) C.s (QP ac (C.Z i) C.told) C.a2)
def ayI:ak:=(C.put i (o6 2 i ac (C.Z i)) (qf 2 i ac (C.Z i) C.s) C.told C.a2)
def ayJ:ak:=(C.put i (o6 3 i ac (C.Z i)) (qf 3 i ac (C.Z i) C.s) C.told C.a2)
def Fs:ak:=(C.put i (zW i ac (C.Z i)) (QQ i ac (C.Z i) C.s) C.told C.a2)
def Lq:ak:=(C.set i (QR ac (C.Z i)))
def x8:ak:=(C.put i (o6 9 i ac (C.Z i)) (qf 9 i ac (C.Z i) C.s) C.told C.a2)
def Ft(ac:F):ak:=(C.set i (QS (C.Z i)))
def ayK:ak:=(C.put i (o6 11 i ac (C.Z i)) (qf 11 i ac (C.Z i) C.s) C.told C.a2)
def cw:ak:=(ak.bif (ac.j==1) (ayH (toNat ac.ai) C ac) (ak.bif (ac.j==2) (ayI (toNat ac.ai) C ac) (ak.bif (ac.j==3) (ayJ (toNat ac.ai) C ac) (ak.bif (ac.j==4) (Fs (toNat ac.ai) C ac) (ak.bif (ac.j==5) (Lq (toNat ac.ai) C ac) (ak.bif (ac.j==6) (DP ac C.s C) (ak.bif (ac.j==7) (zY ac C.s C) (ak.bif (ac.j==8) (DQ ac C.s C) (ak.bif (ac.j==9) (x8 (toNat ac.ai) C ac) (ak.bif (ac.j==10) (Ft (toNat ac.ai) C ac) (ak.bif (ac.j==11) (ayK (toNat ac.ai) C ac) (n_ C.s C))))))))))))
def MC:db:=⟨[.p 0,.g [a,a,a,a,a,a,au,au,au,a]],b8,eL,er,fun(b:Int) (c:Int) (d:Int) (e:Int) (f:Int) (g:Int) h i j (k:Int)=>cB fun C=>⟨⟨some (eM C (⟨b,c,d,e,f,g,h,i,j,k⟩:F)),[],cj [10,13,11,14,12,15,16,8,9] 7 (cw C (⟨b,c,d,e,f,g,h,i,j,k⟩:F))⟩⟩⟩
theorem awN(ac:F)(l:ac.ax.size≤549755813888)(m:ac.aF.size≤549755813888)(n:ac.i.size≤549755813888):eP Tryz.prog 31 MC b8 [] (cB fun C=>⟨⟨some (eM C ac),[],cj [10,13,11,14,12,15,16,8,9] 7 (cw C ac)⟩⟩) [b ac.j,b ac.ai,b ac.K,b ac.an,b ac.p,b ac.v,.str ac.ax,.str ac.aF,.str ac.i,b ac.aP]:=by
 refine gg fun C k a=> ?_;obtain⟨a0,o,c,d,e,f,g,h,i,j⟩:=ac;have q:a0=1∨a0=2∨a0=3∨a0=4∨a0=5∨a0=6∨a0=7∨a0=8∨a0=9∨a0=10∨a0=11∨a0=12:=by
  have r:1≤a0:=a.2.b_.1;have s:a0≤12:=a.2.b_.2;omega
 have p:o=0∨o=1∨o=2:=by
  have r:0≤o:=a.2.Z.1;have s:o<3:=a.2.Z.2;omega
 rcases q with rfl|rfl|rfl|rfl|rfl|rfl|rfl|rfl|rfl|rfl|rfl|rfl
 ·rcases p with rfl|rfl|rfl
  ·exact Eq.mp (by kernel_rfl) (Tg 0 (by omega) ⟨1,0,c,d,e,f,g,h,i,j⟩ l m n C k a)
  ·exact Eq.mp (by kernel_rfl) (Tg 1 (by omega) ⟨1,1,c,d,e,f,g,h,i,j⟩ l m n C k a)
  ·exact Eq.mp (by kernel_rfl) (Tg 2 (by omega) ⟨1,2,c,d,e,f,g,h,i,j⟩ l m n C k a)
 ·rcases p with rfl|rfl|rfl
  ·exact Eq.mp (by kernel_rfl) (l0 2 (by decide) 0 (by omega) ⟨2,0,c,d,e,f,g,h,i,j⟩ l m n C k a)
  ·exact Eq.mp (by kernel_rfl) (l0 2 (by decide) 1 (by omega) ⟨2,1,c,d,e,f,g,h,i,j⟩ l m n C k a)
  ·exact Eq.mp (by kernel_rfl) (l0 2 (by decide) 2 (by omega) ⟨2,2,c,d,e,f,g,h,i,j⟩ l m n C k a)
 ·rcases p with rfl|rfl|rfl
  ·exact Eq.mp (by kernel_rfl) (l0 3 (by decide) 0 (by omega) ⟨3,0,c,d,e,f,g,h,i,j⟩ l m n C k a)
  ·exact Eq.mp (by kernel_rfl) (l0 3 (by decide) 1 (by omega) ⟨3,1,c,d,e,f,g,h,i,j⟩ l m n C k a)
  ·exact Eq.mp (by kernel_rfl) (l0 3 (by decide) 2 (by omega) ⟨3,2,c,d,e,f,g,h,i,j⟩ l m n C k a)
 ·rcases p with rfl|rfl|rfl
  ·exact Eq.mp (by kernel_rfl) (l0 4 (by decide) 0 (by omega) ⟨4,0,c,d,e,f,g,h,i,j⟩ l m n C k a)
  ·exact Eq.mp (by kernel_rfl) (l0 4 (by decide) 1 (by omega) ⟨4,1,c,d,e,f,g,h,i,j⟩ l m n C k a)
  ·exact Eq.mp (by kernel_rfl) (l0 4 (by decide) 2 (by omega) ⟨4,2,c,d,e,f,g,h,i,j⟩ l m n C k a)
 ·rcases p with rfl|rfl|rfl
  ·exact Eq.mp (by kernel_rfl) (Th 0 (by omega) ⟨5,0,c,d,e,f,g,h,i,j⟩ l m n C k a)
  ·exact Eq.mp (by kernel_rfl) (Th 1 (by omega) ⟨5,1,c,d,e,f,g,h,i,j⟩ l m n C k a)
  ·exact Eq.mp (by kernel_rfl) (Th 2 (by omega) ⟨5,2,c,d,e,f,g,h,i,j⟩ l m n C k a)
 ·have z:o=0:=a.2.LA (by simp);subst z;exact Eq.mp (by kernel_rfl) (awO ⟨6,0,c,d,e,f,g,h,i,j⟩ l m n C k a)
 ·have z:o=0:=a.2.LA (by simp);subst z;exact Eq.mp (by kernel_rfl) (awP ⟨7,0,c,d,e,f,g,h,i,j⟩ l m n C k a)
 ·have z:o=0:=a.2.LA (by simp);subst z;exact Eq.mp (by kernel_rfl) (awQ ⟨8,0,c,d,e,f,g,h,i,j⟩ l m n C k a)
 ·rcases p with rfl|rfl|rfl
  ·exact Eq.mp (by kernel_rfl) (l0 9 (by decide) 0 (by omega) ⟨9,0,c,d,e,f,g,h,i,j⟩ l m n C k a)
  ·exact Eq.mp (by kernel_rfl) (l0 9 (by decide) 1 (by omega) ⟨9,1,c,d,e,f,g,h,i,j⟩ l m n C k a)
  ·exact Eq.mp (by kernel_rfl) (l0 9 (by decide) 2 (by omega) ⟨9,2,c,d,e,f,g,h,i,j⟩ l m n C k a)
 ·rcases p with rfl|rfl|rfl
  ·exact Eq.mp (by kernel_rfl) (Ti 0 (by omega) ⟨10,0,c,d,e,f,g,h,i,j⟩ l m n C k a)
  ·exact Eq.mp (by kernel_rfl) (Ti 1 (by omega) ⟨10,1,c,d,e,f,g,h,i,j⟩ l m n C k a)
  ·exact Eq.mp (by kernel_rfl) (Ti 2 (by omega) ⟨10,2,c,d,e,f,g,h,i,j⟩ l m n C k a)
 ·rcases p with rfl|rfl|rfl
  ·exact Eq.mp (by kernel_rfl) (l0 11 (by decide) 0 (by omega) ⟨11,0,c,d,e,f,g,h,i,j⟩ l m n C k a)
  ·exact Eq.mp (by kernel_rfl) (l0 11 (by decide) 1 (by omega) ⟨11,1,c,d,e,f,g,h,i,j⟩ l m n C k a)
  ·exact Eq.mp (by kernel_rfl) (l0 11 (by decide) 2 (by omega) ⟨11,2,c,d,e,f,g,h,i,j⟩ l m n C k a)
 ·have z:o=0:=a.2.LA (by simp);subst z;exact Eq.mp (by kernel_rfl) (awR ⟨12,0,c,d,e,f,g,h,i,j⟩ l m n C k a)
theorem azM:fV 31 MC:=
 jv (bp:=[a,a,a,a,a,a,au,au,au,a]) fun s b=>Eq.mp (by kernel_rfl) (awN ⟨s.1,s.2.1,s.2.2.1,s.2.2.2.1,s.2.2.2.2.1,s.2.2.2.2.2.1,s.2.2.2.2.2.2.1,s.2.2.2.2.2.2.2.1,s.2.2.2.2.2.2.2.2.1,s.2.2.2.2.2.2.2.2.2.1⟩ (b.2.2.2.2.2.2.1 rfl) (b.2.2.2.2.2.2.2.1 rfl) (b.2.2.2.2.2.2.2.2.1 rfl))
theorem aeZ:fW 31 MC:=gq gf Tryz.func31 azM
end
theorem hY{c:Bool}{a b:H}{m:Nat}(d:a.ws.n≤m)(e:b.ws.n≤m):(H.bif c a b).ws.n≤m:=by
 rw[H.bV]
 cases c
 ·exact e
 ·exact d
theorem aDF(j:Nat)(n:H):(H.fP j n).ws=n.ws:=by
 match j with
 |0=>rfl
 |1=>rfl
 |j+2=>rfl
theorem aDh{i j:Nat}{ms:O}{Z:H}{E:A O}{B:A a7}{G:A aJ}(h:bW Z)(c:fu ms)(l:i<3)(m:j<3):(iy i j ms Z E B G).ws.n≤Z.ws.n:=by
 have f:fu ⟨(j:Int),(i:Int),ms.K,ms.an,ms.p,ms.v,ms.ax,ms.aF,ms.i,ms.aP,ms.cG,ms.cZ,ms.cJ,ms.dh,ms.b1⟩:=⟨(by omega:(0:Int)≤(j:Int)∧(j:Int)<3),(by omega:(0:Int)≤(i:Int)∧(i:Int)<3),c.ou,c.c8,c.li⟩;have g:aO (z1 ms Z):=by
  unfold z1
  cases j5 ms Z
  ·exact h.i.u8
  ·exact(SX h).i.u8
 have k:=Vu ms Z h.i.ws;have d:bW (eN ms Z):=⟨h.i.hR _ (by kernel_rfl) g k,h.o⟩;have a:(eN ms Z).ws.n≤Z.ws.n:=by
  show(qi ms Z).n≤Z.ws.n;unfold qi
  cases j5 ms Z
  ·exact bx _
  ·exact cA _
 have b:(jk j ms Z).ws.n≤Z.ws.n:=by
  show(H.fP j (eN ms Z)).ws.n≤Z.ws.n;rw[aDF];exact a
 have K0:(gM (eN ms Z)).ws.n≤Z.ws.n:=fg (aDo _) a;have e:=aeA d;unfold iy;refine hY (bx _) (hY ?_ (by rw[aDi];exact bx _));refine hY (by rw[aDj];exact a) (hY ?_ (hY ?_ (hY (by rw[aDm];exact a) (hY ?_ (hY (by rw[aDp e];exact K0) (hY (by rw[aDq];exact K0) (hY ?_ a)))))))
 ·exact hY (hY (by rw[aDk];exact b) b) a
 ·exact hY (by rw[aDl];exact a) a
 ·exact hY (hY (by rw[aDn];exact b) b) a
 ·exact hY (by rw[aDr d f];exact a) a
theorem Vq{C:ak}{ms:O}{m:Nat}(c: ∀i,bW (C.Z i))(a:fu ms)(b: ∀i,(C.Z i).ws.n≤m)(i:Nat):((e2 C ms).Z i).ws.n≤m:=by
 have d:=a.p0;have e:=a.to;unfold e2 ow;exact nD (P:=fun n=>n.ws.n≤m) b _ (fg (aDh (c _) a (by omega) (by omega)) (b _)) _ _ _ i
theorem agy{s:A O}(h:fk s){i j:Nat}(b:i≤j)(c:j≤s.n):fk (A.del s i j):=by
 refine⟨by show s.n- (j-i)≤300;have:=h.1;omega,fun t a=> ?_⟩;have a:t<s.n- (j-i):=a;show fu (cond (Nat.blt t i) (s.at' t) (s.at' (t+(j-i))));exact oS (P:=fu) (h.2 t (by omega)) (h.2 (t+(j-i)) (by omega))
theorem vB{k:Nat}{C:ak}(a: ∀i,bW (C.Z i))(e: ∀i,(C.Z i).ws.n≤k)(b:fk C.s)(d:C.told.n≤180001000*k)(c:C.a2.n≤300*k):fs k C:=
 ⟨fun i=>(a i).i,e,b.2,b.1,fun i=>(a i).o.2,fun i=>(a i).o.1,d,c⟩
theorem fs.j{k:Nat}{C:ak}(h:fs k C)(i:Nat):bW (C.Z i):=⟨h.Z i,h.on i,h.bS i⟩
theorem fs.a{k:Nat}{C:ak}(h:fs k C):fk C.s:=⟨h.jU,h.tn⟩
theorem fs.succ{k:Nat}{C:ak}(h:fs k C):fs (k+1) C:=vB h.j (fun i=>ve (h.wn i)) h.a (by have:=h.q4;omega) (by have:=h.gP;omega)
theorem G1{k:Nat}{C:ak}(h:fs k C)(i:Nat){n:H}{E:A O}{B:A a7}{G:A aJ}(b:bW n)(c:n.ws.n≤k+1)(a:fk E)(e:B.n≤C.told.n+180001000)(d:G.n≤C.a2.n+300):fs (k+1) (C.put i n E B G):=by
 have f:=yg C i n E B G;refine vB (nD (P:=bW) h.j i b _ _ _) (nD (P:=fun n=>n.ws.n≤k+1) (fun j=>ve (h.wn j)) i c _ _ _) ?_ ?_ ?_
 ·rw[f.1];exact a
 ·rw[f.2.1];have:=h.q4;omega
 ·rw[f.2.2];have:=h.gP;omega
theorem Bv(C:ak)(i:Nat)(n:H):C.set i n=C.put i n C.s C.told C.a2:=by
 match i with
 |0=>rfl
 |1=>rfl
 |i+2=>rfl
theorem aDs(ms:O)(n:H):(z5 ms n).ws=n.ws:=by kernel_rfl
theorem aDt(n:H):(z6 n).ws=n.ws:=by kernel_rfl
theorem aDu(n:H):(wL n).ws=n.ws:=by kernel_rfl
theorem aDv(n:H):(r9 n).ws=n.ws:=by
 unfold r9
 repeat' first|rfl|apply s5
theorem aul{ac:F}{Z:H}{E:A O}(h:bW Z)(a:fk E):bW (ob ac Z)∧(ob ac Z).ws.n≤Z.ws.n∧fk (wE ac Z E):=by
 have b:bW (DS Z):=⟨h.i.hR _ (by kernel_rfl) h.i.u8 h.i.ws,h.o⟩;have c:=OD b.i;refine⟨?_,?_,?_⟩
 ·unfold ob;refine nt (fun _=>nt (fun _=>aeB b (uR c)) fun _=>h) fun _=> ?_;refine nt (fun _=>nt (fun _=>aeC h) fun _=>h) fun _=> ?_;exact nt (fun _=>aut h) fun _=>nt (fun _=>auu h) fun _=>nt (fun _=>auv h) fun _=>h
 ·unfold ob;refine hY (hY (by rw[aDs];exact bx _) (bx _)) ?_;refine hY (hY (by rw[aDt];exact bx _) (bx _)) ?_;exact hY (by rw[aDu];exact bx _) (hY (cA _) (hY (by rw[aDv];exact bx _) (bx _)))
 ·unfold wE;exact oS (P:=fk) a (oS (P:=fk) a (oS (P:=fk) (amw h a) a))
theorem B0{k:Nat}{C:ak}(h:fs k C)(i:Nat)(ac:F)(c:Bool):fs (k+1) (C.put i (H.bif c (ob ac (C.Z i)) (C.Z i)) (cond c (wE ac (C.Z i) C.s) C.s) C.told C.a2):=by
 have q:=aul (ac:=ac) (h.j i) h.a;exact G1 h i (nt (fun _=>q.1) fun _=>h.j i) (hY (fg q.2.1 (ve (h.wn i))) (ve (h.wn i))) (oS (P:=fk) q.2.2 h.a) (ra _ _) (ra _ _)
theorem eo{P:ak→Prop}{c:Bool}{a b:ak}(d:c=true→P a)(e:c=false→P b):P (ak.bif c a b):=by
 rw[ak.bV]
 cases c
 ·exact e rfl
 ·exact d rfl
theorem aCm{c:Int}{E:A O}(h:0≤c):(cond (decide ((E.n:Int)>0)) (c.tmod (E.n:Int)) (-1))<(E.n:Int):=by
 by_cases e:(E.n:Int)>0
 ·rw[bT e];exact(s4 h e).2
 ·rw[bI e];show(-1:Int)<(E.n:Int);omega
theorem aCf{k:Nat}{C:ak}(h:fs k C){D:A O}(f:fk D){ms:O}(d:fu ms):fs (k+1) (e2 {C with s:=D} ms):=by
 have e: ∀i,bW ((⟨C.a,C.b,C.c,D,C.told,C.a2⟩:ak).Z i):=fun i=>by
  have a:=h.j 0;have b:=h.j 1;have c:=h.j 2
  match i with
  |0=>exact a
  |1=>exact b
  |i+2=>exact c
 have g: ∀i,((⟨C.a,C.b,C.c,D,C.told,C.a2⟩:ak).Z i).ws.n≤k:=fun i=>by
  have a:=h.wn 0;have b:=h.wn 1;have c:=h.wn 2
  match i with
  |0=>exact a
  |1=>exact b
  |i+2=>exact c
 have q:=yz e d;have l:=h.q4;have j:=h.gP;have n:(((e2 ⟨C.a,C.b,C.c,D,C.told,C.a2⟩ ms).told.n:Nat):Int)≤(C.told.n:Int)+600000:=q.t;have m:(e2 ⟨C.a,C.b,C.c,D,C.told,C.a2⟩ ms).a2.n≤C.a2.n+1:=q.l;refine vB q.j (fun i=>ve (Vq e d g i)) (by rw[q.a];exact f) ?_ ?_
 ·show(e2 ⟨C.a,C.b,C.c,D,C.told,C.a2⟩ ms).told.n≤_;omega
 ·show(e2 ⟨C.a,C.b,C.c,D,C.told,C.a2⟩ ms).a2.n≤_;omega
theorem G2(C:ak):bc (Vj C)=C:=rfl
structure yN (k:Nat) (C X:ak) (v:Int):Prop where
 j: ∀i,bW (X.Z i)
 w: ∀i,(X.Z i).ws.n≤k
 a:X.s=L
 t:(X.told.n:Int)≤(C.told.n:Int)+600000*v
 l:(X.a2.n:Int)≤(C.a2.n:Int)+v
theorem ao7{k:Nat}{C X:ak}{v:Int}(h:yN k C X v){ms:O}(a:fu ms):yN k C (e2 X ms) (v+1):=by
 have q:=yz h.j a;have c:=h.t;have b:=h.l;have e:=q.t;have d:=q.l;exact⟨q.j,Vq h.j a h.w,by rw[q.a];exact h.a,by omega,by omega⟩
theorem YJ{k:Nat}{C:ak}{E:A O}(b:fk E): ∀(m a:Nat) (v:Int) (X:ak),0≤v→v+(m:Int)=(E.n:Int)→m≤a→yN k C X v→yN k C (bc (r7 E (a+1) v X)) (E.n:Int)
 |0,a,v,X,c,e,d,h=>by
  rw[r7,bI (show¬v<(E.n:Int) by omega),aQ,G2,show(E.n:Int)=v by omega];exact h
 |m+1,a,v,X,c,e,d,h=>by
  obtain⟨a,rfl⟩: ∃q,a=q+1:=⟨a-1,by omega⟩;have f:=b.1;rw[r7,bT (show v<(E.n:Int) by omega),aN,N _];exact YJ b m a (v+1) _ (by omega) (by omega) (by omega) (ao7 h (b.2 _ (by omega)))
theorem ao8{k:Nat}{C:ak}(h:fs k C):fs (k+1) (n_ C.s C):=by
 have a:yN k C (Iy C) 0:=by
  refine⟨fun i=> ?_,fun i=> ?_,rfl,by show(C.told.n:Int)≤_;omega,by show(C.a2.n:Int)≤_;omega⟩
  ·have a:=h.j 0;have b:=h.j 1;have c:=h.j 2
   match i with
   |0=>exact a
   |1=>exact b
   |i+2=>exact c
  ·have a:=h.wn 0;have b:=h.wn 1;have c:=h.wn 2
   match i with
   |0=>exact a
   |1=>exact b
   |i+2=>exact c
 have q:=YJ (k:=k) (C:=C) h.a C.s.n (toNat ((C.s.n:Int)- (0:Int))) 0 (Iy C) (dp _) (by omega) (by omega) a;have q:yN k C (n_ C.s C) (C.s.n:Int):=q;have f:=h.q4;have e:=h.gP;have d:=h.jU;have j:=q.t;have g:=q.l;exact vB q.j (fun i=>ve (q.w i)) (by rw[q.a];exact TZ) (by omega) (by omega)
theorem anO{k:Nat}{C:ak}{ac:F}(p:k<3000)(h:fs k C)(l:Mt ac):fs (k+1) (cw C ac):=by
 have eV:=aCm (E:=C.s) l.nB;unfold cw;refine eo (fun _=> ?_) fun _=>eo (fun _=>B0 h _ _ _) fun _=>eo (fun _=>B0 h _ _ _) fun _=>eo (fun _=>B0 h _ _ _) fun _=>eo (fun _=> ?_) fun _=>eo (fun _=> ?_) fun _=>eo (fun _=> ?_) fun _=>eo (fun _=> ?_) fun _=>eo (fun _=>B0 h _ _ _) fun _=>eo (fun _=> ?_) fun _=>eo (fun _=>B0 h _ _ _) fun _=>ao8 h
 ·have q:=auk (aW:=⟨ac.an,ac.p,ac.v,ac.ax,ac.aF,ac.i,ac.aP⟩) (h.j (toNat ac.ai)) (by have:=h.wn (toNat ac.ai);omega) l.yn l.yo l.yp;have r:=aCa (aW:=⟨ac.an,ac.p,ac.v,ac.ax,ac.aF,ac.i,ac.aP⟩) (Z:=C.Z (toNat ac.ai)) (B:=C.told);exact G1 h _ q.1 (by have:=h.wn (toNat ac.ai);have:=q.2;show(r8 _ _).ws.n≤k+1;omega) h.a (by show(zZ _ _ _).n≤_;omega) (ra _ _)
 ·have b:=h.j (toNat ac.ai);rw[Lq,Bv];exact G1 h _ ⟨b.i.hR _ (by kernel_rfl) b.i.u8 b.i.ws,b.o⟩ (ve (h.wn _)) h.a (ra _ _) (ra _ _)
 ·refine eo (fun e=> ?_) fun _=>h.succ;have e:=aq e;have n:h8 ac C.s<(C.s.n:Int):=eV;have g:=wrap64 (x:=h8 ac C.s+1) (by omega) (by have:=h.jU;omega);exact aCf h (agy h.a (by rw[g];omega) (by rw[g];omega)) (h.tn _ (by omega))
 ·refine eo (fun e=> ?_) fun _=>h.succ;have e:=aq e;have n:h9 ac C.s<(C.s.n:Int):=eV;have g:=wrap64 (x:=h9 ac C.s+1) (by omega) (by have:=h.jU;omega);have a:=h.succ;have m:fk (A.del C.s (toNat (h9 ac C.s)) (toNat (i64.wrap (h9 ac C.s+1)))):=agy h.a (by rw[g];omega) (by rw[g];omega);refine vB (fun i=> ?_) (fun i=> ?_) m a.q4 a.gP
  ·have c:=h.j 0;have d:=h.j 1;have f:=h.j 2
   match i with
   |0=>exact c
   |1=>exact d
   |i+2=>exact f
  ·have c:=a.wn 0;have d:=a.wn 1;have f:=a.wn 2
   match i with
   |0=>exact c
   |1=>exact d
   |i+2=>exact f
 ·refine eo (fun e=> ?_) fun _=>h.succ;have a:=h.succ;have n:mq ac C.s<(C.s.n:Int):=eV;have m:fk (A.app C.s (A.lit ([(C.s.at' (toNat (mq ac C.s)))]:List O))):=by
   unfold tP at e
   cases j:decide ((mq ac C.s)≥0)with
   |false=>rw[j]at e;cases e
   |true=>
    rw[j]at e;have j:=aq j;have o:=aq e;exact agx h.a (by omega) (h.tn _ (by omega))
  refine vB (fun i=> ?_) (fun i=> ?_) m a.q4 a.gP
  ·have c:=h.j 0;have d:=h.j 1;have f:=h.j 2
   match i with
   |0=>exact c
   |1=>exact d
   |i+2=>exact f
  ·have c:=a.wn 0;have d:=a.wn 1;have f:=a.wn 2
   match i with
   |0=>exact c
   |1=>exact d
   |i+2=>exact f
 ·have b:=h.j (toNat ac.ai);rw[Ft,Bv];exact G1 h _ ⟨b.i.hR _ (by kernel_rfl) b.i.u8 b.i.ws,b.o⟩ (ve (h.wn _)) h.a (ra _ _) (ra _ _)
def auF(q:Key×aB):Key×aB:=match q.1 with
 | .h _ o=>(.h 1 o,q.2)
 |_=>q
def XM(ids:List Nat):List (Key×aB):=(qP 0++qP 33++qP 66).map auF++qS ids 0++qS ids 1++qS ids 2++[(.h (ids.getD 6 0) 0,.ae ca),(.h (ids.getD 7 0) 0,.ae gr),(.h (ids.getD 8 0) 0,.ae ct)]
def e6(a:F):Prop:=ld a.j a.ai a.K a.an a.p a.v a.ax a.aF a.i a.aP=0
theorem Wu{a:F}(h:e6 a):Mt a:=by
 have k:=aBA h;exact⟨k.1,k.2.1,k.2.2.1,k.2.2.2.1,fg k.2.2.2.2.1 (by decide),fg k.2.2.2.2.2.1 (by decide),fg k.2.2.2.2.2.2 (by decide)⟩
def jR(d:A F)(v:Int)(X:ak):Prop:=(0≤v∧v≤(d.n:Int))∧fs (toNat v) X
theorem hP{d:A F}{v:Int}{X:ak}(h:jR d v X):0≤v∧v≤(d.n:Int):=h.1
theorem ahs{d:A F}{v:Int}{X:ak}(e:d.n≤3000)(a: ∀q,q<d.n→e6 (d.at' q))(h:jR d v X)(f:v<(d.n:Int)):jR d (i64.wrap (v+1)) (cw X (d.at' (toNat v))):=by
 obtain⟨c,b⟩:=h;rw[N _];refine⟨by omega,?_⟩;rw[show toNat (v+1)=toNat v+1 by omega];exact anO (by omega) b (Wu (a _ (by omega)))
theorem aBn{d:A F}{v:Int}{X:ak}(e:d.n≤3000)(a: ∀q,q<d.n→e6 (d.at' q))(h:jR d v X)(f:v<(d.n:Int)):eM X (d.at' (toNat v)):=by
 obtain⟨c,b⟩:=h;exact⟨⟨_,by omega,b⟩,Wu (a _ (by omega))⟩
section
def k9(d:A F):Nat→Int→Bool×A dg×A a7×A aJ×Int×Int
 |0,_=>default
 |k+1,ar=>(cond (decide (ar<(d.n:Int))) (cond ((ld (d.at' (toNat ar)).j (d.at' (toNat ar)).ai (d.at' (toNat ar)).K (d.at' (toNat ar)).an (d.at' (toNat ar)).p (d.at' (toNat ar)).v (d.at' (toNat ar)).ax (d.at' (toNat ar)).aF (d.at' (toNat ar)).i (d.at' (toNat ar)).aP)!=0) (true,(L:A dg),(L:A a7),(L:A aJ),0,(ld (d.at' (toNat ar)).j (d.at' (toNat ar)).ai (d.at' (toNat ar)).K (d.at' (toNat ar)).an (d.at' (toNat ar)).p (d.at' (toNat ar)).v (d.at' (toNat ar)).ax (d.at' (toNat ar)).aF (d.at' (toNat ar)).i (d.at' (toNat ar)).aP)) (k9 d k (i64.wrap (ar+1)))) (false,default,default,default,default,default))
variable(d:A F)
def kz:Bool×A dg×A a7×A aJ×Int×Int:=k9 d ((toNat ((d.n:Int)-0))+1) 0
def j4:Bool:=(cond (kz d).1 false true)
def r6:ak:=let p:=DN wQ;let o:=DL wW;let n:=DK wV;let m:=DJ Ei;let l:=DI Eh;let k:=DE wQ;let j:=DD wU;let i:=DC wT;let h:=DB wS;let g:=DA wR;let f:=Dz wU;let e:=Dy wT;let d:=Dx wS;let c:=Dw wR;let b:=Dv Ej;let a:=DM wP;⟨⟨(wj 0),true,DF,wA,l,m,n,o,a,p,b,c,d,e,f,g,h,i,j,k,wk,wm,wo,wq,wu,wv,wx,wy,wz,(L:A hI),DG,DH,(L:A O)⟩,⟨(wj 1),true,DF,wA,l,m,n,o,a,p,b,c,d,e,f,g,h,i,j,k,wk,wm,wo,wq,wu,wv,wx,wy,wz,(L:A hI),DG,DH,(L:A O)⟩,⟨(wj 2),true,DF,wA,l,m,n,o,a,p,b,c,d,e,f,g,h,i,j,k,wk,wm,wo,wq,wu,wv,wx,wy,wz,(L:A hI),DG,DH,(L:A O)⟩,(L:A O),(L:A a7),(L:A aJ)⟩
def Iv(a:Int)(b:ak):ak:=(cw b (d.at' (toNat a)))
def qd(d:A F):Nat→Int→ak→hv
 |0,_,_=>default
 |k+1,a,b=>(cond (decide (a<(d.n:Int))) (qd d k (i64.wrap (a+1)) (Iv d a b)) (Vj b))
def bD:hv:=qd d ((toNat ((d.n:Int)- (0:Int)))+1) (0:Int) r6
def wi(d:A F):Nat→Int→A a7→A a7
 |0,_,_=>default
 |k+1,a,b=>(cond (decide (a<(((bc (bD d)).told.n:Nat):Int))) (wi d k (i64.wrap (a+1)) (A.app b (A.lit ([((bc (bD d)).told.at' (toNat a))]:List a7)))) b)
def Dt:A a7:=wi d ((toNat ((((bc (bD d)).told.n:Nat):Int)-0))+1) 0 (L:A a7)
def qc:A dg:=(cond (decide ((d.n:Int)>3000)) (L:A dg) (cond (j4 d) (A.app (A.app (A.lit ([(⟨((bc (bD d)).Z 0).up,((bc (bD d)).Z 0).aX,(((bc (bD d)).Z 0).ro==3),((bc (bD d)).Z 0).co,((bc (bD d)).Z 0).l,((bc (bD d)).Z 0).lt,((bc (bD d)).Z 0).li,(tQ ((bc (bD d)).Z 0).eO),(tR ((bc (bD d)).Z 0).eC),(tS ((bc (bD d)).Z 0).et),(tT ((bc (bD d)).Z 0).eD)⟩:dg)]:List dg)) (A.lit ([(⟨((bc (bD d)).Z 1).up,((bc (bD d)).Z 1).aX,(((bc (bD d)).Z 1).ro==3),((bc (bD d)).Z 1).co,((bc (bD d)).Z 1).l,((bc (bD d)).Z 1).lt,((bc (bD d)).Z 1).li,(tQ ((bc (bD d)).Z 1).eO),(tR ((bc (bD d)).Z 1).eC),(tS ((bc (bD d)).Z 1).et),(tT ((bc (bD d)).Z 1).eD)⟩:dg)]:List dg))) (A.lit ([(⟨((bc (bD d)).Z 2).up,((bc (bD d)).Z 2).aX,(((bc (bD d)).Z 2).ro==3),((bc (bD d)).Z 2).co,((bc (bD d)).Z 2).l,((bc (bD d)).Z 2).lt,((bc (bD d)).Z 2).li,(tQ ((bc (bD d)).Z 2).eO),(tR ((bc (bD d)).Z 2).eC),(tS ((bc (bD d)).Z 2).et),(tT ((bc (bD d)).Z 2).eD)⟩:dg)]:List dg))) (kz d).2.1))
def tL:A a7:=(cond (decide ((d.n:Int)>3000)) (L:A a7) (cond (j4 d) (Dt d) (kz d).2.2.1))
def zV:A aJ:=(cond (decide ((d.n:Int)>3000)) (L:A aJ) (cond (j4 d) (A.cut (wB (bc (bD d)).a2) (bc (bD d)).a2.n) (kz d).2.2.2.1))
def tM:Int:=(cond (decide ((d.n:Int)>3000)) 0 (cond (j4 d) (((bc (bD d)).s.n:Nat):Int) (kz d).2.2.2.2.1))
def tN:Int:=(cond (decide ((d.n:Int)>3000)) 1 (cond (j4 d) 0 (kz d).2.2.2.2.2))
theorem Xz(d:A F)(j:d.n≤3000): ∀(m a:Nat) (v:Int),0≤v→v+(m:Int)=(d.n:Int)→m≤a→(k9 d (a+1) v).1=false→ ∀q:Nat,v≤(q:Int)→q<d.n→e6 (d.at' q)
 |0,a,v,f,i,g,h,q,k,b=>by omega
 |m+1,a,v,f,i,g,h,q,k,b=>by
  obtain⟨a,rfl⟩: ∃q,a=q+1:=⟨a-1,by omega⟩;rw[k9,bT (show v<(d.n:Int) by omega)]at h;simp only[aN]at h
  cases e:(ld (d.at' (toNat v)).j (d.at' (toNat v)).ai (d.at' (toNat v)).K (d.at' (toNat v)).an (d.at' (toNat v)).p (d.at' (toNat v)).v (d.at' (toNat v)).ax (d.at' (toNat v)).aF (d.at' (toNat v)).i (d.at' (toNat v)).aP !=0)with
  |true=>rw[e]at h;cases h
  |false=>
   rw[e]at h;simp only[aQ]at h;rw[N _]at h
   by_cases c:(q:Int)=v
   ·have:q=toNat v:=by omega
    subst this;exact bE e
   ·exact Xz d j m a (v+1) (by omega) (by omega) (by omega) h q (by omega) b
theorem vw{d:A F}(b:decide ((d.n:Int)>3000)=false)(h:j4 d=true):d.n≤3000∧ ∀q,q<d.n→e6 (d.at' q):=by
 have a:=dQ b;have a:d.n≤3000:=by omega
 refine⟨a,fun q c=> ?_⟩;have e:(kz d).1=false:=by
  unfold j4 at h
  cases z:(kz d).1 with
  |true=>rw[z]at h;cases h
  |false=>rfl
 exact Xz d a d.n _ 0 (dp _) (by omega) (by omega) e q (by omega) c
theorem TG(i:Int)(h:0≤i∧i<3):bW ⟨(wj i),true,DF,wA,(DI Eh),(DJ Ei),(DK wV),(DL wW),(DM wP),(DN wQ),(Dv Ej),(Dw wR),(Dx wS),(Dy wT),(Dz wU),(DA wR),(DB wS),(DC wT),(DD wU),(DE wQ),wk,wm,wo,wq,wu,wv,wx,wy,wz,(L:A hI),DG,DH,(L:A O)⟩:=by
 have z:(0:Int)≤0∧(0:Int)≤1048577:=by decide
 have a:(0:Int)≤0∧(0:Int)≤1048576:=by decide
 exact⟨⟨h,dp _,dp _,a.2,cA _,(by decide:(0:Int)+((0:Nat):Int)≤1048576),cA _,⟨z,z,z⟩,l2,Gb,a,⟨a,a,a⟩⟩,⟨cA _,fun j b=>absurd b (eH j)⟩⟩
theorem anN:fs 0 r6:=by
 have a:=TG 0 (by decide);have b:=TG 1 (by decide);have c:=TG 2 (by decide);refine vB (fun i=> ?_) (fun i=> ?_) TZ (bx _) (bx _)
 ·match i with
  |0=>exact a
  |1=>exact b
  |i+2=>exact c
 ·match i with
  |0=>exact bx _
  |1=>exact bx _
  |i+2=>exact bx _
theorem sW{d:A F} :jR d (0:Int) r6:=⟨⟨dp _,by omega⟩,anN⟩
theorem uZ{d:A F}{v:Int}{X:ak}(a:decide ((d.n:Int)>3000)=false)(b:j4 d=true)(h:jR d v X)(c:decide (v<(d.n:Int))=true):jR d (i64.wrap (v+1)) (Iv d v X):=ahs (vw a b).1 (vw a b).2 h (aq c)
theorem uY{d:A F}{v:Int}{X:ak}(a:decide ((d.n:Int)>3000)=false)(b:j4 d=true)(h:jR d v X)(c:decide (v<(d.n:Int))=true):eM X (d.at' (toNat v)):=aBn (vw a b).1 (vw a b).2 h (aq c)
theorem aht{d:A F}(c:d.n≤3000)(b: ∀q,q<d.n→e6 (d.at' q)): ∀(m a:Nat) (v:Int) (X:ak),v+(m:Int)=(d.n:Int)→m≤a→jR d v X→jR d (d.n:Int) (bc (qd d (a+1) v X))
 |0,a,v,X,i,g,h=>by
  have f:=hP h;rw[qd,bI (show¬v<(d.n:Int) by omega),aQ,G2,show(d.n:Int)=v by omega];exact h
 |m+1,a,v,X,i,g,h=>by
  obtain⟨a,rfl⟩: ∃q,a=q+1:=⟨a-1,by omega⟩;have f:=hP h;have e:=ahs c b h (by omega);rw[qd,bT (show v<(d.n:Int) by omega),aN];rw[N _]at e ⊢;exact aht c b m a (v+1) _ (by omega) (by omega) e
theorem XL{d:A F}(a:decide ((d.n:Int)>3000)=false)(b:j4 d=true):fs d.n (bc (bD d)):=by
 have h:=(aht (vw a b).1 (vw a b).2 d.n (toNat ((d.n:Int)- (0:Int))) 0 r6 (by omega) (by omega) sW).2;rw[show toNat (d.n:Int)=d.n by omega]at h;exact h
theorem hQ{d:A F}(a:decide ((d.n:Int)>3000)=false)(b:j4 d=true):(bc (bD d)).told.n≤540003000000∧(bc (bD d)).a2.n≤900000∧(bc (bD d)).s.n≤300:=by
 have h:=XL a b;have e:=(vw a b).1;have f:=h.q4;have c:=h.gP;exact⟨by omega,by omega,h.jU⟩
def akZ:a6:=⟨[.v (.af gI)],fun d=>⟨⟨none,.c9 [.agg [aH 11 tv (qc d),aH 12 vI (tL d),aH 2 vJ (zV d),b (tM d)],b (tN d)]⟩⟩⟩
def T3(d:A F):Prop:=((decide ((d.n:Int)>3000))=false→((((0≤(0:Int)∧(0:Int)≤(d.n:Int)))∧(∀(ar:Int),(0≤ar∧ar≤(d.n:Int))→(((decide (ar<(d.n:Int)))=true→((0:Int)≤ar∧ar<(d.n:Int)))∧((decide (ar<(d.n:Int)))=true→(((ld (d.at' (toNat ar)).j (d.at' (toNat ar)).ai (d.at' (toNat ar)).K (d.at' (toNat ar)).an (d.at' (toNat ar)).p (d.at' (toNat ar)).v (d.at' (toNat ar)).ax (d.at' (toNat ar)).aF (d.at' (toNat ar)).i (d.at' (toNat ar)).aP)!=0)=false→((0≤(i64.wrap (ar+1))∧(i64.wrap (ar+1))≤(d.n:Int))∧(toNat ((d.n:Int)- (i64.wrap (ar+1))))<(toNat ((d.n:Int)-ar))))))))∧((j4 d)=true→(((jR d (0:Int) r6)∧(vm (aB.int .i64::b8) fun(b:Int×hv)=>jR d b.1 (bc b.2)→(((decide (b.1<(d.n:Int)))=true→(((0:Int)≤b.1∧b.1<(d.n:Int))∧(eM (bc b.2) (d.at' (toNat b.1)))))∧((decide (b.1<(d.n:Int)))=true→(jR d (i64.wrap (b.1+1)) (Iv d b.1 (bc b.2))∧(toNat ((d.n:Int)- (i64.wrap (b.1+1))))<(toNat ((d.n:Int)-b.1)))))))∧(((((0≤(0:Int)∧(0:Int)≤(((bc (bD d)).told.n:Nat):Int))∧((0:Nat):Int)≤0+((0:Int)-0)))∧(∀(a:Int) (c:A a7),((0≤a∧a≤(((bc (bD d)).told.n:Nat):Int))∧(c.n:Int)≤0+(a-0))→(((decide (a<(((bc (bD d)).told.n:Nat):Int)))=true→((((0:Int)≤a∧a<(((bc (bD d)).told.n:Nat):Int))∧((toNat a)<(bc (bD d)).told.n))∧(c.n+1≤549755813888)))∧(((decide (a<(((bc (bD d)).told.n:Nat):Int)))=true→(((0≤(i64.wrap (a+1))∧(i64.wrap (a+1))≤(((bc (bD d)).told.n:Nat):Int))∧(((c.n+1):Nat):Int)≤0+((i64.wrap (a+1))-0))∧(toNat ((((bc (bD d)).told.n:Nat):Int)- (i64.wrap (a+1))))<(toNat ((((bc (bD d)).told.n:Nat):Int)-a))))∧((decide (a<(((bc (bD d)).told.n:Nat):Int)))=false→((c.n:Int)≤0+max ((((bc (bD d)).told.n:Nat):Int)-0) 0))))))∧(((((Dt d).n:Nat):Int)≤0+max ((((bc (bD d)).told.n:Nat):Int)-0) 0)→(((bc (bD d)).a2.n≤900000)∧((1≤549755813888)∧((1+1≤549755813888)∧((1+1)+1≤549755813888))))))))))
theorem ay6(d:A F)(t:d.n≤549755813888):T3 d:=by
 unfold T3;exact(fun l=>⟨⟨(by omega),(fun ar r=>⟨(fun e=>(by have:=aq e;omega)),(fun f=>(fun n=>(by have:=aq f;have:=N (ar+1);omega)))⟩)⟩,(fun o=>⟨⟨(by apply sW),((yU _ _).2 fun(j:Int×hv) s=>⟨(fun g=>⟨(by have:=aq g;(try have i:=hP (by assumption));omega),(by repeat first|assumption|apply uY)⟩),(fun h=>⟨(by repeat first|assumption|apply uZ),(by have:=aq h;(try have i:=hP (by assumption));have:=N (j.1+1);omega)⟩)⟩)⟩,⟨⟨(by omega),(fun k u q=>⟨(fun a=>⟨⟨(by have:=aq a;omega),(by have:=aq a;omega)⟩,(by(try have b:=hQ (by assumption) (by assumption));omega)⟩),⟨(fun c=>(by have:=aq c;(try have b:=hQ (by assumption) (by assumption));have:=N (k+1);omega)),(fun m=>(by omega))⟩⟩)⟩,(fun p=>⟨(by(try have b:=hQ (by assumption) (by assumption));omega),⟨(by omega),⟨(by omega),(by omega)⟩⟩⟩)⟩⟩)⟩)
def VV:cI:=⟨.pure,[.cell 2 27,.tmp 3],[(.c 0 0,.af rm),(.c 0 1,.af gr),(.c 0 2,.af ct),(.c 0 3,a),(.t 1,a)],⟨[.agg (us 4 []),U],[]⟩⟩
def arq:cm VV.b_:=let c:=bc (bD d);(.ad (.ad (.j ⟨13,[],[],[],.f⟩ (.ad (.cy ⟨14680077,[],[],[(.t 23,a)],some 0,true,13,[],[],fun k (s:Int)=>k9 d k s,.f,fun(s:Int)=>(0≤s∧s≤(d.n:Int)),fun(s:Int)=>(toNat ((d.n:Int)-s)),none⟩ .z)) (.ad (.s (.ad (.un 3 (.s (.ad (.s (.c true .z) .z)) (.s (.ad (.s (.c true .z) .z)) (.s (.ad (.s (.c true .z) .z)) (.ad (.s (.c false .z) .z))))))) (.j ⟨140,[],[],[],.f⟩ (.ad (.uQ ⟨126100789566374028,[],[(.h 1 29,cV),(.h 1 32,ca),(.h 1 62,cV),(.h 1 65,ca),(.h 1 95,cV),(.h 1 98,ca),(.h 1 99,ca),(.h 1 100,gr),(.h 1 101,ct)],(.t 56,a)::XM [2,3,4,5,6,7,8,9,10],some 4,false,140,[],XM [2,3,4,5,6,7,8,9,10],fun k (b:Int×hv)=>qd d k b.1 (bc b.2),.f,fun(b:Int×hv)=>jR d b.1 (bc b.2),fun(b:Int×hv)=>(toNat ((d.n:Int)-b.1)),none⟩ (fun(b:Int×hv)=>(.ad (.ad (.ad (.pX [] [.own (.h 1 29) cV 2,.own (.h 1 62) cV 4,.own (.h 1 95) cV 6,.own (.h 1 32) ca 3,.own (.h 1 65) ca 5,.own (.h 1 98) ca 7,.own (.h 1 99) ca 8]))))))) (.ad (.j ⟨2188,[],[],[],.f⟩ (.ad (.cy ⟨1057810092162800527870092,[],[(.h 11 1,gr)],[(.t 79,a),(.h 12 0,.ae gr)],some 6,false,2188,[],[(.h 12 0,.ae gr)],fun k (s:Int×A a7)=>wi d k s.1 s.2,.f,fun(s:Int×A a7)=>((0≤s.1∧s.1≤(c.told.n:Int))∧(s.2.n:Int)≤0+(s.1-0)),fun(s:Int×A a7)=>(toNat ((c.told.n:Int)-s.1)),some fun(r:A a7)=>(r.n:Int)≤0+max ((c.told.n:Int)-0) 0⟩ .z)) (.ad (.s (.ad (.un 3 (.s (.ad (.s (.c true .z) .z)) (.s (.ad (.s (.c true .z) .z)) (.s (.ad (.s (.c true .z) .z)) (.ad (.s (.c false .z) .z))))))) .z))))))))))
theorem av_:bg 23 akZ:=bj Tryz.func23
 fun d a _=>bf VV (arq d) (T3 d) (bK 0 (aw S_ (aw afc (aw xN (aw xP (aw S7 (aw ae2 aT)))))) (av ae0 (av aeZ bJ))) Tryz.func23 (ay6 d a)
end
section
def Ap(d:A z)(g:A z):Nat→Int→Bool×Bool
 |0,_=>default
 |k+1,ar=>(cond (decide (ar<(d.n:Int))) (cond (!(((d.at' (toNat ar)):z).toList==((g.at' (toNat ar)):z).toList)) (true,false) (Ap d g k (i64.wrap (ar+1)))) (false,default))
def Rm(d:A z)(g:A z):Bool×Bool:=Ap d g ((toNat ((d.n:Int)-0))+1) 0
def acP(d:A z)(g:A z):Bool:=(cond (Rm d g).1 false true)
def En(d:A z)(g:A z):Bool:=(cond ((d.n:Int)!=(g.n:Int)) false (cond (acP d g) true (Rm d g).2))
def alE:a6:=⟨[.v (.af bL),.v (.af bL)],fun d g=>⟨⟨none,.bool (En d g)⟩⟩⟩
theorem afb:bg 84 alE:=bj Tryz.func84
 fun d l _ g m _=>bf ⟨.pure,[.tmp 4],[(.t 0,y)],⟨[U],[]⟩⟩ (.ad (.ad (.j ⟨16,[],[],[],.f⟩ (.ad (.cy ⟨51,[],[],[(.t 5,a)],some 0,true,16,[],[],fun k (s:Int)=>Ap d g k s,.f,fun(s:Int)=>(0≤s∧s≤(d.n:Int)),fun(s:Int)=>(toNat ((d.n:Int)-s)),none⟩ .z)) .z))) (((d.n:Int)!=(g.n:Int))=false→(((0≤(0:Int)∧(0:Int)≤(d.n:Int)))∧(∀(ar:Int),let f:=decide (ar<(d.n:Int));let b:=i64.wrap (ar+1);(0≤ar∧ar≤(d.n:Int))→((f=true→(((0:Int)≤ar∧ar<(d.n:Int))∧((0:Int)≤ar∧ar<(g.n:Int))))∧(f=true→((!(((d.at' (toNat ar)):z).toList==((g.at' (toNat ar)):z).toList))=false→((0≤b∧b≤(d.n:Int))∧(toNat ((d.n:Int)-b))<(toNat ((d.n:Int)-ar))))))))) e7 Tryz.func84 ((fun c=>⟨(by omega),(fun ar j=>⟨(fun e=>⟨(by have:=aq e;omega),(by have:=bE c;have:=aq e;omega)⟩),(fun h=>(fun i=>(by have:=bE c;have:=aq h;first|omega|(have:=N (ar+1);omega))))⟩)⟩))
variable(d:Int)(g:A aj)(u:Int)(h:A aG)(r:Int)(o:A bO)(t:A aG)(bb:A bO)
def o7(g:z)(u:Int)(h:A br)(r:A z)(o:A bO)(q:Int)(t:z)(f:Int)(w:A br)(ao:A z)(bb:A bO):Bool:=(cond (d !=q) true (cond (!((g:z).toList==(t:z).toList)) true (cond (u !=f) true (cond ((h.n:Int)!=(w.n:Int)) true (cond ((o.n:Int)!=(bb.n:Int)) true (!(En r ao)))))))
def Ao(h:A br)(w:A br):Nat→Int→Bool×Bool
 |0,_=>default
 |k+1,a=>(cond (decide (a<(h.n:Int))) (cond (!((((h.at' (toNat a)).j:z).toList==((w.at' (toNat a)).j:z).toList)&&((((h.at' (toNat a)).ai:z).toList==((w.at' (toNat a)).ai:z).toList)&&true))) (true,false) (Ao h w k (i64.wrap (a+1)))) (false,default))
def Rk(h:A br)(w:A br):Bool×Bool:=Ao h w ((toNat ((h.n:Int)-0))+1) 0
def Rj(h:A br)(w:A br):Bool:=(cond (Rk h w).1 false true)
def An(o:A bO)(bb:A bO):Nat→Int→Bool×Bool
 |0,_=>default
 |k+1,a=>(cond (decide (a<(o.n:Int))) (cond (!((((o.at' (toNat a)).j:z).toList==((bb.at' (toNat a)).j:z).toList)&&(((o.at' (toNat a)).ai==(bb.at' (toNat a)).ai)&&true))) (true,false) (An o bb k (i64.wrap (a+1)))) (false,default))
def Rl:Bool×Bool:=An o bb ((toNat ((o.n:Int)-0))+1) 0
def acO:Bool:=(cond (Rl o bb).1 false true)
def JH(g:z)(u:Int)(h:A br)(r:A z)(o:A bO)(q:Int)(t:z)(f:Int)(w:A br)(ao:A z)(bb:A bO):Bool:=(cond (o7 d g u h r o q t f w ao bb) false (cond (Rj h w) (cond (acO o bb) true (Rl o bb).2) (Rk h w).2))
def alD:a6:=⟨[.g [a,au,a,.af cX,.af bL,.af cO],.g [a,au,a,.af cX,.af bL,.af cO]],fun d g u h r o q t f w ao bb=>⟨⟨none,.bool (JH d g u h r o q t f w ao bb)⟩⟩⟩
theorem awC:bg 83 alD:=bj Tryz.func83
 fun(d:Int) g H (u:Int) h K _ r L _ o M _ (q:Int) t O (f:Int) w P _ ao I _ bb J _=>bf ⟨.pure,[.tmp 4],[(.t 0,y)],⟨[U],[]⟩⟩ (.ad (.s (.j ⟨2251799813685276,[],[(.t 51,y)],[],.f⟩ .z .z) (.j ⟨28,[],[],[],.f⟩ (.ad (.cy ⟨60,[],[],[(.t 5,a)],some 0,true,28,[],[],fun k (s:Int)=>Ao h w k s,.f,fun(s:Int)=>(0≤s∧s≤(h.n:Int)),fun(s:Int)=>(toNat ((h.n:Int)-s)),none⟩ .z)) (.j ⟨16,[],[],[],.f⟩ (.ad (.cy ⟨92,[],[],[(.t 6,a)],some 2,true,16,[.b 0,.b 1],[],fun k (s:Int)=>An o bb k s,.f,fun(s:Int)=>(0≤s∧s≤(o.n:Int)),fun(s:Int)=>(toNat ((o.n:Int)-s)),none⟩ .z)) .z)))) ((o7 d g u h r o q t f w ao bb)=false→((((0≤(0:Int)∧(0:Int)≤(h.n:Int)))∧(∀(c:Int),let x:=decide (c<(h.n:Int));let j:=toNat c;let m:=i64.wrap (c+1);(0≤c∧c≤(h.n:Int))→((x=true→(((0:Int)≤c∧c<(h.n:Int))∧((0:Int)≤c∧c<(w.n:Int))))∧(x=true→((!((((h.at' j).j:z).toList==((w.at' j).j:z).toList)&&((((h.at' j).ai:z).toList==((w.at' j).ai:z).toList)&&true)))=false→((0≤m∧m≤(h.n:Int))∧(toNat ((h.n:Int)-m))<(toNat ((h.n:Int)-c))))))))∧((Rj h w)=true→(((0≤(0:Int)∧(0:Int)≤(o.n:Int)))∧(∀(b:Int),let v:=decide (b<(o.n:Int));let i:=toNat b;let l:=i64.wrap (b+1);(0≤b∧b≤(o.n:Int))→((v=true→(((0:Int)≤b∧b<(o.n:Int))∧((0:Int)≤b∧b<(bb.n:Int))))∧(v=true→((!((((o.at' i).j:z).toList==((bb.at' i).j:z).toList)&&(((o.at' i).ai==(bb.at' i).ai)&&true)))=false→((0≤l∧l≤(o.n:Int))∧(toNat ((o.n:Int)-l))<(toNat ((o.n:Int)-b))))))))))) (b4 (aw afb aT)) Tryz.func83 ((fun e=>⟨⟨(by have:=e;simp [o7]at this;omega),(fun c F=>⟨(fun n=>⟨(by have:=e;simp [o7]at this;have:=aq n;omega),(by have:=e;simp [o7]at this;have:=aq n;omega)⟩),(fun A=>(fun D=>(by have:=e;simp [o7]at this;have:=aq A;first|omega|(have:=N (c+1);omega))))⟩)⟩,(fun E=>⟨(by have:=e;simp [o7]at this;omega),(fun b G=>⟨(fun p=>⟨(by have:=e;simp [o7]at this;have:=aq p;omega),(by have:=e;simp [o7]at this;have:=aq p;omega)⟩),(fun B=>(fun C=>(by have:=e;simp [o7]at this;have:=aq B;first|omega|(have:=N (b+1);omega))))⟩)⟩)⟩))
def acN(g:z)(u:Int)(h:A z)(r:Int)(o:z)(q:Int)(t:A z):Bool:=(cond (d==r) (cond ((g:z).toList==(o:z).toList) (cond (u==q) (En h t) false) false) false)
def JF(g:z)(u:Int)(h:A z)(r:Int)(o:z)(q:Int)(t:A z):Bool:=(acN d g u h r o q t)
def alA:a6:=⟨[.g [a,au,a,.af bL],.g [a,au,a,.af bL]],fun d g u h r o q t=>⟨⟨none,.bool (JF d g u h r o q t)⟩⟩⟩
theorem awz:bg 53 alA:=bj Tryz.func53
 fun(d:Int) g _ (u:Int) h _ _ (r:Int) o _ (q:Int) t _ _=>bf ⟨.pure,[.tmp 4],[(.t 0,y)],⟨[U],[]⟩⟩ (.ad (.j ⟨16,[.b 0,.b 1],[(.t 4,y)],[],.f⟩ .z .z)) True (b4 (aw afb aT)) Tryz.func53 (trivial)
def w4(h:A aj):Bool:=(cond (d !=u) true ((g.n:Int)!=(h.n:Int)))
def Em(h:A aj)(a:Int):Bool:=(cond (!(((g.at' (toNat a)).j:z).toList==((h.at' (toNat a)).j:z).toList)) true (cond ((g.at' (toNat a)).aF !=(h.at' (toNat a)).aF) true (!(JH (g.at' (toNat a)).ai (g.at' (toNat a)).K (g.at' (toNat a)).an (g.at' (toNat a)).p (g.at' (toNat a)).v (g.at' (toNat a)).ax (h.at' (toNat a)).ai (h.at' (toNat a)).K (h.at' (toNat a)).an (h.at' (toNat a)).p (h.at' (toNat a)).v (h.at' (toNat a)).ax))))
def Am(g:A aj)(h:A aj):Nat→Int→Bool×Bool
 |0,_=>default
 |k+1,a=>(cond (decide (a<(g.n:Int))) (cond (Em g h a) (true,false) (Am g h k (i64.wrap (a+1)))) (false,default))
def Ri(h:A aj):Bool×Bool:=Am g h ((toNat ((g.n:Int)-0))+1) 0
def acM(h:A aj):Bool:=(cond (Ri g h).1 false true)
def JE(h:A aj):Bool:=(cond (w4 d g u h) false (cond (acM g h) true (Ri g h).2))
def alz:a6:=⟨[.g [a,.af a_],.g [a,.af a_]],fun d g u h=>⟨⟨none,.bool (JE d g u h)⟩⟩⟩
theorem awy:bg 52 alz:=bj Tryz.func52
 fun(d:Int) g n _ (u:Int) h o _=>bf ⟨.pure,[.tmp 4],[(.t 0,y)],⟨[U],[]⟩⟩ (.ad (.s (.j ⟨2097180,[],[(.t 21,y)],[],.f⟩ .z .z) (.j ⟨16,[],[],[],.f⟩ (.ad (.cy ⟨60,[],[],[(.t 5,a)],some 0,true,16,[.b 0,.b 1],[],fun k (s:Int)=>Am g h k s,.f,fun(s:Int)=>(0≤s∧s≤(g.n:Int)),fun(s:Int)=>(toNat ((g.n:Int)-s)),none⟩ (.ad (.s (.ad (.ad (.j ⟨291643259837481212,[],[(.t 44,y),(.t 50,y),(.t 51,y),(.t 58,y)],[(.b .f .l),(.b .f .l),.f,.f],.f⟩ .z .z))) .z)))) .z))) ((w4 d g u h)=false→(((0≤(0:Int)∧(0:Int)≤(g.n:Int)))∧(∀(b:Int),let i:=decide (b<(g.n:Int));let e:=i64.wrap (b+1);(0≤b∧b≤(g.n:Int))→((i=true→(((0:Int)≤b∧b<(g.n:Int))∧((0:Int)≤b∧b<(h.n:Int))))∧(i=true→((Em g h b)=false→((0≤e∧e≤(g.n:Int))∧(toNat ((g.n:Int)-e))<(toNat ((g.n:Int)-b))))))))) (b4 (aw awC aT)) Tryz.func52 ((fun c=>⟨(by have:=c;simp [w4]at this;omega),(fun b m=>⟨(fun f=>⟨(by have:=c;simp [w4]at this;have:=aq f;omega),(by have:=c;simp [w4]at this;have:=aq f;omega)⟩),(fun j=>(fun l=>(by have:=c;simp [w4]at this;have:=aq j;have:=l;simp [Em]at this;first|omega|(have:=N (b+1);omega))))⟩)⟩))
def w2(o:A aj)(q:Int)(t:A aG):Bool:=(cond (u !=q) true (cond (!(JE d g r o)) true ((h.n:Int)!=(t.n:Int))))
def El(bN:Int):Bool:=(cond ((h.at' (toNat bN)).j !=(t.at' (toNat bN)).j) true (cond ((h.at' (toNat bN)).ai !=(t.at' (toNat bN)).ai) true (cond ((h.at' (toNat bN)).K !=(t.at' (toNat bN)).K) true (!(JF (h.at' (toNat bN)).an (h.at' (toNat bN)).p (h.at' (toNat bN)).v (h.at' (toNat bN)).ax (t.at' (toNat bN)).an (t.at' (toNat bN)).p (t.at' (toNat bN)).v (t.at' (toNat bN)).ax)))))
def Ai(h:A aG)(t:A aG):Nat→Int→Bool×Bool
 |0,_=>default
 |k+1,bN=>(cond (decide (bN<(h.n:Int))) (cond (El h t bN) (true,false) (Ai h t k (i64.wrap (bN+1)))) (false,default))
def Rh:Bool×Bool:=Ai h t ((toNat ((h.n:Int)-0))+1) 0
def acH:Bool:=(cond (Rh h t).1 false true)
def Jy(o:A aj)(q:Int)(t:A aG):Bool:=(cond (w2 d g u h r o q t) false (cond (acH h t) true (Rh h t).2))
def alx:a6:=⟨[.g [a,.af a_,a,.af bP],.g [a,.af a_,a,.af bP]],fun d g u h r o q t=>⟨⟨none,.bool (Jy d g u h r o q t)⟩⟩⟩
theorem aww:bg 39 alx:=bj Tryz.func39
 fun(d:Int) g m _ (u:Int) h n _ (r:Int) o p _ (q:Int) t v _=>bf ⟨.pure,[.tmp 4],[(.t 0,y)],⟨[U],[]⟩⟩ (.ad (.s (.j ⟨536870940,[],[(.t 29,y)],[],.f⟩ .z .z) (.j ⟨16,[],[],[],.f⟩ (.ad (.cy ⟨60,[],[],[(.t 5,a)],some 0,true,16,[.b 0,.b 1],[],fun k (s:Int)=>Ai h t k s,.f,fun(s:Int)=>(0≤s∧s≤(h.n:Int)),fun(s:Int)=>(toNat ((h.n:Int)-s)),none⟩ (.ad (.s (.ad (.ad (.j ⟨9556287128405104656636,[],[(.t 52,y),(.t 58,y),(.t 59,y),(.t 65,y),(.t 66,y),(.t 73,y)],[(.b .f .l),(.b .f .l),(.b .f (.b .f .l)),(.b .f (.b .f .l)),.f,.f],.f⟩ .z .z))) .z)))) .z))) ((w2 d g u h r o q t)=false→(((0≤(0:Int)∧(0:Int)≤(h.n:Int)))∧(∀(bN:Int),let f:=decide (bN<(h.n:Int));let c:=i64.wrap (bN+1);(0≤bN∧bN≤(h.n:Int))→((f=true→(((0:Int)≤bN∧bN<(h.n:Int))∧((0:Int)≤bN∧bN<(t.n:Int))))∧(f=true→((El h t bN)=false→((0≤c∧c≤(h.n:Int))∧(toNat ((h.n:Int)-c))<(toNat ((h.n:Int)-bN))))))))) (b4 (aw awy (aw awz aT))) Tryz.func39 ((fun b=>⟨(by have:=b;simp [w2]at this;omega),(fun bN l=>⟨(fun e=>⟨(by have:=b;simp [w2]at this;have:=aq e;omega),(by have:=b;simp [w2]at this;have:=aq e;omega)⟩),(fun i=>(fun j=>(by have:=b;simp [w2]at this;have:=aq i;have:=j;simp [El]at this;first|omega|(have:=N (bN+1);omega))))⟩)⟩))
def Rg(o:A aj)(q:Int)(t:A aG):Bool:=(Jy d g u h r o q t)
def alv:a6:=⟨[.g [a,.af a_,a,.af bP],.g [a,.af a_,a,.af bP]],fun d g u h r o q t=>⟨⟨none,.bool (Rg d g u h r o q t)⟩⟩⟩
theorem awu:bg 27 alv:=bj Tryz.func27
 fun(d:Int) g _ _ (u:Int) h _ _ (r:Int) o _ _ (q:Int) t _ _=>bf ⟨.pure,[.tmp 4],[(.t 0,y)],⟨[U],[]⟩⟩ (.z) True (b4 (aw aww aT)) Tryz.func27 (trivial)
def w0(g:Int)(u:A aI)(h:Int)(r:Int)(o:A aI):Bool:=(cond (d !=h) true (cond (g !=r) true ((u.n:Int)!=(o.n:Int))))
def Ag(u:A aI)(o:A aI):Nat→Int→Bool×Bool
 |0,_=>default
 |k+1,bN=>(cond (decide (bN<(u.n:Int))) (cond (!(((u.at' (toNat bN)).j==(o.at' (toNat bN)).j)&&(((u.at' (toNat bN)).ai==(o.at' (toNat bN)).ai)&&(((u.at' (toNat bN)).K==(o.at' (toNat bN)).K)&&(((u.at' (toNat bN)).an==(o.at' (toNat bN)).an)&&(((u.at' (toNat bN)).p==(o.at' (toNat bN)).p)&&(((u.at' (toNat bN)).v==(o.at' (toNat bN)).v)&&((((u.at' (toNat bN)).ax:z).toList==((o.at' (toNat bN)).ax:z).toList)&&((((u.at' (toNat bN)).aF:z).toList==((o.at' (toNat bN)).aF:z).toList)&&((((u.at' (toNat bN)).i:z).toList==((o.at' (toNat bN)).i:z).toList)&&(((u.at' (toNat bN)).aP==(o.at' (toNat bN)).aP)&&true))))))))))) (true,false) (Ag u o k (i64.wrap (bN+1)))) (false,default))
def Rd(u:A aI)(o:A aI):Bool×Bool:=Ag u o ((toNat ((u.n:Int)-0))+1) 0
def acE(u:A aI)(o:A aI):Bool:=(cond (Rd u o).1 false true)
def Jf(g:Int)(u:A aI)(h:Int)(r:Int)(o:A aI):Bool:=(cond (w0 d g u h r o) false (cond (acE u o) true (Rd u o).2))
def alo:a6:=⟨[.g [a,a,.af c6],.g [a,a,.af c6]],fun d g u h r o=>⟨⟨none,.bool (Jf d g u h r o)⟩⟩⟩
theorem awq:bg 20 alo:=bj Tryz.func20
 fun(d:Int) (g:Int) u q _ (h:Int) (r:Int) o t _=>bf ⟨.pure,[.tmp 4],[(.t 0,y)],⟨[U],[]⟩⟩ (.ad (.s (.j ⟨67108892,[],[(.t 26,y)],[],.f⟩ .z .z) (.j ⟨16,[],[],[],.f⟩ (.ad (.cy ⟨60,[],[],[(.t 5,a)],some 0,true,16,[.b 0,.b 1],[],fun k (s:Int)=>Ag u o k s,.f,fun(s:Int)=>(0≤s∧s≤(u.n:Int)),fun(s:Int)=>(toNat ((u.n:Int)-s)),none⟩ .z)) .z))) ((w0 d g u h r o)=false→(((0≤(0:Int)∧(0:Int)≤(u.n:Int)))∧(∀(bN:Int),let l:=decide (bN<(u.n:Int));let f:=i64.wrap (bN+1);let j:=toNat bN;let c:=o.at' j;let b:=u.at' j;(0≤bN∧bN≤(u.n:Int))→((l=true→(((0:Int)≤bN∧bN<(u.n:Int))∧((0:Int)≤bN∧bN<(o.n:Int))))∧(l=true→((!((b.j==c.j)&&((b.ai==c.ai)&&((b.K==c.K)&&((b.an==c.an)&&((b.p==c.p)&&((b.v==c.v)&&(((b.ax:z).toList==(c.ax:z).toList)&&(((b.aF:z).toList==(c.aF:z).toList)&&(((b.i:z).toList==(c.i:z).toList)&&((b.aP==c.aP)&&true)))))))))))=false→((0≤f∧f≤(u.n:Int))∧(toNat ((u.n:Int)-f))<(toNat ((u.n:Int)-bN))))))))) e7 Tryz.func20 ((fun e=>⟨(by have:=e;simp [w0]at this;omega),(fun bN p=>⟨(fun i=>⟨(by have:=e;simp [w0]at this;have:=aq i;omega),(by have:=e;simp [w0]at this;have:=aq i;omega)⟩),(fun m=>(fun n=>(by have:=e;simp [w0]at this;have:=aq m;first|omega|(have:=N (bN+1);omega))))⟩)⟩))
def acG(d:Bool)(g:Int)(u:Bool)(h:Int)(r:Int)(o:Int)(q:A aI)(t:Int)(f:A aj)(w:Int)(ao:A aG)(bb:Bool)(bR:Int)(b0:Bool)(cl:Int)(df:Int)(c_:Int)(c0:A aI)(da:Int)(c1:A aj)(fR:Int)(fS:A aG):Bool:=(cond (d==bb) (cond (g==bR) (cond (u==b0) (cond (h==cl) (cond (Jf r o q df c_ c0) (Rg t f w ao da c1 fR fS) false) false) false) false) false)
def w1(d:Bool)(g:Int)(u:Bool)(h:Int)(r:Int)(o:Int)(q:A aI)(t:Int)(f:A aj)(w:Int)(ao:A aG)(bb:Bool)(bR:Int)(b0:Bool)(cl:Int)(df:Int)(c_:Int)(c0:A aI)(da:Int)(c1:A aj)(fR:Int)(fS:A aG):Bool:=(acG d g u h r o q t f w ao bb bR b0 cl df c_ c0 da c1 fR fS)
def VO:a6:=⟨[.g [y,a,y,a,a,a,.af c6,a,.af a_,a,.af bP],.g [y,a,y,a,a,a,.af c6,a,.af a_,a,.af bP]],fun d g u h r o q t f w ao bb bR b0 cl df c_ c0 da c1 fR fS=>⟨⟨none,.bool (w1 d g u h r o q t f w ao bb bR b0 cl df c_ c0 da c1 fR fS)⟩⟩⟩
theorem agK:oF 22 VO:=
 fun d (g:Int) u (h:Int) (r:Int) (o:Int) q _ _ (t:Int) f _ _ (w:Int) ao _ _ bb (bR:Int) b0 (cl:Int) (df:Int) (c_:Int) c0 _ _ (da:Int) c1 _ _ (fR:Int) fS _ _=>bf ⟨.pure,[.tmp 4],[(.t 0,y)],⟨[U],[]⟩⟩ (.ad (.j ⟨16,[.b 0,.b 1],[(.t 4,y)],[],.f⟩ .z .z)) True (b4 (aw awq (aw awu aT))) Tryz.func22 (trivial)
theorem awr:bg 22 VO:=bj Tryz.func22 agK
def Ah(d:A dg)(r:A dg):Nat→Int→Bool×Bool
 |0,_=>default
 |k+1,e=>(cond (decide (e<3)) (cond (!(w1 (d.at' (toNat e)).j (d.at' (toNat e)).ai (d.at' (toNat e)).K (d.at' (toNat e)).an (d.at' (toNat e)).p (d.at' (toNat e)).v (d.at' (toNat e)).ax (d.at' (toNat e)).aF (d.at' (toNat e)).i (d.at' (toNat e)).aP (d.at' (toNat e)).cG (r.at' (toNat e)).j (r.at' (toNat e)).ai (r.at' (toNat e)).K (r.at' (toNat e)).an (r.at' (toNat e)).p (r.at' (toNat e)).v (r.at' (toNat e)).ax (r.at' (toNat e)).aF (r.at' (toNat e)).i (r.at' (toNat e)).aP (r.at' (toNat e)).cG)) (true,false) (Ah d r k (i64.wrap (e+1)))) (false,default))
def Re(d:A dg)(r:A dg):Bool×Bool:=Ah d r ((toNat (3-0))+1) 0
def acF(d:A dg)(r:A dg):Bool:=(cond (Re d r).1 false true)
def Jg(d:A dg)(r:A dg):Bool:=(cond (acF d r) true (Re d r).2)
def alp:a6:=⟨[.g [.af rm,.af gr,.af ct,a],.g [.af rm,.af gr,.af ct,a]],fun d _ _ _ r _ _ _=>⟨⟨some (3≤(d.n:Int)∧3≤(r.n:Int)),.bool (Jg d r)⟩⟩⟩
theorem aAo:oF 21 alp:=
 fun d x _ g z _ u A _ (h:Int) r B _ o C _ q D _ (t:Int) m=>bf ⟨.pure,[.tmp 4],[(.t 0,y)],⟨[U],[]⟩⟩ (.ad (.j ⟨16,[],[],[],.f⟩ (.ad (.cy ⟨60,[],[],[(.t 5,a)],some 0,true,16,[.b 0,.b 1],[],fun k (s:Int)=>Ah d r k s,.f,fun(s:Int)=>(0≤s∧s≤3),fun(s:Int)=>(toNat (3-s)),none⟩ .z)) .z)) (((0≤(0:Int)∧(0:Int)≤3))∧(∀(e:Int),let f:=i64.wrap (e+1);let j:=toNat e;let c:=r.at' j;let b:=d.at' j;(0≤e∧e≤3)→(((decide (e<3))=true→(((0:Int)≤e∧e<(d.n:Int))∧((0:Int)≤e∧e<(r.n:Int))))∧((decide (e<3))=true→((!(w1 b.j b.ai b.K b.an b.p b.v b.ax b.aF b.i b.aP b.cG c.j c.ai c.K c.an c.p c.v c.ax c.aF c.i c.aP c.cG))=false→((0≤f∧f≤3)∧(toNat (3-f))<(toNat (3-e)))))))) (b4 (aw awr aT)) Tryz.func21 (have⟨v,w⟩:=m;⟨(by omega),(fun e p=>⟨(fun i=>⟨(by have:=aq i;omega),(by have:=aq i;omega)⟩),(fun l=>(fun n=>(by have:=aq l;first|omega|(have:=N (e+1);omega))))⟩)⟩)
end
theorem XB{β:Type}(F:Nat→Int→Bool×β)(n:Nat)(g:n≤549755813888)(d: ∀k (i:Int),0≤i→i<(n:Int)→F (k+1) i=F k (i64.wrap (i+1)))(c: ∀k,(F (k+1) (n:Int)).1=false): ∀(m a:Nat) (i:Int),0≤i→i+(m:Int)=(n:Int)→m≤a→(F (a+1) i).1=false
 |0,a,i,b,f,e=>by
  rw[show i=(n:Int) by omega];exact c a
 |m+1,a,i,b,f,e=>by
  obtain⟨a,rfl⟩: ∃q,a=q+1:=⟨a-1,by omega⟩;rw[d _ _ b (by omega),N _];exact XB F n g d c m a (i+1) (by omega) (by omega) (by omega)
theorem vx{β:Type}(F:Nat→Int→Bool×β)(n:Nat)(c:n≤549755813888)(b: ∀k (i:Int),0≤i→i<(n:Int)→F (k+1) i=F k (i64.wrap (i+1)))(a: ∀k,(F (k+1) (n:Int)).1=false):(F ((toNat ((n:Int)-0))+1) 0).1=false:=
 XB F n c b a n _ 0 (dp _) (by omega) (by omega)
theorem ayW(x:Int):(x !=x)=false:=by simp
theorem ag9(a:A z)(c:a.n≤549755813888):En a a=true:=by
 have h:=vx (Ap a a) a.n c (fun k i d b=>by rw[Ap,bT b];simp) (fun k=>by rw[Ap,bI (yD _)];rfl);have h:(Rm a a).1=false:=h;unfold En acP;rw[ayW,h];rfl
theorem aA0(d:Int)(g:z)(u:Int)(a:A br)(b:A z)(c:A bO)(l:a.n≤549755813888)(m:b.n≤549755813888)(n:c.n≤549755813888):JH d g u a b c d g u a b c=true:=by
 have e:=vx (Ao a a) a.n l (fun k i h e=>by rw[Ao,bT e];simp) (fun k=>by rw[Ao,bI (yD _)];rfl);have f:=vx (An c c) c.n n (fun k i h e=>by rw[An,bT e];simp) (fun k=>by rw[An,bI (yD _)];rfl);have e:(Rk a a).1=false:=e;have f:(Rl c c).1=false:=f;have j:=ag9 b m;unfold JH Rj acO o7;rw[e,f];simp [j]
theorem aAZ(d:Int)(g:z)(u:Int)(b:A z)(a:b.n≤549755813888):JF d g u b d g u b=true:=by
 unfold JF acN;simp [ag9 b a]
theorem aAY(d:Int)(a:A aj)(h:lB a):JE d a d a=true:=by
 have b:=vx (Am a a) a.n h.1 (fun k i c b=>by
  have q:=h.2 (toNat i) (by omega);have e:Em a a i=false:=by
   unfold Em;rw[aA0 _ _ _ _ _ _ q.1 q.2.1 q.2.2];simp
  rw[Am,bT b,e];rfl) (fun k=>by rw[Am,bI (yD _)];rfl)
 have b:(Ri a a).1=false:=b;unfold JE acM w4;rw[b];simp
theorem aAX(d:Int)(a:A aj)(u:Int)(b:A aG)(h:lB a)(k:te b):Jy d a u b d a u b=true:=by
 have c:=vx (Ai b b) b.n k.1 (fun m i f c=>by
  have q:=k.2 (toNat i) (by omega);have e:El b b i=false:=by
   unfold El;rw[aAZ _ _ _ _ q];simp
  rw[Ai,bT c,e];rfl) (fun k=>by rw[Ai,bI (yD _)];rfl)
 have c:(Rh b b).1=false:=c;unfold Jy acH w2;rw[c,aAY _ _ h];simp
theorem aAV(d g:Int)(a:A aI)(c:a.n≤549755813888):Jf d g a d g a=true:=by
 have h:=vx (Ag a a) a.n c (fun k i e b=>by rw[Ag,bT b];simp) (fun k=>by rw[Ag,bI (yD _)];rfl);have h:(Rd a a).1=false:=h;unfold Jf acE w0;rw[h];simp
theorem ag8(d:Bool)(g:Int)(u:Bool)(h r o:Int)(q:A aI)(t:Int)(f:A aj)(w:Int)(ao:A aG)(b:q.n≤549755813888)(c:lB f)(a:te ao):w1 d g u h r o q t f w ao d g u h r o q t f w ao=true:=by
 unfold w1 acG Rg;simp [aAV r o q b,aAX t f w ao c a]
def Wq(v:dg):Prop:=v.ax.n≤549755813888∧lB v.i∧te v.cG
theorem aAW(a:A dg)(c: ∀i,i<3→Wq (a.at' i)):Jg a a=true:=by
 have b:=vx (Ah a a) 3 (by decide) (fun k i d b=>by
  have q:=c (toNat i) (by omega);rw[Ah,bT (show i<3 from b),ag8 _ _ _ _ _ _ _ _ _ _ _ q.1 q.2.1 q.2.2];rfl) (fun k=>by rw[Ah];rfl)
 have b:(Re a a).1=false:=b;unfold Jg acF;rw[b];rfl
theorem ao5{a:A dg}(h:ft (aH 11 tv a)){i:Nat}(b:i<a.n):Wq (a.at' i):=
 ⟨(h.at (j:=6) (x:=aH 10 dU (a.at' i).ax) b (by omega) rfl).len,vR (h.at (j:=8) (x:=aH 8 fZ (a.at' i).i) b (by omega) rfl),zo (h.at (j:=10) (x:=aH 7 gK (a.at' i).cG) b (by omega) rfl)⟩
def kl(a b:A dg):Prop:=a=b∧3≤a.n
def alq:a6:=⟨[.g [.af rm,.af gr,.af ct,a],.g [.af rm,.af gr,.af ct,a]],fun d _ _ _ r _ _ _=>⟨⟨some (kl d r),.bool true⟩⟩⟩
theorem AT:bg 21 alq:=bj Tryz.func21
 fun d n a g p c u s f h r v j o w k q x l t m=>by
  obtain⟨e,y⟩:=m;subst e;have b:cY Tryz.prog 21 _ (J.bool (Jg d d)):=aAo d n a g p c u s f h d v j o w k q x l t ⟨by omega,by omega⟩;rw[aAW d fun i z=>ao5 a (by omega)]at b;exact b
def alr:a6:=⟨[.g [y,a,y,a,a,a,.af c6,a,.af a_,a,.af bP],.g [y,a,y,a,a,a,.af c6,a,.af a_,a,.af bP]],fun d (g:Int) u (h:Int) (r:Int) (o:Int) q (t:Int) f (w:Int) ao b (c:Int) i (j:Int) (k:Int) (l:Int) m (n:Int) p (s:Int) e=>⟨⟨some ((⟨d,g,u,h,r,o,q,t,f,w,ao⟩:dg)=⟨b,c,i,j,k,l,m,n,p,s,e⟩),.bool true⟩⟩⟩
theorem aws:bg 22 alr:=bj Tryz.func22
 fun d g u h r o q A K t f S y w ao R x a b i j k l m P M n p Q N s c O L v=>by
  have z:cY Tryz.prog 22 _ (J.bool (w1 d g u h r o q t f w ao a b i j k l m n p s c)):=agK d g u h r o q A K t f S y w ao R x a b i j k l m P M n p Q N s c O L;have e:w1 d g u h r o q t f w ao a b i j k l m n p s c=true:=by
   have v:(⟨d,g,u,h,r,o,q,t,f,w,ao⟩:dg)=⟨a,b,i,j,k,l,m,n,p,s,c⟩:=v;injection v with B C E bl F cQ G H I cK D
   rw[←B,←C,←E,←bl,←F,←cQ,←G,←H,←I,←cK,←D];exact ag8 _ _ _ _ _ _ _ _ _ _ _ A (vR y) (zo x)
  rw[e]at z;exact z
end Go.Proofs.YtfmgjpcmcjjoiaaGreatDoor
