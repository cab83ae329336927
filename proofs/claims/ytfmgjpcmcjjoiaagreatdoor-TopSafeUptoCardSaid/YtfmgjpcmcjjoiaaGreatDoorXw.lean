import Derived.Test.YtfmgjpcmcjjoiaaGreatDoorXu
import Derived.Test.YtfmgjpcmcjjoiaaGreatDoorXv
open Go.IntKind (i64 u64 u8)
open Int (toNat)
set_option maxRecDepth 100000
set_option maxHeartbeats 4000000
set_option linter.all false
noncomputable section
namespace Go.Proofs.YtfmgjpcmcjjoiaaGreatDoor
open Go Go.RowKit Go.af
def F3(i j:Nat)(C:ak)(ms:ah):ak:=(C.put i (qe i j ms (C.d i) C.ag C.told C.a8) (Ag i j ms (C.d i) C.ag C.told C.a8) (Ai i j ms (C.d i) C.ag C.told C.a8) (Ah i j ms (C.d i) C.ag C.told C.a8))
def kc(C:ak)(ms:ah):ak:=F3 (toNat ms.C) (toNat ms.q) C ms
def NO:c8:=⟨[.p 0,.g [a,a,a,a,a,a,l,a,.ab dh,a,a,a,.ab bd,a,.ab bT]],b4,eH,eu,fun(b:Int) (c:Int) (i:Int) (j:Int) (k:Int) (m:Int) n (o:Int) p (q:Int) (d:Int) (e:Int) f (g:Int) h=>cA fun C=>⟨⟨some (tI C (⟨b,c,i,j,k,m,n,o,p,q,d,e,f,g,h⟩:ah)),[],ca [10,2,11,4,12,6,7,8,9] 3 (kc C (⟨b,c,i,j,k,m,n,o,p,q,d,e,f,g,h⟩:ah))⟩⟩⟩
theorem av3(ms:ah)(q:ms.i.n≤549755813888)(o:ms.bN.n≤549755813888)(p:ms.aY.n≤549755813888):eP Tryz.prog 44 NO b4 [] (cA fun C=>⟨⟨some (tI C ms),[],ca [10,2,11,4,12,6,7,8,9] 3 (kc C ms)⟩⟩) (ig ms):=by
 refine fW fun C n x=> ?_;obtain⟨a0,s,f,g,h,i,j,k,l,m,a,b,c,d,e⟩:=ms;obtain⟨y,q1,z,A,r⟩:=x;have t:a0=0∨a0=1∨a0=2:=by
  have v:0≤a0:=y;have w:a0<3:=q1;omega
 have u:s=0∨s=1∨s=2:=by
  have v:0≤s:=z;have w:s<3:=A;omega
 rcases t with rfl|rfl|rfl<;>rcases u with rfl|rfl|rfl
 ·exact Eq.mp (by kernel_rfl) (s4 0 (by omega) 0 (by omega) ⟨0,0,f,g,h,i,j,k,l,m,a,b,c,d,e⟩ q o p C n r)
 ·exact Eq.mp (by kernel_rfl) (s4 1 (by omega) 0 (by omega) ⟨0,1,f,g,h,i,j,k,l,m,a,b,c,d,e⟩ q o p C n r)
 ·exact Eq.mp (by kernel_rfl) (s4 2 (by omega) 0 (by omega) ⟨0,2,f,g,h,i,j,k,l,m,a,b,c,d,e⟩ q o p C n r)
 ·exact Eq.mp (by kernel_rfl) (s4 0 (by omega) 1 (by omega) ⟨1,0,f,g,h,i,j,k,l,m,a,b,c,d,e⟩ q o p C n r)
 ·exact Eq.mp (by kernel_rfl) (s4 1 (by omega) 1 (by omega) ⟨1,1,f,g,h,i,j,k,l,m,a,b,c,d,e⟩ q o p C n r)
 ·exact Eq.mp (by kernel_rfl) (s4 2 (by omega) 1 (by omega) ⟨1,2,f,g,h,i,j,k,l,m,a,b,c,d,e⟩ q o p C n r)
 ·exact Eq.mp (by kernel_rfl) (s4 0 (by omega) 2 (by omega) ⟨2,0,f,g,h,i,j,k,l,m,a,b,c,d,e⟩ q o p C n r)
 ·exact Eq.mp (by kernel_rfl) (s4 1 (by omega) 2 (by omega) ⟨2,1,f,g,h,i,j,k,l,m,a,b,c,d,e⟩ q o p C n r)
 ·exact Eq.mp (by kernel_rfl) (s4 2 (by omega) 2 (by omega) ⟨2,2,f,g,h,i,j,k,l,m,a,b,c,d,e⟩ q o p C n r)
theorem ay8:fO 44 NO:=
 jq (bm:=[a,a,a,a,a,a,l,a,.ab dh,a,a,a,.ab bd,a,.ab bT]) fun s b=>Eq.mp (by kernel_rfl) (av3 ⟨s.1,s.2.1,s.2.2.1,s.2.2.2.1,s.2.2.2.2.1,s.2.2.2.2.2.1,s.2.2.2.2.2.2.1,s.2.2.2.2.2.2.2.1,s.2.2.2.2.2.2.2.2.1,s.2.2.2.2.2.2.2.2.2.1,s.2.2.2.2.2.2.2.2.2.2.1,s.2.2.2.2.2.2.2.2.2.2.2.1,s.2.2.2.2.2.2.2.2.2.2.2.2.1,s.2.2.2.2.2.2.2.2.2.2.2.2.2.1,s.2.2.2.2.2.2.2.2.2.2.2.2.2.2.1⟩ (b.2.2.2.2.2.2.2.2.1 rfl) (b.2.2.2.2.2.2.2.2.2.2.2.2.1 rfl) (b.2.2.2.2.2.2.2.2.2.2.2.2.2.2.1 rfl))
theorem aew:fP 44 NO:=gj fV Tryz.func44 ay8
structure Nw (n:H) (F avQ:G ah) (O avV:G bF) (ar avU:G aM):Prop where
 j:bQ n
 a:avQ=F
 t:(avV.n:Int)≤(O.n:Int)+600000
 l:avU.n≤ar.n+1
theorem lV{n:H}{F:G ah}{O:G bF}{ar:G aM}(h:bQ n):Nw n F F O O ar ar:=⟨h,rfl,by omega,by omega⟩
theorem Y3{n:H}{F a:G ah}{O c:G bF}{ar b:G aM}(h:bQ n∧a=F∧(c.n:Int)≤(O.n:Int)+600000∧b=ar):Nw n F a O c ar b:=⟨h.1,h.2.1,h.2.2.1,by rw[h.2.2.2];omega⟩
theorem atn{i j:Nat}{ms:ah}{d:H}{F:G ah}{O:G bF}{ar:G aM}(h:bQ d)(k:gQ ms)(q:i<3)(p:j<3):
  Nw (qe i j ms d F O ar) F (Ag i j ms d F O ar) O (Ai i j ms d F O ar) ar (Ah i j ms d F O ar):=by
 have f:gQ ⟨(j:Int),(i:Int),ms.z,ms.I,ms.w,ms.m,ms.N,ms.ao,ms.i,ms.aC,ms.bU,ms.bY,ms.bN,ms.cc,ms.aY⟩:=⟨(by omega:(0:Int)≤(j:Int)∧(j:Int)<3),(by omega:(0:Int)≤(i:Int)∧(i:Int)<3),k.od,k.bX,k.li⟩;have g:(0:Int)≤(j:Int)∧(j:Int)<3:=by omega
 have c:aD (Aj ms d):=by
  unfold Aj
  cases l5 ms d
  ·exact h.i.u8
  ·exact(T_ h).i.u8
 have e:=WQ ms d h.i.ws;have a:bQ (fK ms d):=⟨h.i.hJ _ (by kernel_rfl) c e,h.o⟩;have b:bQ (iZ j ms d):=by
  rcases bV p with rfl|rfl|rfl
  ·exact⟨h.i.hJ _ (by kernel_rfl) c e,h.o⟩
  ·exact⟨h.i.hJ _ (by kernel_rfl) c e,h.o⟩
  ·exact⟨h.i.hJ _ (by kernel_rfl) c e,h.o⟩
 have l:=ad4 a;have m:=att (F:=F) (O:=O) (ar:=ar) l f;have n:=atu l f;have o:=atv (F:=F) (O:=O) (ar:=ar) a f;unfold qe Ag Ai Ah;simp only[H.fx]
 cases (!d.up)<;>simp only[aS,aQ]
 ·cases w3 ms d<;>simp only[aS,aQ]
  ·exact lV (T_ h)
  ·cases (ms.z==1)<;>simp only[aS,aQ]
   ·cases (ms.z==2)<;>simp only[aS,aQ]
    ·cases decide (ms.I<qg ms d)<;>simp only[aS,aQ]
     ·cases (ms.z==3)<;>simp only[aS,aQ]
      ·cases (ms.z==4)<;>simp only[aS,aQ]
       ·cases (ms.z==5)<;>simp only[aS,aQ]
        ·cases (ms.z==7)<;>simp only[aS,aQ]
         ·cases (ms.z==6)<;>simp only[aS,aQ]
          ·exact lV a
          ·cases (ly ms d==3)<;>simp only[aS,aQ]
           ·exact lV a
           ·exact Y3 o
         ·exact lV n
        ·exact Y3 m
       ·cases (ly ms d==2)<;>simp only[aS,aQ]
        ·exact lV a
        ·cases jY (iZ j ms d)<;>simp only[aS,aQ]
         ·exact lV b
         ·exact⟨ats b,rfl,by omega,bC _⟩
      ·exact lV (atr a g)
     ·cases (ms.z !=8)<;>simp only[aS,aQ]
      ·exact lV a
      ·exact lV (Ua a g)
    ·cases w2 ms d<;>simp only[aS,aQ]
     ·exact lV a
     ·cases jY (iZ j ms d)<;>simp only[aS,aQ]
      ·exact lV b
      ·exact lV (atq b)
   ·exact lV (atp a g)
 ·exact lV h
structure Xp (C X:ak):Prop where
 j: ∀i,bQ (X.d i)
 a:X.ag=C.ag
 t:(X.told.n:Int)≤(C.told.n:Int)+600000
 l:X.a8.n≤C.a8.n+1
theorem BK{C:ak}{P:H→Prop}(h: ∀j,P (C.d j))(i:Nat){n:H}(a:P n)(F:G ah)(O:G bF)(ar:G aM)(j:Nat):P ((C.put i n F O ar).d j):=by
 have b:=h 0;have c:=h 1;have d:=h 2
 match i,j with
 |0,0=>exact a
 |0,1=>exact c
 |0,j+2=>exact d
 |1,0=>exact b
 |1,1=>exact a
 |1,j+2=>exact d
 |i+2,0=>exact b
 |i+2,1=>exact c
 |i+2,j+2=>exact a
theorem VK(C:ak)(i:Nat)(n:H)(F:G ah)(O:G bF)(ar:G aM):(C.put i n F O ar).ag=F∧(C.put i n F O ar).told=O∧(C.put i n F O ar).a8=ar:=by
 match i with
 |0=>exact⟨rfl,rfl,rfl⟩
 |1=>exact⟨rfl,rfl,rfl⟩
 |i+2=>exact⟨rfl,rfl,rfl⟩
theorem axX{C:ak}{ms:ah}(a: ∀i,bQ (C.d i))(d:gQ ms){i j:Nat}(b:i<3)(c:j<3):Xp C (F3 i j C ms):=by
 have q:=atn (i:=i) (j:=j) (ms:=ms) (F:=C.ag) (O:=C.told) (ar:=C.a8) (a i) d b c;have f:=VK C i (qe i j ms (C.d i) C.ag C.told C.a8) (Ag i j ms (C.d i) C.ag C.told C.a8) (Ai i j ms (C.d i) C.ag C.told C.a8) (Ah i j ms (C.d i) C.ag C.told C.a8);unfold F3;exact⟨fun j=>BK (P:=bQ) a i q.j _ _ _ j,by rw[f.1];exact q.a,by rw[f.2.1];exact q.t,by rw[f.2.2];exact q.l⟩
theorem G2{C:ak}{ms:ah}(b: ∀i,bQ (C.d i))(a:gQ ms):Xp C (kc C ms):=by
 have c:=a.lp;have d:=a.to;exact axX b a (by omega) (by omega)
def rp(C:ak)(v:Int)(X:ak):Prop:=(0≤v∧v≤(C.ag.n:Int))∧(∀i,bQ (X.d i))∧(X.told.n:Int)≤(C.told.n:Int)+600000*v∧(X.a8.n:Int)≤(C.a8.n:Int)+v
theorem zg{C:ak}{a:aJ}(h:eO C a)(i:Nat):bQ (C.d i):=by
 obtain⟨⟨k,_,b⟩,_⟩:=h;exact⟨b.d i,b.on i,b.bw i⟩
theorem C9{C X:ak}{v:Int}(h:rp C v X):0≤v∧v≤(C.ag.n:Int):=h.1
theorem rR{C:ak}{a:aJ}(h:eO C a):rp C (0:Int) {C with ag:=D} :=⟨⟨cR _,by omega⟩,fun i=>by
  have b:=zg h 0;have c:=zg h 1;have d:=zg h 2
  match i with
  |0=>exact b
  |1=>exact c
  |i+2=>exact d,by show(C.told.n:Int)≤_;omega,by show(C.a8.n:Int)≤_;omega⟩
theorem p3{C X:ak}{a:aJ}{v:Int}(h:eO C a)(b:rp C v X)(j:v<(C.ag.n:Int)):tI X (C.ag.at' (toNat v)):=by
 have e:=oN h;obtain⟨d,c,g,f⟩:=b;exact Zn h (by omega) (fun i=>(c i).i) (by omega) (by omega)
theorem rS{C X:ak}{a:aJ}{v:Int}(h:eO C a)(b:rp C v X)(e:v<(C.ag.n:Int)):rp C (i64.wrap (v+1)) (kc X (C.ag.at' (toNat v))):=by
 have g:=oN h;have d:=(p3 h b e).2.2.2.2.2.1;obtain⟨f,c,j,i⟩:=b;rw[E (v+1)];have q:=G2 c d;have l:=q.t;have k:=q.l;exact⟨by omega,q.j,by omega,by omega⟩
theorem aBw{C:ak}{a:aJ}(h:eO C a){j:Nat}(e:j<C.ag.n)(D:G ah):tI {C with ag:=D} (C.ag.at' j):=by
 have f:=oN h;refine Zn h e (fun i=> ?_) (by show C.told.n≤_;omega) (by show C.a8.n≤_;omega);have b:=(zg h 0).i;have c:=(zg h 1).i;have d:=(zg h 2).i
 match i with
 |0=>exact b
 |1=>exact c
 |i+2=>exact d
theorem MX{c n:Int}(h:0≤c)(a:0<n):0≤c.tmod n∧c.tmod n<n:=⟨Int.tmod_nonneg n h,Int.tmod_lt_of_pos c a⟩
section
variable(ac:aJ)(F:G ah)(C:ak)
def h1:Int:=(cond (decide ((F.n:Int)>0)) (ac.z.tmod (F.n:Int)) (-1))
def w0:ak:=({C with ag:=(G.del F (toNat (h1 ac F)) (toNat (i64.wrap ((h1 ac F)+1))))} :ak)
def apv:ak:=(kc (w0 ac F C) (F.at' (toNat (h1 ac F))))
def R6:ak:=(ak.bif (decide ((h1 ac F)≥0)) (apv ac F C) C)
theorem ahF(ac:aJ)(F:G ah)(h:0≤ac.z):h1 ac F<(F.n:Int):=by
 unfold h1
 by_cases c:(F.n:Int)>0
 ·rw[bS c];exact(MX h c).2
 ·rw[bp c];show(-1:Int)<(F.n:Int);omega
theorem tq{C:ak}{ac:aJ}(h:eO C ac)(a:decide ((h1 ac C.ag)≥0)=true):tI (w0 ac C.ag C) (C.ag.at' (toNat (h1 ac C.ag))):=by
 have b:=al a;have c:=ahF ac C.ag h.2.lI;exact aBw h (by omega) _
def NH:c8:=⟨[.p 0,.g [a,a,a,a,a,a,ai,ai,ai,a]],b4,eH,eu,fun(b:Int) (c:Int) (d:Int) (e:Int) (f:Int) (g:Int) h i j (k:Int)=>cA fun C=>⟨⟨some (eO C (⟨b,c,d,e,f,g,h,i,j,k⟩:aJ)),[],ca [10,13,11,14,12,15,16,8,9] 7 (R6 (⟨b,c,d,e,f,g,h,i,j,k⟩:aJ) C.ag C)⟩⟩⟩
def XE:cG:=⟨.eB true [.b 10,.b 11] [.own (.h 0 99) cw 16,.own (.h 0 29) dd 10,.own (.h 0 62) dd 11,.own (.h 0 95) dd 12,.own (.h 0 32) cw 13,.own (.h 0 65) cw 14,.own (.h 0 98) cw 15] (ga 0 [10,13,11,14,12,15,16,8,9] 7 [] 0) (fY 0 [10,13,11,14,12,15,16,8,9]),[],[]++fy 0 [10,13,11,14,12,15,16,8,9],⟨[],[]⟩⟩
def aqy:cb (XE).b1:=(.ae (.ae (.ae (.j ⟨57,[],[(.t 5,a)],[],.f⟩ .z (.bO ⟨([.ptr 0 0,U,U,.ptr 10 0,.ptr 0 0,b (h1 ac C.ag)]++(us 135 ([]))),cd [1,2,3,4,5,6,7,8,9] 1 C [(10,[b 6,b 0,b ac.z,b ac.I,b ac.w,b ac.m,.str ac.N,.str ac.ao,.str ac.i,b ac.aC])]⟩ (.ae (.ae (.c false (.ae (.c false (.ae (.c false (.s (.ae (.c true .z)) (.c true (.ae (.s (.ae (.ae (.ae (.c true .z)))) .z))))))))))))))))
def Vj(ac:aJ)(C:ak):Prop:=(((decide ((C.ag.n:Int)>0))=true→(((C.ag.n:Int):Int)≠0))∧((decide ((h1 ac C.ag)≥0))=true→((((0:Int)≤(h1 ac C.ag)∧(h1 ac C.ag)<(C.ag.n:Int))∧((toNat (h1 ac C.ag))<C.ag.n))∧(((0:Int)≤(h1 ac C.ag)∧((h1 ac C.ag):Int)<(i64.wrap ((h1 ac C.ag)+1))∧((i64.wrap ((h1 ac C.ag)+1)):Int)≤(C.ag.n:Int))∧(tI (w0 ac C.ag C) (C.ag.at' (toNat (h1 ac C.ag))))))))
theorem ayo(ac:aJ)(C:ak)(e:ez C)(f:ac.N.size≤549755813888)(g:ac.ao.size≤549755813888)(h:ac.i.size≤549755813888)(b:eO C ac):Vj ac C:=by
 have d:=gE e 0 (by omega);unfold fw at d;unfold Vj;exact have:=oN b;have:=b.2.lI;have:=ahF ac C.ag b.2.lI;(⟨(fun c=>(by have:=al c;omega)),(fun a=>⟨⟨(by have:=al a;omega),(by have:=al a;omega)⟩,⟨(by have:=al a;have:=E ((h1 ac C.ag)+1);omega),(by repeat first|assumption|apply tq)⟩⟩)⟩)
theorem avY(ac:aJ)(d:ac.N.size≤549755813888)(e:ac.ao.size≤549755813888)(f:ac.i.size≤549755813888)(C:ak)(a:ez C)(c:eO C ac):fm Tryz.prog 31 ((NH).args ([b 6,b 0,b ac.z,b ac.I,b ac.w,b ac.m,.str ac.N,.str ac.ao,.str ac.i,b ac.aC]++hX C)) ((NH).c3 (([b 6,b 0,b ac.z,b ac.I,b ac.w,b ac.m,.str ac.N,.str ac.ao,.str ac.i,b ac.aC]++hX C).drop (NH).dE)) [] (ca [10,13,11,14,12,15,16,8,9] 7 (R6 ac C.ag C)):=by
 refine ef XE (aqy ac C) (Vj ac C) (bJ 10 aT (aj aev (aj aew bI))) Tryz.func31 [] ?_ ?_ (ayo ac C a d e f c)
 ·kernel_rfl
 ·kernel_rfl
end
section
variable(ac:aJ)(F:G ah)(C:ak)
def jy:Int:=(cond (decide ((F.n:Int)>0)) (ac.z.tmod (F.n:Int)) (-1))
def ab1:ak:=({C with ag:=(G.del F (toNat (jy ac F)) (toNat (i64.wrap ((jy ac F)+1))))} :ak)
def R7:ak:=(ak.bif (decide ((jy ac F)≥0)) (ab1 ac F C) C)
theorem aBx(ac:aJ)(F:G ah)(h:0≤ac.z):jy ac F<(F.n:Int):=by
 unfold jy
 by_cases c:(F.n:Int)>0
 ·rw[bS c];exact(MX h c).2
 ·rw[bp c];show(-1:Int)<(F.n:Int);omega
def NI:c8:=⟨[.p 0,.g [a,a,a,a,a,a,ai,ai,ai,a]],b4,eH,eu,fun(b:Int) (c:Int) (d:Int) (e:Int) (f:Int) (g:Int) h i j (k:Int)=>cA fun C=>⟨⟨some (eO C (⟨b,c,d,e,f,g,h,i,j,k⟩:aJ)),[],ca [10,13,11,14,12,15,16,8,9] 7 (R7 (⟨b,c,d,e,f,g,h,i,j,k⟩:aJ) C.ag C)⟩⟩⟩
def XF:cG:=⟨.eB true [.b 10,.b 11] [.own (.h 0 99) cw 16,.own (.h 0 29) dd 10,.own (.h 0 62) dd 11,.own (.h 0 95) dd 12,.own (.h 0 32) cw 13,.own (.h 0 65) cw 14,.own (.h 0 98) cw 15] (ga 0 [10,13,11,14,12,15,16,8,9] 7 [] 0) (fY 0 [10,13,11,14,12,15,16,8,9]),[],[]++fy 0 [10,13,11,14,12,15,16,8,9],⟨[],[]⟩⟩
def aqz:cb (XF).b1:=(.ae (.ae (.ae (.j ⟨57,[],[(.t 5,a)],[],.f⟩ .z (.bO ⟨([.ptr 0 0,U,U,.ptr 10 0,.ptr 0 0,b (jy ac C.ag)]++(us 135 ([]))),cd [1,2,3,4,5,6,7,8,9] 1 C [(10,[b 7,b 0,b ac.z,b ac.I,b ac.w,b ac.m,.str ac.N,.str ac.ao,.str ac.i,b ac.aC])]⟩ (.ae (.ae (.c false (.ae (.c false (.ae (.c false (.s (.ae (.c false .z)) (.c true (.ae (.s (.ae (.ae (.ae (.c false .z)))) .z))))))))))))))))
def Vk(ac:aJ)(C:ak):Prop:=(((decide ((C.ag.n:Int)>0))=true→(((C.ag.n:Int):Int)≠0))∧((decide ((jy ac C.ag)≥0))=true→((((0:Int)≤(jy ac C.ag)∧(jy ac C.ag)<(C.ag.n:Int))∧((toNat (jy ac C.ag))<C.ag.n))∧((0:Int)≤(jy ac C.ag)∧((jy ac C.ag):Int)<(i64.wrap ((jy ac C.ag)+1))∧((i64.wrap ((jy ac C.ag)+1)):Int)≤(C.ag.n:Int)))))
theorem ayp(ac:aJ)(C:ak)(e:ez C)(f:ac.N.size≤549755813888)(g:ac.ao.size≤549755813888)(h:ac.i.size≤549755813888)(b:eO C ac):Vk ac C:=by
 have d:=gE e 0 (by omega);unfold fw at d;unfold Vk;exact have:=oN b;have:=b.2.lI;have:=aBx ac C.ag b.2.lI;(⟨(fun c=>(by have:=al c;omega)),(fun a=>⟨⟨(by have:=al a;omega),(by have:=al a;omega)⟩,(by have:=al a;have:=E ((jy ac C.ag)+1);omega)⟩)⟩)
theorem avZ(ac:aJ)(d:ac.N.size≤549755813888)(e:ac.ao.size≤549755813888)(f:ac.i.size≤549755813888)(C:ak)(a:ez C)(c:eO C ac):fm Tryz.prog 31 ((NI).args ([b 7,b 0,b ac.z,b ac.I,b ac.w,b ac.m,.str ac.N,.str ac.ao,.str ac.i,b ac.aC]++hX C)) ((NI).c3 (([b 7,b 0,b ac.z,b ac.I,b ac.w,b ac.m,.str ac.N,.str ac.ao,.str ac.i,b ac.aC]++hX C).drop (NI).dE)) [] (ca [10,13,11,14,12,15,16,8,9] 7 (R7 ac C.ag C)):=by
 refine ef XF (aqz ac C) (Vk ac C) (bJ 10 aT (aj aev bI)) Tryz.func31 [] ?_ ?_ (ayp ac C a d e f c)
 ·kernel_rfl
 ·kernel_rfl
end
section
variable(ac:aJ)(F:G ah)(C:ak)
def nY:Int:=(cond (decide ((F.n:Int)>0)) (ac.z.tmod (F.n:Int)) (-1))
def Ad:Bool:=(cond (decide ((nY ac F)≥0)) (decide ((F.n:Int)<300)) false)
def ab2:ak:=({C with ag:=(G.app F (G.lit ([(F.at' (toNat (nY ac F)))]:List ah)))} :ak)
def R8:ak:=(ak.bif (Ad ac F) (ab2 ac F C) C)
theorem aBy(ac:aJ)(F:G ah)(h:0≤ac.z):nY ac F<(F.n:Int):=by
 unfold nY
 by_cases c:(F.n:Int)>0
 ·rw[bS c];exact(MX h c).2
 ·rw[bp c];show(-1:Int)<(F.n:Int);omega
def NJ:c8:=⟨[.p 0,.g [a,a,a,a,a,a,ai,ai,ai,a]],b4,eH,eu,fun(b:Int) (c:Int) (d:Int) (e:Int) (f:Int) (g:Int) h i j (k:Int)=>cA fun C=>⟨⟨some (eO C (⟨b,c,d,e,f,g,h,i,j,k⟩:aJ)),[],ca [10,13,11,14,12,15,16,8,9] 7 (R8 (⟨b,c,d,e,f,g,h,i,j,k⟩:aJ) C.ag C)⟩⟩⟩
def XG:cG:=⟨.eB true [.b 10] [.own (.h 0 99) cw 16,.own (.h 0 29) dd 10,.own (.h 0 62) dd 11,.own (.h 0 95) dd 12,.own (.h 0 32) cw 13,.own (.h 0 65) cw 14,.own (.h 0 98) cw 15] (ga 0 [10,13,11,14,12,15,16,8,9] 7 [] 0) (fY 0 [10,13,11,14,12,15,16,8,9]),[],[]++fy 0 [10,13,11,14,12,15,16,8,9],⟨[],[]⟩⟩
def aqA:cb (XG).b1:=(.ae (.ae (.ae (.j ⟨57,[],[(.t 5,a)],[],.f⟩ .z (.bO ⟨([.ptr 0 0,U,U,.ptr 10 0,.ptr 0 0,b (nY ac C.ag)]++(us 135 ([]))),cd [1,2,3,4,5,6,7,8,9] 1 C [(10,[b 8,b 0,b ac.z,b ac.I,b ac.w,b ac.m,.str ac.N,.str ac.ao,.str ac.i,b ac.aC])]⟩ (.ae (.ae (.c false (.ae (.c false (.ae (.c false (.s (.ae (.c false .z)) (.c false (.ae (.c true (.j ⟨40564819207303340847894502572065,[.b 10],[(.t 105,l)],[],.f⟩ .z (.bO ⟨([.ptr 0 0,U,U,U,U,b (nY ac C.ag)]++(us 99 (([.bool (Ad ac C.ag)]++(us 35 ([])))))),cd [1,2,3,4,5,6,7,8,9] 0 C []⟩ .z))))))))))))))))))
def Vl(ac:aJ)(C:ak):Prop:=(((decide ((C.ag.n:Int)>0))=true→(((C.ag.n:Int):Int)≠0))∧((Ad ac C.ag)=true→(((0:Int)≤(nY ac C.ag)∧(nY ac C.ag)<(C.ag.n:Int))∧(((toNat (nY ac C.ag))<C.ag.n)∧(C.ag.n+1≤549755813888)))))
theorem ayq(ac:aJ)(C:ak)(e:ez C)(f:ac.N.size≤549755813888)(g:ac.ao.size≤549755813888)(h:ac.i.size≤549755813888)(a:eO C ac):Vl ac C:=by
 have d:=gE e 0 (by omega);unfold fw at d;unfold Vl;exact have:=oN a;have:=a.2.lI;have:=aBy ac C.ag a.2.lI;(⟨(fun c=>(by have:=al c;omega)),(fun b=>⟨(by have:=b;(try simp [Ad]at this);omega),⟨(by have:=b;(try simp [Ad]at this);omega),(by omega)⟩⟩)⟩)
theorem av0(ac:aJ)(d:ac.N.size≤549755813888)(e:ac.ao.size≤549755813888)(f:ac.i.size≤549755813888)(C:ak)(a:ez C)(c:eO C ac):fm Tryz.prog 31 ((NJ).args ([b 8,b 0,b ac.z,b ac.I,b ac.w,b ac.m,.str ac.N,.str ac.ao,.str ac.i,b ac.aC]++hX C)) ((NJ).c3 (([b 8,b 0,b ac.z,b ac.I,b ac.w,b ac.m,.str ac.N,.str ac.ao,.str ac.i,b ac.aC]++hX C).drop (NJ).dE)) [] (ca [10,13,11,14,12,15,16,8,9] 7 (R8 ac C.ag C)):=by
 refine ef XG (aqA ac C) (Vl ac C) (bJ 10 aT bI) Tryz.func31 [] ?_ ?_ (ayq ac C a d e f c)
 ·kernel_rfl
 ·kernel_rfl
end
section
variable(ac:aJ)(F:G ah)(C:ak)
def apz:Int:=(cond (decide ((F.n:Int)>0)) (ac.z.tmod (F.n:Int)) (-1))
def ab3(a:Int)(b:ak):ak:=(kc b (F.at' (toNat a)))
def sd(F:G ah):Nat→Int→ak→jo
 |0,_,_=>default
 |k+1,a,b=>(cond (decide (a<(F.n:Int))) (sd F k (i64.wrap (a+1)) (ab3 F a b)) (WH b))
def Jr:ak:=({C with ag:=(D:G ah)} :ak)
def apA:jo:=sd F ((toNat ((C.ag.n:Int)- (0:Int)))+1) (0:Int) (Jr C)
def apy:ak:=(cr (apA F C))
def w1:ak:=(apy F C)
def NL:c8:=⟨[.p 0,.g [a,a,a,a,a,a,ai,ai,ai,a]],b4,eH,eu,fun(b:Int) (c:Int) (d:Int) (e:Int) (f:Int) (g:Int) h i j (k:Int)=>cA fun C=>⟨⟨some (eO C (⟨b,c,d,e,f,g,h,i,j,k⟩:aJ)),[],ca [10,13,11,14,12,15,16,8,9] 7 (w1 C.ag C)⟩⟩⟩
def XI:cG:=⟨.eB true [] [.kill 7,.own (.h 0 99) cw 16,.own (.h 0 29) dd 10,.own (.h 0 62) dd 11,.own (.h 0 95) dd 12,.own (.h 0 32) cw 13,.own (.h 0 65) cw 14,.own (.h 0 98) cw 15] (ga 0 [10,13,11,14,12,15,16,8,9] 7 [] 0) (fY 0 [10,13,11,14,12,15,16,8,9]),[],[]++fy 0 [10,13,11,14,12,15,16,8,9],⟨[],[]⟩⟩
def aqC:cb (XI).b1:=(.ae (.ae (.ae (.j ⟨57,[],[(.t 5,a)],[],.f⟩ .z (.bO ⟨([.ptr 0 0,U,U,.ptr 10 0,.ptr 0 0,b (apz ac C.ag)]++(us 135 ([]))),cd [1,2,3,4,5,6,7,8,9] 1 C [(10,[b 12,b 0,b ac.z,b ac.I,b ac.w,b ac.m,.str ac.N,.str ac.ao,.str ac.i,b ac.aC])]⟩ (.ae (.ae (.c false (.ae (.c false (.ae (.c false (.s (.ae (.c false .z)) (.c false (.ae (.c false (.ae (.c true (.ae (.ae (.s (.rL [] [.own (.h 0 29) dd 40,.own (.h 0 62) dd 41,.own (.h 0 95) dd 42]) (.x3 ⟨19055812547572553953948978016179019841537,[.b 10],[(.h 0 99,cw)],(.t 133,a)::fy 0 [40,2,41,4,42,6,43,8,9],some 1,false,0,[],fy 0 [40,2,41,4,42,6,43,8,9],fun k (c:Int×jo)=>sd C.ag k c.1 (cr c.2),.f,fun(c:Int×jo)=>rp C c.1 (cr c.2),fun(c:Int×jo)=>(toNat ((C.ag.n:Int)-c.1)),none⟩ (fun(c:Int×jo)=>(.ae (.bO ⟨([.ptr 0 0]++(us 130 (([.own 7 C.ag.n,b (C.ag.n:Int),b c.1,.bool (decide (c.1<(C.ag.n:Int)))]++(us 6 ([])))))),cd [40,2,41,4,42,6,43,8,9] 34 (cr c.2) [(7,[(aB.ad cw).av C.ag])]⟩ (.ae (.ae (.rL [] [.own (.h 0 29) dd 40,.own (.h 0 62) dd 41,.own (.h 0 95) dd 42]))))))))))))))))))))))))))))
def Vn(ac:aJ)(C:ak):Prop:=(((decide ((C.ag.n:Int)>0))=true→(((C.ag.n:Int):Int)≠0))∧((rp C (0:Int) (Jr C))∧(yY (aB.int .i64::b4) fun(a:Int×jo)=>rp C a.1 (cr a.2)→(((decide (a.1<(C.ag.n:Int)))=true→((((0:Int)≤a.1∧a.1<(C.ag.n:Int))∧((toNat a.1)<C.ag.n))∧(tI (cr a.2) (C.ag.at' (toNat a.1)))))∧((decide (a.1<(C.ag.n:Int)))=true→(rp C (i64.wrap (a.1+1)) (ab3 C.ag a.1 (cr a.2))∧(toNat ((C.ag.n:Int)- (i64.wrap (a.1+1))))<(toNat ((C.ag.n:Int)-a.1))))))))
theorem ays(ac:aJ)(C:ak)(g:ez C)(j:ac.N.size≤549755813888)(k:ac.ao.size≤549755813888)(l:ac.i.size≤549755813888)(d:eO C ac):Vn ac C:=by
 have f:=gE g 0 (by omega);unfold fw at f;unfold Vn;exact have:=oN d;have:=d.2.lI;(⟨(fun e=>(by have:=al e;omega)),⟨(by repeat first|assumption|apply rR),((CB _ _).2 fun(h:Int×jo) i=>⟨(fun b=>⟨⟨(by have:=al b;(try have a:=C9 (by assumption));omega),(by have:=al b;(try have a:=C9 (by assumption));omega)⟩,(by have:=al b;have:=trivial;(try have a:=C9 (by assumption));repeat first|assumption|apply p3)⟩),(fun c=>⟨(by have:=al c;have:=trivial;(try have a:=C9 (by assumption));repeat first|assumption|apply rS),(by have:=al c;(try have a:=C9 (by assumption));have:=E (h.1+1);omega)⟩)⟩)⟩⟩)
theorem av1(ac:aJ)(d:ac.N.size≤549755813888)(e:ac.ao.size≤549755813888)(f:ac.i.size≤549755813888)(C:ak)(a:ez C)(c:eO C ac):fm Tryz.prog 31 ((NL).args ([b 12,b 0,b ac.z,b ac.I,b ac.w,b ac.m,.str ac.N,.str ac.ao,.str ac.i,b ac.aC]++hX C)) ((NL).c3 (([b 12,b 0,b ac.z,b ac.I,b ac.w,b ac.m,.str ac.N,.str ac.ao,.str ac.i,b ac.aC]++hX C).drop (NL).dE)) [] (ca [10,13,11,14,12,15,16,8,9] 7 (w1 C.ag C)):=by
 refine ef XI (aqC ac C) (Vn ac C) (bJ 10 aT (aj aew bI)) Tryz.func31 [] ?_ ?_ (ays ac C a d e f c)
 ·kernel_rfl
 ·kernel_rfl
end
section
abbrev apr(i:Nat)(ac:aJ)(d:H):H:=se 4 i ac d
abbrev aps(i:Nat)(ac:aJ)(d:H)(F:G ah):G ah:=ux 4 i ac d F
variable(i:Nat)(C:ak)(ac:aJ)
def axT:ak:=(C.put i (R3 ac (C.d i)) C.ag (R4 ac (C.d i) C.told) C.a8)
def UN:ak:=(C.put i (se 2 i ac (C.d i)) (ux 2 i ac (C.d i) C.ag) C.told C.a8)
def axU:ak:=(C.put i (se 3 i ac (C.d i)) (ux 3 i ac (C.d i) C.ag) C.told C.a8)
def UO:ak:=(C.put i (apr i ac (C.d i)) (aps i ac (C.d i) C.ag) C.told C.a8)
def UP:ak:=(C.set i (R5 ac (C.d i)))
def L7:ak:=(C.put i (se 9 i ac (C.d i)) (ux 9 i ac (C.d i) C.ag) C.told C.a8)
def F2(ac:aJ):ak:=(C.set i (R9 (C.d i)))
def axV:ak:=(C.put i (se 11 i ac (C.d i)) (ux 11 i ac (C.d i) C.ag) C.told C.a8)
def gi:ak:=(ak.bif (ac.q==1) (axT (toNat ac.C) C ac) (ak.bif (ac.q==2) (UN (toNat ac.C) C ac) (ak.bif (ac.q==3) (axU (toNat ac.C) C ac) (ak.bif (ac.q==4) (UO (toNat ac.C) C ac) (ak.bif (ac.q==5) (UP (toNat ac.C) C ac) (ak.bif (ac.q==6) (R6 ac C.ag C) (ak.bif (ac.q==7) (R7 ac C.ag C) (ak.bif (ac.q==8) (R8 ac C.ag C) (ak.bif (ac.q==9) (L7 (toNat ac.C) C ac) (ak.bif (ac.q==10) (F2 (toNat ac.C) C ac) (ak.bif (ac.q==11) (axV (toNat ac.C) C ac) (w1 C.ag C))))))))))))
def ND:c8:=⟨[.p 0,.g [a,a,a,a,a,a,ai,ai,ai,a]],b4,eH,eu,fun(b:Int) (c:Int) (d:Int) (e:Int) (f:Int) (g:Int) h i j (k:Int)=>cA fun C=>⟨⟨some (eO C (⟨b,c,d,e,f,g,h,i,j,k⟩:aJ)),[],ca [10,13,11,14,12,15,16,8,9] 7 (gi C (⟨b,c,d,e,f,g,h,i,j,k⟩:aJ))⟩⟩⟩
theorem avX(ac:aJ)(l:ac.N.size≤549755813888)(m:ac.ao.size≤549755813888)(n:ac.i.size≤549755813888):eP Tryz.prog 31 ND b4 [] (cA fun C=>⟨⟨some (eO C ac),[],ca [10,13,11,14,12,15,16,8,9] 7 (gi C ac)⟩⟩) [b ac.q,b ac.C,b ac.z,b ac.I,b ac.w,b ac.m,.str ac.N,.str ac.ao,.str ac.i,b ac.aC]:=by
 refine fW fun C k a=> ?_;obtain⟨a0,o,c,d,e,f,g,h,i,j⟩:=ac;have q:a0=1∨a0=2∨a0=3∨a0=4∨a0=5∨a0=6∨a0=7∨a0=8∨a0=9∨a0=10∨a0=11∨a0=12:=by
  have r:1≤a0:=a.2.b1.1;have s:a0≤12:=a.2.b1.2;omega
 have p:o=0∨o=1∨o=2:=by
  have r:0≤o:=a.2.d.1;have s:o<3:=a.2.d.2;omega
 rcases q with rfl|rfl|rfl|rfl|rfl|rfl|rfl|rfl|rfl|rfl|rfl|rfl
 ·rcases p with rfl|rfl|rfl
  ·exact Eq.mp (by kernel_rfl) (Uo 0 (by omega) ⟨1,0,c,d,e,f,g,h,i,j⟩ l m n C k a)
  ·exact Eq.mp (by kernel_rfl) (Uo 1 (by omega) ⟨1,1,c,d,e,f,g,h,i,j⟩ l m n C k a)
  ·exact Eq.mp (by kernel_rfl) (Uo 2 (by omega) ⟨1,2,c,d,e,f,g,h,i,j⟩ l m n C k a)
 ·rcases p with rfl|rfl|rfl
  ·exact Eq.mp (by kernel_rfl) (lD 2 (by decide) 0 (by omega) ⟨2,0,c,d,e,f,g,h,i,j⟩ l m n C k a)
  ·exact Eq.mp (by kernel_rfl) (lD 2 (by decide) 1 (by omega) ⟨2,1,c,d,e,f,g,h,i,j⟩ l m n C k a)
  ·exact Eq.mp (by kernel_rfl) (lD 2 (by decide) 2 (by omega) ⟨2,2,c,d,e,f,g,h,i,j⟩ l m n C k a)
 ·rcases p with rfl|rfl|rfl
  ·exact Eq.mp (by kernel_rfl) (lD 3 (by decide) 0 (by omega) ⟨3,0,c,d,e,f,g,h,i,j⟩ l m n C k a)
  ·exact Eq.mp (by kernel_rfl) (lD 3 (by decide) 1 (by omega) ⟨3,1,c,d,e,f,g,h,i,j⟩ l m n C k a)
  ·exact Eq.mp (by kernel_rfl) (lD 3 (by decide) 2 (by omega) ⟨3,2,c,d,e,f,g,h,i,j⟩ l m n C k a)
 ·rcases p with rfl|rfl|rfl
  ·exact Eq.mp (by kernel_rfl) (lD 4 (by decide) 0 (by omega) ⟨4,0,c,d,e,f,g,h,i,j⟩ l m n C k a)
  ·exact Eq.mp (by kernel_rfl) (lD 4 (by decide) 1 (by omega) ⟨4,1,c,d,e,f,g,h,i,j⟩ l m n C k a)
  ·exact Eq.mp (by kernel_rfl) (lD 4 (by decide) 2 (by omega) ⟨4,2,c,d,e,f,g,h,i,j⟩ l m n C k a)
 ·rcases p with rfl|rfl|rfl
  ·exact Eq.mp (by kernel_rfl) (Up 0 (by omega) ⟨5,0,c,d,e,f,g,h,i,j⟩ l m n C k a)
  ·exact Eq.mp (by kernel_rfl) (Up 1 (by omega) ⟨5,1,c,d,e,f,g,h,i,j⟩ l m n C k a)
  ·exact Eq.mp (by kernel_rfl) (Up 2 (by omega) ⟨5,2,c,d,e,f,g,h,i,j⟩ l m n C k a)
 ·have z:o=0:=a.2.Md (by simp);subst z;exact Eq.mp (by kernel_rfl) (avY ⟨6,0,c,d,e,f,g,h,i,j⟩ l m n C k a)
 ·have z:o=0:=a.2.Md (by simp);subst z;exact Eq.mp (by kernel_rfl) (avZ ⟨7,0,c,d,e,f,g,h,i,j⟩ l m n C k a)
 ·have z:o=0:=a.2.Md (by simp);subst z;exact Eq.mp (by kernel_rfl) (av0 ⟨8,0,c,d,e,f,g,h,i,j⟩ l m n C k a)
 ·rcases p with rfl|rfl|rfl
  ·exact Eq.mp (by kernel_rfl) (lD 9 (by decide) 0 (by omega) ⟨9,0,c,d,e,f,g,h,i,j⟩ l m n C k a)
  ·exact Eq.mp (by kernel_rfl) (lD 9 (by decide) 1 (by omega) ⟨9,1,c,d,e,f,g,h,i,j⟩ l m n C k a)
  ·exact Eq.mp (by kernel_rfl) (lD 9 (by decide) 2 (by omega) ⟨9,2,c,d,e,f,g,h,i,j⟩ l m n C k a)
 ·rcases p with rfl|rfl|rfl
  ·exact Eq.mp (by kernel_rfl) (Uq 0 (by omega) ⟨10,0,c,d,e,f,g,h,i,j⟩ l m n C k a)
  ·exact Eq.mp (by kernel_rfl) (Uq 1 (by omega) ⟨10,1,c,d,e,f,g,h,i,j⟩ l m n C k a)
  ·exact Eq.mp (by kernel_rfl) (Uq 2 (by omega) ⟨10,2,c,d,e,f,g,h,i,j⟩ l m n C k a)
 ·rcases p with rfl|rfl|rfl
  ·exact Eq.mp (by kernel_rfl) (lD 11 (by decide) 0 (by omega) ⟨11,0,c,d,e,f,g,h,i,j⟩ l m n C k a)
  ·exact Eq.mp (by kernel_rfl) (lD 11 (by decide) 1 (by omega) ⟨11,1,c,d,e,f,g,h,i,j⟩ l m n C k a)
  ·exact Eq.mp (by kernel_rfl) (lD 11 (by decide) 2 (by omega) ⟨11,2,c,d,e,f,g,h,i,j⟩ l m n C k a)
 ·have z:o=0:=a.2.Md (by simp);subst z;exact Eq.mp (by kernel_rfl) (av1 ⟨12,0,c,d,e,f,g,h,i,j⟩ l m n C k a)
theorem ay6:fO 31 ND:=
 jq (bm:=[a,a,a,a,a,a,ai,ai,ai,a]) fun s b=>Eq.mp (by kernel_rfl) (avX ⟨s.1,s.2.1,s.2.2.1,s.2.2.2.1,s.2.2.2.2.1,s.2.2.2.2.2.1,s.2.2.2.2.2.2.1,s.2.2.2.2.2.2.2.1,s.2.2.2.2.2.2.2.2.1,s.2.2.2.2.2.2.2.2.2.1⟩ (b.2.2.2.2.2.2.1 rfl) (b.2.2.2.2.2.2.2.1 rfl) (b.2.2.2.2.2.2.2.2.1 rfl))
theorem avj:fP 31 ND:=gj fV Tryz.func31 ay6
end
theorem hR{c:Bool}{a b:H}{m:Nat}(d:a.ws.n≤m)(e:b.ws.n≤m):(H.bif c a b).ws.n≤m:=by
 rw[H.fx]
 cases c
 ·exact e
 ·exact d
theorem aCs(j:Nat)(n:H):(H.q9 j n).ws=n.ws:=by
 match j with
 |0=>rfl
 |1=>rfl
 |j+2=>rfl
theorem aBY{i j:Nat}{ms:ah}{d:H}{F:G ah}{O:G bF}{ar:G aM}(h:bQ d)(c:gQ ms)(m:i<3)(n:j<3):(qe i j ms d F O ar).ws.n≤d.ws.n:=by
 have g:gQ ⟨(j:Int),(i:Int),ms.z,ms.I,ms.w,ms.m,ms.N,ms.ao,ms.i,ms.aC,ms.bU,ms.bY,ms.bN,ms.cc,ms.aY⟩:=⟨(by omega:(0:Int)≤(j:Int)∧(j:Int)<3),(by omega:(0:Int)≤(i:Int)∧(i:Int)<3),c.od,c.bX,c.li⟩;have k:aD (Aj ms d):=by
  unfold Aj
  cases l5 ms d
  ·exact h.i.u8
  ·exact(T_ h).i.u8
 have l:=WQ ms d h.i.ws;have e:bQ (fK ms d):=⟨h.i.hJ _ (by kernel_rfl) k l,h.o⟩;have a:(fK ms d).ws.n≤d.ws.n:=by
  show(qf ms d).n≤d.ws.n;unfold qf
  cases l5 ms d
  ·exact bC _
  ·exact cf _
 have b:(iZ j ms d).ws.n≤d.ws.n:=by
  show(H.q9 j (fK ms d)).ws.n≤d.ws.n;rw[aCs];exact a
 have LM:(jZ (fK ms d)).ws.n≤d.ws.n:=dB (aB5 _) a;have f:=ad4 e;unfold qe;refine hR (bC _) (hR ?_ (by rw[aBZ];exact bC _));refine hR (by rw[aB0];exact a) (hR ?_ (hR ?_ (hR (by rw[aB3];exact a) (hR ?_ (hR (by rw[aB6 f];exact LM) (hR (by rw[aB7];exact LM) (hR ?_ a)))))))
 ·exact hR (hR (by rw[aB1];exact b) b) a
 ·exact hR (by rw[aB2];exact a) a
 ·exact hR (hR (by rw[aB4];exact b) b) a
 ·exact hR (by rw[aB8 e g];exact a) a
theorem ah0{C:ak}{ms:ah}{m:Nat}(c: ∀i,bQ (C.d i))(a:gQ ms)(b: ∀i,(C.d i).ws.n≤m)(i:Nat):((kc C ms).d i).ws.n≤m:=by
 have d:=a.lp;have e:=a.to;unfold kc F3;exact BK (P:=fun n=>n.ws.n≤m) b _ (dB (aBY (c _) a (by omega) (by omega)) (b _)) _ _ _ i
theorem af5{s:G ah}(h:fo s){i j:Nat}(b:i≤j)(c:j≤s.n):fo (G.del s i j):=by
 refine⟨by show s.n- (j-i)≤300;have:=h.1;omega,fun t a=> ?_⟩;have a:t<s.n- (j-i):=a;show gQ (cond (Nat.blt t i) (s.at' t) (s.at' (t+(j-i))));exact ep (P:=gQ) (h.2 t (by omega)) (h.2 (t+(j-i)) (by omega))
theorem vZ{k:Nat}{C:ak}(a: ∀i,bQ (C.d i))(e: ∀i,(C.d i).ws.n≤k)(b:fo C.ag)(d:C.told.n≤180001000*k)(c:C.a8.n≤300*k):hl k C:=
 ⟨fun i=>(a i).i,e,b.2,b.1,fun i=>(a i).o.2,fun i=>(a i).o.1,d,c⟩
theorem hl.j{k:Nat}{C:ak}(h:hl k C)(i:Nat):bQ (C.d i):=⟨h.d i,h.on i,h.bw i⟩
theorem hl.a{k:Nat}{C:ak}(h:hl k C):fo C.ag:=⟨h.oG,h.vO⟩
theorem hl.succ{k:Nat}{C:ak}(h:hl k C):hl (k+1) C:=vZ h.j (fun i=>ow (h.wn i)) h.a (by have:=h.q_;omega) (by have:=h.fZ;omega)
theorem HO{k:Nat}{C:ak}(h:hl k C)(i:Nat){n:H}{F:G ah}{O:G bF}{ar:G aM}(b:bQ n)(c:n.ws.n≤k+1)(a:fo F)(e:O.n≤C.told.n+180001000)(d:ar.n≤C.a8.n+300):hl (k+1) (C.put i n F O ar):=by
 have f:=VK C i n F O ar;refine vZ (BK (P:=bQ) h.j i b _ _ _) (BK (P:=fun n=>n.ws.n≤k+1) (fun j=>ow (h.wn j)) i c _ _ _) ?_ ?_ ?_
 ·rw[f.1];exact a
 ·rw[f.2.1];have:=h.q_;omega
 ·rw[f.2.2];have:=h.fZ;omega
theorem GK(C:ak)(i:Nat)(n:H):C.set i n=C.put i n C.ag C.told C.a8:=by
 match i with
 |0=>rfl
 |1=>rfl
 |i+2=>rfl
theorem aB9(ms:ah)(n:H):(uF ms n).ws=n.ws:=by kernel_rfl
theorem aB_(n:H):(uG n).ws=n.ws:=by kernel_rfl
theorem aCa(n:H):(n1 n).ws=n.ws:=by kernel_rfl
theorem aCb(n:H):(o5 n).ws=n.ws:=by
 unfold o5
 repeat' first|rfl|apply ts
theorem ato{ac:aJ}{d:H}{F:G ah}(h:bQ d)(a:fo F):bQ (l6 ac d)∧(l6 ac d).ws.n≤d.ws.n∧fo (uy ac d F):=by
 have b:bQ (Am d):=⟨h.i.hJ _ (by kernel_rfl) h.i.u8 h.i.ws,h.o⟩;have c:=PG b.i;refine⟨?_,?_,?_⟩
 ·unfold l6;refine nm (fun _=>nm (fun _=>ad5 b (vk c)) fun _=>h) fun _=> ?_;refine nm (fun _=>nm (fun _=>ad6 h) fun _=>h) fun _=> ?_;exact nm (fun _=>atw h) fun _=>nm (fun _=>atx h) fun _=>nm (fun _=>aty h) fun _=>h
 ·unfold l6;refine hR (hR (by rw[aB9];exact bC _) (bC _)) ?_;refine hR (hR (by rw[aB_];exact bC _) (bC _)) ?_;exact hR (by rw[aCa];exact bC _) (hR (cf _) (hR (by rw[aCb];exact bC _) (bC _)))
 ·unfold uy;exact ep (P:=fo) a (ep (P:=fo) a (ep (P:=fo) (alP h a) a))
theorem Cz{k:Nat}{C:ak}(h:hl k C)(i:Nat)(ac:aJ)(c:Bool):hl (k+1) (C.put i (H.bif c (l6 ac (C.d i)) (C.d i)) (cond c (uy ac (C.d i) C.ag) C.ag) C.told C.a8):=by
 have q:=ato (ac:=ac) (h.j i) h.a;exact HO h i (nm (fun _=>q.1) fun _=>h.j i) (hR (dB q.2.1 (ow (h.wn i))) (ow (h.wn i))) (ep (P:=fo) q.2.2 h.a) (pJ _ _) (pJ _ _)
theorem gC{P:ak→Prop}{c:Bool}{a b:ak}(d:c=true→P a)(e:c=false→P b):P (ak.bif c a b):=by
 rw[ak.fx]
 cases c
 ·exact e rfl
 ·exact d rfl
theorem ahE{c:Int}{F:G ah}(h:0≤c):(cond (decide ((F.n:Int)>0)) (c.tmod (F.n:Int)) (-1))<(F.n:Int):=by
 by_cases e:(F.n:Int)>0
 ·rw[bS e];exact(MX h e).2
 ·rw[bp e];show(-1:Int)<(F.n:Int);omega
theorem aBq{k:Nat}{C:ak}(h:hl k C){D:G ah}(f:fo D){ms:ah}(d:gQ ms):hl (k+1) (kc {C with ag:=D} ms):=by
 have e: ∀i,bQ ((⟨C.a,C.b,C.c,D,C.told,C.a8⟩:ak).d i):=fun i=>by
  have a:=h.j 0;have b:=h.j 1;have c:=h.j 2
  match i with
  |0=>exact a
  |1=>exact b
  |i+2=>exact c
 have g: ∀i,((⟨C.a,C.b,C.c,D,C.told,C.a8⟩:ak).d i).ws.n≤k:=fun i=>by
  have a:=h.wn 0;have b:=h.wn 1;have c:=h.wn 2
  match i with
  |0=>exact a
  |1=>exact b
  |i+2=>exact c
 have q:=G2 e d;have l:=h.q_;have j:=h.fZ;have n:(((kc ⟨C.a,C.b,C.c,D,C.told,C.a8⟩ ms).told.n:Nat):Int)≤(C.told.n:Int)+600000:=q.t;have m:(kc ⟨C.a,C.b,C.c,D,C.told,C.a8⟩ ms).a8.n≤C.a8.n+1:=q.l;refine vZ q.j (fun i=>ow (ah0 e d g i)) (by rw[q.a];exact f) ?_ ?_
 ·show(kc ⟨C.a,C.b,C.c,D,C.told,C.a8⟩ ms).told.n≤_;omega
 ·show(kc ⟨C.a,C.b,C.c,D,C.told,C.a8⟩ ms).a8.n≤_;omega
theorem HP(C:ak):cr (WH C)=C:=rfl
structure yR (k:Nat) (C X:ak) (v:Int):Prop where
 j: ∀i,bQ (X.d i)
 w: ∀i,(X.d i).ws.n≤k
 a:X.ag=D
 t:(X.told.n:Int)≤(C.told.n:Int)+600000*v
 l:(X.a8.n:Int)≤(C.a8.n:Int)+v
theorem aou{k:Nat}{C X:ak}{v:Int}(h:yR k C X v){ms:ah}(a:gQ ms):yR k C (kc X ms) (v+1):=by
 have q:=G2 h.j a;have c:=h.t;have b:=h.l;have e:=q.t;have d:=q.l;exact⟨q.j,ah0 h.j a h.w,by rw[q.a];exact h.a,by omega,by omega⟩
theorem ZY{k:Nat}{C:ak}{F:G ah}(b:fo F): ∀(m a:Nat) (v:Int) (X:ak),0≤v→v+(m:Int)=(F.n:Int)→m≤a→yR k C X v→yR k C (cr (sd F (a+1) v X)) (F.n:Int)
 |0,a,v,X,c,e,d,h=>by
  rw[sd,bp (show¬v<(F.n:Int) by omega),aS,HP,show(F.n:Int)=v by omega];exact h
 |m+1,a,v,X,c,e,d,h=>by
  obtain⟨a,rfl⟩: ∃q,a=q+1:=⟨a-1,by omega⟩;have f:=b.1;rw[sd,bS (show v<(F.n:Int) by omega),aQ,E _];exact ZY b m a (v+1) _ (by omega) (by omega) (by omega) (aou h (b.2 _ (by omega)))
theorem aov{k:Nat}{C:ak}(h:hl k C):hl (k+1) (w1 C.ag C):=by
 have a:yR k C (Jr C) 0:=by
  refine⟨fun i=> ?_,fun i=> ?_,rfl,by show(C.told.n:Int)≤_;omega,by show(C.a8.n:Int)≤_;omega⟩
  ·have a:=h.j 0;have b:=h.j 1;have c:=h.j 2
   match i with
   |0=>exact a
   |1=>exact b
   |i+2=>exact c
  ·have a:=h.wn 0;have b:=h.wn 1;have c:=h.wn 2
   match i with
   |0=>exact a
   |1=>exact b
   |i+2=>exact c
 have q:=ZY (k:=k) (C:=C) h.a C.ag.n (toNat ((C.ag.n:Int)- (0:Int))) 0 (Jr C) (cR _) (by omega) (by omega) a;have q:yR k C (w1 C.ag C) (C.ag.n:Int):=q;have f:=h.q_;have e:=h.fZ;have d:=h.oG;have j:=q.t;have g:=q.l;exact vZ q.j (fun i=>ow (q.w i)) (by rw[q.a];exact Vb) (by omega) (by omega)
theorem ank{k:Nat}{C:ak}{ac:aJ}(r:k<3000)(h:hl k C)(m:Hf ac):hl (k+1) (gi C ac):=by
 have fu:=ahE (F:=C.ag) m.lI;unfold gi;refine gC (fun _=> ?_) fun _=>gC (fun _=>Cz h _ _ _) fun _=>gC (fun _=>Cz h _ _ _) fun _=>gC (fun _=>Cz h _ _ _) fun _=>gC (fun _=> ?_) fun _=>gC (fun _=> ?_) fun _=>gC (fun _=> ?_) fun _=>gC (fun _=> ?_) fun _=>gC (fun _=>Cz h _ _ _) fun _=>gC (fun _=> ?_) fun _=>gC (fun _=>Cz h _ _ _) fun _=>aov h
 ·have q:=atm (aL:=⟨ac.I,ac.w,ac.m,ac.N,ac.ao,ac.i,ac.aC⟩) (h.j (toNat ac.C)) (by have:=h.wn (toNat ac.C);omega) m.yq m.yr m.ys;have s:=aBl (aL:=⟨ac.I,ac.w,ac.m,ac.N,ac.ao,ac.i,ac.aC⟩) (d:=C.d (toNat ac.C)) (O:=C.told);exact HO h _ q.1 (by have:=h.wn (toNat ac.C);have:=q.2;show(sf _ _).ws.n≤k+1;omega) h.a (by show(Af _ _ _).n≤_;omega) (pJ _ _)
 ·have b:=h.j (toNat ac.C);rw[UP,GK];exact HO h _ ⟨b.i.hJ _ (by kernel_rfl) b.i.u8 b.i.ws,b.o⟩ (ow (h.wn _)) h.a (pJ _ _) (pJ _ _)
 ·refine gC (fun e=> ?_) fun _=>h.succ;have e:=al e;have o:h1 ac C.ag<(C.ag.n:Int):=fu;have j:=wrap64 (x:=h1 ac C.ag+1) (by omega) (by have:=h.oG;omega);exact aBq h (af5 h.a (by rw[j];omega) (by rw[j];omega)) (h.vO _ (by omega))
 ·refine gC (fun e=> ?_) fun _=>h.succ;have e:=al e;have o:jy ac C.ag<(C.ag.n:Int):=fu;have j:=wrap64 (x:=jy ac C.ag+1) (by omega) (by have:=h.oG;omega);have a:=h.succ;have n:fo (G.del C.ag (toNat (jy ac C.ag)) (toNat (i64.wrap (jy ac C.ag+1)))):=af5 h.a (by rw[j];omega) (by rw[j];omega);refine vZ (fun i=> ?_) (fun i=> ?_) n a.q_ a.fZ
  ·have c:=h.j 0;have f:=h.j 1;have g:=h.j 2
   match i with
   |0=>exact c
   |1=>exact f
   |i+2=>exact g
  ·have c:=a.wn 0;have f:=a.wn 1;have g:=a.wn 2
   match i with
   |0=>exact c
   |1=>exact f
   |i+2=>exact g
 ·refine gC (fun e=> ?_) fun _=>h.succ;have a:=h.succ;have o:nY ac C.ag<(C.ag.n:Int):=fu;have n:fo (G.app C.ag (G.lit ([(C.ag.at' (toNat (nY ac C.ag)))]:List ah))):=by
   unfold Ad at e
   cases l:decide ((nY ac C.ag)≥0)with
   |false=>rw[l]at e;cases e
   |true=>
    rw[l]at e;have l:=al l;have p:=al e;exact af4 h.a (by omega) (h.vO _ (by omega))
  refine vZ (fun i=> ?_) (fun i=> ?_) n a.q_ a.fZ
  ·have c:=h.j 0;have f:=h.j 1;have g:=h.j 2
   match i with
   |0=>exact c
   |1=>exact f
   |i+2=>exact g
  ·have c:=a.wn 0;have f:=a.wn 1;have g:=a.wn 2
   match i with
   |0=>exact c
   |1=>exact f
   |i+2=>exact g
 ·have b:=h.j (toNat ac.C);rw[F2,GK];exact HO h _ ⟨b.i.hJ _ (by kernel_rfl) b.i.u8 b.i.ws,b.o⟩ (ow (h.wn _)) h.a (pJ _ _) (pJ _ _)
def atK(q:Key×aB):Key×aB:=match q.1 with
 | .h _ o=>(.h 1 o,q.2)
 |_=>q
def Y7(ids:List Nat):List (Key×aB):=(yb 0++yb 33++yb 66).map atK++yh ids 0++yh ids 1++yh ids 2++[(.h (ids.getD 6 0) 0,.ad cw),(.h (ids.getD 7 0) 0,.ad jK),(.h (ids.getD 8 0) 0,.ad cJ)]
def g9(a:aJ):Prop:=n6 a.q a.C a.z a.I a.w a.m a.N a.ao a.i a.aC=0
theorem Pv{a:aJ}(h:g9 a):Hf a:=by
 have k:=aAM h;exact⟨k.1,k.2.1,k.2.2.1,k.2.2.2.1,dB k.2.2.2.2.1 (by decide),dB k.2.2.2.2.2.1 (by decide),dB k.2.2.2.2.2.2 (by decide)⟩
def lR(A:G aJ)(v:Int)(X:ak):Prop:=(0≤v∧v≤(A.n:Int))∧hl (toNat v) X
theorem MI{A:G aJ}{v:Int}{X:ak}(h:lR A v X):0≤v∧v≤(A.n:Int):=h.1
theorem ag3{A:G aJ}{v:Int}{X:ak}(d:A.n≤3000)(a: ∀q,q<A.n→g9 (A.at' q))(h:lR A v X)(e:v<(A.n:Int)):lR A (i64.wrap (v+1)) (gi X (A.at' (toNat v))):=by
 obtain⟨c,b⟩:=h;rw[E _];refine⟨by omega,?_⟩;rw[show toNat (v+1)=toNat v+1 by omega];exact ank (by omega) b (Pv (a _ (by omega)))
theorem aAx{A:G aJ}{v:Int}{X:ak}(d:A.n≤3000)(a: ∀q,q<A.n→g9 (A.at' q))(h:lR A v X)(e:v<(A.n:Int)):eO X (A.at' (toNat v)):=by
 obtain⟨c,b⟩:=h;exact⟨⟨_,by omega,b⟩,Pv (a _ (by omega))⟩
section
def uw(A:G aJ):Nat→Int→Bool×G iQ×G bF×G aM×Int×Int
 |0,_=>default
 |k+1,az=>(cond (decide (az<(A.n:Int))) (cond ((n6 (A.at' (toNat az)).q (A.at' (toNat az)).C (A.at' (toNat az)).z (A.at' (toNat az)).I (A.at' (toNat az)).w (A.at' (toNat az)).m (A.at' (toNat az)).N (A.at' (toNat az)).ao (A.at' (toNat az)).i (A.at' (toNat az)).aC)!=0) (true,(D:G iQ),(D:G bF),(D:G aM),0,(n6 (A.at' (toNat az)).q (A.at' (toNat az)).C (A.at' (toNat az)).z (A.at' (toNat az)).I (A.at' (toNat az)).w (A.at' (toNat az)).m (A.at' (toNat az)).N (A.at' (toNat az)).ao (A.at' (toNat az)).i (A.at' (toNat az)).aC)) (uw A k (i64.wrap (az+1)))) (false,default,default,default,default,default))
variable(A:G aJ)
def sc:Bool×G iQ×G bF×G aM×Int×Int:=uw A ((toNat ((A.n:Int)-0))+1) 0
def l4:Bool:=(cond (sc A).1 false true)
def uv:ak:=let p:=Ey xg;let o:=Ev xi;let n:=Eu xh;let m:=Et E0;let l:=Es EZ;let k:=En xg;let j:=Em uS;let i:=El uR;let h:=Ek uQ;let g:=Ej uP;let f:=Ei uS;let e:=Eh uR;let d:=Eg uQ;let c:=Ef uP;let b:=Ee AH;let a:=Ew xf;⟨⟨(wP 0),true,Eo,wZ,l,m,n,o,a,p,b,c,d,e,f,g,h,i,j,k,wQ,wR,wS,wT,wU,wV,wW,wX,wY,(D:G hz),Ep,Er,(D:G ah)⟩,⟨(wP 1),true,Eo,wZ,l,m,n,o,a,p,b,c,d,e,f,g,h,i,j,k,wQ,wR,wS,wT,wU,wV,wW,wX,wY,(D:G hz),Ep,Er,(D:G ah)⟩,⟨(wP 2),true,Eo,wZ,l,m,n,o,a,p,b,c,d,e,f,g,h,i,j,k,wQ,wR,wS,wT,wU,wV,wW,wX,wY,(D:G hz),Ep,Er,(D:G ah)⟩,(D:G ah),(D:G bF),(D:G aM)⟩
def R0(a:Int)(b:ak):ak:=(gi b (A.at' (toNat a)))
def sb(A:G aJ):Nat→Int→ak→jo
 |0,_,_=>default
 |k+1,a,b=>(cond (decide (a<(A.n:Int))) (sb A k (i64.wrap (a+1)) (R0 A a b)) (WH b))
def dc:jo:=sb A ((toNat ((A.n:Int)- (0:Int)))+1) (0:Int) uv
def R1(A:G aJ):Nat→Int→G bF→G bF
 |0,_,_=>default
 |k+1,a,b=>(cond (decide (a<(((cr (dc A)).told.n:Nat):Int))) (R1 A k (i64.wrap (a+1)) (G.app b (G.lit ([((cr (dc A)).told.at' (toNat a))]:List bF)))) b)
def ab0:G bF:=R1 A ((toNat ((((cr (dc A)).told.n:Nat):Int)-0))+1) 0 (D:G bF)
def Ed:G iQ:=(cond (decide ((A.n:Int)>3000)) (D:G iQ) (cond (l4 A) (G.app (G.app (G.lit ([(⟨((cr (dc A)).d 0).up,((cr (dc A)).d 0).a6,(((cr (dc A)).d 0).ro==3),((cr (dc A)).d 0).co,((cr (dc A)).d 0).j,((cr (dc A)).d 0).lt,((cr (dc A)).d 0).li,(Ez ((cr (dc A)).d 0).e5),(EA ((cr (dc A)).d 0).c6),(EB ((cr (dc A)).d 0).eN),(EC ((cr (dc A)).d 0).dW)⟩:iQ)]:List iQ)) (G.lit ([(⟨((cr (dc A)).d 1).up,((cr (dc A)).d 1).a6,(((cr (dc A)).d 1).ro==3),((cr (dc A)).d 1).co,((cr (dc A)).d 1).j,((cr (dc A)).d 1).lt,((cr (dc A)).d 1).li,(Ez ((cr (dc A)).d 1).e5),(EA ((cr (dc A)).d 1).c6),(EB ((cr (dc A)).d 1).eN),(EC ((cr (dc A)).d 1).dW)⟩:iQ)]:List iQ))) (G.lit ([(⟨((cr (dc A)).d 2).up,((cr (dc A)).d 2).a6,(((cr (dc A)).d 2).ro==3),((cr (dc A)).d 2).co,((cr (dc A)).d 2).j,((cr (dc A)).d 2).lt,((cr (dc A)).d 2).li,(Ez ((cr (dc A)).d 2).e5),(EA ((cr (dc A)).d 2).c6),(EB ((cr (dc A)).d 2).eN),(EC ((cr (dc A)).d 2).dW)⟩:iQ)]:List iQ))) (sc A).2.1))
def abX:G bF:=(cond (decide ((A.n:Int)>3000)) (D:G bF) (cond (l4 A) (ab0 A) (sc A).2.2.1))
def abY:G aM:=(cond (decide ((A.n:Int)>3000)) (D:G aM) (cond (l4 A) (G.cut (Ae (cr (dc A)).a8) (cr (dc A)).a8.n) (sc A).2.2.2.1))
def abZ:Int:=(cond (decide ((A.n:Int)>3000)) 0 (cond (l4 A) (((cr (dc A)).ag.n:Nat):Int) (sc A).2.2.2.2.1))
def Jq:Int:=(cond (decide ((A.n:Int)>3000)) 1 (cond (l4 A) 0 (sc A).2.2.2.2.2))
theorem YT(A:G aJ)(i:A.n≤3000): ∀(m a:Nat) (v:Int),0≤v→v+(m:Int)=(A.n:Int)→m≤a→(uw A (a+1) v).1=false→ ∀q:Nat,v≤(q:Int)→q<A.n→g9 (A.at' q)
 |0,a,v,d,g,f,h,q,j,b=>by omega
 |m+1,a,v,d,g,f,h,q,j,b=>by
  obtain⟨a,rfl⟩: ∃q,a=q+1:=⟨a-1,by omega⟩;rw[uw,bS (show v<(A.n:Int) by omega)]at h;simp only[aQ]at h
  cases e:(n6 (A.at' (toNat v)).q (A.at' (toNat v)).C (A.at' (toNat v)).z (A.at' (toNat v)).I (A.at' (toNat v)).w (A.at' (toNat v)).m (A.at' (toNat v)).N (A.at' (toNat v)).ao (A.at' (toNat v)).i (A.at' (toNat v)).aC !=0)with
  |true=>rw[e]at h;cases h
  |false=>
   rw[e]at h;simp only[aS]at h;rw[E _]at h
   by_cases c:(q:Int)=v
   ·have:q=toNat v:=by omega
    subst this;exact bB e
   ·exact YT A i m a (v+1) (by omega) (by omega) (by omega) h q (by omega) b
theorem vV{A:G aJ}(b:decide ((A.n:Int)>3000)=false)(h:l4 A=true):A.n≤3000∧ ∀q,q<A.n→g9 (A.at' q):=by
 have a:=hy b;have a:A.n≤3000:=by omega
 refine⟨a,fun q c=> ?_⟩;have e:(sc A).1=false:=by
  unfold l4 at h
  cases z:(sc A).1 with
  |true=>rw[z]at h;cases h
  |false=>rfl
 exact YT A a A.n _ 0 (cR _) (by omega) (by omega) e q (by omega) c
theorem UT(i:Int)(h:0≤i∧i<3):bQ ⟨(wP i),true,Eo,wZ,(Es EZ),(Et E0),(Eu xh),(Ev xi),(Ew xf),(Ey xg),(Ee AH),(Ef uP),(Eg uQ),(Eh uR),(Ei uS),(Ej uP),(Ek uQ),(El uR),(Em uS),(En xg),wQ,wR,wS,wT,wU,wV,wW,wX,wY,(D:G hz),Ep,Er,(D:G ah)⟩:=by
 have z:(0:Int)≤0∧(0:Int)≤1048577:=by decide
 have a:(0:Int)≤0∧(0:Int)≤1048576:=by decide
 exact⟨⟨h,cR _,cR _,a.2,cf _,(by decide:(0:Int)+((0:Nat):Int)≤1048576),cf _,⟨z,z,z⟩,lF,GY,a,⟨a,a,a⟩⟩,⟨cf _,fun j b=>absurd b (en j)⟩⟩
theorem anj:hl 0 uv:=by
 have a:=UT 0 (by decide);have b:=UT 1 (by decide);have c:=UT 2 (by decide);refine vZ (fun i=> ?_) (fun i=> ?_) Vb (bC _) (bC _)
 ·match i with
  |0=>exact a
  |1=>exact b
  |i+2=>exact c
 ·match i with
  |0=>exact bC _
  |1=>exact bC _
  |i+2=>exact bC _
theorem ag2{A:G aJ} :lR A (0:Int) uv:=⟨⟨cR _,by omega⟩,anj⟩
theorem aAE{A:G aJ}{v:Int}{X:ak}(a:decide ((A.n:Int)>3000)=false)(b:l4 A=true)(h:lR A v X)(c:decide (v<(A.n:Int))=true):lR A (i64.wrap (v+1)) (R0 A v X):=ag3 (vV a b).1 (vV a b).2 h (al c)
theorem aAy{A:G aJ}{v:Int}{X:ak}(a:decide ((A.n:Int)>3000)=false)(b:l4 A=true)(h:lR A v X)(c:decide (v<(A.n:Int))=true):eO X (A.at' (toNat v)):=aAx (vV a b).1 (vV a b).2 h (al c)
theorem ag4{A:G aJ}(c:A.n≤3000)(b: ∀q,q<A.n→g9 (A.at' q)): ∀(m a:Nat) (v:Int) (X:ak),v+(m:Int)=(A.n:Int)→m≤a→lR A v X→lR A (A.n:Int) (cr (sb A (a+1) v X))
 |0,a,v,X,g,f,h=>by
  have e:=MI h;rw[sb,bp (show¬v<(A.n:Int) by omega),aS,HP,show(A.n:Int)=v by omega];exact h
 |m+1,a,v,X,g,f,h=>by
  obtain⟨a,rfl⟩: ∃q,a=q+1:=⟨a-1,by omega⟩;have e:=MI h;have d:=ag3 c b h (by omega);rw[sb,bS (show v<(A.n:Int) by omega),aQ];rw[E _]at d ⊢;exact ag4 c b m a (v+1) _ (by omega) (by omega) d
theorem Y6{A:G aJ}(a:decide ((A.n:Int)>3000)=false)(b:l4 A=true):hl A.n (cr (dc A)):=by
 have h:=(ag4 (vV a b).1 (vV a b).2 A.n (toNat ((A.n:Int)- (0:Int))) 0 uv (by omega) (by omega) ag2).2;rw[show toNat (A.n:Int)=A.n by omega]at h;exact h
theorem Wb{A:G aJ}(a:decide ((A.n:Int)>3000)=false)(b:l4 A=true):(cr (dc A)).told.n≤540003000000∧(cr (dc A)).a8.n≤900000∧(cr (dc A)).ag.n≤300:=by
 have h:=Y6 a b;have d:=(vV a b).1;have e:=h.q_;have c:=h.fZ;exact⟨by omega,by omega,h.oG⟩
def akF:ba:=⟨[.v (.ab lO)],fun A=>⟨⟨none,.c7 [.agg [aI 11 H0 (Ed A),aI 12 HY (abX A),aI 2 HZ (abY A),b (abZ A)],b (Jq A)]⟩⟩⟩
def Vg(A:G aJ):Prop:=((decide ((A.n:Int)>3000))=false→((((0≤(0:Int)∧(0:Int)≤(A.n:Int)))∧(∀(az:Int),(0≤az∧az≤(A.n:Int))→(((decide (az<(A.n:Int)))=true→((0:Int)≤az∧az<(A.n:Int)))∧((decide (az<(A.n:Int)))=true→(((n6 (A.at' (toNat az)).q (A.at' (toNat az)).C (A.at' (toNat az)).z (A.at' (toNat az)).I (A.at' (toNat az)).w (A.at' (toNat az)).m (A.at' (toNat az)).N (A.at' (toNat az)).ao (A.at' (toNat az)).i (A.at' (toNat az)).aC)!=0)=false→((0≤(i64.wrap (az+1))∧(i64.wrap (az+1))≤(A.n:Int))∧(toNat ((A.n:Int)- (i64.wrap (az+1))))<(toNat ((A.n:Int)-az))))))))∧((l4 A)=true→(((lR A (0:Int) uv)∧(yY (aB.int .i64::b4) fun(b:Int×jo)=>lR A b.1 (cr b.2)→(((decide (b.1<(A.n:Int)))=true→(((0:Int)≤b.1∧b.1<(A.n:Int))∧(eO (cr b.2) (A.at' (toNat b.1)))))∧((decide (b.1<(A.n:Int)))=true→(lR A (i64.wrap (b.1+1)) (R0 A b.1 (cr b.2))∧(toNat ((A.n:Int)- (i64.wrap (b.1+1))))<(toNat ((A.n:Int)-b.1)))))))∧(((((0≤(0:Int)∧(0:Int)≤(((cr (dc A)).told.n:Nat):Int))∧((0:Nat):Int)≤0+((0:Int)-0)))∧(∀(a:Int) (c:G bF),((0≤a∧a≤(((cr (dc A)).told.n:Nat):Int))∧(c.n:Int)≤0+(a-0))→(((decide (a<(((cr (dc A)).told.n:Nat):Int)))=true→((((0:Int)≤a∧a<(((cr (dc A)).told.n:Nat):Int))∧((toNat a)<(cr (dc A)).told.n))∧(c.n+1≤549755813888)))∧(((decide (a<(((cr (dc A)).told.n:Nat):Int)))=true→(((0≤(i64.wrap (a+1))∧(i64.wrap (a+1))≤(((cr (dc A)).told.n:Nat):Int))∧(((c.n+1):Nat):Int)≤0+((i64.wrap (a+1))-0))∧(toNat ((((cr (dc A)).told.n:Nat):Int)- (i64.wrap (a+1))))<(toNat ((((cr (dc A)).told.n:Nat):Int)-a))))∧((decide (a<(((cr (dc A)).told.n:Nat):Int)))=false→((c.n:Int)≤0+max ((((cr (dc A)).told.n:Nat):Int)-0) 0))))))∧(((((ab0 A).n:Nat):Int)≤0+max ((((cr (dc A)).told.n:Nat):Int)-0) 0)→(((cr (dc A)).a8.n≤900000)∧((1≤549755813888)∧((1+1≤549755813888)∧((1+1)+1≤549755813888))))))))))
theorem ayl(A:G aJ)(s:A.n≤549755813888):Vg A:=by
 unfold Vg;exact(fun k=>⟨⟨(by omega),(fun az q=>⟨(fun d=>(by have:=al d;omega)),(fun e=>(fun m=>(by have:=al e;have:=E (az+1);omega)))⟩)⟩,(fun n=>⟨⟨(by apply ag2),((CB _ _).2 fun(i:Int×jo) r=>⟨(fun f=>⟨(by have:=al f;(try have h:=MI (by assumption));omega),(by repeat first|assumption|apply aAy)⟩),(fun g=>⟨(by repeat first|assumption|apply aAE),(by have:=al g;(try have h:=MI (by assumption));have:=E (i.1+1);omega)⟩)⟩)⟩,⟨⟨(by omega),(fun j t p=>⟨(fun a=>⟨⟨(by have:=al a;omega),(by have:=al a;omega)⟩,(by(try have b:=Wb (by assumption) (by assumption));omega)⟩),⟨(fun c=>(by have:=al c;(try have b:=Wb (by assumption) (by assumption));have:=E (j+1);omega)),(fun l=>(by omega))⟩⟩)⟩,(fun o=>⟨(by(try have b:=Wb (by assumption) (by assumption));omega),⟨(by omega),⟨(by omega),(by omega)⟩⟩⟩)⟩⟩)⟩)
def XB:cG:=⟨.pure,[.cell 2 27,.tmp 3],[(.c 0 0,.ab NB),(.c 0 1,.ab jK),(.c 0 2,.ab cJ),(.c 0 3,a),(.t 1,a)],⟨[.agg (us 4 []),U],[]⟩⟩
def aqv:cb XB.b1:=let c:=cr (dc A);(.ae (.ae (.j ⟨13,[],[],[],.f⟩ (.ae (.cW ⟨14680077,[],[],[(.t 23,a)],some 0,true,13,[],[],fun k (s:Int)=>uw A k s,.f,fun(s:Int)=>(0≤s∧s≤(A.n:Int)),fun(s:Int)=>(toNat ((A.n:Int)-s)),none⟩ .z)) (.ae (.s (.ae (.un 3 (.s (.ae (.s (.c true .z) .z)) (.s (.ae (.s (.c true .z) .z)) (.s (.ae (.s (.c true .z) .z)) (.ae (.s (.c false .z) .z))))))) (.j ⟨140,[],[],[],.f⟩ (.ae (.x3 ⟨126100789566374028,[],[(.h 1 29,dd),(.h 1 32,cw),(.h 1 62,dd),(.h 1 65,cw),(.h 1 95,dd),(.h 1 98,cw),(.h 1 99,cw),(.h 1 100,jK),(.h 1 101,cJ)],(.t 56,a)::Y7 [2,3,4,5,6,7,8,9,10],some 4,false,140,[],Y7 [2,3,4,5,6,7,8,9,10],fun k (b:Int×jo)=>sb A k b.1 (cr b.2),.f,fun(b:Int×jo)=>lR A b.1 (cr b.2),fun(b:Int×jo)=>(toNat ((A.n:Int)-b.1)),none⟩ (fun(b:Int×jo)=>(.ae (.ae (.ae (.rL [] [.own (.h 1 29) dd 2,.own (.h 1 62) dd 4,.own (.h 1 95) dd 6,.own (.h 1 32) cw 3,.own (.h 1 65) cw 5,.own (.h 1 98) cw 7,.own (.h 1 99) cw 8]))))))) (.ae (.j ⟨2188,[],[],[],.f⟩ (.ae (.cW ⟨1057810092162800527870092,[],[(.h 11 1,jK)],[(.t 79,a),(.h 12 0,.ad jK)],some 6,false,2188,[],[(.h 12 0,.ad jK)],fun k (s:Int×G bF)=>R1 A k s.1 s.2,.f,fun(s:Int×G bF)=>((0≤s.1∧s.1≤(c.told.n:Int))∧(s.2.n:Int)≤0+(s.1-0)),fun(s:Int×G bF)=>(toNat ((c.told.n:Int)-s.1)),some fun(r:G bF)=>(r.n:Int)≤0+max ((c.told.n:Int)-0) 0⟩ .z)) (.ae (.s (.ae (.un 3 (.s (.ae (.s (.c true .z) .z)) (.s (.ae (.s (.c true .z) .z)) (.s (.ae (.s (.c true .z) .z)) (.ae (.s (.c false .z) .z))))))) .z))))))))))
theorem avi:bn 23 akF:=bq Tryz.func23
 fun A a _=>bu XB (aqv A) (Vg A) (bJ 0 (aG aeE (aG avL (aG Bb (aG Be (aG aet (aG avl aT)))))) (aj avk (aj avj bI))) Tryz.func23 (ayl A a)
end
section
variable(A:Int)(g:Int)(r:Int)(h:Int)(o:u)(c:Int)(v:Int)(y:u)
def SI:Int:=(cond (decide (A<0)) (i64.wrap (0- (i64.wrap (A+1)))) A)
def cx:Int:=((SI A).tmod g)
def akY:ba:=⟨[.v a,.v a],fun(A:Int) (g:Int)=>⟨⟨some (0<g),b (cx A g)⟩⟩⟩
theorem Ui:bn 26 akY:=bq Tryz.func26
 fun(A:Int) (g:Int) b=>bu ⟨.pure,[.tmp 4],[(.t 0,a)],⟨[U],[]⟩⟩ (.ae (.j ⟨19,[],[(.t 0,a)],[],.f⟩ .z .z)) ((g:Int)≠0) fb Tryz.func26 ((by omega))
def a2:Int:=(cx A g)
def akV:ba:=⟨[.v a,.v a],fun(A:Int) (g:Int)=>⟨⟨some (0<g),b (a2 A g)⟩⟩⟩
theorem Uh:bn 19 akV:=bq Tryz.func19
 fun(A:Int) (g:Int) b=>bu ⟨.pure,[.tmp 4],[(.t 0,a)],⟨[U],[]⟩⟩ (.z) (0<g) (cu (aG Ui aT)) Tryz.func19 ((by omega))
def kA:u:=(G.toStr (G.lit ([(u8.wrap (i64.wrap (97+(cx A 9))))]:List Int)))
def ak1:ba:=⟨[.v a],fun A=>⟨⟨none,.str (kA A)⟩⟩⟩
theorem avH:bn 78 ak1:=bq Tryz.func78
 fun(A:Int)=>bu ⟨.pure,[.tmp 2],[(.t 0,ai)],⟨[U],[]⟩⟩ (.z) (0<(9:Int)) (cu (aG Ui aT)) Tryz.func78 ((by omega))
def J9(A:u)(g:Int):u:=((A:u).extract (toNat 0) (toNat (fs ((A:u).size:Int) g)))
def ak2:ba:=⟨[.v ai,.v a],fun A (g:Int)=>⟨⟨some (0≤g),.str (J9 A g)⟩⟩⟩
theorem avI:bn 79 ak2:=bq Tryz.func79
 fun A c (g:Int) b=>bu ⟨.pure,[.tmp 4],[(.t 0,ai)],⟨[U],[]⟩⟩ (.z) (let a:=fs ((A:u).size:Int) g;((0:Int)≤0)∧((0:Int)≤a)∧((a:Int)≤((A:u).size:Int))) fb Tryz.func79 ((by have:=ob ((A:u).size:Int) g;omega))
def AL:u:=(cond ((cx h 3)==0) (kA h) (J9 o 6))
def sq:Bool:=(cond ((i64.wrap (1+(cx A 22)))==1) ((i64.wrap (1+(cx A 22)))==1) (cond ((i64.wrap (1+(cx A 22)))==7) ((i64.wrap (1+(cx A 22)))==7) (cond ((i64.wrap (1+(cx A 22)))==8) ((i64.wrap (1+(cx A 22)))==8) (cond ((i64.wrap (1+(cx A 22)))==11) ((i64.wrap (1+(cx A 22)))==11) (cond ((i64.wrap (1+(cx A 22)))==12) ((i64.wrap (1+(cx A 22)))==12) (cond ((i64.wrap (1+(cx A 22)))==13) ((i64.wrap (1+(cx A 22)))==13) (cond ((i64.wrap (1+(cx A 22)))==15) ((i64.wrap (1+(cx A 22)))==15) ((i64.wrap (1+(cx A 22)))==16))))))))
def xl:Bool:=(cond ((i64.wrap (1+(cx A 22)))==5) ((i64.wrap (1+(cx A 22)))==5) ((i64.wrap (1+(cx A 22)))==6))
def acC:u:=(cond (sq A) (kA g) (cond ((i64.wrap (1+(cx A 22)))==3) (kA g) (cond ((i64.wrap (1+(cx A 22)))==20) (kA g) (cond ((i64.wrap (1+(cx A 22)))==4) (kA g) (cond (xl A) (kA g) (cond ((i64.wrap (1+(cx A 22)))==14) (kA g) (cond ((i64.wrap (1+(cx A 22)))==22) ⟨#[]⟩ (kA g))))))))
def acD:u:=(cond (sq A) ⟨#[]⟩ (cond ((i64.wrap (1+(cx A 22)))==3) ⟨#[]⟩ (cond ((i64.wrap (1+(cx A 22)))==20) ⟨#[]⟩ (cond ((i64.wrap (1+(cx A 22)))==4) (kA r) (cond (xl A) (kA r) ⟨#[]⟩)))))
def acE:u:=(cond (sq A) (AL h o) (cond ((i64.wrap (1+(cx A 22)))==3) ⟨#[]⟩ (cond ((i64.wrap (1+(cx A 22)))==20) ⟨#[]⟩ (cond ((i64.wrap (1+(cx A 22)))==4) (AL h o) (cond (xl A) ⟨#[]⟩ (cond ((i64.wrap (1+(cx A 22)))==14) (AL h o) ⟨#[]⟩))))))
def acF:Int:=(cond (sq A) 0 (cond ((i64.wrap (1+(cx A 22)))==3) (h.tmod 1073741824) (cond ((i64.wrap (1+(cx A 22)))==20) (cx h 60) (cond ((i64.wrap (1+(cx A 22)))==4) 0 (cond (xl A) 0 (cond ((i64.wrap (1+(cx A 22)))==14) (i64.wrap ((cx h 12)-6)) 0))))))
def J4:Int:=(i64.wrap (1+(cx A 22)))
def J5:u:=(acC A g)
def J6:u:=(acD A r)
def J7:u:=(acE A h o)
def J8:Int:=(acF A h)
def ak0:ba:=⟨[.g [a,a,a,a,ai]],fun A g r h o=>⟨⟨none,.agg [b (J4 A),.str (J5 A g),.str (J6 A r),.str (J7 A h o),b (J8 A h)]⟩⟩⟩
theorem avG:bn 49 ak0:=bq Tryz.func49
 fun(A:Int) (g:Int) (r:Int) (h:Int) o n=>bu ⟨.pure,[.cell 2 34],[(.c 0 0,a),(.c 0 1,ai),(.c 0 2,ai),(.c 0 3,ai),(.c 0 4,a)],⟨[.agg (us 5 [])],[]⟩⟩ (.ae (.ae (.ae (.j ⟨30,[],[(.t 4,ai)],[],.f⟩ .z (.j ⟨12,[.b 0],[(.h 2 1,ai),(.h 2 2,ai),(.h 2 3,ai),(.h 2 4,a)],[.f,(.b .f (.b .f (.b .f (.b .f (.b .f .l))))),(.b .f (.b .f (.b .f (.b .f (.b .f (.b .f .l)))))),(.b .f (.b .f (.b .f (.b .f (.b .f (.b .f .l))))))],.f⟩ (.ae (.j ⟨50331678,[],[(.t 25,l)],[],.f⟩ .z (.ae (.ae (.ae (.ae (.ae (.ae (.ae (.j ⟨72057594054705182,[],[(.t 56,l)],[],.f⟩ .z .z)))))))))) .z))))) (let b:=i64.wrap (1+(cx A 22));(0<(22:Int))∧((0≤(6:Int))∧((0<(3:Int))∧((sq A)=false→(((b==3)=true→((1073741824:Int)≠0))∧((b==3)=false→(((b==20)=true→(0<(60:Int)))∧((b==20)=false→((b==4)=false→((xl A)=false→((b==14)=true→(0<(12:Int))))))))))))) (cu (aG Ui (aG avH (aG avI aT)))) Tryz.func49 (⟨(by omega),⟨(by omega),⟨(by omega),(fun c=>⟨(fun e=>(by have:=c;simp [sq]at this;have:=eq_of_beq e;omega)),(fun d=>⟨(fun f=>(by have:=c;simp [sq]at this;have:=cZ d;have:=eq_of_beq f;omega)),(fun i=>(fun j=>(fun k=>(fun m=>(by have:=c;simp [sq]at this;have:=cZ d;have:=cZ i;have:=cZ j;have:=k;simp [xl]at this;have:=eq_of_beq m;omega)))))⟩)⟩)⟩⟩⟩)
def JV:Int:=(cond ((a2 r 4)==0) 0 (a2 r 4))
def JW:Int:=(cond ((a2 r 4)==0) 0 (i64.wrap (1+(a2 g 4))))
def JX:Int:=(cond ((a2 r 4)==0) 0 (J4 h))
def JY(o:Int):u:=(cond ((a2 r 4)==0) ⟨#[]⟩ (J5 h o))
def JZ:u:=(cond ((a2 r 4)==0) ⟨#[]⟩ (J6 h c))
def J0:u:=(cond ((a2 r 4)==0) ⟨#[]⟩ (J7 h v y))
def J3:Int:=(cond ((a2 r 4)==0) 0 (J8 h v))
def akZ:ba:=⟨[.g [a,a,a,a,a,a,a,ai]],fun _ g r h o c v y=>⟨⟨none,.agg [b (JV r),b (JW g r),b (JX r h),.str (JY r h o),.str (JZ r h c),.str (J0 r h v y),b (J3 r h v)]⟩⟩⟩
theorem avF:bn 37 akZ:=bq Tryz.func37
 fun(A:Int) (g:Int) (r:Int) (h:Int) (o:Int) (c:Int) (v:Int) y d=>bu ⟨.pure,[.cell 2 36],[(.c 0 0,a),(.c 0 1,a),(.c 0 2,a),(.c 0 3,ai),(.c 0 4,ai),(.c 0 5,ai),(.c 0 6,a)],⟨[.agg (us 7 [])],[]⟩⟩ (.z) ((0<(4:Int))∧(((a2 r 4)==0)=false→(0<(4:Int)))) (cu (aG Uh (aG avG aT))) Tryz.func37 (⟨(by omega),(fun b=>(by omega))⟩)
def kz:Bool:=(cond ((a2 A 20)==0) ((a2 A 20)==0) (cond ((a2 A 20)==1) ((a2 A 20)==1) ((a2 A 20)==2)))
def qp:Bool:=(cond ((a2 A 20)==3) ((a2 A 20)==3) ((a2 A 20)==4))
def qq:Bool:=(cond ((a2 A 20)==5) ((a2 A 20)==5) (cond ((a2 A 20)==6) ((a2 A 20)==6) ((a2 A 20)==7)))
def qs:Bool:=(cond ((a2 A 20)==8) ((a2 A 20)==8) (cond ((a2 A 20)==9) ((a2 A 20)==9) (cond ((a2 A 20)==10) ((a2 A 20)==10) ((a2 A 20)==11))))
def JL:Int:=(cond (kz A) 1 (cond (qp A) 2 (cond (qq A) 3 (cond (qs A) 4 (cond ((a2 A 20)==12) 6 (cond ((a2 A 20)==13) 7 (cond ((a2 A 20)==14) 8 (cond ((a2 A 20)==15) 9 (cond ((a2 A 20)==16) 10 (cond ((a2 A 20)==17) 11 (cond ((a2 A 20)==18) 5 12)))))))))))
def JM:Int:=(cond (kz A) (a2 g 3) (cond (qp A) (a2 g 3) (cond (qq A) (a2 g 3) (cond (qs A) (a2 g 3) (cond ((a2 A 20)==12) 0 (cond ((a2 A 20)==13) 0 (cond ((a2 A 20)==14) 0 (cond ((a2 A 20)==15) (a2 g 3) (cond ((a2 A 20)==16) (a2 g 3) (cond ((a2 A 20)==17) (a2 g 3) (cond ((a2 A 20)==18) (a2 g 3) 0)))))))))))
def JN:Int:=(cond (kz A) 0 (cond (qp A) 0 (cond (qq A) 0 (cond (qs A) 0 (cond ((a2 A 20)==12) (a2 r 300) (cond ((a2 A 20)==13) (a2 r 300) (cond ((a2 A 20)==14) (a2 r 300) (cond ((a2 A 20)==15) (a2 r 500) (cond ((a2 A 20)==16) 0 (cond ((a2 A 20)==17) 0 (cond ((a2 A 20)==18) (a2 r 40) 0)))))))))))
def JO:Int:=(cond (kz A) (JV r) 0)
def JP:Int:=(cond (kz A) (JW g r) 0)
def JQ:Int:=(cond (kz A) (JX r h) 0)
def JR(o:Int):u:=(cond (kz A) (JY r h o) ⟨#[]⟩)
def JS:u:=(cond (kz A) (JZ r h c) ⟨#[]⟩)
def JT:u:=(cond (kz A) (J0 r h v y) ⟨#[]⟩)
def JU:Int:=(cond (kz A) (J3 r h v) 0)
def akX:ba:=⟨[.g [a,a,a,a,a,a,a,ai]],fun A g r h o c v y=>⟨⟨none,.agg [b (JL A),b (JM A g),b (JN A r),b (JO A r),b (JP A g r),b (JQ A r h),.str (JR A r h o),.str (JS A r h c),.str (JT A r h v y),b (JU A r h v)]⟩⟩⟩
theorem avE:bn 24 akX:=bq Tryz.func24
 fun(A:Int) (g:Int) (r:Int) (h:Int) (o:Int) (c:Int) (v:Int) y z=>bu (ms:=[.f,.f,.f,(.b .f .l),(.b .f .l),(.b .f .l),(.b .f .l),(.b .f .l),(.b .f .l),(.b .f .l)]) ⟨.pure,[.cell 2 38],[(.c 0 0,a),(.c 0 1,a),(.c 0 2,a),(.c 0 3,a),(.c 0 4,a),(.c 0 5,a),(.c 0 6,ai),(.c 0 7,ai),(.c 0 8,ai),(.c 0 9,a)],⟨[.agg (us 10 [])],[]⟩⟩ (.ae (.ae (.s (.ae (.j ⟨1550,[],[(.t 10,l)],[],.f⟩ .z (.ae (.j ⟨262670,[],[(.t 18,l)],[],.f⟩ .z (.ae (.j ⟨8389134,[],[(.t 23,l)],[],.f⟩ .z (.ae (.j ⟨536871438,[],[(.t 29,l)],[],.f⟩ .z .z)))))))) .z))) (let b:=a2 A 20;(0<(3:Int))∧((0<(20:Int))∧((kz A)=false→((qp A)=false→((qq A)=false→((qs A)=false→(((b==12)=true→(0<(300:Int)))∧((b==12)=false→(((b==13)=true→(0<(300:Int)))∧((b==13)=false→(((b==14)=true→(0<(300:Int)))∧((b==14)=false→(((b==15)=true→(0<(500:Int)))∧((b==15)=false→((b==16)=false→((b==17)=false→((b==18)=true→(0<(40:Int))))))))))))))))))) (cu (aG Uh (aG avF aT))) Tryz.func24 (⟨(by omega),⟨(by omega),(fun d=>(fun e=>(fun f=>(fun i=>⟨(fun u=>(by have:=d;simp [kz]at this;have:=e;simp [qp]at this;have:=f;simp [qq]at this;have:=i;simp [qs]at this;have:=eq_of_beq u;omega)),(fun j=>⟨(fun w=>(by have:=d;simp [kz]at this;have:=e;simp [qp]at this;have:=f;simp [qq]at this;have:=i;simp [qs]at this;have:=cZ j;have:=eq_of_beq w;omega)),(fun k=>⟨(fun x=>(by have:=d;simp [kz]at this;have:=e;simp [qp]at this;have:=f;simp [qq]at this;have:=i;simp [qs]at this;have:=cZ j;have:=cZ k;have:=eq_of_beq x;omega)),(fun m=>⟨(fun n=>(by have:=d;simp [kz]at this;have:=e;simp [qp]at this;have:=f;simp [qq]at this;have:=i;simp [qs]at this;have:=cZ j;have:=cZ k;have:=cZ m;have:=eq_of_beq n;omega)),(fun p=>(fun q=>(fun s=>(fun t=>(by have:=d;simp [kz]at this;have:=e;simp [qp]at this;have:=f;simp [qq]at this;have:=i;simp [qs]at this;have:=cZ j;have:=cZ k;have:=cZ m;have:=cZ p;have:=cZ q;have:=cZ s;have:=eq_of_beq t;omega)))))⟩)⟩)⟩)⟩))))⟩⟩)
def n3(A:G iw)(g:Int)(e:Int):Bool:=(cond (decide (e<(A.n:Int))) (decide (e<g)) false)
def so(A:G iw)(g:Int):Nat→Int→G aJ→G aJ
 |0,_,_=>default
 |k+1,e,f=>(cond (n3 A g e) (so A g k (i64.wrap (e+1)) (G.app f (G.lit ([(⟨(JL (A.at' (toNat e)).q),(JM (A.at' (toNat e)).q (A.at' (toNat e)).C),(JN (A.at' (toNat e)).q (A.at' (toNat e)).z),(JO (A.at' (toNat e)).q (A.at' (toNat e)).z),(JP (A.at' (toNat e)).q (A.at' (toNat e)).C (A.at' (toNat e)).z),(JQ (A.at' (toNat e)).q (A.at' (toNat e)).z (A.at' (toNat e)).I),(JR (A.at' (toNat e)).q (A.at' (toNat e)).z (A.at' (toNat e)).I (A.at' (toNat e)).w),(JS (A.at' (toNat e)).q (A.at' (toNat e)).z (A.at' (toNat e)).I (A.at' (toNat e)).m),(JT (A.at' (toNat e)).q (A.at' (toNat e)).z (A.at' (toNat e)).I (A.at' (toNat e)).N (A.at' (toNat e)).ao),(JU (A.at' (toNat e)).q (A.at' (toNat e)).z (A.at' (toNat e)).I (A.at' (toNat e)).N)⟩:aJ)]:List aJ)))) f)
def ap3(A:G iw)(g:Int):G aJ:=so A g ((toNat ((A.n:Int)-0))+1) 0 (D:G aJ)
def e9(A:G iw)(g:Int):G aJ:=(ap3 A g)
def akU:ba:=⟨[.v (.ab NC),.v a],fun A g=>⟨⟨none,(aB.ad lO).av (e9 A g)⟩⟩⟩
theorem avC:bn 14 akU:=bq Tryz.func14
 fun A i _ (g:Int)=>bu ⟨.own lO,[.tmp 4],[(.h 0 0,.ad lO)],⟨[],[]⟩⟩ (.ae (.ae (.j ⟨48,[],[],[],.f⟩ (.ae (.cW ⟨115,[],[(.t 5,lO)],[(.t 6,a),(.h 0 0,.ad lO)],some 0,false,48,[],[(.h 0 0,.ad lO)],fun k (s:Int×G aJ)=>so A g k s.1 s.2,.f,fun(s:Int×G aJ)=>(0≤s.1∧s.1≤(A.n:Int)∧(s.2.n:Int)=s.1),fun(s:Int×G aJ)=>(toNat ((A.n:Int)-s.1)),none⟩ (.s (.j ⟨73587,[],[(.t 12,l),(.t 16,l)],[],.f⟩ .z .z) .z))) .z))) (((0≤(0:Int)∧(0:Int)≤(A.n:Int)∧((0:Nat):Int)=(0:Int)))∧(∀(e:Int) (f:G aJ),let b:=i64.wrap (e+1);(0≤e∧e≤(A.n:Int)∧(f.n:Int)=e)→(((n3 A g e)=true→(((0:Int)≤e∧e<(A.n:Int))∧(f.n+1≤549755813888)))∧((n3 A g e)=true→((0≤b∧b≤(A.n:Int)∧(((f.n+1):Nat):Int)=b)∧(toNat ((A.n:Int)-b))<(toNat ((A.n:Int)-e))))))) (cu (aG avE aT)) Tryz.func14 (⟨(by omega),(fun e f h=>⟨(fun c=>⟨(by have:=c;(try simp [n3]at this);omega),(by have:=c;(try simp [n3]at this);omega)⟩),(fun d=>(by have:=d;(try simp [n3]at this);first|omega|(have:=E (e+1);omega)))⟩)⟩)
def eL(A:G aJ)(g:G aJ):G aJ:=(G.app A g)
def akT:ba:=⟨[.v (.ab lO),.v (.ab lO)],fun A g=>⟨⟨some ((A.n:Int)+g.n≤549755813888),(aB.ad lO).av (eL A g)⟩⟩⟩
theorem avB:bn 13 akT:=bq Tryz.func13
 fun A b _ g c _ a=>bu ⟨.own lO,[.tmp 4],[(.h 0 0,.ad lO)],⟨[],[]⟩⟩ (.z) ((A.n≤549755813888)∧(A.n+g.n≤549755813888)) fb Tryz.func13 (⟨(by omega),(by omega)⟩)
theorem afG(A g:G aJ):(eL A g).n=A.n+g.n:=rfl
def acA(A:G aJ):Bool:=(cond ((Jq A)==0) (((Ed A).n:Int)==3) false)
def qo(A:G aJ):G iQ:=(Ed A)
def ap0(A:G aJ):G bF:=(abX A)
def ap1(A:G aJ):G aM:=(abY A)
def ap2(A:G aJ):Int:=(abZ A)
def xj(A:G aJ):Bool:=(acA A)
def akS:ba:=⟨[.v (.ab lO)],fun A=>⟨⟨none,.c7 [.agg [aI 11 H0 (qo A),aI 12 HY (ap0 A),aI 2 HZ (ap1 A),b (ap2 A)],.bool (xj A)]⟩⟩⟩
theorem avA:bn 12 akS:=bq Tryz.func12
 fun A _ _=>bu ⟨.pure,[.cell 2 27,.tmp 3],[(.c 0 0,.ab NB),(.c 0 1,.ab jK),(.c 0 2,.ab cJ),(.c 0 3,a),(.t 1,l)],⟨[.agg (us 4 []),U],[]⟩⟩ (.ae (.ae (.j ⟨12,[.b 1],[(.t 3,l)],[],.f⟩ .z .z))) True (cu (aG avi aT)) Tryz.func12 (trivial)
end
section
def ap4(A:G u)(g:G u):Nat→Int→Bool×Bool
 |0,_=>default
 |k+1,az=>(cond (decide (az<(A.n:Int))) (cond (!(((A.at' (toNat az)):u).toList==((g.at' (toNat az)):u).toList)) (true,false) (ap4 A g k (i64.wrap (az+1)))) (false,default))
variable(A:Int)(g:Int)(r:G aq)(h:Int)(o:Int)(c:G aq)
def xk:Bool:=(cond (A !=h) true (cond (g !=o) true ((r.n:Int)!=(c.n:Int))))
def AK(r:G aq)(c:G aq):Nat→Int→Bool×Bool
 |0,_=>default
 |k+1,cF=>(cond (decide (cF<(r.n:Int))) (cond (!(((r.at' (toNat cF)).q==(c.at' (toNat cF)).q)&&(((r.at' (toNat cF)).C==(c.at' (toNat cF)).C)&&(((r.at' (toNat cF)).z==(c.at' (toNat cF)).z)&&(((r.at' (toNat cF)).I==(c.at' (toNat cF)).I)&&(((r.at' (toNat cF)).w==(c.at' (toNat cF)).w)&&(((r.at' (toNat cF)).m==(c.at' (toNat cF)).m)&&((((r.at' (toNat cF)).N:u).toList==((c.at' (toNat cF)).N:u).toList)&&((((r.at' (toNat cF)).ao:u).toList==((c.at' (toNat cF)).ao:u).toList)&&((((r.at' (toNat cF)).i:u).toList==((c.at' (toNat cF)).i:u).toList)&&(((r.at' (toNat cF)).aC==(c.at' (toNat cF)).aC)&&true))))))))))) (true,false) (AK r c k (i64.wrap (cF+1)))) (false,default))
def SH:Bool×Bool:=AK r c ((toNat ((r.n:Int)-0))+1) 0
def acB:Bool:=(cond (SH r c).1 false true)
def AJ:Bool:=(cond (xk A g r h o c) false (cond (acB r c) true (SH r c).2))
def akW:ba:=⟨[.g [a,a,.ab dh],.g [a,a,.ab dh]],fun A g r h o c=>⟨⟨none,.bool (AJ A g r h o c)⟩⟩⟩
theorem avD:bn 20 akW:=bq Tryz.func20
 fun(A:Int) (g:Int) r t _ (h:Int) (o:Int) c v _=>bu ⟨.pure,[.tmp 4],[(.t 0,l)],⟨[U],[]⟩⟩ (.ae (.s (.j ⟨67108892,[],[(.t 26,l)],[],.f⟩ .z .z) (.j ⟨16,[],[],[],.f⟩ (.ae (.cW ⟨60,[],[],[(.t 5,a)],some 0,true,16,[.b 0,.b 1],[],fun k (s:Int)=>AK r c k s,.f,fun(s:Int)=>(0≤s∧s≤(r.n:Int)),fun(s:Int)=>(toNat ((r.n:Int)-s)),none⟩ .z)) .z))) ((xk A g r h o c)=false→(((0≤(0:Int)∧(0:Int)≤(r.n:Int)))∧(∀(cF:Int),let m:=decide (cF<(r.n:Int));let f:=i64.wrap (cF+1);let j:=toNat cF;let d:=c.at' j;let b:=r.at' j;(0≤cF∧cF≤(r.n:Int))→((m=true→(((0:Int)≤cF∧cF<(r.n:Int))∧((0:Int)≤cF∧cF<(c.n:Int))))∧(m=true→((!((b.q==d.q)&&((b.C==d.C)&&((b.z==d.z)&&((b.I==d.I)&&((b.w==d.w)&&((b.m==d.m)&&(((b.N:u).toList==(d.N:u).toList)&&(((b.ao:u).toList==(d.ao:u).toList)&&(((b.i:u).toList==(d.i:u).toList)&&((b.aC==d.aC)&&true)))))))))))=false→((0≤f∧f≤(r.n:Int))∧(toNat ((r.n:Int)-f))<(toNat ((r.n:Int)-cF))))))))) fb Tryz.func20 ((fun e=>⟨(by have:=e;simp [xk]at this;omega),(fun cF q=>⟨(fun i=>⟨(by have:=e;simp [xk]at this;have:=al i;omega),(by have:=e;simp [xk]at this;have:=al i;omega)⟩),(fun n=>(fun p=>(by have:=e;simp [xk]at this;have:=al n;first|omega|(have:=E (cF+1);omega))))⟩)⟩))
end
theorem YV{β:Type}(F:Nat→Int→Bool×β)(n:Nat)(g:n≤549755813888)(d: ∀k (i:Int),0≤i→i<(n:Int)→F (k+1) i=F k (i64.wrap (i+1)))(c: ∀k,(F (k+1) (n:Int)).1=false): ∀(m a:Nat) (i:Int),0≤i→i+(m:Int)=(n:Int)→m≤a→(F (a+1) i).1=false
 |0,a,i,b,f,e=>by
  rw[show i=(n:Int) by omega];exact c a
 |m+1,a,i,b,f,e=>by
  obtain⟨a,rfl⟩: ∃q,a=q+1:=⟨a-1,by omega⟩;rw[d _ _ b (by omega),E _];exact YV F n g d c m a (i+1) (by omega) (by omega) (by omega)
theorem am3{β:Type}(F:Nat→Int→Bool×β)(n:Nat)(c:n≤549755813888)(b: ∀k (i:Int),0≤i→i<(n:Int)→F (k+1) i=F k (i64.wrap (i+1)))(a: ∀k,(F (k+1) (n:Int)).1=false):(F ((toNat ((n:Int)-0))+1) 0).1=false:=
 YV F n c b a n _ 0 (cR _) (by omega) (by omega)
theorem Xj{α:Type}{s:G α}{i:Nat}(h:i<s.n):s.B.drop i=s.at' i::s.B.drop (i+1):=by
 rw[tx (by rw[a_];exact h)]
 congr 1
 simp [G.B]
def ie(l:List aJ):ak:=l.foldl gi uv
theorem ag9{A:G aJ}(d:A.n≤549755813888): ∀(m a v:Nat) (X:ak),v+m=A.n→m≤a→cr (sb A (a+1) (v:Int) X)=(A.B.drop v).foldl gi X
 |0,a,v,X,c,b=>by
  rw[sb,bp (show¬(v:Int)<(A.n:Int) by omega),aS,HP,List.drop_eq_nil_of_le (by rw[a_];omega)];rfl
 |m+1,a,v,X,c,b=>by
  obtain⟨a,rfl⟩: ∃q,a=q+1:=⟨a-1,by omega⟩;rw[sb,bS (show(v:Int)<(A.n:Int) by omega),aQ,E _,Xj (by omega),G4];exact ag9 d m a (v+1) _ (by omega) (by omega)
theorem ag8{A:G aJ}(a:A.n≤549755813888):cr (dc A)=ie A.B:=by
 have h:=ag9 a A.n (toNat ((A.n:Int)- (0:Int))) 0 uv (by omega) (by omega);rw[List.drop_zero]at h;exact h
theorem afZ{A:G aJ}(g:A.n≤3000)(b: ∀q,q<A.n→g9 (A.at' q)): ∀(m a:Nat) (v:Int),0≤v→v+(m:Int)=(A.n:Int)→m≤a→(uw A (a+1) v).1=false
 |0,a,v,c,f,d=>by
  rw[uw,bp (show¬v<(A.n:Int) by omega)];rfl
 |m+1,a,v,c,f,d=>by
  obtain⟨a,rfl⟩: ∃q,a=q+1:=⟨a-1,by omega⟩;have e:g9 (A.at' (toNat v)):=b _ (by omega);unfold g9 at e;rw[uw,bS (show v<(A.n:Int) by omega),aQ,e,show((0:Int)!=0)=false from rfl,aS,E _];exact afZ g b m a (v+1) (by omega) (by omega) (by omega)
def kP(A:G aJ):Prop:=A.n≤3000∧ ∀q,q<A.n→g9 (A.at' q)
theorem BB{A:G aJ}(h:kP A):decide ((A.n:Int)>3000)=false∧l4 A=true:=by
 have a:=h.1;refine⟨bp (by omega),?_⟩;have e:=afZ h.1 h.2 A.n (toNat ((A.n:Int)-0)) 0 (cR _) (by omega) (by omega);have e:(sc A).1=false:=e;unfold l4;rw[e];rfl
theorem aAz{A:G aJ}(h:kP A):Jq A=0:=by
 unfold Jq;rw[(BB h).1,(BB h).2];rfl
def B5(n:H):iQ:=⟨n.up,n.a6,(n.ro==3),n.co,n.j,n.lt,n.li,Ez n.e5,EA n.c6,EB n.eN,EC n.dW⟩
def views(C:ak):G iQ:=G.app (G.app (G.lit [B5 (C.d 0)]) (G.lit [B5 (C.d 1)])) (G.lit [B5 (C.d 2)])
theorem ahe{A:G aJ}(h:kP A):Ed A=views (ie A.B):=by
 have a:=h.1;unfold Ed;rw[(BB h).1,(BB h).2,ag8 (by omega)];rfl
theorem Y_{A:G aJ}(h:kP A):hl A.n (ie A.B):=by
 have a:=h.1;rw[←ag8 (by omega)];exact Y6 (BB h).1 (BB h).2
theorem P8(l m:List aJ):ie (l++m)=m.foldl gi (ie l):=List.foldl_append ..
def kT(x:Int):Prop:= -9223372036854775808≤x∧x≤9223372036854775807
theorem oi{x m:Int}(d:kT x)(b:0<m):0≤cx x m∧cx x m<m:=by
 have a:0≤SI x:=by
  unfold SI;obtain⟨e,f⟩:=d
  by_cases c:x<0
  ·rw[bS c,aQ,E (x+1),E (0- (x+1))];omega
  ·rw[bp c,aS];omega
 exact⟨Int.tmod_nonneg m a,Int.tmod_lt_of_pos _ b⟩
theorem aie(x:Int):kn (kA x)=true:=by
 have e:(kA x).size=1:=rfl;unfold kn DA;rw[e];rfl
theorem aCx(x:Int):iX (kA x)=true:=by
 have e:(kA x).size=1:=rfl;unfold iX;rw[e];rfl
theorem aCy(x:u):iX (J9 x 6)=true:=by
 unfold iX J9;have h:=ob (x.size:Int) 6;have e:(x.extract (toNat 0) (toNat (fs (x.size:Int) 6))).size≤6:=by
  rw[ByteArray.size_extract];omega
 exact bS (by omega)
theorem ao4:iX ⟨#[]⟩=true:=rfl
theorem L6{x:Int}(h: -1099511627776≤x∧x≤1099511627776):iA x=true:=by
 unfold iA DB;simp;omega
theorem afD{x:Int}(h:1≤x∧x≤1048576):oV x=true:=by
 unfold oV IZ;simp;omega
theorem aBz(x:Int): -1099511627776≤x.tmod 1073741824∧x.tmod 1073741824≤1099511627776:=by
 have a:=Int.tmod_lt_of_pos x (show(0:Int)<1073741824 by decide);have b:=Int.lt_tmod_of_pos x (show(0:Int)<1073741824 by decide);omega
theorem am8{A g r h:Int}{o:u}(p:kT A)(j:kT h):e3 (J4 A) (J5 A g) (J6 A r) (J7 A h o) (J8 A h)=0:=by
 have k:=oi p (m:=22) (by decide);have w:=E (1+cx A 22);unfold J4 J5 J6 J7 J8 acC acD acE acF xl sq;rw[w];have i:iX (AL h o)=true:=by
  unfold AL
  cases (cx h 3==0)
  ·exact aCy _
  ·exact aCx _
 have Ul:=oi j (m:=60) (by decide);have y:=oi j (m:=12) (by decide);have q:=E (cx h 12-6);have a:=L6 (x:=cx h 60) (by omega);have b:=L6 (x:=cx h 12-6) (by omega);have c:=L6 (aBz h);have l:iA 0=true:=L6 (by decide);have d:=aie g;have f:=aie r;have n:=ao4;rw[q];revert d f a b c i;generalize kA g=K;generalize kA r=F;generalize AL h o=T;generalize cx h 60=s;generalize cx h 12-6=t;generalize h.tmod 1073741824=v;intro d f a b c i;have e:1+cx A 22=1∨1+cx A 22=2∨1+cx A 22=3∨1+cx A 22=4∨1+cx A 22=5∨1+cx A 22=6∨1+cx A 22=7∨1+cx A 22=8∨1+cx A 22=9∨1+cx A 22=10∨1+cx A 22=11∨1+cx A 22=12∨1+cx A 22=13∨1+cx A 22=14∨1+cx A 22=15∨1+cx A 22=16∨1+cx A 22=17∨1+cx A 22=18∨1+cx A 22=19∨1+cx A 22=20∨1+cx A 22=21∨1+cx A 22=22:=by omega
 revert e;generalize 1+cx A 22=z;intro e;unfold e3 qu Kd J_ AM E1 xp xo xn xm;rcases e with rfl|rfl|rfl|rfl|rfl|rfl|rfl|rfl|rfl|rfl|rfl|rfl|rfl|rfl|rfl|rfl|rfl|rfl|rfl|rfl|rfl|rfl<;>simp [d,f,n,l,a,b,c,i]
theorem amN{g r h o c v:Int}{y:u}(b:kT g)(d:kT r)(e:kT h)(f:kT v):hd (JV r) (JW g r) (JX r h) (JY r h o) (JZ r h c) (J0 r h v y) (J3 r h v)=0:=by
 have j:0≤a2 r 4∧a2 r 4<4:=oi d (by decide);have i:0≤a2 g 4∧a2 g 4<4:=oi b (by decide);have w:=E (1+a2 g 4);unfold JV JW JX JY JZ J0 J3;rw[w]
 by_cases a:a2 r 4=0
 ·rw[show(a2 r 4==0)=true by simp [a]];simp [hd]
 ·rw[show(a2 r 4==0)=false by simp [a]];simp only[aS];unfold hd E4;rw[show(a2 r 4==0)=false by simp [a],afD (x:=a2 r 4) (by omega),afD (x:=1+a2 g 4) (by omega)];exact am8 e f
theorem iD{k n p:Int}(i:2≤k∧k≤12)(c:l0 k=true→0≤n∧n<3)(d:l0 k=false→n=0)(e:l1 k=true→0≤p∧p≤400000)(f:l1 k=false→p=0):n6 k n p 0 0 0 ⟨#[]⟩ ⟨#[]⟩ ⟨#[]⟩ 0=0:=by
 have g:E5 k=false:=by
  unfold E5;rw[bp (by omega),bp (by omega)];rfl
 have h:AQ k n p=false:=by
  unfold AQ
  cases a:l0 k<;>cases b:l1 k<;>simp only[aQ,aS]
  ·have:=e b;rw[bp (by omega),bp (by omega)];rfl
  ·have:=c a;rw[bp (by omega),bp (by omega)];rfl
  ·have:=c a;have:=e b;rw[bp (by omega),bp (by omega),bp (by omega),bp (by omega)];rfl
 have aZ:xt k n p 0 0 0 ⟨#[]⟩ ⟨#[]⟩ ⟨#[]⟩ 0=false:=by
  unfold xt
  cases a:l0 k<;>cases b:l1 k<;>simp
  ·exact⟨d a,f b⟩
  ·exact d a
  ·exact f b
 unfold n6;rw[g,h,aZ,show(k==1)=false by simp;omega];rfl
theorem SM{n h o c:Int}{v y p:u}{x:Int}(d:0≤n∧n<3):n6 1 n 0 h o c v y p x=hd h o c v y p x:=by
 have a:l0 1=true:=rfl;have b:l1 1=false:=rfl;unfold n6 E5 AQ xt;rw[a,b,bp (show¬n<0 by omega),bp (show¬n≥3 by omega)];rfl
def Ok(g:iw):Prop:=kT g.q∧kT g.C∧kT g.z∧kT g.I∧kT g.N
def Pw(g:iw):aJ:=⟨(JL g.q),(JM g.q g.C),(JN g.q g.z),(JO g.q g.z),(JP g.q g.C g.z),(JQ g.q g.z g.I),(JR g.q g.z g.I g.w),(JS g.q g.z g.I g.m),(JT g.q g.z g.I g.N g.ao),(JU g.q g.z g.I g.N)⟩
theorem alT{a:iw}(j:Ok a):g9 (Pw a):=by
 obtain⟨l,i,d,m,q⟩:=j;have s:0≤a2 a.q 20∧a2 a.q 20<20:=oi l (by decide);have b:0≤a2 a.C 3∧a2 a.C 3<3:=oi i (by decide);have t:0≤a2 a.z 300∧a2 a.z 300<300:=oi d (by decide);have u:0≤a2 a.z 500∧a2 a.z 500<500:=oi d (by decide);have w:0≤a2 a.z 40∧a2 a.z 40<40:=oi d (by decide);have f:=amN (g:=a.C) (r:=a.z) (h:=a.I) (o:=a.w) (c:=a.m) (v:=a.N) (y:=a.ao) i d m q;unfold g9 Pw;unfold JL JM JN JO JP JQ JR JS JT JU qs qq qp kz;have e:a2 a.q 20=0∨a2 a.q 20=1∨a2 a.q 20=2∨a2 a.q 20=3∨a2 a.q 20=4∨a2 a.q 20=5∨a2 a.q 20=6∨a2 a.q 20=7∨a2 a.q 20=8∨a2 a.q 20=9∨a2 a.q 20=10∨a2 a.q 20=11∨a2 a.q 20=12∨a2 a.q 20=13∨a2 a.q 20=14∨a2 a.q 20=15∨a2 a.q 20=16∨a2 a.q 20=17∨a2 a.q 20=18∨a2 a.q 20=19:=by omega
 rcases e with e|e|e|e|e|e|e|e|e|e|e|e|e|e|e|e|e|e|e|e<;>simp only[e]
 ·exact(SM b).trans f
 ·exact(SM b).trans f
 ·exact(SM b).trans f
 ·exact iD (k:=2) (by decide) (fun _=>b) (fun z=>by cases z) (fun z=>by cases z) (fun _=>rfl)
 ·exact iD (k:=2) (by decide) (fun _=>b) (fun z=>by cases z) (fun z=>by cases z) (fun _=>rfl)
 ·exact iD (k:=3) (by decide) (fun _=>b) (fun z=>by cases z) (fun z=>by cases z) (fun _=>rfl)
 ·exact iD (k:=3) (by decide) (fun _=>b) (fun z=>by cases z) (fun z=>by cases z) (fun _=>rfl)
 ·exact iD (k:=3) (by decide) (fun _=>b) (fun z=>by cases z) (fun z=>by cases z) (fun _=>rfl)
 ·exact iD (k:=4) (by decide) (fun _=>b) (fun z=>by cases z) (fun z=>by cases z) (fun _=>rfl)
 ·exact iD (k:=4) (by decide) (fun _=>b) (fun z=>by cases z) (fun z=>by cases z) (fun _=>rfl)
 ·exact iD (k:=4) (by decide) (fun _=>b) (fun z=>by cases z) (fun z=>by cases z) (fun _=>rfl)
 ·exact iD (k:=4) (by decide) (fun _=>b) (fun z=>by cases z) (fun z=>by cases z) (fun _=>rfl)
 ·exact iD (k:=6) (n:=0) (p:=a2 a.z 300) (by decide) (fun z=>by cases z) (fun _=>rfl) (fun _=>by omega) (fun z=>by cases z)
 ·exact iD (k:=7) (n:=0) (p:=a2 a.z 300) (by decide) (fun z=>by cases z) (fun _=>rfl) (fun _=>by omega) (fun z=>by cases z)
 ·exact iD (k:=8) (n:=0) (p:=a2 a.z 300) (by decide) (fun z=>by cases z) (fun _=>rfl) (fun _=>by omega) (fun z=>by cases z)
 ·exact iD (k:=9) (p:=a2 a.z 500) (by decide) (fun _=>b) (fun z=>by cases z) (fun _=>by omega) (fun z=>by cases z)
 ·exact iD (k:=10) (by decide) (fun _=>b) (fun z=>by cases z) (fun z=>by cases z) (fun _=>rfl)
 ·exact iD (k:=11) (by decide) (fun _=>b) (fun z=>by cases z) (fun z=>by cases z) (fun _=>rfl)
 ·exact iD (k:=5) (p:=a2 a.z 40) (by decide) (fun _=>b) (fun z=>by cases z) (fun _=>by omega) (fun z=>by cases z)
 ·exact iD (k:=12) (by decide) (fun z=>by cases z) (fun _=>rfl) (fun z=>by cases z) (fun _=>rfl)
theorem Yl{α:Type}[Inhabited α]{P:α→Prop}{s:G α}{x:α}(h: ∀i,i<s.n→P (s.at' i))(b:P x): ∀i,i<(G.app s (G.lit [x])).n→P ((G.app s (G.lit [x])).at' i):=by
 intro j a;show P (cond (Nat.blt j s.n) (s.at' j) (([x]:List α).getD (j-s.n) default))
 cases e:Nat.blt j s.n with
 |true=>exact h j (by rw[hj]at e;exact e)
 |false=>
  have d:j<s.n+1:=a;have: ¬j<s.n:=fun hh=>by
   rw[show Nat.blt j s.n=true by rw[hj];exact hh]at e
   cases e
  have c:j-s.n=0:=by omega
  rw[c];exact b
def tK(x:G iw):Prop:=x.n≤549755813888∧ ∀i,i<x.n→Ok (x.at' i)
theorem Ya{A:G iw}{g:Int}(h:tK A)(l:0≤g∧g≤3000): ∀(m a:Nat) (v:Int) (s:G aJ),0≤v→v+(m:Int)=(A.n:Int)→m≤a→(s.n:Int)=v→v≤g→(∀q,q<s.n→g9 (s.at' q))→((so A g (a+1) v s).n:Int)≤g∧ ∀q,q<(so A g (a+1) v s).n→g9 ((so A g (a+1) v s).at' q)
 |0,a,v,s,d,i,f,j,k,b=>by
  have e:n3 A g v=false:=by
   unfold n3;rw[bp (by omega)];rfl
  rw[so,e,aS];exact⟨by omega,b⟩
 |m+1,a,v,s,d,i,f,j,k,b=>by
  obtain⟨a,rfl⟩: ∃q,a=q+1:=⟨a-1,by omega⟩;have n:=h.1
  by_cases c:v<g
  ·have e:n3 A g v=true:=by
    unfold n3;rw[bS (show v<(A.n:Int) by omega),bS c];rfl
   rw[so,e,aQ,E _];refine Ya h l m a (v+1) (G.app s (G.lit [Pw (A.at' (toNat v))])) (by omega) (by omega) (by omega) ?_ (by omega) (Yl b (alT (h.2 _ (by omega))));show(((s.n+1:Nat)):Int)=v+1;omega
  ·have e:n3 A g v=false:=by
    unfold n3;rw[bS (show v<(A.n:Int) by omega),bp c];rfl
   rw[so,e,aS];exact⟨by omega,b⟩
theorem alU{A:G iw}{g:Int}(h:tK A)(a:0≤g∧g≤3000):((e9 A g).n:Int)≤g∧ ∀q,q<(e9 A g).n→g9 ((e9 A g).at' q):=
 Ya h a A.n _ 0 D (cR _) (by omega) (by omega) rfl a.1 (fun q b=>absurd b (en q))
theorem aCf{C:ak}{a:aJ}(h:a.q=4):gi C a=UO (toNat a.C) C a:=by
 unfold gi;simp only[h,ak.fx];rfl
theorem Bu(C:ak)(D:G ah)(i:Nat):(⟨C.a,C.b,C.c,D,C.told,C.a8⟩:ak).d i=C.d i:=by
 match i with
 |0=>rfl
 |1=>rfl
 |i+2=>rfl
theorem ayN{A:G iw}(h:tK A):kP (e9 A 80)∧(e9 A 80).n≤80:=by
 have k:=alU (g:=80) h (by decide);exact⟨⟨by have:=k.1;omega,k.2⟩,by have:=k.1;omega⟩
theorem agH{A:G aJ}(h:kP A):xj A=true:=by
 unfold xj acA;rw[aAz h,ahe h];rfl
theorem Mv{A:G aJ}(h:kP A):qo A=views (ie A.B):=ahe h
theorem alS{i:Int}(a:0≤i∧i<3):g9 ⟨4,i,0,0,0,0,⟨#[]⟩,⟨#[]⟩,⟨#[]⟩,0⟩:=iD (k:=4) (n:=i) (p:=0) (by decide) (fun _=>a) (fun z=>by cases z) (fun z=>by cases z) (fun _=>rfl)
section
variable {A:G iw} {g r:Int}
end
end Go.Proofs.YtfmgjpcmcjjoiaaGreatDoor
