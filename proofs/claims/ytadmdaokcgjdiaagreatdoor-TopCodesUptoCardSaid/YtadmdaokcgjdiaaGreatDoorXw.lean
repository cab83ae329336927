import Derived.Test.YtadmdaokcgjdiaaGreatDoorXu
import Derived.Test.YtadmdaokcgjdiaaGreatDoorXv
open Go.IntKind (i64 u64 u8)
open Int (toNat)
set_option maxRecDepth 100000
set_option maxHeartbeats 4000000
set_option linter.all false
noncomputable section
namespace Go.Proofs.YtadmdaokcgjdiaaGreatDoor
open Go Go.RowKit Go.af
def HC(i j:Nat)(C:aA)(ms:aj):aA:=(C.put i (rp i j ms (C.d i) C.ag C.told C.bh) (ya i j ms (C.d i) C.ag C.told C.bh) (yc i j ms (C.d i) C.ag C.told C.bh) (yb i j ms (C.d i) C.ag C.told C.bh))
def lo(C:aA)(ms:aj):aA:=HC (toNat ms.F) (toNat ms.q) C ms
def Pt:dr:=⟨[.p 0,.g [a,a,a,a,a,a,K,a,.ab dk,a,a,a,.ab bp,a,.ab bZ]],ck,e0,eN,λ(b:Int) (c:Int) (i:Int) (j:Int) (k:Int) (l:Int) m (n:Int) o (p:Int) (d:Int) (e:Int) f (g:Int) h=>cP λC=>⟨⟨some (uY C (⟨b,c,i,j,k,l,m,n,o,p,d,e,f,g,h⟩:aj)),[],cu [10,2,11,4,12,6,7,8,9] 3 (lo C (⟨b,c,i,j,k,l,m,n,o,p,d,e,f,g,h⟩:aj))⟩⟩⟩
def ayC(ms:aj)(q:ms.f.n<=549755813888)(o:ms.b2.n<=549755813888)(p:ms.bb.n<=549755813888):e8 Tryz.prog 31 Pt ck [] (cP λC=>⟨⟨some (uY C ms),[],cu [10,2,11,4,12,6,7,8,9] 3 (lo C ms)⟩⟩) (iQ ms):=by
 refine gC λC n x=> ?_;obtain⟨a0,s,f,g,h,i,j,k,l,m,a,b,c,d,e⟩:=ms;obtain⟨y,q1,z,A,r⟩:=x;have t:a0=0\/a0=1\/a0=2:=by
  have v:0<=a0:=y;have w:a0<3:=q1;omega
 have u:s=0\/s=1\/s=2:=by
  have v:0<=s:=z;have w:s<3:=A;omega
 rcases t with rfl|rfl|rfl<;>rcases u with rfl|rfl|rfl
 .exact Eq.mp Ξ (uh 0 Ω 0 Ω ⟨0,0,f,g,h,i,j,k,l,m,a,b,c,d,e⟩ q o p C n r)
 .exact Eq.mp Ξ (uh 1 Ω 0 Ω ⟨0,1,f,g,h,i,j,k,l,m,a,b,c,d,e⟩ q o p C n r)
 .exact Eq.mp Ξ (uh 2 Ω 0 Ω ⟨0,2,f,g,h,i,j,k,l,m,a,b,c,d,e⟩ q o p C n r)
 .exact Eq.mp Ξ (uh 0 Ω 1 Ω ⟨1,0,f,g,h,i,j,k,l,m,a,b,c,d,e⟩ q o p C n r)
 .exact Eq.mp Ξ (uh 1 Ω 1 Ω ⟨1,1,f,g,h,i,j,k,l,m,a,b,c,d,e⟩ q o p C n r)
 .exact Eq.mp Ξ (uh 2 Ω 1 Ω ⟨1,2,f,g,h,i,j,k,l,m,a,b,c,d,e⟩ q o p C n r)
 .exact Eq.mp Ξ (uh 0 Ω 2 Ω ⟨2,0,f,g,h,i,j,k,l,m,a,b,c,d,e⟩ q o p C n r)
 .exact Eq.mp Ξ (uh 1 Ω 2 Ω ⟨2,1,f,g,h,i,j,k,l,m,a,b,c,d,e⟩ q o p C n r)
 .exact Eq.mp Ξ (uh 2 Ω 2 Ω ⟨2,2,f,g,h,i,j,k,l,m,a,b,c,d,e⟩ q o p C n r)
def aBN:gr 31 Pt:=
 jR (bE:=[a,a,a,a,a,a,K,a,.ab dk,a,a,a,.ab bp,a,.ab bZ]) λs b=>Eq.mp Ξ (ayC ⟨s.1,s.2.1,s.2.2.1,s.2.2.2.1,s.2.2.2.2.1,s.2.2.2.2.2.1,s.2.2.2.2.2.2.1,s.2.2.2.2.2.2.2.1,s.2.2.2.2.2.2.2.2.1,s.2.2.2.2.2.2.2.2.2.1,s.2.2.2.2.2.2.2.2.2.2.1,s.2.2.2.2.2.2.2.2.2.2.2.1,s.2.2.2.2.2.2.2.2.2.2.2.2.1,s.2.2.2.2.2.2.2.2.2.2.2.2.2.1,s.2.2.2.2.2.2.2.2.2.2.2.2.2.2.1⟩ (b.2.2.2.2.2.2.2.2.1 rfl) (b.2.2.2.2.2.2.2.2.2.2.2.2.1 rfl) (b.2.2.2.2.2.2.2.2.2.2.2.2.2.2.1 rfl))
def agz:gu 31 Pt:=gQ gB Tryz.func31 aBN
structure O8 (n:H) (L ayo:G aj) (ah ayt:G bF) (au ays:G aU):Prop where
 j:b7 n
 a:ayo=L
 t:(ayt.n:Int)<=(ah.n:Int)+600000
 l:ays.n<=au.n+1
def mL{n:H}{L:G aj}{ah:G bF}{au:G aU}(h:b7 n):O8 n L L ah ah au au:=⟨h,rfl,Ω,Ω⟩
def aa4{n:H}{L a:G aj}{ah c:G bF}{au b:G aU}(h:b7 n/\a=L/\(c.n:Int)<=(ah.n:Int)+600000/\b=au):O8 n L a ah c au b:=⟨h.1,h.2.1,h.2.2.1,by rw[h.2.2.2];omega⟩
def af4{i j:Nat}{ms:aj}{d:H}{L:G aj}{ah:G bF}{au:G aU}(h:b7 d)(k:hb ms)(q:i<3)(p:j<3):
  O8 (rp i j ms d L ah au) L (ya i j ms d L ah au) ah (yc i j ms d L ah au) au (yb i j ms d L ah au):=by
 have f:hb ⟨(j:Int),(i:Int),ms.z,ms.M,ms.w,ms.C,ms.P,ms.aw,ms.f,ms.aD,ms.bX,ms.b_,ms.b2,ms.cm,ms.bb⟩:=⟨(by omega:(0:Int)<=(j:Int)/\(j:Int)<3),(by omega:(0:Int)<=(i:Int)/\(i:Int)<3),k.ky,k.bR,k.li⟩;have g:(0:Int)<=(j:Int)/\(j:Int)<3:=by omega
 have c:aK (ye ms d):=by
  unfold ye
  cases jW ms d
  .exact h.i.u8
  .exact(VX h).i.u8
 have e:=Y6 ms d h.i.ws;have a:b7 (fv ms d):=⟨h.i.h_ _ Ξ c e,h.o⟩;have b:b7 (jC j ms d):=by
  rcases ca p with rfl|rfl|rfl
  .exact⟨h.i.h_ _ Ξ c e,h.o⟩
  .exact⟨h.i.h_ _ Ξ c e,h.o⟩
  .exact⟨h.i.h_ _ Ξ c e,h.o⟩
 have l:=af6 a;have m:=av1 (L:=L) (ah:=ah) (au:=au) l f;have n:=av2 l f;have o:=av3 (L:=L) (ah:=ah) (au:=au) a f;unfold rp ya yc yb;simp only[H.eY]
 cases (!d.up)<;>simp only[aX,aR]
 .cases tn ms d<;>simp only[aX,aR]
  .exact mL (VX h)
  .cases (ms.z==1)<;>simp only[aX,aR]
   .cases (ms.z==2)<;>simp only[aX,aR]
    .cases decide (ms.M<n8 ms d)<;>simp only[aX,aR]
     .cases (ms.z==3)<;>simp only[aX,aR]
      .cases (ms.z==4)<;>simp only[aX,aR]
       .cases (ms.z==5)<;>simp only[aX,aR]
        .cases (ms.z==7)<;>simp only[aX,aR]
         .cases (ms.z==6)<;>simp only[aX,aR]
          .exact mL a
          .cases (kp ms d==3)<;>simp only[aX,aR]
           .exact mL a
           .exact aa4 o
         .exact mL n
        .exact aa4 m
       .cases (kp ms d==2)<;>simp only[aX,aR]
        .exact mL a
        .cases kq (jC j ms d)<;>simp only[aX,aR]
         .exact mL b
         .exact⟨av0 b,rfl,Ω,bN _⟩
      .exact mL (avZ a g)
     .cases (ms.z !=8)<;>simp only[aX,aR]
      .exact mL a
      .exact mL (VY a g)
    .cases yd ms d<;>simp only[aX,aR]
     .exact mL a
     .cases kq (jC j ms d)<;>simp only[aX,aR]
      .exact mL b
      .exact mL (avY b)
   .exact mL (avX a g)
 .exact mL h
structure Zo (C X:aA):Prop where
 j: ∀i,b7 (X.d i)
 a:X.ag=C.ag
 t:(X.told.n:Int)<=(C.told.n:Int)+600000
 l:X.bh.n<=C.bh.n+1
def Oc{C:aA}{P:H->Prop}(h: ∀j,P (C.d j))(i:Nat){n:H}(a:P n)(L:G aj)(ah:G bF)(au:G aU)(j:Nat):P ((C.put i n L ah au).d j):=by
 have b:=h 0;have c:=h 1;have d:=h 2
 match i,j with
 |0,0=>exact a
 |0,1=>exact c
 |0,j+2=>exact d
 |1,0=>exact b
 |1,1=>exact a
 |1,j+2=>exact d
 |i+2,0=>exact b
 |i+2,1=>exact c
 |i+2,j+2=>exact a
def Od(C:aA)(i:Nat)(n:H)(L:G aj)(ah:G bF)(au:G aU):(C.put i n L ah au).ag=L/\(C.put i n L ah au).told=ah/\(C.put i n L ah au).bh=au:=by
 match i with
 |0=>exact⟨rfl,rfl,rfl⟩
 |1=>exact⟨rfl,rfl,rfl⟩
 |i+2=>exact⟨rfl,rfl,rfl⟩
def aAC{C:aA}{ms:aj}(a: ∀i,b7 (C.d i))(d:hb ms){i j:Nat}(b:i<3)(c:j<3):Zo C (HC i j C ms):=by
 have q:=af4 (i:=i) (j:=j) (ms:=ms) (L:=C.ag) (ah:=C.told) (au:=C.bh) (a i) d b c;have f:=Od C i (rp i j ms (C.d i) C.ag C.told C.bh) (ya i j ms (C.d i) C.ag C.told C.bh) (yc i j ms (C.d i) C.ag C.told C.bh) (yb i j ms (C.d i) C.ag C.told C.bh);unfold HC;exact⟨λj=>Oc (P:=b7) a i q.j _ _ _ j,by rw[f.1];exact q.a,by rw[f.2.1];exact q.t,by rw[f.2.2];exact q.l⟩
def OQ{C:aA}{ms:aj}(b: ∀i,b7 (C.d i))(a:hb ms):Zo C (lo C ms):=by
 have c:=a.lB;have d:=a.to;exact aAC b a Ω Ω
def sv(C:aA)(v:Int)(X:aA):Prop:=(0<=v/\v<=(C.ag.n:Int))/\(∀i,b7 (X.d i))/\(X.told.n:Int)<=(C.told.n:Int)+600000*v/\(X.bh.n:Int)<=(C.bh.n:Int)+v
def AG{C:aA}{a:a7}(h:e7 C a)(i:Nat):b7 (C.d i):=by
 obtain⟨⟨k,_,b⟩,_⟩:=h;exact⟨b.d i,b.on i,b.bd i⟩
def Ew{C X:aA}{v:Int}(h:sv C v X):0<=v/\v<=(C.ag.n:Int):=h.1
def sX{C:aA}{a:a7}(h:e7 C a):sv C (0:Int) {C with ag:=B} :=⟨⟨aZ _,Ω⟩,λi=>by
  have b:=AG h 0;have c:=AG h 1;have d:=AG h 2
  match i with
  |0=>exact b
  |1=>exact c
  |i+2=>exact d,by show(C.told.n:Int)<=_;omega,by show(C.bh.n:Int)<=_;omega⟩
def q9{C X:aA}{a:a7}{v:Int}(h:e7 C a)(b:sv C v X)(j:v<(C.ag.n:Int)):uY X (C.ag.at' (toNat v)):=by
 have e:=pM h;obtain⟨d,c,g,f⟩:=b;exact abq h Ω (λi=>(c i).i) Ω Ω
def sY{C X:aA}{a:a7}{v:Int}(h:e7 C a)(b:sv C v X)(e:v<(C.ag.n:Int)):sv C (i64 (v+1)) (lo X (C.ag.at' (toNat v))):=by
 have g:=pM h;have d:=(q9 h b e).2.2.2.2.2.1;obtain⟨f,c,j,i⟩:=b;rw[E (v+1)];have q:=OQ c d;have l:=q.t;have k:=q.l;exact⟨Ω,q.j,Ω,Ω⟩
def aD9{C:aA}{a:a7}(h:e7 C a){j:Nat}(e:j<C.ag.n)(D:G aj):uY {C with ag:=D} (C.ag.at' j):=by
 have f:=pM h;refine abq h e (λi=> ?_) (by show C.told.n<=_;omega) (by show C.bh.n<=_;omega);have b:=(AG h 0).i;have c:=(AG h 1).i;have d:=(AG h 2).i
 match i with
 |0=>exact b
 |1=>exact c
 |i+2=>exact d
def OK{c n:Int}(h:0<=c)(a:0<n):0<=c.tmod n/\c.tmod n<n:=⟨Int.tmod_nonneg n h,Int.tmod_lt_of_pos c a⟩
section
variable(ac:a7)(L:G aj)(C:aA)
def hj:Int:=(cond (decide ((L.n:Int)>0)) (ac.z.tmod (L.n:Int)) (-1))
def TK:aA:=({C with ag:=(G.del L (toNat (hj ac L)) (toNat (i64 ((hj ac L)+1))))} :aA)
def arH:aA:=(lo (TK ac L C) (L.at' (toNat (hj ac L))))
def TJ:aA:=(aA.bif (decide ((hj ac L)>=0)) (arH ac L C) C)
def ajE(ac:a7)(L:G aj)(h:0<=ac.z):hj ac L<(L.n:Int):=by
 unfold hj
 by_cases c:(L.n:Int)>0
 .rw[bM c];exact(OK h c).2
 .rw[bj c];show(-1:Int)<(L.n:Int);omega
def uK{C:aA}{ac:a7}(h:e7 C ac)(a:decide ((hj ac C.ag)>=0)=true):uY (TK ac C.ag C) (C.ag.at' (toNat (hj ac C.ag))):=by
 have b:=an a;have c:=ajE ac C.ag h.2.lS;exact aD9 h Ω _
def Pj:dr:=⟨[.p 0,.g [a,a,a,a,a,a,al,al,al,a]],ck,e0,eN,λ(b:Int) (c:Int) (d:Int) (e:Int) (f:Int) (g:Int) h i j (k:Int)=>cP λC=>⟨⟨some (e7 C (⟨b,c,d,e,f,g,h,i,j,k⟩:a7)),[],cu [10,13,11,14,12,15,16,8,9] 7 (TJ (⟨b,c,d,e,f,g,h,i,j,k⟩:a7) C.ag C)⟩⟩⟩
def ZC:cT:=⟨.eR true [.b 10,.b 11] [.own (.h 0 99) cJ 16,.own (.h 0 29) du 10,.own (.h 0 62) du 11,.own (.h 0 95) du 12,.own (.h 0 32) cJ 13,.own (.h 0 65) cJ 14,.own (.h 0 98) cJ 15] (gJ 0 [10,13,11,14,12,15,16,8,9] 7 [] 0) (gF 0 [10,13,11,14,12,15,16,8,9]),[],[]++fT 0 [10,13,11,14,12,15,16,8,9],⟨[],[]⟩⟩
def as4:cw (ZC).cg:=(.ae (.ae (.ae (.j ⟨57,[],[(.t 5,a)],[],.f⟩ .z (.bs ⟨([.ptr 0 0,U,U,.ptr 10 0,.ptr 0 0,b (hj ac C.ag)]++(us 135 ([]))),cy [1,2,3,4,5,6,7,8,9] 1 C [(10,[b 6,b 0,b ac.z,b ac.M,b ac.w,b ac.C,.str ac.P,.str ac.aw,.str ac.f,b ac.aD])]⟩ (.ae (.ae (.c false (.ae (.c false (.ae (.c false (.s (.ae (.c true .z)) (.c true (.ae (.s (.ae (.ae (.ae (.c true .z)))) .z))))))))))))))))
def Xx(ac:a7)(C:aA):Prop:=(((decide ((C.ag.n:Int)>0))=true->(((C.ag.n:Int):Int)≠0))/\((decide ((hj ac C.ag)>=0))=true->((((0:Int)<=(hj ac C.ag)/\(hj ac C.ag)<(C.ag.n:Int))/\((toNat (hj ac C.ag))<C.ag.n))/\(((0:Int)<=(hj ac C.ag)/\((hj ac C.ag):Int)<(i64 ((hj ac C.ag)+1))/\((i64 ((hj ac C.ag)+1)):Int)<=(C.ag.n:Int))/\(uY (TK ac C.ag C) (C.ag.at' (toNat (hj ac C.ag))))))))
def aA2(ac:a7)(C:aA)(e:eP C)(f:ac.P.size<=549755813888)(g:ac.aw.size<=549755813888)(h:ac.f.size<=549755813888)(b:e7 C ac):Xx ac C:=by
 have d:=g4 e 0 Ω;unfold fS at d;unfold Xx;exact have:=pM b;have:=b.2.lS;have:=ajE ac C.ag b.2.lS;(⟨(λc=>(by have:=an c;omega)),(λa=>⟨⟨(by have:=an a;omega),(by have:=an a;omega)⟩,⟨(by have:=an a;have:=E ((hj ac C.ag)+1);omega),(by repeat first|assumption|apply uK)⟩⟩)⟩)
def ayx(ac:a7)(d:ac.P.size<=549755813888)(e:ac.aw.size<=549755813888)(f:ac.f.size<=549755813888)(C:aA)(a:eP C)(c:e7 C ac):fL Tryz.prog 18 ((Pj).args ([b 6,b 0,b ac.z,b ac.M,b ac.w,b ac.C,.str ac.P,.str ac.aw,.str ac.f,b ac.aD]++ix C)) ((Pj).dh (([b 6,b 0,b ac.z,b ac.M,b ac.w,b ac.C,.str ac.P,.str ac.aw,.str ac.f,b ac.aD]++ix C).drop (Pj).dR)) [] (cu [10,13,11,14,12,15,16,8,9] 7 (TJ ac C.ag C)):=by
 refine eC ZC (as4 ac C) (Xx ac C) (b1 10 a2 (ay agy (ay agz b0))) Tryz.func18 [] ?_ ?_ (aA2 ac C a d e f c)
 .kernel_rfl
 .kernel_rfl
end
section
variable(ac:a7)(L:G aj)(C:aA)
def hP:Int:=(cond (decide ((L.n:Int)>0)) (ac.z.tmod (L.n:Int)) (-1))
def arI:aA:=({C with ag:=(G.del L (toNat (hP ac L)) (toNat (i64 ((hP ac L)+1))))} :aA)
def TL:aA:=(aA.bif (decide ((hP ac L)>=0)) (arI ac L C) C)
def aD_(ac:a7)(L:G aj)(h:0<=ac.z):hP ac L<(L.n:Int):=by
 unfold hP
 by_cases c:(L.n:Int)>0
 .rw[bM c];exact(OK h c).2
 .rw[bj c];show(-1:Int)<(L.n:Int);omega
def Pk:dr:=⟨[.p 0,.g [a,a,a,a,a,a,al,al,al,a]],ck,e0,eN,λ(b:Int) (c:Int) (d:Int) (e:Int) (f:Int) (g:Int) h i j (k:Int)=>cP λC=>⟨⟨some (e7 C (⟨b,c,d,e,f,g,h,i,j,k⟩:a7)),[],cu [10,13,11,14,12,15,16,8,9] 7 (TL (⟨b,c,d,e,f,g,h,i,j,k⟩:a7) C.ag C)⟩⟩⟩
def ZD:cT:=⟨.eR true [.b 10,.b 11] [.own (.h 0 99) cJ 16,.own (.h 0 29) du 10,.own (.h 0 62) du 11,.own (.h 0 95) du 12,.own (.h 0 32) cJ 13,.own (.h 0 65) cJ 14,.own (.h 0 98) cJ 15] (gJ 0 [10,13,11,14,12,15,16,8,9] 7 [] 0) (gF 0 [10,13,11,14,12,15,16,8,9]),[],[]++fT 0 [10,13,11,14,12,15,16,8,9],⟨[],[]⟩⟩
def as5:cw (ZD).cg:=(.ae (.ae (.ae (.j ⟨57,[],[(.t 5,a)],[],.f⟩ .z (.bs ⟨([.ptr 0 0,U,U,.ptr 10 0,.ptr 0 0,b (hP ac C.ag)]++(us 135 ([]))),cy [1,2,3,4,5,6,7,8,9] 1 C [(10,[b 7,b 0,b ac.z,b ac.M,b ac.w,b ac.C,.str ac.P,.str ac.aw,.str ac.f,b ac.aD])]⟩ (.ae (.ae (.c false (.ae (.c false (.ae (.c false (.s (.ae (.c false .z)) (.c true (.ae (.s (.ae (.ae (.ae (.c false .z)))) .z))))))))))))))))
def Xy(ac:a7)(C:aA):Prop:=(((decide ((C.ag.n:Int)>0))=true->(((C.ag.n:Int):Int)≠0))/\((decide ((hP ac C.ag)>=0))=true->((((0:Int)<=(hP ac C.ag)/\(hP ac C.ag)<(C.ag.n:Int))/\((toNat (hP ac C.ag))<C.ag.n))/\((0:Int)<=(hP ac C.ag)/\((hP ac C.ag):Int)<(i64 ((hP ac C.ag)+1))/\((i64 ((hP ac C.ag)+1)):Int)<=(C.ag.n:Int)))))
def aA3(ac:a7)(C:aA)(e:eP C)(f:ac.P.size<=549755813888)(g:ac.aw.size<=549755813888)(h:ac.f.size<=549755813888)(b:e7 C ac):Xy ac C:=by
 have d:=g4 e 0 Ω;unfold fS at d;unfold Xy;exact have:=pM b;have:=b.2.lS;have:=aD_ ac C.ag b.2.lS;(⟨(λc=>(by have:=an c;omega)),(λa=>⟨⟨(by have:=an a;omega),(by have:=an a;omega)⟩,(by have:=an a;have:=E ((hP ac C.ag)+1);omega)⟩)⟩)
def ayy(ac:a7)(d:ac.P.size<=549755813888)(e:ac.aw.size<=549755813888)(f:ac.f.size<=549755813888)(C:aA)(a:eP C)(c:e7 C ac):fL Tryz.prog 18 ((Pk).args ([b 7,b 0,b ac.z,b ac.M,b ac.w,b ac.C,.str ac.P,.str ac.aw,.str ac.f,b ac.aD]++ix C)) ((Pk).dh (([b 7,b 0,b ac.z,b ac.M,b ac.w,b ac.C,.str ac.P,.str ac.aw,.str ac.f,b ac.aD]++ix C).drop (Pk).dR)) [] (cu [10,13,11,14,12,15,16,8,9] 7 (TL ac C.ag C)):=by
 refine eC ZD (as5 ac C) (Xy ac C) (b1 10 a2 (ay agy b0)) Tryz.func18 [] ?_ ?_ (aA3 ac C a d e f c)
 .kernel_rfl
 .kernel_rfl
end
section
variable(ac:a7)(L:G aj)(C:aA)
def ko:Int:=(cond (decide ((L.n:Int)>0)) (ac.z.tmod (L.n:Int)) (-1))
def x9:Bool:=(cond (decide ((ko ac L)>=0)) (decide ((L.n:Int)<300)) false)
def arJ:aA:=({C with ag:=(G.app L (G.lit ([(L.at' (toNat (ko ac L)))]:List aj)))} :aA)
def TM:aA:=(aA.bif (x9 ac L) (arJ ac L C) C)
def aEa(ac:a7)(L:G aj)(h:0<=ac.z):ko ac L<(L.n:Int):=by
 unfold ko
 by_cases c:(L.n:Int)>0
 .rw[bM c];exact(OK h c).2
 .rw[bj c];show(-1:Int)<(L.n:Int);omega
def Pn:dr:=⟨[.p 0,.g [a,a,a,a,a,a,al,al,al,a]],ck,e0,eN,λ(b:Int) (c:Int) (d:Int) (e:Int) (f:Int) (g:Int) h i j (k:Int)=>cP λC=>⟨⟨some (e7 C (⟨b,c,d,e,f,g,h,i,j,k⟩:a7)),[],cu [10,13,11,14,12,15,16,8,9] 7 (TM (⟨b,c,d,e,f,g,h,i,j,k⟩:a7) C.ag C)⟩⟩⟩
def ZE:cT:=⟨.eR true [.b 10] [.own (.h 0 99) cJ 16,.own (.h 0 29) du 10,.own (.h 0 62) du 11,.own (.h 0 95) du 12,.own (.h 0 32) cJ 13,.own (.h 0 65) cJ 14,.own (.h 0 98) cJ 15] (gJ 0 [10,13,11,14,12,15,16,8,9] 7 [] 0) (gF 0 [10,13,11,14,12,15,16,8,9]),[],[]++fT 0 [10,13,11,14,12,15,16,8,9],⟨[],[]⟩⟩
def as6:cw (ZE).cg:=(.ae (.ae (.ae (.j ⟨57,[],[(.t 5,a)],[],.f⟩ .z (.bs ⟨([.ptr 0 0,U,U,.ptr 10 0,.ptr 0 0,b (ko ac C.ag)]++(us 135 ([]))),cy [1,2,3,4,5,6,7,8,9] 1 C [(10,[b 8,b 0,b ac.z,b ac.M,b ac.w,b ac.C,.str ac.P,.str ac.aw,.str ac.f,b ac.aD])]⟩ (.ae (.ae (.c false (.ae (.c false (.ae (.c false (.s (.ae (.c false .z)) (.c false (.ae (.c true (.j ⟨40564819207303340847894502572065,[.b 10],[(.t 105,K)],[],.f⟩ .z (.bs ⟨([.ptr 0 0,U,U,U,U,b (ko ac C.ag)]++(us 99 (([.bool (x9 ac C.ag)]++(us 35 ([])))))),cy [1,2,3,4,5,6,7,8,9] 0 C []⟩ .z))))))))))))))))))
def Xz(ac:a7)(C:aA):Prop:=(((decide ((C.ag.n:Int)>0))=true->(((C.ag.n:Int):Int)≠0))/\((x9 ac C.ag)=true->(((0:Int)<=(ko ac C.ag)/\(ko ac C.ag)<(C.ag.n:Int))/\(((toNat (ko ac C.ag))<C.ag.n)/\(C.ag.n+1<=549755813888)))))
def aA4(ac:a7)(C:aA)(e:eP C)(f:ac.P.size<=549755813888)(g:ac.aw.size<=549755813888)(h:ac.f.size<=549755813888)(a:e7 C ac):Xz ac C:=by
 have d:=g4 e 0 Ω;unfold fS at d;unfold Xz;exact have:=pM a;have:=a.2.lS;have:=aEa ac C.ag a.2.lS;(⟨(λc=>(by have:=an c;omega)),(λb=>⟨(by have:=b;(try simp [x9]at this);omega),⟨(by have:=b;(try simp [x9]at this);omega),Ω⟩⟩)⟩)
def ayz(ac:a7)(d:ac.P.size<=549755813888)(e:ac.aw.size<=549755813888)(f:ac.f.size<=549755813888)(C:aA)(a:eP C)(c:e7 C ac):fL Tryz.prog 18 ((Pn).args ([b 8,b 0,b ac.z,b ac.M,b ac.w,b ac.C,.str ac.P,.str ac.aw,.str ac.f,b ac.aD]++ix C)) ((Pn).dh (([b 8,b 0,b ac.z,b ac.M,b ac.w,b ac.C,.str ac.P,.str ac.aw,.str ac.f,b ac.aD]++ix C).drop (Pn).dR)) [] (cu [10,13,11,14,12,15,16,8,9] 7 (TM ac C.ag C)):=by
 refine eC ZE (as6 ac C) (Xz ac C) (b1 10 a2 b0) Tryz.func18 [] ?_ ?_ (aA4 ac C a d e f c)
 .kernel_rfl
 .kernel_rfl
end
section
variable(ac:a7)(L:G aj)(C:aA)
def arN:Int:=(cond (decide ((L.n:Int)>0)) (ac.z.tmod (L.n:Int)) (-1))
def ad0(a:Int)(b:aA):aA:=(lo b (L.at' (toNat a)))
def tm(L:G aj):Nat->Int->aA->jP
 |0,_,_=>default
 |k+1,a,b=>(cond (decide (a<(L.n:Int))) (tm L k (i64 (a+1)) (ad0 L a b)) (YV b))
def K7:aA:=({C with ag:=(B:G aj)} :aA)
def arO:jP:=tm L ((toNat ((C.ag.n:Int)- (0:Int)))+1) (0:Int) (K7 C)
def arM:aA:=(b8 (arO L C))
def x_:aA:=(arM L C)
def Pp:dr:=⟨[.p 0,.g [a,a,a,a,a,a,al,al,al,a]],ck,e0,eN,λ(b:Int) (c:Int) (d:Int) (e:Int) (f:Int) (g:Int) h i j (k:Int)=>cP λC=>⟨⟨some (e7 C (⟨b,c,d,e,f,g,h,i,j,k⟩:a7)),[],cu [10,13,11,14,12,15,16,8,9] 7 (x_ C.ag C)⟩⟩⟩
def ZG:cT:=⟨.eR true [] [.kill 7,.own (.h 0 99) cJ 16,.own (.h 0 29) du 10,.own (.h 0 62) du 11,.own (.h 0 95) du 12,.own (.h 0 32) cJ 13,.own (.h 0 65) cJ 14,.own (.h 0 98) cJ 15] (gJ 0 [10,13,11,14,12,15,16,8,9] 7 [] 0) (gF 0 [10,13,11,14,12,15,16,8,9]),[],[]++fT 0 [10,13,11,14,12,15,16,8,9],⟨[],[]⟩⟩
def as8:cw (ZG).cg:=(.ae (.ae (.ae (.j ⟨57,[],[(.t 5,a)],[],.f⟩ .z (.bs ⟨([.ptr 0 0,U,U,.ptr 10 0,.ptr 0 0,b (arN ac C.ag)]++(us 135 ([]))),cy [1,2,3,4,5,6,7,8,9] 1 C [(10,[b 12,b 0,b ac.z,b ac.M,b ac.w,b ac.C,.str ac.P,.str ac.aw,.str ac.f,b ac.aD])]⟩ (.ae (.ae (.c false (.ae (.c false (.ae (.c false (.s (.ae (.c false .z)) (.c false (.ae (.c false (.ae (.c true (.ae (.ae (.s (.gl [] [.own (.h 0 29) du 40,.own (.h 0 62) du 41,.own (.h 0 95) du 42]) (.zg ⟨19055812547572553953948978016179019841537,[.b 10],[(.h 0 99,cJ)],(.t 133,a)::fT 0 [40,2,41,4,42,6,43,8,9],some 1,false,0,[],fT 0 [40,2,41,4,42,6,43,8,9],λk (c:Int×jP)=>tm C.ag k c.1 (b8 c.2),.f,λ(c:Int×jP)=>sv C c.1 (b8 c.2),λ(c:Int×jP)=>(toNat ((C.ag.n:Int)-c.1)),none⟩ (λ(c:Int×jP)=>(.ae (.bs ⟨([.ptr 0 0]++(us 130 (([.own 7 C.ag.n,b (C.ag.n:Int),b c.1,.bool (decide (c.1<(C.ag.n:Int)))]++(us 6 ([])))))),cy [40,2,41,4,42,6,43,8,9] 34 (b8 c.2) [(7,[(aH.ad cJ).av C.ag])]⟩ (.ae (.ae (.gl [] [.own (.h 0 29) du 40,.own (.h 0 62) du 41,.own (.h 0 95) du 42]))))))))))))))))))))))))))))
def XB(ac:a7)(C:aA):Prop:=(((decide ((C.ag.n:Int)>0))=true->(((C.ag.n:Int):Int)≠0))/\((sv C (0:Int) (K7 C))/\(Ah (aH.int .i64::ck) λ(a:Int×jP)=>sv C a.1 (b8 a.2)->(((decide (a.1<(C.ag.n:Int)))=true->((((0:Int)<=a.1/\a.1<(C.ag.n:Int))/\((toNat a.1)<C.ag.n))/\(uY (b8 a.2) (C.ag.at' (toNat a.1)))))/\((decide (a.1<(C.ag.n:Int)))=true->(sv C (i64 (a.1+1)) (ad0 C.ag a.1 (b8 a.2))/\(toNat ((C.ag.n:Int)- (i64 (a.1+1))))<(toNat ((C.ag.n:Int)-a.1))))))))
def aA6(ac:a7)(C:aA)(g:eP C)(j:ac.P.size<=549755813888)(k:ac.aw.size<=549755813888)(l:ac.f.size<=549755813888)(d:e7 C ac):XB ac C:=by
 have f:=g4 g 0 Ω;unfold fS at f;unfold XB;exact have:=pM d;have:=d.2.lS;(⟨(λe=>(by have:=an e;omega)),⟨(by repeat first|assumption|apply sX),((DZ _ _).2 λ(h:Int×jP) i=>⟨(λb=>⟨⟨(by have:=an b;(try have a:=Ew Ψ);omega),(by have:=an b;(try have a:=Ew Ψ);omega)⟩,(by have:=an b;have:=trivial;(try have a:=Ew Ψ);repeat first|assumption|apply q9)⟩),(λc=>⟨(by have:=an c;have:=trivial;(try have a:=Ew Ψ);repeat first|assumption|apply sY),(by have:=an c;(try have a:=Ew Ψ);have:=E (h.1+1);omega)⟩)⟩)⟩⟩)
def ayA(ac:a7)(d:ac.P.size<=549755813888)(e:ac.aw.size<=549755813888)(f:ac.f.size<=549755813888)(C:aA)(a:eP C)(c:e7 C ac):fL Tryz.prog 18 ((Pp).args ([b 12,b 0,b ac.z,b ac.M,b ac.w,b ac.C,.str ac.P,.str ac.aw,.str ac.f,b ac.aD]++ix C)) ((Pp).dh (([b 12,b 0,b ac.z,b ac.M,b ac.w,b ac.C,.str ac.P,.str ac.aw,.str ac.f,b ac.aD]++ix C).drop (Pp).dR)) [] (cu [10,13,11,14,12,15,16,8,9] 7 (x_ C.ag C)):=by
 refine eC ZG (as8 ac C) (XB ac C) (b1 10 a2 (ay agz b0)) Tryz.func18 [] ?_ ?_ (aA6 ac C a d e f c)
 .kernel_rfl
 .kernel_rfl
end
section
abbrev arD(i:Nat)(ac:a7)(d:H):H:=rm 4 i ac d
abbrev arE(i:Nat)(ac:a7)(d:H)(L:G aj):G aj:=p2 4 i ac d L
variable(i:Nat)(C:aA)(ac:a7)
def ahK:aA:=(C.put i (TH ac (C.d i)) C.ag (TI ac (C.d i) C.told) C.bh)
def aAx:aA:=(C.put i (rm 2 i ac (C.d i)) (p2 2 i ac (C.d i) C.ag) C.told C.bh)
def aAy:aA:=(C.put i (rm 3 i ac (C.d i)) (p2 3 i ac (C.d i) C.ag) C.told C.bh)
def WD:aA:=(C.put i (arD i ac (C.d i)) (arE i ac (C.d i) C.ag) C.told C.bh)
def WE:aA:=(C.set i (K6 ac (C.d i)))
def aAz:aA:=(C.put i (rm 9 i ac (C.d i)) (p2 9 i ac (C.d i) C.ag) C.told C.bh)
def WG(ac:a7):aA:=(C.set i (TN (C.d i)))
def aAA:aA:=(C.put i (rm 11 i ac (C.d i)) (p2 11 i ac (C.d i) C.ag) C.told C.bh)
def ln:aA:=(aA.bif (ac.q==1) (ahK (toNat ac.F) C ac) (aA.bif (ac.q==2) (aAx (toNat ac.F) C ac) (aA.bif (ac.q==3) (aAy (toNat ac.F) C ac) (aA.bif (ac.q==4) (WD (toNat ac.F) C ac) (aA.bif (ac.q==5) (WE (toNat ac.F) C ac) (aA.bif (ac.q==6) (TJ ac C.ag C) (aA.bif (ac.q==7) (TL ac C.ag C) (aA.bif (ac.q==8) (TM ac C.ag C) (aA.bif (ac.q==9) (aAz (toNat ac.F) C ac) (aA.bif (ac.q==10) (WG (toNat ac.F) C ac) (aA.bif (ac.q==11) (aAA (toNat ac.F) C ac) (x_ C.ag C))))))))))))
def Pe:dr:=⟨[.p 0,.g [a,a,a,a,a,a,al,al,al,a]],ck,e0,eN,λ(b:Int) (c:Int) (d:Int) (e:Int) (f:Int) (g:Int) h i j (k:Int)=>cP λC=>⟨⟨some (e7 C (⟨b,c,d,e,f,g,h,i,j,k⟩:a7)),[],cu [10,13,11,14,12,15,16,8,9] 7 (ln C (⟨b,c,d,e,f,g,h,i,j,k⟩:a7))⟩⟩⟩
def ayw(ac:a7)(l:ac.P.size<=549755813888)(m:ac.aw.size<=549755813888)(n:ac.f.size<=549755813888):e8 Tryz.prog 18 Pe ck [] (cP λC=>⟨⟨some (e7 C ac),[],cu [10,13,11,14,12,15,16,8,9] 7 (ln C ac)⟩⟩) [b ac.q,b ac.F,b ac.z,b ac.M,b ac.w,b ac.C,.str ac.P,.str ac.aw,.str ac.f,b ac.aD]:=by
 refine gC λC k a=> ?_;obtain⟨a0,o,c,d,e,f,g,h,i,j⟩:=ac;have q:a0=1\/a0=2\/a0=3\/a0=4\/a0=5\/a0=6\/a0=7\/a0=8\/a0=9\/a0=10\/a0=11\/a0=12:=by
  have r:1<=a0:=a.2.cg.1;have s:a0<=12:=a.2.cg.2;omega
 have p:o=0\/o=1\/o=2:=by
  have r:0<=o:=a.2.d.1;have s:o<3:=a.2.d.2;omega
 rcases q with rfl|rfl|rfl|rfl|rfl|rfl|rfl|rfl|rfl|rfl|rfl|rfl
 .rcases p with rfl|rfl|rfl
  .exact Eq.mp Ξ (Wb 0 Ω ⟨1,0,c,d,e,f,g,h,i,j⟩ l m n C k a)
  .exact Eq.mp Ξ (Wb 1 Ω ⟨1,1,c,d,e,f,g,h,i,j⟩ l m n C k a)
  .exact Eq.mp Ξ (Wb 2 Ω ⟨1,2,c,d,e,f,g,h,i,j⟩ l m n C k a)
 .rcases p with rfl|rfl|rfl
  .exact Eq.mp Ξ (mo 2 Δ 0 Ω ⟨2,0,c,d,e,f,g,h,i,j⟩ l m n C k a)
  .exact Eq.mp Ξ (mo 2 Δ 1 Ω ⟨2,1,c,d,e,f,g,h,i,j⟩ l m n C k a)
  .exact Eq.mp Ξ (mo 2 Δ 2 Ω ⟨2,2,c,d,e,f,g,h,i,j⟩ l m n C k a)
 .rcases p with rfl|rfl|rfl
  .exact Eq.mp Ξ (mo 3 Δ 0 Ω ⟨3,0,c,d,e,f,g,h,i,j⟩ l m n C k a)
  .exact Eq.mp Ξ (mo 3 Δ 1 Ω ⟨3,1,c,d,e,f,g,h,i,j⟩ l m n C k a)
  .exact Eq.mp Ξ (mo 3 Δ 2 Ω ⟨3,2,c,d,e,f,g,h,i,j⟩ l m n C k a)
 .rcases p with rfl|rfl|rfl
  .exact Eq.mp Ξ (mo 4 Δ 0 Ω ⟨4,0,c,d,e,f,g,h,i,j⟩ l m n C k a)
  .exact Eq.mp Ξ (mo 4 Δ 1 Ω ⟨4,1,c,d,e,f,g,h,i,j⟩ l m n C k a)
  .exact Eq.mp Ξ (mo 4 Δ 2 Ω ⟨4,2,c,d,e,f,g,h,i,j⟩ l m n C k a)
 .rcases p with rfl|rfl|rfl
  .exact Eq.mp Ξ (Wc 0 Ω ⟨5,0,c,d,e,f,g,h,i,j⟩ l m n C k a)
  .exact Eq.mp Ξ (Wc 1 Ω ⟨5,1,c,d,e,f,g,h,i,j⟩ l m n C k a)
  .exact Eq.mp Ξ (Wc 2 Ω ⟨5,2,c,d,e,f,g,h,i,j⟩ l m n C k a)
 .have z:o=0:=a.2.NZ (by simp);subst z;exact Eq.mp Ξ (ayx ⟨6,0,c,d,e,f,g,h,i,j⟩ l m n C k a)
 .have z:o=0:=a.2.NZ (by simp);subst z;exact Eq.mp Ξ (ayy ⟨7,0,c,d,e,f,g,h,i,j⟩ l m n C k a)
 .have z:o=0:=a.2.NZ (by simp);subst z;exact Eq.mp Ξ (ayz ⟨8,0,c,d,e,f,g,h,i,j⟩ l m n C k a)
 .rcases p with rfl|rfl|rfl
  .exact Eq.mp Ξ (mo 9 Δ 0 Ω ⟨9,0,c,d,e,f,g,h,i,j⟩ l m n C k a)
  .exact Eq.mp Ξ (mo 9 Δ 1 Ω ⟨9,1,c,d,e,f,g,h,i,j⟩ l m n C k a)
  .exact Eq.mp Ξ (mo 9 Δ 2 Ω ⟨9,2,c,d,e,f,g,h,i,j⟩ l m n C k a)
 .rcases p with rfl|rfl|rfl
  .exact Eq.mp Ξ (Wd 0 Ω ⟨10,0,c,d,e,f,g,h,i,j⟩ l m n C k a)
  .exact Eq.mp Ξ (Wd 1 Ω ⟨10,1,c,d,e,f,g,h,i,j⟩ l m n C k a)
  .exact Eq.mp Ξ (Wd 2 Ω ⟨10,2,c,d,e,f,g,h,i,j⟩ l m n C k a)
 .rcases p with rfl|rfl|rfl
  .exact Eq.mp Ξ (mo 11 Δ 0 Ω ⟨11,0,c,d,e,f,g,h,i,j⟩ l m n C k a)
  .exact Eq.mp Ξ (mo 11 Δ 1 Ω ⟨11,1,c,d,e,f,g,h,i,j⟩ l m n C k a)
  .exact Eq.mp Ξ (mo 11 Δ 2 Ω ⟨11,2,c,d,e,f,g,h,i,j⟩ l m n C k a)
 .have z:o=0:=a.2.NZ (by simp);subst z;exact Eq.mp Ξ (ayA ⟨12,0,c,d,e,f,g,h,i,j⟩ l m n C k a)
def aBL:gr 18 Pe:=
 jR (bE:=[a,a,a,a,a,a,al,al,al,a]) λs b=>Eq.mp Ξ (ayw ⟨s.1,s.2.1,s.2.2.1,s.2.2.2.1,s.2.2.2.2.1,s.2.2.2.2.2.1,s.2.2.2.2.2.2.1,s.2.2.2.2.2.2.2.1,s.2.2.2.2.2.2.2.2.1,s.2.2.2.2.2.2.2.2.2.1⟩ (b.2.2.2.2.2.2.1 rfl) (b.2.2.2.2.2.2.2.1 rfl) (b.2.2.2.2.2.2.2.2.1 rfl))
def axM:gu 18 Pe:=gQ gB Tryz.func18 aBL
end
def ik{c:Bool}{a b:H}{m:Nat}(d:a.ws.n<=m)(e:b.ws.n<=m):(H.bif c a b).ws.n<=m:=by
 rw[H.eY]
 cases c
 .exact e
 .exact d
def aEX(j:Nat)(n:H):(H.kF j n).ws=n.ws:=by
 match j with
 |0=>rfl
 |1=>rfl
 |j+2=>rfl
def aEB{i j:Nat}{ms:aj}{d:H}{L:G aj}{ah:G bF}{au:G aU}(h:b7 d)(c:hb ms)(m:i<3)(n:j<3):(rp i j ms d L ah au).ws.n<=d.ws.n:=by
 have g:hb ⟨(j:Int),(i:Int),ms.z,ms.M,ms.w,ms.C,ms.P,ms.aw,ms.f,ms.aD,ms.bX,ms.b_,ms.b2,ms.cm,ms.bb⟩:=⟨(by omega:(0:Int)<=(j:Int)/\(j:Int)<3),(by omega:(0:Int)<=(i:Int)/\(i:Int)<3),c.ky,c.bR,c.li⟩;have k:aK (ye ms d):=by
  unfold ye
  cases jW ms d
  .exact h.i.u8
  .exact(VX h).i.u8
 have l:=Y6 ms d h.i.ws;have e:b7 (fv ms d):=⟨h.i.h_ _ Ξ k l,h.o⟩;have a:(fv ms d).ws.n<=d.ws.n:=by
  show(p4 ms d).n<=d.ws.n;unfold p4
  cases jW ms d
  .exact bN _
  .exact cp _
 have b:(jC j ms d).ws.n<=d.ws.n:=by
  show(H.kF j (fv ms d)).ws.n<=d.ws.n;rw[aEX];exact a
 have Nn:(jX (fv ms d)).ws.n<=d.ws.n:=dP (aEI _) a;have f:=af6 e;unfold rp;refine ik (bN _) (ik ?_ (by rw[aEC];exact bN _));refine ik (by rw[aED];exact a) (ik ?_ (ik ?_ (ik (by rw[aEG];exact a) (ik ?_ (ik (by rw[aEJ f];exact Nn) (ik (by rw[aEK];exact Nn) (ik ?_ a)))))))
 .exact ik (ik (by rw[aEE];exact b) b) a
 .exact ik (by rw[aEF];exact a) a
 .exact ik (ik (by rw[aEH];exact b) b) a
 .exact ik (by rw[aEL e g];exact a) a
def aj2{C:aA}{ms:aj}{m:Nat}(c: ∀i,b7 (C.d i))(a:hb ms)(b: ∀i,(C.d i).ws.n<=m)(i:Nat):((lo C ms).d i).ws.n<=m:=by
 have d:=a.lB;have e:=a.to;unfold lo HC;exact Oc (P:=λn=>n.ws.n<=m) b _ (dP (aEB (c _) a Ω Ω) (b _)) _ _ _ i
def ah8{s:G aj}(h:fM s){i j:Nat}(b:i<=j)(c:j<=s.n):fM (G.del s i j):=by
 refine⟨by show s.n- (j-i)<=300;have:=h.1;omega,λt a=> ?_⟩;have a:t<s.n- (j-i):=a;show hb (cond (Nat.blt t i) (s.at' t) (s.at' (t+(j-i))));exact e3 (P:=hb) (h.2 t Ω) (h.2 (t+(j-i)) Ω)
def xi{k:Nat}{C:aA}(a: ∀i,b7 (C.d i))(e: ∀i,(C.d i).ws.n<=k)(b:fM C.ag)(d:C.told.n<=180001000*k)(c:C.bh.n<=300*k):hA k C:=
 ⟨λi=>(a i).i,e,b.2,b.1,λi=>(a i).o.2,λi=>(a i).o.1,d,c⟩
def hA.j{k:Nat}{C:aA}(h:hA k C)(i:Nat):b7 (C.d i):=⟨h.d i,h.on i,h.bd i⟩
def hA.a{k:Nat}{C:aA}(h:hA k C):fM C.ag:=⟨h.nu,h.Am⟩
def hA.succ{k:Nat}{C:aA}(h:hA k C):hA (k+1) C:=xi h.j (λi=>pw (h.wn i)) h.a (by have:=h.qE;omega) (by have:=h.gG;omega)
def Jt{k:Nat}{C:aA}(h:hA k C)(i:Nat){n:H}{L:G aj}{ah:G bF}{au:G aU}(b:b7 n)(c:n.ws.n<=k+1)(a:fM L)(e:ah.n<=C.told.n+180001000)(d:au.n<=C.bh.n+300):hA (k+1) (C.put i n L ah au):=by
 have f:=Od C i n L ah au;refine xi (Oc (P:=b7) h.j i b _ _ _) (Oc (P:=λn=>n.ws.n<=k+1) (λj=>pw (h.wn j)) i c _ _ _) ?_ ?_ ?_
 .rw[f.1];exact a
 .rw[f.2.1];have:=h.qE;omega
 .rw[f.2.2];have:=h.gG;omega
def OE(C:aA)(i:Nat)(n:H):C.set i n=C.put i n C.ag C.told C.bh:=by
 match i with
 |0=>rfl
 |1=>rfl
 |i+2=>rfl
def aEM(ms:aj)(n:H):(o4 ms n).ws=n.ws:=by kernel_rfl
def aEN(n:H):(p8 n).ws=n.ws:=by kernel_rfl
def aEO(n:H):(rA n).ws=n.ws:=by kernel_rfl
def aEP(n:H):(lJ n).ws=n.ws:=by
 unfold lJ
 repeat' first|rfl|apply uM
def avW{ac:a7}{d:H}{L:G aj}(h:b7 d)(a:fM L):b7 (o2 ac d)/\(o2 ac d).ws.n<=d.ws.n/\fM (yf ac d L):=by
 have b:b7 (me d):=⟨h.i.h_ _ Ξ h.i.u8 h.i.ws,h.o⟩;have c:=Q_ b.i;refine⟨?_,?_,?_⟩
 .unfold o2;refine oo (λ_=>oo (λ_=>af7 b (wz c)) λ_=>h) λ_=> ?_;refine oo (λ_=>oo (λ_=>af8 h) λ_=>h) λ_=> ?_;exact oo (λ_=>av4 h) λ_=>oo (λ_=>av5 h) λ_=>oo (λ_=>av6 h) λ_=>h
 .unfold o2;refine ik (ik (by rw[aEM];exact bN _) (bN _)) ?_;refine ik (ik (by rw[aEN];exact bN _) (bN _)) ?_;exact ik (by rw[aEO];exact bN _) (ik (cp _) (ik (by rw[aEP];exact bN _) (bN _)))
 .unfold yf;exact e3 (P:=fM) a (e3 (P:=fM) a (e3 (P:=fM) (an0 h a) a))
def DX{k:Nat}{C:aA}(h:hA k C)(i:Nat)(ac:a7)(c:Bool):hA (k+1) (C.put i (H.bif c (o2 ac (C.d i)) (C.d i)) (cond c (yf ac (C.d i) C.ag) C.ag) C.told C.bh):=by
 have q:=avW (ac:=ac) (h.j i) h.a;exact Jt h i (oo (λ_=>q.1) λ_=>h.j i) (ik (dP q.2.1 (pw (h.wn i))) (pw (h.wn i))) (e3 (P:=fM) q.2.2 h.a) (qO _ _) (qO _ _)
def mM{P:aA->Prop}{c:Bool}{a b:aA}(d:c=true->P a)(e:c=false->P b):P (aA.bif c a b):=by
 rw[aA.eY]
 cases c
 .exact e rfl
 .exact d rfl
def ajD{c:Int}{L:G aj}(h:0<=c):(cond (decide ((L.n:Int)>0)) (c.tmod (L.n:Int)) (-1))<(L.n:Int):=by
 by_cases e:(L.n:Int)>0
 .rw[bM e];exact(OK h e).2
 .rw[bj e];show(-1:Int)<(L.n:Int);omega
def aD3{k:Nat}{C:aA}(h:hA k C){D:G aj}(f:fM D){ms:aj}(d:hb ms):hA (k+1) (lo {C with ag:=D} ms):=by
 have e: ∀i,b7 ((⟨C.a,C.b,C.c,D,C.told,C.bh⟩:aA).d i):=λi=>by
  have a:=h.j 0;have b:=h.j 1;have c:=h.j 2
  match i with
  |0=>exact a
  |1=>exact b
  |i+2=>exact c
 have g: ∀i,((⟨C.a,C.b,C.c,D,C.told,C.bh⟩:aA).d i).ws.n<=k:=λi=>by
  have a:=h.wn 0;have b:=h.wn 1;have c:=h.wn 2
  match i with
  |0=>exact a
  |1=>exact b
  |i+2=>exact c
 have q:=OQ e d;have l:=h.qE;have j:=h.gG;have n:(((lo ⟨C.a,C.b,C.c,D,C.told,C.bh⟩ ms).told.n:Nat):Int)<=(C.told.n:Int)+600000:=q.t;have m:(lo ⟨C.a,C.b,C.c,D,C.told,C.bh⟩ ms).bh.n<=C.bh.n+1:=q.l;refine xi q.j (λi=>pw (aj2 e d g i)) (by rw[q.a];exact f) ?_ ?_
 .show(lo ⟨C.a,C.b,C.c,D,C.told,C.bh⟩ ms).told.n<=_;omega
 .show(lo ⟨C.a,C.b,C.c,D,C.told,C.bh⟩ ms).bh.n<=_;omega
def Ju(C:aA):b8 (YV C)=C:=rfl
structure z8 (k:Nat) (C X:aA) (v:Int):Prop where
 j: ∀i,b7 (X.d i)
 w: ∀i,(X.d i).ws.n<=k
 a:X.ag=B
 t:(X.told.n:Int)<=(C.told.n:Int)+600000*v
 l:(X.bh.n:Int)<=(C.bh.n:Int)+v
def aqE{k:Nat}{C X:aA}{v:Int}(h:z8 k C X v){ms:aj}(a:hb ms):z8 k C (lo X ms) (v+1):=by
 have q:=OQ h.j a;have c:=h.t;have b:=h.l;have e:=q.t;have d:=q.l;exact⟨q.j,aj2 h.j a h.w,by rw[q.a];exact h.a,Ω,Ω⟩
def ab1{k:Nat}{C:aA}{L:G aj}(b:fM L): ∀(m a:Nat) (v:Int) (X:aA),0<=v->v+(m:Int)=(L.n:Int)->m<=a->z8 k C X v->z8 k C (b8 (tm L (a+1) v X)) (L.n:Int)
 |0,a,v,X,c,e,d,h=>by
  rw[tm,bj (show¬v<(L.n:Int) by omega),aX,Ju,show(L.n:Int)=v by omega];exact h
 |m+1,a,v,X,c,e,d,h=>by
  obtain⟨a,rfl⟩: ∃q,a=q+1:=⟨a-1,Ω⟩;have f:=b.1;rw[tm,bM (show v<(L.n:Int) by omega),aR,E _];exact ab1 b m a (v+1) _ Ω Ω Ω (aqE h (b.2 _ Ω))
def aqG{k:Nat}{C:aA}(h:hA k C):hA (k+1) (x_ C.ag C):=by
 have a:z8 k C (K7 C) 0:=by
  refine⟨λi=> ?_,λi=> ?_,rfl,by show(C.told.n:Int)<=_;omega,by show(C.bh.n:Int)<=_;omega⟩
  .have a:=h.j 0;have b:=h.j 1;have c:=h.j 2
   match i with
   |0=>exact a
   |1=>exact b
   |i+2=>exact c
  .have a:=h.wn 0;have b:=h.wn 1;have c:=h.wn 2
   match i with
   |0=>exact a
   |1=>exact b
   |i+2=>exact c
 have q:=ab1 (k:=k) (C:=C) h.a C.ag.n (toNat ((C.ag.n:Int)- (0:Int))) 0 (K7 C) (aZ _) Ω Ω a;have q:z8 k C (x_ C.ag C) (C.ag.n:Int):=q;have f:=h.qE;have e:=h.gG;have d:=h.nu;have j:=q.t;have g:=q.l;exact xi q.j (λi=>pw (q.w i)) (by rw[q.a];exact Xo) Ω Ω
def apv{k:Nat}{C:aA}{ac:a7}(r:k<3000)(h:hA k C)(m:DE ac):hA (k+1) (ln C ac):=by
 have ga:=ajD (L:=C.ag) m.lS;unfold ln;refine mM (λ_=> ?_) λ_=>mM (λ_=>DX h _ _ _) λ_=>mM (λ_=>DX h _ _ _) λ_=>mM (λ_=>DX h _ _ _) λ_=>mM (λ_=> ?_) λ_=>mM (λ_=> ?_) λ_=>mM (λ_=> ?_) λ_=>mM (λ_=> ?_) λ_=>mM (λ_=>DX h _ _ _) λ_=>mM (λ_=> ?_) λ_=>mM (λ_=>DX h _ _ _) λ_=>aqG h
 .have q:=avV (aQ:=⟨ac.M,ac.w,ac.C,ac.P,ac.aw,ac.f,ac.aD⟩) (h.j (toNat ac.F)) (by have:=h.wn (toNat ac.F);omega) m.zG m.zH m.zI;have s:=aDY (aQ:=⟨ac.M,ac.w,ac.C,ac.P,ac.aw,ac.f,ac.aD⟩) (d:=C.d (toNat ac.F)) (ah:=C.told);exact Jt h _ q.1 (by have:=h.wn (toNat ac.F);have:=q.2;show(k2 _ _).ws.n<=k+1;omega) h.a (by show(p3 _ _ _).n<=_;omega) (qO _ _)
 .have b:=h.j (toNat ac.F);rw[WE,OE];exact Jt h _ ⟨b.i.h_ _ Ξ b.i.u8 b.i.ws,b.o⟩ (pw (h.wn _)) h.a (qO _ _) (qO _ _)
 .refine mM (λe=> ?_) λ_=>h.succ;have e:=an e;have o:hj ac C.ag<(C.ag.n:Int):=ga;have j:=wrap64 (x:=hj ac C.ag+1) Ω (by have:=h.nu;omega);exact aD3 h (ah8 h.a (by rw[j];omega) (by rw[j];omega)) (h.Am _ Ω)
 .refine mM (λe=> ?_) λ_=>h.succ;have e:=an e;have o:hP ac C.ag<(C.ag.n:Int):=ga;have j:=wrap64 (x:=hP ac C.ag+1) Ω (by have:=h.nu;omega);have a:=h.succ;have n:fM (G.del C.ag (toNat (hP ac C.ag)) (toNat (i64 (hP ac C.ag+1)))):=ah8 h.a (by rw[j];omega) (by rw[j];omega);refine xi (λi=> ?_) (λi=> ?_) n a.qE a.gG
  .have c:=h.j 0;have f:=h.j 1;have g:=h.j 2
   match i with
   |0=>exact c
   |1=>exact f
   |i+2=>exact g
  .have c:=a.wn 0;have f:=a.wn 1;have g:=a.wn 2
   match i with
   |0=>exact c
   |1=>exact f
   |i+2=>exact g
 .refine mM (λe=> ?_) λ_=>h.succ;have a:=h.succ;have o:ko ac C.ag<(C.ag.n:Int):=ga;have n:fM (G.app C.ag (G.lit ([(C.ag.at' (toNat (ko ac C.ag)))]:List aj))):=by
   unfold x9 at e
   cases l:decide ((ko ac C.ag)>=0)with
   |false=>rw[l]at e;cases e
   |true=>
    rw[l]at e;have l:=an l;have p:=an e;exact ah7 h.a Ω (h.Am _ Ω)
  refine xi (λi=> ?_) (λi=> ?_) n a.qE a.gG
  .have c:=h.j 0;have f:=h.j 1;have g:=h.j 2
   match i with
   |0=>exact c
   |1=>exact f
   |i+2=>exact g
  .have c:=a.wn 0;have f:=a.wn 1;have g:=a.wn 2
   match i with
   |0=>exact c
   |1=>exact f
   |i+2=>exact g
 .have b:=h.j (toNat ac.F);rw[WG,OE];exact Jt h _ ⟨b.i.h_ _ Ξ b.i.u8 b.i.ws,b.o⟩ (pw (h.wn _)) h.a (qO _ _) (qO _ _)
def awh(q:Key×aH):Key×aH:=match q.1 with
 | .h _ o=>(.h 1 o,q.2)
 |_=>q
def aa8(ids:List Nat):List (Key×aH):=(zq 0++zq 33++zq 66).map awh++zx ids 0++zx ids 1++zx ids 2++[(.h (ids.getD 6 0) 0,.ad cJ),(.h (ids.getD 7 0) 0,.ad j_),(.h (ids.getD 8 0) 0,.ad cY)]
def jN(a:a7):Prop:=o9 a.q a.F a.z a.M a.w a.C a.P a.aw a.f a.aD=0
def QZ{a:a7}(h:jN a):DE a:=by
 have k:=aDo h;exact⟨k.1,k.2.1,k.2.2.1,k.2.2.2.1,dP k.2.2.2.2.1 Δ,dP k.2.2.2.2.2.1 Δ,dP k.2.2.2.2.2.2 Δ⟩
def mI(A:G a7)(v:Int)(X:aA):Prop:=(0<=v/\v<=(A.n:Int))/\hA (toNat v) X
def Ov{A:G a7}{v:Int}{X:aA}(h:mI A v X):0<=v/\v<=(A.n:Int):=h.1
def ai2{A:G a7}{v:Int}{X:aA}(d:A.n<=3000)(a: ∀q,q<A.n->jN (A.at' q))(h:mI A v X)(e:v<(A.n:Int)):mI A (i64 (v+1)) (ln X (A.at' (toNat v))):=by
 obtain⟨c,b⟩:=h;rw[E _];refine⟨Ω,?_⟩;rw[show toNat (v+1)=toNat v+1 by omega];exact apv Ω b (QZ (a _ Ω))
def aC9{A:G a7}{v:Int}{X:aA}(d:A.n<=3000)(a: ∀q,q<A.n->jN (A.at' q))(h:mI A v X)(e:v<(A.n:Int)):e7 X (A.at' (toNat v)):=by
 obtain⟨c,b⟩:=h;exact⟨⟨_,Ω,b⟩,QZ (a _ Ω)⟩
section
def vz(A:G a7):Nat->Int->Bool×G hL×G bF×G aU×Int×Int
 |0,_=>default
 |k+1,aB=>(cond (decide (aB<(A.n:Int))) (cond ((o9 (A.at' (toNat aB)).q (A.at' (toNat aB)).F (A.at' (toNat aB)).z (A.at' (toNat aB)).M (A.at' (toNat aB)).w (A.at' (toNat aB)).C (A.at' (toNat aB)).P (A.at' (toNat aB)).aw (A.at' (toNat aB)).f (A.at' (toNat aB)).aD)!=0) (true,(B:G hL),(B:G bF),(B:G aU),0,(o9 (A.at' (toNat aB)).q (A.at' (toNat aB)).F (A.at' (toNat aB)).z (A.at' (toNat aB)).M (A.at' (toNat aB)).w (A.at' (toNat aB)).C (A.at' (toNat aB)).P (A.at' (toNat aB)).aw (A.at' (toNat aB)).f (A.at' (toNat aB)).aD)) (vz A k (i64 (aB+1)))) (false,default,default,default,default,default))
variable(A:G a7)
def tl:Bool×G hL×G bF×G aU×Int×Int:=vz A ((toNat ((A.n:Int)-0))+1) 0
def mW:Bool:=(cond (tl A).1 false true)
def vy:aA:=let p:=FW yu;let o:=FU yw;let n:=FT yv;let m:=FR Gn;let l:=FQ Gm;let k:=FM yu;let j:=FL vQ;let i:=FK vP;let h:=FJ vO;let g:=FI vN;let f:=FH vQ;let e:=FG vP;let d:=FF vO;let c:=FE vN;let b:=FD Gp;let a:=FV yt;⟨⟨(xY 0),true,FN,x8,l,m,n,o,a,p,b,c,d,e,f,g,h,i,j,k,xZ,x0,x1,x2,x3,x4,x5,x6,x7,(B:G hc),FO,FP,(B:G aj)⟩,⟨(xY 1),true,FN,x8,l,m,n,o,a,p,b,c,d,e,f,g,h,i,j,k,xZ,x0,x1,x2,x3,x4,x5,x6,x7,(B:G hc),FO,FP,(B:G aj)⟩,⟨(xY 2),true,FN,x8,l,m,n,o,a,p,b,c,d,e,f,g,h,i,j,k,xZ,x0,x1,x2,x3,x4,x5,x6,x7,(B:G hc),FO,FP,(B:G aj)⟩,(B:G aj),(B:G bF),(B:G aU)⟩
def TE(a:Int)(b:aA):aA:=(ln b (A.at' (toNat a)))
def tk(A:G a7):Nat->Int->aA->jP
 |0,_,_=>default
 |k+1,a,b=>(cond (decide (a<(A.n:Int))) (tk A k (i64 (a+1)) (TE A a b)) (YV b))
def cK:jP:=tk A ((toNat ((A.n:Int)- (0:Int)))+1) (0:Int) vy
def tj(A:G a7):Nat->Int->G bF->G bF
 |0,_,_=>default
 |k+1,a,b=>(cond (decide (a<(((b8 (cK A)).told.n:Nat):Int))) (tj A k (i64 (a+1)) (G.app b (G.lit ([((b8 (cK A)).told.at' (toNat a))]:List bF)))) b)
def TF:G bF:=tj A ((toNat ((((b8 (cK A)).told.n:Nat):Int)-0))+1) 0 (B:G bF)
def FC:G hL:=(cond (decide ((A.n:Int)>3000)) (B:G hL) (cond (mW A) (G.app (G.app (G.lit ([(⟨((b8 (cK A)).d 0).up,((b8 (cK A)).d 0).ao,(((b8 (cK A)).d 0).ro==3),((b8 (cK A)).d 0).co,((b8 (cK A)).d 0).j,((b8 (cK A)).d 0).lt,((b8 (cK A)).d 0).li,(FX ((b8 (cK A)).d 0).ep),(FY ((b8 (cK A)).d 0).dn),(FZ ((b8 (cK A)).d 0).e1),(F0 ((b8 (cK A)).d 0).er)⟩:hL)]:List hL)) (G.lit ([(⟨((b8 (cK A)).d 1).up,((b8 (cK A)).d 1).ao,(((b8 (cK A)).d 1).ro==3),((b8 (cK A)).d 1).co,((b8 (cK A)).d 1).j,((b8 (cK A)).d 1).lt,((b8 (cK A)).d 1).li,(FX ((b8 (cK A)).d 1).ep),(FY ((b8 (cK A)).d 1).dn),(FZ ((b8 (cK A)).d 1).e1),(F0 ((b8 (cK A)).d 1).er)⟩:hL)]:List hL))) (G.lit ([(⟨((b8 (cK A)).d 2).up,((b8 (cK A)).d 2).ao,(((b8 (cK A)).d 2).ro==3),((b8 (cK A)).d 2).co,((b8 (cK A)).d 2).j,((b8 (cK A)).d 2).lt,((b8 (cK A)).d 2).li,(FX ((b8 (cK A)).d 2).ep),(FY ((b8 (cK A)).d 2).dn),(FZ ((b8 (cK A)).d 2).e1),(F0 ((b8 (cK A)).d 2).er)⟩:hL)]:List hL))) (tl A).2.1))
def Bz:G bF:=(cond (decide ((A.n:Int)>3000)) (B:G bF) (cond (mW A) (TF A) (tl A).2.2.1))
def adY:G aU:=(cond (decide ((A.n:Int)>3000)) (B:G aU) (cond (mW A) (G.cut (BA (b8 (cK A)).bh) (b8 (cK A)).bh.n) (tl A).2.2.2.1))
def adZ:Int:=(cond (decide ((A.n:Int)>3000)) 0 (cond (mW A) (((b8 (cK A)).ag.n:Nat):Int) (tl A).2.2.2.2.1))
def K1:Int:=(cond (decide ((A.n:Int)>3000)) 1 (cond (mW A) 0 (tl A).2.2.2.2.2))
def aaX(A:G a7)(i:A.n<=3000): ∀(m a:Nat) (v:Int),0<=v->v+(m:Int)=(A.n:Int)->m<=a->(vz A (a+1) v).1=false-> ∀q:Nat,v<=(q:Int)->q<A.n->jN (A.at' q)
 |0,a,v,d,g,f,h,q,j,b=>by omega
 |m+1,a,v,d,g,f,h,q,j,b=>by
  obtain⟨a,rfl⟩: ∃q,a=q+1:=⟨a-1,Ω⟩;rw[vz,bM (show v<(A.n:Int) by omega)]at h;simp only[aR]at h
  cases e:(o9 (A.at' (toNat v)).q (A.at' (toNat v)).F (A.at' (toNat v)).z (A.at' (toNat v)).M (A.at' (toNat v)).w (A.at' (toNat v)).C (A.at' (toNat v)).P (A.at' (toNat v)).aw (A.at' (toNat v)).f (A.at' (toNat v)).aD !=0)with
  |true=>rw[e]at h;cases h
  |false=>
   rw[e]at h;simp only[aX]at h;rw[E _]at h
   by_cases c:(q:Int)=v
   .have:q=toNat v:=by omega
    subst this;exact bK e
   .exact aaX A i m a (v+1) Ω Ω Ω h q Ω b
def xe{A:G a7}(b:decide ((A.n:Int)>3000)=false)(h:mW A=true):A.n<=3000/\ ∀q,q<A.n->jN (A.at' q):=by
 have a:=hX b;have a:A.n<=3000:=by omega
 refine⟨a,λq c=> ?_⟩;have e:(tl A).1=false:=by
  unfold mW at h
  cases z:(tl A).1 with
  |true=>rw[z]at h;cases h
  |false=>rfl
 exact aaX A a A.n _ 0 (aZ _) Ω Ω e q Ω c
def WK(i:Int)(h:0<=i/\i<3):b7 ⟨(xY i),true,FN,x8,(FQ Gm),(FR Gn),(FT yv),(FU yw),(FV yt),(FW yu),(FD Gp),(FE vN),(FF vO),(FG vP),(FH vQ),(FI vN),(FJ vO),(FK vP),(FL vQ),(FM yu),xZ,x0,x1,x2,x3,x4,x5,x6,x7,(B:G hc),FO,FP,(B:G aj)⟩:=by
 have z:(0:Int)<=0/\(0:Int)<=1048577:=by decide
 have a:(0:Int)<=0/\(0:Int)<=1048576:=by decide
 exact⟨⟨h,aZ _,aZ _,a.2,cp _,(by decide:(0:Int)+((0:Nat):Int)<=1048576),cp _,⟨z,z,z⟩,mr,IC,a,⟨a,a,a⟩⟩,⟨cp _,λj b=>absurd b (eD j)⟩⟩
def apu:hA 0 vy:=by
 have a:=WK 0 Δ;have b:=WK 1 Δ;have c:=WK 2 Δ;refine xi (λi=> ?_) (λi=> ?_) Xo (bN _) (bN _)
 .match i with
  |0=>exact a
  |1=>exact b
  |i+2=>exact c
 .match i with
  |0=>exact bN _
  |1=>exact bN _
  |i+2=>exact bN _
def ai1{A:G a7} :mI A (0:Int) vy:=⟨⟨aZ _,Ω⟩,apu⟩
def aDh{A:G a7}{v:Int}{X:aA}(a:decide ((A.n:Int)>3000)=false)(b:mW A=true)(h:mI A v X)(c:decide (v<(A.n:Int))=true):mI A (i64 (v+1)) (TE A v X):=ai2 (xe a b).1 (xe a b).2 h (an c)
def aC_{A:G a7}{v:Int}{X:aA}(a:decide ((A.n:Int)>3000)=false)(b:mW A=true)(h:mI A v X)(c:decide (v<(A.n:Int))=true):e7 X (A.at' (toNat v)):=aC9 (xe a b).1 (xe a b).2 h (an c)
def ai3{A:G a7}(c:A.n<=3000)(b: ∀q,q<A.n->jN (A.at' q)): ∀(m a:Nat) (v:Int) (X:aA),v+(m:Int)=(A.n:Int)->m<=a->mI A v X->mI A (A.n:Int) (b8 (tk A (a+1) v X))
 |0,a,v,X,g,f,h=>by
  have e:=Ov h;rw[tk,bj (show¬v<(A.n:Int) by omega),aX,Ju,show(A.n:Int)=v by omega];exact h
 |m+1,a,v,X,g,f,h=>by
  obtain⟨a,rfl⟩: ∃q,a=q+1:=⟨a-1,Ω⟩;have e:=Ov h;have d:=ai2 c b h Ω;rw[tk,bM (show v<(A.n:Int) by omega),aR];rw[E _]at d |-;exact ai3 c b m a (v+1) _ Ω Ω d
def aa7{A:G a7}(a:decide ((A.n:Int)>3000)=false)(b:mW A=true):hA A.n (b8 (cK A)):=by
 have h:=(ai3 (xe a b).1 (xe a b).2 A.n (toNat ((A.n:Int)- (0:Int))) 0 vy Ω Ω ai1).2;rw[show toNat (A.n:Int)=A.n by omega]at h;exact h
def Ip{A:G a7}(a:decide ((A.n:Int)>3000)=false)(b:mW A=true):(b8 (cK A)).told.n<=540003000000/\(b8 (cK A)).bh.n<=900000/\(b8 (cK A)).ag.n<=300:=by
 have h:=aa7 a b;have d:=(xe a b).1;have e:=h.qE;have c:=h.gG;exact⟨Ω,Ω,h.nu⟩
def amI:bq:=⟨[.v (.ab mE)],λA=>⟨⟨none,.dp [.agg [aP 11 JE (FC A),aP 12 JC (Bz A),aP 2 JD (adY A),b (adZ A)],b (K1 A)]⟩⟩⟩
def Xt(A:G a7):Prop:=((decide ((A.n:Int)>3000))=false->((((0<=(0:Int)/\(0:Int)<=(A.n:Int)))/\(∀(aB:Int),(0<=aB/\aB<=(A.n:Int))->(((decide (aB<(A.n:Int)))=true->((0:Int)<=aB/\aB<(A.n:Int)))/\((decide (aB<(A.n:Int)))=true->(((o9 (A.at' (toNat aB)).q (A.at' (toNat aB)).F (A.at' (toNat aB)).z (A.at' (toNat aB)).M (A.at' (toNat aB)).w (A.at' (toNat aB)).C (A.at' (toNat aB)).P (A.at' (toNat aB)).aw (A.at' (toNat aB)).f (A.at' (toNat aB)).aD)!=0)=false->((0<=(i64 (aB+1))/\(i64 (aB+1))<=(A.n:Int))/\(toNat ((A.n:Int)- (i64 (aB+1))))<(toNat ((A.n:Int)-aB))))))))/\((mW A)=true->(((mI A (0:Int) vy)/\(Ah (aH.int .i64::ck) λ(b:Int×jP)=>mI A b.1 (b8 b.2)->(((decide (b.1<(A.n:Int)))=true->(((0:Int)<=b.1/\b.1<(A.n:Int))/\(e7 (b8 b.2) (A.at' (toNat b.1)))))/\((decide (b.1<(A.n:Int)))=true->(mI A (i64 (b.1+1)) (TE A b.1 (b8 b.2))/\(toNat ((A.n:Int)- (i64 (b.1+1))))<(toNat ((A.n:Int)-b.1)))))))/\(((((0<=(0:Int)/\(0:Int)<=(((b8 (cK A)).told.n:Nat):Int))/\((0:Nat):Int)<=0+((0:Int)-0)))/\(∀(a:Int) (c:G bF),((0<=a/\a<=(((b8 (cK A)).told.n:Nat):Int))/\(c.n:Int)<=0+(a-0))->(((decide (a<(((b8 (cK A)).told.n:Nat):Int)))=true->((((0:Int)<=a/\a<(((b8 (cK A)).told.n:Nat):Int))/\((toNat a)<(b8 (cK A)).told.n))/\(c.n+1<=549755813888)))/\(((decide (a<(((b8 (cK A)).told.n:Nat):Int)))=true->(((0<=(i64 (a+1))/\(i64 (a+1))<=(((b8 (cK A)).told.n:Nat):Int))/\(((c.n+1):Nat):Int)<=0+((i64 (a+1))-0))/\(toNat ((((b8 (cK A)).told.n:Nat):Int)- (i64 (a+1))))<(toNat ((((b8 (cK A)).told.n:Nat):Int)-a))))/\((decide (a<(((b8 (cK A)).told.n:Nat):Int)))=false->((c.n:Int)<=0+max ((((b8 (cK A)).told.n:Nat):Int)-0) 0))))))/\(((((TF A).n:Nat):Int)<=0+max ((((b8 (cK A)).told.n:Nat):Int)-0) 0)->(((b8 (cK A)).bh.n<=900000)/\((1<=549755813888)/\((1+1<=549755813888)/\((1+1)+1<=549755813888))))))))))
def aAZ(A:G a7)(s:A.n<=549755813888):Xt A:=by
 unfold Xt;exact(λk=>⟨⟨Ω,(λaB q=>⟨(λd=>(by have:=an d;omega)),(λe=>(λm=>(by have:=an e;have:=E (aB+1);omega)))⟩)⟩,(λn=>⟨⟨(by apply ai1),((DZ _ _).2 λ(i:Int×jP) r=>⟨(λf=>⟨(by have:=an f;(try have h:=Ov Ψ);omega),(by repeat first|assumption|apply aC_)⟩),(λg=>⟨(by repeat first|assumption|apply aDh),(by have:=an g;(try have h:=Ov Ψ);have:=E (i.1+1);omega)⟩)⟩)⟩,⟨⟨Ω,(λj t p=>⟨(λa=>⟨⟨(by have:=an a;omega),(by have:=an a;omega)⟩,(by(try have b:=Ip Ψ Ψ);omega)⟩),⟨(λc=>(by have:=an c;(try have b:=Ip Ψ Ψ);have:=E (j+1);omega)),(λl=>Ω)⟩⟩)⟩,(λo=>⟨(by(try have b:=Ip Ψ Ψ);omega),⟨Ω,⟨Ω,Ω⟩⟩⟩)⟩⟩)⟩)
def Zz:cT:=⟨.pure,[.cell 2 30,.tmp 3],[(.c 0 0,.ab O_),(.c 0 1,.ab j_),(.c 0 2,.ab cY),(.c 0 3,a),(.t 1,a)],⟨[.agg (us 4 []),U],[]⟩⟩
def as1:cw Zz.cg:=let c:=b8 (cK A);(.ae (.ae (.j ⟨13,[],[],[],.f⟩ (.ae (.cX ⟨14680077,[],[],[(.t 23,a)],some 0,true,13,[],[],λk (s:Int)=>vz A k s,.f,λ(s:Int)=>(0<=s/\s<=(A.n:Int)),λ(s:Int)=>(toNat ((A.n:Int)-s)),none⟩ .z)) (.ae (.s (.ae (.un 3 (.s (.ae (.s (.c true .z) .z)) (.s (.ae (.s (.c true .z) .z)) (.s (.ae (.s (.c true .z) .z)) (.ae (.s (.c false .z) .z))))))) (.j ⟨140,[],[],[],.f⟩ (.ae (.zg ⟨126100789566374028,[],[(.h 1 29,du),(.h 1 32,cJ),(.h 1 62,du),(.h 1 65,cJ),(.h 1 95,du),(.h 1 98,cJ),(.h 1 99,cJ),(.h 1 100,j_),(.h 1 101,cY)],(.t 56,a)::aa8 [2,3,4,5,6,7,8,9,10],some 4,false,140,[],aa8 [2,3,4,5,6,7,8,9,10],λk (b:Int×jP)=>tk A k b.1 (b8 b.2),.f,λ(b:Int×jP)=>mI A b.1 (b8 b.2),λ(b:Int×jP)=>(toNat ((A.n:Int)-b.1)),none⟩ (λ(b:Int×jP)=>(.ae (.ae (.ae (.gl [] [.own (.h 1 29) du 2,.own (.h 1 62) du 4,.own (.h 1 95) du 6,.own (.h 1 32) cJ 3,.own (.h 1 65) cJ 5,.own (.h 1 98) cJ 7,.own (.h 1 99) cJ 8]))))))) (.ae (.j ⟨2188,[],[],[],.f⟩ (.ae (.cX ⟨1057810092162800527870092,[],[(.h 11 1,j_)],[(.t 79,a),(.h 12 0,.ad j_)],some 6,false,2188,[],[(.h 12 0,.ad j_)],λk (s:Int×G bF)=>tj A k s.1 s.2,.f,λ(s:Int×G bF)=>((0<=s.1/\s.1<=(c.told.n:Int))/\(s.2.n:Int)<=0+(s.1-0)),λ(s:Int×G bF)=>(toNat ((c.told.n:Int)-s.1)),some λ(r:G bF)=>(r.n:Int)<=0+max ((c.told.n:Int)-0) 0⟩ .z)) (.ae (.s (.ae (.un 3 (.s (.ae (.s (.c true .z) .z)) (.s (.ae (.s (.c true .z) .z)) (.s (.ae (.s (.c true .z) .z)) (.ae (.s (.c false .z) .z))))))) .z))))))))))
def axL:bx 11 amI:=bA Tryz.func11
 λA a _=>bD Zz (as1 A) (Xt A) (b1 0 (aJ agH (aJ ayj (aJ Cz (aJ CC (aJ agw (aJ axO a2)))))) (ay axN (ay axM b0))) Tryz.func11 (aAZ A a)
end
section
variable(A:Int)(g:Int)(r:Int)(h:Int)(o:u)(c:Int)(v:Int)(y:u)
def Us:Int:=(cond (decide (A<0)) (i64 (0- (i64 (A+1)))) A)
def cL:Int:=((Us A).tmod g)
def am2:bq:=⟨[.v a,.v a],λ(A:Int) (g:Int)=>⟨⟨some (0<g),b (cL A g)⟩⟩⟩
theorem V6:bx 9 am2:=bA Tryz.func9
 λ(A:Int) (g:Int) b=>bD ⟨.pure,[.tmp 4],[(.t 0,a)],⟨[U],[]⟩⟩ (.ae (.j ⟨19,[],[(.t 0,a)],[],.f⟩ .z .z)) ((g:Int)≠0) fx Tryz.func9 (Ω)
def a8:Int:=(cL A g)
def amX:bq:=⟨[.v a,.v a],λ(A:Int) (g:Int)=>⟨⟨some (0<g),b (a8 A g)⟩⟩⟩
theorem V5:bx 4 amX:=bA Tryz.func4
 λ(A:Int) (g:Int) b=>bD ⟨.pure,[.tmp 4],[(.t 0,a)],⟨[U],[]⟩⟩ (.z) (0<g) (ct (aJ V6 a2)) Tryz.func4 (Ω)
def k9:u:=(G.toStr (G.lit ([(u8 (i64 (97+(cL A 9))))]:List Int)))
def am9:bq:=⟨[.v a],λA=>⟨⟨none,.str (k9 A)⟩⟩⟩
theorem aye:bx 38 am9:=bA Tryz.func38
 λ(A:Int)=>bD ⟨.pure,[.tmp 2],[(.t 0,al)],⟨[U],[]⟩⟩ (.z) (0<(9:Int)) (ct (aJ V6 a2)) Tryz.func38 (Ω)
def LU(A:u)(g:Int):u:=((A:u).extract (toNat 0) (toNat (ff ((A:u).size:Int) g)))
def am_:bq:=⟨[.v al,.v a],λA (g:Int)=>⟨⟨some (0<=g),.str (LU A g)⟩⟩⟩
theorem ayf:bx 39 am_:=bA Tryz.func39
 λA c (g:Int) b=>bD ⟨.pure,[.tmp 4],[(.t 0,al)],⟨[U],[]⟩⟩ (.z) (let a:=ff ((A:u).size:Int) g;((0:Int)<=0)/\((0:Int)<=a)/\((a:Int)<=((A:u).size:Int))) fx Tryz.func39 ((by have:=lP ((A:u).size:Int) g;omega))
def B1:u:=(cond ((cL h 3)==0) (k9 h) (LU o 6))
def tz:Bool:=(cond ((i64 (1+(cL A 22)))==1) ((i64 (1+(cL A 22)))==1) (cond ((i64 (1+(cL A 22)))==7) ((i64 (1+(cL A 22)))==7) (cond ((i64 (1+(cL A 22)))==8) ((i64 (1+(cL A 22)))==8) (cond ((i64 (1+(cL A 22)))==11) ((i64 (1+(cL A 22)))==11) (cond ((i64 (1+(cL A 22)))==12) ((i64 (1+(cL A 22)))==12) (cond ((i64 (1+(cL A 22)))==13) ((i64 (1+(cL A 22)))==13) (cond ((i64 (1+(cL A 22)))==15) ((i64 (1+(cL A 22)))==15) ((i64 (1+(cL A 22)))==16))))))))
def yz:Bool:=(cond ((i64 (1+(cL A 22)))==5) ((i64 (1+(cL A 22)))==5) ((i64 (1+(cL A 22)))==6))
def aeq:u:=(cond (tz A) (k9 g) (cond ((i64 (1+(cL A 22)))==3) (k9 g) (cond ((i64 (1+(cL A 22)))==20) (k9 g) (cond ((i64 (1+(cL A 22)))==4) (k9 g) (cond (yz A) (k9 g) (cond ((i64 (1+(cL A 22)))==14) (k9 g) (cond ((i64 (1+(cL A 22)))==22) ⟨#[]⟩ (k9 g))))))))
def aer:u:=(cond (tz A) ⟨#[]⟩ (cond ((i64 (1+(cL A 22)))==3) ⟨#[]⟩ (cond ((i64 (1+(cL A 22)))==20) ⟨#[]⟩ (cond ((i64 (1+(cL A 22)))==4) (k9 r) (cond (yz A) (k9 r) ⟨#[]⟩)))))
def aes:u:=(cond (tz A) (B1 h o) (cond ((i64 (1+(cL A 22)))==3) ⟨#[]⟩ (cond ((i64 (1+(cL A 22)))==20) ⟨#[]⟩ (cond ((i64 (1+(cL A 22)))==4) (B1 h o) (cond (yz A) ⟨#[]⟩ (cond ((i64 (1+(cL A 22)))==14) (B1 h o) ⟨#[]⟩))))))
def aet:Int:=(cond (tz A) 0 (cond ((i64 (1+(cL A 22)))==3) (h.tmod 1073741824) (cond ((i64 (1+(cL A 22)))==20) (cL h 60) (cond ((i64 (1+(cL A 22)))==4) 0 (cond (yz A) 0 (cond ((i64 (1+(cL A 22)))==14) (i64 ((cL h 12)-6)) 0))))))
def LM:Int:=(i64 (1+(cL A 22)))
def LN:u:=(aeq A g)
def LO:u:=(aer A r)
def LP:u:=(aes A h o)
def LQ:Int:=(aet A h)
def am6:bq:=⟨[.g [a,a,a,a,al]],λA g r h o=>⟨⟨none,.agg [b (LM A),.str (LN A g),.str (LO A r),.str (LP A h o),b (LQ A h)]⟩⟩⟩
theorem ayb:bx 25 am6:=bA Tryz.func25
 λ(A:Int) (g:Int) (r:Int) (h:Int) o m=>bD ⟨.pure,[.cell 2 35],[(.c 0 0,a),(.c 0 1,al),(.c 0 2,al),(.c 0 3,al),(.c 0 4,a)],⟨[.agg (us 5 [])],[]⟩⟩ (.ae (.ae (.ae (.j ⟨30,[],[(.t 4,al)],[],.f⟩ .z (.j ⟨12,[.b 0],[(.h 2 1,al),(.h 2 2,al),(.h 2 3,al),(.h 2 4,a)],[.f,(.b .f (.b .f (.b .f (.b .f (.b .f .l))))),(.b .f (.b .f (.b .f (.b .f (.b .f (.b .f .l)))))),(.b .f (.b .f (.b .f (.b .f (.b .f (.b .f .l))))))],.f⟩ (.ae (.j ⟨50331678,[],[(.t 25,K)],[],.f⟩ .z (.ae (.ae (.ae (.ae (.ae (.ae (.ae (.j ⟨72057594054705182,[],[(.t 56,K)],[],.f⟩ .z .z)))))))))) .z))))) (let b:=i64 (1+(cL A 22));(0<(22:Int))/\((0<=(6:Int))/\((0<(3:Int))/\((tz A)=false->(((b==3)=true->((1073741824:Int)≠0))/\((b==3)=false->(((b==20)=true->(0<(60:Int)))/\((b==20)=false->((b==4)=false->((yz A)=false->((b==14)=true->(0<(12:Int))))))))))))) (ct (aJ V6 (aJ aye (aJ ayf a2)))) Tryz.func25 (⟨Ω,⟨Ω,⟨Ω,(λc=>⟨(λe=>(by have:=c;simp [tz]at this;have:=eq_of_beq e;omega)),(λd=>⟨(λf=>(by have:=c;simp [tz]at this;have:=dc d;have:=eq_of_beq f;omega)),(λi=>(λj=>(λk=>(λl=>(by have:=c;simp [tz]at this;have:=dc d;have:=dc i;have:=dc j;have:=k;simp [yz]at this;have:=eq_of_beq l;omega)))))⟩)⟩)⟩⟩⟩)
def LD:Int:=(cond ((a8 r 4)==0) 0 (a8 r 4))
def LF:Int:=(cond ((a8 r 4)==0) 0 (i64 (1+(a8 g 4))))
def LG:Int:=(cond ((a8 r 4)==0) 0 (LM h))
def LH(o:Int):u:=(cond ((a8 r 4)==0) ⟨#[]⟩ (LN h o))
def LI:u:=(cond ((a8 r 4)==0) ⟨#[]⟩ (LO h c))
def LJ:u:=(cond ((a8 r 4)==0) ⟨#[]⟩ (LP h v y))
def LK:Int:=(cond ((a8 r 4)==0) 0 (LQ h v))
def am4:bq:=⟨[.g [a,a,a,a,a,a,a,al]],λ_ g r h o c v y=>⟨⟨none,.agg [b (LD r),b (LF g r),b (LG r h),.str (LH r h o),.str (LI r h c),.str (LJ r h v y),b (LK r h v)]⟩⟩⟩
theorem ax_:bx 14 am4:=bA Tryz.func14
 λ(A:Int) (g:Int) (r:Int) (h:Int) (o:Int) (c:Int) (v:Int) y d=>bD ⟨.pure,[.cell 2 37],[(.c 0 0,a),(.c 0 1,a),(.c 0 2,a),(.c 0 3,al),(.c 0 4,al),(.c 0 5,al),(.c 0 6,a)],⟨[.agg (us 7 [])],[]⟩⟩ (.z) ((0<(4:Int))/\(((a8 r 4)==0)=false->(0<(4:Int)))) (ct (aJ V5 (aJ ayb a2))) Tryz.func14 (⟨Ω,(λb=>Ω)⟩)
def k8:Bool:=(cond ((a8 A 20)==0) ((a8 A 20)==0) (cond ((a8 A 20)==1) ((a8 A 20)==1) ((a8 A 20)==2)))
def rD:Bool:=(cond ((a8 A 20)==3) ((a8 A 20)==3) ((a8 A 20)==4))
def rE:Bool:=(cond ((a8 A 20)==5) ((a8 A 20)==5) (cond ((a8 A 20)==6) ((a8 A 20)==6) ((a8 A 20)==7)))
def rF:Bool:=(cond ((a8 A 20)==8) ((a8 A 20)==8) (cond ((a8 A 20)==9) ((a8 A 20)==9) (cond ((a8 A 20)==10) ((a8 A 20)==10) ((a8 A 20)==11))))
def Lr:Int:=(cond (k8 A) 1 (cond (rD A) 2 (cond (rE A) 3 (cond (rF A) 4 (cond ((a8 A 20)==12) 6 (cond ((a8 A 20)==13) 7 (cond ((a8 A 20)==14) 8 (cond ((a8 A 20)==15) 9 (cond ((a8 A 20)==16) 10 (cond ((a8 A 20)==17) 11 (cond ((a8 A 20)==18) 5 12)))))))))))
def Ls:Int:=(cond (k8 A) (a8 g 3) (cond (rD A) (a8 g 3) (cond (rE A) (a8 g 3) (cond (rF A) (a8 g 3) (cond ((a8 A 20)==12) 0 (cond ((a8 A 20)==13) 0 (cond ((a8 A 20)==14) 0 (cond ((a8 A 20)==15) (a8 g 3) (cond ((a8 A 20)==16) (a8 g 3) (cond ((a8 A 20)==17) (a8 g 3) (cond ((a8 A 20)==18) (a8 g 3) 0)))))))))))
def BZ:Int:=(cond (k8 A) 0 (cond (rD A) 0 (cond (rE A) 0 (cond (rF A) 0 (cond ((a8 A 20)==12) (a8 r 300) (cond ((a8 A 20)==13) (a8 r 300) (cond ((a8 A 20)==14) (a8 r 300) (cond ((a8 A 20)==15) (a8 r 500) (cond ((a8 A 20)==16) 0 (cond ((a8 A 20)==17) 0 (cond ((a8 A 20)==18) (a8 r 40) 0)))))))))))
def Lu:Int:=(cond (k8 A) (LD r) 0)
def Lv:Int:=(cond (k8 A) (LF g r) 0)
def Lx:Int:=(cond (k8 A) (LG r h) 0)
def Ly(o:Int):u:=(cond (k8 A) (LH r h o) ⟨#[]⟩)
def LA:u:=(cond (k8 A) (LI r h c) ⟨#[]⟩)
def LB:u:=(cond (k8 A) (LJ r h v y) ⟨#[]⟩)
def LC:Int:=(cond (k8 A) (LK r h v) 0)
def am1:bq:=⟨[.g [a,a,a,a,a,a,a,al]],λA g r h o c v y=>⟨⟨none,.agg [b (Lr A),b (Ls A g),b (BZ A r),b (Lu A r),b (Lv A g r),b (Lx A r h),.str (Ly A r h o),.str (LA A r h c),.str (LB A r h v y),b (LC A r h v)]⟩⟩⟩
theorem ax8:bx 10 am1:=bA Tryz.func10
 λ(A:Int) (g:Int) (r:Int) (h:Int) (o:Int) (c:Int) (v:Int) y x=>bD (ms:=[.f,.f,.f,(.b .f .l),(.b .f .l),(.b .f .l),(.b .f .l),(.b .f .l),(.b .f .l),(.b .f .l)]) ⟨.pure,[.cell 2 39],[(.c 0 0,a),(.c 0 1,a),(.c 0 2,a),(.c 0 3,a),(.c 0 4,a),(.c 0 5,a),(.c 0 6,al),(.c 0 7,al),(.c 0 8,al),(.c 0 9,a)],⟨[.agg (us 10 [])],[]⟩⟩ (.ae (.ae (.s (.ae (.j ⟨1550,[],[(.t 10,K)],[],.f⟩ .z (.ae (.j ⟨262670,[],[(.t 18,K)],[],.f⟩ .z (.ae (.j ⟨8389134,[],[(.t 23,K)],[],.f⟩ .z (.ae (.j ⟨536871438,[],[(.t 29,K)],[],.f⟩ .z .z)))))))) .z))) (let b:=a8 A 20;(0<(3:Int))/\((0<(20:Int))/\((k8 A)=false->((rD A)=false->((rE A)=false->((rF A)=false->(((b==12)=true->(0<(300:Int)))/\((b==12)=false->(((b==13)=true->(0<(300:Int)))/\((b==13)=false->(((b==14)=true->(0<(300:Int)))/\((b==14)=false->(((b==15)=true->(0<(500:Int)))/\((b==15)=false->((b==16)=false->((b==17)=false->((b==18)=true->(0<(40:Int))))))))))))))))))) (ct (aJ V5 (aJ ax_ a2))) Tryz.func10 (⟨Ω,⟨Ω,(λd=>(λe=>(λf=>(λi=>⟨(λt=>(by have:=d;simp [k8]at this;have:=e;simp [rD]at this;have:=f;simp [rE]at this;have:=i;simp [rF]at this;have:=eq_of_beq t;omega)),(λj=>⟨(λu=>(by have:=d;simp [k8]at this;have:=e;simp [rD]at this;have:=f;simp [rE]at this;have:=i;simp [rF]at this;have:=dc j;have:=eq_of_beq u;omega)),(λk=>⟨(λw=>(by have:=d;simp [k8]at this;have:=e;simp [rD]at this;have:=f;simp [rE]at this;have:=i;simp [rF]at this;have:=dc j;have:=dc k;have:=eq_of_beq w;omega)),(λl=>⟨(λm=>(by have:=d;simp [k8]at this;have:=e;simp [rD]at this;have:=f;simp [rE]at this;have:=i;simp [rF]at this;have:=dc j;have:=dc k;have:=dc l;have:=eq_of_beq m;omega)),(λn=>(λp=>(λq=>(λs=>(by have:=d;simp [k8]at this;have:=e;simp [rD]at this;have:=f;simp [rE]at this;have:=i;simp [rF]at this;have:=dc j;have:=dc k;have:=dc l;have:=dc n;have:=dc p;have:=dc q;have:=eq_of_beq s;omega)))))⟩)⟩)⟩)⟩))))⟩⟩)
def o7(A:G hZ)(g:Int)(e:Int):Bool:=(cond (decide (e<(A.n:Int))) (decide (e<g)) false)
def tx(A:G hZ)(g:Int):Nat->Int->G a7->G a7
 |0,_,_=>default
 |k+1,e,l=>(cond (o7 A g e) (tx A g k (i64 (e+1)) (G.app l (G.lit ([(⟨(Lr (A.at' (toNat e)).q),(Ls (A.at' (toNat e)).q (A.at' (toNat e)).F),(BZ (A.at' (toNat e)).q (A.at' (toNat e)).z),(Lu (A.at' (toNat e)).q (A.at' (toNat e)).z),(Lv (A.at' (toNat e)).q (A.at' (toNat e)).F (A.at' (toNat e)).z),(Lx (A.at' (toNat e)).q (A.at' (toNat e)).z (A.at' (toNat e)).M),(Ly (A.at' (toNat e)).q (A.at' (toNat e)).z (A.at' (toNat e)).M (A.at' (toNat e)).w),(LA (A.at' (toNat e)).q (A.at' (toNat e)).z (A.at' (toNat e)).M (A.at' (toNat e)).C),(LB (A.at' (toNat e)).q (A.at' (toNat e)).z (A.at' (toNat e)).M (A.at' (toNat e)).P (A.at' (toNat e)).aw),(LC (A.at' (toNat e)).q (A.at' (toNat e)).z (A.at' (toNat e)).M (A.at' (toNat e)).P)⟩:a7)]:List a7)))) l)
def asd(A:G hZ)(g:Int):G a7:=tx A g ((toNat ((A.n:Int)-0))+1) 0 (B:G a7)
def dw(A:G hZ)(g:Int):G a7:=(asd A g)
def amW:bq:=⟨[.v (.ab Pd),.v a],λA g=>⟨⟨none,(aH.ad mE).av (dw A g)⟩⟩⟩
theorem ax5:bx 5 amW:=bA Tryz.func5
 λA h _ (g:Int)=>bD ⟨.own mE,[.tmp 4],[(.h 0 0,.ad mE)],⟨[],[]⟩⟩ (.ae (.ae (.j ⟨48,[],[],[],.f⟩ (.ae (.cX ⟨115,[],[(.t 5,mE)],[(.t 6,a),(.h 0 0,.ad mE)],some 0,false,48,[],[(.h 0 0,.ad mE)],λk (s:Int×G a7)=>tx A g k s.1 s.2,.f,λ(s:Int×G a7)=>(0<=s.1/\s.1<=(A.n:Int)/\(s.2.n:Int)=s.1),λ(s:Int×G a7)=>(toNat ((A.n:Int)-s.1)),none⟩ (.s (.j ⟨73587,[],[(.t 12,K),(.t 16,K)],[],.f⟩ .z .z) .z))) .z))) (((0<=(0:Int)/\(0:Int)<=(A.n:Int)/\((0:Nat):Int)=(0:Int)))/\(∀(e:Int) (l:G a7),let b:=i64 (e+1);(0<=e/\e<=(A.n:Int)/\(l.n:Int)=e)->(((o7 A g e)=true->(((0:Int)<=e/\e<(A.n:Int))/\(l.n+1<=549755813888)))/\((o7 A g e)=true->((0<=b/\b<=(A.n:Int)/\(((l.n+1):Nat):Int)=b)/\(toNat ((A.n:Int)-b))<(toNat ((A.n:Int)-e))))))) (ct (aJ ax8 a2)) Tryz.func5 (⟨Ω,(λe l f=>⟨(λc=>⟨(by have:=c;(try simp [o7]at this);omega),(by have:=c;(try simp [o7]at this);omega)⟩),(λd=>(by have:=d;(try simp [o7]at this);first|omega|(have:=E (e+1);omega)))⟩)⟩)
def n_(A:G a7)(g:G a7):G a7:=(G.app A g)
def amV:bq:=⟨[.v (.ab mE),.v (.ab mE)],λA g=>⟨⟨some ((A.n:Int)+g.n<=549755813888),(aH.ad mE).av (n_ A g)⟩⟩⟩
theorem ax4:bx 7 amV:=bA Tryz.func7
 λA b _ g c _ a=>bD ⟨.own mE,[.tmp 4],[(.h 0 0,.ad mE)],⟨[],[]⟩⟩ (.z) ((A.n<=549755813888)/\(A.n+g.n<=549755813888)) fx Tryz.func7 (⟨Ω,Ω⟩)
def aem(A:G a7):Bool:=(cond ((K1 A)==0) (((FC A).n:Int)==3) false)
def gA(A:G a7):G hL:=(FC A)
def hR(A:G a7):G bF:=(Bz A)
def asb(A:G a7):G aU:=(adY A)
def asc(A:G a7):Int:=(adZ A)
def tw(A:G a7):Bool:=(aem A)
def amU:bq:=⟨[.v (.ab mE)],λA=>⟨⟨none,.dp [.agg [aP 11 JE (gA A),aP 12 JC (hR A),aP 2 JD (asb A),b (asc A)],.bool (tw A)]⟩⟩⟩
theorem ax3:bx 6 amU:=bA Tryz.func6
 λA _ _=>bD ⟨.pure,[.cell 2 30,.tmp 3],[(.c 0 0,.ab O_),(.c 0 1,.ab j_),(.c 0 2,.ab cY),(.c 0 3,a),(.t 1,K)],⟨[.agg (us 4 []),U],[]⟩⟩ (.ae (.ae (.j ⟨12,[.b 1],[(.t 3,K)],[],.f⟩ .z .z))) True (ct (aJ axL a2)) Tryz.func6 (trivial)
end
section
def B5(A:G u)(g:G u):Nat->Int->Bool×Bool
 |0,_=>default
 |k+1,aB=>(cond (decide (aB<(A.n:Int))) (cond (!(((A.at' (toNat aB)):u).toList==((g.at' (toNat aB)):u).toList)) (true,false) (B5 A g k (i64 (aB+1)))) (false,default))
def Uz(A:G u)(g:G u):Bool×Bool:=B5 A g ((toNat ((A.n:Int)-0))+1) 0
def aex(A:G u)(g:G u):Bool:=(cond (Uz A g).1 false true)
def Gu(A:G u)(g:G u):Bool:=(cond ((A.n:Int)!=(g.n:Int)) false (cond (aex A g) true (Uz A g).2))
def anb:bq:=⟨[.v (.ab bV),.v (.ab bV)],λA g=>⟨⟨none,.bool (Gu A g)⟩⟩⟩
def agI:bx 67 anb:=bA Tryz.func67
 λA j _ g l _=>bD ⟨.pure,[.tmp 4],[(.t 0,K)],⟨[U],[]⟩⟩ (.ae (.ae (.j ⟨16,[],[],[],.f⟩ (.ae (.cX ⟨51,[],[],[(.t 5,a)],some 0,true,16,[],[],λk (s:Int)=>B5 A g k s,.f,λ(s:Int)=>(0<=s/\s<=(A.n:Int)),λ(s:Int)=>(toNat ((A.n:Int)-s)),none⟩ .z)) .z))) (((A.n:Int)!=(g.n:Int))=false->(((0<=(0:Int)/\(0:Int)<=(A.n:Int)))/\(∀(aB:Int),let e:=decide (aB<(A.n:Int));let b:=i64 (aB+1);(0<=aB/\aB<=(A.n:Int))->((e=true->(((0:Int)<=aB/\aB<(A.n:Int))/\((0:Int)<=aB/\aB<(g.n:Int))))/\(e=true->((!(((A.at' (toNat aB)):u).toList==((g.at' (toNat aB)):u).toList))=false->((0<=b/\b<=(A.n:Int))/\(toNat ((A.n:Int)-b))<(toNat ((A.n:Int)-aB))))))))) fx Tryz.func67 ((λc=>⟨Ω,(λaB i=>⟨(λd=>⟨(by have:=an d;omega),(by have:=bK c;have:=an d;omega)⟩),(λf=>(λh=>(by have:=bK c;have:=an f;first|omega|(have:=E (aB+1);omega))))⟩)⟩))
variable(A:Int)(g:G N)(r:Int)(h:G ar)(o:Int)(c:G bG)(y:G ar)(bn:G bG)
def qa(g:u)(r:Int)(h:G bt)(o:G u)(c:G bG)(v:Int)(y:u)(p:Int)(x:G bt)(ai:G u)(bn:G bG):Bool:=(cond (A !=v) true (cond (!((g:u).toList==(y:u).toList)) true (cond (r !=p) true (cond ((h.n:Int)!=(x.n:Int)) true (cond ((c.n:Int)!=(bn.n:Int)) true (!(Gu o ai)))))))
def B4(h:G bt)(x:G bt):Nat->Int->Bool×Bool
 |0,_=>default
 |k+1,a=>(cond (decide (a<(h.n:Int))) (cond (!((((h.at' (toNat a)).q:u).toList==((x.at' (toNat a)).q:u).toList)&&((((h.at' (toNat a)).F:u).toList==((x.at' (toNat a)).F:u).toList)&&true))) (true,false) (B4 h x k (i64 (a+1)))) (false,default))
def Ux(h:G bt)(x:G bt):Bool×Bool:=B4 h x ((toNat ((h.n:Int)-0))+1) 0
def Uw(h:G bt)(x:G bt):Bool:=(cond (Ux h x).1 false true)
def B3(c:G bG)(bn:G bG):Nat->Int->Bool×Bool
 |0,_=>default
 |k+1,a=>(cond (decide (a<(c.n:Int))) (cond (!((((c.at' (toNat a)).q:u).toList==((bn.at' (toNat a)).q:u).toList)&&(((c.at' (toNat a)).F==(bn.at' (toNat a)).F)&&true))) (true,false) (B3 c bn k (i64 (a+1)))) (false,default))
def Uy:Bool×Bool:=B3 c bn ((toNat ((c.n:Int)-0))+1) 0
def aew:Bool:=(cond (Uy c bn).1 false true)
def LV(g:u)(r:Int)(h:G bt)(o:G u)(c:G bG)(v:Int)(y:u)(p:Int)(x:G bt)(ai:G u)(bn:G bG):Bool:=(cond (qa A g r h o c v y p x ai bn) false (cond (Uw h x) (cond (aew c bn) true (Uy c bn).2) (Ux h x).2))
def ana:bq:=⟨[.g [a,al,a,.ab dd,.ab bV,.ab c3],.g [a,al,a,.ab dd,.ab bV,.ab c3]],λA g r h o c v y p x ai bn=>⟨⟨none,.bool (LV A g r h o c v y p x ai bn)⟩⟩⟩
theorem ayg:bx 66 ana:=bA Tryz.func66
 λ(A:Int) g H (r:Int) h L _ o M _ c N _ (v:Int) y O (p:Int) x P _ ai I _ bn J _=>bD ⟨.pure,[.tmp 4],[(.t 0,K)],⟨[U],[]⟩⟩ (.ae (.s (.j ⟨2251799813685276,[],[(.t 51,K)],[],.f⟩ .z .z) (.j ⟨28,[],[],[],.f⟩ (.ae (.cX ⟨60,[],[],[(.t 5,a)],some 0,true,28,[],[],λk (s:Int)=>B4 h x k s,.f,λ(s:Int)=>(0<=s/\s<=(h.n:Int)),λ(s:Int)=>(toNat ((h.n:Int)-s)),none⟩ .z)) (.j ⟨16,[],[],[],.f⟩ (.ae (.cX ⟨92,[],[],[(.t 6,a)],some 2,true,16,[.b 0,.b 1],[],λk (s:Int)=>B3 c bn k s,.f,λ(s:Int)=>(0<=s/\s<=(c.n:Int)),λ(s:Int)=>(toNat ((c.n:Int)-s)),none⟩ .z)) .z)))) ((qa A g r h o c v y p x ai bn)=false->((((0<=(0:Int)/\(0:Int)<=(h.n:Int)))/\(∀(d:Int),let t:=decide (d<(h.n:Int));let i:=toNat d;let l:=i64 (d+1);(0<=d/\d<=(h.n:Int))->((t=true->(((0:Int)<=d/\d<(h.n:Int))/\((0:Int)<=d/\d<(x.n:Int))))/\(t=true->((!((((h.at' i).q:u).toList==((x.at' i).q:u).toList)&&((((h.at' i).F:u).toList==((x.at' i).F:u).toList)&&true)))=false->((0<=l/\l<=(h.n:Int))/\(toNat ((h.n:Int)-l))<(toNat ((h.n:Int)-d))))))))/\((Uw h x)=true->(((0<=(0:Int)/\(0:Int)<=(c.n:Int)))/\(∀(b:Int),let q:=decide (b<(c.n:Int));let f:=toNat b;let j:=i64 (b+1);(0<=b/\b<=(c.n:Int))->((q=true->(((0:Int)<=b/\b<(c.n:Int))/\((0:Int)<=b/\b<(bn.n:Int))))/\(q=true->((!((((c.at' f).q:u).toList==((bn.at' f).q:u).toList)&&(((c.at' f).F==(bn.at' f).F)&&true)))=false->((0<=j/\j<=(c.n:Int))/\(toNat ((c.n:Int)-j))<(toNat ((c.n:Int)-b))))))))))) (ct (aJ agI a2)) Tryz.func66 ((λe=>⟨⟨(by have:=e;simp [qa]at this;omega),(λd F=>⟨(λm=>⟨(by have:=e;simp [qa]at this;have:=an m;omega),(by have:=e;simp [qa]at this;have:=an m;omega)⟩),(λw=>(λC=>(by have:=e;simp [qa]at this;have:=an w;first|omega|(have:=E (d+1);omega))))⟩)⟩,(λD=>⟨(by have:=e;simp [qa]at this;omega),(λb G=>⟨(λn=>⟨(by have:=e;simp [qa]at this;have:=an n;omega),(by have:=e;simp [qa]at this;have:=an n;omega)⟩),(λz=>(λB=>(by have:=e;simp [qa]at this;have:=an z;first|omega|(have:=E (b+1);omega))))⟩)⟩)⟩))
def aev(g:u)(r:Int)(h:G u)(o:Int)(c:u)(v:Int)(y:G u):Bool:=(cond (A==o) (cond ((g:u).toList==(c:u).toList) (cond (r==v) (Gu h y) false) false) false)
def LS(g:u)(r:Int)(h:G u)(o:Int)(c:u)(v:Int)(y:G u):Bool:=(aev A g r h o c v y)
def am8:bq:=⟨[.g [a,al,a,.ab bV],.g [a,al,a,.ab bV]],λA g r h o c v y=>⟨⟨none,.bool (LS A g r h o c v y)⟩⟩⟩
theorem ayd:bx 37 am8:=bA Tryz.func37
 λ(A:Int) g _ (r:Int) h _ _ (o:Int) c _ (v:Int) y _ _=>bD ⟨.pure,[.tmp 4],[(.t 0,K)],⟨[U],[]⟩⟩ (.ae (.j ⟨16,[.b 0,.b 1],[(.t 4,K)],[],.f⟩ .z .z)) True (ct (aJ agI a2)) Tryz.func37 (trivial)
def yA(h:G N):Bool:=(cond (A !=r) true ((g.n:Int)!=(h.n:Int)))
def Gt(h:G N)(a:Int):Bool:=(cond (!(((g.at' (toNat a)).q:u).toList==((h.at' (toNat a)).q:u).toList)) true (cond ((g.at' (toNat a)).aw !=(h.at' (toNat a)).aw) true (!(LV (g.at' (toNat a)).F (g.at' (toNat a)).z (g.at' (toNat a)).M (g.at' (toNat a)).w (g.at' (toNat a)).C (g.at' (toNat a)).P (h.at' (toNat a)).F (h.at' (toNat a)).z (h.at' (toNat a)).M (h.at' (toNat a)).w (h.at' (toNat a)).C (h.at' (toNat a)).P))))
def B2(g:G N)(h:G N):Nat->Int->Bool×Bool
 |0,_=>default
 |k+1,a=>(cond (decide (a<(g.n:Int))) (cond (Gt g h a) (true,false) (B2 g h k (i64 (a+1)))) (false,default))
def Uv(h:G N):Bool×Bool:=B2 g h ((toNat ((g.n:Int)-0))+1) 0
def aeu(h:G N):Bool:=(cond (Uv g h).1 false true)
def LR(h:G N):Bool:=(cond (yA A g r h) false (cond (aeu g h) true (Uv g h).2))
def am7:bq:=⟨[.g [a,.ab bp],.g [a,.ab bp]],λA g r h=>⟨⟨none,.bool (LR A g r h)⟩⟩⟩
theorem ayc:bx 36 am7:=bA Tryz.func36
 λ(A:Int) g m _ (r:Int) h n _=>bD ⟨.pure,[.tmp 4],[(.t 0,K)],⟨[U],[]⟩⟩ (.ae (.s (.j ⟨2097180,[],[(.t 21,K)],[],.f⟩ .z .z) (.j ⟨16,[],[],[],.f⟩ (.ae (.cX ⟨60,[],[],[(.t 5,a)],some 0,true,16,[.b 0,.b 1],[],λk (s:Int)=>B2 g h k s,.f,λ(s:Int)=>(0<=s/\s<=(g.n:Int)),λ(s:Int)=>(toNat ((g.n:Int)-s)),none⟩ (.ae (.s (.ae (.ae (.j ⟨291643259837481212,[],[(.t 44,K),(.t 50,K),(.t 51,K),(.t 58,K)],[(.b .f .l),(.b .f .l),.f,.f],.f⟩ .z .z))) .z)))) .z))) ((yA A g r h)=false->(((0<=(0:Int)/\(0:Int)<=(g.n:Int)))/\(∀(b:Int),let f:=decide (b<(g.n:Int));let d:=i64 (b+1);(0<=b/\b<=(g.n:Int))->((f=true->(((0:Int)<=b/\b<(g.n:Int))/\((0:Int)<=b/\b<(h.n:Int))))/\(f=true->((Gt g h b)=false->((0<=d/\d<=(g.n:Int))/\(toNat ((g.n:Int)-d))<(toNat ((g.n:Int)-b))))))))) (ct (aJ ayg a2)) Tryz.func36 ((λc=>⟨(by have:=c;simp [yA]at this;omega),(λb l=>⟨(λe=>⟨(by have:=c;simp [yA]at this;have:=an e;omega),(by have:=c;simp [yA]at this;have:=an e;omega)⟩),(λi=>(λj=>(by have:=c;simp [yA]at this;have:=an i;have:=j;simp [Gt]at this;first|omega|(have:=E (b+1);omega))))⟩)⟩))
def yy(c:G N)(v:Int)(y:G ar):Bool:=(cond (r !=v) true (cond (!(LR A g o c)) true ((h.n:Int)!=(y.n:Int))))
def Gs(bW:Int):Bool:=(cond ((h.at' (toNat bW)).q !=(y.at' (toNat bW)).q) true (cond ((h.at' (toNat bW)).F !=(y.at' (toNat bW)).F) true (cond ((h.at' (toNat bW)).z !=(y.at' (toNat bW)).z) true (!(LS (h.at' (toNat bW)).M (h.at' (toNat bW)).w (h.at' (toNat bW)).C (h.at' (toNat bW)).P (y.at' (toNat bW)).M (y.at' (toNat bW)).w (y.at' (toNat bW)).C (y.at' (toNat bW)).P)))))
def B0(h:G ar)(y:G ar):Nat->Int->Bool×Bool
 |0,_=>default
 |k+1,bW=>(cond (decide (bW<(h.n:Int))) (cond (Gs h y bW) (true,false) (B0 h y k (i64 (bW+1)))) (false,default))
def Uu:Bool×Bool:=B0 h y ((toNat ((h.n:Int)-0))+1) 0
def aep:Bool:=(cond (Uu h y).1 false true)
def LL(c:G N)(v:Int)(y:G ar):Bool:=(cond (yy A g r h o c v y) false (cond (aep h y) true (Uu h y).2))
def am5:bq:=⟨[.g [a,.ab bp,a,.ab bZ],.g [a,.ab bp,a,.ab bZ]],λA g r h o c v y=>⟨⟨none,.bool (LL A g r h o c v y)⟩⟩⟩
theorem aya:bx 24 am5:=bA Tryz.func24
 λ(A:Int) g m _ (r:Int) h n _ (o:Int) c p _ (v:Int) y q _=>bD ⟨.pure,[.tmp 4],[(.t 0,K)],⟨[U],[]⟩⟩ (.ae (.s (.j ⟨536870940,[],[(.t 29,K)],[],.f⟩ .z .z) (.j ⟨16,[],[],[],.f⟩ (.ae (.cX ⟨60,[],[],[(.t 5,a)],some 0,true,16,[.b 0,.b 1],[],λk (s:Int)=>B0 h y k s,.f,λ(s:Int)=>(0<=s/\s<=(h.n:Int)),λ(s:Int)=>(toNat ((h.n:Int)-s)),none⟩ (.ae (.s (.ae (.ae (.j ⟨9556287128405104656636,[],[(.t 52,K),(.t 58,K),(.t 59,K),(.t 65,K),(.t 66,K),(.t 73,K)],[(.b .f .l),(.b .f .l),(.b .f (.b .f .l)),(.b .f (.b .f .l)),.f,.f],.f⟩ .z .z))) .z)))) .z))) ((yy A g r h o c v y)=false->(((0<=(0:Int)/\(0:Int)<=(h.n:Int)))/\(∀(bW:Int),let f:=decide (bW<(h.n:Int));let d:=i64 (bW+1);(0<=bW/\bW<=(h.n:Int))->((f=true->(((0:Int)<=bW/\bW<(h.n:Int))/\((0:Int)<=bW/\bW<(y.n:Int))))/\(f=true->((Gs h y bW)=false->((0<=d/\d<=(h.n:Int))/\(toNat ((h.n:Int)-d))<(toNat ((h.n:Int)-bW))))))))) (ct (aJ ayc (aJ ayd a2))) Tryz.func24 ((λb=>⟨(by have:=b;simp [yy]at this;omega),(λbW l=>⟨(λe=>⟨(by have:=b;simp [yy]at this;have:=an e;omega),(by have:=b;simp [yy]at this;have:=an e;omega)⟩),(λi=>(λj=>(by have:=b;simp [yy]at this;have:=an i;have:=j;simp [Gs]at this;first|omega|(have:=E (bW+1);omega))))⟩)⟩))
def Ut(c:G N)(v:Int)(y:G ar):Bool:=(LL A g r h o c v y)
def am3:bq:=⟨[.g [a,.ab bp,a,.ab bZ],.g [a,.ab bp,a,.ab bZ]],λA g r h o c v y=>⟨⟨none,.bool (Ut A g r h o c v y)⟩⟩⟩
theorem ax9:bx 13 am3:=bA Tryz.func13
 λ(A:Int) g _ _ (r:Int) h _ _ (o:Int) c _ _ (v:Int) y _ _=>bD ⟨.pure,[.tmp 4],[(.t 0,K)],⟨[U],[]⟩⟩ (.z) True (ct (aJ aya a2)) Tryz.func13 (trivial)
def yx(g:Int)(r:G R)(h:Int)(o:Int)(c:G R):Bool:=(cond (A !=h) true (cond (g !=o) true ((r.n:Int)!=(c.n:Int))))
def BY(r:G R)(c:G R):Nat->Int->Bool×Bool
 |0,_=>default
 |k+1,bW=>(cond (decide (bW<(r.n:Int))) (cond (!(((r.at' (toNat bW)).q==(c.at' (toNat bW)).q)&&(((r.at' (toNat bW)).F==(c.at' (toNat bW)).F)&&(((r.at' (toNat bW)).z==(c.at' (toNat bW)).z)&&(((r.at' (toNat bW)).M==(c.at' (toNat bW)).M)&&(((r.at' (toNat bW)).w==(c.at' (toNat bW)).w)&&(((r.at' (toNat bW)).C==(c.at' (toNat bW)).C)&&((((r.at' (toNat bW)).P:u).toList==((c.at' (toNat bW)).P:u).toList)&&((((r.at' (toNat bW)).aw:u).toList==((c.at' (toNat bW)).aw:u).toList)&&((((r.at' (toNat bW)).f:u).toList==((c.at' (toNat bW)).f:u).toList)&&(((r.at' (toNat bW)).aD==(c.at' (toNat bW)).aD)&&true))))))))))) (true,false) (BY r c k (i64 (bW+1)))) (false,default))
def Ur(r:G R)(c:G R):Bool×Bool:=BY r c ((toNat ((r.n:Int)-0))+1) 0
def aen(r:G R)(c:G R):Bool:=(cond (Ur r c).1 false true)
def Lq(g:Int)(r:G R)(h:Int)(o:Int)(c:G R):Bool:=(cond (yx A g r h o c) false (cond (aen r c) true (Ur r c).2))
def amY:bq:=⟨[.g [a,a,.ab dk],.g [a,a,.ab dk]],λA g r h o c=>⟨⟨none,.bool (Lq A g r h o c)⟩⟩⟩
theorem ax6:bx 12 amY:=bA Tryz.func12
 λ(A:Int) (g:Int) r q _ (h:Int) (o:Int) c t _=>bD ⟨.pure,[.tmp 4],[(.t 0,K)],⟨[U],[]⟩⟩ (.ae (.s (.j ⟨67108892,[],[(.t 26,K)],[],.f⟩ .z .z) (.j ⟨16,[],[],[],.f⟩ (.ae (.cX ⟨60,[],[],[(.t 5,a)],some 0,true,16,[.b 0,.b 1],[],λk (s:Int)=>BY r c k s,.f,λ(s:Int)=>(0<=s/\s<=(r.n:Int)),λ(s:Int)=>(toNat ((r.n:Int)-s)),none⟩ .z)) .z))) ((yx A g r h o c)=false->(((0<=(0:Int)/\(0:Int)<=(r.n:Int)))/\(∀(bW:Int),let l:=decide (bW<(r.n:Int));let f:=i64 (bW+1);let j:=toNat bW;let d:=c.at' j;let b:=r.at' j;(0<=bW/\bW<=(r.n:Int))->((l=true->(((0:Int)<=bW/\bW<(r.n:Int))/\((0:Int)<=bW/\bW<(c.n:Int))))/\(l=true->((!((b.q==d.q)&&((b.F==d.F)&&((b.z==d.z)&&((b.M==d.M)&&((b.w==d.w)&&((b.C==d.C)&&(((b.P:u).toList==(d.P:u).toList)&&(((b.aw:u).toList==(d.aw:u).toList)&&(((b.f:u).toList==(d.f:u).toList)&&((b.aD==d.aD)&&true)))))))))))=false->((0<=f/\f<=(r.n:Int))/\(toNat ((r.n:Int)-f))<(toNat ((r.n:Int)-bW))))))))) fx Tryz.func12 ((λe=>⟨(by have:=e;simp [yx]at this;omega),(λbW p=>⟨(λi=>⟨(by have:=e;simp [yx]at this;have:=an i;omega),(by have:=e;simp [yx]at this;have:=an i;omega)⟩),(λm=>(λn=>(by have:=e;simp [yx]at this;have:=an m;first|omega|(have:=E (bW+1);omega))))⟩)⟩))
def aeo(A:Bool)(g:Int)(r:Bool)(h:Int)(o:Int)(c:Int)(v:G R)(y:Int)(p:G N)(x:Int)(ai:G ar)(bn:Bool)(bY:Int)(b9:Bool)(ch:Int)(dj:Int)(c8:Int)(c4:G R)(c9:Int)(c5:G N)(gg:Int)(gh:G ar):Bool:=(cond (A==bn) (cond (g==bY) (cond (r==b9) (cond (h==ch) (cond (Lq o c v dj c8 c4) (Ut y p x ai c9 c5 gg gh) false) false) false) false) false)
def Gq(A:Bool)(g:Int)(r:Bool)(h:Int)(o:Int)(c:Int)(v:G R)(y:Int)(p:G N)(x:Int)(ai:G ar)(bn:Bool)(bY:Int)(b9:Bool)(ch:Int)(dj:Int)(c8:Int)(c4:G R)(c9:Int)(c5:G N)(gg:Int)(gh:G ar):Bool:=(aeo A g r h o c v y p x ai bn bY b9 ch dj c8 c4 c9 c5 gg gh)
def amZ:bq:=⟨[.g [K,a,K,a,a,a,.ab dk,a,.ab bp,a,.ab bZ],.g [K,a,K,a,a,a,.ab dk,a,.ab bp,a,.ab bZ]],λA g r h o c v y p x ai bn bY b9 ch dj c8 c4 c9 c5 gg gh=>⟨⟨none,.bool (Gq A g r h o c v y p x ai bn bY b9 ch dj c8 c4 c9 c5 gg gh)⟩⟩⟩
theorem aCg:IG 8 amZ:=
 λA (g:Int) r (h:Int) (o:Int) (c:Int) v _ _ (y:Int) p _ _ (x:Int) ai _ _ bn (bY:Int) b9 (ch:Int) (dj:Int) (c8:Int) c4 _ _ (c9:Int) c5 _ _ (gg:Int) gh _ _=>bD ⟨.pure,[.tmp 4],[(.t 0,K)],⟨[U],[]⟩⟩ (.ae (.j ⟨16,[.b 0,.b 1],[(.t 4,K)],[],.f⟩ .z .z)) True (ct (aJ ax6 (aJ ax9 a2))) Tryz.func8 (trivial)
end
def aaZ{β:Type}(F:Nat->Int->Bool×β)(n:Nat)(g:n<=549755813888)(d: ∀k (i:Int),0<=i->i<(n:Int)->F (k+1) i=F k (i64 (i+1)))(c: ∀k,(F (k+1) (n:Int)).1=false): ∀(m a:Nat) (i:Int),0<=i->i+(m:Int)=(n:Int)->m<=a->(F (a+1) i).1=false
 |0,a,i,b,f,e=>by
  rw[show i=(n:Int) by omega];exact c a
 |m+1,a,i,b,f,e=>by
  obtain⟨a,rfl⟩: ∃q,a=q+1:=⟨a-1,Ω⟩;rw[d _ _ b Ω,E _];exact aaZ F n g d c m a (i+1) Ω Ω Ω
def At{β:Type}(F:Nat->Int->Bool×β)(n:Nat)(c:n<=549755813888)(b: ∀k (i:Int),0<=i->i<(n:Int)->F (k+1) i=F k (i64 (i+1)))(a: ∀k,(F (k+1) (n:Int)).1=false):(F ((toNat ((n:Int)-0))+1) 0).1=false:=
 aaZ F n c b a n _ 0 (aZ _) Ω Ω
def aAL(x:Int):(x !=x)=false:=by simp
def aiC(a:G u)(c:a.n<=549755813888):Gu a a=true:=by
 have h:=At (B5 a a) a.n c (λk i d b=>by rw[B5,bM b];simp) (λk=>by rw[B5,bj (Dw _)];rfl);have h:(Uz a a).1=false:=h;unfold Gu aex;rw[aAL,h];rfl
def aCF(A:Int)(g:u)(r:Int)(a:G bt)(b:G u)(c:G bG)(j:a.n<=549755813888)(l:b.n<=549755813888)(m:c.n<=549755813888):LV A g r a b c A g r a b c=true:=by
 have d:=At (B4 a a) a.n j (λk i f d=>by rw[B4,bM d];simp) (λk=>by rw[B4,bj (Dw _)];rfl);have e:=At (B3 c c) c.n m (λk i f d=>by rw[B3,bM d];simp) (λk=>by rw[B3,bj (Dw _)];rfl);have d:(Ux a a).1=false:=d;have e:(Uy c c).1=false:=e;have h:=aiC b l;unfold LV Uw aew qa;rw[d,e];simp [h]
def aCE(A:Int)(g:u)(r:Int)(b:G u)(a:b.n<=549755813888):LS A g r b A g r b=true:=by
 unfold LS aev;simp [aiC b a]
def aCD(A:Int)(a:G N)(h:dA a):LR A a A a=true:=by
 have b:=At (B2 a a) a.n h.1 (λk i c b=>by
  have q:=h.2 (toNat i) Ω;have e:Gt a a i=false:=by
   unfold Gt;rw[aCF _ _ _ _ _ _ q.1 q.2.1 q.2.2];simp
  rw[B2,bM b,e];rfl) (λk=>by rw[B2,bj (Dw _)];rfl)
 have b:(Uv a a).1=false:=b;unfold LR aeu yA;rw[b];simp
def aCC(A:Int)(a:G N)(r:Int)(b:G ar)(h:dA a)(k:eH b):LL A a r b A a r b=true:=by
 have c:=At (B0 b b) b.n k.1 (λm i d c=>by
  have q:=k.2 (toNat i) Ω;have e:Gs b b i=false:=by
   unfold Gs;rw[aCE _ _ _ _ q];simp
  rw[B0,bM c,e];rfl) (λk=>by rw[B0,bj (Dw _)];rfl)
 have c:(Uu b b).1=false:=c;unfold LL aep yy;rw[c,aCD _ _ h];simp
def aCA(A g:Int)(a:G R)(c:a.n<=549755813888):Lq A g a A g a=true:=by
 have h:=At (BY a a) a.n c (λk i d b=>by rw[BY,bM b];simp) (λk=>by rw[BY,bj (Dw _)];rfl);have h:(Ur a a).1=false:=h;unfold Lq aen yx;rw[h];simp
def aCB(A:Bool)(g:Int)(r:Bool)(h o c:Int)(v:G R)(y:Int)(p:G N)(x:Int)(ai:G ar)(b:v.n<=549755813888)(d:dA p)(a:eH ai):Gq A g r h o c v y p x ai A g r h o c v y p x ai=true:=by
 unfold Gq aeo Ut;simp [aCA o c v b,aCC y p x ai d a]
def am0:bq:=⟨[.g [K,a,K,a,a,a,.ab dk,a,.ab bp,a,.ab bZ],.g [K,a,K,a,a,a,.ab dk,a,.ab bp,a,.ab bZ]],λA (g:Int) r (h:Int) (o:Int) (c:Int) v (y:Int) p (x:Int) ai b (d:Int) f (i:Int) (j:Int) (k:Int) l (m:Int) n (q:Int) e=>⟨⟨some ((⟨A,g,r,h,o,c,v,y,p,x,ai⟩:hL)=⟨b,d,f,i,j,k,l,m,n,q,e⟩),.bool true⟩⟩⟩
def ax7:bx 8 am0:=bA Tryz.func8
 λA g r h o c v z K y p S u x ai R t a b f i j k l P M m n Q N q d O L s=>by
  have w:fo Tryz.prog 8 _ (J.bool (Gq A g r h o c v y p x ai a b f i j k l m n q d)):=aCg A g r h o c v z K y p S u x ai R t a b f i j k l P M m n Q N q d O L;have e:Gq A g r h o c v y p x ai a b f i j k l m n q d=true:=by
   have s:(⟨A,g,r,h,o,c,v,y,p,x,ai⟩:hL)=⟨a,b,f,i,j,k,l,m,n,q,d⟩:=s;injection s with B C E bk F cZ G H I cU D
   rw[<-B,<-C,<-E,<-bk,<-F,<-cZ,<-G,<-H,<-I,<-cU,<-D];exact aCB _ _ _ _ _ _ _ _ _ _ _ z (AQ u) (Ev t)
  rw[e]at w;exact w
def O4{α:Type}{s:G α}{i:Nat}(h:i<s.n):s.B.drop i=s.at' i::s.B.drop (i+1):=by
 rw[qR (by rw[bc];exact h)]
 congr 1
 simp [G.B]
def kQ(l:List a7):aA:=l.foldl ln vy
def ai6{A:G a7}(d:A.n<=549755813888): ∀(m a v:Nat) (X:aA),v+m=A.n->m<=a->b8 (tk A (a+1) (v:Int) X)=(A.B.drop v).foldl ln X
 |0,a,v,X,c,b=>by
  rw[tk,bj (show¬(v:Int)<(A.n:Int) by omega),aX,Ju,List.drop_eq_nil_of_le (by rw[bc];omega)];rfl
 |m+1,a,v,X,c,b=>by
  obtain⟨a,rfl⟩: ∃q,a=q+1:=⟨a-1,Ω⟩;rw[tk,bM (show(v:Int)<(A.n:Int) by omega),aR,E _,O4 Ω,IH];exact ai6 d m a (v+1) _ Ω Ω
def Ox{A:G a7}(a:A.n<=549755813888):b8 (cK A)=kQ A.B:=by
 have h:=ai6 a A.n (toNat ((A.n:Int)- (0:Int))) 0 vy Ω Ω;rw[List.drop_zero]at h;exact h
def ah2{A:G a7}(g:A.n<=3000)(b: ∀q,q<A.n->jN (A.at' q)): ∀(m a:Nat) (v:Int),0<=v->v+(m:Int)=(A.n:Int)->m<=a->(vz A (a+1) v).1=false
 |0,a,v,c,f,d=>by
  rw[vz,bj (show¬v<(A.n:Int) by omega)];rfl
 |m+1,a,v,c,f,d=>by
  obtain⟨a,rfl⟩: ∃q,a=q+1:=⟨a-1,Ω⟩;have e:jN (A.at' (toNat v)):=b _ Ω;unfold jN at e;rw[vz,bM (show v<(A.n:Int) by omega),aR,e,show((0:Int)!=0)=false from rfl,aX,E _];exact ah2 g b m a (v+1) Ω Ω Ω
def lZ(A:G a7):Prop:=A.n<=3000/\ ∀q,q<A.n->jN (A.at' q)
def nc{A:G a7}(h:lZ A):decide ((A.n:Int)>3000)=false/\mW A=true:=by
 have a:=h.1;refine⟨bj Ω,?_⟩;have e:=ah2 h.1 h.2 A.n (toNat ((A.n:Int)-0)) 0 (aZ _) Ω Ω;have e:(tl A).1=false:=e;unfold mW;rw[e];rfl
def aDa{A:G a7}(h:lZ A):K1 A=0:=by
 unfold K1;rw[(nc h).1,(nc h).2];rfl
def Dr(n:H):hL:=⟨n.up,n.ao,(n.ro==3),n.co,n.j,n.lt,n.li,FX n.ep,FY n.dn,FZ n.e1,F0 n.er⟩
def views(C:aA):G hL:=G.app (G.app (G.lit [Dr (C.d 0)]) (G.lit [Dr (C.d 1)])) (G.lit [Dr (C.d 2)])
def ajb{A:G a7}(h:lZ A):FC A=views (kQ A.B):=by
 have a:=h.1;unfold FC;rw[(nc h).1,(nc h).2,Ox Ω];rfl
def ajI{A:G a7}(b:(b8 (cK A)).told.n<=549755813888): ∀(m a v:Nat) (s:G bF),v+m=(b8 (cK A)).told.n->m<=a->(tj A (a+1) (v:Int) s).n=s.n+m
 |0,a,v,s,f,d=>by
  rw[tj,bj (show¬(v:Int)<(((b8 (cK A)).told.n:Nat):Int) by omega),aX];omega
 |m+1,a,v,s,f,d=>by
  obtain⟨a,rfl⟩: ∃q,a=q+1:=⟨a-1,Ω⟩;rw[tj,bM (show(v:Int)<(((b8 (cK A)).told.n:Nat):Int) by omega),aR,E _];have k:=ajI b m a (v+1) (G.app s (G.lit ([((b8 (cK A)).told.at' (toNat (v:Int)))]:List bF))) Ω Ω;have e:(G.app s (G.lit ([((b8 (cK A)).told.at' (toNat (v:Int)))]:List bF))).n=s.n+1:=rfl;have c:(((v+1:Nat):Nat):Int)=(v:Int)+1:=by omega
  rw[c]at k;rw[k];omega
def aDf{A:G a7}(h:lZ A):(Bz A).n=(kQ A.B).told.n:=by
 have a:=h.1;have q:=Ip (nc h).1 (nc h).2;have k:=ajI (A:=A) Ω (b8 (cK A)).told.n (toNat ((((b8 (cK A)).told.n:Nat):Int)-0)) 0 B Ω Ω;have z:(B:G bF).n=0:=rfl;unfold Bz;rw[(nc h).1,(nc h).2,aX,aR,<-Ox Ω];have k:(TF A).n=(B:G bF).n+(b8 (cK A)).told.n:=k;rw[k,z,db]
def aba{A:G a7}(h:lZ A):hA A.n (kQ A.B):=by
 have a:=h.1;rw[<-Ox Ω];exact aa7 (nc h).1 (nc h).2
def aa_(l m:List a7):kQ (l++m)=m.foldl ln (kQ l):=List.foldl_append ..
def kM(x:Int):Prop:= -9223372036854775808<=x/\x<=9223372036854775807
def nd{x m:Int}(d:kM x)(b:0<m):0<=cL x m/\cL x m<m:=by
 have a:0<=Us x:=by
  unfold Us;obtain⟨e,f⟩:=d
  by_cases c:x<0
  .rw[bM c,aR,E (x+1),E (0- (x+1))];omega
  .rw[bj c,aX];omega
 exact⟨Int.tmod_nonneg m a,Int.tmod_lt_of_pos _ b⟩
def akf(x:Int):kS (k9 x)=true:=by
 have e:(k9 x).size=1:=rfl;unfold kS EU;rw[e];rfl
def aE8(x:Int):jz (k9 x)=true:=by
 have e:(k9 x).size=1:=rfl;unfold jz;rw[e];rfl
def aE9(x:u):jz (LU x 6)=true:=by
 unfold jz LU;have h:=lP (x.size:Int) 6;have e:(x.extract (toNat 0) (toNat (ff (x.size:Int) 6))).size<=6:=by
  rw[ByteArray.size_extract];omega
 exact bM Ω
def ard:jz ⟨#[]⟩=true:=rfl
def NQ{x:Int}(h: -1099511627776<=x/\x<=1099511627776):jf x=true:=by
 unfold jf EV;simp;omega
def ahG{x:Int}(h:1<=x/\x<=1048576):pT x=true:=by
 unfold pT KA;simp;omega
def aEb(x:Int): -1099511627776<=x.tmod 1073741824/\x.tmod 1073741824<=1099511627776:=by
 have a:=Int.tmod_lt_of_pos x (show(0:Int)<1073741824 by decide);have b:=Int.lt_tmod_of_pos x (show(0:Int)<1073741824 by decide);omega
def aph{A g r h:Int}{o:u}(p:kM A)(j:kM h):fw (LM A) (LN A g) (LO A r) (LP A h o) (LQ A h)=0:=by
 have k:=nd p (m:=22) Δ;have w:=E (1+cL A 22);unfold LM LN LO LP LQ aeq aer aes aet yz tz;rw[w];have i:jz (B1 h o)=true:=by
  unfold B1
  cases (cL h 3==0)
  .exact aE9 _
  .exact aE8 _
 have V9:=nd j (m:=60) Δ;have y:=nd j (m:=12) Δ;have q:=E (cL h 12-6);have a:=NQ (x:=cL h 60) Ω;have b:=NQ (x:=cL h 12-6) Ω;have c:=NQ (aEb h);have l:jf 0=true:=NQ Δ;have d:=akf g;have f:=akf r;have n:=ard;rw[q];revert d f a b c i;generalize k9 g=K;generalize k9 r=F;generalize B1 h o=T;generalize cL h 60=s;generalize cL h 12-6=t;generalize h.tmod 1073741824=v;intro d f a b c i;have e:1+cL A 22=1\/1+cL A 22=2\/1+cL A 22=3\/1+cL A 22=4\/1+cL A 22=5\/1+cL A 22=6\/1+cL A 22=7\/1+cL A 22=8\/1+cL A 22=9\/1+cL A 22=10\/1+cL A 22=11\/1+cL A 22=12\/1+cL A 22=13\/1+cL A 22=14\/1+cL A 22=15\/1+cL A 22=16\/1+cL A 22=17\/1+cL A 22=18\/1+cL A 22=19\/1+cL A 22=20\/1+cL A 22=21\/1+cL A 22=22:=by omega
 revert e;generalize 1+cL A 22=z;intro e;unfold fw rH LX LW B6 Gv yE yD yC yB;rcases e with rfl|rfl|rfl|rfl|rfl|rfl|rfl|rfl|rfl|rfl|rfl|rfl|rfl|rfl|rfl|rfl|rfl|rfl|rfl|rfl|rfl|rfl<;>simp [d,f,n,l,a,b,c,i]
def aoY{g r h o c v:Int}{y:u}(b:kM g)(d:kM r)(e:kM h)(f:kM v):g3 (LD r) (LF g r) (LG r h) (LH r h o) (LI r h c) (LJ r h v y) (LK r h v)=0:=by
 have j:0<=a8 r 4/\a8 r 4<4:=nd d Δ;have i:0<=a8 g 4/\a8 g 4<4:=nd b Δ;have w:=E (1+a8 g 4);unfold LD LF LG LH LI LJ LK;rw[w]
 by_cases a:a8 r 4=0
 .rw[show(a8 r 4==0)=true by simp [a]];simp [g3]
 .rw[show(a8 r 4==0)=false by simp [a]];simp only[aX];unfold g3 Gy;rw[show(a8 r 4==0)=false by simp [a],ahG (x:=a8 r 4) Ω,ahG (x:=1+a8 g 4) Ω];exact aph e f
def k_{k n p:Int}(i:2<=k/\k<=12)(c:mS k=true->0<=n/\n<3)(d:mS k=false->n=0)(e:mT k=true->0<=p/\p<=400000)(f:mT k=false->p=0):o9 k n p 0 0 0 ⟨#[]⟩ ⟨#[]⟩ ⟨#[]⟩ 0=0:=by
 have g:Gz k=false:=by
  unfold Gz;rw[bj Ω,bj Ω];rfl
 have h:B9 k n p=false:=by
  unfold B9
  cases a:mS k<;>cases b:mT k<;>simp only[aR,aX]
  .have:=e b;rw[bj Ω,bj Ω];rfl
  .have:=c a;rw[bj Ω,bj Ω];rfl
  .have:=c a;have:=e b;rw[bj Ω,bj Ω,bj Ω,bj Ω];rfl
 have bk:yH k n p 0 0 0 ⟨#[]⟩ ⟨#[]⟩ ⟨#[]⟩ 0=false:=by
  unfold yH
  cases a:mS k<;>cases b:mT k<;>simp
  .exact⟨d a,f b⟩
  .exact d a
  .exact f b
 unfold o9;rw[g,h,bk,show(k==1)=false by simp;omega];rfl
def L0{n h o c:Int}{v y p:u}{x:Int}(d:0<=n/\n<3):o9 1 n 0 h o c v y p x=g3 h o c v y p x:=by
 have a:mS 1=true:=rfl;have b:mT 1=false:=rfl;unfold o9 Gz B9 yH;rw[a,b,bj (show¬n<0 by omega),bj (show¬n>=3 by omega)];rfl
def DL(g:hZ):Prop:=kM g.q/\kM g.F/\kM g.z/\kM g.M/\kM g.P
def DW(g:hZ):a7:=⟨(Lr g.q),(Ls g.q g.F),(BZ g.q g.z),(Lu g.q g.z),(Lv g.q g.F g.z),(Lx g.q g.z g.M),(Ly g.q g.z g.M g.w),(LA g.q g.z g.M g.C),(LB g.q g.z g.M g.P g.aw),(LC g.q g.z g.M g.P)⟩
def an3{a:hZ}(j:DL a):jN (DW a):=by
 obtain⟨l,i,d,m,q⟩:=j;have s:0<=a8 a.q 20/\a8 a.q 20<20:=nd l Δ;have b:0<=a8 a.F 3/\a8 a.F 3<3:=nd i Δ;have t:0<=a8 a.z 300/\a8 a.z 300<300:=nd d Δ;have u:0<=a8 a.z 500/\a8 a.z 500<500:=nd d Δ;have w:0<=a8 a.z 40/\a8 a.z 40<40:=nd d Δ;have f:=aoY (g:=a.F) (r:=a.z) (h:=a.M) (o:=a.w) (c:=a.C) (v:=a.P) (y:=a.aw) i d m q;unfold jN DW;unfold Lr Ls BZ Lu Lv Lx Ly LA LB LC rF rE rD k8;have e:a8 a.q 20=0\/a8 a.q 20=1\/a8 a.q 20=2\/a8 a.q 20=3\/a8 a.q 20=4\/a8 a.q 20=5\/a8 a.q 20=6\/a8 a.q 20=7\/a8 a.q 20=8\/a8 a.q 20=9\/a8 a.q 20=10\/a8 a.q 20=11\/a8 a.q 20=12\/a8 a.q 20=13\/a8 a.q 20=14\/a8 a.q 20=15\/a8 a.q 20=16\/a8 a.q 20=17\/a8 a.q 20=18\/a8 a.q 20=19:=by omega
 rcases e with e|e|e|e|e|e|e|e|e|e|e|e|e|e|e|e|e|e|e|e<;>simp only[e]
 .exact(L0 b).trans f
 .exact(L0 b).trans f
 .exact(L0 b).trans f
 .exact k_ (k:=2) Δ (λ_=>b) (λz=>by cases z) (λz=>by cases z) (λ_=>rfl)
 .exact k_ (k:=2) Δ (λ_=>b) (λz=>by cases z) (λz=>by cases z) (λ_=>rfl)
 .exact k_ (k:=3) Δ (λ_=>b) (λz=>by cases z) (λz=>by cases z) (λ_=>rfl)
 .exact k_ (k:=3) Δ (λ_=>b) (λz=>by cases z) (λz=>by cases z) (λ_=>rfl)
 .exact k_ (k:=3) Δ (λ_=>b) (λz=>by cases z) (λz=>by cases z) (λ_=>rfl)
 .exact k_ (k:=4) Δ (λ_=>b) (λz=>by cases z) (λz=>by cases z) (λ_=>rfl)
 .exact k_ (k:=4) Δ (λ_=>b) (λz=>by cases z) (λz=>by cases z) (λ_=>rfl)
 .exact k_ (k:=4) Δ (λ_=>b) (λz=>by cases z) (λz=>by cases z) (λ_=>rfl)
 .exact k_ (k:=4) Δ (λ_=>b) (λz=>by cases z) (λz=>by cases z) (λ_=>rfl)
 .exact k_ (k:=6) (n:=0) (p:=a8 a.z 300) Δ (λz=>by cases z) (λ_=>rfl) (λ_=>by omega) (λz=>by cases z)
 .exact k_ (k:=7) (n:=0) (p:=a8 a.z 300) Δ (λz=>by cases z) (λ_=>rfl) (λ_=>by omega) (λz=>by cases z)
 .exact k_ (k:=8) (n:=0) (p:=a8 a.z 300) Δ (λz=>by cases z) (λ_=>rfl) (λ_=>by omega) (λz=>by cases z)
 .exact k_ (k:=9) (p:=a8 a.z 500) Δ (λ_=>b) (λz=>by cases z) (λ_=>by omega) (λz=>by cases z)
 .exact k_ (k:=10) Δ (λ_=>b) (λz=>by cases z) (λz=>by cases z) (λ_=>rfl)
 .exact k_ (k:=11) Δ (λ_=>b) (λz=>by cases z) (λz=>by cases z) (λ_=>rfl)
 .exact k_ (k:=5) (p:=a8 a.z 40) Δ (λ_=>b) (λz=>by cases z) (λ_=>by omega) (λz=>by cases z)
 .exact k_ (k:=12) Δ (λz=>by cases z) (λ_=>rfl) (λz=>by cases z) (λ_=>rfl)
def Q5{α:Type}[Inhabited α]{P:α->Prop}{s:G α}{x:α}(h: ∀i,i<s.n->P (s.at' i))(b:P x): ∀i,i<(G.app s (G.lit [x])).n->P ((G.app s (G.lit [x])).at' i):=by
 intro j a;show P (cond (Nat.blt j s.n) (s.at' j) (([x]:List α).getD (j-s.n) default))
 cases e:Nat.blt j s.n with
 |true=>exact h j (by rw[iY]at e;exact e)
 |false=>
  have d:j<s.n+1:=a;have: ¬j<s.n:=λhh=>by
   rw[show Nat.blt j s.n=true by rw[iY];exact hh]at e
   cases e
  have c:j-s.n=0:=by omega
  rw[c];exact b
def sw(x:G hZ):Prop:=x.n<=549755813888/\ ∀i,i<x.n->DL (x.at' i)
def Q0{PP:a7->Prop}(f: ∀d,DL d->PP (DW d)){A:G hZ}{g:Int}(h:sw A)(o:0<=g/\g<=3000): ∀(m a:Nat) (v:Int) (s:G a7),0<=v->v+(m:Int)=(A.n:Int)->m<=a->(s.n:Int)=v->v<=g->(∀q,q<s.n->PP (s.at' q))->((tx A g (a+1) v s).n:Int)<=g/\ ∀q,q<(tx A g (a+1) v s).n->PP ((tx A g (a+1) v s).at' q)
 |0,a,v,s,i,k,j,l,n,b=>by
  have e:o7 A g v=false:=by
   unfold o7;rw[bj Ω];rfl
  rw[tx,e,aX];exact⟨Ω,b⟩
 |m+1,a,v,s,i,k,j,l,n,b=>by
  obtain⟨a,rfl⟩: ∃q,a=q+1:=⟨a-1,Ω⟩;have p:=h.1
  by_cases c:v<g
  .have e:o7 A g v=true:=by
    unfold o7;rw[bM (show v<(A.n:Int) by omega),bM c];rfl
   rw[tx,e,aR,E _];refine Q0 f h o m a (v+1) (G.app s (G.lit [DW (A.at' (toNat v))])) Ω Ω Ω ?_ Ω (Q5 b (f _ (h.2 _ Ω)));show(((s.n+1:Nat)):Int)=v+1;omega
  .have e:o7 A g v=false:=by
    unfold o7;rw[bM (show v<(A.n:Int) by omega),bj c];rfl
   rw[tx,e,aX];exact⟨Ω,b⟩
def an4{A:G hZ}{g:Int}(h:sw A)(a:0<=g/\g<=3000):((dw A g).n:Int)<=g/\ ∀q,q<(dw A g).n->jN ((dw A g).at' q):=
 Q0 (PP:=jN) (λ_=>an3) h a A.n _ 0 B (aZ _) Ω Ω rfl a.1 (λq b=>absurd b (eD q))
def aCj{g:hZ}(h:DL g):(DW g).z<=1073741824:=by
 have d:a8 g.z 300<=1073741824:=by have:0<=a8 g.z 300/\a8 g.z 300<300:=nd h.2.2.1 Δ;omega
 have e:a8 g.z 500<=1073741824:=by have:0<=a8 g.z 500/\a8 g.z 500<500:=nd h.2.2.1 Δ;omega
 have f:a8 g.z 40<=1073741824:=by have:0<=a8 g.z 40/\a8 g.z 40<40:=nd h.2.2.1 Δ;omega
 have z:(0:Int)<=1073741824:=by decide
 show BZ g.q g.z<=1073741824;unfold BZ;have k: ∀{c:Bool} {a b:Int},a<=1073741824->b<=1073741824->(cond c a b)<=1073741824:=λ{c} {a} {b} x y=>by
  cases c
  .exact y
  .exact x
 exact k z (k z (k z (k z (k d (k d (k d (k e (k z (k z (k f z))))))))))
def an5{A:G hZ}{g:Int}(h:sw A)(b:0<=g/\g<=3000): ∀q,q<(dw A g).n->((dw A g).at' q).z<=1073741824:=
 (Q0 (PP:=λa=>a.z<=1073741824) (λ_=>aCj) h b A.n _ 0 B (aZ _) Ω Ω rfl b.1 (λq c=>absurd c (eD q))).2
def aEQ{C:aA}{a:a7}(h:a.q=1):ln C a=ahK (toNat a.F) C a:=by
 unfold ln;simp only[h,aA.eY];rfl
def WM(C:aA)(D:G aj)(i:Nat):(⟨C.a,C.b,C.c,D,C.told,C.bh⟩:aA).d i=C.d i:=by
 match i with
 |0=>rfl
 |1=>rfl
 |i+2=>rfl
def aBt{A:G a7}(h:lZ A)(c:A.n<3000){a:a7}(b:jN a):lZ (n_ A (G.lit [a])):=
 ⟨by show A.n+1<=3000;omega,Q5 h.2 b⟩
def aky(A:G a7)(a:a7):(n_ A (G.lit [a])).B=A.B++[a]:=by
 unfold n_;rw[iL,iq]
def apz(A:G a7)(a:a7):kQ (n_ A (G.lit [a])).B=ln (kQ A.B) a:=by
 rw[aky,aa_];rfl
def aiE{A:G a7}(h:lZ A):tw A=true:=by
 unfold tw aem;rw[aDa h,ajb h];rfl
def Of{A:G a7}(h:lZ A):gA A=views (kQ A.B):=ajb h
def Oe{A:G a7}(h:lZ A):(hR A).n=(kQ A.B).told.n:=aDf h
section
variable {A:G hZ} {g r:Int}
end
end Go.Proofs.YtadmdaokcgjdiaaGreatDoor
