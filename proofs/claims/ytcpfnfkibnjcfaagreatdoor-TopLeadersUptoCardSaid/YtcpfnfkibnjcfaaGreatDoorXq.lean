import Derived.Test.YtcpfnfkibnjcfaaGreatDoorXp
open Go.IntKind (i64 u64 u8)
open Int (toNat)
set_option maxRecDepth 100000
set_option maxHeartbeats 4000000
set_option linter.all false
noncomputable section
namespace Go.Proofs.YtcpfnfkibnjcfaaGreatDoor
open Go Go.RowKit Go.ag
def Ef(i j:Nat)(C:aq)(ms:ai):aq:=C.put i (m5 i j ms (C.h i) C.s C.told C.aU) (C9 i j ms (C.h i) C.s C.told C.aU) (w9 i j ms (C.h i) C.s C.told C.aU) (w8 i j ms (C.h i) C.s C.told C.aU)
def jq(C:aq)(ms:ai):aq:=Ef (toNat ms.K) (toNat ms.r) C ms
def Q_:dv:=⟨[.p 0,.g [a,a,a,a,a,a,l,a,.ab dT,a,a,a,.ab bx,a,.ab b8]],cn,fp,e9,λ(b c i j k m:Int) n (o:Int) p (q d e:Int) f (g:Int) h=>cW λC=>⟨⟨some (wq C (⟨b,c,i,j,k,m,n,o,p,q,d,e,f,g,h⟩:ai)),[],cx [10,2,11,4,12,6,7,8,9] 3 (jq C (⟨b,c,i,j,k,m,n,o,p,q,d,e,f,g,h⟩:ai))⟩⟩⟩
def aAF(ms:ai)(p:ms.i.n<=549755813888)(n:ms.b0.n<=549755813888)(o:ms.bn.n<=549755813888):fB Tryz.prog 32 Q_ cn [] (cW λC=>⟨⟨some (wq C ms),[],cx [10,2,11,4,12,6,7,8,9] 3 (jq C ms)⟩⟩) (jw ms):=by
 refine g6 λC m v=> ?_;obtain⟨a0,aL,aO,f,g,h,i,j,k,l,a,b,c,d,e⟩:=ms;obtain⟨w,q1,x,y,q⟩:=v;have r:a0=0\/a0=1\/a0=2:=by
  have t:0<=a0:=w;have u:a0<3:=q1;omega
 have s:aL=0\/aL=1\/aL=2:=by
  have t:0<=aL:=x;have u:aL<3:=y;omega
 rcases r with rfl|rfl|rfl<;>rcases s with rfl|rfl|rfl
 .exact Eq.mp Ξ (vA 0 Ω 0 Ω ⟨0,0,aO,f,g,h,i,j,k,l,a,b,c,d,e⟩ p n o C m q)
 .exact Eq.mp Ξ (vA 1 Ω 0 Ω ⟨0,1,aO,f,g,h,i,j,k,l,a,b,c,d,e⟩ p n o C m q)
 .exact Eq.mp Ξ (vA 2 Ω 0 Ω ⟨0,2,aO,f,g,h,i,j,k,l,a,b,c,d,e⟩ p n o C m q)
 .exact Eq.mp Ξ (vA 0 Ω 1 Ω ⟨1,0,aO,f,g,h,i,j,k,l,a,b,c,d,e⟩ p n o C m q)
 .exact Eq.mp Ξ (vA 1 Ω 1 Ω ⟨1,1,aO,f,g,h,i,j,k,l,a,b,c,d,e⟩ p n o C m q)
 .exact Eq.mp Ξ (vA 2 Ω 1 Ω ⟨1,2,aO,f,g,h,i,j,k,l,a,b,c,d,e⟩ p n o C m q)
 .exact Eq.mp Ξ (vA 0 Ω 2 Ω ⟨2,0,aO,f,g,h,i,j,k,l,a,b,c,d,e⟩ p n o C m q)
 .exact Eq.mp Ξ (vA 1 Ω 2 Ω ⟨2,1,aO,f,g,h,i,j,k,l,a,b,c,d,e⟩ p n o C m q)
 .exact Eq.mp Ξ (vA 2 Ω 2 Ω ⟨2,2,aO,f,g,h,i,j,k,l,a,b,c,d,e⟩ p n o C m q)
def aDV:gW 32 Q_:=
 kt (bF:=[a,a,a,a,a,a,l,a,.ab dT,a,a,a,.ab bx,a,.ab b8]) λs b=>Eq.mp Ξ (aAF ⟨s.1,s.2.1,s.2.2.1,s.2.2.2.1,s.2.2.2.2.1,s.2.2.2.2.2.1,s.2.2.2.2.2.2.1,s.2.2.2.2.2.2.2.1,s.2.2.2.2.2.2.2.2.1,s.2.2.2.2.2.2.2.2.2.1,s.2.2.2.2.2.2.2.2.2.2.1,s.2.2.2.2.2.2.2.2.2.2.2.1,s.2.2.2.2.2.2.2.2.2.2.2.2.1,s.2.2.2.2.2.2.2.2.2.2.2.2.2.1,s.2.2.2.2.2.2.2.2.2.2.2.2.2.2.1⟩ (b.2.2.2.2.2.2.2.2.1 rfl) (b.2.2.2.2.2.2.2.2.2.2.2.2.1 rfl) (b.2.2.2.2.2.2.2.2.2.2.2.2.2.2.1 rfl))
def ait:gX 32 Q_:=hi g4 Tryz.func32 aDV
structure QW (n:N) (L aAt:I ai) (aj aAy:I bI) (an aAx:I aw):Prop where
 j:bX n
 a:aAt=L
 t:(aAy.n:Int)<=(aj.n:Int)+600000
 l:aAx.n<=an.n+1
def nA{n:N}{L:I ai}{aj:I bI}{an:I aw}(h:bX n):QW n L L aj aj an an:=⟨h,rfl,Ω,Ω⟩
def acX{n:N}{L a:I ai}{aj c:I bI}{an b:I aw}(h:bX n/\a=L/\(c.n:Int)<=(aj.n:Int)+600000/\b=an):QW n L a aj c an b:=⟨h.1,h.2.1,h.2.2.1,by rw[h.2.2.2];omega⟩
def XC{i j:Nat}{ms:ai}{h:N}{L:I ai}{aj:I bI}{an:I aw}(a:bX h)(k:fE ms)(q:i<3)(p:j<3):
  QW (m5 i j ms h L aj an) L (C9 i j ms h L aj an) aj (w9 i j ms h L aj an) an (w8 i j ms h L aj an):=by
 have f:fE ⟨(j:Int),(i:Int),ms.G,ms.q,ms.j,ms.m,ms.ak,ms.aA,ms.i,ms.aJ,ms.b4,ms.cb,ms.b0,ms.cq,ms.bn⟩:=⟨(by omega:(0:Int)<=(j:Int)/\(j:Int)<3),(by omega:(0:Int)<=(i:Int)/\(i:Int)<3),k.j1,k.b9,k.li⟩;have g:(0:Int)<=(j:Int)/\(j:Int)<3:=by omega
 have d:aN (re ms h):=by
  unfold re
  cases ir ms h
  .exact a.i.u8
  .exact(OQ a).i.u8
 have e:=QG ms h a.i.ws;have b:bX (de ms h):=⟨a.i.iz _ Ξ d e,a.o⟩;have c:bX (hS j ms h):=by
  rcases ca p with rfl|rfl|rfl
  .exact⟨a.i.iz _ Ξ d e,a.o⟩
  .exact⟨a.i.iz _ Ξ d e,a.o⟩
  .exact⟨a.i.iz _ Ξ d e,a.o⟩
 have l:=XE b;have m:=ahZ (L:=L) (aj:=aj) (an:=an) l f;have n:=ayc l f;have o:=ah0 (L:=L) (aj:=aj) (an:=an) b f;unfold m5 C9 w9 w8;simp only[N.cT]
 cases (!h.up)<;>simp only[aB,au]
 .cases mw ms h<;>simp only[aB,au]
  .exact nA (OQ a)
  .cases (ms.G==1)<;>simp only[aB,au]
   .cases (ms.G==2)<;>simp only[aB,au]
    .cases decide (ms.q<kG ms h)<;>simp only[aB,au]
     .cases (ms.G==3)<;>simp only[aB,au]
      .cases (ms.G==4)<;>simp only[aB,au]
       .cases (ms.G==5)<;>simp only[aB,au]
        .cases (ms.G==7)<;>simp only[aB,au]
         .cases (ms.G==6)<;>simp only[aB,au]
          .exact nA b
          .cases (jC ms h==3)<;>simp only[aB,au]
           .exact nA b
           .exact acX o
         .exact nA n
        .exact acX m
       .cases (jC ms h==2)<;>simp only[aB,au]
        .exact nA b
        .cases hq (hS j ms h)<;>simp only[aB,au]
         .exact nA c
         .exact⟨ayb c,rfl,Ω,bH _⟩
      .exact nA (aya b g)
     .cases (ms.G !=8)<;>simp only[aB,au]
      .exact nA b
      .exact nA (XD b g)
    .cases zD ms h<;>simp only[aB,au]
     .exact nA b
     .cases hq (hS j ms h)<;>simp only[aB,au]
      .exact nA c
      .exact nA (ax_ c)
   .exact nA (ax9 b g)
 .exact nA a
structure aa_ (C X:aq):Prop where
 j: ∀i,bX (X.h i)
 a:X.s=C.s
 t:(X.told.n:Int)<=(C.told.n:Int)+600000
 l:X.aU.n<=C.aU.n+1
def PL{C:aq}{P:N->Prop}(h: ∀j,P (C.h j))(i:Nat){n:N}(a:P n)(L:I ai)(aj:I bI)(an:I aw)(j:Nat):P ((C.put i n L aj an).h j):=by
 have b:=h 0;have c:=h 1;have d:=h 2
 match i,j with
 |0,0=>exact a
 |0,1=>exact c
 |0,j+2=>exact d
 |1,0=>exact b
 |1,1=>exact a
 |1,j+2=>exact d
 |i+2,0=>exact b
 |i+2,1=>exact c
 |i+2,j+2=>exact a
def vO(C:aq)(i:Nat)(n:N)(L:I ai)(aj:I bI)(an:I aw):(C.put i n L aj an).s=L/\(C.put i n L aj an).told=aj/\(C.put i n L aj an).aU=an:=by
 match i with
 |0=>exact⟨rfl,rfl,rfl⟩
 |1=>exact⟨rfl,rfl,rfl⟩
 |i+2=>exact⟨rfl,rfl,rfl⟩
def aCK{C:aq}{ms:ai}(a: ∀i,bX (C.h i))(d:fE ms){i j:Nat}(b:i<3)(c:j<3):aa_ C (Ef i j C ms):=by
 have q:=XC (i:=i) (j:=j) (ms:=ms) (L:=C.s) (aj:=C.told) (an:=C.aU) (a i) d b c;have f:=vO C i (m5 i j ms (C.h i) C.s C.told C.aU) (C9 i j ms (C.h i) C.s C.told C.aU) (w9 i j ms (C.h i) C.s C.told C.aU) (w8 i j ms (C.h i) C.s C.told C.aU);unfold Ef;exact⟨λj=>PL (P:=bX) a i q.j _ _ _ j,by rw[f.1];exact q.a,by rw[f.2.1];exact q.t,by rw[f.2.2];exact q.l⟩
def Bl{C:aq}{ms:ai}(b: ∀i,bX (C.h i))(a:fE ms):aa_ C (jq C ms):=by
 have c:=a.kC;have d:=a.to;exact aCK b a Ω Ω
def tS(C:aq)(v:Int)(X:aq):Prop:=(0<=v/\v<=C.s.n)/\(∀i,bX (X.h i))/\(X.told.n:Int)<=(C.told.n:Int)+600000*v/\(X.aU.n:Int)<=(C.aU.n:Int)+v
def B3{C:aq}{a:aK}(h:fA C a)(i:Nat):bX (C.h i):=by
 obtain⟨⟨k,_,b⟩,_⟩:=h;exact⟨b.h i,b.on i,b.a1 i⟩
def F4{C X:aq}{v:Int}(h:tS C v X):0<=v/\v<=(C.s.n:Int):=h.1
def uw{C:aq}{a:aK}(h:fA C a):tS C (0:Int) {C with s:=B} :=⟨⟨bz _,Ω⟩,λi=>by
  have b:=B3 h 0;have c:=B3 h 1;have d:=B3 h 2
  match i with
  |0=>exact b
  |1=>exact c
  |i+2=>exact d,by show(C.told.n:Int)<=_;omega,by show(C.aU.n:Int)<=_;omega⟩
def ss{C X:aq}{a:aK}{v:Int}(h:fA C a)(b:tS C v X)(j:v<C.s.n):wq X (C.s.at' v.toNat):=by
 have e:=qT h;obtain⟨d,c,g,f⟩:=b;exact adi h Ω (λi=>(c i).i) Ω Ω
def ux{C X:aq}{a:aK}{v:Int}(h:fA C a)(b:tS C v X)(e:v<C.s.n):tS C (i64 (v+1)) (jq X (C.s.at' v.toNat)):=by
 have g:=qT h;have d:=(ss h b e).2.2.2.2.2.1;obtain⟨f,c,j,i⟩:=b;rw[E (v+1)];have q:=Bl c d;have l:=q.t;have k:=q.l;exact⟨Ω,q.j,Ω,Ω⟩
def aGu{C:aq}{a:aK}(h:fA C a){j:Nat}(e:j<C.s.n)(D:I ai):wq {C with s:=D} (C.s.at' j):=by
 have f:=qT h;refine adi h e (λi=> ?_) (by show C.told.n<=_;omega) (by show C.aU.n<=_;omega);have b:=(B3 h 0).i;have c:=(B3 h 1).i;have d:=(B3 h 2).i
 match i with
 |0=>exact b
 |1=>exact c
 |i+2=>exact d
def Qx{c n:Int}(h:0<=c)(a:0<n):0<=c.tmod n/\c.tmod n<n:=⟨Int.tmod_nonneg n h,Int.tmod_lt_of_pos c a⟩
section
variable(ac:aK)(L:I ai)(C:aq)
def gi:Int:=cond (decide ((L.n:Int)>0)) (ac.G.tmod (L.n:Int)) (-1)
def MD:aq:=({C with s:=(I.del L (toNat (gi ac L)) (toNat (i64 (gi ac L+1))))} :aq)
def aul:aq:=jq (MD ac L C) (L.at' (toNat (gi ac L)))
def Vx:aq:=aq.bif (decide (gi ac L>=0)) (aul ac L C) C
def alS(ac:aK)(L:I ai)(h:0<=ac.G):gi ac L<(L.n:Int):=by
 unfold gi
 by_cases c:(L.n:Int)>0
 .rw[bm c];exact(Qx h c).2
 .rw[a8 c];show(-1:Int)<(L.n:Int);omega
def v5{C:aq}{ac:aK}(h:fA C ac)(a:decide (gi ac C.s>=0)=true):wq (MD ac C.s C) (C.s.at' (toNat (gi ac C.s))):=by
 have b:=al a;have c:=alS ac C.s h.2.ln;exact aGu h Ω _
def Q3:dv:=⟨[.p 0,.g [a,a,a,a,a,a,ar,ar,ar,a]],cn,fp,e9,λ(b c d e f g:Int) h i j (k:Int)=>cW λC=>⟨⟨some (fA C (⟨b,c,d,e,f,g,h,i,j,k⟩:aK)),[],cx [10,13,11,14,12,15,16,8,9] 7 (Vx (⟨b,c,d,e,f,g,h,i,j,k⟩:aK) C.s C)⟩⟩⟩
def abr:c2:=⟨.ff true [.b 10,.b 11] [.own (.h 0 99) cR 16,.own (.h 0 29) dF 10,.own (.h 0 62) dF 11,.own (.h 0 95) dF 12,.own (.h 0 32) cR 13,.own (.h 0 65) cR 14,.own (.h 0 98) cR 15] (g8 0 [10,13,11,14,12,15,16,8,9] 7 [] 0) (g7 0 [10,13,11,14,12,15,16,8,9]),[],[]++gA 0 [10,13,11,14,12,15,16,8,9],⟨[],[]⟩⟩
def avm:cz (abr).ck:=.ae (.ae (.ae (.j ⟨57,[],[(.t 5,a)],[],.f⟩ .z (.b5 ⟨([.ptr 0 0,U,U,.ptr 10 0,.ptr 0 0,c (gi ac C.s)]++us 135 ([])),cA [1,2,3,4,5,6,7,8,9] 1 C [(10,[c 6,c 0,c ac.G,c ac.q,c ac.j,c ac.m,.str ac.ak,.str ac.aA,.str ac.i,c ac.aJ])]⟩ (.ae (.ae (.c false (.ae (.c false (.ae (.c false (.s (.ae (.c true .z)) (.c true (.ae (.s (.ae (.ae (.ae (.c true .z)))) .z)))))))))))))))
def YX(ac:aK)(C:aq):Prop:=((decide ((C.s.n:Int)>0)=true->(C.s.n:Int)≠0)/\(decide (gi ac C.s>=0)=true->(((0:Int)<=gi ac C.s/\gi ac C.s<(C.s.n:Int))/\toNat (gi ac C.s)<C.s.n)/\((0:Int)<=gi ac C.s/\((gi ac C.s):Int)<i64 (gi ac C.s+1)/\((i64 (gi ac C.s+1)):Int)<=(C.s.n:Int))/\wq (MD ac C.s C) (C.s.at' (toNat (gi ac C.s)))))
def aDa(ac:aK)(C:aq)(e:fa C)(f:ac.ak.size<=549755813888)(g:ac.aA.size<=549755813888)(h:ac.i.size<=549755813888)(b:fA C ac):YX ac C:=by
 have d:=hB e 0 Ω;unfold gz at d;unfold YX;exact have:=qT b;have:=b.2.ln;have:=alS ac C.s b.2.ln;(⟨λc=>have:=al c;Ω,λa=>⟨⟨have:=al a;Ω,have:=al a;Ω⟩,⟨have:=al a;have:=E (gi ac C.s+1);Ω,Γ⟩⟩⟩)
def aAA(ac:aK)(d:ac.ak.size<=549755813888)(e:ac.aA.size<=549755813888)(f:ac.i.size<=549755813888)(C:aq)(a:fa C)(b:fA C ac):gn Tryz.prog 19 ((Q3).args ([c 6,c 0,c ac.G,c ac.q,c ac.j,c ac.m,.str ac.ak,.str ac.aA,.str ac.i,c ac.aJ]++jd C)) ((Q3).dq (([c 6,c 0,c ac.G,c ac.q,c ac.j,c ac.m,.str ac.ak,.str ac.aA,.str ac.i,c ac.aJ]++jd C).drop (Q3).ej)) [] (cx [10,13,11,14,12,15,16,8,9] 7 (Vx ac C.s C)):=by
 refine eX abr (avm ac C) (YX ac C) (bZ 10 ba (az ais (az ait bY))) Tryz.func19 [] ?_ ?_ (aDa ac C a d e f b)
 .kernel_rfl
 .kernel_rfl
end
section
variable(ac:aK)(L:I ai)(C:aq)
def gQ:Int:=cond (decide ((L.n:Int)>0)) (ac.G.tmod (L.n:Int)) (-1)
def aum:aq:=({C with s:=(I.del L (toNat (gQ ac L)) (toNat (i64 (gQ ac L+1))))} :aq)
def Vy:aq:=aq.bif (decide (gQ ac L>=0)) (aum ac L C) C
def aGv(ac:aK)(L:I ai)(h:0<=ac.G):gQ ac L<(L.n:Int):=by
 unfold gQ
 by_cases c:(L.n:Int)>0
 .rw[bm c];exact(Qx h c).2
 .rw[a8 c];show(-1:Int)<(L.n:Int);omega
def Q4:dv:=⟨[.p 0,.g [a,a,a,a,a,a,ar,ar,ar,a]],cn,fp,e9,λ(b c d e f g:Int) h i j (k:Int)=>cW λC=>⟨⟨some (fA C (⟨b,c,d,e,f,g,h,i,j,k⟩:aK)),[],cx [10,13,11,14,12,15,16,8,9] 7 (Vy (⟨b,c,d,e,f,g,h,i,j,k⟩:aK) C.s C)⟩⟩⟩
def abt:c2:=⟨.ff true [.b 10,.b 11] [.own (.h 0 99) cR 16,.own (.h 0 29) dF 10,.own (.h 0 62) dF 11,.own (.h 0 95) dF 12,.own (.h 0 32) cR 13,.own (.h 0 65) cR 14,.own (.h 0 98) cR 15] (g8 0 [10,13,11,14,12,15,16,8,9] 7 [] 0) (g7 0 [10,13,11,14,12,15,16,8,9]),[],[]++gA 0 [10,13,11,14,12,15,16,8,9],⟨[],[]⟩⟩
def avn:cz (abt).ck:=.ae (.ae (.ae (.j ⟨57,[],[(.t 5,a)],[],.f⟩ .z (.b5 ⟨([.ptr 0 0,U,U,.ptr 10 0,.ptr 0 0,c (gQ ac C.s)]++us 135 ([])),cA [1,2,3,4,5,6,7,8,9] 1 C [(10,[c 7,c 0,c ac.G,c ac.q,c ac.j,c ac.m,.str ac.ak,.str ac.aA,.str ac.i,c ac.aJ])]⟩ (.ae (.ae (.c false (.ae (.c false (.ae (.c false (.s (.ae (.c false .z)) (.c true (.ae (.s (.ae (.ae (.ae (.c false .z)))) .z)))))))))))))))
def YY(ac:aK)(C:aq):Prop:=((decide ((C.s.n:Int)>0)=true->(C.s.n:Int)≠0)/\(decide (gQ ac C.s>=0)=true->(((0:Int)<=gQ ac C.s/\gQ ac C.s<(C.s.n:Int))/\toNat (gQ ac C.s)<C.s.n)/\(0:Int)<=gQ ac C.s/\((gQ ac C.s):Int)<i64 (gQ ac C.s+1)/\((i64 (gQ ac C.s+1)):Int)<=(C.s.n:Int)))
def aDb(ac:aK)(C:aq)(e:fa C)(f:ac.ak.size<=549755813888)(g:ac.aA.size<=549755813888)(h:ac.i.size<=549755813888)(b:fA C ac):YY ac C:=by
 have d:=hB e 0 Ω;unfold gz at d;unfold YY;exact have:=qT b;have:=b.2.ln;have:=aGv ac C.s b.2.ln;(⟨λc=>have:=al c;Ω,λa=>⟨⟨have:=al a;Ω,have:=al a;Ω⟩,have:=al a;have:=E (gQ ac C.s+1);Ω⟩⟩)
def aAB(ac:aK)(d:ac.ak.size<=549755813888)(e:ac.aA.size<=549755813888)(f:ac.i.size<=549755813888)(C:aq)(a:fa C)(b:fA C ac):gn Tryz.prog 19 ((Q4).args ([c 7,c 0,c ac.G,c ac.q,c ac.j,c ac.m,.str ac.ak,.str ac.aA,.str ac.i,c ac.aJ]++jd C)) ((Q4).dq (([c 7,c 0,c ac.G,c ac.q,c ac.j,c ac.m,.str ac.ak,.str ac.aA,.str ac.i,c ac.aJ]++jd C).drop (Q4).ej)) [] (cx [10,13,11,14,12,15,16,8,9] 7 (Vy ac C.s C)):=by
 refine eX abt (avn ac C) (YY ac C) (bZ 10 ba (az ais bY)) Tryz.func19 [] ?_ ?_ (aDb ac C a d e f b)
 .kernel_rfl
 .kernel_rfl
end
section
variable(ac:aK)(L:I ai)(C:aq)
def jA:Int:=cond (decide ((L.n:Int)>0)) (ac.G.tmod (L.n:Int)) (-1)
def w7:Bool:=cond (decide (jA ac L>=0)) (decide ((L.n:Int)<300)) false
def aun:aq:=({C with s:=(I.app L (I.lit ([L.at' (toNat (jA ac L))]:List ai)))} :aq)
def Vz:aq:=aq.bif (w7 ac L) (aun ac L C) C
def aGw(ac:aK)(L:I ai)(h:0<=ac.G):jA ac L<(L.n:Int):=by
 unfold jA
 by_cases c:(L.n:Int)>0
 .rw[bm c];exact(Qx h c).2
 .rw[a8 c];show(-1:Int)<(L.n:Int);omega
def Q5:dv:=⟨[.p 0,.g [a,a,a,a,a,a,ar,ar,ar,a]],cn,fp,e9,λ(b c d e f g:Int) h i j (k:Int)=>cW λC=>⟨⟨some (fA C (⟨b,c,d,e,f,g,h,i,j,k⟩:aK)),[],cx [10,13,11,14,12,15,16,8,9] 7 (Vz (⟨b,c,d,e,f,g,h,i,j,k⟩:aK) C.s C)⟩⟩⟩
def abu:c2:=⟨.ff true [.b 10] [.own (.h 0 99) cR 16,.own (.h 0 29) dF 10,.own (.h 0 62) dF 11,.own (.h 0 95) dF 12,.own (.h 0 32) cR 13,.own (.h 0 65) cR 14,.own (.h 0 98) cR 15] (g8 0 [10,13,11,14,12,15,16,8,9] 7 [] 0) (g7 0 [10,13,11,14,12,15,16,8,9]),[],[]++gA 0 [10,13,11,14,12,15,16,8,9],⟨[],[]⟩⟩
def avo:cz (abu).ck:=.ae (.ae (.ae (.j ⟨57,[],[(.t 5,a)],[],.f⟩ .z (.b5 ⟨([.ptr 0 0,U,U,.ptr 10 0,.ptr 0 0,c (jA ac C.s)]++us 135 ([])),cA [1,2,3,4,5,6,7,8,9] 1 C [(10,[c 8,c 0,c ac.G,c ac.q,c ac.j,c ac.m,.str ac.ak,.str ac.aA,.str ac.i,c ac.aJ])]⟩ (.ae (.ae (.c false (.ae (.c false (.ae (.c false (.s (.ae (.c false .z)) (.c false (.ae (.c true (.j ⟨40564819207303340847894502572065,[.b 10],[(.t 105,l)],[],.f⟩ .z (.b5 ⟨([.ptr 0 0,U,U,U,U,c (jA ac C.s)]++us 99 ([.bool (w7 ac C.s)]++us 35 ([]))),cA [1,2,3,4,5,6,7,8,9] 0 C []⟩ .z)))))))))))))))))
def YZ(ac:aK)(C:aq):Prop:=((decide ((C.s.n:Int)>0)=true->(C.s.n:Int)≠0)/\(w7 ac C.s=true->((0:Int)<=jA ac C.s/\jA ac C.s<(C.s.n:Int))/\toNat (jA ac C.s)<C.s.n/\C.s.n+1<=549755813888))
def aDc(ac:aK)(C:aq)(e:fa C)(f:ac.ak.size<=549755813888)(g:ac.aA.size<=549755813888)(h:ac.i.size<=549755813888)(a:fA C ac):YZ ac C:=by
 have d:=hB e 0 Ω;unfold gz at d;unfold YZ;exact have:=qT a;have:=a.2.ln;have:=aGw ac C.s a.2.ln;(⟨λc=>have:=al c;Ω,λb=>⟨by have:=b;(try simp [w7]at this);omega,⟨by have:=b;(try simp [w7]at this);omega,Ω⟩⟩⟩)
def aAC(ac:aK)(d:ac.ak.size<=549755813888)(e:ac.aA.size<=549755813888)(f:ac.i.size<=549755813888)(C:aq)(a:fa C)(b:fA C ac):gn Tryz.prog 19 ((Q5).args ([c 8,c 0,c ac.G,c ac.q,c ac.j,c ac.m,.str ac.ak,.str ac.aA,.str ac.i,c ac.aJ]++jd C)) ((Q5).dq (([c 8,c 0,c ac.G,c ac.q,c ac.j,c ac.m,.str ac.ak,.str ac.aA,.str ac.i,c ac.aJ]++jd C).drop (Q5).ej)) [] (cx [10,13,11,14,12,15,16,8,9] 7 (Vz ac C.s C)):=by
 refine eX abu (avo ac C) (YZ ac C) (bZ 10 ba bY) Tryz.func19 [] ?_ ?_ (aDc ac C a d e f b)
 .kernel_rfl
 .kernel_rfl
end
section
variable(ac:aK)(L:I ai)(C:aq)
def aur:Int:=cond (decide ((L.n:Int)>0)) (ac.G.tmod (L.n:Int)) (-1)
def agb(a:Int)(b:aq):aq:=jq b (L.at' a.toNat)
def uU(L:I ai):Nat->Int->aq->kr
 |0,_,_=>default
 |k+1,a,b=>cond (decide (a<L.n)) (uU L k (i64 (a+1)) (agb L a b)) (aaF b)
def ME:aq:=({C with s:=(B:I ai)} :aq)
def aus:kr:=uU L (toNat ((C.s.n:Int)- (0:Int))+1) (0:Int) (ME C)
def auq:aq:=cN (aus L C)
def sE:aq:=auq L C
def Q7:dv:=⟨[.p 0,.g [a,a,a,a,a,a,ar,ar,ar,a]],cn,fp,e9,λ(b c d e f g:Int) h i j (k:Int)=>cW λC=>⟨⟨some (fA C (⟨b,c,d,e,f,g,h,i,j,k⟩:aK)),[],cx [10,13,11,14,12,15,16,8,9] 7 (sE C.s C)⟩⟩⟩
def abw:c2:=⟨.ff true [] [.kill 7,.own (.h 0 99) cR 16,.own (.h 0 29) dF 10,.own (.h 0 62) dF 11,.own (.h 0 95) dF 12,.own (.h 0 32) cR 13,.own (.h 0 65) cR 14,.own (.h 0 98) cR 15] (g8 0 [10,13,11,14,12,15,16,8,9] 7 [] 0) (g7 0 [10,13,11,14,12,15,16,8,9]),[],[]++gA 0 [10,13,11,14,12,15,16,8,9],⟨[],[]⟩⟩
def avq:cz (abw).ck:=.ae (.ae (.ae (.j ⟨57,[],[(.t 5,a)],[],.f⟩ .z (.b5 ⟨([.ptr 0 0,U,U,.ptr 10 0,.ptr 0 0,c (aur ac C.s)]++us 135 ([])),cA [1,2,3,4,5,6,7,8,9] 1 C [(10,[c 12,c 0,c ac.G,c ac.q,c ac.j,c ac.m,.str ac.ak,.str ac.aA,.str ac.i,c ac.aJ])]⟩ (.ae (.ae (.c false (.ae (.c false (.ae (.c false (.s (.ae (.c false .z)) (.c false (.ae (.c false (.ae (.c true (.ae (.ae (.s (.mW [] [.own (.h 0 29) dF 40,.own (.h 0 62) dF 41,.own (.h 0 95) dF 42]) (.vC ⟨19055812547572553953948978016179019841537,[.b 10],[(.h 0 99,cR)],(.t 133,a)::gA 0 [40,2,41,4,42,6,43,8,9],some 1,false,0,[],gA 0 [40,2,41,4,42,6,43,8,9],λk (b:Int×kr)=>uU C.s k b.1 (cN b.2),.f,λ(b:Int×kr)=>tS C b.1 (cN b.2),λ(b:Int×kr)=>toNat ((C.s.n:Int)-b.1),none⟩ (λ(b:Int×kr)=>.ae (.b5 ⟨([.ptr 0 0]++us 130 ([.own 7 C.s.n,c (C.s.n:Int),c b.1,.bool (decide (b.1<(C.s.n:Int)))]++us 6 ([]))),cA [40,2,41,4,42,6,43,8,9] 34 (cN b.2) [(7,[(aG.ad cR).av C.s])]⟩ (.ae (.ae (.mW [] [.own (.h 0 29) dF 40,.own (.h 0 62) dF 41,.own (.h 0 95) dF 42]))))))))))))))))))))))))))
def Y4(ac:aK)(C:aq):Prop:=((decide ((C.s.n:Int)>0)=true->(C.s.n:Int)≠0)/\tS C (0:Int) (ME C)/\(BK (aG.int .i64::cn) λ(a:Int×kr)=>tS C a.1 (cN a.2)->(decide (a.1<(C.s.n:Int))=true->(((0:Int)<=a.1/\a.1<(C.s.n:Int))/\toNat a.1<C.s.n)/\wq (cN a.2) (C.s.at' (toNat a.1)))/\(decide (a.1<(C.s.n:Int))=true->tS C (i64 (a.1+1)) (agb C.s a.1 (cN a.2))/\toNat ((C.s.n:Int)- (i64 (a.1+1)))<toNat ((C.s.n:Int)-a.1))))
def aDe(ac:aK)(C:aq)(g:fa C)(j:ac.ak.size<=549755813888)(k:ac.aA.size<=549755813888)(l:ac.i.size<=549755813888)(d:fA C ac):Y4 ac C:=by
 have f:=hB g 0 Ω;unfold gz at f;unfold Y4;exact have:=qT d;have:=d.2.ln;(⟨λe=>have:=al e;Ω,⟨Γ,((Fv _ _).2 λ(h:Int×kr) i=>⟨(λb=>⟨⟨by have:=al b;(try have a:=F4 Ψ);omega,by have:=al b;(try have a:=F4 Ψ);omega⟩,(by have:=al b;have:=trivial;(try have a:=F4 Ψ);repeat first|assumption|apply ss)⟩),(λc=>⟨(by have:=al c;have:=trivial;(try have a:=F4 Ψ);repeat first|assumption|apply ux),by have:=al c;(try have a:=F4 Ψ);have:=E (h.1+1);omega⟩)⟩)⟩⟩)
def aAD(ac:aK)(d:ac.ak.size<=549755813888)(e:ac.aA.size<=549755813888)(f:ac.i.size<=549755813888)(C:aq)(a:fa C)(b:fA C ac):gn Tryz.prog 19 ((Q7).args ([c 12,c 0,c ac.G,c ac.q,c ac.j,c ac.m,.str ac.ak,.str ac.aA,.str ac.i,c ac.aJ]++jd C)) ((Q7).dq (([c 12,c 0,c ac.G,c ac.q,c ac.j,c ac.m,.str ac.ak,.str ac.aA,.str ac.i,c ac.aJ]++jd C).drop (Q7).ej)) [] (cx [10,13,11,14,12,15,16,8,9] 7 (sE C.s C)):=by
 refine eX abw (avq ac C) (Y4 ac C) (bZ 10 ba (az ait bY)) Tryz.func19 [] ?_ ?_ (aDe ac C a d e f b)
 .kernel_rfl
 .kernel_rfl
end
section
abbrev auh(i:Nat)(ac:aK)(h:N):N:=k8 4 i ac h
abbrev aui(i:Nat)(ac:aK)(h:N)(L:I ai):I ai:=jB 4 i ac h L
variable(i:Nat)(C:aq)(ac:aK)
def aCE:aq:=C.put i (MB ac (C.h i)) C.s (Vw ac (C.h i) C.told) C.aU
def aCF:aq:=C.put i (k8 2 i ac (C.h i)) (jB 2 i ac (C.h i) C.s) C.told C.aU
def aCG:aq:=C.put i (k8 3 i ac (C.h i)) (jB 3 i ac (C.h i) C.s) C.told C.aU
def x7:aq:=C.put i (auh i ac (C.h i)) (aui i ac (C.h i) C.s) C.told C.aU
def I6:aq:=C.set i (MC ac (C.h i))
def aCH:aq:=C.put i (k8 9 i ac (C.h i)) (jB 9 i ac (C.h i) C.s) C.told C.aU
def I7(ac:aK):aq:=C.set i (p5 (C.h i))
def aCI:aq:=C.put i (k8 11 i ac (C.h i)) (jB 11 i ac (C.h i) C.s) C.told C.aU
def df:aq:=aq.bif (ac.r==1) (aCE (toNat ac.K) C ac) (aq.bif (ac.r==2) (aCF (toNat ac.K) C ac) (aq.bif (ac.r==3) (aCG (toNat ac.K) C ac) (aq.bif (ac.r==4) (x7 (toNat ac.K) C ac) (aq.bif (ac.r==5) (I6 (toNat ac.K) C ac) (aq.bif (ac.r==6) (Vx ac C.s C) (aq.bif (ac.r==7) (Vy ac C.s C) (aq.bif (ac.r==8) (Vz ac C.s C) (aq.bif (ac.r==9) (aCH (toNat ac.K) C ac) (aq.bif (ac.r==10) (I7 (toNat ac.K) C ac) (aq.bif (ac.r==11) (aCI (toNat ac.K) C ac) (sE C.s C)))))))))))
def Q0:dv:=⟨[.p 0,.g [a,a,a,a,a,a,ar,ar,ar,a]],cn,fp,e9,λ(b c d e f g:Int) h i j (k:Int)=>cW λC=>⟨⟨some (fA C (⟨b,c,d,e,f,g,h,i,j,k⟩:aK)),[],cx [10,13,11,14,12,15,16,8,9] 7 (df C (⟨b,c,d,e,f,g,h,i,j,k⟩:aK))⟩⟩⟩
def aAz(ac:aK)(k:ac.ak.size<=549755813888)(l:ac.aA.size<=549755813888)(m:ac.i.size<=549755813888):fB Tryz.prog 19 Q0 cn [] (cW λC=>⟨⟨some (fA C ac),[],cx [10,13,11,14,12,15,16,8,9] 7 (df C ac)⟩⟩) [c ac.r,c ac.K,c ac.G,c ac.q,c ac.j,c ac.m,.str ac.ak,.str ac.aA,.str ac.i,c ac.aJ]:=by
 refine g6 λC j a=> ?_;obtain⟨a0,aL,aO,b,d,e,f,g,h,i⟩:=ac;have o:a0=1\/a0=2\/a0=3\/a0=4\/a0=5\/a0=6\/a0=7\/a0=8\/a0=9\/a0=10\/a0=11\/a0=12:=by
  have p:1<=a0:=a.2.ck.1;have q:a0<=12:=a.2.ck.2;omega
 have n:aL=0\/aL=1\/aL=2:=by
  have p:0<=aL:=a.2.h.1;have q:aL<3:=a.2.h.2;omega
 rcases o with rfl|rfl|rfl|rfl|rfl|rfl|rfl|rfl|rfl|rfl|rfl|rfl
 .rcases n with rfl|rfl|rfl
  .exact Eq.mp Ξ (XU 0 Ω ⟨1,0,aO,b,d,e,f,g,h,i⟩ k l m C j a)
  .exact Eq.mp Ξ (XU 1 Ω ⟨1,1,aO,b,d,e,f,g,h,i⟩ k l m C j a)
  .exact Eq.mp Ξ (XU 2 Ω ⟨1,2,aO,b,d,e,f,g,h,i⟩ k l m C j a)
 .rcases n with rfl|rfl|rfl
  .exact Eq.mp Ξ (nh 2 Δ 0 Ω ⟨2,0,aO,b,d,e,f,g,h,i⟩ k l m C j a)
  .exact Eq.mp Ξ (nh 2 Δ 1 Ω ⟨2,1,aO,b,d,e,f,g,h,i⟩ k l m C j a)
  .exact Eq.mp Ξ (nh 2 Δ 2 Ω ⟨2,2,aO,b,d,e,f,g,h,i⟩ k l m C j a)
 .rcases n with rfl|rfl|rfl
  .exact Eq.mp Ξ (nh 3 Δ 0 Ω ⟨3,0,aO,b,d,e,f,g,h,i⟩ k l m C j a)
  .exact Eq.mp Ξ (nh 3 Δ 1 Ω ⟨3,1,aO,b,d,e,f,g,h,i⟩ k l m C j a)
  .exact Eq.mp Ξ (nh 3 Δ 2 Ω ⟨3,2,aO,b,d,e,f,g,h,i⟩ k l m C j a)
 .rcases n with rfl|rfl|rfl
  .exact Eq.mp Ξ (nh 4 Δ 0 Ω ⟨4,0,aO,b,d,e,f,g,h,i⟩ k l m C j a)
  .exact Eq.mp Ξ (nh 4 Δ 1 Ω ⟨4,1,aO,b,d,e,f,g,h,i⟩ k l m C j a)
  .exact Eq.mp Ξ (nh 4 Δ 2 Ω ⟨4,2,aO,b,d,e,f,g,h,i⟩ k l m C j a)
 .rcases n with rfl|rfl|rfl
  .exact Eq.mp Ξ (XV 0 Ω ⟨5,0,aO,b,d,e,f,g,h,i⟩ k l m C j a)
  .exact Eq.mp Ξ (XV 1 Ω ⟨5,1,aO,b,d,e,f,g,h,i⟩ k l m C j a)
  .exact Eq.mp Ξ (XV 2 Ω ⟨5,2,aO,b,d,e,f,g,h,i⟩ k l m C j a)
 .have z:aL=0:=a.2.Px Χ;subst z;exact Eq.mp Ξ (aAA ⟨6,0,aO,b,d,e,f,g,h,i⟩ k l m C j a)
 .have z:aL=0:=a.2.Px Χ;subst z;exact Eq.mp Ξ (aAB ⟨7,0,aO,b,d,e,f,g,h,i⟩ k l m C j a)
 .have z:aL=0:=a.2.Px Χ;subst z;exact Eq.mp Ξ (aAC ⟨8,0,aO,b,d,e,f,g,h,i⟩ k l m C j a)
 .rcases n with rfl|rfl|rfl
  .exact Eq.mp Ξ (nh 9 Δ 0 Ω ⟨9,0,aO,b,d,e,f,g,h,i⟩ k l m C j a)
  .exact Eq.mp Ξ (nh 9 Δ 1 Ω ⟨9,1,aO,b,d,e,f,g,h,i⟩ k l m C j a)
  .exact Eq.mp Ξ (nh 9 Δ 2 Ω ⟨9,2,aO,b,d,e,f,g,h,i⟩ k l m C j a)
 .rcases n with rfl|rfl|rfl
  .exact Eq.mp Ξ (XW 0 Ω ⟨10,0,aO,b,d,e,f,g,h,i⟩ k l m C j a)
  .exact Eq.mp Ξ (XW 1 Ω ⟨10,1,aO,b,d,e,f,g,h,i⟩ k l m C j a)
  .exact Eq.mp Ξ (XW 2 Ω ⟨10,2,aO,b,d,e,f,g,h,i⟩ k l m C j a)
 .rcases n with rfl|rfl|rfl
  .exact Eq.mp Ξ (nh 11 Δ 0 Ω ⟨11,0,aO,b,d,e,f,g,h,i⟩ k l m C j a)
  .exact Eq.mp Ξ (nh 11 Δ 1 Ω ⟨11,1,aO,b,d,e,f,g,h,i⟩ k l m C j a)
  .exact Eq.mp Ξ (nh 11 Δ 2 Ω ⟨11,2,aO,b,d,e,f,g,h,i⟩ k l m C j a)
 .have z:aL=0:=a.2.Px Χ;subst z;exact Eq.mp Ξ (aAD ⟨12,0,aO,b,d,e,f,g,h,i⟩ k l m C j a)
def aDT:gW 19 Q0:=
 kt (bF:=[a,a,a,a,a,a,ar,ar,ar,a]) λs b=>Eq.mp Ξ (aAz ⟨s.1,s.2.1,s.2.2.1,s.2.2.2.1,s.2.2.2.2.1,s.2.2.2.2.2.1,s.2.2.2.2.2.2.1,s.2.2.2.2.2.2.2.1,s.2.2.2.2.2.2.2.2.1,s.2.2.2.2.2.2.2.2.2.1⟩ (b.2.2.2.2.2.2.1 rfl) (b.2.2.2.2.2.2.2.1 rfl) (b.2.2.2.2.2.2.2.2.1 rfl))
def azW:gX 19 Q0:=hi g4 Tryz.func19 aDT
end
def iX{c:Bool}{a b:N}{m:Nat}(d:a.ws.n<=m)(e:b.ws.n<=m):(N.bif c a b).ws.n<=m:=by
 rw[N.cT]
 cases c
 .exact e
 .exact d
def aHp(j:Nat)(n:N):(N.ic j n).ws=n.ws:=by
 match j with
 |0=>rfl
 |1=>rfl
 |j+2=>rfl
def aG0{i j:Nat}{ms:ai}{h:N}{L:I ai}{aj:I bI}{an:I aw}(b:bX h)(d:fE ms)(m:i<3)(n:j<3):(m5 i j ms h L aj an).ws.n<=h.ws.n:=by
 have g:fE ⟨(j:Int),(i:Int),ms.G,ms.q,ms.j,ms.m,ms.ak,ms.aA,ms.i,ms.aJ,ms.b4,ms.cb,ms.b0,ms.cq,ms.bn⟩:=⟨(by omega:(0:Int)<=(j:Int)/\(j:Int)<3),(by omega:(0:Int)<=(i:Int)/\(i:Int)<3),d.j1,d.b9,d.li⟩;have k:aN (re ms h):=by
  unfold re
  cases ir ms h
  .exact b.i.u8
  .exact(OQ b).i.u8
 have l:=QG ms h b.i.ws;have e:bX (de ms h):=⟨b.i.iz _ Ξ k l,b.o⟩;have a:(de ms h).ws.n<=h.ws.n:=by
  show(o1 ms h).n<=h.ws.n;unfold o1
  cases ir ms h
  .exact bH _
  .exact cd _
 have c:(hS j ms h).ws.n<=h.ws.n:=by
  show(N.ic j (de ms h)).ws.n<=h.ws.n;rw[aHp];exact a
 have OY:(k_ (de ms h)).ws.n<=h.ws.n:=ec (aG7 _) a;have f:=XE e;unfold m5;refine iX (bH _) (iX ?_ (by rw[aG1];exact bH _));refine iX (by rw[aG2];exact a) (iX ?_ (iX ?_ (iX (by rw[aG5];exact a) (iX ?_ (iX (by rw[aG8 f];exact OY) (iX (by rw[aG9];exact OY) (iX ?_ a)))))))
 .exact iX (iX (by rw[aG3];exact c) c) a
 .exact iX (by rw[aG4];exact a) a
 .exact iX (iX (by rw[aG6];exact c) c) a
 .exact iX (by rw[aG_ e g];exact a) a
def amf{C:aq}{ms:ai}{m:Nat}(c: ∀i,bX (C.h i))(a:fE ms)(b: ∀i,(C.h i).ws.n<=m)(i:Nat):((jq C ms).h i).ws.n<=m:=by
 have d:=a.kC;have e:=a.to;unfold jq Ef;exact PL (P:=λn=>n.ws.n<=m) b _ (ec (aG0 (c _) a Ω Ω) (b _)) _ _ _ i
def akb{s:I ai}(h:gq s){i j:Nat}(b:i<=j)(c:j<=s.n):gq (I.del s i j):=by
 refine⟨by show s.n- (j-i)<=300;have:=h.1;omega,λt a=> ?_⟩;have a:t<s.n- (j-i):=a;show fE (cond (Nat.blt t i) (s.at' t) (s.at' (t+(j-i))));exact ft (P:=fE) (h.2 t Ω) (h.2 (t+(j-i)) Ω)
def yN{k:Nat}{C:aq}(a: ∀i,bX (C.h i))(e: ∀i,(C.h i).ws.n<=k)(b:gq C.s)(d:C.told.n<=180001000*k)(c:C.aU.n<=300*k):fz k C:=
 ⟨λi=>(a i).i,e,b.2,b.1,λi=>(a i).o.2,λi=>(a i).o.1,d,c⟩
def fz.j{k:Nat}{C:aq}(h:fz k C)(i:Nat):bX (C.h i):=⟨h.h i,h.on i,h.a1 i⟩
def fz.a{k:Nat}{C:aq}(h:fz k C):gq C.s:=⟨h.lF,h.gd⟩
def fz.succ{k:Nat}{C:aq}(h:fz k C):fz (k+1) C:=yN h.j (λi=>qB (h.wn i)) h.a (have:=h.tG;Ω) (have:=h.fK;Ω)
def KW{k:Nat}{C:aq}(h:fz k C)(i:Nat){n:N}{L:I ai}{aj:I bI}{an:I aw}(b:bX n)(c:n.ws.n<=k+1)(a:gq L)(e:aj.n<=C.told.n+180001000)(d:an.n<=C.aU.n+300):fz (k+1) (C.put i n L aj an):=by
 have f:=vO C i n L aj an;refine yN (PL (P:=bX) h.j i b _ _ _) (PL (P:=λn=>n.ws.n<=k+1) (λj=>qB (h.wn j)) i c _ _ _) ?_ ?_ ?_
 .rw[f.1];exact a
 .rw[f.2.1];have:=h.tG;omega
 .rw[f.2.2];have:=h.fK;omega
def yd(C:aq)(i:Nat)(n:N):C.set i n=C.put i n C.s C.told C.aU:=by
 match i with
 |0=>rfl
 |1=>rfl
 |i+2=>rfl
def aHa(ms:ai)(n:N):(mz ms n).ws=n.ws:=by kernel_rfl
def aHb(n:N):(ri n).ws=n.ws:=by kernel_rfl
def aHc(n:N):(lb n).ws=n.ws:=by kernel_rfl
def aHd(n:N):(o3 n).ws=n.ws:=by
 unfold o3
 repeat' first|rfl|apply v_
def ax8{ac:aK}{h:N}{L:I ai}(a:bX h)(b:gq L):bX (p7 ac h)/\(p7 ac h).ws.n<=h.ws.n/\gq (sG ac h L):=by
 have c:bX (jW h):=⟨a.i.iz _ Ξ a.i.u8 a.i.ws,a.o⟩;have d:=S0 c.i;refine⟨?_,?_,?_⟩
 .unfold p7;refine pf (λ_=>pf (λ_=>ah1 c (x5 d)) λ_=>a) λ_=> ?_;refine pf (λ_=>pf (λ_=>ah2 a) λ_=>a) λ_=> ?_;exact pf (λ_=>ayd a) λ_=>pf (λ_=>aye a) λ_=>pf (λ_=>ayf a) λ_=>a
 .unfold p7;refine iX (iX (by rw[aHa];exact bH _) (bH _)) ?_;refine iX (iX (by rw[aHb];exact bH _) (bH _)) ?_;exact iX (by rw[aHc];exact bH _) (iX (cd _) (iX (by rw[aHd];exact bH _) (bH _)))
 .unfold sG;exact ft (P:=gq) b (ft (P:=gq) b (ft (P:=gq) (aqa a b) b))
def Fs{k:Nat}{C:aq}(h:fz k C)(i:Nat)(ac:aK)(c:Bool):fz (k+1) (C.put i (N.bif c (p7 ac (C.h i)) (C.h i)) (cond c (sG ac (C.h i) C.s) C.s) C.told C.aU):=by
 have q:=ax8 (ac:=ac) (h.j i) h.a;exact KW h i (pf (λ_=>q.1) λ_=>h.j i) (iX (ec q.2.1 (qB (h.wn i))) (qB (h.wn i))) (ft (P:=gq) q.2.2 h.a) (r5 _ _) (r5 _ _)
def e7{P:aq->Prop}{c:Bool}{a b:aq}(d:c=true->P a)(e:c=false->P b):P (aq.bif c a b):=by
 rw[aq.cT]
 cases c
 .exact e rfl
 .exact d rfl
def Qv{c:Int}{L:I ai}(h:0<=c):(cond (decide ((L.n:Int)>0)) (c.tmod (L.n:Int)) (-1))<(L.n:Int):=by
 by_cases e:(L.n:Int)>0
 .rw[bm e];exact(Qx h e).2
 .rw[a8 e];show(-1:Int)<(L.n:Int);omega
def aGo{k:Nat}{C:aq}(h:fz k C){D:I ai}(f:gq D){ms:ai}(d:fE ms):fz (k+1) (jq {C with s:=D} ms):=by
 have e: ∀i,bX ((⟨C.a,C.b,C.c,D,C.told,C.aU⟩:aq).h i):=λi=>by
  have a:=h.j 0;have b:=h.j 1;have c:=h.j 2
  match i with
  |0=>exact a
  |1=>exact b
  |i+2=>exact c
 have g: ∀i,((⟨C.a,C.b,C.c,D,C.told,C.aU⟩:aq).h i).ws.n<=k:=λi=>by
  have a:=h.wn 0;have b:=h.wn 1;have c:=h.wn 2
  match i with
  |0=>exact a
  |1=>exact b
  |i+2=>exact c
 have q:=Bl e d;have l:=h.tG;have j:=h.fK;have n:(((jq ⟨C.a,C.b,C.c,D,C.told,C.aU⟩ ms).told.n:Nat):Int)<=(C.told.n:Int)+600000:=q.t;have m:(jq ⟨C.a,C.b,C.c,D,C.told,C.aU⟩ ms).aU.n<=C.aU.n+1:=q.l;refine yN q.j (λi=>qB (amf e d g i)) (by rw[q.a];exact f) ?_ ?_
 .show(jq ⟨C.a,C.b,C.c,D,C.told,C.aU⟩ ms).told.n<=_;omega
 .show(jq ⟨C.a,C.b,C.c,D,C.told,C.aU⟩ ms).aU.n<=_;omega
def KX(C:aq):cN (aaF C)=C:=rfl
structure BC (k:Nat) (C X:aq) (v:Int):Prop where
 j: ∀i,bX (X.h i)
 w: ∀i,(X.h i).ws.n<=k
 a:X.s=B
 t:(X.told.n:Int)<=(C.told.n:Int)+600000*v
 l:(X.aU.n:Int)<=(C.aU.n:Int)+v
def ati{k:Nat}{C X:aq}{v:Int}(h:BC k C X v){ms:ai}(a:fE ms):BC k C (jq X ms) (v+1):=by
 have q:=Bl h.j a;have c:=h.t;have b:=h.l;have e:=q.t;have d:=q.l;exact⟨q.j,amf h.j a h.w,by rw[q.a];exact h.a,Ω,Ω⟩
def aeg{k:Nat}{C:aq}{L:I ai}(b:gq L): ∀(m a:Nat) (v:Int) (X:aq),0<=v->v+(m:Int)=(L.n:Int)->m<=a->BC k C X v->BC k C (cN (uU L (a+1) v X)) (L.n:Int)
 |0,a,v,X,c,e,d,h=>by
  rw[uU,a8 (show¬v<(L.n:Int) by omega),aB,KX,show(L.n:Int)=v by omega];exact h
 |m+1,a,v,X,c,e,d,h=>by
  obtain⟨a,rfl⟩: ∃q,a=q+1:=⟨a-1,Ω⟩;have f:=b.1;rw[uU,bm (show v<(L.n:Int) by omega),au,E _];exact aeg b m a (v+1) _ Ω Ω Ω (ati h (b.2 _ Ω))
def atk{k:Nat}{C:aq}(h:fz k C):fz (k+1) (sE C.s C):=by
 have a:BC k C (ME C) 0:=by
  refine⟨λi=> ?_,λi=> ?_,rfl,by show(C.told.n:Int)<=_;omega,by show(C.aU.n:Int)<=_;omega⟩
  .have a:=h.j 0;have b:=h.j 1;have c:=h.j 2
   match i with
   |0=>exact a
   |1=>exact b
   |i+2=>exact c
  .have a:=h.wn 0;have b:=h.wn 1;have c:=h.wn 2
   match i with
   |0=>exact a
   |1=>exact b
   |i+2=>exact c
 have q:=aeg (k:=k) (C:=C) h.a C.s.n (toNat ((C.s.n:Int)- (0:Int))) 0 (ME C) (bz _) Ω Ω a;have q:BC k C (sE C.s C) (C.s.n:Int):=q;have f:=h.tG;have e:=h.fK;have d:=h.lF;have j:=q.t;have g:=q.l;exact yN q.j (λi=>qB (q.w i)) (by rw[q.a];exact YP) Ω Ω
def wG{k:Nat}{C:aq}{ac:aK}(r:k<3000)(a:fz k C)(m:Bw ac):fz (k+1) (df C ac):=by
 have gJ:=Qv (L:=C.s) m.ln;unfold df;refine e7 (λ_=> ?_) λ_=>e7 (λ_=>Fs a _ _ _) λ_=>e7 (λ_=>Fs a _ _ _) λ_=>e7 (λ_=>Fs a _ _ _) λ_=>e7 (λ_=> ?_) λ_=>e7 (λ_=> ?_) λ_=>e7 (λ_=> ?_) λ_=>e7 (λ_=> ?_) λ_=>e7 (λ_=>Fs a _ _ _) λ_=>e7 (λ_=> ?_) λ_=>e7 (λ_=>Fs a _ _ _) λ_=>atk a
 .have q:=ax7 (aT:=⟨ac.q,ac.j,ac.m,ac.ak,ac.aA,ac.i,ac.aJ⟩) (a.j (toNat ac.K)) (have:=a.wn (toNat ac.K);Ω) m.A8 m.A9 m.A_;have s:=aGj (aT:=⟨ac.q,ac.j,ac.m,ac.ak,ac.aA,ac.i,ac.aJ⟩) (h:=C.h (toNat ac.K)) (aj:=C.told);exact KW a _ q.1 (by have:=a.wn (toNat ac.K);have:=q.2;show(sF _ _).ws.n<=k+1;omega) a.a (by show(C8 _ _ _).n<=_;omega) (r5 _ _)
 .have c:=a.j (toNat ac.K);rw[I6,yd];exact KW a _ ⟨c.i.iz _ Ξ c.i.u8 c.i.ws,c.o⟩ (qB (a.wn _)) a.a (r5 _ _) (r5 _ _)
 .refine e7 (λe=> ?_) λ_=>a.succ;have e:=al e;have o:gi ac C.s<(C.s.n:Int):=gJ;have j:=wrap64 (x:=gi ac C.s+1) Ω (have:=a.lF;Ω);exact aGo a (akb a.a (by rw[j];omega) (by rw[j];omega)) (a.gd _ Ω)
 .refine e7 (λe=> ?_) λ_=>a.succ;have e:=al e;have o:gQ ac C.s<(C.s.n:Int):=gJ;have j:=wrap64 (x:=gQ ac C.s+1) Ω (have:=a.lF;Ω);have b:=a.succ;have n:gq (I.del C.s (toNat (gQ ac C.s)) (toNat (i64 (gQ ac C.s+1)))):=akb a.a (by rw[j];omega) (by rw[j];omega);refine yN (λi=> ?_) (λi=> ?_) n b.tG b.fK
  .have d:=a.j 0;have f:=a.j 1;have g:=a.j 2
   match i with
   |0=>exact d
   |1=>exact f
   |i+2=>exact g
  .have d:=b.wn 0;have f:=b.wn 1;have g:=b.wn 2
   match i with
   |0=>exact d
   |1=>exact f
   |i+2=>exact g
 .refine e7 (λe=> ?_) λ_=>a.succ;have b:=a.succ;have o:jA ac C.s<(C.s.n:Int):=gJ;have n:gq (I.app C.s (I.lit ([C.s.at' (toNat (jA ac C.s))]:List ai))):=by
   unfold w7 at e
   cases l:decide (jA ac C.s>=0)with
   |false=>rw[l]at e;cases e
   |true=>
    rw[l]at e;have l:=al l;have p:=al e;exact aka a.a Ω (a.gd _ Ω)
  refine yN (λi=> ?_) (λi=> ?_) n b.tG b.fK
  .have d:=a.j 0;have f:=a.j 1;have g:=a.j 2
   match i with
   |0=>exact d
   |1=>exact f
   |i+2=>exact g
  .have d:=b.wn 0;have f:=b.wn 1;have g:=b.wn 2
   match i with
   |0=>exact d
   |1=>exact f
   |i+2=>exact g
 .have c:=a.j (toNat ac.K);rw[I7,yd];exact KW a _ ⟨c.i.iz _ Ξ c.i.u8 c.i.ws,c.o⟩ (qB (a.wn _)) a.a (r5 _ _) (r5 _ _)
def ayr(q:Key×aG):Key×aG:=match q.1 with
 | .h _ o=>(.h 1 o,q.2)
 |_=>q
def ac3(ids:List Nat):List (Key×aG):=(AP 0++AP 33++AP 66).map ayr++AX ids 0++AX ids 1++AX ids 2++[(.h (ids.getD 6 0) 0,.ad cR),(.h (ids.getD 7 0) 0,.ad kT),(.h (ids.getD 8 0) 0,.ad c3)]
def fO(a:aK):Prop:=qh a.r a.K a.G a.q a.j a.m a.ak a.aA a.i a.aJ=0
def mT{a:aK}(h:fO a):Bw a:=by
 have k:=aFx h;exact⟨k.1,k.2.1,k.2.2.1,k.2.2.2.1,ec k.2.2.2.2.1 Δ,ec k.2.2.2.2.2.1 Δ,ec k.2.2.2.2.2.2 Δ⟩
def nx(A:I aK)(v:Int)(X:aq):Prop:=(0<=v/\v<=A.n)/\fz v.toNat X
def P4{A:I aK}{v:Int}{X:aq}(h:nx A v X):0<=v/\v<=(A.n:Int):=h.1
def ak4{A:I aK}{v:Int}{X:aq}(d:A.n<=3000)(a: ∀q,q<A.n->fO (A.at' q))(h:nx A v X)(e:v<A.n):nx A (i64 (v+1)) (df X (A.at' v.toNat)):=by
 obtain⟨c,b⟩:=h;rw[E _];refine⟨Ω,?_⟩;rw[show toNat (v+1)=toNat v+1 by omega];exact wG Ω b (mT (a _ Ω))
def aFi{A:I aK}{v:Int}{X:aq}(d:A.n<=3000)(a: ∀q,q<A.n->fO (A.at' q))(h:nx A v X)(e:v<A.n):fA X (A.at' v.toNat):=by
 obtain⟨c,b⟩:=h;exact⟨⟨_,Ω,b⟩,mT (a _ Ω)⟩
section
def w6(A:I aK):Nat->Int->Bool×I ky×I bI×I aw×Int×Int
 |0,_=>default
 |k+1,aI=>cond (decide (aI<A.n)) (cond (qh (A.at' aI.toNat).r (A.at' aI.toNat).K (A.at' aI.toNat).G (A.at' aI.toNat).q (A.at' aI.toNat).j (A.at' aI.toNat).m (A.at' aI.toNat).ak (A.at' aI.toNat).aA (A.at' aI.toNat).i (A.at' aI.toNat).aJ !=0) (true,(B:I ky),(B:I bI),(B:I aw),0,qh (A.at' aI.toNat).r (A.at' aI.toNat).K (A.at' aI.toNat).G (A.at' aI.toNat).q (A.at' aI.toNat).j (A.at' aI.toNat).m (A.at' aI.toNat).ak (A.at' aI.toNat).aA (A.at' aI.toNat).i (A.at' aI.toNat).aJ) (w6 A k (i64 (aI+1)))) (false,default,default,default,default,default)
variable(A:I aK)
def uT:Bool×I ky×I bI×I aw×Int×Int:=w6 A (toNat ((A.n:Int)-0)+1) 0
def nL:Bool:=cond (uT A).1 false true
def uR:aq:=let p:=Hv zR;let o:=Ht zT;let n:=Hs zS;let m:=Hr HS;let l:=Hq HR;let k:=Hm zR;let j:=Hl xt;let i:=Hk xr;let h:=Hj xq;let g:=Hi xp;let f:=Hh xt;let e:=Hg xr;let d:=Hf xq;let c:=He xp;let b:=Hd HT;let a:=Hu zQ;⟨⟨zr 0,true,Hn,zB,l,m,n,o,a,p,b,c,d,e,f,g,h,i,j,k,zs,zt,zu,zv,zw,zx,zy,zz,zA,(B:I hz),Ho,Hp,(B:I ai)⟩,⟨zr 1,true,Hn,zB,l,m,n,o,a,p,b,c,d,e,f,g,h,i,j,k,zs,zt,zu,zv,zw,zx,zy,zz,zA,(B:I hz),Ho,Hp,(B:I ai)⟩,⟨zr 2,true,Hn,zB,l,m,n,o,a,p,b,c,d,e,f,g,h,i,j,k,zs,zt,zu,zv,zw,zx,zy,zz,zA,(B:I hz),Ho,Hp,(B:I ai)⟩,(B:I ai),(B:I bI),(B:I aw)⟩
def Vt(a:Int)(b:aq):aq:=df b (A.at' a.toNat)
def uS(A:I aK):Nat->Int->aq->kr
 |0,_,_=>default
 |k+1,a,b=>cond (decide (a<A.n)) (uS A k (i64 (a+1)) (Vt A a b)) (aaF b)
def dC:kr:=uS A (toNat ((A.n:Int)- (0:Int))+1) (0:Int) uR
def Vu(A:I aK):Nat->Int->I bI->I bI
 |0,_,_=>default
 |k+1,a,b=>cond (decide (a<(((cN (dC A)).told.n:Nat):Int))) (Vu A k (i64 (a+1)) (I.app b (I.lit ([(cN (dC A)).told.at' a.toNat]:List bI)))) b
def aga:I bI:=Vu A (toNat ((((cN (dC A)).told.n:Nat):Int)-0)+1) 0 (B:I bI)
def Hb:I ky:=cond (decide ((A.n:Int)>3000)) (B:I ky) (cond (nL A) (I.app (I.app (I.lit ([(⟨((cN (dC A)).h 0).up,((cN (dC A)).h 0).D,(((cN (dC A)).h 0).ro==3),((cN (dC A)).h 0).co,((cN (dC A)).h 0).e,((cN (dC A)).h 0).lt,((cN (dC A)).h 0).li,Hw ((cN (dC A)).h 0).fL,Hy ((cN (dC A)).h 0).dx,Hz ((cN (dC A)).h 0).fx,HA ((cN (dC A)).h 0).eN⟩:ky)]:List ky)) (I.lit ([(⟨((cN (dC A)).h 1).up,((cN (dC A)).h 1).D,(((cN (dC A)).h 1).ro==3),((cN (dC A)).h 1).co,((cN (dC A)).h 1).e,((cN (dC A)).h 1).lt,((cN (dC A)).h 1).li,Hw ((cN (dC A)).h 1).fL,Hy ((cN (dC A)).h 1).dx,Hz ((cN (dC A)).h 1).fx,HA ((cN (dC A)).h 1).eN⟩:ky)]:List ky))) (I.lit ([(⟨((cN (dC A)).h 2).up,((cN (dC A)).h 2).D,(((cN (dC A)).h 2).ro==3),((cN (dC A)).h 2).co,((cN (dC A)).h 2).e,((cN (dC A)).h 2).lt,((cN (dC A)).h 2).li,Hw ((cN (dC A)).h 2).fL,Hy ((cN (dC A)).h 2).dx,Hz ((cN (dC A)).h 2).fx,HA ((cN (dC A)).h 2).eN⟩:ky)]:List ky))) (uT A).2.1)
def af9:I bI:=cond (decide ((A.n:Int)>3000)) (B:I bI) (cond (nL A) (aga A) (uT A).2.2.1)
def Hc:I aw:=cond (decide ((A.n:Int)>3000)) (B:I aw) (cond (nL A) (I.cut (hR (cN (dC A)).aU) (cN (dC A)).aU.n) (uT A).2.2.2.1)
def af_:Int:=cond (decide ((A.n:Int)>3000)) 0 (cond (nL A) (((cN (dC A)).s.n:Nat):Int) (uT A).2.2.2.2.1)
def MA:Int:=cond (decide ((A.n:Int)>3000)) 1 (cond (nL A) 0 (uT A).2.2.2.2.2)
def acS(A:I aK)(i:A.n<=3000): ∀(m a:Nat) (v:Int),0<=v->v+(m:Int)=(A.n:Int)->m<=a->(w6 A (a+1) v).1=false-> ∀q:Nat,v<=(q:Int)->q<A.n->fO (A.at' q)
 |0,a,v,d,g,f,h,q,j,b=>by omega
 |m+1,a,v,d,g,f,h,q,j,b=>by
  obtain⟨a,rfl⟩: ∃q,a=q+1:=⟨a-1,Ω⟩;rw[w6,bm (show v<(A.n:Int) by omega)]at h;simp only[au]at h
  cases e:(qh (A.at' v.toNat).r (A.at' v.toNat).K (A.at' v.toNat).G (A.at' v.toNat).q (A.at' v.toNat).j (A.at' v.toNat).m (A.at' v.toNat).ak (A.at' v.toNat).aA (A.at' v.toNat).i (A.at' v.toNat).aJ !=0)with
  |true=>rw[e]at h;cases h
  |false=>
   rw[e]at h;simp only[aB]at h;rw[E _]at h
   by_cases c:(q:Int)=v
   .have:q=toNat v:=by omega
    subst this;exact bP e
   .exact acS A i m a (v+1) Ω Ω Ω h q Ω b
def yI{A:I aK}(b:decide ((A.n:Int)>3000)=false)(h:nL A=true):A.n<=3000/\ ∀q,q<A.n->fO (A.at' q):=by
 have a:=hy b;have a:A.n<=3000:=by omega
 refine⟨a,λq c=> ?_⟩;have e:(uT A).1=false:=by
  unfold nL at h
  cases z:(uT A).1 with
  |true=>rw[z]at h;cases h
  |false=>rfl
 exact acS A a A.n _ 0 (bz _) Ω Ω e q Ω c
def Yv(i:Int)(h:0<=i/\i<3):bX ⟨(zr i),true,Hn,zB,(Hq HR),(Hr HS),(Hs zS),(Ht zT),(Hu zQ),(Hv zR),(Hd HT),(He xp),(Hf xq),(Hg xr),(Hh xt),(Hi xp),(Hj xq),(Hk xr),(Hl xt),(Hm zR),zs,zt,zu,zv,zw,zx,zy,zz,zA,(B:I hz),Ho,Hp,(B:I ai)⟩:=by
 have z:(0:Int)<=0/\(0:Int)<=1048577:=by decide
 have a:(0:Int)<=0/\(0:Int)<=1048576:=by decide
 exact⟨⟨h,bz _,bz _,a.2,cd _,(by decide:(0:Int)+((0:Nat):Int)<=1048576),cd _,⟨z,z,z⟩,nk,JU,a,⟨a,a,a⟩⟩,⟨cd _,λj b=>absurd b (dJ j)⟩⟩
def arI:fz 0 uR:=by
 have a:=Yv 0 Δ;have b:=Yv 1 Δ;have c:=Yv 2 Δ;refine yN (λi=> ?_) (λi=> ?_) YP (bH _) (bH _)
 .match i with
  |0=>exact a
  |1=>exact b
  |i+2=>exact c
 .match i with
  |0=>exact bH _
  |1=>exact bH _
  |i+2=>exact bH _
def ak3{A:I aK} :nx A (0:Int) uR:=⟨⟨bz _,Ω⟩,arI⟩
def aFp{A:I aK}{v:Int}{X:aq}(a:decide ((A.n:Int)>3000)=false)(b:nL A=true)(h:nx A v X)(c:decide (v<A.n)=true):nx A (i64 (v+1)) (Vt A v X):=ak4 (yI a b).1 (yI a b).2 h (al c)
def aFj{A:I aK}{v:Int}{X:aq}(a:decide ((A.n:Int)>3000)=false)(b:nL A=true)(h:nx A v X)(c:decide (v<A.n)=true):fA X (A.at' v.toNat):=aFi (yI a b).1 (yI a b).2 h (al c)
def ak5{A:I aK}(c:A.n<=3000)(b: ∀q,q<A.n->fO (A.at' q)): ∀(m a:Nat) (v:Int) (X:aq),v+(m:Int)=(A.n:Int)->m<=a->nx A v X->nx A (A.n:Int) (cN (uS A (a+1) v X))
 |0,a,v,X,g,f,h=>by
  have e:=P4 h;rw[uS,a8 (show¬v<(A.n:Int) by omega),aB,KX,show(A.n:Int)=v by omega];exact h
 |m+1,a,v,X,g,f,h=>by
  obtain⟨a,rfl⟩: ∃q,a=q+1:=⟨a-1,Ω⟩;have e:=P4 h;have d:=ak4 c b h Ω;rw[uS,bm (show v<(A.n:Int) by omega),au];rw[E _]at d |-;exact ak5 c b m a (v+1) _ Ω Ω d
def ac2{A:I aK}(a:decide ((A.n:Int)>3000)=false)(b:nL A=true):fz A.n (cN (dC A)):=by
 have h:=(ak5 (yI a b).1 (yI a b).2 A.n (toNat ((A.n:Int)- (0:Int))) 0 uR Ω Ω ak3).2;rw[show toNat (A.n:Int)=A.n by omega]at h;exact h
def ZU{A:I aK}(a:decide ((A.n:Int)>3000)=false)(b:nL A=true):(cN (dC A)).told.n<=540003000000/\(cN (dC A)).aU.n<=900000/\(cN (dC A)).s.n<=300:=by
 have h:=ac2 a b;have d:=(yI a b).1;have e:=h.tG;have c:=h.fK;exact⟨Ω,Ω,h.lF⟩
def aoY:bt:=⟨[.v (.ab gY)],λA=>⟨⟨none,.du [.agg [aV 11 Le (Hb A),aV 12 Lc (af9 A),aV 2 Ld (Hc A),c (af_ A)],c (MA A)]⟩⟩⟩
def YU(A:I aK):Prop:=(decide ((A.n:Int)>3000)=false->((0<=(0:Int)/\(0:Int)<=(A.n:Int))/\∀(aI:Int),0<=aI/\aI<=A.n->(decide (aI<A.n)=true->(0:Int)<=aI/\aI<A.n)/\(decide (aI<A.n)=true->(qh (A.at' aI.toNat).r (A.at' aI.toNat).K (A.at' aI.toNat).G (A.at' aI.toNat).q (A.at' aI.toNat).j (A.at' aI.toNat).m (A.at' aI.toNat).ak (A.at' aI.toNat).aA (A.at' aI.toNat).i (A.at' aI.toNat).aJ !=0)=false->(0<=i64 (aI+1)/\i64 (aI+1)<=(A.n:Int))/\toNat ((A.n:Int)- (i64 (aI+1)))<toNat ((A.n:Int)-aI)))/\(nL A=true->(nx A (0:Int) uR/\(BK (aG.int .i64::cn) λ(b:Int×kr)=>nx A b.1 (cN b.2)->(decide (b.1<(A.n:Int))=true->((0:Int)<=b.1/\b.1<(A.n:Int))/\fA (cN b.2) (A.at' (toNat b.1)))/\(decide (b.1<(A.n:Int))=true->nx A (i64 (b.1+1)) (Vt A b.1 (cN b.2))/\toNat ((A.n:Int)- (i64 (b.1+1)))<toNat ((A.n:Int)-b.1))))/\(((0<=(0:Int)/\(0:Int)<=(((cN (dC A)).told.n:Nat):Int))/\(0:Int)<=0+((0:Int)-0))/\∀(a:Int) (c:I bI),(0<=a/\a<=(((cN (dC A)).told.n:Nat):Int))/\(c.n:Int)<=0+(a-0)->(decide (a<(((cN (dC A)).told.n:Nat):Int))=true->(((0:Int)<=a/\a<(((cN (dC A)).told.n:Nat):Int))/\toNat a<(cN (dC A)).told.n)/\c.n+1<=549755813888)/\(decide (a<(((cN (dC A)).told.n:Nat):Int))=true->((0<=i64 (a+1)/\i64 (a+1)<=(((cN (dC A)).told.n:Nat):Int))/\(((c.n+1):Nat):Int)<=0+(i64 (a+1)-0))/\toNat ((((cN (dC A)).told.n:Nat):Int)- (i64 (a+1)))<toNat ((((cN (dC A)).told.n:Nat):Int)-a))/\(decide (a<(((cN (dC A)).told.n:Nat):Int))=false->(c.n:Int)<=0+max ((((cN (dC A)).told.n:Nat):Int)-0) 0))/\(((aga A).n:Int)<=0+max ((((cN (dC A)).told.n:Nat):Int)-0) 0->(cN (dC A)).aU.n<=900000/\1<=549755813888/\1+1<=549755813888/\(1+1)+1<=549755813888)))
def aC8(A:I aK)(s:A.n<=549755813888):YU A:=by
 unfold YU;exact(λk=>⟨⟨Ω,(λaI q=>⟨(λd=>(by have:=al d;omega)),(λe=>(λm=>(by have:=al e;have:=E (aI+1);omega)))⟩)⟩,(λn=>⟨⟨(by apply ak3),((Fv _ _).2 λ(i:Int×kr) r=>⟨(λf=>⟨(by have:=al f;(try have h:=P4 Ψ);omega),by repeat first|assumption|apply aFj⟩),(λg=>⟨by repeat first|assumption|apply aFp,(by have:=al g;(try have h:=P4 Ψ);have:=E (i.1+1);omega)⟩)⟩)⟩,⟨⟨Ω,(λj t p=>⟨(λa=>⟨⟨(by have:=al a;omega),(by have:=al a;omega)⟩,(by(try have b:=ZU Ψ Ψ);omega)⟩),⟨(λc=>(by have:=al c;(try have b:=ZU Ψ Ψ);have:=E (j+1);omega)),(λl=>Ω)⟩⟩)⟩,(λo=>⟨(by(try have b:=ZU Ψ Ψ);omega),⟨Ω,⟨Ω,Ω⟩⟩⟩)⟩⟩)⟩)
def abo:c2:=⟨.pure,[.cell 2 27,.tmp 3],[(.c 0 0,.ab QY),(.c 0 1,.ab kT),(.c 0 2,.ab c3),(.c 0 3,a),(.t 1,a)],⟨[.agg (us 4 []),U],[]⟩⟩
def avj:cz abo.ck:=let c:=cN (dC A);(.ae (.ae (.j ⟨13,[],[],[],.f⟩ (.ae (.c6 ⟨14680077,[],[],[(.t 23,a)],some 0,true,13,[],[],λk (s:Int)=>w6 A k s,.f,λ(s:Int)=>0<=s/\s<=A.n,λ(s:Int)=>toNat ((A.n:Int)-s),none⟩ .z)) (.ae (.s (.ae (.un 3 (.s (.ae (.s (.c true .z) .z)) (.s (.ae (.s (.c true .z) .z)) (.s (.ae (.s (.c true .z) .z)) (.ae (.s (.c false .z) .z))))))) (.j ⟨140,[],[],[],.f⟩ (.ae (.vC ⟨126100789566374028,[],[(.h 1 29,dF),(.h 1 32,cR),(.h 1 62,dF),(.h 1 65,cR),(.h 1 95,dF),(.h 1 98,cR),(.h 1 99,cR),(.h 1 100,kT),(.h 1 101,c3)],(.t 56,a)::ac3 [2,3,4,5,6,7,8,9,10],some 4,false,140,[],ac3 [2,3,4,5,6,7,8,9,10],λk (b:Int×kr)=>uS A k b.1 (cN b.2),.f,λ(b:Int×kr)=>nx A b.1 (cN b.2),λ(b:Int×kr)=>toNat ((A.n:Int)-b.1),none⟩ (λ(b:Int×kr)=>.ae (.ae (.ae (.mW [] [.own (.h 1 29) dF 2,.own (.h 1 62) dF 4,.own (.h 1 95) dF 6,.own (.h 1 32) cR 3,.own (.h 1 65) cR 5,.own (.h 1 98) cR 7,.own (.h 1 99) cR 8])))))) (.ae (.j ⟨2188,[],[],[],.f⟩ (.ae (.c6 ⟨1057810092162800527870092,[],[(.h 11 1,kT)],[(.t 79,a),(.h 12 0,.ad kT)],some 6,false,2188,[],[(.h 12 0,.ad kT)],λk (s:Int×I bI)=>Vu A k s.1 s.2,.f,λ(s:Int×I bI)=>(0<=s.1/\s.1<=(c.told.n:Int))/\(s.2.n:Int)<=0+(s.1-0),λ(s:Int×I bI)=>toNat ((c.told.n:Int)-s.1),some λ(r:I bI)=>(r.n:Int)<=0+max ((c.told.n:Int)-0) 0⟩ .z)) (.ae (.s (.ae (.un 3 (.s (.ae (.s (.c true .z) .z)) (.s (.ae (.s (.c true .z) .z)) (.s (.ae (.s (.c true .z) .z)) (.ae (.s (.c false .z) .z))))))) .z))))))))))
def azV:bE 13 aoY:=bG Tryz.func13
 λA a _=>bJ abo (avj A) (YU A) (bZ 0 (aR aiB (aR aAn (aR DZ (aR D2 (aR aiq (aR azY ba)))))) (az azX (az azW bY))) Tryz.func13 (aC8 A a)
end
section
variable(A g u o:Int)(v:z)(d y:Int)(F:z)
def VU:Int:=cond (decide (A<0)) (i64 (0- (i64 (A+1)))) A
def cS:Int:=(VU A).tmod g
def apf:bt:=⟨[.v a,.v a],λ(A g:Int)=>⟨⟨some (0<g),c (cS A g)⟩⟩⟩
def XL:bE 37 apf:=bG Tryz.func37
 λ(A g:Int) b=>bJ ⟨.pure,[.tmp 4],[(.t 0,a)],⟨[U],[]⟩⟩ (.ae (.j ⟨19,[],[(.t 0,a)],[],.f⟩ .z .z)) ((g:Int)≠0) gb Tryz.func37 Ω
def bO:Int:=cS A g
def apd:bt:=⟨[.v a,.v a],λ(A g:Int)=>⟨⟨some (0<g),c (bO A g)⟩⟩⟩
def aiC:bE 25 apd:=bG Tryz.func25
 λ(A g:Int) b=>bJ ⟨.pure,[.tmp 4],[(.t 0,a)],⟨[U],[]⟩⟩ .z (0<g) (cK (aR XL ba)) Tryz.func25 Ω
def lZ:z:=I.toStr (I.lit ([u8 (i64 (97+cS A 9))]:List Int))
def api:bt:=⟨[.v a],λA=>⟨⟨none,.str (lZ A)⟩⟩⟩
def aAj:bE 65 api:=bG Tryz.func65
 λ(A:Int)=>bJ ⟨.pure,[.tmp 2],[(.t 0,ar)],⟨[U],[]⟩⟩ .z (0<(9:Int)) (cK (aR XL ba)) Tryz.func65 Ω
def Nh(A:z)(g:Int):z:=(A:z).extract (toNat 0) (toNat (gj ((A:z).size:Int) g))
def apj:bt:=⟨[.v ar,.v a],λA (g:Int)=>⟨⟨some (0<=g),.str (Nh A g)⟩⟩⟩
def aAk:bE 66 apj:=bG Tryz.func66
 λA c (g:Int) b=>bJ ⟨.pure,[.tmp 4],[(.t 0,ar)],⟨[U],[]⟩⟩ .z (let a:=gj ((A:z).size:Int) g;((0:Int)<=0)/\(0:Int)<=a/\(a:Int)<=((A:z).size:Int)) gb Tryz.func66 (have:=qm ((A:z).size:Int) g;Ω)
def DA:z:=cond (cS o 3==0) (lZ o) (Nh v 6)
def u1:Bool:=cond (i64 (1+cS A 22)==1) (i64 (1+cS A 22)==1) (cond (i64 (1+cS A 22)==7) (i64 (1+cS A 22)==7) (cond (i64 (1+cS A 22)==8) (i64 (1+cS A 22)==8) (cond (i64 (1+cS A 22)==11) (i64 (1+cS A 22)==11) (cond (i64 (1+cS A 22)==12) (i64 (1+cS A 22)==12) (cond (i64 (1+cS A 22)==13) (i64 (1+cS A 22)==13) (cond (i64 (1+cS A 22)==15) (i64 (1+cS A 22)==15) (i64 (1+cS A 22)==16)))))))
def zU:Bool:=cond (i64 (1+cS A 22)==5) (i64 (1+cS A 22)==5) (i64 (1+cS A 22)==6)
def agx:z:=cond (u1 A) (lZ g) (cond (i64 (1+cS A 22)==3) (lZ g) (cond (i64 (1+cS A 22)==20) (lZ g) (cond (i64 (1+cS A 22)==4) (lZ g) (cond (zU A) (lZ g) (cond (i64 (1+cS A 22)==14) (lZ g) (cond (i64 (1+cS A 22)==22) ε (lZ g)))))))
def agy:z:=cond (u1 A) ε (cond (i64 (1+cS A 22)==3) ε (cond (i64 (1+cS A 22)==20) ε (cond (i64 (1+cS A 22)==4) (lZ u) (cond (zU A) (lZ u) ε))))
def agz:z:=cond (u1 A) (DA o v) (cond (i64 (1+cS A 22)==3) ε (cond (i64 (1+cS A 22)==20) ε (cond (i64 (1+cS A 22)==4) (DA o v) (cond (zU A) ε (cond (i64 (1+cS A 22)==14) (DA o v) ε)))))
def agA:Int:=cond (u1 A) 0 (cond (i64 (1+cS A 22)==3) (o.tmod 1073741824) (cond (i64 (1+cS A 22)==20) (cS o 60) (cond (i64 (1+cS A 22)==4) 0 (cond (zU A) 0 (cond (i64 (1+cS A 22)==14) (i64 (cS o 12-6)) 0)))))
def M_:Int:=i64 (1+cS A 22)
def Na:z:=agx A g
def Nb:z:=agy A u
def Nc:z:=agz A o v
def Nd:Int:=agA A o
def aph:bt:=⟨[.g [a,a,a,a,ar]],λA g u o v=>⟨⟨none,.agg [c (M_ A),.str (Na A g),.str (Nb A u),.str (Nc A o v),c (Nd A o)]⟩⟩⟩
def aAi:bE 38 aph:=bG Tryz.func38
 λ(A g u o:Int) v m=>bJ ⟨.pure,[.cell 2 49],[(.c 0 0,a),(.c 0 1,ar),(.c 0 2,ar),(.c 0 3,ar),(.c 0 4,a)],⟨[.agg (us 5 [])],[]⟩⟩ (.ae (.ae (.ae (.j ⟨30,[],[(.t 4,ar)],[],.f⟩ .z (.j ⟨12,[.b 0],[(.h 2 1,ar),(.h 2 2,ar),(.h 2 3,ar),(.h 2 4,a)],[.f,.b .f (.b .f (.b .f (.b .f (.b .f .l)))),.b .f (.b .f (.b .f (.b .f (.b .f (.b .f .l))))),.b .f (.b .f (.b .f (.b .f (.b .f (.b .f .l)))))],.f⟩ (.ae (.j ⟨50331678,[],[(.t 25,l)],[],.f⟩ .z (.ae (.ae (.ae (.ae (.ae (.ae (.ae (.j ⟨72057594054705182,[],[(.t 56,l)],[],.f⟩ .z .z)))))))))) .z))))) (let b:=i64 (1+cS A 22);(0<(22:Int))/\0<=(6:Int)/\0<(3:Int)/\(u1 A=false->((b==3)=true->(1073741824:Int)≠0)/\((b==3)=false->((b==20)=true->0<(60:Int))/\((b==20)=false->(b==4)=false->zU A=false->(b==14)=true->0<(12:Int))))) (cK (aR XL (aR aAj (aR aAk ba)))) Tryz.func38 (⟨Ω,⟨Ω,⟨Ω,λc=>⟨λe=>by have:=c;simp [u1]at this;have:=eq_of_beq e;omega,λd=>⟨λf=>by have:=c;simp [u1]at this;have:=dk d;have:=eq_of_beq f;omega,λh i j k=>by have:=c;simp [u1]at this;have:=dk d;have:=dk h;have:=dk i;have:=j;simp [zU]at this;have:=eq_of_beq k;omega⟩⟩⟩⟩⟩)
def M3:Int:=cond (bO u 4==0) 0 (bO u 4)
def M4:Int:=cond (bO u 4==0) 0 (i64 (1+bO g 4))
def M5:Int:=cond (bO u 4==0) 0 (M_ o)
def M6(v:Int):z:=cond (bO u 4==0) ε (Na o v)
def M7:z:=cond (bO u 4==0) ε (Nb o d)
def M8:z:=cond (bO u 4==0) ε (Nc o y F)
def M9:Int:=cond (bO u 4==0) 0 (Nd o y)
def apg:bt:=⟨[.g [a,a,a,a,a,a,a,ar]],λ_ g u o v d y F=>⟨⟨none,.agg [c (M3 u),c (M4 g u),c (M5 u o),.str (M6 u o v),.str (M7 u o d),.str (M8 u o y F),c (M9 u o y)]⟩⟩⟩
def aAh:bE 26 apg:=bG Tryz.func26
 λ(A g u o v d y:Int) F c=>bJ ⟨.pure,[.cell 2 51],[(.c 0 0,a),(.c 0 1,a),(.c 0 2,a),(.c 0 3,ar),(.c 0 4,ar),(.c 0 5,ar),(.c 0 6,a)],⟨[.agg (us 7 [])],[]⟩⟩ .z (0<(4:Int)/\((bO u 4==0)=false->0<(4:Int))) (cK (aR aiC (aR aAi ba))) Tryz.func26 (⟨Ω,λb=>Ω⟩)
def lY:Bool:=cond (bO A 20==0) (bO A 20==0) (cond (bO A 20==1) (bO A 20==1) (bO A 20==2))
def sS:Bool:=cond (bO A 20==3) (bO A 20==3) (bO A 20==4)
def sT:Bool:=cond (bO A 20==5) (bO A 20==5) (cond (bO A 20==6) (bO A 20==6) (bO A 20==7))
def sU:Bool:=cond (bO A 20==8) (bO A 20==8) (cond (bO A 20==9) (bO A 20==9) (cond (bO A 20==10) (bO A 20==10) (bO A 20==11)))
def MR:Int:=cond (lY A) 1 (cond (sS A) 2 (cond (sT A) 3 (cond (sU A) 4 (cond (bO A 20==12) 6 (cond (bO A 20==13) 7 (cond (bO A 20==14) 8 (cond (bO A 20==15) 9 (cond (bO A 20==16) 10 (cond (bO A 20==17) 11 (cond (bO A 20==18) 5 12))))))))))
def MS:Int:=cond (lY A) (bO g 3) (cond (sS A) (bO g 3) (cond (sT A) (bO g 3) (cond (sU A) (bO g 3) (cond (bO A 20==12) 0 (cond (bO A 20==13) 0 (cond (bO A 20==14) 0 (cond (bO A 20==15) (bO g 3) (cond (bO A 20==16) (bO g 3) (cond (bO A 20==17) (bO g 3) (cond (bO A 20==18) (bO g 3) 0))))))))))
def MT:Int:=cond (lY A) 0 (cond (sS A) 0 (cond (sT A) 0 (cond (sU A) 0 (cond (bO A 20==12) (bO u 300) (cond (bO A 20==13) (bO u 300) (cond (bO A 20==14) (bO u 300) (cond (bO A 20==15) (bO u 500) (cond (bO A 20==16) 0 (cond (bO A 20==17) 0 (cond (bO A 20==18) (bO u 40) 0))))))))))
def MU:Int:=cond (lY A) (M3 u) 0
def MV:Int:=cond (lY A) (M4 g u) 0
def MW:Int:=cond (lY A) (M5 u o) 0
def MX(v:Int):z:=cond (lY A) (M6 u o v) ε
def MY:z:=cond (lY A) (M7 u o d) ε
def MZ:z:=cond (lY A) (M8 u o y F) ε
def M0:Int:=cond (lY A) (M9 u o y) 0
def ape:bt:=⟨[.g [a,a,a,a,a,a,a,ar]],λA g u o v d y F=>⟨⟨none,.agg [c (MR A),c (MS A g),c (MT A u),c (MU A u),c (MV A g u),c (MW A u o),.str (MX A u o v),.str (MY A u o d),.str (MZ A u o y F),c (M0 A u o y)]⟩⟩⟩
def aAg:bE 14 ape:=bG Tryz.func14
 λ(A g u o v d y:Int) F x=>bJ (ms:=[.f,.f,.f,.b .f .l,.b .f .l,.b .f .l,.b .f .l,.b .f .l,.b .f .l,.b .f .l]) ⟨.pure,[.cell 2 53],[(.c 0 0,a),(.c 0 1,a),(.c 0 2,a),(.c 0 3,a),(.c 0 4,a),(.c 0 5,a),(.c 0 6,ar),(.c 0 7,ar),(.c 0 8,ar),(.c 0 9,a)],⟨[.agg (us 10 [])],[]⟩⟩ (.ae (.ae (.s (.ae (.j ⟨1550,[],[(.t 10,l)],[],.f⟩ .z (.ae (.j ⟨262670,[],[(.t 18,l)],[],.f⟩ .z (.ae (.j ⟨8389134,[],[(.t 23,l)],[],.f⟩ .z (.ae (.j ⟨536871438,[],[(.t 29,l)],[],.f⟩ .z .z)))))))) .z))) (let b:=bO A 20;(0<(3:Int))/\0<(20:Int)/\(lY A=false->sS A=false->sT A=false->sU A=false->((b==12)=true->0<(300:Int))/\((b==12)=false->((b==13)=true->0<(300:Int))/\((b==13)=false->((b==14)=true->0<(300:Int))/\((b==14)=false->((b==15)=true->0<(500:Int))/\((b==15)=false->(b==16)=false->(b==17)=false->(b==18)=true->0<(40:Int))))))) (cK (aR aiC (aR aAh ba))) Tryz.func14 (⟨Ω,⟨Ω,λc e f h=>⟨λs=>by have:=c;simp [lY]at this;have:=e;simp [sS]at this;have:=f;simp [sT]at this;have:=h;simp [sU]at this;have:=eq_of_beq s;omega,λi=>⟨λt=>by have:=c;simp [lY]at this;have:=e;simp [sS]at this;have:=f;simp [sT]at this;have:=h;simp [sU]at this;have:=dk i;have:=eq_of_beq t;omega,λj=>⟨λw=>by have:=c;simp [lY]at this;have:=e;simp [sS]at this;have:=f;simp [sT]at this;have:=h;simp [sU]at this;have:=dk i;have:=dk j;have:=eq_of_beq w;omega,λk=>⟨λm=>by have:=c;simp [lY]at this;have:=e;simp [sS]at this;have:=f;simp [sT]at this;have:=h;simp [sU]at this;have:=dk i;have:=dk j;have:=dk k;have:=eq_of_beq m;omega,λn p q r=>by have:=c;simp [lY]at this;have:=e;simp [sS]at this;have:=f;simp [sT]at this;have:=h;simp [sU]at this;have:=dk i;have:=dk j;have:=dk k;have:=dk n;have:=dk p;have:=dk q;have:=eq_of_beq r;omega⟩⟩⟩⟩⟩⟩)
def nP(A:I h6)(g b:Int):Bool:=cond (decide (b<A.n)) (decide (b<g)) false
def qf(A:I h6)(g:Int):Nat->Int->I aK->I aK
 |0,_,_=>default
 |k+1,b,f=>cond (nP A g b) (qf A g k (i64 (b+1)) (I.app f (I.lit ([(⟨MR (A.at' b.toNat).r,MS (A.at' b.toNat).r (A.at' b.toNat).K,MT (A.at' b.toNat).r (A.at' b.toNat).G,MU (A.at' b.toNat).r (A.at' b.toNat).G,MV (A.at' b.toNat).r (A.at' b.toNat).K (A.at' b.toNat).G,MW (A.at' b.toNat).r (A.at' b.toNat).G (A.at' b.toNat).q,MX (A.at' b.toNat).r (A.at' b.toNat).G (A.at' b.toNat).q (A.at' b.toNat).j,MY (A.at' b.toNat).r (A.at' b.toNat).G (A.at' b.toNat).q (A.at' b.toNat).m,MZ (A.at' b.toNat).r (A.at' b.toNat).G (A.at' b.toNat).q (A.at' b.toNat).ak (A.at' b.toNat).aA,M0 (A.at' b.toNat).r (A.at' b.toNat).G (A.at' b.toNat).q (A.at' b.toNat).ak⟩:aK)]:List aK)))) f
def auR(A:I h6)(g:Int):I aK:=qf A g (toNat ((A.n:Int)-0)+1) 0 (B:I aK)
def ee(A:I h6)(g:Int):I aK:=auR A g
def apb:bt:=⟨[.v (.ab QZ),.v a],λA g=>⟨⟨none,(aG.ad gY).av (ee A g)⟩⟩⟩
def aAe:bE 7 apb:=bG Tryz.func7
 λA i _ (g:Int)=>bJ ⟨.own gY,[.tmp 4],[(.h 0 0,.ad gY)],⟨[],[]⟩⟩ (.ae (.ae (.j ⟨48,[],[],[],.f⟩ (.ae (.c6 ⟨115,[],[(.t 5,gY)],[(.t 6,a),(.h 0 0,.ad gY)],some 0,false,48,[],[(.h 0 0,.ad gY)],λk (s:Int×I aK)=>qf A g k s.1 s.2,.f,λ(s:Int×I aK)=>0<=s.1/\s.1<=(A.n:Int)/\(s.2.n:Int)=s.1,λ(s:Int×I aK)=>toNat ((A.n:Int)-s.1),none⟩ (.s (.j ⟨73587,[],[(.t 12,l),(.t 16,l)],[],.f⟩ .z .z) .z))) .z))) ((0<=(0:Int)/\(0:Int)<=(A.n:Int)/\(0:Int)=(0:Int))/\∀(b:Int) (f:I aK),let c:=i64 (b+1);(0<=b/\b<=A.n/\(f.n:Int)=b)->(nP A g b=true->((0:Int)<=b/\b<A.n)/\f.n+1<=549755813888)/\(nP A g b=true->(0<=c/\c<=A.n/\(((f.n+1):Nat):Int)=c)/\toNat ((A.n:Int)-c)<toNat ((A.n:Int)-b))) (cK (aR aAg ba)) Tryz.func7 (⟨Ω,(λb f h=>⟨λd=>⟨by have:=d;(try simp [nP]at this);omega,by have:=d;(try simp [nP]at this);omega⟩,(λe=>by have:=e;(try simp [nP]at this);first|omega|(have:=E (b+1);omega))⟩)⟩)
def ajT(A:I h6)(g:Int)(b:0<=g/\g<=3000): ∀(k:Nat) (v:Int) (s:I aK),0<=v->(s.n:Int)=v->v<=g->((qf A g k v s).n:Int)<=g
 |0,_,_,_,_,_=>by
  rw[qf];exact b.1
 |k+1,v,s,d,f,h=>by
  rw[qf]
  cases e:nP A g v
  .rw[aB];omega
  .rw[au,E _];have c:v<g:=by
    unfold nP at e
    cases a:decide (v<A.n)with
    |false=>rw[a]at e;cases e
    |true=>rw[a]at e;exact al e
   refine ajT A g b k (v+1) _ Ω ?_ Ω;show(((s.n+1:Nat)):Int)=v+1;omega
def tq(A:I h6)(g:Int):((ee A g).n:Int)<=g\/g<0\/3000<g:=by
 by_cases a:0<=g/\g<=3000
 .exact .inl (ajT A g a _ 0 B (bz _) rfl a.1)
 .omega
def hT(A g:I aK):I aK:=I.app A g
def apa:bt:=⟨[.v (.ab gY),.v (.ab gY)],λA g=>⟨⟨some ((A.n:Int)+g.n<=549755813888),(aG.ad gY).av (hT A g)⟩⟩⟩
def aAd:bE 6 apa:=bG Tryz.func6
 λA b _ g c _ a=>bJ ⟨.own gY,[.tmp 4],[(.h 0 0,.ad gY)],⟨[],[]⟩⟩ .z (A.n<=549755813888/\A.n+g.n<=549755813888) gb Tryz.func6 (⟨Ω,Ω⟩)
def vE(A g:I aK):(hT A g).n=A.n+g.n:=rfl
def agw(A:I aK):Bool:=cond (MA A==0) (((Hb A).n:Int)==3) false
def rp(A:I aK):I ky:=Hb A
def auP(A:I aK):I bI:=af9 A
def eg(A:I aK):I aw:=Hc A
def auQ(A:I aK):Int:=af_ A
def MQ(A:I aK):Bool:=agw A
def ao_:bt:=⟨[.v (.ab gY)],λA=>⟨⟨none,.du [.agg [aV 11 Le (rp A),aV 12 Lc (auP A),aV 2 Ld (eg A),c (auQ A)],.bool (MQ A)]⟩⟩⟩
def aAc:bE 5 ao_:=bG Tryz.func5
 λA _ _=>bJ ⟨.pure,[.cell 2 27,.tmp 3],[(.c 0 0,.ab QY),(.c 0 1,.ab kT),(.c 0 2,.ab c3),(.c 0 3,a),(.t 1,l)],⟨[.agg (us 4 []),U],[]⟩⟩ (.ae (.ae (.j ⟨12,[.b 1],[(.t 3,l)],[],.f⟩ .z .z))) True (cK (aR azV ba)) Tryz.func5 trivial
end
def aa4{α:Type}{s:I α}{i:Nat}(h:i<s.n):s.B.drop i=s.at' i::s.B.drop (i+1):=by
 rw[r8 (by rw[bj];exact h)]
 congr 1
 simp [I.B]
def je(l:List aK):aq:=l.foldl df uR
def ak7{A:I aK}(d:A.n<=549755813888): ∀(m a v:Nat) (X:aq),v+m=A.n->m<=a->cN (uS A (a+1) (v:Int) X)=(A.B.drop v).foldl df X
 |0,a,v,X,c,b=>by
  rw[uS,a8 (show¬(v:Int)<(A.n:Int) by omega),aB,KX,List.drop_eq_nil_of_le (by rw[bj];omega)];rfl
 |m+1,a,v,X,c,b=>by
  obtain⟨a,rfl⟩: ∃q,a=q+1:=⟨a-1,Ω⟩;rw[uS,bm (show(v:Int)<(A.n:Int) by omega),au,E _,aa4 Ω,Bq];exact ak7 d m a (v+1) _ Ω Ω
def ZX{A:I aK}(a:A.n<=549755813888):cN (dC A)=je A.B:=by
 have h:=ak7 a A.n (toNat ((A.n:Int)- (0:Int))) 0 uR Ω Ω;rw[List.drop_zero]at h;exact h
def aj5{A:I aK}(g:A.n<=3000)(b: ∀q,q<A.n->fO (A.at' q)): ∀(m a:Nat) (v:Int),0<=v->v+(m:Int)=(A.n:Int)->m<=a->(w6 A (a+1) v).1=false
 |0,a,v,c,f,d=>by
  rw[w6,a8 (show¬v<(A.n:Int) by omega)];rfl
 |m+1,a,v,c,f,d=>by
  obtain⟨a,rfl⟩: ∃q,a=q+1:=⟨a-1,Ω⟩;have e:fO (A.at' v.toNat):=b _ Ω;unfold fO at e;rw[w6,bm (show v<(A.n:Int) by omega),au,e,show((0:Int)!=0)=false from rfl,aB,E _];exact aj5 g b m a (v+1) Ω Ω Ω
def og(A:I aK):Prop:=A.n<=3000/\ ∀q,q<A.n->fO (A.at' q)
def ya{A:I aK}(h:og A):decide ((A.n:Int)>3000)=false/\nL A=true:=by
 have a:=h.1;refine⟨a8 Ω,?_⟩;have e:=aj5 h.1 h.2 A.n (toNat ((A.n:Int)-0)) 0 (bz _) Ω Ω;have e:(uT A).1=false:=e;unfold nL;rw[e];rfl
def aFk{A:I aK}(h:og A):MA A=0:=by
 unfold MA;rw[(ya h).1,(ya h).2];rfl
def yk(n:N):ky:=⟨n.up,n.D,(n.ro==3),n.co,n.e,n.lt,n.li,Hw n.fL,Hy n.dx,Hz n.fx,HA n.eN⟩
def views(C:aq):I ky:=I.app (I.app (I.lit [yk (C.h 0)]) (I.lit [yk (C.h 1)])) (I.lit [yk (C.h 2)])
def ald{A:I aK}(h:og A):Hb A=views (je A.B):=by
 have a:=h.1;unfold Hb;rw[(ya h).1,(ya h).2,ZX Ω];rfl
def KY{A:I aK}(h:og A):fz A.n (je A.B):=by
 have a:=h.1;rw[<-ZX Ω];exact ac2 (ya h).1 (ya h).2
def Tt(l m:List aK):je (l++m)=m.foldl df (je l):=List.foldl_append ..
def vG(C:aq)(D:I ai)(i:Nat):(⟨C.a,C.b,C.c,D,C.told,C.aU⟩:aq).h i=C.h i:=by
 match i with
 |0=>rfl
 |1=>rfl
 |i+2=>rfl
def pC(x:Int):Prop:= -9223372036854775808<=x/\x<=9223372036854775807
def tt{x m:Int}(d:pC x)(b:0<m):0<=cS x m/\cS x m<m:=by
 have a:0<=VU x:=by
  unfold VU;obtain⟨e,f⟩:=d
  by_cases c:x<0
  .rw[bm c,au,E (x+1),E (0- (x+1))];omega
  .rw[a8 c,aB];omega
 exact⟨Int.tmod_nonneg m a,Int.tmod_lt_of_pos _ b⟩
def amx(x:Int):lM (lZ x)=true:=by
 have e:(lZ x).size=1:=rfl;unfold lM Gq;rw[e];rfl
def aHt(x:Int):kf (lZ x)=true:=by
 have e:(lZ x).size=1:=rfl;unfold kf;rw[e];rfl
def aHu(x:z):kf (Nh x 6)=true:=by
 unfold kf Nh;have h:=qm (x.size:Int) 6;have e:(x.extract (toNat 0) (toNat (gj (x.size:Int) 6))).size<=6:=by
  rw[ByteArray.size_extract];omega
 exact bm Ω
def atS:kf ε=true:=rfl
def Pn{x:Int}(h: -1099511627776<=x/\x<=1099511627776):jV x=true:=by
 unfold jV Gs;simp;omega
def ajG{x:Int}(h:1<=x/\x<=1048576):q5 x=true:=by
 unfold q5 L_;simp;omega
def aGx(x:Int): -1099511627776<=x.tmod 1073741824/\x.tmod 1073741824<=1099511627776:=by
 have a:=Int.tmod_lt_of_pos x (show(0:Int)<1073741824 by decide);have b:=Int.lt_tmod_of_pos x (show(0:Int)<1073741824 by decide);omega
def ary{A g u o:Int}{v:z}(d:pC A)(c:pC o):fS (M_ A) (Na A g) (Nb A u) (Nc A o v) (Nd A o)=0:=by
 have k:=tt d (m:=22) Δ;have w:=E (1+cS A 22);unfold M_ Na Nb Nc Nd agx agy agz agA zU u1;rw[w];have b:kf (DA o v)=true:=by
  unfold DA
  cases (cS o 3==0)
  .exact aHu _
  .exact aHt _
 have XO:=tt c (m:=60) Δ;have l:=tt c (m:=12) Δ;have f:=E (cS o 12-6);have aL:=Pn (x:=cS o 60) Ω;have aO:=Pn (x:=cS o 12-6) Ω;have a:=Pn (aGx o);have a0:jV 0=true:=Pn Δ;have cw:=amx g;have a5:=amx u;have ch:=atS;rw[f];revert cw a5 aL aO a b;generalize lZ g=K;generalize lZ u=F;generalize DA o v=T;generalize cS o 60=h;generalize cS o 12-6=i;generalize o.tmod 1073741824=j;intro cw a5 aL aO a b;have e:1+cS A 22=1\/1+cS A 22=2\/1+cS A 22=3\/1+cS A 22=4\/1+cS A 22=5\/1+cS A 22=6\/1+cS A 22=7\/1+cS A 22=8\/1+cS A 22=9\/1+cS A 22=10\/1+cS A 22=11\/1+cS A 22=12\/1+cS A 22=13\/1+cS A 22=14\/1+cS A 22=15\/1+cS A 22=16\/1+cS A 22=17\/1+cS A 22=18\/1+cS A 22=19\/1+cS A 22=20\/1+cS A 22=21\/1+cS A 22=22:=by omega
 revert e;generalize 1+cS A 22=n;intro e;unfold fS sW Nq Nn DB HV zY zX zW zV;rcases e with rfl|rfl|rfl|rfl|rfl|rfl|rfl|rfl|rfl|rfl|rfl|rfl|rfl|rfl|rfl|rfl|rfl|rfl|rfl|rfl|rfl|rfl<;>simp [cw,a5,ch,a0,aL,aO,a,b]
def aq_{g u o v d y:Int}{F:z}(a:pC g)(b:pC u)(e:pC o)(f:pC y):h_ (M3 u) (M4 g u) (M5 u o) (M6 u o v) (M7 u o d) (M8 u o y F) (M9 u o y)=0:=by
 have i:0<=bO u 4/\bO u 4<4:=tt b Δ;have h:0<=bO g 4/\bO g 4<4:=tt a Δ;have w:=E (1+bO g 4);unfold M3 M4 M5 M6 M7 M8 M9;rw[w]
 by_cases c:bO u 4=0
 .rw[show(bO u 4==0)=true by simp [c]];simp [h_]
 .rw[show(bO u 4==0)=false by simp [c]];simp only[aB];unfold h_ HY;rw[show(bO u 4==0)=false by simp [c],ajG (x:=bO u 4) Ω,ajG (x:=1+bO g 4) Ω];exact ary e f
def jD{k n p:Int}(i:2<=k/\k<=12)(c:nH k=true->0<=n/\n<3)(d:nH k=false->n=0)(e:nI k=true->0<=p/\p<=400000)(f:nI k=false->p=0):qh k n p 0 0 0 ε ε ε 0=0:=by
 have g:HZ k=false:=by
  unfold HZ;rw[a8 Ω,a8 Ω];rfl
 have h:DF k n p=false:=by
  unfold DF
  cases a:nH k<;>cases b:nI k<;>simp only[au,aB]
  .have:=e b;rw[a8 Ω,a8 Ω];rfl
  .have:=c a;rw[a8 Ω,a8 Ω];rfl
  .have:=c a;have:=e b;rw[a8 Ω,a8 Ω,a8 Ω,a8 Ω];rfl
 have bo:z1 k n p 0 0 0 ε ε ε 0=false:=by
  unfold z1
  cases a:nH k<;>cases b:nI k<;>simp
  .exact⟨d a,f b⟩
  .exact d a
  .exact f b
 unfold qh;rw[g,h,bo,show(k==1)=false by simp;omega];rfl
def VY{n o v d:Int}{y F p:z}{x:Int}(c:0<=n/\n<3):qh 1 n 0 o v d y F p x=h_ o v d y F p x:=by
 have a:nH 1=true:=rfl;have b:nI 1=false:=rfl;unfold qh HZ DF z1;rw[a,b,a8 (show¬n<0 by omega),a8 (show¬n>=3 by omega)];rfl
def Ks(g:h6):Prop:=pC g.r/\pC g.K/\pC g.G/\pC g.q/\pC g.ak
def KD(g:h6):aK:=⟨MR g.r,MS g.r g.K,MT g.r g.G,MU g.r g.G,MV g.r g.K g.G,MW g.r g.G g.q,MX g.r g.G g.q g.j,MY g.r g.G g.q g.m,MZ g.r g.G g.q g.ak g.aA,M0 g.r g.G g.q g.ak⟩
def aqe{a:h6}(h:Ks a):fO (KD a):=by
 obtain⟨j,i,c,l,m⟩:=h;have q:0<=bO a.r 20/\bO a.r 20<20:=tt j Δ;have b:0<=bO a.K 3/\bO a.K 3<3:=tt i Δ;have r:0<=bO a.G 300/\bO a.G 300<300:=tt c Δ;have s:0<=bO a.G 500/\bO a.G 500<500:=tt c Δ;have t:0<=bO a.G 40/\bO a.G 40<40:=tt c Δ;have f:=aq_ (g:=a.K) (u:=a.G) (o:=a.q) (v:=a.j) (d:=a.m) (y:=a.ak) (F:=a.aA) i c l m;unfold fO KD;unfold MR MS MT MU MV MW MX MY MZ M0 sU sT sS lY;have e:bO a.r 20=0\/bO a.r 20=1\/bO a.r 20=2\/bO a.r 20=3\/bO a.r 20=4\/bO a.r 20=5\/bO a.r 20=6\/bO a.r 20=7\/bO a.r 20=8\/bO a.r 20=9\/bO a.r 20=10\/bO a.r 20=11\/bO a.r 20=12\/bO a.r 20=13\/bO a.r 20=14\/bO a.r 20=15\/bO a.r 20=16\/bO a.r 20=17\/bO a.r 20=18\/bO a.r 20=19:=by omega
 rcases e with e|e|e|e|e|e|e|e|e|e|e|e|e|e|e|e|e|e|e|e<;>simp only[e]
 .exact(VY b).trans f
 .exact(VY b).trans f
 .exact(VY b).trans f
 .exact jD (k:=2) Δ (λ_=>b) (λz=>by cases z) (λz=>by cases z) (λ_=>rfl)
 .exact jD (k:=2) Δ (λ_=>b) (λz=>by cases z) (λz=>by cases z) (λ_=>rfl)
 .exact jD (k:=3) Δ (λ_=>b) (λz=>by cases z) (λz=>by cases z) (λ_=>rfl)
 .exact jD (k:=3) Δ (λ_=>b) (λz=>by cases z) (λz=>by cases z) (λ_=>rfl)
 .exact jD (k:=3) Δ (λ_=>b) (λz=>by cases z) (λz=>by cases z) (λ_=>rfl)
 .exact jD (k:=4) Δ (λ_=>b) (λz=>by cases z) (λz=>by cases z) (λ_=>rfl)
 .exact jD (k:=4) Δ (λ_=>b) (λz=>by cases z) (λz=>by cases z) (λ_=>rfl)
 .exact jD (k:=4) Δ (λ_=>b) (λz=>by cases z) (λz=>by cases z) (λ_=>rfl)
 .exact jD (k:=4) Δ (λ_=>b) (λz=>by cases z) (λz=>by cases z) (λ_=>rfl)
 .exact jD (k:=6) (n:=0) (p:=bO a.G 300) Δ (λz=>by cases z) (λ_=>rfl) (λ_=>by omega) (λz=>by cases z)
 .exact jD (k:=7) (n:=0) (p:=bO a.G 300) Δ (λz=>by cases z) (λ_=>rfl) (λ_=>by omega) (λz=>by cases z)
 .exact jD (k:=8) (n:=0) (p:=bO a.G 300) Δ (λz=>by cases z) (λ_=>rfl) (λ_=>by omega) (λz=>by cases z)
 .exact jD (k:=9) (p:=bO a.G 500) Δ (λ_=>b) (λz=>by cases z) (λ_=>by omega) (λz=>by cases z)
 .exact jD (k:=10) Δ (λ_=>b) (λz=>by cases z) (λz=>by cases z) (λ_=>rfl)
 .exact jD (k:=11) Δ (λ_=>b) (λz=>by cases z) (λz=>by cases z) (λ_=>rfl)
 .exact jD (k:=5) (p:=bO a.G 40) Δ (λ_=>b) (λz=>by cases z) (λ_=>by omega) (λz=>by cases z)
 .exact jD (k:=12) Δ (λz=>by cases z) (λ_=>rfl) (λz=>by cases z) (λ_=>rfl)
def acg{α:Type}[Inhabited α]{P:α->Prop}{s:I α}{x:α}(h: ∀i,i<s.n->P (s.at' i))(b:P x): ∀i,i<(I.app s (I.lit [x])).n->P ((I.app s (I.lit [x])).at' i):=by
 intro j a;show P (cond (Nat.blt j s.n) (s.at' j) (([x]:List α).getD (j-s.n) default))
 cases e:Nat.blt j s.n with
 |true=>exact h j (by rw[jL]at e;exact e)
 |false=>
  have d:j<s.n+1:=a;have: ¬j<s.n:=λhh=>by
   rw[show Nat.blt j s.n=true by rw[jL];exact hh]at e
   cases e
  have c:j-s.n=0:=by omega
  rw[c];exact b
def yw(x:I h6):Prop:=x.n<=549755813888/\ ∀i,i<x.n->Ks (x.at' i)
def ab5{PP:aK->Prop}(f: ∀d,Ks d->PP (KD d)){A:I h6}{g:Int}(h:yw A)(o:0<=g/\g<=3000): ∀(m a:Nat) (v:Int) (s:I aK),0<=v->v+(m:Int)=(A.n:Int)->m<=a->(s.n:Int)=v->v<=g->(∀q,q<s.n->PP (s.at' q))->((qf A g (a+1) v s).n:Int)<=g/\ ∀q,q<(qf A g (a+1) v s).n->PP ((qf A g (a+1) v s).at' q)
 |0,a,v,s,i,k,j,l,n,b=>by
  have e:nP A g v=false:=by
   unfold nP;rw[a8 Ω];rfl
  rw[qf,e,aB];exact⟨Ω,b⟩
 |m+1,a,v,s,i,k,j,l,n,b=>by
  obtain⟨a,rfl⟩: ∃q,a=q+1:=⟨a-1,Ω⟩;have p:=h.1
  by_cases c:v<g
  .have e:nP A g v=true:=by
    unfold nP;rw[bm (show v<(A.n:Int) by omega),bm c];rfl
   rw[qf,e,au,E _];refine ab5 f h o m a (v+1) (I.app s (I.lit [KD (A.at' v.toNat)])) Ω Ω Ω ?_ Ω (acg b (f _ (h.2 _ Ω)));show(((s.n+1:Nat)):Int)=v+1;omega
  .have e:nP A g v=false:=by
    unfold nP;rw[bm (show v<(A.n:Int) by omega),a8 c];rfl
   rw[qf,e,aB];exact⟨Ω,b⟩
def aqf{A:I h6}{g:Int}(h:yw A)(a:0<=g/\g<=3000):((ee A g).n:Int)<=g/\ ∀q,q<(ee A g).n->fO ((ee A g).at' q):=
 ab5 (PP:=fO) (λ_=>aqe) h a A.n _ 0 B (bz _) Ω Ω rfl a.1 (λq b=>absurd b (dJ q))
def aEJ{A:I aK}(h:og A):MQ A=true:=by
 unfold MQ agw;rw[aFk h,ald h];rfl
def akF{A:I aK}(h:og A):rp A=views (je A.B):=ald h
def aqc{i:Int}(a:0<=i/\i<3):fO ⟨4,i,0,0,0,0,ε,ε,ε,0⟩:=jD (k:=4) (n:=i) (p:=0) Δ (λ_=>a) (λz=>by cases z) (λz=>by cases z) (λ_=>rfl)
def aqb:fO ⟨12,0,0,0,0,0,ε,ε,ε,0⟩:=jD (k:=12) (n:=0) (p:=0) Δ (λz=>by cases z) (λ_=>rfl) (λz=>by cases z) (λ_=>rfl)
section
variable {A:I h6} {g u:Int}
end
