import Derived.Test.YtfmgjpcmcjjoiaaGreatDoorXt
open Go.IntKind (i64 u64 u8)
open Int (toNat)
set_option maxRecDepth 100000
set_option maxHeartbeats 4000000
set_option linter.all false
noncomputable section
namespace Go.Proofs.YtfmgjpcmcjjoiaaGreatDoor
open Go Go.RowKit Go.af
theorem LO{ms:ah}{d:H}{F:G ah}{O:G bF}{ar:G aM} : ∀(k:Nat) (v:Int) (a:G Int) (b:Int),aD a→
  ((ja ms d F O ar k v a b).1=false∧aD (ja ms d F O ar k v a b).2.1)∨((ja ms d F O ar k v a b).1=true∧(ja ms d F O ar k v a b).2.2.2=yA d F O ar)
 |0,_,_,_,_=> .inl ⟨rfl,WI⟩
 |k+1,v,a,b,c=>by
  rw[ja]
  cases decide (v≤i64.wrap (b9 d.j d.lt d.li ms.w ms.m ms.i+((bZ d.j d.lt d.li ms.w ms.m ms.i).n:Int)))
  ·exact .inl ⟨rfl,c⟩
  ·simp only[aQ];generalize e:gD _ _=q
   cases q
   ·exact .inr ⟨rfl,rfl⟩
   ·exact LO k _ _ _ (tr c)
theorem att{ms:ah}{d:H}{F:G ah}{O:G bF}{ar:G aM}(h:bQ d)(f:gQ ms):bQ (nZ ms d F O ar)∧EG ms d F O ar=F∧(((EI ms d F O ar).n:Nat):Int)≤(O.n:Int)+600000∧EH ms d F O ar=ar:=by
 have a:=h.i;unfold nZ EG EI EH;rw[H.fx,H.fx,H.fx]
 cases j:(hI d.j d.lt d.li ms.w ms.m ms.i !=0)
 ·cases g:(!(im d.j d.lt d.li ms.w ms.m ms.i))
  ·simp only[aS];have i:=bB j;have k:=Bp i g;have e:=PF ms d i g;have b:=LO (ms:=ms) (d:=d) (F:=F) (O:=O) (ar:=ar) ((toNat ((i64.wrap ((b9 d.j d.lt d.li ms.w ms.m ms.i)+((bZ d.j d.lt d.li ms.w ms.m ms.i).n:Int)))+1- (dp d.j d.lt d.li ms.w ms.m ms.i)))+1) (dp d.j d.lt d.li ms.w ms.m ms.i) d.aX d.bc a.u8;have o:ja ms d F O ar ((toNat ((i64.wrap ((b9 d.j d.lt d.li ms.w ms.m ms.i)+((bZ d.j d.lt d.li ms.w ms.m ms.i).n:Int)))+1- (dp d.j d.lt d.li ms.w ms.m ms.i)))+1) (dp d.j d.lt d.li ms.w ms.m ms.i) d.aX d.bc=iC ms d F O ar:=rfl;rw[o]at b
   cases cK:j0 ms d F O ar
   ·simp only[aS];have r:(iC ms d F O ar).2.2.2=yA d F O ar:=by
     rcases b with⟨b,_⟩|⟨_,b⟩
     ·unfold j0 w7 at cK;rw[b]at cK
      cases c:decide (dp d.j d.lt d.li ms.w ms.m ms.i>0)<;>rw[c]at cK<;>cases cK
     ·exact b
    rw[r];exact⟨h,(by first|rfl|trivial),by show(O.n:Int)≤_;omega,(by first|rfl|trivial)⟩
   ·simp only[aQ];have t:aD (uC ms d F O ar):=by
     unfold uC
     cases c:decide (dp d.j d.lt d.li ms.w ms.m ms.i>0)
     ·exact a.u8
     ·rcases b with⟨_,b⟩|⟨b,_⟩
      ·exact b
      ·unfold j0 w7 at cK;rw[c,b]at cK
       cases cK
    have l:dS (ky ms d):=by
     unfold ky;exact FW (k.2.2.2.2.2.2 a.li f.li) a.li
    have n:d.j+((ky ms d).n:Int)≤1048576:=by
     have v:=HI (s:=ky ms d) _ _ _ rfl;have w:=k.2.2.1.1;have x:=a.dP;rw[k.1]at*
     omega
    have p:bQ (w8 ms d F O ar):=by
     refine⟨⟨a.bh,?_,?_,a.co,e.2.2,?_,a.ws,a.pp,l,t,a.bX,a.g2⟩,h.o⟩
     ·show 0≤lA ms d;rw[e.1];exact a.j
     ·show lA ms d≤d.co;rw[e.1];exact a.ha
     ·show lA ms d+((ky ms d).n:Int)≤1048576;rw[e.1];exact n
    have u:i64.wrap (ms.w+(ms.i.n:Int))=ms.w+(ms.i.n:Int):=wrap64 (by have:=f.od;omega) (by have:=k.2.2.2.2.2.1;omega);have m:0≤ms.w+(ms.i.n:Int)∧ms.w+(ms.i.n:Int)≤1048576:=by have:=k.2.2.2.2.2.1;omega
    rw[u];have q:=ph (A:=ms.q) (ms:=⟨0,0,6,d.a6,ms.w+(ms.i.n:Int),0,true,0,D,0,0,0,D,0,D⟩) p f.lp (vk m);have c:=ad8 (A:=fs ms.ao (ms.w+(ms.i.n:Int))) (O:=O) q (by
     show fs ms.ao (ms.w+(ms.i.n:Int))≤lA ms d+((ky ms d).n:Int);have:=ob ms.ao (ms.w+(ms.i.n:Int));rw[e.1];have:=e.2.1;omega)
    exact⟨c.1,(by first|rfl|trivial),c.2,(by first|rfl|trivial)⟩
  ·simp only[aS,aQ];exact⟨ph h f.lp (vk ⟨by have:=a.j;have:=a.ha;omega,a.co⟩),(by first|rfl|trivial),by omega,(by first|rfl|trivial)⟩
 ·simp only[aQ];exact⟨h,(by first|rfl|trivial),by omega,(by first|rfl|trivial)⟩
theorem Ub{ms:ah}{d a b:H}{F:G ah}{O:G bF}{ar:G aM}(c:bQ a)(e:bQ b):
  bQ (H.bif ms.N (m_ a F O ar) b)∧(cond ms.N (xc a F O ar) F)=F∧(((cond ms.N (xe a F O ar) O).n:Nat):Int)≤(O.n:Int)+600000∧(cond ms.N (xd a F O ar) ar)=ar:=by
 rw[H.fx]
 cases ms.N
 ·exact⟨e,rfl,by simp only[aS];omega,rfl⟩
 ·exact atz c
theorem yW{p q c:Int}(g:0≤p∧p≤1048577)(h:0≤q∧q≤1048576)(f:0≤c∧c≤1048576):(0≤imax p (i64.wrap (c+1))∧imax p (i64.wrap (c+1))≤1048577)∧(0≤imax q c∧imax q c≤1048576)∧(0≤i64.wrap (imax q c+1)∧i64.wrap (imax q c+1)≤1048577):=by
 have a:=E (c+1);have b:=T4 p (i64.wrap (c+1));have d:=T4 q c;have e:=E (imax q c+1);omega
theorem atv{ms:ah}{d:H}{F:G ah}{O:G bF}{ar:G aM}(h:bQ d)(f:gQ ms):bQ (uE ms d F O ar)∧EK ms d F O ar=F∧(((EM ms d F O ar).n:Nat):Int)≤(O.n:Int)+600000∧EL ms d F O ar=ar:=by
 have a:=h.i;have b:=yW a.pp.1 a.g2.1 f.od;have c:=yW a.pp.2.1 a.g2.2.1 f.od;have e:=yW a.pp.2.2 a.g2.2.2 f.od;unfold uE EK EM EL;generalize toNat ms.q=j
 match j with
 |0=>exact Ub (ms:=ms) (d:=d) ⟨⟨a.bh,a.j,a.ha,a.co,a.fZ,a.dP,a.ws,⟨b.1,a.pp.2⟩,a.li,a.u8,a.bX,⟨b.2.1,a.g2.2⟩⟩,h.o⟩ ⟨⟨a.bh,a.j,a.ha,a.co,a.fZ,a.dP,a.ws,⟨b.2.2,a.pp.2⟩,a.li,a.u8,a.bX,a.g2⟩,h.o⟩
 |1=>exact Ub (ms:=ms) (d:=d) ⟨⟨a.bh,a.j,a.ha,a.co,a.fZ,a.dP,a.ws,⟨a.pp.1,c.1,a.pp.2.2⟩,a.li,a.u8,a.bX,⟨a.g2.1,c.2.1,a.g2.2.2⟩⟩,h.o⟩ ⟨⟨a.bh,a.j,a.ha,a.co,a.fZ,a.dP,a.ws,⟨a.pp.1,c.2.2,a.pp.2.2⟩,a.li,a.u8,a.bX,a.g2⟩,h.o⟩
 |j+2=>exact Ub (ms:=ms) (d:=d) ⟨⟨a.bh,a.j,a.ha,a.co,a.fZ,a.dP,a.ws,⟨a.pp.1,a.pp.2.1,e.1⟩,a.li,a.u8,a.bX,⟨a.g2.1,a.g2.2.1,e.2.1⟩⟩,h.o⟩ ⟨⟨a.bh,a.j,a.ha,a.co,a.fZ,a.dP,a.ws,⟨a.pp.1,a.pp.2.1,e.2.2⟩,a.li,a.u8,a.bX,a.g2⟩,h.o⟩
theorem ad3{it:aq}{d:H}(h:bQ d)(m:kS it):bQ (ik it d):=by
 have a:=h.i;have i:aD (EF it d):=by
  unfold EF
  cases (hI d.j d.lt d.li (b7 d) (gq d) (G.lit ([it]:List aq))!=0)<;>cases (!(im d.j d.lt d.li (b7 d) (gq d) (G.lit ([it]:List aq))))<;>cases (dp d.j d.lt d.li (b7 d) (gq d) (G.lit ([it]:List aq))==0)<;>first|exact a.u8|exact tr a.u8
 cases e:sg it d
 ·have f:(hI d.j d.lt d.li (b7 d) (gq d) (G.lit ([it]:List aq))!=0)=false:=by
   unfold sg at e
   cases f:(hI d.j d.lt d.li (b7 d) (gq d) (G.lit ([it]:List aq))!=0)
   ·rfl
   ·rw[f]at e;cases e
  have g:(!(im d.j d.lt d.li (b7 d) (gq d) (G.lit ([it]:List aq))))=false:=by
   unfold sg at e;rw[f]at e
   cases g:(!(im d.j d.lt d.li (b7 d) (gq d) (G.lit ([it]:List aq))))
   ·rfl
   ·rw[g]at e;cases e
  have k:=Bp (bB f) g;have l:dS (G.lit ([it]:List aq)):=fun j=>by
   show kS (([it]:List aq).getD j default)
   cases j with
   |zero=>exact m
   |succ j=>exact ad2
  have b:(ik it d).j=d.j:=by
   show Ao it d=_;unfold Ao;rw[e];exact k.1
  have c:(ik it d).li=bZ d.j d.lt d.li (b7 d) (gq d) (G.lit ([it]:List aq)):=by
   show Ap it d=_;unfold Ap;rw[e];rfl
  exact⟨⟨a.bh,by rw[b];exact a.j,by rw[b];exact a.ha,a.co,by rw[c];exact k.2.2.1.2,by rw[b,c];have:=k.2.2.1.1;omega,a.ws,a.pp,by rw[c];exact k.2.2.2.2.2.2 a.li l,i,a.bX,a.g2⟩,h.o⟩
 ·have b:(ik it d).j=d.j:=by
   show Ao it d=_;unfold Ao;rw[e];rfl
  have c:(ik it d).li=d.li:=by
   show Ap it d=_;unfold Ap;rw[e];rfl
  exact⟨⟨a.bh,by rw[b];exact a.j,by rw[b];exact a.ha,a.co,by rw[c];exact a.fZ,by rw[b,c];exact a.dP,a.ws,a.pp,by rw[c];exact a.li,i,a.bX,a.g2⟩,h.o⟩
theorem aid:(0:Int)≤0∧(0:Int)≤1048576:=by decide
theorem S4{to p:Int}{d:H}(h:bQ d)(a:H)(e:0≤to∧to<3)(f:0≤p∧p≤1048577)(b:js a):
  fo (cond (decide (i64.wrap (p-1)<a.j)) (et to ⟨0,0,7,a.a6,0,0,false,0,D,a.bX,a.gG,a.gH,a.eU,a.gI,a.eT⟩ d).bw (et to ⟨0,0,5,a.a6,i64.wrap (p-1),iE a.j a.lt a.li (i64.wrap (p-1)),false,a.co,qw a.j a.lt a.li (i64.wrap (p-1)) 8,0,0,0,D,0,D⟩ d).bw):=by
 by_cases c:i64.wrap (p-1)<a.j
 ·rw[bS c];exact(ph h e ⟨aid,b.bX,lF⟩).o
 ·rw[bp c];have g:=E (p-1);refine(ph h e ⟨?_,aid,?_⟩).o
  ·show 0≤i64.wrap (p-1)∧i64.wrap (p-1)≤1048576;have:=b.j;omega
  ·show dS (qw a.j a.lt a.li (i64.wrap (p-1)) 8);unfold qw;exact FW lF (FW lF (FW lF (x1 (x1 b.li _ _) _ _)))
theorem ad6{d:H}(h:bQ d):bQ (uG d):=by
 have a:=h.i;have b:bQ (uH d):=by
  refine⟨a.hJ _ (by kernel_rfl) (Eq.mp (by kernel_rfl) a.u8) (Eq.mp (by kernel_rfl) a.ws),?_⟩;show fo (EN d);unfold EN
  cases (0==d.bh)
  ·exact S4 (to:=0) (p:=d.dX) h d (by decide) a.pp.1 a
  ·exact h.o
 have c:bQ (uI d):=by
  refine⟨a.hJ _ (by kernel_rfl) (Eq.mp (by kernel_rfl) a.u8) (Eq.mp (by kernel_rfl) a.ws),?_⟩;show fo (EO d);unfold EO
  cases (1==d.bh)
  ·exact S4 (to:=1) (p:=d.dz) b d (by decide) a.pp.2.1 a
  ·exact b.o
 refine⟨a.hJ _ (by kernel_rfl) (Eq.mp (by kernel_rfl) a.u8) (Eq.mp (by kernel_rfl) a.ws),?_⟩;show fo (EP d);unfold EP
 cases (2==d.bh)
 ·exact S4 (to:=2) (p:=d.dF) c d (by decide) a.pp.2.2 a
 ·exact c.o
theorem ats{d:H}(h:bQ d):bQ (w6 d):=by
 have a:=h.i;have g:=PG a;have i:=E (b7 d+1);have b:0≤i64.wrap (b7 d+1)∧i64.wrap (b7 d+1)≤1048577:=by omega
 have z:(0:Int)≤0∧(0:Int)≤1048576:=by decide
 have c:bQ (m9 d):=⟨⟨a.bh,a.j,a.ha,a.co,a.fZ,a.dP,a.ws,⟨b,b,b⟩,a.li,a.u8,a.bX,⟨z,z,z⟩⟩,h.o⟩;have e:=ad3 (it:=(⟨d.a6,(il (m9 d)),true,0,0,0,⟨#[]⟩,⟨#[]⟩,⟨#[]⟩,0⟩:aq)) c ⟨cf _,cf _,cf _⟩;have f:=ad6 e;exact f
theorem aBO{A:G Int}{g:Int}(h:aD A):aD (AI A g):=by
 unfold AI
 cases (!(hc A g))
 ·exact kK h
 ·exact GY
theorem Vb:fo (D:G ah):=⟨cf _,fun _ h=>absurd h (en _)⟩
theorem atw{d:H}(h:bQ d):bQ (n1 d):=⟨h.i.hJ _ (by kernel_rfl) (aBO h.i.u8) h.i.ws,Vb⟩
theorem af4{s:G ah}{x:ah}(h:fo s)(f:s.n<300)(b:gQ x):fo (G.app s (G.lit [x])):=by
 refine⟨?_,fun j a=> ?_⟩
 ·show s.n+1≤300;omega
 ·show gQ (cond (Nat.blt j s.n) (s.at' j) (([x]:List ah).getD (j-s.n) default))
  cases e:Nat.blt j s.n with
  |true=>exact h.2 j (by rw[hj]at e;exact e)
  |false=>
   have d:j<s.n+1:=a;have: ¬j<s.n:=fun hh=>by
    rw[show Nat.blt j s.n=true by rw[hj];exact hh]at e
    cases e
   have c:j-s.n=0:=by omega
   rw[c];exact b
theorem aeY{d:H}(h:fo d.bw): ∀(k:Nat) (v:Int) (s:G ah),0≤v→v≤(d.bw.n:Int)→toNat ((d.bw.n:Int)-v)<k→fo s→fo (uJ d k v s)
 |0,_,_,_,_,b,_=>absurd b (en _)
 |k+1,v,s,f,g,b,a=>by
  have i:=h.1;rw[uJ]
  by_cases e:v<(d.bw.n:Int)
  ·rw[bS e,aQ,E (v+1)];refine aeY h k (v+1) _ (by omega) (by omega) (by omega) ?_;unfold JD
   by_cases c:(s.n:Int)<300
   ·rw[bS c];exact af4 a (by omega) (h.2 _ (by omega))
   ·rw[bp c];exact a
  ·rw[bp e,aS];exact a
theorem alP{d:H}{F:G ah}(h:bQ d)(a:fo F):fo (JC d F):=
 aeY h.o _ 0 F (cR _) (by omega) (by omega) a
theorem aty{d:H}(h:bQ d):bQ (o5 d):=by
 have a:=h.i;have r:=VX (g:=d.lt) a.j a.dP a.fZ ⟨by have:=a.j;have:=a.ha;omega,a.co⟩ a.li;have b:bQ (Su d):=⟨⟨a.bh,r.1.1,r.1.2,a.co,r.2.1,r.2.2.1,a.ws,a.pp,r.2.2.2,tr a.u8,⟨by have:=a.j;have:=a.ha;show 0≤d.co;omega,a.co⟩,a.g2⟩,h.o⟩;unfold o5;exact nm (fun _=>h) fun _=>nm (fun _=>b) fun _=>ad7 h
theorem atm{aL:ke}{d:H}(h:bQ d)(j:d.ws.n<3000)(f:aL.I.size≤10000000000)(g:aL.w.size≤10000000000)(i:aL.m.size≤10000000000):bQ (sf aL d)∧(sf aL d).ws.n≤d.ws.n+1:=by
 have c:=ad3 (it:=(⟨d.a6,(il d),false,aL.q,aL.C,aL.z,aL.I,aL.w,aL.m,aL.N⟩:aq)) h ⟨f,g,i⟩;have a:=c.i;have e:bQ (ab5 aL d):=⟨⟨a.bh,a.j,a.ha,a.co,a.fZ,a.dP,(by show d.ws.n+1≤3000;omega),a.pp,a.li,a.u8,a.bX,a.g2⟩,c.o⟩;unfold sf;simp only[H.fx]
 cases (!d.up)<;>simp only[aS,aQ]
 ·cases (d.ro !=3)<;>simp only[aS,aQ]
  ·generalize (!(sh (⟨d.a6,(il d),false,aL.q,aL.C,aL.z,aL.I,aL.w,aL.m,aL.N⟩:aq) d))=b
   cases b<;>simp only[aS,aQ]
   ·exact⟨e,bC _⟩
   ·exact⟨c,Nat.le_succ _⟩
  ·exact⟨h,Nat.le_succ _⟩
 ·exact⟨h,Nat.le_succ _⟩
theorem aBl{aL:ke}{d:H}{O:G bF} :(Af aL d O).n≤O.n+1:=by
 unfold Af;generalize (!(sh (⟨d.a6,(il d),false,aL.q,aL.C,aL.z,aL.I,aL.w,aL.m,aL.N⟩:aq) d))=b
 cases (!d.up)<;>cases (d.ro !=3)<;>cases b<;>first|exact bC _|exact Nat.le_succ _
theorem ts{c:Bool}{a b:H}{s:G hz}(d:a.ws=s)(e:b.ws=s):(H.bif c a b).ws=s:=by
 rw[H.fx]
 cases c
 ·exact e
 ·exact d
theorem aB1(n:H):(sj n).ws=n.ws:=by
 unfold sj;exact ts (by kernel_rfl) (by kernel_rfl)
theorem aB3(ms:ah)(n:H):(sk ms n).ws=n.ws:=by
 unfold sk;exact ts (by kernel_rfl) (by kernel_rfl)
theorem aB7(ms:ah)(n:H):(n0 ms n).ws=n.ws:=by
 unfold n0;exact ts (by kernel_rfl) (by kernel_rfl)
theorem aB4(n:H):(w6 n).ws=n.ws:=by kernel_rfl
theorem aB0(ms:ah)(n:H):(uA ms n).ws=n.ws:=by kernel_rfl
theorem aB2(x:Int)(n:H):(qh x n).ws=n.ws:=by kernel_rfl
theorem aBZ(x y:Int)(n:H):(fq x y n).ws=n.ws:=by kernel_rfl
theorem aB5(n:H):(jZ n).ws.n≤n.ws.n:=by
 show(cond (n.ro==2) (D:G hz) n.ws).n≤n.ws.n
 cases (n.ro==2)
 ·exact bC _
 ·exact cf _
theorem WN{d:H}{F:G ah}{O:G bF}{ar:G aM}(h:js d):(m_ d F O ar).ws=d.ws:=by
 have b:=HC d ⟨h.j,by have:=h.dP;omega⟩;have a:=Us (F:=F) (O:=O) (ar:=ar) h (toNat (b7 d-d.co)+1) (b7 d) b.2;have c:k4 d F O ar (toNat (b7 d-d.co)+1) (b7 d)=n2 d F O ar:=rfl;rw[c]at a;unfold m_;rw[H.fx];rcases a with e|⟨p,f,e⟩
 ·rw[e];rfl
 ·rw[e];rfl
theorem aB8{ms:ah}{d:H}{F:G ah}{O:G bF}{ar:G aM}(h:bQ d)(b:gQ ms):(uE ms d F O ar).ws=d.ws:=by
 have a:=h.i;have c:=yW a.pp.1 a.g2.1 b.od;have e:=yW a.pp.2.1 a.g2.2.1 b.od;have f:=yW a.pp.2.2 a.g2.2.2 b.od;unfold uE;generalize toNat ms.q=j
 match j with
 |0=>exact ts (WN ⟨a.bh,a.j,a.ha,a.co,a.fZ,a.dP,a.ws,⟨c.1,a.pp.2⟩,a.li,a.u8,a.bX,⟨c.2.1,a.g2.2⟩⟩) rfl
 |1=>exact ts (WN ⟨a.bh,a.j,a.ha,a.co,a.fZ,a.dP,a.ws,⟨a.pp.1,e.1,a.pp.2.2⟩,a.li,a.u8,a.bX,⟨a.g2.1,e.2.1,a.g2.2.2⟩⟩) rfl
 |j+2=>exact ts (WN ⟨a.bh,a.j,a.ha,a.co,a.fZ,a.dP,a.ws,⟨a.pp.1,a.pp.2.1,f.1⟩,a.li,a.u8,a.bX,⟨a.g2.1,a.g2.2.1,f.2.1⟩⟩) rfl
theorem aB6{ms:ah}{d:H}{F:G ah}{O:G bF}{ar:G aM}(h:bQ d):(nZ ms d F O ar).ws=d.ws:=by
 have a:=LO (ms:=ms) (d:=d) (F:=F) (O:=O) (ar:=ar) ((toNat ((i64.wrap ((b9 d.j d.lt d.li ms.w ms.m ms.i)+((bZ d.j d.lt d.li ms.w ms.m ms.i).n:Int)))+1- (dp d.j d.lt d.li ms.w ms.m ms.i)))+1) (dp d.j d.lt d.li ms.w ms.m ms.i) d.aX d.bc h.i.u8;have c:ja ms d F O ar ((toNat ((i64.wrap ((b9 d.j d.lt d.li ms.w ms.m ms.i)+((bZ d.j d.lt d.li ms.w ms.m ms.i).n:Int)))+1- (dp d.j d.lt d.li ms.w ms.m ms.i)))+1) (dp d.j d.lt d.li ms.w ms.m ms.i) d.aX d.bc=iC ms d F O ar:=rfl;rw[c]at a;unfold nZ;refine ts rfl (ts (by kernel_rfl) ?_)
 cases cK:j0 ms d F O ar
 ·refine(show(Bt (iC ms d F O ar).2.2.2).ws=d.ws from ?_);have e:(iC ms d F O ar).2.2.2=yA d F O ar:=by
   rcases a with⟨a,_⟩|⟨_,a⟩
   ·unfold j0 w7 at cK;rw[a]at cK
    cases b:decide (dp d.j d.lt d.li ms.w ms.m ms.i>0)<;>rw[b]at cK<;>cases cK
   ·exact a
  rw[e];rfl
 ·kernel_rfl
end Go.Proofs.YtfmgjpcmcjjoiaaGreatDoor
