/- Part of a proof: walks of the program. -/
import Derived.Test.YtfmgjpcmcjjoiaaGreatDoorXw
import Derived.Test.YtfmgjpcmcjjoiaaGreatDoorXz
import Derived.Test.YtfmgjpcmcjjoiaaGreatDoorYa
open Go.IntKind (i64 u64 u8)
open Int (toNat)
set_option maxRecDepth 100000
set_option maxHeartbeats 4000000
set_option linter.all false
noncomputable section
namespace Go.Proofs.YtfmgjpcmcjjoiaaGreatDoor
open Go Go.RowKit Go.ah
theorem Tj{ms:O}{Z:H}{E:A O}{B:A a7}{G:A aJ} : ∀(k:Nat) (v:Int) (a:A Int) (b:Int),aO a→
  ((eT ms Z E B G k v a b).1=false∧aO (eT ms Z E B G k v a b).2.1)∨((eT ms Z E B G k v a b).1=true∧(eT ms Z E B G k v a b).2.2.2=l6 Z E B G)
 |0,_,_,_,_=> .inl ⟨rfl,Vl⟩
 |k+1,v,a,b,c=>by
  rw[eT]
  cases decide (v≤i64.wrap (b6 Z.l Z.lt Z.li ms.p ms.v ms.i+((b2 Z.l Z.lt Z.li ms.p ms.v ms.i).n:Int)))
  ·exact .inl ⟨rfl,c⟩
  ·simp only[aN];generalize d:gN _ _=q
   cases q
   ·exact .inr ⟨rfl,rfl⟩
   ·exact Tj k _ _ _ (u4 c)
theorem auq{ms:O}{Z:H}{E:A O}{B:A a7}{G:A aJ}(h:bW Z)(f:fu ms):bW (ga ms Z E B G)∧D1 ms Z E B G=E∧(((iA ms Z E B G).n:Nat):Int)≤(B.n:Int)+600000∧tY ms Z E B G=G:=by
 have a:=h.i;unfold ga D1 iA tY;rw[H.bV,H.bV,H.bV]
 cases j:(fc Z.l Z.lt Z.li ms.p ms.v ms.i !=0)
 ·cases g:(!(gd Z.l Z.lt Z.li ms.p ms.v ms.i))
  ·simp only[aQ];have i:=bE j;have k:=A2 i g;have e:=OC ms Z i g;have b:=Tj (ms:=ms) (Z:=Z) (E:=E) (B:=B) (G:=G) ((toNat ((i64.wrap ((b6 Z.l Z.lt Z.li ms.p ms.v ms.i)+((b2 Z.l Z.lt Z.li ms.p ms.v ms.i).n:Int)))+1- (c7 Z.l Z.lt Z.li ms.p ms.v ms.i)))+1) (c7 Z.l Z.lt Z.li ms.p ms.v ms.i) Z.bd Z.bh a.u8;have o:eT ms Z E B G ((toNat ((i64.wrap ((b6 Z.l Z.lt Z.li ms.p ms.v ms.i)+((b2 Z.l Z.lt Z.li ms.p ms.v ms.i).n:Int)))+1- (c7 Z.l Z.lt Z.li ms.p ms.v ms.i)))+1) (c7 Z.l Z.lt Z.li ms.p ms.v ms.i) Z.bd Z.bh=j7 ms Z E B G:=rfl;rw[o]at b
   cases cK:hA ms Z E B G
   ·simp only[aQ];have r:(j7 ms Z E B G).2.2.2=l6 Z E B G:=by
     rcases b with⟨b,_⟩|⟨_,b⟩
     ·unfold hA tZ at cK;rw[b]at cK
      cases c:decide (c7 Z.l Z.lt Z.li ms.p ms.v ms.i>0)<;>rw[c]at cK<;>cases cK
     ·exact b
    rw[r];exact⟨h,(by first|rfl|trivial),by show(B.n:Int)≤_;omega,(by first|rfl|trivial)⟩
   ·simp only[aN];have t:aO (D2 ms Z E B G):=by
     unfold D2
     cases c:decide (c7 Z.l Z.lt Z.li ms.p ms.v ms.i>0)
     ·exact a.u8
     ·rcases b with⟨_,b⟩|⟨b,_⟩
      ·exact b
      ·unfold hA tZ at cK;rw[c,b]at cK
       cases cK
    have l:dZ (j6 ms Z):=by
     unfold j6;exact Fl (k.2.2.2.2.2.2 a.li f.li) a.li
    have n:Z.l+((j6 ms Z).n:Int)≤1048576:=by
     have v:=GU (s:=j6 ms Z) _ _ _ rfl;have w:=k.2.2.1.1;have x:=a.hn;rw[k.1]at*
     omega
    have p:bW (mr ms Z E B G):=by
     refine⟨⟨a.bm,?_,?_,a.co,e.2.2,?_,a.ws,a.pp,l,t,a.c8,a.g7⟩,h.o⟩
     ·show 0≤la ms Z;rw[e.1];exact a.l
     ·show la ms Z≤Z.co;rw[e.1];exact a.hK
     ·show la ms Z+((j6 ms Z).n:Int)≤1048576;rw[e.1];exact n
    have u:i64.wrap (ms.p+(ms.i.n:Int))=ms.p+(ms.i.n:Int):=wrap64 (by have:=f.ou;omega) (by have:=k.2.2.2.2.2.1;omega);have m:0≤ms.p+(ms.i.n:Int)∧ms.p+(ms.i.n:Int)≤1048576:=by have:=k.2.2.2.2.2.1;omega
    rw[u];have q:=pf (d:=ms.j) (ms:=⟨0,0,6,Z.aX,ms.p+(ms.i.n:Int),0,true,0,L,0,0,0,L,0,L⟩) p f.p0 (uR m);have c:=aeE (d:=eU ms.aF (ms.p+(ms.i.n:Int))) (B:=B) q (by
     show eU ms.aF (ms.p+(ms.i.n:Int))≤la ms Z+((j6 ms Z).n:Int);have:=lY ms.aF (ms.p+(ms.i.n:Int));rw[e.1];have:=e.2.1;omega)
    exact⟨c.1,(by first|rfl|trivial),c.2,(by first|rfl|trivial)⟩
  ·simp only[aQ,aN];exact⟨pf h f.p0 (uR ⟨by have:=a.l;have:=a.hK;omega,a.co⟩),(by first|rfl|trivial),by omega,(by first|rfl|trivial)⟩
 ·simp only[aN];exact⟨h,(by first|rfl|trivial),by omega,(by first|rfl|trivial)⟩
theorem SZ{ms:O}{Z a b:H}{E:A O}{B:A a7}{G:A aJ}(c:bW a)(d:bW b):
  bW (H.bif ms.ax (hB a E B G) b)∧(cond ms.ax (wO a E B G) E)=E∧(((cond ms.ax (jE a E B G) B).n:Nat):Int)≤(B.n:Int)+600000∧(cond ms.ax (qp a E B G) G)=G:=by
 rw[H.bV]
 cases ms.ax
 ·exact⟨d,rfl,by simp only[aQ];omega,rfl⟩
 ·exact auw c
theorem yS{p q c:Int}(g:0≤p∧p≤1048577)(h:0≤q∧q≤1048576)(f:0≤c∧c≤1048576):(0≤imax p (i64.wrap (c+1))∧imax p (i64.wrap (c+1))≤1048577)∧(0≤imax q c∧imax q c≤1048576)∧(0≤i64.wrap (imax q c+1)∧i64.wrap (imax q c+1)≤1048577):=by
 have a:=N (c+1);have b:=AP p (i64.wrap (c+1));have d:=AP q c;have e:=N (imax q c+1);omega
theorem aus{ms:O}{Z:H}{E:A O}{B:A a7}{G:A aJ}(h:bW Z)(e:fu ms):bW (od ms Z E B G)∧D4 ms Z E B G=E∧(((qm ms Z E B G).n:Nat):Int)≤(B.n:Int)+600000∧ud ms Z E B G=G:=by
 have a:=h.i;have b:=yS a.pp.1 a.g7.1 e.ou;have c:=yS a.pp.2.1 a.g7.2.1 e.ou;have d:=yS a.pp.2.2 a.g7.2.2 e.ou;unfold od D4 qm ud;generalize toNat ms.j=j
 match j with
 |0=>exact SZ (ms:=ms) (Z:=Z) ⟨⟨a.bm,a.l,a.hK,a.co,a.gP,a.hn,a.ws,⟨b.1,a.pp.2⟩,a.li,a.u8,a.c8,⟨b.2.1,a.g7.2⟩⟩,h.o⟩ ⟨⟨a.bm,a.l,a.hK,a.co,a.gP,a.hn,a.ws,⟨b.2.2,a.pp.2⟩,a.li,a.u8,a.c8,a.g7⟩,h.o⟩
 |1=>exact SZ (ms:=ms) (Z:=Z) ⟨⟨a.bm,a.l,a.hK,a.co,a.gP,a.hn,a.ws,⟨a.pp.1,c.1,a.pp.2.2⟩,a.li,a.u8,a.c8,⟨a.g7.1,c.2.1,a.g7.2.2⟩⟩,h.o⟩ ⟨⟨a.bm,a.l,a.hK,a.co,a.gP,a.hn,a.ws,⟨a.pp.1,c.2.2,a.pp.2.2⟩,a.li,a.u8,a.c8,a.g7⟩,h.o⟩
 |j+2=>exact SZ (ms:=ms) (Z:=Z) ⟨⟨a.bm,a.l,a.hK,a.co,a.gP,a.hn,a.ws,⟨a.pp.1,a.pp.2.1,d.1⟩,a.li,a.u8,a.c8,⟨a.g7.1,a.g7.2.1,d.2.1⟩⟩,h.o⟩ ⟨⟨a.bm,a.l,a.hK,a.co,a.gP,a.hn,a.ws,⟨a.pp.1,a.pp.2.1,d.2.2⟩,a.li,a.u8,a.c8,a.g7⟩,h.o⟩
theorem aez{it:aI}{Z:H}(h:bW Z)(l:kZ it):bW (iM it Z):=by
 have a:=h.i;have g:aO (IB it Z):=by
  unfold IB
  cases (fc Z.l Z.lt Z.li (ck Z) (hk Z) (A.lit ([it]:List aI))!=0)<;>cases (!(gd Z.l Z.lt Z.li (ck Z) (hk Z) (A.lit ([it]:List aI))))<;>cases (c7 Z.l Z.lt Z.li (ck Z) (hk Z) (A.lit ([it]:List aI))==0)<;>first|exact a.u8|exact u4 a.u8
 cases e:tU it Z
 ·have d:(fc Z.l Z.lt Z.li (ck Z) (hk Z) (A.lit ([it]:List aI))!=0)=false:=by
   unfold tU at e
   cases d:(fc Z.l Z.lt Z.li (ck Z) (hk Z) (A.lit ([it]:List aI))!=0)
   ·rfl
   ·rw[d]at e;cases e
  have f:(!(gd Z.l Z.lt Z.li (ck Z) (hk Z) (A.lit ([it]:List aI))))=false:=by
   unfold tU at e;rw[d]at e
   cases f:(!(gd Z.l Z.lt Z.li (ck Z) (hk Z) (A.lit ([it]:List aI))))
   ·rfl
   ·rw[f]at e;cases e
  have k:=A2 (bE d) f;have i:dZ (A.lit ([it]:List aI)):=fun j=>by
   show kZ (([it]:List aI).getD j default)
   cases j with
   |zero=>exact l
   |succ j=>exact aey
  have b:(iM it Z).l=Z.l:=by
   show DV it Z=_;unfold DV;rw[e];exact k.1
  have c:(iM it Z).li=b2 Z.l Z.lt Z.li (ck Z) (hk Z) (A.lit ([it]:List aI)):=by
   show DW it Z=_;unfold DW;rw[e];rfl
  exact⟨⟨a.bm,by rw[b];exact a.l,by rw[b];exact a.hK,a.co,by rw[c];exact k.2.2.1.2,by rw[b,c];have:=k.2.2.1.1;omega,a.ws,a.pp,by rw[c];exact k.2.2.2.2.2.2 a.li i,g,a.c8,a.g7⟩,h.o⟩
 ·have b:(iM it Z).l=Z.l:=by
   show DV it Z=_;unfold DV;rw[e];rfl
  have c:(iM it Z).li=Z.li:=by
   show DW it Z=_;unfold DW;rw[e];rfl
  exact⟨⟨a.bm,by rw[b];exact a.l,by rw[b];exact a.hK,a.co,by rw[c];exact a.gP,by rw[b,c];exact a.hn,a.ws,a.pp,by rw[c];exact a.li,g,a.c8,a.g7⟩,h.o⟩
theorem aiw:(0:Int)≤0∧(0:Int)≤1048576:=by decide
theorem RN{to p:Int}{Z:H}(h:bW Z)(a:H)(d:0≤to∧to<3)(e:0≤p∧p≤1048577)(b:jb a):
  fk (cond (decide (i64.wrap (p-1)<a.l)) (ed to ⟨0,0,7,a.aX,0,0,false,0,L,a.c8,a.gR,a.gS,a.fG,a.gT,a.fF⟩ Z).bS (ed to ⟨0,0,5,a.aX,i64.wrap (p-1),kC a.l a.lt a.li (i64.wrap (p-1)),false,a.co,qw a.l a.lt a.li (i64.wrap (p-1)) 8,0,0,0,L,0,L⟩ Z).bS):=by
 by_cases c:i64.wrap (p-1)<a.l
 ·rw[bT c];exact(pf h d ⟨aiw,b.c8,l2⟩).o
 ·rw[bI c];have f:=N (p-1);refine(pf h d ⟨?_,aiw,?_⟩).o
  ·show 0≤i64.wrap (p-1)∧i64.wrap (p-1)≤1048576;have:=b.l;omega
  ·show dZ (qw a.l a.lt a.li (i64.wrap (p-1)) 8);unfold qw;exact Fl l2 (Fl l2 (Fl l2 (xZ (xZ b.li _ _) _ _)))
theorem aeC{Z:H}(h:bW Z):bW (z6 Z):=by
 have a:=h.i;have b:bW (z7 Z):=by
  refine⟨a.hR _ (by kernel_rfl) (Eq.mp (by kernel_rfl) a.u8) (Eq.mp (by kernel_rfl) a.ws),?_⟩;show fk (IW Z);unfold IW
  cases (0==Z.bm)
  ·exact RN (to:=0) (p:=Z.eb) h Z (by decide) a.pp.1 a
  ·exact h.o
 have c:bW (z8 Z):=by
  refine⟨a.hR _ (by kernel_rfl) (Eq.mp (by kernel_rfl) a.u8) (Eq.mp (by kernel_rfl) a.ws),?_⟩;show fk (IX Z);unfold IX
  cases (1==Z.bm)
  ·exact RN (to:=1) (p:=Z.dF) b Z (by decide) a.pp.2.1 a
  ·exact b.o
 refine⟨a.hR _ (by kernel_rfl) (Eq.mp (by kernel_rfl) a.u8) (Eq.mp (by kernel_rfl) a.ws),?_⟩;show fk (IY Z);unfold IY
 cases (2==Z.bm)
 ·exact RN (to:=2) (p:=Z.dW) c Z (by decide) a.pp.2.2 a
 ·exact c.o
theorem aup{Z:H}(h:bW Z):bW (tX Z):=by
 have a:=h.i;have f:=OD a;have g:=N (ck Z+1);have b:0≤i64.wrap (ck Z+1)∧i64.wrap (ck Z+1)≤1048577:=by omega
 have z:(0:Int)≤0∧(0:Int)≤1048576:=by decide
 have c:bW (iN Z):=⟨⟨a.bm,a.l,a.hK,a.co,a.gP,a.hn,a.ws,⟨b,b,b⟩,a.li,a.u8,a.c8,⟨z,z,z⟩⟩,h.o⟩;have d:=aez (it:=(⟨Z.aX,(hz (iN Z)),true,0,0,0,⟨#[]⟩,⟨#[]⟩,⟨#[]⟩,0⟩:aI)) c ⟨cA _,cA _,cA _⟩;have e:=aeC d;exact e
theorem aCZ{d:A Int}{g:Int}(h:aO d):aO (I8 d g):=by
 unfold I8
 cases (!(gy d g))
 ·exact kR h
 ·exact Gb
theorem TZ:fk (L:A O):=⟨cA _,fun _ h=>absurd h (eH _)⟩
theorem aut{Z:H}(h:bW Z):bW (wL Z):=⟨h.i.hR _ (by kernel_rfl) (aCZ h.i.u8) h.i.ws,TZ⟩
theorem agx{s:A O}{x:O}(h:fk s)(f:s.n<300)(b:fu x):fk (A.app s (A.lit [x])):=by
 refine⟨?_,fun j a=> ?_⟩
 ·show s.n+1≤300;omega
 ·show fu (cond (Nat.blt j s.n) (s.at' j) (([x]:List O).getD (j-s.n) default))
  cases e:Nat.blt j s.n with
  |true=>exact h.2 j (by rw[fU]at e;exact e)
  |false=>
   have d:j<s.n+1:=a;have: ¬j<s.n:=fun aZ=>by
    rw[show Nat.blt j s.n=true by rw[fU];exact aZ]at e
    cases e
   have c:j-s.n=0:=by omega
   rw[c];exact b
theorem afx{Z:H}(h:fk Z.bS): ∀(k:Nat) (v:Int) (s:A O),0≤v→v≤(Z.bS.n:Int)→toNat ((Z.bS.n:Int)-v)<k→fk s→fk (D8 Z k v s)
 |0,_,_,_,_,b,_=>absurd b (eH _)
 |k+1,v,s,d,f,b,a=>by
  have g:=h.1;rw[D8]
  by_cases e:v<(Z.bS.n:Int)
  ·rw[bT e,aN,N (v+1)];refine afx h k (v+1) _ (by omega) (by omega) (by omega) ?_;unfold IZ
   by_cases c:(s.n:Int)<300
   ·rw[bT c];exact agx a (by omega) (h.2 _ (by omega))
   ·rw[bI c];exact a
  ·rw[bI e,aQ];exact a
theorem amw{Z:H}{E:A O}(h:bW Z)(a:fk E):fk (D7 Z E):=
 afx h.o _ 0 E (dp _) (by omega) (by omega) a
theorem auv{Z:H}(h:bW Z):bW (r9 Z):=by
 have a:=h.i;have r:=UC (g:=Z.lt) a.l a.hn a.gP ⟨by have:=a.l;have:=a.hK;omega,a.co⟩ a.li;have b:bW (acb Z):=⟨⟨a.bm,r.1.1,r.1.2,a.co,r.2.1,r.2.2.1,a.ws,a.pp,r.2.2.2,u4 a.u8,⟨by have:=a.l;have:=a.hK;show 0≤Z.co;omega,a.co⟩,a.g7⟩,h.o⟩;unfold r9;exact nt (fun _=>h) fun _=>nt (fun _=>b) fun _=>aeD h
theorem auk{aW:kW}{Z:H}(h:bW Z)(i:Z.ws.n<3000)(e:aW.an.size≤10000000000)(f:aW.p.size≤10000000000)(g:aW.v.size≤10000000000):bW (r8 aW Z)∧(r8 aW Z).ws.n≤Z.ws.n+1:=by
 have c:=aez (it:=(⟨Z.aX,(hz Z),false,aW.j,aW.ai,aW.K,aW.an,aW.p,aW.v,aW.ax⟩:aI)) h ⟨e,f,g⟩;have a:=c.i;have d:bW (abZ aW Z):=⟨⟨a.bm,a.l,a.hK,a.co,a.gP,a.hn,(by show Z.ws.n+1≤3000;omega),a.pp,a.li,a.u8,a.c8,a.g7⟩,c.o⟩;unfold r8;simp only[H.bV]
 cases (!Z.up)<;>simp only[aQ,aN]
 ·cases (Z.ro !=3)<;>simp only[aQ,aN]
  ·generalize (!(qj (⟨Z.aX,(hz Z),false,aW.j,aW.ai,aW.K,aW.an,aW.p,aW.v,aW.ax⟩:aI) Z))=b
   cases b<;>simp only[aQ,aN]
   ·exact⟨d,bx _⟩
   ·exact⟨c,Nat.le_succ _⟩
  ·exact⟨h,Nat.le_succ _⟩
 ·exact⟨h,Nat.le_succ _⟩
theorem aCa{aW:kW}{Z:H}{B:A a7} :(zZ aW Z B).n≤B.n+1:=by
 unfold zZ;generalize (!(qj (⟨Z.aX,(hz Z),false,aW.j,aW.ai,aW.K,aW.an,aW.p,aW.v,aW.ax⟩:aI) Z))=b
 cases (!Z.up)<;>cases (Z.ro !=3)<;>cases b<;>first|exact bx _|exact Nat.le_succ _
theorem s5{c:Bool}{a b:H}{s:A hI}(d:a.ws=s)(e:b.ws=s):(H.bif c a b).ws=s:=by
 rw[H.bV]
 cases c
 ·exact e
 ·exact d
theorem aDk(n:H):(lR n).ws=n.ws:=by
 unfold lR;exact s5 (by kernel_rfl) (by kernel_rfl)
theorem aDm(ms:O)(n:H):(k_ ms n).ws=n.ws:=by
 unfold k_;exact s5 (by kernel_rfl) (by kernel_rfl)
theorem aDq(ms:O)(n:H):(gz ms n).ws=n.ws:=by
 unfold gz;exact s5 (by kernel_rfl) (by kernel_rfl)
theorem aDn(n:H):(tX n).ws=n.ws:=by kernel_rfl
theorem aDj(ms:O)(n:H):(wH ms n).ws=n.ws:=by kernel_rfl
theorem aDl(x:Int)(n:H):(qk x n).ws=n.ws:=by kernel_rfl
theorem aDi(x y:Int)(n:H):(f_ x y n).ws=n.ws:=by kernel_rfl
theorem aDo(n:H):(gM n).ws.n≤n.ws.n:=by
 show(cond (n.ro==2) (L:A hI) n.ws).n≤n.ws.n
 cases (n.ro==2)
 ·exact bx _
 ·exact cA _
theorem Vr{Z:H}{E:A O}{B:A a7}{G:A aJ}(h:jb Z):(hB Z E B G).ws=Z.ws:=by
 have b:=B2 Z ⟨h.l,by have:=h.hn;omega⟩;have a:=Tm (E:=E) (B:=B) (G:=G) h (toNat (ck Z-Z.co)+1) (ck Z) b.2;have c:g1 Z E B G (toNat (ck Z-Z.co)+1) (ck Z)=mw Z E B G:=rfl;rw[c]at a;unfold hB;rw[H.bV];rcases a with e|⟨p,d,e⟩
 ·rw[e];rfl
 ·rw[e];rfl
theorem aDr{ms:O}{Z:H}{E:A O}{B:A a7}{G:A aJ}(h:bW Z)(b:fu ms):(od ms Z E B G).ws=Z.ws:=by
 have a:=h.i;have c:=yS a.pp.1 a.g7.1 b.ou;have d:=yS a.pp.2.1 a.g7.2.1 b.ou;have e:=yS a.pp.2.2 a.g7.2.2 b.ou;unfold od;generalize toNat ms.j=j
 match j with
 |0=>exact s5 (Vr ⟨a.bm,a.l,a.hK,a.co,a.gP,a.hn,a.ws,⟨c.1,a.pp.2⟩,a.li,a.u8,a.c8,⟨c.2.1,a.g7.2⟩⟩) rfl
 |1=>exact s5 (Vr ⟨a.bm,a.l,a.hK,a.co,a.gP,a.hn,a.ws,⟨a.pp.1,d.1,a.pp.2.2⟩,a.li,a.u8,a.c8,⟨a.g7.1,d.2.1,a.g7.2.2⟩⟩) rfl
 |j+2=>exact s5 (Vr ⟨a.bm,a.l,a.hK,a.co,a.gP,a.hn,a.ws,⟨a.pp.1,a.pp.2.1,e.1⟩,a.li,a.u8,a.c8,⟨a.g7.1,a.g7.2.1,e.2.1⟩⟩) rfl
theorem aDp{ms:O}{Z:H}{E:A O}{B:A a7}{G:A aJ}(h:bW Z):(ga ms Z E B G).ws=Z.ws:=by
 have a:=Tj (ms:=ms) (Z:=Z) (E:=E) (B:=B) (G:=G) ((toNat ((i64.wrap ((b6 Z.l Z.lt Z.li ms.p ms.v ms.i)+((b2 Z.l Z.lt Z.li ms.p ms.v ms.i).n:Int)))+1- (c7 Z.l Z.lt Z.li ms.p ms.v ms.i)))+1) (c7 Z.l Z.lt Z.li ms.p ms.v ms.i) Z.bd Z.bh h.i.u8;have c:eT ms Z E B G ((toNat ((i64.wrap ((b6 Z.l Z.lt Z.li ms.p ms.v ms.i)+((b2 Z.l Z.lt Z.li ms.p ms.v ms.i).n:Int)))+1- (c7 Z.l Z.lt Z.li ms.p ms.v ms.i)))+1) (c7 Z.l Z.lt Z.li ms.p ms.v ms.i) Z.bd Z.bh=j7 ms Z E B G:=rfl;rw[c]at a;unfold ga;refine s5 rfl (s5 (by kernel_rfl) ?_)
 cases cK:hA ms Z E B G
 ·refine(show(uT (j7 ms Z E B G).2.2.2).ws=Z.ws from ?_);have d:(j7 ms Z E B G).2.2.2=l6 Z E B G:=by
   rcases a with⟨a,_⟩|⟨_,a⟩
   ·unfold hA tZ at cK;rw[a]at cK
    cases b:decide (c7 Z.l Z.lt Z.li ms.p ms.v ms.i>0)<;>rw[b]at cK<;>cases cK
   ·exact a
  rw[d];rfl
 ·kernel_rfl
end Go.Proofs.YtfmgjpcmcjjoiaaGreatDoor
