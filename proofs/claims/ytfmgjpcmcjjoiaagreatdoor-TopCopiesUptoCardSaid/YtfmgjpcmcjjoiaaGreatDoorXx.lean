/- Part of a proof: walks of the program. -/
import Derived.Test.YtfmgjpcmcjjoiaaGreatDoorXr
import Derived.Test.YtfmgjpcmcjjoiaaGreatDoorXt
import Derived.Test.YtfmgjpcmcjjoiaaGreatDoorXu
open Go.IntKind (i64 u64 u8)
open Int (toNat)
set_option maxRecDepth 100000
set_option maxHeartbeats 4000000
set_option linter.all false
noncomputable section
namespace Go.Proofs.YtfmgjpcmcjjoiaaGreatDoor
open Go Go.RowKit Go.ah
section
variable(i:Nat)(ac:F)(Z:H)
def Iz:Bool:=(cond (Z.ro !=3) (decide (Z.aX<1048576)) false)
def DS:H:={Z with ro:=1,v0:=(Z.bm==0),v1:=(Z.bm==1),v2:=(Z.bm==2)}
def ob:H:=(H.bif (ac.j==2) (H.bif (Iz Z) (z5 (⟨0,0,1,(i64.wrap (Z.aX+1)),(ck (DS Z)),(tV (DS Z)),false,0,(L:A aI),0,0,0,(L:A aj),0,(L:A aG)⟩:O) (DS Z)) Z) (H.bif (ac.j==3) (H.bif (Z.ro==3) (z6 Z) Z) (H.bif (ac.j==4) (wL Z) (H.bif (ac.j==9) (lT ac.K Z) (H.bif (ac.j==11) (r9 Z) Z)))))
def wE(E:A O):A O:=(cond (ac.j==2) E (cond (ac.j==3) E (cond (ac.j==4) (D7 Z E) E)))
def MO:db:=⟨[.p 0,.e9 0 (33*i),.g [a,a,a,a,a,a,au,au,au,a]],b8,eL,er,fun(b:Int) (c:Int) (d:Int) (e:Int) (f:Int) (g:Int) h j k (l:Int)=>cB fun C=>⟨⟨some (jb (C.Z i)),[],cj ((aK.set (2*i) 10).set (2*i+1) 11) 2 (C.put i (ob (⟨b,c,d,e,f,g,h,j,k,l⟩:F) (C.Z i)) (wE (⟨b,c,d,e,f,g,h,j,k,l⟩:F) (C.Z i) C.s) C.told C.a2)⟩⟩⟩
def V5:cI:=⟨.eA true [.b 10] [.own (.h 0 (33*i+29)) cV 10,.own (.h 0 (33*i+32)) ca 11] (gj i ((aK.set (2*i) 10).set (2*i+1) 11) 2 [] 0) (gi i ((aK.set (2*i) 10).set (2*i+1) 11)),[],[]++fy i ((aK.set (2*i) 10).set (2*i+1) 11),⟨[],[]⟩⟩
def arB(C:ak):cm (V5 i).b_:=let a:=DS (C.Z i);(.ad (.ad (.ad (.s (.j ⟨8388610,[.b 10],[(.t 23,y)],[],.f⟩ .z (.bU ⟨([U,.ptr 0 (33*i+0)]++(us 21 (([.bool (Iz (C.Z i))]++(us 51 ([])))))),cn aK 0 C []⟩ (.s (.ad (.ad (.bU ⟨([U,.ptr 0 (33*i+0),U,U,U,U,b (ck a),b (tV a)]++(us 67 ([]))),cn aK 0 (C.set i a) []⟩ .z))) .z))) (.ad (.bU ⟨([.ptr 0 0,.ptr 0 (33*i+0),U,U,U,.ptr 10 0,U,U,U,b ac.j]++(us 40 (([.bool (ac.j==3)]++(us 24 ([])))))),cn aK 1 C [(10,[b ac.j,b ac.ai,b ac.K,b ac.an,b ac.p,b ac.v,.str ac.ax,.str ac.aF,.str ac.i,b ac.aP])]⟩ (.ad (.ad (.bU ⟨([.ptr 0 0,.ptr 0 (33*i+0),U,U,U,.ptr 10 0,U,U,U,b ac.j]++(us 49 (([.bool (ac.j==4)]++(us 15 ([])))))),cn aK 1 C [(10,[b ac.j,b ac.ai,b ac.K,b ac.an,b ac.p,b ac.v,.str ac.ax,.str ac.aF,.str ac.i,b ac.aP])]⟩ (.ad (.ad (.bU ⟨([.ptr 0 0,.ptr 0 (33*i+0),U,U,U,.ptr 10 0,U,U,U,b ac.j]++(us 54 (([.bool (ac.j==9)]++(us 10 ([])))))),cn aK 1 C [(10,[b ac.j,b ac.ai,b ac.K,b ac.an,b ac.p,b ac.v,.str ac.ax,.str ac.aF,.str ac.i,b ac.aP])]⟩ (.ad (.ad (.bU ⟨([U,.ptr 0 (33*i+0)]++(us 69 ([.bool (ac.j==11),U,U,U]))),cn aK 1 C [(10,[b ac.j,b ac.ai,b ac.K,b ac.an,b ac.p,b ac.v,.str ac.ax,.str ac.aF,.str ac.i,b ac.aP])]⟩ .z)))))))))))))))
def Uc(i:Nat)(ac:F)(C:ak):Prop:=(((ac.j==2)=true→((Iz (C.Z i))=true→((0:Int)≤(C.Z i).bm∧((C.Z i).bm:Int)<3)))∧((ac.j==2)=false→(((ac.j==3)=true→(((C.Z i).ro==3)=true→(0≤(C.Z i).eb∧(C.Z i).eb≤4194304∧0≤(C.Z i).dF∧(C.Z i).dF≤4194304∧0≤(C.Z i).dW∧(C.Z i).dW≤4194304)))∧((ac.j==3)=false→((ac.j==4)=false→(((ac.j==9)=true→(aO (C.Z i).bd))∧((ac.j==9)=false→((ac.j==11)=true→((C.Z i).co≤4194304)))))))))
theorem azf(i:Nat)(d:i<3)(ac:F)(C:ak)(c:ey C)(p:ac.ax.size≤549755813888)(q:ac.aF.size≤549755813888)(r:ac.i.size≤549755813888)(a:jb (C.Z i)):Uc i ac C:=by
 have b:=gQ c i d;unfold fv at b;unfold Uc;exact have:=a.bm;have:=a.l;have:=a.hK;have:=a.co;have:=a.gP;have:=a.hn;have:=a.ws;have:=a.pp;have:=a.li;have:=a.u8;(⟨(fun e=>(fun g=>(by omega))),(fun h=>⟨(fun j=>(fun k=>(by omega))),(fun l=>(fun m=>⟨(fun n=>(by first|(with_reducible (repeat first|assumption|apply dM|apply eW|apply eY|apply eX|apply gp|apply s|apply fQ|apply fI|apply fJ|apply gm|apply fH|apply gn|apply gk|apply gl|apply gU|apply g_|apply ha|apply ho|apply l8|apply kR|apply gF|apply Mi);done)|assumption)),(fun o=>(fun f=>(by omega)))⟩))⟩)⟩)
theorem aw3(i:Nat)(a:i<3)(ac:F)(e:ac.ax.size≤549755813888)(f:ac.aF.size≤549755813888)(g:ac.i.size≤549755813888):eP Tryz.prog 45 (MO i) b8 [] (cB fun C=>⟨⟨some (jb (C.Z i)),[],cj ((aK.set (2*i) 10).set (2*i+1) 11) 2 (C.put i (ob ac (C.Z i)) (wE ac (C.Z i) C.s) C.told C.a2)⟩⟩) [b ac.j,b ac.ai,b ac.K,b ac.an,b ac.p,b ac.v,.str ac.ax,.str ac.aF,.str ac.i,b ac.aP]:=by
 refine gg fun C c=>fun d=>ei (V5 i) (arB i ac C) (Uc i ac C) (bK 10 (aw ae7 aT) (av (xQ i a) (av (ae8 i a) (av (ae9 i a) (av (awf i a) (av (awg i a) (av (awh i a) bJ))))))) Tryz.func45 (List.replicate 31 .f++List.replicate 62 .l++[.f,.f]++List.replicate 4 .l++[(.b .l (.b .l (.b .f .l)))]++[.l,.l]) ?_ ?_ (azf i a ac C c e f g d)
 ·rcases b3 a with rfl|rfl|rfl<;>kernel_rfl
 ·rcases b3 a with rfl|rfl|rfl<;>kernel_rfl
theorem azP(i:Nat)(c:i<3):fV 45 (MO i):=
 jv (bp:=[a,a,a,a,a,a,au,au,au,a]) fun s b=>Eq.mp (by rcases b3 c with rfl|rfl|rfl<;>kernel_rfl) (aw3 i c ⟨s.1,s.2.1,s.2.2.1,s.2.2.2.1,s.2.2.2.2.1,s.2.2.2.2.2.1,s.2.2.2.2.2.2.1,s.2.2.2.2.2.2.2.1,s.2.2.2.2.2.2.2.2.1,s.2.2.2.2.2.2.2.2.2.1⟩ (b.2.2.2.2.2.2.1 rfl) (b.2.2.2.2.2.2.2.1 rfl) (b.2.2.2.2.2.2.2.2.1 rfl))
theorem awc(i:Nat)(a:i<3):fW 45 (MO i):=gq gf Tryz.func45 (azP i a)
end
def fk(s:A O):Prop:=s.n≤300∧ ∀j,j<s.n→fu (s.at' j)
structure bW (n:H):Prop where
 i:jb n
 o:fk n.bS
structure NB (m:O):Prop where
 ou:0≤m.p∧m.p≤1048576
 c8:0≤m.aP∧m.aP≤1048576
 li:dZ m.i
theorem uR{a b t d e k:Int}{f:Bool}(c:0≤d∧d≤1048576):NB ⟨a,b,k,t,d,e,f,0,L,0,0,0,L,0,L⟩:=⟨c,(by decide:(0:Int)≤0∧(0:Int)≤1048576),l2⟩
theorem jb.hR{n:H}(h:jb n)(m:H)(e:(m.bm,m.l,m.co,m.li,m.eb,m.dF,m.dW,m.c8,m.g6,m.q1,m.fp)=(n.bm,n.l,n.co,n.li,n.eb,n.dF,n.dW,n.c8,n.g6,n.q1,n.fp))(k:aO m.bd)(l:m.ws.n≤3000):jb m:=by
 simp only[s_]at e;obtain⟨c,a,bl,b,cQ,i,j,d,f,g,O9⟩:=e;exact⟨by rw[c];exact h.bm,by rw[a];exact h.l,by rw[a,bl];exact h.hK,by rw[bl];exact h.co,by rw[b];exact h.gP,by rw[a,b];exact h.hn,l,by rw[cQ,i,j];exact h.pp,by rw[b];exact h.li,k,by rw[d];exact h.c8,by rw[f,g,O9];exact h.g7⟩
theorem nt{c:Bool}{a b:H}(d:c=true→bW a)(e:c=false→bW b):bW (H.bif c a b):=by
 rw[H.bV]
 cases c
 ·exact e rfl
 ·exact d rfl
theorem pf{d:Int}{ms:O}{Z:H}(h:bW Z)(f:0≤d∧d<3)(a:NB ms):bW (ed d ms Z):=by
 refine⟨h.i.hR _ (by kernel_rfl) h.i.u8 h.i.ws,?_⟩;show fk (Q9 d ms Z);unfold Q9
 by_cases c:(Z.bS.n:Int)<300
 ·rw[bT c,aN];refine⟨?_,fun j b=> ?_⟩
  ·show Z.bS.n+1≤300;omega
  ·show fu (cond (Nat.blt j Z.bS.n) (Z.bS.at' j) _)
   cases e:Nat.blt j Z.bS.n with
   |true=>exact h.o.2 j (by simpa[fU]using e)
   |false=>
    have i:j<Z.bS.n+1:=b;have: ¬j<Z.bS.n:=fun aZ=>by
     rw[show Nat.blt j Z.bS.n=true by rw[fU];exact aZ]at e
     cases e
    have g:j-Z.bS.n=0:=by omega
    simp only[aQ,g];exact⟨h.i.bm,f,a.ou,a.c8,a.li⟩
 ·rw[bI c,aQ];exact h.o
theorem aeD{rc:b7}{Z:H}(h:bW Z):bW (h_ rc Z):=⟨h.i.hR _ (by kernel_rfl) (u4 h.i.u8) h.i.ws,h.o⟩
theorem SX{d g:Int}{Z:H}(h:bW Z):bW (f_ d g Z):=⟨h.i.hR _ (by kernel_rfl) (u4 h.i.u8) h.i.ws,h.o⟩
theorem aeA{Z:H}(h:bW Z):bW (gM Z):=⟨h.i.hR _ (by kernel_rfl) h.i.u8 (by
  show(cond (Z.ro==2) (L:A hI) Z.ws).n≤3000
  cases (Z.ro==2)
  ·exact h.i.ws
  ·exact cA _),h.o⟩
theorem SY{d:Int}{Z:H}(h:bW Z)(a:0≤d∧d<3):bW (qk d Z):=pf h a (uR (by decide))
theorem aum{ms:O}{Z:H}(h:bW Z)(a:0≤ms.j∧ms.j<3):bW (wH ms Z):=by
 have b:=pf (ms:=⟨0,0,2,ms.an,0,0,false,0,L,0,0,0,L,0,L⟩) h a (uR (by decide));have c:=SY h a;refine⟨h.i.hR _ (by kernel_rfl) h.i.u8 h.i.ws,?_⟩;show fk (cond (ID ms Z) _ _)
 cases ID ms Z
 ·exact c.o
 ·exact b.o
theorem aeB{ms:O}{Z:H}(h:bW Z)(b:NB ms):bW (z5 ms Z):=by
 have a:bW (D5 ms Z):=by
  refine⟨h.i.hR _ (by kernel_rfl) h.i.u8 h.i.ws,?_⟩;show fk (cond (0 !=Z.bm) (ed 0 ms Z).bS Z.bS)
  cases (0 !=Z.bm)
  ·exact h.o
  ·exact(pf h (by decide) b).o
 have c:bW (D6 ms Z):=by
  refine⟨a.i.hR _ (by kernel_rfl) a.i.u8 a.i.ws,?_⟩;show fk (cond (1 !=Z.bm) (ed 1 ms (D5 ms Z)).bS (Q3 ms Z))
  cases (1 !=Z.bm)
  ·exact a.o
  ·exact(pf a (by decide) b).o
 refine⟨h.i.hR _ (by kernel_rfl) h.i.u8 h.i.ws,?_⟩;show fk (cond (2 !=Z.bm) (ed 2 ms (D6 ms Z)).bS (Q4 ms Z))
 cases (2 !=Z.bm)
 ·exact c.o
 ·exact(pf c (by decide) b).o
theorem OD{Z:H}(h:jb Z):0≤ck Z∧ck Z≤1048576:=by
 have:=B2 Z ⟨h.l,by have:=h.hn;omega⟩;have:=h.hn;omega
theorem aun{Z:H}(h:bW Z):bW (lR Z):=by
 have b:aO (IE Z):=by
  unfold IE
  cases (Z.aX==1048576)
  ·exact u4 h.i.u8
  ·exact h.i.u8
 have c:bW (DX Z):=⟨h.i.hR _ (by kernel_rfl) b h.i.ws,h.o⟩;have a:bW (DY Z):=⟨h.i.hR _ (by kernel_rfl) b h.i.ws,h.o⟩;unfold lR;exact nt (fun _=>c) fun _=>aeB a (uR (OD a.i))
theorem auo{ms:O}{Z:H}(h:bW Z)(b:0≤ms.j∧ms.j<3):bW (k_ ms Z):=by
 have c:aO (IF ms Z):=by
  unfold IF
  cases (!(uo Z.l Z.lt Z.li ms.p ms.v))<;>cases decide (Z.dH≥0)<;>cases (Z.dH !=ms.j)<;>cases decide (Z.dH<0)<;>first|exact h.i.u8|exact u4 h.i.u8
 have a:bW (wI ms Z):=⟨h.i.hR _ (by kernel_rfl) c h.i.ws,h.o⟩;unfold k_;exact nt (fun _=>SY a b) fun _=>pf a b (uR (by decide))
end Go.Proofs.YtfmgjpcmcjjoiaaGreatDoor
