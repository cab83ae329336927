/- Part of a proof: walks of the program. -/
import Derived.Test.YtfmgjpcmcjjoiaaGreatDoorXw
import Derived.Test.YtfmgjpcmcjjoiaaGreatDoorXz
import Derived.Test.YtfmgjpcmcjjoiaaGreatDoorYa
open Go.IntKind (i64 u64 u8)
open Int (toNat)
set_option maxRecDepth 100000
set_option maxHeartbeats 4000000
set_option linter.all false
noncomputable section
namespace Go.Proofs.YtfmgjpcmcjjoiaaGreatDoor
open Go Go.RowKit Go.Vc
theorem Xn{ms:aF}{nd:Nd}{ka:Sl aF}{kt:Sl bI}{kl:Sl aS} : ∀(k:Nat) (v:Int) (a:Sl Int) (b:Int),U8 a→
  ((rf ms nd ka kt kl k v a b).1=false∧U8 (rf ms nd ka kt kl k v a b).2.1)∨((rf ms nd ka kt kl k v a b).1=true∧(rf ms nd ka kt kl k v a b).2.2.2=D9 nd ka kt kl)
 |0,_,_,_,_=> .inl ⟨rfl,Zr⟩
 |k+1,v,a,b,ha=>by
  rw[rf]
  cases decide (v≤i64.wrap (bZ nd.lb nd.lt nd.li ms.c4 ms.c5 ms.c8+((bT nd.lb nd.lt nd.li ms.c4 ms.c5 ms.c8).n:Int)))
  ·exact .inl ⟨rfl,ha⟩
  ·simp only[aCJ];generalize hg:lB _ _=q
   cases q
   ·exact .inr ⟨rfl,rfl⟩
   ·exact Xn k _ _ _ (wN ha)
theorem at1{ms:aF}{nd:Nd}{ka:Sl aF}{kt:Sl bI}{kl:Sl aS}(h:bM nd)(hm:ie ms):bM (xU ms nd ka kt kl)∧GD ms nd ka kt kl=ka∧(((GG ms nd ka kt kl).n:Nat):Int)≤(kt.n:Int)+600000∧GF ms nd ka kt kl=kl:=by
 have hi:=h.i;unfold xU GD GG GF;rw[Nd.lX,Nd.lX,Nd.lX]
 cases e1:(kj nd.lb nd.lt nd.li ms.c4 ms.c5 ms.c8 !=0)
 ·cases e2:(!(ki nd.lb nd.lt nd.li ms.c4 ms.c5 ms.c8))
  ·simp only[aCI];have he:=bE e1;have k:=DJ he e2;have kb:=RN ms nd he e2;have hr:=Xn (ms:=ms) (nd:=nd) (ka:=ka) (kt:=kt) (kl:=kl) ((toNat ((i64.wrap ((bZ nd.lb nd.lt nd.li ms.c4 ms.c5 ms.c8)+((bT nd.lb nd.lt nd.li ms.c4 ms.c5 ms.c8).n:Int)))+1- (d_ nd.lb nd.lt nd.li ms.c4 ms.c5 ms.c8)))+1) (d_ nd.lb nd.lt nd.li ms.c4 ms.c5 ms.c8) nd.td nd.ts hi.u8;have HV:rf ms nd ka kt kl ((toNat ((i64.wrap ((bZ nd.lb nd.lt nd.li ms.c4 ms.c5 ms.c8)+((bT nd.lb nd.lt nd.li ms.c4 ms.c5 ms.c8).n:Int)))+1- (d_ nd.lb nd.lt nd.li ms.c4 ms.c5 ms.c8)))+1) (d_ nd.lb nd.lt nd.li ms.c4 ms.c5 ms.c8) nd.td nd.ts=o5 ms nd ka kt kl:=rfl;rw[HV]at hr
   cases e9:rl ms nd ka kt kl
   ·simp only[aCI];have ht:(o5 ms nd ka kt kl).2.2.2=D9 nd ka kt kl:=by
     rcases hr with⟨hr,_⟩|⟨_,hr⟩
     ·unfold rl LO at e9;rw[hr]at e9
      cases hd:decide (d_ nd.lb nd.lt nd.li ms.c4 ms.c5 ms.c8>0)<;>rw[hd]at e9<;>cases e9
     ·exact hr
    rw[ht];exact⟨h,(by first|rfl|trivial),by show(kt.n:Int)≤_;omega,(by first|rfl|trivial)⟩
   ·simp only[aCJ];have hu:U8 (UB ms nd ka kt kl):=by
     unfold UB
     cases hd:decide (d_ nd.lb nd.lt nd.li ms.c4 ms.c5 ms.c8>0)
     ·exact hi.u8
     ·rcases hr with⟨_,hr⟩|⟨hr,_⟩
      ·exact hr
      ·unfold rl LO at e9;rw[hd,hr]at e9
       cases e9
    have hl:dN (oZ ms nd):=by
     unfold oZ;exact IC (k.2.2.2.2.2.2 hi.li hm.li) hi.li
    have hln:nd.lb+((oZ ms nd).n:Int)≤1048576:=by
     have h1:=JE (s:=oZ ms nd) _ _ _ rfl;have h2:=k.2.2.1.1;have h3:=hi.ll;rw[k.1]at*
     omega
    have hs:bM (LP ms nd ka kt kl):=by
     refine⟨⟨hi.me,?_,?_,hi.co,kb.2.2,?_,hi.ws,hi.pp,hl,hu,hi.si,hi.qq⟩,h.o⟩
     ·show 0≤rh ms nd;rw[kb.1];exact hi.lb
     ·show rh ms nd≤nd.co;rw[kb.1];exact hi.bc
     ·show rh ms nd+((oZ ms nd).n:Int)≤1048576;rw[kb.1];exact hln
    have hw:i64.wrap (ms.c4+(ms.c8.n:Int))=ms.c4+(ms.c8.n:Int):=wrap64 (by have:=hm.la;omega) (by have:=k.2.2.2.2.2.1;omega);have hla:0≤ms.c4+(ms.c8.n:Int)∧ms.c4+(ms.c8.n:Int)≤1048576:=by have:=k.2.2.2.2.2.1;omega
    rw[hw];have hsend:=qd (x0:=ms.c0) (ms:=⟨0,0,6,nd.te,ms.c4+(ms.c8.n:Int),0,true,0,al,0,0,0,al,0,al⟩) hs hm.fr (wG hla);have hd:=ahf (x0:=gM ms.c7 (ms.c4+(ms.c8.n:Int))) (kt:=kt) hsend (by
     show gM ms.c7 (ms.c4+(ms.c8.n:Int))≤rh ms nd+((oZ ms nd).n:Int);have:=rX ms.c7 (ms.c4+(ms.c8.n:Int));rw[kb.1];have:=kb.2.1;omega)
    exact⟨hd.1,(by first|rfl|trivial),hd.2,(by first|rfl|trivial)⟩
  ·simp only[aCI,aCJ];exact⟨qd h hm.fr (wG ⟨by have:=hi.lb;have:=hi.bc;omega,hi.co⟩),(by first|rfl|trivial),by omega,(by first|rfl|trivial)⟩
 ·simp only[aCJ];exact⟨h,(by first|rfl|trivial),by omega,(by first|rfl|trivial)⟩
theorem WL{ms:aF}{nd n1 n2:Nd}{ka:Sl aF}{kt:Sl bI}{kl:Sl aS}(h1:bM n1)(h2:bM n2):
  bM (Nd.bif ms.c6 (tM n1 ka kt kl) n2)∧(bif ms.c6 then ym n1 ka kt kl else ka)=ka∧(((bif ms.c6 then yo n1 ka kt kl else kt).n:Nat):Int)≤(kt.n:Int)+600000∧(bif ms.c6 then yn n1 ka kt kl else kl)=kl:=by
 rw[Nd.lX]
 cases ms.c6
 ·exact⟨h2,rfl,by simp only[aCI];omega,rfl⟩
 ·exact at7 h1
theorem AL{p q c:Int}(hp:0≤p∧p≤1048577)(hq:0≤q∧q≤1048576)(hc:0≤c∧c≤1048576):(0≤imax p (i64.wrap (c+1))∧imax p (i64.wrap (c+1))≤1048577)∧(0≤imax q c∧imax q c≤1048576)∧(0≤i64.wrap (imax q c+1)∧i64.wrap (imax q c+1)≤1048577):=by
 have h1:=aq (c+1);have h2:=NR p (i64.wrap (c+1));have h3:=NR q c;have h4:=aq (imax q c+1);omega
theorem at3{ms:aF}{nd:Nd}{ka:Sl aF}{kt:Sl bI}{kl:Sl aS}(h:bM nd)(hm:ie ms):bM (xW ms nd ka kt kl)∧GO ms nd ka kt kl=ka∧(((GR ms nd ka kt kl).n:Nat):Int)≤(kt.n:Int)+600000∧GQ ms nd ka kt kl=kl:=by
 have hi:=h.i;have a0:=AL hi.pp.1 hi.qq.1 hm.la;have a1:=AL hi.pp.2.1 hi.qq.2.1 hm.la;have a2:=AL hi.pp.2.2 hi.qq.2.2 hm.la;unfold xW GO GR GQ;generalize toNat ms.c0=j
 match j with
 |0=>exact WL (ms:=ms) (nd:=nd) ⟨⟨hi.me,hi.lb,hi.bc,hi.co,hi.ln,hi.ll,hi.ws,⟨a0.1,hi.pp.2⟩,hi.li,hi.u8,hi.si,⟨a0.2.1,hi.qq.2⟩⟩,h.o⟩ ⟨⟨hi.me,hi.lb,hi.bc,hi.co,hi.ln,hi.ll,hi.ws,⟨a0.2.2,hi.pp.2⟩,hi.li,hi.u8,hi.si,hi.qq⟩,h.o⟩
 |1=>exact WL (ms:=ms) (nd:=nd) ⟨⟨hi.me,hi.lb,hi.bc,hi.co,hi.ln,hi.ll,hi.ws,⟨hi.pp.1,a1.1,hi.pp.2.2⟩,hi.li,hi.u8,hi.si,⟨hi.qq.1,a1.2.1,hi.qq.2.2⟩⟩,h.o⟩ ⟨⟨hi.me,hi.lb,hi.bc,hi.co,hi.ln,hi.ll,hi.ws,⟨hi.pp.1,a1.2.2,hi.pp.2.2⟩,hi.li,hi.u8,hi.si,hi.qq⟩,h.o⟩
 |j+2=>exact WL (ms:=ms) (nd:=nd) ⟨⟨hi.me,hi.lb,hi.bc,hi.co,hi.ln,hi.ll,hi.ws,⟨hi.pp.1,hi.pp.2.1,a2.1⟩,hi.li,hi.u8,hi.si,⟨hi.qq.1,hi.qq.2.1,a2.2.1⟩⟩,h.o⟩ ⟨⟨hi.me,hi.lb,hi.bc,hi.co,hi.ln,hi.ll,hi.ws,⟨hi.pp.1,hi.pp.2.1,a2.2.2⟩,hi.li,hi.u8,hi.si,hi.qq⟩,h.o⟩
theorem aha{it:aM}{nd:Nd}(h:bM nd)(ht:lU it):bM (l6 it nd):=by
 have hi:=h.i;have hu:U8 (LJ it nd):=by
  unfold LJ
  cases (kj nd.lb nd.lt nd.li (cy nd) (h_ nd) (Sl.lit ([it]:List aM))!=0)<;>cases (!(ki nd.lb nd.lt nd.li (cy nd) (h_ nd) (Sl.lit ([it]:List aM))))<;>cases (d_ nd.lb nd.lt nd.li (cy nd) (h_ nd) (Sl.lit ([it]:List aM))==0)<;>first|exact hi.u8|exact wN hi.u8
 cases e:vF it nd
 ·have e1:(kj nd.lb nd.lt nd.li (cy nd) (h_ nd) (Sl.lit ([it]:List aM))!=0)=false:=by
   unfold vF at e
   cases e1:(kj nd.lb nd.lt nd.li (cy nd) (h_ nd) (Sl.lit ([it]:List aM))!=0)
   ·rfl
   ·rw[e1]at e;cases e
  have e2:(!(ki nd.lb nd.lt nd.li (cy nd) (h_ nd) (Sl.lit ([it]:List aM))))=false:=by
   unfold vF at e;rw[e1]at e
   cases e2:(!(ki nd.lb nd.lt nd.li (cy nd) (h_ nd) (Sl.lit ([it]:List aM))))
   ·rfl
   ·rw[e2]at e;cases e
  have k:=DJ (bE e1) e2;have hl:dN (Sl.lit ([it]:List aM)):=fun j=>by
   show lU (([it]:List aM).getD j default)
   cases j with
   |zero=>exact ht
   |succ j=>exact ag_
  have f1:(l6 it nd).lb=nd.lb:=by
   show Gv it nd=_;unfold Gv;rw[e];exact k.1
  have f2:(l6 it nd).li=bT nd.lb nd.lt nd.li (cy nd) (h_ nd) (Sl.lit ([it]:List aM)):=by
   show Gw it nd=_;unfold Gw;rw[e];rfl
  exact⟨⟨hi.me,by rw[f1];exact hi.lb,by rw[f1];exact hi.bc,hi.co,by rw[f2];exact k.2.2.1.2,by rw[f1,f2];have:=k.2.2.1.1;omega,hi.ws,hi.pp,by rw[f2];exact k.2.2.2.2.2.2 hi.li hl,hu,hi.si,hi.qq⟩,h.o⟩
 ·have f1:(l6 it nd).lb=nd.lb:=by
   show Gv it nd=_;unfold Gv;rw[e];rfl
  have f2:(l6 it nd).li=nd.li:=by
   show Gw it nd=_;unfold Gw;rw[e];rfl
  exact⟨⟨hi.me,by rw[f1];exact hi.lb,by rw[f1];exact hi.bc,hi.co,by rw[f2];exact hi.ln,by rw[f1,f2];exact hi.ll,hi.ws,hi.pp,by rw[f2];exact hi.li,hu,hi.si,hi.qq⟩,h.o⟩
theorem z01:(0:Int)≤0∧(0:Int)≤1048576:=by decide
theorem Vy{to p:Int}{nd:Nd}(h:bM nd)(n0:Nd)(hx:0≤to∧to<3)(hp:0≤p∧p≤1048577)(h0:iO n0):
  fE (bif decide (i64.wrap (p-1)<n0.lb)then(ft to ⟨0,0,7,n0.te,0,0,false,0,al,n0.si,n0.sg,n0.sn,n0.se,n0.sx,n0.sc⟩ nd).ou else(ft to ⟨0,0,5,n0.te,i64.wrap (p-1),lE n0.lb n0.lt n0.li (i64.wrap (p-1)),false,n0.co,rz n0.lb n0.lt n0.li (i64.wrap (p-1)) 8,0,0,0,al,0,al⟩ nd).ou):=by
 by_cases c:i64.wrap (p-1)<n0.lb
 ·rw[cx c];exact(qd h hx ⟨z01,h0.si,mK⟩).o
 ·rw[cq c];have hw:=aq (p-1);refine(qd h hx ⟨?_,z01,?_⟩).o
  ·show 0≤i64.wrap (p-1)∧i64.wrap (p-1)≤1048576;have:=h0.lb;omega
  ·show dN (rz n0.lb n0.lt n0.li (i64.wrap (p-1)) 8);unfold rz;exact IC mK (IC mK (IC mK (zX (zX h0.li _ _) _ _)))
theorem ahd{nd:Nd}(h:bM nd):bM (Ce nd):=by
 have hi:=h.i;have h1:bM (Cf nd):=by
  refine⟨hi.iG _ (by kernel_rfl) (Eq.mp (by kernel_rfl) hi.u8) (Eq.mp (by kernel_rfl) hi.ws),?_⟩;show fE (LQ nd);unfold LQ
  cases (0==nd.me)
  ·exact Vy (to:=0) (p:=nd.p0) h nd (by decide) hi.pp.1 hi
  ·exact h.o
 have h2:bM (Cg nd):=by
  refine⟨hi.iG _ (by kernel_rfl) (Eq.mp (by kernel_rfl) hi.u8) (Eq.mp (by kernel_rfl) hi.ws),?_⟩;show fE (LR nd);unfold LR
  cases (1==nd.me)
  ·exact Vy (to:=1) (p:=nd.p1) h1 nd (by decide) hi.pp.2.1 hi
  ·exact h1.o
 refine⟨hi.iG _ (by kernel_rfl) (Eq.mp (by kernel_rfl) hi.u8) (Eq.mp (by kernel_rfl) hi.ws),?_⟩;show fE (LS nd);unfold LS
 cases (2==nd.me)
 ·exact Vy (to:=2) (p:=nd.p2) h2 nd (by decide) hi.pp.2.2 hi
 ·exact h2.o
theorem at0{nd:Nd}(h:bM nd):bM (GC nd):=by
 have hi:=h.i;have hb:=RO hi;have hw:=aq (cy nd+1);have hp:0≤i64.wrap (cy nd+1)∧i64.wrap (cy nd+1)≤1048577:=by omega
 have z:(0:Int)≤0∧(0:Int)≤1048576:=by decide
 have h2:bM (pM nd):=⟨⟨hi.me,hi.lb,hi.bc,hi.co,hi.ln,hi.ll,hi.ws,⟨hp,hp,hp⟩,hi.li,hi.u8,hi.si,⟨z,z,z⟩⟩,h.o⟩;have h3:=aha (it:=(⟨nd.te,(jR (pM nd)),true,0,0,0,⟨#[]⟩,⟨#[]⟩,⟨#[]⟩,0⟩:aM)) h2 ⟨aCQ _,aCQ _,aCQ _⟩;have h4:=ahd h3;exact h4
theorem u39{x0:Sl Int}{x1:Int}(h:U8 x0):U8 (L3 x0 x1):=by
 unfold L3
 cases (!(iB x0 x1))
 ·exact lO h
 ·exact Jh
theorem X5:fE (al:Sl aF):=⟨aCQ _,fun _ h=>absurd h (fC _)⟩
theorem at4{nd:Nd}(h:bM nd):bM (GY nd):=⟨h.i.iG _ (by kernel_rfl) (u39 h.i.u8) h.i.ws,X5⟩
theorem aiH{s:Sl aF}{x:aF}(h:fE s)(hn:s.n<300)(hx:ie x):fE (Sl.app s (Sl.lit [x])):=by
 refine⟨?_,fun j hj=> ?_⟩
 ·show s.n+1≤300;omega
 ·show ie (bif Nat.blt j s.n then s.at' j else(([x]:List aF).getD (j-s.n) default))
  cases e:Nat.blt j s.n with
  |true=>exact h.2 j (by rw[aC9]at e;exact e)
  |false=>
   have nn:j<s.n+1:=hj;have: ¬j<s.n:=fun hh=>by
    rw[show Nat.blt j s.n=true by rw[aC9];exact hh]at e
    cases e
   have hz:j-s.n=0:=by omega
   rw[hz];exact hx
theorem ahO{nd:Nd}(h:fE nd.ou): ∀(k:Nat) (v:Int) (s:Sl aF),0≤v→v≤(nd.ou.n:Int)→toNat ((nd.ou.n:Int)-v)<k→fE s→fE (GZ nd k v s)
 |0,_,_,_,_,hk,_=>absurd hk (fC _)
 |k+1,v,s,h0,h1,hk,hs=>by
  have hn:=h.1;rw[GZ]
  by_cases e:v<(nd.ou.n:Int)
  ·rw[cx e,aCJ,aq (v+1)];refine ahO h k (v+1) _ (by omega) (by omega) (by omega) ?_;unfold LW
   by_cases c:(s.n:Int)<300
   ·rw[cx c];exact aiH hs (by omega) (h.2 _ (by omega))
   ·rw[cq c];exact hs
  ·rw[cq e,aCI];exact hs
theorem anl{nd:Nd}{ka:Sl aF}(h:bM nd)(ha:fE ka):fE (LU nd ka):=
 ahO h.o _ 0 ka (aCT _) (by omega) (by omega) ha
theorem at6{nd:Nd}(h:bM nd):bM (xX nd):=by
 have hi:=h.i;have r:=YG (x1:=nd.lt) hi.lb hi.ll hi.ln ⟨by have:=hi.lb;have:=hi.bc;omega,hi.co⟩ hi.li;have hs:bM (afr nd):=⟨⟨hi.me,r.1.1,r.1.2,hi.co,r.2.1,r.2.2.1,hi.ws,hi.pp,r.2.2.2,wN hi.u8,⟨by have:=hi.lb;have:=hi.bc;show 0≤nd.co;omega,hi.co⟩,hi.qq⟩,h.o⟩;unfold xX;exact oA (fun _=>h) fun _=>oA (fun _=>hs) fun _=>ahe h
theorem atU{cl:lR}{nd:Nd}(h:bM nd)(hw:nd.ws.n<3000)(h3:cl.c3.size≤10000000000)(h4:cl.c4.size≤10000000000)(h5:cl.c5.size≤10000000000):bM (xO cl nd)∧(xO cl nd).ws.n≤nd.ws.n+1:=by
 have hp:=aha (it:=(⟨nd.te,(jR nd),false,cl.c0,cl.c1,cl.c2,cl.c3,cl.c4,cl.c5,cl.c6⟩:aM)) h ⟨h3,h4,h5⟩;have fy:=hp.i;have h1:bM (afi cl nd):=⟨⟨fy.me,fy.lb,fy.bc,fy.co,fy.ln,fy.ll,(by show nd.ws.n+1≤3000;omega),fy.pp,fy.li,fy.u8,fy.si,fy.qq⟩,hp.o⟩;unfold xO;simp only[Nd.lX]
 cases (!nd.up)<;>simp only[aCI,aCJ]
 ·cases (nd.ro !=3)<;>simp only[aCI,aCJ]
  ·generalize (!(tK (⟨nd.te,(jR nd),false,cl.c0,cl.c1,cl.c2,cl.c3,cl.c4,cl.c5,cl.c6⟩:aM) nd))=b
   cases b<;>simp only[aCI,aCJ]
   ·exact⟨h1,aCK _⟩
   ·exact⟨hp,Nat.le_succ _⟩
  ·exact⟨h,Nat.le_succ _⟩
 ·exact⟨h,Nat.le_succ _⟩
theorem aAU{cl:lR}{nd:Nd}{kt:Sl bI} :(B7 cl nd kt).n≤kt.n+1:=by
 unfold B7;generalize (!(tK (⟨nd.te,(jR nd),false,cl.c0,cl.c1,cl.c2,cl.c3,cl.c4,cl.c5,cl.c6⟩:aM) nd))=b
 cases (!nd.up)<;>cases (nd.ro !=3)<;>cases b<;>first|exact aCK _|exact Nat.le_succ _
theorem u5{c:Bool}{a b:Nd}{s:Sl iP}(ha:a.ws=s)(hb:b.ws=s):(Nd.bif c a b).ws=s:=by
 rw[Nd.lX]
 cases c
 ·exact hb
 ·exact ha
theorem aBl(n:Nd):(xS n).ws=n.ws:=by
 unfold xS;exact u5 (by kernel_rfl) (by kernel_rfl)
theorem aBn(ms:aF)(n:Nd):(xT ms n).ws=n.ws:=by
 unfold xT;exact u5 (by kernel_rfl) (by kernel_rfl)
theorem aBr(ms:aF)(n:Nd):(xV ms n).ws=n.ws:=by
 unfold xV;exact u5 (by kernel_rfl) (by kernel_rfl)
theorem aBo(n:Nd):(GC n).ws=n.ws:=by kernel_rfl
theorem aBk(ms:aF)(n:Nd):(Gx ms n).ws=n.ws:=by kernel_rfl
theorem aBm(x:Int)(n:Nd):(vH x n).ws=n.ws:=by kernel_rfl
theorem aBj(x y:Int)(n:Nd):(iV x y n).ws=n.ws:=by kernel_rfl
theorem aBp(n:Nd):(m9 n).ws.n≤n.ws.n:=by
 show(bif n.ro==2 then(al:Sl iP)else n.ws).n≤n.ws.n
 cases (n.ro==2)
 ·exact aCK _
 ·exact aCQ _
theorem Zy{nd:Nd}{ka:Sl aF}{kt:Sl bI}{kl:Sl aS}(h:iO nd):(tM nd ka kt kl).ws=nd.ws:=by
 have hb:=JB nd ⟨h.lb,by have:=h.ll;omega⟩;have hl:=Xp (ka:=ka) (kt:=kt) (kl:=kl) h (toNat (cy nd-nd.co)+1) (cy nd) hb.2;have hr:vM nd ka kt kl (toNat (cy nd-nd.co)+1) (cy nd)=rq nd ka kt kl:=rfl;rw[hr]at hl;unfold tM;rw[Nd.lX];rcases hl with e|⟨p,hp,e⟩
 ·rw[e];rfl
 ·rw[e];rfl
theorem aBs{ms:aF}{nd:Nd}{ka:Sl aF}{kt:Sl bI}{kl:Sl aS}(h:bM nd)(hm:ie ms):(xW ms nd ka kt kl).ws=nd.ws:=by
 have hi:=h.i;have a0:=AL hi.pp.1 hi.qq.1 hm.la;have a1:=AL hi.pp.2.1 hi.qq.2.1 hm.la;have a2:=AL hi.pp.2.2 hi.qq.2.2 hm.la;unfold xW;generalize toNat ms.c0=j
 match j with
 |0=>exact u5 (Zy ⟨hi.me,hi.lb,hi.bc,hi.co,hi.ln,hi.ll,hi.ws,⟨a0.1,hi.pp.2⟩,hi.li,hi.u8,hi.si,⟨a0.2.1,hi.qq.2⟩⟩) rfl
 |1=>exact u5 (Zy ⟨hi.me,hi.lb,hi.bc,hi.co,hi.ln,hi.ll,hi.ws,⟨hi.pp.1,a1.1,hi.pp.2.2⟩,hi.li,hi.u8,hi.si,⟨hi.qq.1,a1.2.1,hi.qq.2.2⟩⟩) rfl
 |j+2=>exact u5 (Zy ⟨hi.me,hi.lb,hi.bc,hi.co,hi.ln,hi.ll,hi.ws,⟨hi.pp.1,hi.pp.2.1,a2.1⟩,hi.li,hi.u8,hi.si,⟨hi.qq.1,hi.qq.2.1,a2.2.1⟩⟩) rfl
theorem aBq{ms:aF}{nd:Nd}{ka:Sl aF}{kt:Sl bI}{kl:Sl aS}(h:bM nd):(xU ms nd ka kt kl).ws=nd.ws:=by
 have hr:=Xn (ms:=ms) (nd:=nd) (ka:=ka) (kt:=kt) (kl:=kl) ((toNat ((i64.wrap ((bZ nd.lb nd.lt nd.li ms.c4 ms.c5 ms.c8)+((bT nd.lb nd.lt nd.li ms.c4 ms.c5 ms.c8).n:Int)))+1- (d_ nd.lb nd.lt nd.li ms.c4 ms.c5 ms.c8)))+1) (d_ nd.lb nd.lt nd.li ms.c4 ms.c5 ms.c8) nd.td nd.ts h.i.u8;have HV:rf ms nd ka kt kl ((toNat ((i64.wrap ((bZ nd.lb nd.lt nd.li ms.c4 ms.c5 ms.c8)+((bT nd.lb nd.lt nd.li ms.c4 ms.c5 ms.c8).n:Int)))+1- (d_ nd.lb nd.lt nd.li ms.c4 ms.c5 ms.c8)))+1) (d_ nd.lb nd.lt nd.li ms.c4 ms.c5 ms.c8) nd.td nd.ts=o5 ms nd ka kt kl:=rfl;rw[HV]at hr;unfold xU;refine u5 rfl (u5 (by kernel_rfl) ?_)
 cases e9:rl ms nd ka kt kl
 ·refine(show(XN (o5 ms nd ka kt kl).2.2.2).ws=nd.ws from ?_);have ht:(o5 ms nd ka kt kl).2.2.2=D9 nd ka kt kl:=by
   rcases hr with⟨hr,_⟩|⟨_,hr⟩
   ·unfold rl LO at e9;rw[hr]at e9
    cases hd:decide (d_ nd.lb nd.lt nd.li ms.c4 ms.c5 ms.c8>0)<;>rw[hd]at e9<;>cases e9
   ·exact hr
  rw[ht];rfl
 ·kernel_rfl
end Go.Proofs.YtfmgjpcmcjjoiaaGreatDoor
