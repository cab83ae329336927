/- Part of a proof: the executor and its soundness. -/
import Derived.Test.YtfmgjpcmcjjoiaaGreatDoorXe
import Derived.Test.YtfmgjpcmcjjoiaaGreatDoorRows
open Go.IntKind (i64 u64 u8)
open Int (toNat)
set_option maxRecDepth 100000
set_option maxHeartbeats 4000000
set_option linter.all false
noncomputable section
namespace Go.Vc
open Go Go.RowKit
section
variable {E:Env} {S:dF} {ops:Array Oper} {rs:List Rec} {cz:St} {jL:Nat→Option Nat}
theorem abc{b o:Nat} : ∀{cs:List AV},cs.isEmpty=false→iy b cs o≠[]
 |[],h=>by cases h
 |_::_,_=>by simp [iy]
theorem az8{nb XJ:Nat}{r jA:AV}{ws:Ws}(h:uQ nb r ws fun av ws=>av=jA∧ws=[]):uQ XJ r ws fun av ws=>av=jA∧ws=[]:=by
 cases r<;>simp only[uQ]at h ⊢ <;>first|exact h|exact absurd h.2 (by simp)
theorem asT{E:Env}{nb:Nat}{H:Heap}{f:FuncId}{aa:List AV}{jA:AV}(hk:ot E H nb f aa fun av ws=>av=jA∧ws=[]):False:=by
 unfold ot at hk;obtain⟨h1,hk⟩:=aD.1 hk
 cases hs:E.jU f (aa.map (lM (pos (dG H aa)))) ((dG H aa).map fun b=>(H.getD b []).map (fB (pos (dG H aa))))with
 |none=>rw[hs]at hk;exact hk
 |some q=>
  obtain⟨pre,rs,ys⟩:=q;rw[hs]at hk;obtain⟨h2,hk⟩:=qv.1 hk;obtain⟨h3,_,hw⟩:=aD.1 hk;simp only[aCN,aC_]at h1 h3;obtain⟨⟨_,HM⟩,_⟩:=h1;obtain⟨⟨⟨h0,hl⟩,_⟩,_⟩:=h3
  cases ys with
  |nil=>cases h0
  |cons y ys=>
   have hy:y≠[]:=by
    cases eL:dG H aa with
    |nil=>
     rw[eL]at hl;simp only[qz,aD0,aCN]at hl;intro e;rw[e]at hl;cases hl.1
    |cons b L=>
     rw[eL]at hl HM;have hb:=aCR.1 HM b (by simp);simp only[aCN]at hb;obtain⟨_,z,zs,hz⟩:=ID hb.1;simp only[qz,aCN]at hl;have:=aCS hl.1;rw[hz]at this;intro e;rw[e]at this;simp at this
   cases y with
   |nil=>exact hy rfl
   |cons c y=>simp [sR,iy]at hw
theorem anv{E:Env}{nb XJ:Nat}{tm:List AV}{H:Heap}{op:Op}{jA:AV}(iW:rY op=true)(h:iQ E nb tm H op fun av ws=>av=jA∧ws=[]):iQ E XJ tm H op fun av ws=>av=jA∧ws=[]:=by
 cases op<;>simp only[rY]at iW<;>try (cases iW;done)
 case alloc T=>
  simp only[iQ,dq]at h ⊢
  split at h
  ·simp only[aD,aC_]at h;exact absurd h.2.2 (abc h.1)
  ·exact h.elim
 case box T x=>
  simp only[iQ,aD,aCN,aC_]at h;exact absurd h.2.2 (abc h.1.2)
 case buildSlice T len ps=>
  simp only[iQ,dq]at h
  split at h
  ·unfold qM at h
   split at h
   ·split at h
    ·obtain⟨_,h⟩:=aD.1 h;obtain⟨_,_,_,_,_,h2⟩:=SY h;simp at h2
    ·exact h.elim
   ·exact h.elim
  ·exact h.elim
 case makeSlice T l c=>
  simp only[iQ,dq]at h
  split at h
  ·unfold sa at h
   split at h
   ·split at h
    ·split at h
     ·split at h
      ·obtain⟨_,_,_,h2⟩:=aD.1 h
       cases h2
      ·exact h.elim
     ·exact h.elim
    ·exact h.elim
   ·exact h.elim
  ·exact h.elim
 case call c=>
  simp only[iQ]at h ⊢
  cases ec:c.callee with
  |value f=>
   rw[ec]at h;simp only at h ⊢;unfold AT at h ⊢
   split at h
   ·rename_i g bp ef
    cases ep:zS E.ho g (c.args.toList.map (aC tm)++bp)with
    |true=>
     rw[ep]at h;simp only at h;exact(asT h).elim
    |false=>
    rw[ep]at h;simp only at h ⊢;obtain⟨h1,h⟩:=aD.1 h;refine aD.2 ⟨h1,?_⟩;unfold vh at h ⊢;refine Fu (fun y hy=> ?_) h;revert hy
    split
    ·intro hy;obtain⟨h3,h4⟩:=qv.1 hy;exact qv.2 ⟨h3,az8 h4⟩
    ·exact id
   ·exact h.elim
  |invoke r m=>rw[ec]at iW;cases iW
  |builtin b=>
   rw[ec]at h iW
   cases b<;>simp only at iW h ⊢ <;>try (cases iW;done)
   split at h
   ·simp only[dq]at h
    split at h
    ·split at h
     ·obtain⟨_,h⟩:=aD.1 h;unfold oJ at h
      split at h
      ·obtain⟨_,h⟩:=aD.1 h;have key: ∀{y:AV} {K:Nat→(Nat→List AV)→Prop},(∀m g,¬K m g)→ ∀{str:Bool} {aO:Nat},¬nE H str aO y K:=fun {y K} hK str aO hs=>by
        cases y<;>simp only[nE]at hs<;>first|exact hs|exact hK _ _ (aD.1 hs).2|skip
        split at hs
        ·exact hK _ _ (aD.1 hs).2.2
        ·exact hs
       refine absurd h (key fun m g hh=> ?_)
       split at hh
       ·cases hh.2.2
       ·split at hh
        ·obtain⟨_,_,_,_,_,hh⟩:=aD.1 hh
         cases hh.2
        ·exact hh
       ·obtain⟨_,_,_,_,_,hh⟩:=aD.1 hh
        cases hh.2
       ·exact hh
      ·exact h.elim
     ·exact h.elim
    ·exact h.elim
   ·exact h.elim
structure Inv (S:dF) (ops:Array Oper) (z:List (Oper×Rec)) (cz:St) (jL:Nat→Option Nat) (listed:Array Bool) (a:Act) (w:World):Prop where
 size:listed.size=ops.size
 closed: ∀(j:Nat) o,ops[j]? =some o→listed.getD j false=true→ ∀e∈o.after,Region.binds .any e=true→listed.getD e.on false=true
 sim: ∃ι,aP S ι (acc (fun i=>listed.getD i false) z 0 cz) a w∧ ∀b,ι b≠none→jL b≠none∨ ∃(i:Nat) (o:Oper) (r:Rec) (p:Nat),listed.getD i false=true∧z[i]? =some (o,r)∧writes r.ws b p
theorem WA{b p:Nat}{v:AV} : ∀(ws:Ws) (H:Heap),aj H b p=v→(∀c,(b,p,c)∈ws→c=v)→aj (bm H ws) b p=v
 |[],_,h,_=>h
 |(b',p',c)::ws,H,h,hc=>by
  rw[bm];refine WA ws _ ?_ fun c' h'=>hc c' (List.mem_cons_of_mem _ h');rw[e_]
  by_cases e:b=b'∧p=p'
  ·obtain⟨rfl,rfl⟩:=e;rw[aCL ⟨rfl,rfl⟩];exact hc c (List.mem_cons_self ..)
  ·rw[aCM e];exact h
theorem EF{L:Nat→Bool}{b p:Nat}{v:AV} : ∀(l:List (Oper×Rec)) (k:Nat) (st:St),aj st.hp b p=v→(∀o r,(o,r)∈l→ ∀c,(b,p,c)∈r.ws→c=v)→aj (acc L l k st).hp b p=v
 |[],_,_,h,_=>h
 |(o,r)::l,k,st,h,hl=>by
  rw[acc];refine EF l (k+1) _ ?_ fun o' r' h'=>hl o' r' (List.mem_cons_of_mem _ h')
  cases L k
  ·exact h
  ·exact WA r.ws st.hp h (hl o r (List.mem_cons_self ..))
theorem MM{l:Array Bool}{i:Nat}(h:i<l.size)(d d':Bool):l.getD i d=l.getD i d':=by simp [h]
theorem aAO(hE:E.Ok){Q:Exit→Act→World→Prop}{aX:St}(C_:va E ops ops.toList cz rs aX)(jm:AI cz.hp ops rs)(M4: ∀b x,jL b=some x→b<cz.hp.length)
  {listed:Array Bool} {a:Act} {w:World} (hI:Inv S ops (ops.toList.zip rs) cz jL listed a w) {j:Nat} (hj:j∈Region.ready .any ops listed) {next:Act→World→Prop}
  (hn: ∀a w,Inv S ops (ops.toList.zip rs) cz jL (listed.setIfInBounds j true) a w→next a w):wpOp E.P ops Q j next a w:=by
 obtain⟨N,hNs,jm⟩:=jm;obtain⟨hun,oj,Dj,l9⟩:=mem_ready.1 hj;obtain⟨hlen,_,pS⟩:=C_.at 0;have Nc:j<ops.size:=(aDy.1 Dj).1;have hjr:j<rs.length:=by rw[←hlen];simpa using Nc
 obtain⟨rj,hrj⟩: ∃rj,rs[j]? =some rj:=⟨_,aCP hjr⟩;have uk:(ops.toList.zip rs)[j]? =some (oj,rj):=aEB.2 ⟨by simpa using Dj,hrj⟩;have Dk:=pS j oj rj uk;rw[aCO]at Dk;obtain⟨ι,kX,cL⟩:=hI.sim;have HR: ∀b p,N b p=true→ ∀o r,(o,r)∈ops.toList.zip rs→ ∀c,(b,p,c)∈r.ws→c=aj cz.hp b p:=fun b p hN o r hm c hc=>hNs b p hN r (List.of_mem_zip hm).2 c hc;generalize hz:ops.toList.zip rs=z at*
 let L:Nat→Bool:=fun i=>listed.getD i false;let T:Nat→Bool:=fun i=>decide (i<j);have yY:L j=false:=by
  have:listed.getD j false=listed.getD j true:=MM (by rw[hI.size];exact Nc) _ _;show listed.getD j false=false;rw[this];exact hun
 have zE: ∀(k:Nat) ok rk,z[k]? =some (ok,rk)→k≠j→L k=T k∨ZU (N) ops oj rj ok rk:=fun k ok rk hk hkj=>by
  subst hz;exact far jm (L:=L) hI.closed uk hk hkj yY l9
 have Wu: ∀t∈oj.looksAt ops,(acc L z 0 cz).tm[t]? =(acc T z 0 cz).tm[t]? :=fun t ht=>by
  refine Jv z 0 cz cz rfl fun k o r hk hd=> ?_;rw[aCO]
  by_cases e:k=j
  ·subst e;rw[yY];simp [T]
  ·exact(zE k o r hk e).elim id fun hf=>absurd ht (hf.look t hd)
 have aty:sD ops oj (acc L z 0 cz).tm=some rj.run:=by rw[aBy Wu];exact Dk.wanted
 have hw:=Zz kX aty;let L':Nat→Bool:=fun i=>(listed.setIfInBounds j true).getD i false;have CX: ∀i,L' i=if i=j then true else L i:=fun i=>by
  by_cases e:i=j
  ·subst e;simp [L',hI.size,Nc]
  ·rw[aCM e];exact getD_set_ne false (fun e'=>e e'.symm)
 have hT':acc (fun i=>decide (i<j+1)) z 0 cz=hY oj rj (acc T z 0 cz):=by
  have:=aaD z 0 j cz oj rj uk;simpa[T]using this
 have fin: ∀(dU:Nat→Option Nat) (a':Act) (w':World),aP S dU (hY oj rj (acc L z 0 cz)) a' w'→(∀b,dU b≠none→ι b≠none∨ ∃p c,(b,p,c)∈rj.ws)→next a' w':=fun dU a' w' hs hb=>by
  refine hn a' w' ⟨by simp [hI.size],fun k ok hk hlk=> ?_,dU,?_,fun b C6=> ?_⟩
  ·intro e he hbi
   by_cases ek:k=j
   ·subst ek;rw[Dj]at hk;cases hk;exact getD_set_true (l9 e he hbi)
   ·rw[getD_set_ne false (fun e'=>ek e'.symm)]at hlk;exact getD_set_true (hI.closed k ok hk hlk e he hbi)
  ·have atu:(acc L' z 0 cz).tm=(hY oj rj (acc L z 0 cz)).tm:=by
    apply aD_;intro t
    by_cases ed:oj.dst=some t
    ·have h1:(acc L' z 0 cz).tm[t]? =(acc (fun i=>decide (i<j+1)) z 0 cz).tm[t]? :=by
      refine Jv z 0 cz cz rfl fun k o r hk hd=> ?_;rw[aCO,CX]
      by_cases e:k=j
      ·subst e;simp
      ·rw[aCM e];refine(zE k o r hk e).elim (fun h=> ?_) fun hf=>absurd ed (hf.dst t hd);rw[h];simp only[T]
       congr 1;exact propext ⟨fun h=>by omega,fun h=>by omega⟩
     rw[h1,hT'];simp only[hY,E8,ed,aDg];have l1:=(EE (L:=T) z 0 cz).1;have l2:=(EE (L:=L) z 0 cz).1;rcases aCY t cz.tm.length with h|h
     ·rw[aCP (by omega),aCP (by omega)];rfl
     ·rw[aCW (by omega),aCW (by omega)]
    ·simp only[hY,E8,ed,aDn];refine Jv z 0 cz cz rfl fun k o r hk hd=> ?_;rw[aCO,CX]
     by_cases e:k=j
     ·subst e;rw[uk]at hk;cases hk;exact absurd hd ed
     ·rw[aCM e]
   have atc: ∀b p,aj (acc L' z 0 cz).hp b p=aj (hY oj rj (acc L z 0 cz)).hp b p:=fun b p=>by
    by_cases hN:N b p=true
    ·have h1:=EF (L:=L') z 0 cz rfl (HR b p hN);have h2:=EF (L:=L) z 0 cz rfl (HR b p hN);rw[h1];exact(WA rj.ws _ h2 (HR b p hN oj rj (aCV uk))).symm
    have hN:N b p=false:=by simpa using hN
    by_cases ew:writes rj.ws b p
    ·have h1:aj (acc L' z 0 cz).hp b p=aj (acc (fun i=>decide (i<j+1)) z 0 cz).hp b p:=by
      refine ED z 0 cz cz rfl fun k o r hk hd=> ?_;rw[aCO,CX]
      by_cases e:k=j
      ·subst e;simp
      ·rw[aCM e];refine(zE k o r hk e).elim (fun h=> ?_) fun hf=>absurd ew (hf.ws b p hN hd);rw[h];simp only[T]
       congr 1;exact propext ⟨fun h=>by omega,fun h=>by omega⟩
     rw[h1,hT'];exact Wy _ _ _ _ _ (.inl ew)
    ·rw[show aj (hY oj rj (acc L z 0 cz)).hp b p=aj (acc L z 0 cz).hp b p from NM _ _ _ _ ew];refine ED z 0 cz cz rfl fun k o r hk hd=> ?_;rw[aCO,CX]
     by_cases e:k=j
     ·subst e;rw[uk]at hk;cases hk;exact absurd hd ew
     ·rw[aCM e]
   have HH:=EE (L:=L') z 0 cz;show aP S dU ⟨(acc L' z 0 cz).tm,(acc L' z 0 cz).hp⟩ a' w';rw[atu];refine aP.ext (H:=(hY oj rj (acc L z 0 cz)).hp) hs atc fun b x hx=> ?_;rcases hb b (by rw[hx];simp)with h|⟨p,c,hc⟩
   ·rcases cL b h with h|⟨i,o,r,p,h1,h2,h3⟩
    ·cases e:jL b with
     |none=>exact absurd e h
     |some y=>exact aC0 (M4 b y e) HH.2.1
    ·refine HH.2.2 i o r h2 ?_ b p h3;rw[aCO,CX]
     by_cases e:i=j
     ·rw[aCL e]
     ·rw[aCM e];exact h1
   ·exact HH.2.2 j oj rj uk (by rw[aCO,CX,aCL rfl]) b p ⟨c,hc⟩
  ·rcases hb b C6 with h|⟨p,c,hc⟩
   ·rcases cL b h with h|⟨i,o,r,p,h1,h2,h3⟩
    ·exact .inl h
    ·exact .inr ⟨i,o,r,p,getD_set_true h1,h2,h3⟩
   ·exact .inr ⟨j,oj,rj,p,by simp [hI.size,Nc],uk,⟨c,hc⟩⟩
 unfold wpOp;rw[Dj];simp only;rw[hw]
 cases b_:rj.run with
 |false=>
  obtain⟨h1,h2⟩:=Dk.no b_;rw[aCM (by simp)];refine fin ι _ w ?_ fun b hb=> .inl hb;have:=aP.dst kX oj.dst (av:= .gone) (v:=undef) rfl;simp only[hY,h1,h2,bm];exact this
 |true=>
  rw[aCL rfl];left;obtain⟨⟨jA,h1,ate⟩,h2,h2b,h3⟩:=Dk.yes b_;have HI:iQ E rj.nb (acc L z 0 cz).tm (acc L z 0 cz).hp oj.op (fun av ws=>av=jA∧ws=rj.ws):=by
   refine anu (tm:=(acc T z 0 cz).tm) (H:=(acc T z 0 cz).hp) (fun x hx=>ao8 fun t e=>Wu t (by subst e;exact axt hx)) (fun l hl=> ?_) (fun b hb=> ?_) h1
   ·by_cases hN:N l.1 l.2=true
    ·rw[EF (L:=L) z 0 cz rfl (HR _ _ hN),EF (L:=T) z 0 cz rfl (HR _ _ hN)]
    have hN:N l.1 l.2=false:=by simpa using hN
    refine ED z 0 cz cz rfl fun k o r hk hd=> ?_;rw[aCO]
    by_cases e:k=j
    ·subst e;rw[yY];simp [T]
    ·exact(zE k o r hk e).elim id fun hf=>absurd (by rw[h2];exact hl) (hf.rd l.1 l.2 hN hd)
   ·refine aaB z 0 cz cz rfl fun k o r hk ⟨p,hd⟩=> ?_;rw[aCO]
    by_cases e:k=j
    ·subst e;rw[yY];simp [T]
    ·exact(zE k o r hk e).elim id fun hf=>absurd hd (hf.rb b (by rw[h2b];exact hb) p)
  obtain⟨nb,Nw,HI,as_,Ht⟩: ∃(nb:Nat) (Nw:Nat→Prop),iQ E nb (acc L z 0 cz).tm (acc L z 0 cz).hp oj.op (fun av ws=>av=jA∧ws=rj.ws)∧(rY oj.op=true→Nw nb∧ ∀b,Nw b→(∀p,aj (acc L z 0 cz).hp b p= .undef)∧ι b=none)∧
    ∀(av:AV) (ws:Ws),(av=jA∧ws=rj.ws)→ ∀b p c,(b,p,c)∈ws→nb<b→Nw b:=by
   by_cases NN:rj.ws=[]∧rY oj.op=true
   ·refine⟨(acc L z 0 cz).hp.length,fun b=>b=(acc L z 0 cz).hp.length,by rw[NN.1]at HI ⊢;exact anv NN.2 HI,fun _=>⟨rfl,fun b hb=> ?_⟩,fun av ws h b p c hm=>by rw[h.2,NN.1]at hm;cases hm⟩;subst hb;refine⟨fun p=>ub (aCK _) p,?_⟩
    cases e:ι (acc L z 0 cz).hp.length with
    |none=>rfl
    |some x=>exact absurd (kX.gH _ x e) (Nat.lt_irrefl _)
   refine⟨rj.nb,(· ∈uH rj),HI,fun iW=>⟨by simp [uH],fun b fP=> ?_⟩,fun av ws h b p c hm hb=>ayo (by rw[←h.2];exact hm) hb⟩;have db:rj.ws≠[]:=fun e=>NN ⟨e,iW⟩;have ox:(acc T z 0 cz).hp.length≤b:=aCX h3 (ayn fP);refine⟨fun p=> ?_,?_⟩
   ·have:aj (acc L z 0 cz).hp b p=aj (acc T z 0 cz).hp b p:=by
     refine ED z 0 cz cz rfl fun k o r hk hd=> ?_;rw[aCO]
     by_cases e:k=j
     ·subst e;rw[yY];simp [T]
     ·exact(zE k o r hk e).elim id fun hf=>absurd hd (hf.nb iW db b fP p)
    rw[this];exact ub ox p
   ·cases e:ι b with
    |none=>rfl
    |some x=>
     exfalso;rcases cL b (by rw[e];simp)with h|⟨i,o,r,p,g1,g2,g3⟩
     ·cases e0:jL b with
      |none=>exact h e0
      |some y=>
       have q1:=M4 _ y e0;have q2:=(EE (L:=T) z 0 cz).2.1;omega
     ·by_cases ei:i=j
      ·subst ei;rw[show L i=listed.getD i false from rfl,g1]at yY;cases yY
      ·rcases zE i o r g2 ei with hf|hf
       ·rw[show L i=listed.getD i false from rfl,g1]at hf;have iY:i<j:=by simpa[T]using hf.symm
        subst hz;simp only[zR,aCN]at jm;have hp:=Jy _ 0 jm.2 i j o r oj rj iY g2 uk;simp only[DU,aCN,aEg]at hp;have hA:=hp.1;rw[iW]at hA;exact IL (aCR.1 (by simpa using hA) b fP) p (qm.2 g3)
       ·exact hf.nb iW db b fP p g3
  refine aaK hE kX (nb:=nb) (Nw:=Nw) as_ Ht HI fun dU av ws v w' hK hs hv hb=> ?_
  ·obtain⟨rfl,rfl⟩:=hK;exact fin dU _ w' (aP.dst hs oj.dst (ate.rel hv)) hb
theorem ant(hE:E.Ok){Q:Exit→Act→World→Prop}{aX:St}(C_:va E ops ops.toList cz rs aX)(jm:AI cz.hp ops rs)(M4: ∀b x,jL b=some x→b<cz.hp.length)
  (hq: ∀ι a w,aP S ι aX a w→Q .normal a w): ∀(fuel:Nat) (listed:Array Bool) (a:Act) (w:World),Inv S ops (ops.toList.zip rs) cz jL listed a w→
  ((List.range ops.size).filter fun i=> !listed.getD i false).length=fuel→wpAny E.P .any ops Q fuel listed a w:=by
 intro fuel
 induction fuel with
 |zero=>
  intro listed a w hI hc;have l9: ∀i,i<ops.size→listed.getD i false=true:=fun i hi=>by
   cases e:listed.getD i false with
   |true=>rfl
   |false=>
    have:i∈(List.range ops.size).filter fun i=> !listed.getD i false:=by exact aEf.2 ⟨aDS.2 hi,by simp only[e];rfl⟩
    rw[aEl.1 hc]at this
    cases this
  refine⟨?_,?_⟩
  ·apply List.eq_nil_iff_forall_not_mem.2;intro i hi;obtain⟨h1,o,h2,_⟩:=mem_ready.1 hi;have Dg:i<ops.size:=(aDy.1 h2).1;have:=l9 i Dg;rw[MM (by rw[hI.size];exact Dg) false true,h1]at this
   cases this
  ·obtain⟨ι,hs,_⟩:=hI.sim;obtain⟨hl,he,_⟩:=C_.at 0;refine hq ι a w ?_;rw[he];rwa [aaC (L':=fun _=>true) _ _ _ (fun i hi=>by rw[aCO];exact l9 i (by simp at hi;omega))]at hs
 |succ fuel ih=>
  intro listed a w hI hc;refine⟨fun hr=> ?_,fun i hi=> ?_⟩
  ·exfalso;have db:(List.range ops.size).filter (fun i=> !listed.getD i false)≠[]:=fun e=>by rw[e]at hc;simp at hc
   have hex: ∃i,i<ops.size∧listed.getD i false=false:=by
    obtain⟨i,hi⟩:=List.exists_mem_of_ne_nil _ db;simp at hi;exact⟨i,hi.1,by simp [hi.2]⟩
   obtain⟨i,⟨eF,gR⟩,atf⟩: ∃i,(i<ops.size∧listed.getD i false=false)∧ ∀k,k<i→ ¬(k<ops.size∧listed.getD k false=false):=by
    obtain⟨i0,h0⟩:=hex
    induction i0 using Nat.strongRecOn with
    |_ n Ii=>
     by_cases h: ∃k,k<n∧(k<ops.size∧listed.getD k false=false)
     ·obtain⟨k,h1,h2⟩:=h;exact Ii k h1 h2
     ·exact⟨n,h0,fun k hk VZ=>h ⟨k,hk,VZ⟩⟩
   have aCg:=jm;obtain⟨N,_,jm⟩:=jm;simp only[zR,aCN]at jm;have hoi:ops[i]? =some ops[i]:=aDu eF;have HO:i∈Region.ready .any ops listed:=mem_ready.2 ⟨by rw[MM (by rw[hI.size];exact eF) true false];exact gR,ops[i],hoi,fun e he hb=>by
    have:=aaZ ops.toList 0 jm.1 i ops[i] (by simp) e he hb;rw[aCO]at this;have hn:=atf e.on this
    cases hc:listed.getD e.on false with
    |true=>rfl
    |false=>exact absurd ⟨by omega,hc⟩ hn⟩
   rw[hr]at HO
   cases HO
  ·refine aAO hE C_ jm M4 hI hi fun a' w' hI'=>ih _ a' w' hI' ?_;obtain⟨h1,o,h2,_⟩:=mem_ready.1 hi;have Dg:i<ops.size:=(aDy.1 h2).1;have hif:listed.getD i false=false:=by rw[MM (by rw[hI.size];exact Dg) false true];exact h1
   have:=aol ops.size (fun i=> !listed.getD i false) (fun k=> !(listed.setIfInBounds i true).getD k false) i Dg (by simp only[hif];rfl) (by
    have:(listed.setIfInBounds i true).getD i false=true:=by simp [hI.size,Dg]
    simp only[this];rfl) (fun k hk=>by simp only[getD_set_ne false (fun e=>hk e.symm)])
   omega
theorem anq(hE:E.Ok){id:Nat}{Q:Exit→Act→World→Prop}{ι:Nat→Option Nat}{st:St}{a:Act}{w:World}{K:St→Prop}(h:aP S ι st a w)(hk:aaF E ops st K)
  (hq: ∀ι st a w,aP S ι st a w→K st→Q .normal a w):(Code.region id ops true).wp E.P Q a w:=by
 obtain⟨rs,aX,C_,jm,hK⟩:=RI _ _ _ _ _ hk;simp only[List.reverse_nil,aDD]at jm;refine wp_region_any hE.mixed ?_;have hw:aP S ι st a w.drew:=(h.world (w':=w.drew) ⟨rfl,rfl,rfl,aCK _,fun _ _=>rfl⟩).1;refine ant hE C_ jm h.gH (fun ι a w hs=>hq ι aX a w hs hK) ops.size (Array.replicate ops.size false) a w.drew ⟨by simp,fun j o hj hl=> ?_,ι,?_,fun b hb=> .inl hb⟩ ?_
 ·have:(Array.replicate ops.size false).getD j false=false:=by
   by_cases e:j<ops.size<;>simp [e]
  rw[this]at hl;cases hl
 ·rw[EC _ _ _ (fun i _=>by by_cases e:i<ops.size<;>simp [e])];exact hw
 ·have:((List.range ops.size).filter fun i=> !(Array.replicate ops.size false).getD i false)=List.range ops.size:=by
   apply List.filter_eq_self.2;intro i hi;have:=aDS.1 hi;simp [this]
  rw[this];simp
end
def iI(next:St→Prop)(Q:Exit→St→Prop):Exit→St→Prop
 | .normal,st=>next st
 | .exit id,st=>Q (.exit id) st
 | .ret,st=>Q .ret st
 |_,_=>False
def EN(id:Nat)(Q:Exit→St→Prop):Exit→St→Prop
 | .normal,st=>Q .normal st
 | .exit j,st=>if j=id then Q .normal st else Q (.exit j) st
 | .ret,st=>Q .ret st
 |_,_=>False
def Le(m:Nat)(st aX:St):Prop:= ∀(S:dF),S.H0.length≤m→ ∀(ι:Nat→Option Nat) (a:Act) (w:World),aP S ι st a w→ ∃aA,aP S aA aX a w
theorem Le.refl{m:Nat}(st:St):Le m st st:=fun _ _ ι _ _ h=>⟨ι,h⟩
theorem Le.trans{m:Nat}{a b c:St}(h:Le m a b)(k:Le m b c):Le m a c:=fun S hS ι x w hs=>let⟨aA,h1⟩:=h S hS ι x w hs;k S hS aA x w h1
def ah2(m:Nat){α:Type}(Q:Exit→St→Prop)(up:α→St)(μ:α→Nat)(x:α):Exit→St→Prop
 | .normal,st=> ∃y,μ y<μ x∧Le m st (up y)
 | .exit id,st=>Q (.exit id) st
 | .ret,st=>Q .ret st
 |_,_=>False
def axv(m:Nat)(body:(Exit→St→Prop)→St→Prop)(Q:Exit→St→Prop)(st:St):Prop:=
 ∃(α:Type) (up:α→St) (μ:α→Nat) (x0:α),Le m st (up x0)∧ ∀x,body (ah2 m Q up μ x) (up x)
def mT(E:Env):Code→(Exit→St→Prop)→St→Prop
 | .skip,Q,st=>Q .normal st
 | .region _ ops draw,Q,st=>match draw with
   |true=>aaF E ops st (Q .normal)
   |false=>AO E ops ops.toList 0 st (Q .normal)
 | .seq x y,Q,st=>mT E x (iI (mT E y Q) Q) st
 | .cond c x y,Q,st=>match aC st.tm c with
   | .bool b=>(b=true→mT E x Q st)∧(b=false→mT E y Q st)
   | .lit b=>match b with
     |true=>mT E x Q st
     |false=>mT E y Q st
   |_=>False
 | .block id x,Q,st=>mT E x (EN id Q) st
 | .loop x,Q,st=>axv E.m (mT E x) Q st
 | .exit id,Q,st=>Q (.exit id) st
 | .ret,Q,st=>Q .ret st
 | .label _,Q,st=>Q .normal st
 |_,_,_=>False
section
variable {E:Env}
def Up(S:dF)(Q:Exit→St→Prop)(e:Exit)(a:Act)(w:World):Prop:= ∃ι st,aP S ι st a w∧Q e st
theorem anF(hE:E.Ok){S:dF}(hS:S.H0.length≤E.m): ∀(c:Code) (Q:Exit→St→Prop) (ι:Nat→Option Nat) (st:St) (a:Act) (w:World),aP S ι st a w→mT E c Q st→c.wp E.P (Up S Q) a w:=by
 intro c
 induction c with
 |skip=>exact fun Q ι st a w h hk=>wp_skip ⟨ι,st,h,hk⟩
 |region id ops draw=>
  intro Q ι st a w h hk
  cases draw with
  |true=>exact anq hE h hk fun ι st a w hs hK=>⟨ι,st,hs,hK⟩
  |false=>exact wp_region_list (RJ hE _ _ ι st a w _ h hk fun ι st a w hs hK=>⟨ι,st,hs,hK⟩)
 |seq x y rV rW=>
  intro Q ι st a w h hk;refine wp_seq (aDs (rV _ ι st a w h hk) fun e a w ⟨aA,aX,hs,hq⟩=> ?_)
  cases e<;>simp only[iI]at hq<;>try exact hq.elim
  ·exact rW Q aA aX a w hs hq
  ·exact⟨aA,aX,hs,hq⟩
  ·exact⟨aA,aX,hs,hq⟩
 |cond c x y rV rW=>
  intro Q ι st a w h hk;have hc:=h.eval c;simp only[mT]at hk
  cases e:aC st.tm c<;>rw[e]at hk hc<;>simp only at hk<;>try exact hk.elim
  ·rename_i b;refine wp_cond hc.bool ?_
   cases b
   ·exact rW Q ι st a w h (hk.2 rfl)
   ·exact rV Q ι st a w h (hk.1 rfl)
  ·rename_i b;refine wp_cond hc.lit ?_
   cases b
   ·exact rW Q ι st a w h hk
   ·exact rV Q ι st a w h hk
 |block bid x ih=>
  intro Q ι st a w h hk;refine wp_block (aDs (ih _ ι st a w h hk) fun e a w ⟨aA,aX,hs,hq⟩=> ?_)
  cases e<;>simp only[EN]at hq<;>try exact hq.elim
  ·exact⟨aA,aX,hs,hq⟩
  ·rename_i j _;simp only[Exit.inBlock]
   by_cases ej:j=bid
   ·rw[aCL ej]at hq ⊢;exact⟨aA,aX,hs,hq⟩
   ·rw[aCM ej]at hq ⊢;exact⟨aA,aX,hs,hq⟩
  ·exact⟨aA,aX,hs,hq⟩
 |loop x ih=>
  intro Q ι st a w h hk;obtain⟨α,up,μ,x0,hle,Hy⟩:=hk;obtain⟨jL,h0⟩:=hle S hS ι a w h;let p:Act→World→Nat→Prop:=fun a w n=> ∃y ι,μ y=n∧aP S ι (up y) a w;let least:Act→World→Nat:=fun a w=>Classical.epsilon fun n=>p a w n∧ ∀m,m<n→ ¬p a w m;have HG: ∀a w n,p a w n→p a w (least a w)∧ ∀m,m<least a w→ ¬p a w m:=fun a w n hn=>by
   have hex: ∃n,p a w n∧ ∀m,m<n→ ¬p a w m:=by
    induction n using Nat.strongRecOn with
    |_ n Ii=>
     by_cases h: ∃k,k<n∧p a w k
     ·obtain⟨k,h1,h2⟩:=h;exact Ii k h1 h2
     ·exact⟨n,hn,fun m hm hp=>h ⟨m,hm,hp⟩⟩
   exact Classical.epsilon_spec hex
  refine wp_loop (fun a w=> ∃n,p a w n) least ⟨_,x0,jL,rfl,h0⟩ fun a w ⟨n,hn⟩=> ?_;obtain⟨⟨y,lQ,hy,hs⟩,_⟩:=HG a w n hn;refine aDs (ih _ lQ (up y) a w hs (Hy y)) fun e a' w' ⟨aA,aX,dP,hq⟩=> ?_
  cases e<;>simp only[ah2]at hq<;>try exact hq.elim
  ·obtain⟨z,hz,hle⟩:=hq;obtain⟨dU,h2⟩:=hle S hS aA a' w' dP;have hp:p a' w' (μ z):=⟨z,dU,rfl,h2⟩;refine⟨⟨_,hp⟩,?_⟩;have h3:=(HG a' w' _ hp).2;have:least a' w'≤μ z:=by
    rcases aCY (μ z) (least a' w')with h|h
    ·exact absurd hp (h3 _ h)
    ·exact h
   omega
  ·exact⟨aA,aX,dP,hq⟩
  ·exact⟨aA,aX,dP,hq⟩
 |exit id=>exact fun Q ι st a w h hk=>wp_exit ⟨ι,st,h,hk⟩
 |ret=>exact fun Q ι st a w h hk=>wp_ret ⟨ι,st,h,hk⟩
 |label l=>exact fun Q ι st a w h hk=>wp_label ⟨ι,st,h,hk⟩
 |_=>exact fun Q ι st a w h hk=>hk.elim
def WP(E:Env)(c:Code)(Q:Exit→St→Prop)(st:St):Prop:= ∀(S:dF),S.H0.length≤E.m→ ∀(ι:Nat→Option Nat) (a:Act) (w:World),aP S ι st a w→c.wp E.P (Up S Q) a w
theorem WP.XY(hE:E.Ok){c:Code}{Q:Exit→St→Prop}{st:St}(h:mT E c Q st):WP E c Q st:=fun _ hS ι a w hs=>anF hE hS c Q ι st a w hs h
theorem WP.mono{c:Code}{Q R:Exit→St→Prop}{st:St}(h:WP E c R st)(hr: ∀e s,R e s→Q e s):WP E c Q st:=fun S hS ι a w hs=>aDs (h S hS ι a w hs) fun e _ _ ⟨aA,aX,h1,h2⟩=>⟨aA,aX,h1,hr e aX h2⟩
theorem WP.le{c:Code}{Q:Exit→St→Prop}{st aX:St}(hle:Le E.m st aX)(h:WP E c Q aX):WP E c Q st:=fun S hS ι a w hs=>let⟨aA,h1⟩:=hle S hS ι a w hs;h S hS aA a w h1
theorem WP.seq{x y:Code}{Q:Exit→St→Prop}{st:St}(h:WP E x (iI (WP E y Q) Q) st):WP E (.seq x y) Q st:=fun S hS ι a w hs=>by
 refine wp_seq (aDs (h S hS ι a w hs) fun e a w ⟨aA,aX,hs,hq⟩=> ?_)
 cases e<;>simp only[iI]at hq<;>try exact hq.elim
 ·exact hq S hS aA a w hs
 ·exact⟨aA,aX,hs,hq⟩
 ·exact⟨aA,aX,hs,hq⟩
theorem WP.cut{x y:Code}{Q:Exit→St→Prop}{st:St}(eQ:St)(h:WP E x (iI (fun s=>Le E.m s eQ) Q) st)(k:WP E y Q eQ):WP E (.seq x y) Q st:=
 WP.seq (h.mono fun e s hs=>by cases e<;>simp only[iI]at hs ⊢ <;>first|exact WP.le hs k|exact hs)
theorem WP.cond{c:Operand}{x y:Code}{Q:Exit→St→Prop}{st:St}{b:Bool}(hc:aC st.tm c= .bool b)(hx:b=true→WP E x Q st)(hy:b=false→WP E y Q st):WP E (.cond c x y) Q st:=fun S hS ι a w hs=>by
 have h:=hs.eval c;rw[hc]at h;refine wp_cond h.bool ?_
 cases b
 ·exact hy rfl S hS ι a w hs
 ·exact hx rfl S hS ι a w hs
theorem WP.block{id:Nat}{x:Code}{Q:Exit→St→Prop}{st:St}(h:WP E x (EN id Q) st):WP E (.block id x) Q st:=fun S hS ι a w hs=>by
 refine wp_block (aDs (h S hS ι a w hs) fun e a w ⟨aA,aX,hs,hq⟩=> ?_)
 cases e<;>simp only[EN]at hq<;>try exact hq.elim
 ·exact⟨aA,aX,hs,hq⟩
 ·rename_i j _;simp only[Exit.inBlock]
  by_cases ej:j=id
  ·rw[aCL ej]at hq ⊢;exact⟨aA,aX,hs,hq⟩
  ·rw[aCM ej]at hq ⊢;exact⟨aA,aX,hs,hq⟩
 ·exact⟨aA,aX,hs,hq⟩
theorem WP.skip{Q:Exit→St→Prop}{st:St}(h:Q .normal st):WP E .skip Q st:=fun _ _ ι _ _ hs=>wp_skip ⟨ι,st,hs,h⟩
theorem WP.ret{Q:Exit→St→Prop}{st:St}(h:Q .ret st):WP E .ret Q st:=fun _ _ ι _ _ hs=>wp_ret ⟨ι,st,hs,h⟩
theorem WP.exit{id:Nat}{Q:Exit→St→Prop}{st:St}(h:Q (.exit id) st):WP E (.exit id) Q st:=fun _ _ ι _ _ hs=>wp_exit ⟨ι,st,hs,h⟩
theorem WP.label{l:_}{Q:Exit→St→Prop}{st:St}(h:Q .normal st):WP E (.label l) Q st:=fun _ _ ι _ _ hs=>wp_label ⟨ι,st,hs,h⟩
def Xx(m:Nat){α:Type}(Q:Exit→St→Prop)(up:α→St)(I:α→Prop)(μ:α→Nat)(x:α):Exit→St→Prop
 | .normal,st=> ∃y,I y∧μ y<μ x∧Le m st (up y)
 | .exit id,st=>Q (.exit id) st
 | .ret,st=>Q .ret st
 |_,_=>False
def WP.As(E:Env)(x:Code)(Q:Exit→St→Prop):Nat→St→Prop
 |0,_=>False
 |n+1,st=>WP E x (iI (WP.As E x Q n) Q) st
theorem WP.rounds{x:Code}{Q:Exit→St→Prop}(n:Nat){st:St}(h:WP.As E x Q n st):WP E (.loop x) Q st:=by
 intro S hS ι a w hs;refine wp_loop_rounds n ?_
 induction n generalizing st ι a w with
 |zero=>exact h.elim
 |succ n ih=>
  refine aDs (h S hS ι a w hs) fun e a' w' ⟨aA,aX,dP,hq⟩=> ?_
  cases e<;>simp only[iI]at hq<;>try exact hq.elim
  ·exact ih hq aA a' w' dP
  ·exact⟨aA,aX,dP,hq⟩
  ·exact⟨aA,aX,dP,hq⟩
theorem WP.loop{α:Type}{x:Code}{Q:Exit→St→Prop}{st:St}(up:α→St)(I:α→Prop)(μ:α→Nat)(x0:α)(h0:I x0)(hle:Le E.m st (up x0))(h: ∀x',I x'→WP E x (Xx E.m Q up I μ x') (up x')):WP E (.loop x) Q st:=by
 intro S hS ι a w hs;obtain⟨jL,Vq⟩:=hle S hS ι a w hs;let p:Act→World→Nat→Prop:=fun a w n=> ∃y ι,I y∧μ y=n∧aP S ι (up y) a w;let least:Act→World→Nat:=fun a w=>Classical.epsilon fun n=>p a w n∧ ∀m,m<n→ ¬p a w m;have HG: ∀a w n,p a w n→p a w (least a w)∧ ∀m,m<least a w→ ¬p a w m:=fun a w n hn=>by
  have hex: ∃n,p a w n∧ ∀m,m<n→ ¬p a w m:=by
   induction n using Nat.strongRecOn with
   |_ n Ii=>
    by_cases h: ∃k,k<n∧p a w k
    ·obtain⟨k,h1,h2⟩:=h;exact Ii k h1 h2
    ·exact⟨n,hn,fun m hm hp=>h ⟨m,hm,hp⟩⟩
  exact Classical.epsilon_spec hex
 refine wp_loop (fun a w=> ∃n,p a w n) least ⟨_,x0,jL,h0,rfl,Vq⟩ fun a w ⟨n,hn⟩=> ?_;obtain⟨⟨y,lQ,hI,hy,hs⟩,_⟩:=HG a w n hn;refine aDs (h y hI S hS lQ a w hs) fun e a' w' ⟨aA,aX,dP,hq⟩=> ?_
 cases e<;>simp only[Xx]at hq<;>try exact hq.elim
 ·obtain⟨z,qb,hz,hle⟩:=hq;obtain⟨dU,h2⟩:=hle S hS aA a' w' dP;have hp:p a' w' (μ z):=⟨z,dU,qb,rfl,h2⟩;refine⟨⟨_,hp⟩,?_⟩;have h3:=(HG a' w' _ hp).2;have:least a' w'≤μ z:=by
   rcases aCY (μ z) (least a' w')with h|h
   ·exact absurd hp (h3 _ h)
   ·exact h
  omega
 ·exact⟨aA,aX,dP,hq⟩
 ·exact⟨aA,aX,dP,hq⟩
end
def OZ(E:Env)(st:St)(r:ResultVar)(K:AV→Prop):Prop:=
 match r with
 | .tmp t=>lx st.hp (st.tm.getD t .undef) K
 | .cell t T=>dq E T fun ty=>oB ty st.hp (st.tm.getD t .undef) fun av=>lx st.hp av K
def Aq(E:Env)(st:St):List ResultVar→(List AV→Prop)→Prop
 |[],K=>K []
 |x::r,K=>OZ E st x fun y=>Aq E st r fun ys=>K (y::ys)
def pq:List AV→AV
 |[x]=>x
 |vs=> .cU vs
def gX:AV→AV→Prop
 | .arr sz n f,.arr fe n' g=>sz=fe∧n=n'∧ ∀i,i<n→f i=g i
 | .aE,.arr _ n' _=>n'=0
 |x,y=>x=y
def kJ:AV→AV→Prop
 | .agg cs,.agg ds=>aT gX cs ds
 |x,y=>gX x y
def wL:AV→AV→Prop
 | .cU aa,.cU bs=>aT kJ aa bs
 |x,y=>kJ x y
def DT(H:Heap)(sz n:Nat)(f:Nat→List AV)(x:AV):Prop:=
 match x with
 | .own b k=>match aj H b 0 with
   | .ah ro fe n' f'=>cT (!ro&&Nat.beq fe sz) (k=n'∧n'=n∧ ∀i,i<n→f' i=f i)
   |_=>False
 | .aE=>n=0
 |_=>False
def D1(E:Env)(st:St)(rs:List ResultVar)(sz n:Nat)(f:Nat→List AV):Prop:=
 match rs with
 |[x]=>match x with
  | .tmp t=>DT st.hp sz n f (st.tm.getD t .undef)
  | .cell t T=>dq E T fun ty=>oB ty st.hp (st.tm.getD t .undef) fun av=>DT st.hp sz n f av
 |_=>False
def aAe(E:Env)(rs:List ResultVar)(r:AV)(st:St):Prop:=
 match r with
 | .ah _ sz n f=>D1 E st rs sz n f
 |r=>Aq E st rs fun vs=>wL (pq vs) r
def aAd(E:Env)(rs:List ResultVar)(r:AV)(e:Exit)(st:St):Prop:=
 (match e with
  | .normal=>True
  | .ret=>True
  |_=>False)∧aAe E rs r st
section
variable {E:Env} {S:dF} {ι:Nat→Option Nat} {st:St} {a:Act} {w:World}
theorem gX.rel{F:Nat→Prop}{x y:AV}{v:Value}(h:gX x y)(k:aR w F x v):aR w F y v:=by
 cases k with
 |arr sz n f b o c g vs hn hb hF h1 h2 h3=>
  cases y<;>simp only[gX]at h<;>try (cases h;done)
  obtain⟨rfl,rfl,h⟩:=h;exact .arr sz n _ b o c g vs hn hb hF (fun i j hi hj=>by rw[←h i hi];exact h1 i j hi hj) h2 h3
 |nil sz f=>
  cases y<;>simp only[gX]at h<;>try (cases h;done)
  obtain⟨rfl,rfl,h⟩:=h;exact .nil sz _
 |mt sz f a c=>
  cases y<;>simp only[gX]at h<;>try (cases h;done)
  obtain⟨rfl,rfl,h⟩:=h;exact .mt sz _ a c
 |aE=>
  cases y<;>simp only[gX]at h<;>first|(cases h;done)|(subst h;exact .nil _ _)|exact .aE
 |int k n=>simp only[gX]at h;subst h;exact .int k n
 |bool b=>simp only[gX]at h;subst h;exact .bool b
 |jX=>simp only[gX]at h;subst h;exact .jX
 |kK sz n f p c h0 hc=>simp only[gX]at h;subst h;exact .kK sz n f p c h0 hc
 |lit b=>simp only[gX]at h;subst h;exact .lit b
 |str s hb=>simp only[gX]at h;subst h;exact .str s hb
 |ref cs b o g vs hF h1 h2 h3=>simp only[gX]at h;subst h;exact .ref cs b o g vs hF h1 h2 h3
 |fn f bp vs g u hl h1 h2 h3=>simp only[gX]at h;subst h;exact .fn f bp vs g u hl h1 h2 h3
theorem kJ.rel{F:Nat→Prop}{x y:AV}{v:Value}(h:kJ x y)(k:fD w F x v):fD w F y v:=by
 cases x
 case agg cs=>
  cases y<;>simp only[kJ,gX]at h<;>try (cases h;done)
  obtain⟨vs,rfl,k⟩:=k;refine⟨vs,rfl,aT.mk (h.length.symm.trans k.length) fun i p q hp hq=> ?_⟩;obtain⟨p',rL,hr⟩:=k.get i _ (aCP (by rw[h.length];exact(aDc.1 hp).1));rw[hq]at rL;cases rL;obtain⟨q',dn,hs⟩:=h.get i _ (aCP (by rw[h.length];exact(aDc.1 hp).1));rw[hp]at dn;cases dn;exact hs.rel hr
 case undef=>exact k.elim
 all_goals
  simp only[fD]at k
  cases y<;>first|(simp [kJ,gX]at h;done)|(simp only[fD];exact(fun hh=>gX.rel hh k) h)
theorem wL.rel{F:Nat→Prop}{x y:AV}{v:Value}(h:wL x y)(k:kH w F x v):kH w F y v:=by
 cases x
 case cU aa=>
  cases y<;>simp only[wL,kJ,gX]at h<;>try (cases h;done)
  obtain⟨vs,rfl,k⟩:=k;refine⟨vs,rfl,aT.mk (h.length.symm.trans k.length) fun i p q hp hq=> ?_⟩;obtain⟨p',rL,hr⟩:=k.get i _ (aCP (by rw[h.length];exact(aDc.1 hp).1));rw[hq]at rL;cases rL;obtain⟨q',dn,hs⟩:=h.get i _ (aCP (by rw[h.length];exact(aDc.1 hp).1));rw[hp]at dn;cases dn;exact hs.rel hr
 all_goals
  simp only[kH]at k
  cases y<;>first|(simp [wL,kJ,gX]at h;done)|(simp only[kH];exact(fun hh=>kJ.rel hh k) h)
def qx(P:Program)(w:World)(tmps:Array Value)(r:ResultVar)(v:Value):Prop:=
 (match r with
  | .tmp t=>(pure (tmps.getD t undef):Sem Value)
  | .cell a t=>(do loadVar t (←asAddr (tmps.getD a undef)))).run P w= .ok v w
theorem aAc(hE:E.Ok)(h:aP S ι st a w){r:ResultVar}{K:AV→Prop}(hk:OZ E st r K): ∃y v,K y∧fD w (lT S w) y v∧qx E.P w a.tmps r v:=by
 cases r with
 |tmp t=>
  obtain⟨y,h1,h2⟩:=SR h (h.eval (.tmp t)) hk;exact⟨y,_,h1,h2,rfl⟩
 |cell t T=>
  obtain⟨ty,hT,_,hk⟩:=kG hE hk;obtain⟨p,av,u,h1,h2,h3,h4⟩:=Oi hT h (h.eval (.tmp t)) hk;obtain⟨y,h5,h6⟩:=SR h h3 h2;refine⟨y,u,h5,h6,?_⟩;have Hp:a.tmps.getD t undef= .pointer (some p):=h1;simp only[qx];rw[Sem.run_bind,Hp];simp [asAddr,h4]
theorem ajh(hE:E.Ok)(h:aP S ι st a w): ∀(rs:List ResultVar) (K:List AV→Prop),Aq E st rs K→ ∃ys vs,K ys∧aT (fD w (lT S w)) ys vs∧aT (qx E.P w a.tmps) rs vs
 |[],K,hk=>⟨[],[],hk,trivial,trivial⟩
 |r::rs,K,hk=>by
  obtain⟨y,v,hk,h1,h2⟩:=aAc hE h hk;obtain⟨ys,vs,hk,h3,h4⟩:=ajh hE h rs _ hk;exact⟨y::ys,v::vs,hk,⟨h1,h3⟩,h2,h4⟩
theorem YQ{P:Program}{fn:Func}{tmps:Array Value}{vs:List Value}(h:aT (qx P w tmps) fn.results.toList vs):
  (results fn tmps).run P w= .ok (if h:vs.toArray.size=1 then vs.toArray[0]else .tuple vs.toArray) w:=by
 have key: ∀(rs:List ResultVar) (vs:List Value),aT (qx P w tmps) rs vs→Sem.run P (rs.mapM fun(r:ResultVar)=>match r with
  | .tmp t=>(pure (tmps.getD t undef):Sem Value)
  | .cell a t=>(do loadVar t (←asAddr (tmps.getD a undef)))) w=Result.ok vs w:=by
  intro rs
  induction rs with
  |nil=>intro vs h;cases vs;simp;exact h.elim
  |cons r rs ih=>
   intro vs h
   cases vs with
   |nil=>exact h.elim
   |cons v vs=>
    have h1:=h.1;have h2:=ih vs h.2;unfold qx at h1;simp only[List.mapM_cons];rw[Sem.run_bind]
    cases r<;>simp only at h1<;>rw[h1]<;>simp only[Result.andThen]<;>rw[Sem.run_bind,h2]<;>rfl
 unfold results;rw[Array.mapM_eq_mapM_toList];rw[Sem.run_bind];have:=key fn.results.toList vs h;simp only[Functor.map];rw[Sem.run_bind']
 erw [this]
 rfl
theorem aiM(h:aP S ι st a w){n0:Nat}(wj: ∀b x,ι b=some x→n0≤x){ro:Bool}{sz n:Nat}{f:Nat→List AV}{x:AV}{v:Value}(hx:VR S ι st.hp w x v)(hk:DT st.hp sz n f x):qJ n0 w (lT S w) (.ah ro sz n f) v:=by
 cases x<;>simp only[DT]at hk<;>try exact hk.elim
 ·subst hk;have cQ:aR w (FZ S ι st.hp w) .aE v:=hx
  cases cQ
  exact .inl ⟨rfl,rfl⟩
 ·rename_i b k
  cases e:aj st.hp b 0<;>rw[e]at hk<;>simp only at hk
  rename_i iq fe n' f';obtain⟨hc,rfl,rfl,hf⟩:=aD.1 hk;simp only[aCN,aC_]at hc;obtain⟨rfl,dw⟩:=hc;have dw:=aCS dw;subst dw;obtain⟨_,O2,Po,n2,f2,e2,_,h3⟩:=(show CR S ι st.hp w (.own b k) v from hx);rw[e]at e2;cases e2;rcases h3 rfl with⟨q,c,C,T',hq,hv,gL,hC,eZ⟩|⟨rfl,_,hv⟩
  ·have hl:=h.hp b 0;rw[e]at hl;obtain⟨_,hd|⟨dK,hl|⟨q',C',T2,dn,iD,eB⟩⟩⟩:=hl
   ·rw[hq]at hd;cases hd.2.2
   ·rw[hq]at hl;cases hl.2
   ·rw[hq]at dn;cases dn;rw[hC]at iD;cases iD;refine .inr ⟨q,c,C,T',wj b q hq,(h.fresh b q hq).2,hv,gL,dK,hC,eZ,fun i j hi hj=> ?_⟩;obtain⟨av,u,g1,g2,g3⟩:=eB i j hi hj;refine⟨av,u,by rw[←hf i hi];exact g1,g2,g3.mono (fun y hy=>⟨Qt hy,fun he=> ?_⟩) fun _ _ _=>rfl⟩;exact hy.2.2 b (.inl ⟨by rw[e];rfl,by rw[e];rfl⟩) (by rw[he];exact hq)
  ·exact .inl ⟨rfl,hv⟩
theorem aAa(hE:E.Ok)(h:aP S ι st a w){n0:Nat}(hB:S.w0.heap.size≤w.heap.size)(wj: ∀b x,ι b=some x→n0≤x){rs:List ResultVar}{ro:Bool}{sz n:Nat}{f:Nat→List AV}(hk:D1 E st rs sz n f):
  ∃rv v,rs=[rv]∧qx E.P w a.tmps rv v∧qJ n0 w (lT S w) (.ah ro sz n f) v:=by
 unfold D1 at hk
 split at hk
 ·rename_i rv
  cases rv with
  |tmp t=>exact⟨_,_,rfl,rfl,aiM h wj (h.eval (.tmp t)) hk⟩
  |cell t T=>
   obtain⟨ty,hT,_,hk⟩:=kG hE hk;obtain⟨p,av,u,h1,h2,h3,h4⟩:=Oi hT h (h.eval (.tmp t)) hk;refine⟨_,u,rfl,?_,aiM h wj h3 h2⟩;have Hp:a.tmps.getD t undef= .pointer (some p):=h1;simp only[qx];rw[Sem.run_bind,Hp];simp [asAddr,h4]
 ·exact hk.elim
theorem wJ(hE:E.Ok){f:FuncId}{fn:Func}{c:Code}(hf:E.P.funcs[f]? =some fn)(hb:fn.body=some c)(aa:List AV)(r:AV)
  (hk:WP E c (aAd E fn.results.toList r) ⟨aa++List.replicate (fn.ntmps-aa.length) .undef,[]⟩):fk E.P f aa r:=by
 intro w F vs hF eK;let S:dF:=⟨F,w,hF.lt,fun _=>False,fun _ h=>h.elim,fun _=>none,[],F,fun _ _ h=>(by cases h),hF.gl⟩;have hlen:=eK.length;have kX:aP S (fun _=>none) ⟨aa++List.replicate (fn.ntmps-aa.length) .undef,[]⟩ {tmps:=vs.toArray++Array.replicate (fn.ntmps-vs.toArray.size) undef,defers:=[]} w:=by
  refine⟨je.refl _ _ _,rfl,fun t av ht=> ?_,fun b o=> ?_,fun _ _ _ h=>(by cases h),fun _ _ h=>(by cases h),fun _ _ h=>(by cases h),⟨fun x h=>⟨.inl h,hF.lt x h,fun b hb=>(by simp)⟩,fun _ _ _=>rfl,fun _ _ h=>(by cases h),fun b ro sz n f h=>(by simp [S,aj]at h)⟩⟩
  ·rcases aCY t aa.length with h|h
   ·rw[aDH h]at ht;obtain⟨v,h1,h2⟩:=eK.get t av ht;refine⟨v,?_,dZ.Ai (gm.OH (h2.mono (fun x hx=>⟨.inl hx,hF.lt x hx,fun b hb=>(by simp)⟩) fun _ _ _=>rfl))⟩;rw[aDt (by simp;omega)];simpa using h1
   ·rw[aD4 h]at ht;have Wt:t-aa.length<fn.ntmps-aa.length:=by
     rcases aCY (t-aa.length) (fn.ntmps-aa.length)with h'|h'
     ·exact h'
     ·rw[aCW (by simpa using h')]at ht;cases ht
    rw[aEC,aCL Wt]at ht
    cases ht
    exact⟨undef,by rw[Array.getElem?_append_right (by simp;omega),Array.getElem?_replicate,aCL (by simp;omega)],trivial⟩
  ·simp [aj,fc]
 refine calls_of_wp hf hb (aDs (hk S (aCQ _) _ _ w kX) fun e a w' ⟨ι,st,hs,hq⟩=> ?_);obtain⟨he,o_⟩:=hq
 by_cases HW:bW r=true
 ·obtain⟨ro,sz,n,f,rfl⟩:=NV HW;obtain⟨rv,v,e1,e2,e3⟩:=aAa hE hs (hB:=hs.below.size) (n0:=w.heap.size) (fun b x hx=>(hs.fresh b x hx).1.resolve_right fun h=>h) o_;have b_:=YQ (w:=w') (fn:=fn) (tmps:=a.tmps) (vs:=[v]) (by rw[e1];exact⟨e2,trivial⟩);have post: ∃v,(results fn a.tmps).run E.P w'= .ok v w'∧ ∃v',Ending.returned v= .returned v'∧qJ w.heap.size w' (fun x=>F x∨(w.heap.size≤x∧x<w'.heap.size)) (.ah ro sz n f) v'∧Below w.heap.size w w':=
   ⟨_,b_,_,rfl,e3,hs.below.plain fun _ h=>h⟩
  cases e<;>simp only at he<;>first|exact⟨hs.defers,post⟩|exact he.elim
 have o_:Aq E st fn.results.toList fun vs=>wL (pq vs) r:=by cases r<;>first|exact o_|(exact absurd rfl HW)
 obtain⟨ys,us,hle,h1,h2⟩:=ajh hE hs _ _ o_;have b_:=YQ h2;have pX: ∀x,lT S w' x→(F x∨(w.heap.size≤x∧x<w'.heap.size)):=fun x hx=>hx;have nt:kH w' (lT S w') (pq ys) (if h:us.toArray.size=1 then us.toArray[0]else .tuple us.toArray):=by
  match ys,us,h1 with
  |[],[],_=>exact⟨[],rfl,trivial⟩
  |[y],[u],h1=>
   have:=h1.1;simp only[pq]
   cases y<;>first|exact this|exact False.elim this|(cases this)
  |y::y'::ys,u::u'::us,h1=>
   rw[dif_neg (by simp)];exact⟨_,rfl,h1⟩
 have as8:=hle.rel nt;have post: ∃v,(results fn a.tmps).run E.P w'= .ok v w'∧ ∃v',Ending.returned v= .returned v'∧qJ w.heap.size w' (fun x=>F x∨(w.heap.size≤x∧x<w'.heap.size)) r v'∧Below w.heap.size w w':=
  ⟨_,b_,_,rfl,by have:=as8.mono pX (fun _ _ _=>rfl);cases r<;>first|exact this|(exact absurd rfl HW),hs.below.plain fun _ h=>h⟩
 cases e<;>simp only at he<;>first|exact⟨hs.defers,post⟩|exact he.elim
end
def zB:AV→Value→Bool
 | .int k n,.int k' n'=>decide (k=k')&&n==n'
 | .bool b,.bool b'=>b==b'
 | .str s,.string s'=>s.data.toList==s'.data.toList&&s.size==0
 | .aE,.slice none 0 0=>true
 | .jX,.pointer none=>true
 | .undef,.pointer _=>true
 | .undef,.func _ _ _=>true
 | .undef,.nilFunc=>true
 | .undef,.nilIface=>true
 |_,_=>false
def Py:List AV→List Value→Bool
 |[],[]=>true
 |a::aa,v::vs=>zB a v&&Py aa vs
 |_,_=>false
def ON:List (Nat×Nat)→List Field→Program→Bool
 |[],[],_=>true
 |(o,s)::r,f::fs,P=>(f.offset==o&&s !=0&&(match P.info? f.type with|some i=>i.size==s|none=>false))&&ON r fs P
 |_,_,_=>false
def JP(P:Program)(t:Ty)(d:TypeDesc):Bool:=
 match t.d,d with
 | .bool,.bool=>t.size==1
 | .string,.string=>t.size==1
 | .int k,.int k'=>decide (k=k')&&t.size==1
 | .slice e aO eb,.slice e'=>e==e'&&t.size==1&&(match P.info? e with|some i=>i.size==aO&&i.bytes==eb&&(match i.zero with|some z=>z.cells.size==i.size|none=>false)|none=>false)
 | .pointer e,.pointer e'=>e==e'&&t.size==1
 | .struct dC,.struct fs=>ON dC fs.toList P
 | .array n e aO,.array n' e'=>n==n'&&e==e'&&(match P.info? e with|some i=>i.size==aO|none=>false)
 | .other,.func .. =>t.size==1
 |_,_=>false
def D_(P:Program)(T:TypeId)(t:Ty):Bool:=
 match P.info? T,P.underlying T with
 |some i,some d=>i.size==t.size&&(match i.zero with|some z=>z.cells.size==t.size&&Py t.zero z.cells.toList|none=>false)&&JP P t d
 |_,_=>false
theorem aBD{a:AV}{v:Value}(h:zB a v=true):lW a v:=by
 cases a
 case str s=>
  cases v<;>simp only[zB]at h<;>try (cases h;done)
  rename_i s';simp only[aCN,aDG]at h;obtain⟨h1,h2⟩:=h;have:s=s':=by
   cases s;cases s'
   simp only at h1
   congr 1
   exact aDr h1
  subst this;exact⟨rfl,h2⟩
 case jX=>
  cases v
  case pointer p=>cases p<;>simp_all [zB,lW]
  all_goals cases h
 case aE=>
  cases v
  case slice a n m=>cases a<;>cases n<;>cases m<;>simp_all [zB,lW]
  all_goals cases h
 all_goals
  cases v<;>simp [zB]at h<;>simp only[lW]<;>first|rfl|(obtain⟨rfl,rfl⟩:=h;rfl)|(subst h;rfl)|skip
theorem akc: ∀{aa:List AV} {vs:List Value},Py aa vs=true→aT lW aa vs
 |[],[],_=>trivial
 |a::aa,v::vs,h=>by
  simp only[Py,aCN]at h;exact⟨aBD h.1,akc h.2⟩
 |[],_::_,h=>by cases h
 |_::_,[],h=>by cases h
theorem aiX{P:Program} : ∀{dC:List (Nat×Nat)} {fs:List Field},ON dC fs P=true→
  fs.mapM (fun f=>(P.info? f.type).map fun i=>(f.offset,i.size))=some dC∧ ∀(k off sz:Nat),dC[k]? =some (off,sz)→ ∃f:Field,fs[k]? =some f∧f.offset=off∧ ∃i,P.info? f.type=some i∧i.size=sz∧sz≠0
 |[],[],_=>⟨rfl,fun k off sz h=>by simp at h⟩
 |(o,s)::r,f::fs,h=>by
  simp only[ON,aCN]at h;obtain⟨⟨⟨h1,h2⟩,h3⟩,h4⟩:=h;obtain⟨h5,h6⟩:=aiX h4
  cases hi:P.info? f.type with
  |none=>rw[hi]at h3;cases h3
  |some i=>
   rw[hi]at h3;have e1:f.offset=o:=by simpa using h1
   have e2:s≠0:=by simpa using h2
   have e3:i.size=s:=by simpa using h3
   refine⟨by simp [List.mapM_cons,hi,h5,e1,e3],fun k off sz hk=> ?_⟩
   cases k with
   |zero=>simp at hk;obtain⟨rfl,rfl⟩:=hk;exact⟨f,rfl,e1,i,hi,e3,e2⟩
   |succ k=>exact h6 k off sz (by simpa using hk)
 |[],_::_,h=>by cases h
 |_::_,[],h=>by cases h
theorem aA9{P:Program}{T:TypeId}{t:Ty}(h:D_ P T t=true)(hc:t.cmp=true→Jo P T t.zero):gF P T t:=by
 unfold D_ at h
 cases hi:P.info? T with
 |none=>rw[hi]at h;cases h
 |some i=>
  cases hu:P.underlying T with
  |none=>rw[hi,hu]at h;cases h
  |some d=>
   rw[hi,hu]at h;simp only[aCN]at h;obtain⟨⟨h1,h2⟩,h3⟩:=h
   cases hz:i.zero with
   |none=>rw[hz]at h2;cases h2
   |some z=>
    rw[hz]at h2;simp only[aCN]at h2;refine⟨⟨i,z,hi,by simpa using h1,hz,by simpa using h2.1,akc h2.2⟩,⟨d,hu,fun e=> ?_,fun e=> ?_⟩,?_,hc⟩
    ·unfold JP at h3
     cases ed:t.d<;>rw[ed]at e h3<;>first|(cases e;done)|skip
     all_goals (cases d<;>simp only at h3<;>first|(cases h3;done)|rfl)
    ·unfold JP at h3
     cases ed:t.d<;>rw[ed]at e h3<;>first|(cases e;done)|skip
     all_goals
      cases d<;>simp only at h3<;>first|(cases h3;done)|(simp only[aCN,aDG,aDd]at h3;simp_all)
    ·unfold JP at h3
     cases ed:t.d<;>rw[ed]at h3<;>simp only
     all_goals
      cases d<;>simp only at h3<;>first|(cases h3;done)|trivial|skip
     ·simp only[aCN,aDd]at h3;rw[h3.1];exact hu
     ·rename_i e aO eb e';simp only[aCN,aDG]at h3;obtain⟨⟨rfl,_⟩,h4⟩:=h3
      cases he:P.info? e with
      |none=>rw[he]at h4;cases h4
      |some j=>
       rw[he]at h4;simp only[aCN,aDG]at h4;obtain⟨h4,h5⟩:=h4
       cases Nh:j.zero with
       |none=>rw[Nh]at h5;cases h5
       |some zz=>
        rw[Nh]at h5;exact⟨hu,j,rfl,h4.1,h4.2,by rw[Nh];rfl,fun z hz=>by rw[Nh]at hz;cases hz;simpa using h5⟩
     ·simp only[aCN,aDG]at h3;rw[h3.1];exact hu
     ·obtain⟨h5,h6⟩:=aiX h3;exact⟨_,hu,h5,fun k off sz hk=>by obtain⟨f,g1,g2⟩:=h6 k off sz hk;exact⟨f,by simpa using g1,g2⟩⟩
     ·rename_i n e aO n' e';simp only[aCN,aDG]at h3;obtain⟨⟨rfl,rfl⟩,h4⟩:=h3;refine⟨hu,?_⟩
      cases he:P.info? e with
      |none=>rw[he]at h4;cases h4
      |some j=>
       rw[he]at h4;exact⟨j,rfl,by simpa using h4⟩
def Ax(ir:List (Nat×Ty))(T:TypeId):Option Ty:=
 match ir with
 |[]=>none
 |(T',t)::r=>if T==T' then some t else Ax r T
theorem ajV{ir:List (Nat×Ty)}{T:TypeId}{t:Ty}(h:Ax ir T=some t):(T,t)∈ir:=by
 induction ir with
 |nil=>cases h
 |cons x r ih=>
  obtain⟨T',t'⟩:=x;simp only[Ax]at h
  split at h
  ·rename_i e;have:T=T':=by simpa using e
   cases h;rw[this];simp
  ·exact List.mem_cons_of_mem _ (ih h)
abbrev Spec:=FuncId→List AV→Option (Option Prop×AV)
def Spec.Ok(P:Program)(s:Spec):Prop:= ∀f args pre r,s f args=some (pre,r)→ml P f∧(oD pre True→fk P f args r)
abbrev wW:=FuncId→List AV→Heap→Option (Option Prop×List AV×Heap)
def wW.Ok(P:Program)(s:wW):Prop:= ∀f args H pre rs H',s f args H=some (pre,rs,H')→ml P f∧(oD pre True→fj P f args H rs H')
theorem ao3{P:Program}{ir:List (Nat×Ty)}{s:Spec}{m:Nat}{hs:wW}{ho:FuncId→Bool}(hm:P.follows .mixedOrders=true)(h:(ir.all fun x=>D_ P x.1 x.2)=true)(hc: ∀x∈ir,x.2.cmp=true→Jo P x.1 x.2.zero)(h1:s.Ok P)(h2:hs.Ok P):Env.Ok ⟨P,Ax ir,s,m,hs,ho⟩:=
 ⟨fun T t ht=>aA9 (aCR.1 h (T,t) (ajV ht)) (hc (T,t) (ajV ht)),hm,h1,h2⟩
def ny:TypeDesc→Bool
 | .struct _=>true
 | .array _ _=>true
 |_=>false
def sj(agg:Bool)(vs:List Value):Value:=if agg then .agg vs.toArray else vs.headD undef
def EZ(P:Program)(rec:TypeId→List AV→Bool):List Field→Nat→List AV→Bool
 |[],_,zs=>zs.isEmpty
 |f::fs,off,zs=>(f.name != "_")&&f.offset==off&&(match P.info? f.type,P.underlying f.type with
  |some i,some _=>decide (0<i.size)&&decide (i.size≤zs.length)&&rec f.type (zs.take i.size)&&EZ P rec fs (off+i.size) (zs.drop i.size)
  |_,_=>false)
def sS(P:Program):Nat→TypeId→List AV→Bool
 |0,_,_=>false
 |n+1,T,zs=>match P.underlying T with
  |some (.int k)=>match zs with
   |[.int k' _]=>decide (k=k')
   |_=>false
  |some .bool=>match zs with
   |[.bool _]=>true
   |_=>false
  |some .string=>match zs with
   |[.str _]=>true
   |_=>false
  |some (.struct fs)=> !P.stoodInHeld T&&EZ P (sS P n) fs.toList 0 zs
  |_=>false
theorem xp: ∀{zs cs:List AV},ik zs cs=true→zs.length=cs.length
 |[],[],_=>rfl
 |_::_,_::_,h=>by simp only[ik,aCN]at h;simp [xp h.2]
 |[],_::_,h=>by cases h
 |_::_,[],h=>by cases h
theorem SF(n:Nat): ∀{zs cs:List AV},ik zs cs=true→ik (zs.take n) (cs.take n)=true∧ik (zs.drop n) (cs.drop n)=true
 |[],[],h=>by simp [ik]
 |z::zs,c::cs,h=>by
  simp only[ik,aCN]at h
  cases n with
  |zero=>simp [ik,h]
  |succ n=>
   have:=SF n h.2;simp [ik,h.1,this]
 |[],_::_,h=>by cases h
 |_::_,[],h=>by cases h
theorem abM(n:Nat): ∀(cs ds:List AV),cs.length=ds.length→jO cs ds=(jO (cs.take n) (ds.take n)&&jO (cs.drop n) (ds.drop n))
 |[],[],_=>by simp [jO]
 |c::cs,d::ds,h=>by
  cases n with
  |zero=>simp [jO]
  |succ n=>simp [jO,abM n cs ds (by simpa using h),Bool.and_assoc]
 |[],_::_,h=>by simp at h
 |_::_,[],h=>by simp at h
theorem aT.drop{α β:Type}{R:α→β→Prop} : ∀{aa:List α} {bs:List β} (n:Nat),aT R aa bs→aT R (aa.drop n) (bs.drop n)
 |[],[],n,_=>by simp [aT]
 |_::_,_::_,0,h=>h
 |_::_,_::_,n+1,h=>aT.drop n h.2
 |[],_::_,_,h=>h.elim
 |_::_,[],_,h=>h.elim
section
variable {P:Program} {w:World}
theorem ajr{T:TypeId}{i:TypeInfo}{d:TypeDesc}(hi:P.info? T=some i)(hu:P.underlying T=some d)(h1:ny d=false→i.size=1)(vs:List Value)(off:Nat)(hl:off+i.size≤vs.length):
  (part T vs.toArray off).run P w= .ok (sj (ny d) ((vs.drop off).take i.size)) w:=by
 cases e:ny d with
 |true=>
  have:(isAgg T).run P w= .ok true w:=by cases d<;>simp [ny]at e<;>simp [isAgg,aCU hu]
  simp only[part,Sem.run_bind,this,Result.andThen_ok,aDg,sizeOf,typeInfo,sj];simp [hi]
 |false=>
  have:(isAgg T).run P w= .ok false w:=by cases d<;>simp [ny]at e<;>simp [isAgg,aCU hu]
  have h1:=h1 e;have cI:off<vs.length:=by omega
  simp only[part,Sem.run_bind,this,Result.andThen_ok,sj,h1];have hd:(vs.drop off).take 1=[vs[off]]:=by rw[aEk cI];rfl
  simp [hd,cI]
def wV(P:Program)(n:Nat)(T:TypeId)(zs:List AV):Prop:=
 ∀(d:Nat) (cs ds:List AV) (vs us:List Value) (w:World) (td:TypeDesc),n≤d→P.underlying T=some td→ik zs cs=true→ik zs ds=true→aT wX cs vs→aT wX ds us→
  (Op.equalIn d T (sj (ny td) vs) (sj (ny td) us)).run P w= .ok (jO cs ds) w
theorem aok{n:Nat}{T:TypeId}{zs:List AV}(h:sS P n T zs=true){td:TypeDesc}(hu:P.underlying T=some td)(he:ny td=false):zs.length=1:=by
 cases n with
 |zero=>cases h
 |succ n=>
  simp only[sS,hu]at h
  cases td<;>simp only at h<;>first|(cases h;done)|(cases he;done)|skip
  all_goals
   split at h<;>first|rfl|cases h
theorem abN{n:Nat}(ih: ∀(T:TypeId) (zs:List AV),sS P n T zs=true→wV P n T zs){d:Nat}(hd:n≤d)(vs us:List Value)(cs ds:List AV)(hv:aT wX cs vs)(hu:aT wX ds us)(M0:cs.length=ds.length):
  ∀(fs:List Field) (off:Nat) (zs:List AV) (w:World),EZ P (sS P n) fs off zs=true→ik zs (cs.drop off)=true→ik zs (ds.drop off)=true→
   (Op.eqFields d vs.toArray us.toArray fs).run P w= .ok (jO (cs.drop off) (ds.drop off)) w
 |[],off,zs,w,h,hc,lJ=>by
  simp only[EZ]at h;have hz:zs=[]:=by simpa using h
  subst hz;have h1:=(xp hc).symm;have h2:=(xp lJ).symm;rw[aEl.1 h1,aEl.1 h2];simp [Op.eqFields,jO]
 |f::fs,off,zs,w,h,hc,lJ=>by
  simp only[EZ,aCN]at h;obtain⟨⟨hn,ho⟩,h⟩:=h;have ho:f.offset=off:=by simpa using ho
  have hn:f.name≠ "_" :=by simpa using hn
  cases hi:P.info? f.type with
  |none=>rw[hi]at h;simp at h
  |some i=>
   cases ht:P.underlying f.type with
   |none=>rw[hi,ht]at h;simp at h
   |some td=>
    rw[hi,ht]at h;simp only[aCN,aDd]at h;obtain⟨⟨⟨rN,dw⟩,agS⟩,rO⟩:=h;have lc:=xp hc;have ld:=xp lJ;have lv:=hv.length;have lu:=hu.length;simp only[aEc]at lc ld;have uh:ny td=false→i.size=1:=fun e=>by
     have:=aok agS ht e;simp only[aDq]at this;omega
    have p1:=ajr (w:=w) hi ht uh vs off (by omega);have p2:=ajr (w:=w) hi ht uh us off (by omega);have kc:=SF i.size hc;have kd:=SF i.size lJ;have he:=ih f.type (zs.take i.size) agS d ((cs.drop off).take i.size) ((ds.drop off).take i.size) ((vs.drop off).take i.size) ((us.drop off).take i.size) w td hd ht kc.1 kd.1 (aT.take _ (aT.drop _ hv)) (aT.take _ (aT.drop _ hu));have hr:=abN ih hd vs us cs ds hv hu M0 fs (off+i.size) (zs.drop i.size) w rO (by rw[←aDT];exact kc.2) (by rw[←aDT];exact kd.2);simp only[Op.eqFields,ho];rw[aCL hn,Sem.run_bind,p1,Result.andThen_ok,Sem.run_bind,p2,Result.andThen_ok,Sem.run_bind,he,Result.andThen_ok];rw[abM i.size (cs.drop off) (ds.drop off) (by simp;omega),aDT,aDT]
    cases jO ((cs.drop off).take i.size) ((ds.drop off).take i.size)with
    |false=>simp
    |true=>simp only[Bool.not_true,Bool.false_eq_true,aDn,Bool.true_and];exact hr
theorem abk: ∀(n:Nat) (T:TypeId) (zs:List AV),sS P n T zs=true→wV P n T zs
 |0,_,_,h=>by cases h
 |n+1,T,zs,h=>by
  intro d cs ds vs us w td hd ht hc lJ hv hu;simp only[sS,ht]at h;obtain⟨d,rfl⟩: ∃d',d=d'+1:=⟨d-1,by omega⟩
  cases td<;>simp only at h<;>first|(cases h;done)|skip
  case bool=>
   split at h<;>first|(cases h;done)|skip
   match cs,ds,vs,us,hc,lJ,hv,hu with
   |[.bool p],[.bool q],[v],[u],_,_,hv,hu=>rw[show v= .bool p from hv.1,show u= .bool q from hu.1];simp [sj,ny,run_equalIn_bool' w d T p q ht,jO,JZ]
  case int k=>
   split at h<;>first|(cases h;done)|skip
   match cs,hc with
   | .int _ _::_::_,hc=>simp [ik]at hc
   |[.int k1 p],hc=>
   match ds,lJ with
   | .int _ _::_::_,lJ=>simp [ik]at lJ
   |[.int k2 q],lJ=>
   match vs,us,hv,hu with
   |[v],[u],hv,hu=>
    rw[show v= .int k1 p from hv.1,show u= .int k2 q from hu.1];simp [ik,SE]at hc lJ;rw[←hc,←lJ];simp [sj,ny,run_equalIn_int w d T _ _ p q ht,jO,JZ]
  case string=>
   split at h<;>first|(cases h;done)|skip
   match cs,ds,vs,us,hc,lJ,hv,hu with
   |[.str p],[.str q],[v],[u],_,_,hv,hu=>rw[show v= .string p from hv.1,show u= .string q from hu.1];simp [sj,ny,run_equalIn_string w d T p q ht,jO,JZ]
  case struct fs=>
   simp only[aCN,aC_]at h;have hf:P.fieldsOf T=fs:=by simp [Program.fieldsOf,ht]
   have:=run_equalIn_struct (P:=P) w d T vs.toArray us.toArray (by rw[hf];exact ht) h.1;simp only[sj,ny,aDg];rw[this,hf];have hl:cs.length=ds.length:=(xp hc).symm.trans (xp lJ);exact abN (abk n) (by omega) vs us cs ds hv hu hl fs.toList 0 zs w h.2 (by simpa using hc) (by simpa using lJ)
theorem ao5{T:TypeId}{zs:List AV}{n:Nat}(h:sS P n T zs=true)(hn:n≤10000)(hs:(match P.underlying T with|some (.struct _)=>true|_=>false)=true)(hg:P.eqGuardType P.depth T=false):Jo P T zs:=by
 intro op x y cs ds vs us w Dk hc hd hv hu
 cases ht:P.underlying T with
 |none=>rw[ht]at hs;cases hs
 |some td=>
  rw[ht]at hs
  cases td<;>simp only at hs<;>first|(cases hs;done)|skip
  rename_i fs;have:=abk n T zs h 10000 cs ds vs us w _ hn ht hc hd hv hu;simp only[sj,ny,aDg]at this;rw[Sem.run_bind,run_eqGuard_agg w op T x y _ _ hg,Result.andThen_ok];rcases Dk with rfl|rfl
  ·rw[run_eql_struct,this];rfl
  ·rw[run_neq_struct,this];rfl
def JI(P:Program)(x:Nat×Ty):Bool:= !x.2.cmp||(sS P 9 x.1 x.2.zero&&(match P.underlying x.1 with|some (.struct _)=>true|_=>false)&& !(P.eqGuardType P.depth x.1))
theorem abL{P:Program}{ir:List (Nat×Ty)}{s:Spec}{m:Nat}{h2:wW}{ho:FuncId→Bool}(hm:P.follows .mixedOrders=true)(h:(ir.all fun x=>D_ P x.1 x.2)=true)(hc:(ir.all fun x=>JI P x)=true)(hs:s.Ok P)(hk:h2.Ok P):Env.Ok ⟨P,Ax ir,s,m,h2,ho⟩:=
 ao3 hm h (h1:=hs) (h2:=hk) fun x hx pW=>by
  have:=aCR.1 hc x hx;simp only[JI,pW,Bool.not_true,Bool.false_or,aCN,aC_]at this;exact ao5 (n:=9) this.1.1 (by omega) this.1.2 this.2
end
def iS(x y:AV):Prop:=
 match y with
 | .undef=>True
 | .bool c=>match x with
   | .bool b=>b=c
   | .lit b=>b=c
   |_=>False
 | .int k m=>match x with
   | .int k' n=>cT (decide (k'=k)) (n=m)
   |_=>False
 | .str t=>match x with
   | .str s=>s=t
   |_=>False
 | .arr sz n g=>match x with
   | .arr fe n' f=>cT (decide (fe=sz)) (n'=n∧ ∀i,i<n→f i=g i)
   | .aE=>n=0
   |_=>False
 |y=>x=y
def J5:List AV→List AV→Prop
 |[],[]=>True
 |x::xs,y::ys=>iS x y∧J5 xs ys
 |_,_=>False
def xt(x y:AV):Prop:=
 match y with
 | .agg ds=>match x with
   | .agg cs=>J5 cs ds
   |_=>False
 |y=>iS x y
def pG:List AV→List AV→Prop
 |[],[]=>True
 |x::xs,y::ys=>match y with
  | .undef=>pG xs ys
  |y=>xt x y∧pG xs ys
 |_,_=>False
def iA(x y:AV):Prop:=
 match y with
 | .undef=>bW x=false
 | .gone=>match x with
   | .undef=>False
   | .ah .. =>False
   |_=>True
 | .ah ro sz n g=>match x with
   | .ah iq fe n' f=>cT (decide (iq=ro)&&decide (fe=sz)) (n'=n∧ ∀i,i<n→kY (f i) (g i))
   |_=>False
 |y=>cT (!(bW x)) (iS x y)
def sW:List AV→List AV→Prop
 |xs,[]=>cT (xs.all fun x=> !(bW x)) True
 |x::xs,y::ys=>iA x y∧sW xs ys
 |[],_::_=>False
def Bf:Heap→Heap→Prop
 |[],ys=>cT (ys.all fun y=>y.isEmpty) True
 |x::xs,y::ys=>sW x y∧Bf xs ys
 |x::xs,[]=>cT (x.all fun z=> !(bW z)) (Bf xs [])
def Be:Heap→Heap→Prop
 |[],ys=>cT (ys.all fun y=>y.isEmpty) True
 |x::xs,y::ys=>match y with
  |[]=>Be xs ys
  |z::zs=>sW x (z::zs)∧Be xs ys
 |_::_,[]=>True
def alive(H:Heap)(b:Nat):Bool:=
 match H.getD b []with
 |[]=>false
 |_::_=>true
def an7(H:Heap):AV→Bool
 | .ptr b _=>alive H b
 |x=>nK x
def DH(H:Heap):AV→Bool
 | .ptr b _=>alive H b
 | .own b _=>alive H b
 | .fF b _ _ _=>alive H b
 | .fn _ bp=>bp.all (an7 H)
 |_=>true
def Om(H:Heap):AV→Bool
 | .agg cs=>cs.all (DH H)
 | .cU _=>false
 |av=>DH H av
def wF(s:St):Bool:=s.tm.all (Om s.hp)&&s.hp.all fun l=>l.all (DH s.hp)
def sH(s s':St):Prop:=pG s.tm s'.tm∧Be s.hp s'.hp∧wF s'=true
def Eg(s s':St):Prop:=pG s.tm s'.tm∧Bf s.hp s'.hp∧s.hp.length≤s'.hp.length
section
variable {S:dF} {ι:Nat→Option Nat} {a:Act} {w:World} {F:Nat→Prop} {H:Heap}
theorem vn{x y:AV}{v:Value}(h:iS x y)(k:bV ι H w F x v):bV ι H w F y v:=by
 cases y
 case undef=>exact k.one
 case bool c=>
  cases x<;>simp only[iS]at h<;>try exact h.elim
  ·subst h;exact k
  ·subst h;have k:aR w F (.lit _) v:=k
   cases k
   exact aR.bool _
 case int kd m=>
  cases x<;>simp only[iS]at h<;>try exact h.elim
  rw[aD]at h;obtain⟨h1,rfl⟩:=h;have:=ay h1;subst this;exact k
 case str t=>
  cases x<;>simp only[iS]at h<;>try exact h.elim
  subst h;exact k
 case arr sz n g=>
  cases x<;>simp only[iS]at h<;>try exact h.elim
  ·subst h;have k:aR w F .aE v:=k
   cases k
   exact aR.nil _ _
  ·rw[aD]at h;obtain⟨h1,rfl,h2⟩:=h;have:=ay h1;subst this;exact gX.rel (x:= .arr _ _ _) (y:= .arr _ _ _) ⟨rfl,rfl,h2⟩ k
 all_goals
  simp only[iS]at h;subst h;exact k
theorem abW: ∀{cs ds:List AV} {vs:List Value},J5 cs ds→aT (bV ι H w F) cs vs→aT (bV ι H w F) ds vs
 |[],[],_,_,k=>k
 |_::_,_::_,_::_,h,k=>⟨vn h.1 k.1,abW h.2 k.2⟩
 |_::_,_::_,[],_,k=>k.elim
 |[],_::_,_,h,_=>h.elim
 |_::_,[],_,h,_=>h.elim
theorem apg{x y:AV}{v:Value}(h:iS x y)(hy:y≠ .undef)(k:dZ ι H w F x v):dZ ι H w F y v:=by
 cases y
 case undef=>exact(hy rfl).elim
 case bool c=>
  cases x<;>simp only[iS]at h<;>first|exact h.elim|exact vn (ι:=ι) (H:=H) (x:= .bool _) (y:= .bool c) h k|exact vn (ι:=ι) (H:=H) (x:= .lit _) (y:= .bool c) h k
 case int kd m=>
  cases x<;>simp only[iS]at h<;>first|exact h.elim|exact vn (ι:=ι) (H:=H) (x:= .int _ _) (y:= .int kd m) h k
 case str t=>
  cases x<;>simp only[iS]at h<;>first|exact h.elim|exact vn (ι:=ι) (H:=H) (x:= .str _) (y:= .str t) h k
 case arr sz n g=>
  cases x<;>simp only[iS]at h<;>first|exact h.elim|exact vn (ι:=ι) (H:=H) (x:= .aE) (y:= .arr sz n g) h k|exact vn (ι:=ι) (H:=H) (x:= .arr _ _ _) (y:= .arr sz n g) h k
 all_goals
  simp only[iS]at h;subst h;exact k
theorem aph{x y:AV}{v:Value}(h:xt x y)(k:dZ ι H w F x v):dZ ι H w F y v:=by
 cases y
 case undef=>trivial
 case agg ds=>
  cases x<;>simp only[xt]at h<;>try exact h.elim
  obtain⟨vs,rfl,k⟩:=k;exact⟨vs,rfl,abW h k⟩
 all_goals
  simp only[xt]at h;exact apg h (by simp) k
theorem abY: ∀{xs ys:List AV} (t:Nat) (y:AV),pG xs ys→ys[t]? =some y→ ∃x,xs[t]? =some x∧xt x y
 |[],[],_,_,_,h=>by simp at h
 |x::xs,y::ys,0,z,h,hz=>by
  simp at hz;subst hz;refine⟨x,rfl,?_⟩;simp only[pG]at h
  split at h
  ·trivial
  ·exact h.1
 |x::xs,y::ys,t+1,z,h,hz=>by
  have:pG xs ys:=by
   simp only[pG]at h
   split at h
   ·exact h
   ·exact h.2
  simpa using abY t z this (by simpa using hz)
 |[],_::_,_,_,h,_=>h.elim
 |_::_,[],_,_,h,_=>h.elim
theorem abV: ∀{xs ys:List AV} (o:Nat),sW xs ys→iA (xs.getD o .undef) (ys.getD o .undef)
 |xs,[],o,h=>by
  cases xs<;>simp only[sW]at h<;>simp only[List.getD_nil,iA]
  ·rfl
  ·rename_i x xs;have h1:=(aD.1 h).1
   cases e:(x::xs)[o]? with
   |none=>simp [List.getD,e,bW]
   |some z=>
    have:=aCR.1 h1 z (aCV e);simpa[List.getD,e]using this
 |x::xs,y::ys,0,h=>h.1
 |x::xs,y::ys,o+1,h=>by simpa using abV o h.2
 |[],_::_,_,h=>h.elim
theorem sX: ∀{xs ys:Heap} (b o:Nat),Bf xs ys→iA (aj xs b o) (aj ys b o)
 |[],ys,b,o,h=>by
  have h1:=(aD.1 h).1;have:aj ys b o= .undef:=by
   unfold aj
   cases e:ys[b]? with
   |none=>simp [List.getD,e]
   |some z=>
    have:=aCR.1 h1 z (aCV e);have hz:z=[]:=by simpa using this
    simp [List.getD,e,hz]
  rw[this];simp [aj,iA,bW]
 |x::xs,y::ys,0,o,h=>by simpa[aj]using abV o h.1
 |x::xs,y::ys,b+1,o,h=>by simpa[aj]using sX b o h.2
 |x::xs,[],0,o,h=>by
  have h1:=(aD.1 h).1;have h2:iA (x.getD o .undef) .undef:=by
   simp only[iA]
   cases e:x[o]? with
   |none=>simp [List.getD,e,bW]
   |some z=>
    have:=aCR.1 h1 z (aCV e);simpa[List.getD,e]using this
  simpa[aj]using h2
 |x::xs,[],b+1,o,h=>by
  have h1:=sX (ys:=[]) b o (aD.1 h).2;simpa[aj]using h1
theorem J4{x y:AV}(h:iA x y):bW x=bW y:=by
 cases y
 case undef=>exact h
 case ah ro sz n g=>
  cases x<;>simp only[iA]at h<;>first|exact h.elim|rfl
 case gone=>cases x<;>first|rfl|exact(show False from h).elim
 all_goals
  simp only[iA]at h;have:=(aD.1 h).1;simp only[aC_]at this;rw[this];rfl
theorem abT{x y:AV}(h:iS x y)(hy:y≠ .undef):x≠ .undef:=by
 rintro rfl
 cases y<;>simp only[iS]at h<;>first|exact hy rfl|exact h.elim|(cases h;done)|exact hy h
theorem abU{x y:AV}(h:iA x y)(hy:pw y=true):pw x=true:=by
 cases y
 case undef=>cases hy
 case ah ro sz n g=>
  cases x<;>simp only[iA]at h<;>try exact h.elim
  rw[aD,aCN]at h;have:=ay h.1.1;subst this;exact hy
 case gone=>cases x<;>first|rfl|exact(show False from h).elim
 all_goals
  simp only[iA]at h;obtain⟨h1,h2⟩:=aD.1 h;have h3:=abT h2 (by simp)
  cases x<;>first|rfl|(exact(h3 rfl).elim)|(cases h1;done)
theorem Eg.stp{st aX:St}(h:Eg st aX):dV ι st.hp w (FZ S ι st.hp w) ι aX.hp w (FZ S ι aX.hp w):=by
 refine⟨fun x ⟨h1,h2,h3⟩=>⟨h1,h2,fun b hb=>h3 b (hb.imp (fun⟨g1,g2⟩=>⟨by rw[J4 (sX b 0 h.2.1)];exact g1,abU (sX b 0 h.2.1) g2⟩) fun⟨g1,o,ho⟩=>⟨by rw[J4 (sX b 0 h.2.1)];exact g1,o,abU (sX b o h.2.1) ho⟩)⟩,fun _ _ _=>rfl,fun b x hx hb=>⟨hx,by rw[←J4 (sX b 0 h.2.1)];exact hb⟩,fun b ro sz n f hk=> ?_⟩;have h1:=sX b 0 h.2.1;rw[hk]at h1;have h2:=J4 h1
 cases e:aj aX.hp b 0<;>rw[e]at h1 h2<;>first|(cases h2;done)|skip
 simp only[iA]at h1;rw[aD,aCN]at h1;obtain⟨⟨g1,g2⟩,rfl,g3⟩:=h1;have:=ay g2;subst this;exact⟨_,_,_,_,rfl,aCK _,fun _=>⟨rfl,rfl,fun x C T _ hC=>⟨C,hC,rfl⟩⟩⟩
theorem Eg.le{m:Nat}{st aX:St}(h:Eg st aX):Le m st aX:=by
 intro S _ ι a w hs;have fQ:dV ι st.hp w (FZ S ι st.hp w) ι aX.hp w (FZ S ι aX.hp w):=h.stp;refine⟨ι,hs.below,hs.defers,fun t av ht=> ?_,fun b o=> ?_,hs.inj,hs.fresh,fun b x hb=>aC0 (hs.gH b x hb) h.2.2,hs.gK.trans fQ⟩
 ·obtain⟨x,hx,hr⟩:=abY t av h.1 ht;obtain⟨v,h1,h2⟩:=hs.tm t x hx;exact⟨v,h1,aph hr (h2.step fQ)⟩
 ·have h1:=sX b o h.2.1;have h2:=hs.hp b o
  cases e:aj aX.hp b o<;>rw[e]at h1
  case undef=>trivial
  case ah ro sz n g=>
   cases ex:aj st.hp b o<;>rw[ex]at h1 h2<;>simp only[iA]at h1<;>try exact h1.elim
   rw[aD,aCN]at h1;obtain⟨⟨g1,g2⟩,rfl,g3⟩:=h1;have:=ay g2;subst this;obtain⟨h3,kd|⟨C7,h4⟩⟩:=h2
   ·exact⟨h3,.inl ⟨by have g1:=ay g1;rw[←g1];exact kd.1,kd.2⟩⟩
   refine⟨h3,.inr ⟨C7,?_⟩⟩;rcases h4 with h4|⟨x,C,T,k1,k2,k3⟩
   ·exact .inl h4
   ·refine .inr ⟨x,C,T,k1,k2,fun i j hi hj=> ?_⟩;obtain⟨av,v,m1,m2,m3⟩:=k3 i j hi hj;obtain⟨y,hy,hn⟩:=OF j av (g3 i hi) m1;exact⟨y,v,hy,m2,XW hn (m3.mono fQ.fz fQ.cell)⟩
  case gone=>
   have h2:fc ι aX.hp w (FZ S ι aX.hp w) b o (aj st.hp b o):=h2.step fQ (fun _=>rfl) (fun _ _ _=>⟨rfl,rfl⟩) (fun _=>⟨rfl,fun _ _=>rfl⟩);have h6:bW (aj aX.hp b 0)=false∧ ∃x v,ι b=some x∧w.cell? ⟨x,o,none⟩=some v∧w.frozen? ⟨x,o,none⟩=false∧bV ι aX.hp w (FZ S ι aX.hp w) (aj st.hp b o) v:=by
    cases ex:aj st.hp b o<;>rw[ex]at h1 h2<;>first|exact(show False from h1).elim|exact h2
   obtain⟨k0,x,v,k1,k2,k3,k4⟩:=h6;exact⟨k0,x,v,k1,k2,k3,bV.one k4⟩
  all_goals
   simp only[iA]at h1;obtain⟨h3,h4⟩:=aD.1 h1;have h5:=abT h4 (by simp);have h2:fc ι aX.hp w (FZ S ι aX.hp w) b o (aj st.hp b o):=h2.step fQ (fun _=>rfl) (fun _ _ _=>⟨rfl,rfl⟩) (fun _=>⟨rfl,fun _ _=>rfl⟩);have h6:bW (aj aX.hp b 0)=false∧ ∃x v,ι b=some x∧w.cell? ⟨x,o,none⟩=some v∧w.frozen? ⟨x,o,none⟩=false∧bV ι aX.hp w (FZ S ι aX.hp w) (aj st.hp b o) v:=by
    cases ex:aj st.hp b o<;>rw[ex]at h2 h3 h5<;>first|exact(h5 rfl).elim|(cases h3;done)|exact h2
   obtain⟨k0,x,v,k1,k2,k3,k4⟩:=h6;exact⟨k0,x,v,k1,k2,k3,vn h4 k4⟩
theorem Ol{aA:Nat→Option Nat}{H1:Heap}{F':Nat→Prop}(cL: ∀b,alive H b=true→aA b=ι b)(hH: ∀b,alive H b=true→ ∀o,aj H b o=aj H1 b o)(hF: ∀x,F x→F' x){av:AV}{v:Value}(hl:DH H av=true)(k:bV ι H1 w F av v):bV aA H w F' av v:=by
 cases av
 case ptr b o=>
  obtain⟨h1,x,h2,h3⟩:=k;exact⟨by rw[hH b hl];exact h1,x,by rw[cL b hl];exact h2,h3⟩
 case own b c=>
  obtain⟨h0,ro,sz,m,f,h1,h2,h3⟩:=k;exact⟨h0,ro,sz,m,f,by rw[hH b hl];exact h1,h2,by rw[cL b hl];exact h3⟩
 case fF b c i o=>
  obtain⟨h0,ro,sz,m,f,h1,h2,h3⟩:=k;exact⟨h0,ro,sz,m,f,by rw[hH b hl];exact h1,h2,by rw[cL b hl];exact h3⟩
 case fn f bp=>
  obtain⟨vs,h1,h2⟩:=k;refine⟨vs,h1,aT.mk h2.length fun i p q hp hq=> ?_⟩;obtain⟨q',dn,hr⟩:=h2.get i p hp;rw[hq]at dn;cases dn;have h7:=aCR.1 hl p (aCV hp)
  cases p
  case ptr b o=>
   obtain⟨g1,x,g2,g3⟩:=hr;have h7:alive H b=true:=h7;exact⟨by rw[hH b h7];exact g1,x,by rw[cL b h7];exact g2,g3⟩
  all_goals first|(cases h7;done)|exact aR.mono hF (fun _ _ _=>rfl) hr
 case undef=>exact k
 case gone=>exact k
 case agg=>exact k.elim
 case cU=>exact k.elim
 case ah=>exact k.elim
 all_goals exact aR.mono hF (fun _ _ _=>rfl) k
theorem ah5{aA:Nat→Option Nat}{H1:Heap}{F':Nat→Prop}(cL: ∀b,alive H b=true→aA b=ι b)(hH: ∀b,alive H b=true→ ∀o,aj H b o=aj H1 b o)(hF: ∀x,F x→F' x){av:AV}{v:Value}(hl:Om H av=true)(k:dZ ι H1 w F av v):dZ aA H w F' av v:=by
 cases av
 case agg cs=>
  obtain⟨vs,rfl,k⟩:=k;refine⟨vs,rfl,aT.mk k.length fun i p q hp hq=> ?_⟩;obtain⟨q',dn,hr⟩:=k.get i p hp;rw[hq]at dn;cases dn;exact Ol cL hH hF (aCR.1 hl p (aCV hp)) hr
 case cU=>cases hl
 case undef=>trivial
 case gone=>exact k
 all_goals
  simp only[Om]at hl;exact(show bV aA H w F' _ v from Ol (ι:=ι) (H1:=H1) (F:=F) cL hH hF hl (show bV ι H1 w F _ v from k))
def im(m:Nat)(st:St):Bool:=(List.range m).all fun b=>alive st.hp b
theorem dV.cut{jL ι aA:Nat→Option Nat}{H0 H1 H:Heap}{w0 w:World}{G F F':Nat→Prop}(h:dV jL H0 w0 G ι H1 w F)(qO: ∀b x,jL b=some x→b<H0.length)(iW: ∀b,b<H0.length→alive H b=true)
  (cL: ∀b,alive H b=true→aA b=ι b) (hH: ∀b,alive H b=true→ ∀o,aj H b o=aj H1 b o) (hF: ∀x,F x→F' x):dV jL H0 w0 G aA H w F':=by
 refine⟨fun x hx=>hF x (h.fz x hx),h.cell,fun b x hx hb=> ?_,fun b ro sz n f hb=> ?_⟩
 ·have ha:=iW b (qO b x hx);obtain⟨g1,g2⟩:=h.box b x hx hb;exact⟨by rw[cL b ha];exact g1,by rw[hH b ha];exact g2⟩
 ·have ha:=iW b (by
   rcases aCY b H0.length with g|g
   ·exact g
   ·rw[ub g]at hb;cases hb)
  obtain⟨iq,fe,n',f',g1,g2,g3⟩:=h.arr b ro sz n f hb;exact⟨iq,fe,n',f',by rw[hH b ha];exact g1,g2,fun e=>by rw[cL b ha];exact g3 e⟩
theorem aw6{m:Nat}{tm:List AV}{H H1:Heap}(hl:wF ⟨tm,H⟩=true)(hH: ∀b,alive H b=true→ ∀o,aj H b o=aj H1 b o)(hm:im m ⟨tm,H⟩=true):Le m ⟨tm,H1⟩ ⟨tm,H⟩:=by
 intro S hS ι a w hs;simp only[wF,aCN]at hl;let aA:Nat→Option Nat:=fun b=>if alive H b then ι b else none
 have cL: ∀b,alive H b=true→aA b=ι b:=fun b hb=>aCL hb;have iE: ∀b x,aA b=some x→alive H b=true∧ι b=some x:=fun b x hb=>by
  by_cases h:alive H b=true
  ·exact⟨h,by rw[←cL b h];exact hb⟩
  ·simp [aA,h]at hb
 have cI: ∀b,alive H b=true→b<H.length:=fun b hb=>by
  rcases aCY b H.length with h|h
  ·exact h
  ·simp [alive,List.getD,aCW h]at hb
 have Ww: ∀b o,alive H b=false→aj H b o= .undef:=fun b o h=>by
  unfold alive at h;unfold aj
  cases e:H.getD b []with
  |nil=>rfl
  |cons z zs=>rw[e]at h;cases h
 have hF: ∀x,FZ S ι H1 w x→FZ S aA H w x:=fun x ⟨h1,h2,h3⟩=>⟨h1,h2,fun b hb hx=>h3 b (oG (fun o=>hH b (iE b x hx).1 o) hb) (iE b x hx).2⟩;refine⟨aA,hs.below,hs.defers,fun t av ht=> ?_,fun b o=> ?_,fun b b' x h1 h2=>hs.inj b b' x (iE _ _ h1).2 (iE _ _ h2).2,fun b x h=>hs.fresh b x (iE _ _ h).2,fun b x h=>cI b (iE _ _ h).1,hs.gK.cut S.qO (fun b hb=>aCR.1 hm b (aDS.2 (by omega))) cL hH hF⟩
 ·obtain⟨v,h1,h2⟩:=hs.tm t av ht;exact⟨v,h1,ah5 cL hH hF (aCR.1 hl.1 av (aCV ht)) h2⟩
 ·show fc aA H w (FZ S aA H w) b o (aj H b o);have h2:=hs.hp b o
  cases hb:alive H b with
  |false=>rw[Ww b o hb];trivial
  |true=>
   have HJ: ∀av,aj H b o=av→av≠ .undef→DH H av=true:=fun av e db=>by
    unfold aj at e
    cases e1:H[b]? with
    |none=>simp [List.getD,e1]at e;exact absurd e.symm db
    |some l=>
     simp only[List.getD,e1,aDk]at e
     cases e2:l[o]? with
     |none=>rw[e2]at e;exact absurd e.symm db
     |some z=>
      rw[e2]at e;simp only[aDk]at e;subst e;exact aCR.1 (aCR.1 hl.2 l (aCV e1)) z (aCV e2)
   have h0:bW (aj H b 0)=bW (aj H1 b 0):=by rw[hH b hb 0]
   have h2:fc ι H1 w (FZ S ι H1 w) b o (aj H b o):=by rw[hH b hb o];exact h2
   cases e:aj H b o<;>rw[e]at h2
   case undef=>trivial
   case ah ro sz n f=>
    obtain⟨g1,kd|⟨g2,g3⟩⟩:=h2
    ·exact⟨g1,.inl ⟨kd.1,kd.2.1,by rw[cL b hb];exact kd.2.2⟩⟩
    refine⟨g1,.inr ⟨g2,?_⟩⟩;rw[cL b hb];exact g3.imp id fun⟨x,C,T,k1,k2,k3⟩=>⟨x,C,T,k1,k2,fun i j hi hj=>by
     obtain⟨av,v,m1,m2,m3⟩:=k3 i j hi hj;exact⟨av,v,m1,m2,m3.mono hF fun _ _ _=>rfl⟩⟩
   all_goals
    obtain⟨k0,x,v,k1,k2,k3,k4⟩:=h2;exact⟨by rw[h0];exact k0,x,v,by rw[cL b hb];exact k1,k2,k3,Ol cL hH hF (HJ _ e (by simp)) k4⟩
theorem apf(x:AV):iS x x:=by
 cases x<;>first|exact trivial|exact rfl|exact aD.2 ⟨cx rfl,rfl⟩|exact aD.2 ⟨cx rfl,rfl,fun _ _=>rfl⟩
theorem api{x:AV}(h:bW x=false):iA x x:=by
 have h1:=apf x;have h2:(!(bW x))=true:=by rw[h];rfl
 unfold iA
 split
 ·exact h
 ·trivial
 ·cases h
 ·exact aD.2 ⟨h2,h1⟩
theorem apj(x:AV):iA x x:=by
 cases hb:bW x with
 |false=>exact api hb
 |true=>
  obtain⟨ro,sz,n,f,rfl⟩:=NV hb;exact aD.2 ⟨by simp,rfl,fun _ _=>Ag _⟩
theorem SJ: ∀(xs:List AV),sW xs xs
 |[]=>aD.2 ⟨rfl,trivial⟩
 |x::xs=>⟨apj x,SJ xs⟩
def wS:Heap→Heap→Heap
 |[],ys=>ys
 |x::xs,y::ys=>(match y with|[]=>x|z::zs=>z::zs)::wS xs ys
 |x::xs,[]=>x::xs
theorem abX: ∀(H:Heap),Bf H H
 |[]=>aD.2 ⟨rfl,trivial⟩
 |x::xs=>⟨SJ x,abX xs⟩
theorem ZI: ∀{xs ys:Heap},Be xs ys→Bf xs (wS xs ys)∧xs.length≤(wS xs ys).length
 |[],ys,h=>⟨h,aCQ _⟩
 |x::xs,[],h=>⟨abX _,aCK _⟩
 |x::xs,[]::ys,h=>by
  obtain⟨h1,h2⟩:=ZI (xs:=xs) (ys:=ys) h;exact⟨⟨SJ x,h1⟩,by simp [wS,h2]⟩
 |x::xs,(z::zs)::ys,h=>by
  obtain⟨h1,h2⟩:=ZI (xs:=xs) (ys:=ys) h.2;exact⟨⟨h.1,h1⟩,by simp [wS,h2]⟩
theorem ake: ∀{xs ys:Heap} (b:Nat),alive ys b=true→ ∀o,aj ys b o=aj (wS xs ys) b o
 |[],ys,b,h,o=>rfl
 |x::xs,[],b,h,o=>by simp [alive]at h
 |x::xs,y::ys,0,h,o=>by
  cases y with
  |nil=>simp [alive]at h
  |cons z zs=>rfl
 |x::xs,y::ys,b+1,h,o=>by
  have:=ake (xs:=xs) (ys:=ys) b (by simpa[alive]using h) o;simpa[aj,wS]using this
theorem sH.le{m:Nat}{st aX:St}(h:sH st aX)(hm:im m aX=true):Le m st aX:=by
 obtain⟨h1,h2⟩:=ZI h.2.1;have hml:Eg st ⟨aX.tm,wS st.hp aX.hp⟩:=⟨h.1,h1,h2⟩;exact hml.le.trans (aw6 h.2.2 (fun b hb o=>ake b hb o) hm)
end
section
variable {E:Env} {x y:Code} {Q:Exit→St→Prop} {st:St}
theorem WP.step(hE:E.Ok)(eQ:St)(p:Prop)(e:mT E x (iI (fun s=>sH s eQ) Q) st=p)(h:p)(k:WP E y Q eQ)(hm:im E.m eQ=true:=by rfl):WP E (.seq x y) Q st:=
 WP.cut eQ ((WP.XY hE (Eq.mpr e h)).mono fun e s hs=>by cases e<;>simp only[iI]at hs ⊢ <;>first|exact sH.le hs hm|exact hs) k
theorem WP.join(eQ:St)(h:WP E x (iI (fun s=>sH s eQ) Q) st)(k:WP E y Q eQ)(hm:im E.m eQ=true:=by rfl):WP E (.seq x y) Q st:=
 WP.cut eQ (h.mono fun e s hs=>by cases e<;>simp only[iI]at hs ⊢ <;>first|exact sH.le hs hm|exact hs) k
theorem WP.axu(h:WP E x (iI (fun _=>False) Q) st):WP E (.loop x) Q st:=
 WP.loop (α:=Unit) (fun _=>st) (fun _=>True) (fun _=>0) () trivial (Le.refl st) fun _ _=>h.mono fun e s hs=>by
  cases e<;>simp only[iI,Xx]at hs ⊢ <;>first|exact hs.elim|exact hs
theorem WP.E4{c:Operand}(b:Bool)(hc:aC st.tm c= .bool b)(hx:b=true→WP E x Q st)(hy:b=false→WP E y Q st):WP E (.cond c x y) Q st:=WP.cond hc hx hy
theorem WP.qy(p:Prop)(e:Q .ret st=p)(h:p):WP E .ret Q st:=WP.ret (Eq.mpr e h)
theorem WP.I_(p:Prop)(e:Q .normal st=p)(h:p):WP E .skip Q st:=WP.skip (Eq.mpr e h)
end
abbrev u9:=List AV→Option (Option Prop×AV)
structure SOk (P:Program) (f:FuncId) (s:u9):Prop where
 w4:ml P f
 pure: ∀args pre r,s args=some (pre,r)→oD pre True→fk P f args r
def Ja:List (Nat×u9)→Spec
 |[]=>fun _ _=>none
 |(g,s)::r=>fun f aa=>match Nat.beq f g with
  |true=>match s aa with
   |some q=>some q
   |none=>Ja r f aa
  |false=>Ja r f aa
def Js(P:Program):List (Nat×u9)→Prop
 |[]=>True
 |x::r=>SOk P x.1 x.2∧Js P r
theorem Zb{P:Program} : ∀{l:List (Nat×u9)},Js P l→Spec.Ok P (Ja l)
 |[],_=>fun f args pre r h=>by cases h
 |(g,s)::l,hl=>fun f args pre r h=>by
  simp only[Ja]at h
  split at h
  ·rename_i e;have:f=g:=aCS e;subst this
   cases hs:s args with
   |some q=>
    rw[hs]at h
    cases h
    exact⟨hl.1.w4,hl.1.pure args pre r hs⟩
   |none=>
    rw[hs]at h;exact Zb hl.2 f args pre r h
  ·exact Zb hl.2 f args pre r h
abbrev AH:=List AV→Heap→Option (Option Prop×List AV×Heap)
structure HOk (P:Program) (f:FuncId) (s:AH):Prop where
 w4:ml P f
 call: ∀args H pre rs H',s args H=some (pre,rs,H')→oD pre True→fj P f args H rs H'
def HX:List (Nat×AH)→wW
 |[]=>fun _ _ _=>none
 |(g,s)::r=>fun f aa H=>match Nat.beq f g with
  |true=>match s aa H with
   |some q=>some q
   |none=>HX r f aa H
  |false=>HX r f aa H
def Qv(P:Program):List (Nat×AH)→Prop
 |[]=>True
 |x::r=>HOk P x.1 x.2∧Qv P r
theorem Wo{P:Program} : ∀{l:List (Nat×AH)},Qv P l→wW.Ok P (HX l)
 |[],_=>fun f args H pre rs H' h=>by cases h
 |(g,s)::l,hl=>fun f args H pre rs H' h=>by
  simp only[HX]at h
  split at h
  ·rename_i e;have:f=g:=aCS e;subst this
   cases hs:s args H with
   |some q=>
    rw[hs]at h
    cases h
    exact⟨hl.1.w4,hl.1.call args H pre rs H' hs⟩
   |none=>
    rw[hs]at h;exact Wo hl.2 f args H pre rs H' h
  ·exact Wo hl.2 f args H pre rs H' h
section
variable {E:Env} {S:dF} {ι:Nat→Option Nat} {st:St} {a:Act} {w:World}
def Wg(E:Env)(st:St)(r:ResultVar)(K:AV→Prop):Prop:=
 match r with
 | .tmp t=>K (st.tm.getD t .undef)
 | .cell t T=>dq E T fun ty=>oB ty st.hp (st.tm.getD t .undef) fun av=>K av
def wq(E:Env)(st:St):List ResultVar→(List AV→Prop)→Prop
 |[],K=>K []
 |x::r,K=>Wg E st x fun y=>wq E st r fun ys=>K (y::ys)
theorem agU(hE:E.Ok)(h:aP S ι st a w): ∀(rs:List ResultVar) (K:List AV→Prop),wq E st rs K→ ∃ys vs,K ys∧aT (VR S ι st.hp w) ys vs∧aT (qx E.P w a.tmps) rs vs
 |[],K,hk=>⟨[],[],hk,trivial,trivial⟩
 |r::rs,K,hk=>by
  have key: ∃y v,wq E st rs (fun ys=>K (y::ys))∧VR S ι st.hp w y v∧qx E.P w a.tmps r v:=by
   cases r with
   |tmp t=>exact⟨_,_,hk,h.eval (.tmp t),rfl⟩
   |cell t T=>
    obtain⟨ty,hT,_,hk⟩:=kG hE hk;obtain⟨p,av,u,h1,h2,h3,h4⟩:=Oi hT h (h.eval (.tmp t)) hk;refine⟨av,u,h2,h3,?_⟩;have Hp:a.tmps.getD t undef= .pointer (some p):=h1;simp only[qx];rw[Sem.run_bind,Hp];simp [asAddr,h4]
  obtain⟨y,v,hk,h1,h2⟩:=key;obtain⟨ys,vs,hk,h3,h4⟩:=agU hE h rs _ hk;exact⟨y::ys,v::vs,hk,⟨h1,h3⟩,h2,h4⟩
theorem Bg: ∀{xs ys:List AV},pG xs ys→xs.length=ys.length
 |[],[],_=>rfl
 |[],_::_,h=>h.elim
 |_::_,[],h=>h.elim
 |x::xs,y::ys,h=>by
  have:pG xs ys:=by cases y<;>first|exact h|exact h.2
  simp [Bg this]
end
end Go.Vc
namespace Go.Vc
open Go Go.ChangeShapes Go.RowKit Go.WideShapes
def tiled(P:Program):List Field→Nat→Nat→Bool
 |[],off,Zm=>off==Zm
 |f::fs,off,Zm=>f.offset==off&&tiled P fs (off+P.cellsOf f.type) Zm
def sm(P:Program):Nat→TypeId→Bool
 |0,_=>false
 |n+1,t=>match P.underlying t with
  |some .bool=>true
  |some (.int _)=>true
  |some .string=>true
  |some (.slice e)=>sm P n e&&P.cellsOf e !=0
  |some (.struct fs)=>tiled P fs.toList 0 (P.cellsOf t)&&fs.toList.all fun f=>sm P n f.type
  |_=>false
def Y6(rec:TypeId→(List AV→Prop)→Prop):List Field→(List AV→Prop)→Prop
 |[],K=>K []
 |f::fs,K=>rec f.type fun a=>Y6 rec fs fun b=>K (a++b)
structure Ec {H:Type} (jN:DataW H→Nat):Prop where
 str: ∀l:List UInt8,l.length≤jN (.lit (.string l))
 len: ∀e r:List (DataW H),e.length≤jN (.slice e r)
 elem: ∀e r:List (DataW H),∀d∈e,jN d≤jN (.slice e r)
 part: ∀e:List (DataW H),∀d∈e,jN d≤jN (.agg e)
def mo(P:Program):Nat→TypeId→List AV
 |0,_=>[]
 |n+1,t=>match P.underlying t with
  |some .bool=>[.bool false]
  |some (.int k)=>[.int k 0]
  |some .string=>[.str ⟨#[]⟩]
  |some (.slice e)=>[.arr (P.cellsOf e) 0 fun _=>mo P n e]
  |some (.struct fs)=>fs.toList.flatMap fun f=>mo P n f.type
  |_=>[]
def lh(P:Program)(B:Nat):Nat→TypeId→(List AV→Prop)→Prop
 |0,_,_=>False
 |n+1,t,K=>match P.underlying t with
  |some .bool=> ∀b,K [.bool b]
  |some (.int k)=> ∀x:Int,(Lit.int k x).wf=true→K [.int k x]
  |some .string=> ∀s:ag,s.size≤B→K [.str s]
  |some (.slice e)=> ∀(m:Nat) (f:Nat→List AV),m≤B→(∀i,m≤i→f i=mo P n e)→(∀i,i<m→ ∀K',lh P B n e K'→K' (f i))→K [.arr (P.cellsOf e) m f]
  |some (.struct fs)=>Y6 (lh P B n) fs.toList K
  |_=>False
section
variable {H:Type} {enc:TypeId×Value→H} {P:Program} {w:World} {base:Nat} {spare:Nat→Bool} {held:Bool} {B:Nat} {jN:DataW H→Nat}
theorem anp{a:Addr}(h:a.spot=none)(i j:Nat):(a.add i).add j=⟨a.block,a.off+i+j,none⟩:=by
 obtain⟨b,o,s⟩:=a;simp only at h;subst h;unfold Addr.add
 by_cases hi:i=0<;>by_cases hj:j=0<;>simp [hi,hj,aDF]
theorem aiF{n:Nat}(ih: ∀(t:TypeId) (cs:List Value) (fuel:Nat) (x:DataW H×List MemPlace),sm P n t=true→jN x.1≤B→DataW.trod enc P w base spare held fuel t cs=some x→
   ∃cR,aT (aR w fun y=>y<w.heap.size) cR cs∧ ∀K,lh P B n t K→K cR) {cs:List Value} : ∀(fs:List Field) (off:Nat),tiled P fs off cs.length=true→(fs.all fun f=>sm P n f.type)=true→
  (∀f∈fs,∃fuel x,jN x.1≤B∧DataW.trod enc P w base spare held fuel f.type ((cs.drop f.offset).take (P.cellsOf f.type))=some x)→
  ∃cR,aT (aR w fun y=>y<w.heap.size) cR (cs.drop off)∧ ∀K,Y6 (lh P B n) fs K→K cR
 |[],off,ht,_,_=>by
  have:off=cs.length:=by simpa[tiled]using ht
  subst this;exact⟨[],by simp [aT],fun K h=>h⟩
 |f::fs,off,ht,hp,hf=>by
  simp only[tiled,aCN,aDG]at ht;simp only[aD0,aCN]at hp;obtain⟨fuel,x,hbx,hx⟩:=hf f (by simp);obtain⟨aaT,h1,h2⟩:=ih _ _ _ _ hp.1 hbx hx;obtain⟨anE,h3,h4⟩:=aiF ih fs (off+P.cellsOf f.type) ht.2 hp.2 (fun g hg=>hf g (by simp [hg]));rw[ht.1]at h1;refine⟨aaT++anE,?_,fun K hK=>h4 (fun b=>K (aaT++b)) (h2 _ hK)⟩;have:=aT.append h1 h3;rwa [←aDT,aDz]at this
theorem X4(hB:B≤dg)(jl:Ec jN): ∀(n:Nat) (t:TypeId) (cs:List Value) (fuel:Nat) (x:DataW H×List MemPlace),sm P n t=true→jN x.1≤B→DataW.trod enc P w base spare held fuel t cs=some x→
  ∃cR,aT (aR w fun y=>y<w.heap.size) cR cs∧ ∀K,lh P B n t K→K cR
 |0,t,cs,fuel,x,hp,_,h=>by cases hp
 |n+1,t,cs,fuel,x,hp,hx,h=>by
  unfold sm at hp
  cases hu:P.underlying t with
  |none=>rw[hu]at hp;cases hp
  |some d=>
   rw[hu]at hp
   cases d<;>simp only at hp<;>try (cases hp;done)
   case bool=>
    obtain⟨b,rfl,_⟩:=DataW.trod_bool hu h;exact⟨[.bool b],⟨.bool b,trivial⟩,fun K hK=>by unfold lh at hK;rw[hu]at hK;exact hK b⟩
   case int k=>
    obtain⟨y,rfl,_,hy⟩:=DataW.trod_int hu h;exact⟨[.int k y],⟨.int k y,trivial⟩,fun K hK=>by unfold lh at hK;rw[hu]at hK;exact hK y hy⟩
   case string=>
    obtain⟨s,rfl,rfl,_⟩:=DataW.trod_string hu h;have hs:s.size≤B:=by
     have:=jl.str s.data.toList;rw[Array.length_toList]at this;exact aCX this hx
    exact⟨[.str s],⟨.str s (aCX hs hB),trivial⟩,fun K hK=>by unfold lh at hK;rw[hu]at hK;exact hK s hs⟩
   case slice e=>
    simp only[aCN,bne_iff_ne]at hp;rcases DataW.trod_slice hu h with⟨rfl,_⟩|⟨a,len,cap,elems,rest,m,_,rfl,rfl,hb,hl,hm,VQ,pS,_,_⟩
    ·exact⟨[.arr (P.cellsOf e) 0 fun _=>mo P n e],⟨.nil _ _,trivial⟩,fun K hK=>by unfold lh at hK;rw[hu]at hK;exact hK 0 _ (aCQ _) (fun _ _=>rfl) fun i hi=>absurd hi (by omega)⟩
    ·have hlen:len≤B:=by
      have:=jl.len (elems.map (·.1)) (rest.map (·.1));rw[List.length_map,VQ]at this;exact aCX this hx
     have key: ∀i,i<len→ ∃cR vs,aT (aR w fun y=>y<w.heap.size) cR vs∧(∀K,lh P B n e K→K cR)∧vs.length=P.cellsOf e∧ ∀j,j<P.cellsOf e→w.cell? ((a.add (i*P.cellsOf e)).add j)=vs[j]? :=fun i hi=>by
      have h1:=pS i hi;rw[aCP (by omega)]at h1
      cases hc:w.cells? base (a.add (i*P.cellsOf e)) (P.cellsOf e)with
      |none=>rw[hc]at h1;cases h1
      |some vs=>
       rw[hc]at h1;obtain⟨cR,h2,h3⟩:=X4 hB jl n e vs m _ hp.1 (aCX (jl.elem (elems.map (·.1)) (rest.map (·.1)) _ (List.mem_map_of_mem (aDY _))) hx) h1;obtain⟨_,h4,h5⟩:=World.cells?_some hc;exact⟨cR,vs,h2,h3,h4,h5⟩
     by_cases h0:len=0
     ·subst h0;exact⟨[.arr (P.cellsOf e) 0 fun _=>mo P n e],⟨.mt _ _ _ _,trivial⟩,fun K hK=>by unfold lh at hK;rw[hu]at hK;exact hK 0 _ (aCQ _) (fun _ _=>rfl) fun i hi=>absurd hi (by omega)⟩
     ·have agY:a.spot=none∧a.block<w.heap.size:=by
       obtain⟨_,vs,_,_,hlen,hc⟩:=key 0 (by omega);have:=hc 0 (by omega);rw[aCP (by omega)]at this;simp only[Nat.zero_mul,Addr.add,aDg]at this;unfold World.cell? at this
       cases hh:w.heap[a.block]? with
       |none=>rw[hh]at this;cases this
       |some ob=>
        refine⟨?_,(aDy.1 hh).1⟩;rw[hh]at this
        cases ob<;>simp only at this<;>try (cases this;done)
        split at this
        ·cases this
        ·rename_i mI;simpa using mI
      obtain⟨b,o,s⟩:=a;simp only at agY;obtain⟨rfl,Hw⟩:=agY;have WY: ∀i,∃cR:List AV,i<len→ ∃vs,aT (aR w fun y=>y<w.heap.size) cR vs∧(∀K,lh P B n e K→K cR)∧vs.length=P.cellsOf e∧ ∀j,j<P.cellsOf e→w.cell? ⟨b,o+i*P.cellsOf e+j,none⟩=vs[j]? :=fun i=>by
       by_cases hi:i<len
       ·obtain⟨cR,vs,g1,g2,g3,g4⟩:=key i hi;exact⟨cR,fun _=>⟨vs,g1,g2,g3,fun j hj=>by rw[←g4 j hj,anp rfl]⟩⟩
       ·exact⟨[],fun h=>absurd h hi⟩
      let f:Nat→List AV:=fun i=>if i<len then Classical.choose (WY i)else mo P n e
      have hfe: ∀i,i<len→f i=Classical.choose (WY i):=fun i hi=>aCL hi;have hf: ∀i,i<len→ ∃vs,aT (aR w fun y=>y<w.heap.size) (f i) vs∧(∀K,lh P B n e K→K (f i))∧vs.length=P.cellsOf e∧ ∀j,j<P.cellsOf e→w.cell? ⟨b,o+i*P.cellsOf e+j,none⟩=vs[j]? :=fun i hi=>by rw[hfe i hi];exact Classical.choose_spec (WY i) hi
      refine⟨[.arr (P.cellsOf e) len f],⟨.arr (P.cellsOf e) len f b o cap (fun i j=>(f i).getD j .undef) (fun i j=>(w.cell? ⟨b,o+i*P.cellsOf e+j,none⟩).getD undef) hl (aCX hlen hB) (fun _=>Hw) ?_ ?_ ?_,trivial⟩,?_⟩
      ·intro i j hi hj;obtain⟨vs,g1,_,g3,_⟩:=hf i hi;have hlen:=g1.length;rw[List.getD,aCP (by omega)];rfl
      ·intro i j hi hj;obtain⟨vs,g1,_,g3,g4⟩:=hf i hi;rw[g4 j hj,aCP (by omega)];rfl
      ·intro i j hi hj;obtain⟨vs,g1,_,g3,g4⟩:=hf i hi;have hlen:=g1.length;obtain⟨v,e1,e2⟩:=g1.get j ((f i)[j]'(by omega)) (aCP _);rw[g4 j hj,e1,List.getD,aCP (by omega)];exact e2
      ·intro K hK;unfold lh at hK;rw[hu]at hK;exact hK len f hlen (fun i hi=>aCM (by omega)) fun i hi=>(hf i hi).choose_spec.2.1
   case struct fs=>
    simp only[aCN]at hp;obtain⟨xs,m,_,rfl,hlen,hxl,pS⟩:=DataW.trod_struct hu h;obtain⟨cR,h1,h2⟩:=aiF (n:=n) (fun t cs fuel x=>X4 hB jl n t cs fuel x) (cs:=cs) fs.toList 0 (by rw[hlen];exact hp.1) hp.2 fun f hf=>by
     obtain⟨i,hi⟩:=aDJ hf;have eO:fs[i]? =some f:=by simpa using hi
     have hil:i<fs.size:=(aDy.1 eO).1;have:=pS i f eO;rw[aCP (by omega)]at this;exact⟨_,_,aCX (jl.part (xs.map (·.1)) _ (List.mem_map_of_mem (aDY _))) hx,this⟩
    exact⟨cR,by simpa using h1,fun K hK=>h2 K (by unfold lh at hK;rw[hu]at hK;exact hK)⟩
def Je(P:Program)(t:TypeId)(cs:List AV):AV:=
 match P.underlying t with
 |some (.struct _)=> .agg cs
 |_=>cs.headD .undef
def Pj(P:Program)(B n:Nat):List TypeId→(List AV→Prop)→Prop
 |[],K=>K []
 |t::ts,K=>lh P B n t fun a=>Pj P B n ts fun bs=>K (Je P t a::bs)
theorem ay6(hB:B≤dg)(jl:Ec jN){n:Nat}{r:Reach}{b0:Nat}{t:TypeId}{v:Value}{d:DataW H}{ps:List MemPlace}(hp:sm P n t=true)(nt:Value.okWide P w r b0 t v)(hd:jN d≤B)(h:DataW.Trod enc P w base spare held t v d ps):
  ∃cR,fD w (fun y=>y<w.heap.size) (Je P t cR) v∧ ∀K,lh P B n t K→K cR:=by
 obtain⟨fuel,h⟩:=h;obtain⟨cR,h1,h2⟩:=X4 hB jl n t _ fuel _ hp hd h;refine⟨cR,?_,h2⟩
 cases n with
 |zero=>cases hp
 |succ n=>
  unfold sm at hp;unfold Je
  cases hu:P.underlying t with
  |none=>rw[hu]at hp;cases hp
  |some d=>
   rw[hu]at hp
   cases d<;>simp only at hp<;>try (cases hp;done)
   case struct fs=>
    obtain⟨cs,rfl,_⟩:=okWide_struct hu nt;exact⟨cs.toList,by simp,by simpa[Value.cells]using h1⟩
   case bool=>
    obtain⟨b,rfl⟩:=okWide_bool hu nt
    match cR,h1 with
    |[av],h1=>cases h1.1<;>first|exact aR.bool b|exact aR.lit b
   case int k=>
    obtain⟨b,rfl⟩:=okWide_int hu nt
    match cR,h1 with
    |[av],h1=>cases h1.1;exact aR.int k b
   case string=>
    obtain⟨b,rfl⟩:=okWide_string hu nt
    match cR,h1 with
    |[av],h1=>cases h1.1;exact aR.str b (by assumption)
   case slice e=>
    obtain⟨a,len,cap,rfl⟩:=okWide_slice hu nt
    match cR,h1 with
    |[av],h1=>
     have h3:aR w (fun y=>y<w.heap.size) av (.slice a len cap):=h1.1;have h4:fD w (fun y=>y<w.heap.size) av (.slice a len cap):=by
      cases av<;>first|exact h3|(cases h3;done)
     exact h4
theorem aiE(hB:B≤dg)(jl:Ec jN){n:Nat}{r:Reach}{b0:Nat} : ∀(ts:List TypeId) (vs:List Value) (ds:List (DataW H)) (ps:List MemPlace),(ts.all (sm P n))=true→(∀(j:Nat) t v,ts[j]? =some t→vs[j]? =some v→Value.okWide P w r b0 t v)→(∀d∈ds,jN d≤B)→
  DataW.TrodAll enc P w base spare held ts vs ds ps→ ∃aa,aT (fD w fun y=>y<w.heap.size) aa vs∧(∀K,Pj P B n ts K→K aa)∧ds.length=ts.length
 |[],[],[],_,_,_,_,_=>⟨[],trivial,fun _ h=>h,rfl⟩
 |t::ts,v::vs,d::ds,ps,hp,nt,M5,h=>by
  obtain⟨p,q,h1,h2,_⟩:=h;simp only[aD0,aCN]at hp;obtain⟨cR,h3,h4⟩:=ay6 hB jl hp.1 (nt 0 t v rfl rfl) (M5 d (by simp)) h1;obtain⟨aa,h5,h6,h7⟩:=aiE hB jl ts vs ds q hp.2 (fun j t' v' ht hv=>nt (j+1) t' v' (by simpa using ht) (by simpa using hv)) (fun d' lJ=>M5 d' (by simp [lJ])) h2;exact⟨Je P t cR::aa,⟨h3,h5⟩,fun K hK=>h6 (fun bs=>K (Je P t cR::bs)) (h4 _ hK),by simp [h7]⟩
 |[],[],_::_,_,_,_,_,h=>h.elim
 |[],_::_,_,_,_,_,_,h=>by cases h
 |_::_,[],_,_,_,_,_,h=>by cases h
 |_::_,_::_,[],_,_,_,_,h=>by cases h
theorem ajT(hl:laidOutB P=true){W W':World}{sp':Nat→Bool} : ∀(ts:List TypeId) (vs:List Value) (ds:List (DataW H)) (ps:List MemPlace),(ts.all fun t=>P.readableRec t&&decide (t<P.types.size))=true→
  DataW.TrodAll enc P W 0 (fun _=>true) true ts vs ds ps→(∀p∈ps,W.sameAt W' p)→(∀p∈ps,sp' p.block=true)→DataW.TrodAll enc P W' 0 sp' true ts vs ds ps
 |[],[],[],_,_,h,_,_=>h
 |t::ts,v::vs,d::ds,ps,hp,h,hs,mI=>by
  obtain⟨p,q,h1,h2,rfl⟩:=h;simp only[aD0,aCN,aDd]at hp;exact⟨p,q,WideElems.Trod_stays hl hp.1.1 hp.1.2 h1 (fun x hx=>hs x (by simp [hx])) (fun x hx=>mI x (by simp [hx])),ajT hl ts vs ds q hp.2 h2 (fun x hx=>hs x (by simp [hx])) (fun x hx=>mI x (by simp [hx])),rfl⟩
 |[],[],_::_,_,_,h,_,_=>h.elim
 |[],_::_,_,_,_,h,_,_=>by cases h
 |_::_,[],_,_,_,h,_,_=>by cases h
 |_::_,_::_,[],_,_,h,_,_=>by cases h
theorem azO{f:Func}{s:ChangeSpec}{apart fresh handsOn again:Bool}{W W':World}{args:Array Value}{v:Value}{ds gs:List (DataW H)}{before pa pv:List MemPlace}
  (hW:DataW.Whole enc P f.params.toList s.vars apart W args.toList ds gs before)
  (o_: ∀(b:Nat) (sp:Nat→Bool) (hd:Bool),DataW.TrodAll enc P W' b sp hd f.resultTypes.toList (v.resultList f.resultTypes.size) (s.fn H (ds++gs)).results [])
  (eK: ∀sp:Nat→Bool,(∀p∈before,sp p.block=true)→DataW.TrodAll enc P W' 0 sp true f.params.toList args.toList (s.fn H (ds++gs)).args pa)
  (H_: ∀sp:Nat→Bool,(∀p∈before,sp p.block=true)→DataW.TrodVars enc P W' sp s.vars (s.fn H (ds++gs)).vars pv)
  (Dq:before=pa++pv) (hb:Below W.heap.size W W')
  (o9: ∀(j:Nat) (t:TypeId) (r:Value),f.resultTypes[j]? =some t→(v.resultList f.resultTypes.size)[j]? =some r→Value.okWide P W' .any 0 t r):
  s.post enc P f apart fresh handsOn again W args v W':=by
 have cI: ∀p∈before,p.block<W.heap.size:=fun p hp=>hW.lt p hp;have hold: ∀p∈before,(fun b=>decide (b<W.heap.size)) p.block=true:=fun p hp=>by simpa using cI p hp
 refine⟨ds,gs,before,[],pa,pv,hW,o_ _ _ _,eK _ hold,H_ _ hold,World.keptBut_mono (fun p hp=>⟨hp,?_⟩) (hb.frame (· ∈before)),fun _=> ?_⟩
 ·rw[Dq,aC5]at hp;exact Or.inr hp
 ·obtain⟨_,_,_,_,_,hz,hn⟩:=hW;refine⟨o9,_,_,([]++pa)++pv,⟨[]++pa,pv,trodAll_append (eK _ (fun _ _=>rfl)) (o_ _ _ _),H_ _ (fun _ _=>rfl),rfl,?_,?_⟩,?_⟩
  ·intro b off hp;have gS:MemPlace.cell b off∈before:=by rw[Dq];simpa using hp
   rw[hb.frozen (cI _ gS)];exact hz b off gS
  ·intro ha;have:=hn ha;rw[Dq]at this;simpa using this
  ·intro p hp _;rw[Dq];simpa using hp
theorem aw3(hB:B≤dg)(jl:Ec jN){f:FuncId}{fn:Func}{s:ChangeSpec}{apart fresh handsOn again:Bool}{n tb:Nat}{ts:List TypeId}(qa:fn.params.toList=ts)
  (hl:laidOutB P=true) (atl:(ts.all (sm P n))=true) (atm:(ts.all fun t=>P.readableRec t&&decide (t<P.types.size))=true)
  (o_:fn.resultTypes= #[tb]) (agy:P.underlying tb=some .bool) (H_:s.vars=[])
  (jU: ∀ds:List (DataW H),ds.length=ts.length→s.fn H ds={results:=[.lit (.bool true)],args:=ds})
  (We:Pj P B n ts fun aa=>fk P f aa (.bool true)):
  ∀(W:World) (base:Nat) (args:Array Value) (ds gs:List (DataW H)) (before:List MemPlace),
   (∀(j:Nat) t v,fn.params[j]? =some t→args[j]? =some v→Value.okWide P W .any base t v)→
   DataW.Whole enc P fn.params.toList s.vars apart W args.toList ds gs before→(∀d∈ds,jN d≤B)→Ee W (fun y=>y<W.heap.size)→
   Calls P f args W fun e W'=> ∃v,e= .returned v∧s.post enc P fn apart fresh handsOn again W args v W':=by
 intro W base args ds gs before nt hW M5 hG;have hW':=hW;obtain⟨p,q,hA,hV,rfl,nk,HQ⟩:=hW;rw[H_]at hV;obtain⟨rfl,rfl⟩:=trodVars_none hV;rw[qa]at hA;obtain⟨aa,h1,h2,h3⟩:=aiE hB jl ts args.toList ds p atl (fun j t v ht hv=>nt j t v (by rw[←qa]at ht;simpa using ht) (by simpa using hv)) M5 hA;have h4:=h2 _ We W (fun y=>y<W.heap.size) args.toList hG h1;rw[show args.toList.toArray=args by simp]at h4;refine h4.mono fun e W' ⟨v,he,hr,hb⟩=> ?_;refine⟨v,he,?_⟩;have hv:v= .bool true:=by
  have hr:aR W' _ (.bool true) v:=hr
  cases hr;rfl
 subst hv;have cI:=hW'.lt;refine azO (pa:=p) (pv:=[]) hW' (fun b sp hd=> ?_) (fun sp mI=> ?_) (fun sp _=> ?_) rfl hb (ok_one o_ rfl (okWide_bool_mk agy true))
 ·rw[o_,aDi,jU ds h3];exact⟨[],[],shut_bool agy true,rfl,rfl⟩
 ·rw[aDi,jU ds h3,qa];refine ajT hl ts args.toList ds p atm hA (fun x hx=>hb.same (cI x (by simp [hx]))) fun x hx=>mI x (by simp [hx])
 ·rw[H_,aDi,jU ds h3];rfl
end
end Go.Vc
namespace Go.Vc
open Go Go.RowKit
structure Sl (α:Type) where
 n:Nat
 at':Nat→α
instance{α:Type}[Inhabited α]:Inhabited (Sl α):=⟨⟨0,fun _=>default⟩⟩
def aL{α:Type}(sz:Nat)(enc:α→List AV)(s:Sl α):AV:= .arr sz s.n fun i=>enc (s.at' i)
inductive fJ:AV→Prop
 |int (k:IntKind) (n:Int):fJ (.int k n)
 |bool (b:Bool):fJ (.bool b)
 |lit (b:Bool):fJ (.lit b)
 |str (s:ByteArray) (h:s.size≤dg):fJ (.str s)
 |aE:fJ .aE
 |jX:fJ .jX
 |kK (sz n:Nat) (f:Nat→List AV):fJ (.kK sz n f)
 |arr (sz n:Nat) (f:Nat→List AV) (h:n≤dg) (g:Nat→Nat→AV) (h1: ∀i j,i<n→j<sz→(f i)[j]? =some (g i j)) (h2: ∀i j,i<n→j<sz→fJ (g i j)):fJ (.arr sz n f)
 |ref (cs:List AV):fJ (.ref cs)
 |fn (f:FuncId) (bp:List AV):fJ (.fn f bp)
theorem aR.nO{w:World}{F:Nat→Prop}{av:AV}{v:Value}(h:aR w F av v):fJ av:=by
 induction h with
 |int k n=>exact .int k n
 |bool b=>exact .bool b
 |lit b=>exact .lit b
 |str s hb=>exact .str s hb
 |aE=>exact .aE
 |jX=>exact .jX
 |kK sz n f=>exact .kK sz n f
 |nil sz f=>exact .arr sz 0 f (aCQ _) (fun _ _=> .undef) (fun i j hi=>absurd hi (fC _)) (fun i j hi=>absurd hi (fC _))
 |mt sz f a c=>exact .arr sz 0 f (aCQ _) (fun _ _=> .undef) (fun i j hi=>absurd hi (fC _)) (fun i j hi=>absurd hi (fC _))
 |arr sz n f b o c g vs hn hb hF h1 h2 h3 ih=>exact .arr sz n f hb g h1 ih
 |ref cs=>exact .ref cs
 |fn f bp=>exact .fn f bp
def J8:List AV→Prop
 |[]=>True
 |x::xs=>fJ x∧J8 xs
def abZ:AV→Prop
 | .agg cs=>J8 cs
 |x=>fJ x
def J7:List AV→Prop
 |[]=>True
 |x::xs=>abZ x∧J7 xs
theorem ab2{w:World}{F:Nat→Prop} : ∀{cs:List AV} {vs:List Value},aT (aR w F) cs vs→J8 cs
 |[],[],_=>trivial
 |_::_,_::_,h=>⟨h.1.nO,ab2 h.2⟩
 |[],_::_,h=>h.elim
 |_::_,[],h=>h.elim
theorem apq{w:World}{F:Nat→Prop}{x:AV}{v:Value}(h:fD w F x v):abZ x:=by
 cases x
 case agg cs=>obtain⟨vs,_,h⟩:=h;exact ab2 h
 case undef=>exact h.elim
 all_goals exact aR.nO h
theorem ab0{w:World}{F:Nat→Prop} : ∀{xs:List AV} {vs:List Value},aT (fD w F) xs vs→J7 xs
 |[],[],_=>trivial
 |_::_,_::_,h=>⟨apq h.1,ab0 h.2⟩
 |[],_::_,h=>h.elim
 |_::_,[],h=>h.elim
theorem fk.nO{P:Program}{f:FuncId}{xs:List AV}{r:AV}(h:J7 xs→fk P f xs r):fk P f xs r:=fun w F vs hF ha=>h (ab0 ha) w F vs hF ha
theorem fJ.len{α:Type}{sz:Nat}{enc:α→List AV}{s:Sl α}(h:fJ (aL sz enc s)):s.n≤dg:=by
 unfold aL at h
 cases h;assumption
theorem fJ.at{α:Type}{sz:Nat}{enc:α→List AV}{s:Sl α}(h:fJ (aL sz enc s)){i j:Nat}{x:AV}(hi:i<s.n)(hj:j<sz)(hx:(enc (s.at' i))[j]? =some x):fJ x:=by
 unfold aL at h
 cases h with
 |arr _ _ _ _ g h1 h2=>
  have:=h1 i j hi hj;rw[hx]at this
  cases this
  exact h2 i j hi hj
theorem fJ.size{s:ByteArray}(h:fJ (.str s)):s.size≤dg:=by cases h;assumption
theorem fk.aj9{P:Program}{f:FuncId}{xs ys:List AV}{r:AV}(h:fk P f ys r)(hle:aT kJ xs ys):fk P f xs r:=fun w F vs hF ha=>
 h w F vs hF (aT.mk (hle.length.symm.trans ha.length) fun i y v hy hv=>by
   have hi:i<xs.length:=by rw[hle.length];exact(aDc.1 hy).1
   obtain⟨y',h1,h2⟩:=hle.get i _ (aCP hi);rw[hy]at h1;cases h1;obtain⟨v',h3,h4⟩:=ha.get i _ (aCP hi);rw[hv]at h3;cases h3;exact h2.rel h4)
def uu(sz:Nat):AV→Bool
 | .arr s _ _=>Nat.beq s sz
 | .aE=>true
 |_=>false
def ja{α:Type}[Inhabited α](dec:List AV→α):AV→Sl α
 | .arr _ n f=>⟨n,fun i=>dec (f i)⟩
 |_=>⟨0,fun _=>default⟩
def aiz{α:Type}(enc:α→List AV)(dec:List AV→α):AV→Prop
 | .arr _ n f=> ∀i,i<n→f i=enc (dec (f i))
 |_=>True
theorem aAB{α:Type}[Inhabited α]{sz:Nat}{enc:α→List AV}{dec:List AV→α}{x:AV}(h1:uu sz x=true)(h2:aiz enc dec x):gX x (aL sz enc (ja dec x)):=by
 cases x<;>simp only[uu]at h1<;>first|(cases h1;done)|skip
 ·exact rfl
 ·exact⟨aCS h1,rfl,h2⟩
def al{α:Type}[Inhabited α]:Sl α:=⟨0,fun _=>default⟩
theorem aAC{α:Type}[Inhabited α]{sz:Nat}{enc:α→List AV}{dec:List AV→α}{x:AV}(h1:uu sz x=true)(h2:aiz enc dec x):kJ x (aL sz enc (ja dec x)):=by
 have h:=aAB h1 h2
 cases x<;>simp only[uu]at h1<;>first|(cases h1;done)|exact h
theorem aI{k:IntKind}{n:Int} :kJ (.int k n) (.int k n):=rfl
theorem l0{α β:Type}{R:α→β→Prop} :aT R [] []:=trivial
theorem l1{α β:Type}{R:α→β→Prop}{a:α}{b:β}{l:List α}{m:List β}(h:R a b)(t:aT R l m):aT R (a::l) (b::m):=⟨h,t⟩
theorem wrap64{x:Int}(h1: -9223372036854775808≤x)(h2:x≤9223372036854775807):i64.wrap x=x:=by
 rw[IntKind.wrap_i64];omega
theorem _root_.Go.aq(x:Int)(h1: -9223372036854775808≤x:=by omega)(h2:x≤9223372036854775807:=by omega):i64.wrap x=x:=wrap64 h1 h2
end Go.Vc
namespace Go.Proofs.YtfmgjpcmcjjoiaaGreatDoor
open Go Go.RowKit Go.Vc
theorem RW{H:Type}{d:DataW H}{l:List (DataW H)}(h:d∈l):Rows.uptoBulk d≤Rows.uptoBulkAll l:=by
 induction l with
 |nil=>cases h
 |cons x r ih=>
  simp only[Rows.uptoBulkAll]
  cases aDa.1 h with
  |inl e=>subst e;omega
  |inr e=>have:=ih e;omega
theorem anY{H:Type}(d:DataW H):1≤Rows.uptoBulk d:=by
 cases d with
 |lit l=>cases l<;>simp [Rows.uptoBulk]
 |nil=>simp [Rows.uptoBulk]
 |ptr d=>simp [Rows.uptoBulk]
 |slice elems spare=>simp [Rows.uptoBulk]
 |agg parts=>simp [Rows.uptoBulk]
 |iface t d=>simp [Rows.uptoBulk]
 |map entries=>simp [Rows.uptoBulk]
 |held h=>simp [Rows.uptoBulk]
theorem anW{H:Type}(l:List (DataW H)):l.length≤Rows.uptoBulkAll l:=by
 induction l with
 |nil=>simp [Rows.uptoBulkAll]
 |cons x r ih=>have:=anY x;simp only[Rows.uptoBulkAll,aC7];omega
theorem anX(H:Type):Ec (Rows.uptoBulk (H:=H)):=by
 refine⟨fun l=> ?_,fun e r=> ?_,fun e r d hd=> ?_,fun e d hd=> ?_⟩
 ·simp [Rows.uptoBulk]
 ·have:=anW e;simp only[Rows.uptoBulk];omega
 ·have:=RW hd;simp only[Rows.uptoBulk];omega
 ·have:=RW hd;simp only[Rows.uptoBulk];omega
theorem anZ{H:Type}{l:List (DataW H)}(hk:Rows.uptoSmall H l=true): ∀d∈l,Rows.uptoBulk d≤1048576:=fun d hd=>by
 have h:Rows.uptoBulkAll l≤1048576:=ay hk;have:=RW hd;omega
end Go.Proofs.YtfmgjpcmcjjoiaaGreatDoor
namespace Go.Vc
open Go Go.RowKit
section
variable {S:dF} {ι:Nat→Option Nat} {st:St} {a:Act} {w:World}
theorem aP.ajb(h:aP S ι st a w){b o:Nat}{av:AV}(hu:aj st.hp b o≠ .undef)(hb:bW (aj st.hp b o)=false)(ha:av≠ .undef)(C4:bW av=false)
  (hv: ∀v,bV ι st.hp w (FZ S ι st.hp w) (aj st.hp b o) v→bV ι st.hp w (FZ S ι st.hp w) av v):aP S ι ⟨st.tm,bl st.hp b o av⟩ a w:=by
 have hH: ∀b' o',aj (bl st.hp b o av) b' o'=if b'=b∧o'=o then av else aj st.hp b' o':=fun b' o'=>e_ _ _ _ _ _ _
 have fZ:=(h.hp b o).aym hu hb;have eM: ∀b',bW (aj (bl st.hp b o av) b' 0)=bW (aj st.hp b' 0):=fun b'=>by
  rw[hH]
  by_cases e:b'=b∧0=o
  ·rw[aCL e,C4,e.1,fZ]
  ·rw[aCM e]
 have hs:dV ι st.hp w (FZ S ι st.hp w) ι (bl st.hp b o av) w (FZ S ι (bl st.hp b o av) w):=by
  refine⟨fun y ⟨h1,h2,h3⟩=>⟨h1,h2,fun b' eA=>h3 b' ?_⟩,fun _ _ _=>rfl,fun b' z hz hk=>⟨hz,by rw[eM];exact hk⟩,fun b' ro sz n f hk=> ?_⟩
  ·rcases eA with⟨g1,g2⟩|⟨g1,o',g2⟩
   ·rw[eM]at g1;refine .inl ⟨g1,?_⟩;rw[hH]at g2
    by_cases e:b'=b∧0=o
    ·rw[aCL e]at g2;rw[e.1,fZ]at g1;cases g1
    ·rw[aCM e]at g2;exact g2
   ·rw[eM]at g1;rw[hH]at g2
    by_cases e:b'=b∧o'=o
    ·refine .inr ⟨g1,o,?_⟩;rw[e.1];exact aka hu hb
    ·rw[aCM e]at g2;exact .inr ⟨g1,o',g2⟩
  ·have e: ¬(b'=b∧0=o):=fun e=>by rw[e.1,e.2]at hk;rw[hk]at hb;cases hb
   exact⟨ro,_,n,f,by rw[hH,aCM e];exact hk,aCK _,fun _=>⟨rfl,rfl,fun x C T _ hC=>⟨C,hC,rfl⟩⟩⟩
 refine⟨h.below,h.defers,fun t u ht=> ?_,fun b' o'=> ?_,h.inj,h.fresh,fun b' y hy=>aC0 (h.gH _ _ hy) (mJ _ _ _ _).1,h.gK.trans hs⟩
 ·obtain⟨v,h1,h2⟩:=h.tm t u ht;exact⟨v,h1,h2.step hs⟩
 ·show fc _ _ _ _ _ _ (aj (bl st.hp b o av) b' o');rw[hH]
  by_cases e:b'=b∧o'=o
  ·obtain⟨rfl,rfl⟩:=e;rw[aCL ⟨rfl,rfl⟩];obtain⟨x,v,k1,k2,k3,k4⟩:=(h.hp b' o').box hu hb;have k5:=(hv v k4).step hs;have ath:bW (aj (bl st.hp b' o' av) b' 0)=false:=by rw[eM];exact fZ
   cases av<;>first|exact absurd rfl ha|(cases C4;done)|exact⟨ath,x,v,k1,k2,k3,k5⟩
  ·rw[aCM e];exact(h.hp b' o').step hs (fun _=>rfl) (fun _ _ _=>⟨rfl,rfl⟩) (fun _=>⟨rfl,fun _ _=>rfl⟩)
theorem aiq{H:Heap}{F:Nat→Prop}{v:Value}(h:bV ι H w F .aE v):v= .slice none 0 0:=by
 have h':aR w F .aE v:=h
 cases h';rfl
end
section
variable {α:Type}
def Sl.app(s t:Sl α):Sl α:=⟨s.n+t.n,fun i=>bif Nat.blt i s.n then s.at' i else t.at' (i-s.n)⟩
def Sl.lit[Inhabited α](l:List α):Sl α:=⟨l.length,fun i=>l.getD i default⟩
def Sl.part(s:Sl α)(l h:Int):Sl α:=⟨(h-l).toNat,fun i=>s.at' (l.toNat+i)⟩
def Sl.ofStr(s:ag):Sl Int:=⟨s.size,fun i=>((s.data.toList.getD i 0).toNat:Int)⟩
def Sl.toStr(s:Sl Int):ag:=bytesOf s.n fun i=>[.int .u8 (s.at' i)]
theorem Sl.pz(s t:Sl α):(s.app t).n=s.n+t.n:=rfl
theorem Sl.nA[Inhabited α](l:List α):(Sl.lit l).n=l.length:=rfl
theorem Sl.An(s:Sl α)(l h:Int):(s.part l h).n=(h-l).toNat:=rfl
theorem DN[Inhabited α]:(al:Sl α).n=0:=rfl
theorem aaO{e:α→List AV}{s t:Sl α}{n m:Nat}{f g:Nat→List AV}(hn:n=s.n)(hm:m=t.n)(hf: ∀i,i<n→f i=e (s.at' i))(hg: ∀i,i<m→g i=e (t.at' i)): ∀i,i<n+m→ix n f g i=e ((s.app t).at' i):=fun i hi=>by
 subst hn hm;simp only[ix,Sl.app]
 cases h:Nat.blt i s.n with
 |true=>exact hf i (aC1 h)
 |false=>
  refine hg _ ?_;have: ¬i<s.n:=fun h'=>by rw[show Nat.blt i s.n=true by rw[aC9];exact h']at h;cases h
  omega
theorem axp[Inhabited α](e:α→List AV)(l:List α): ∀i,i<l.length→(l.map e).getD i []=e ((Sl.lit l).at' i):=fun i hi=>by
 simp only[Sl.lit,List.getD,aC4,aCP hi,aDC,aDk]
end
end Go.Vc
