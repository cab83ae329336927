/- Part of a proof: the executor and its soundness. -/
import Derived.Test.YtfmgjpcmcjjoiaaGreatDoorXb
open Go.IntKind (i64 u64 u8)
open Int (toNat)
set_option maxRecDepth 100000
set_option maxHeartbeats 4000000
set_option linter.all false
noncomputable section
namespace Go.Vc
open Go Go.RowKit
section
variable {E:Env} {S:dF} {ι:Nat→Option Nat} {st:St} {a:Act} {w:World}
theorem aiT(h:aP S ι st a w){aO:Nat} : ∀(ps:List (Nat×Operand)) (k:Nat) (l:List (List AV)),lL aO st.tm ps k=some l→
  l.length=ps.length∧(ps.map fun p=>(p.1,a.eval p.2))=((ps.map fun p=>a.eval p.2).zipIdx k).map (fun x=>(x.2,x.1))∧(∀v∈ps.map (fun p=>a.eval p.2),v.cells.size=aO)∧
  aT (fun cs v=>aT (CR S ι st.hp w) cs v.cells.toList) l (ps.map fun p=>a.eval p.2)
 |[],k,l,h1=>by
  simp only[lL,aC3]at h1;subst h1;exact⟨rfl,rfl,fun v hv=>by simp at hv,trivial⟩
 |(i,x)::r,k,l,h1=>by
  simp only[lL]at h1
  split at h1
  ·rename_i hc;simp only[aCN]at hc;obtain⟨uc,⟨o9,hlen⟩,ua⟩:=hc;have uc:i=k:=aCS uc;subst uc;have hlen:(cellsOf (eR (aC st.tm x))).length=aO:=aCS hlen
   split at h1
   ·rename_i l' HE;simp only[aC3]at h1;subst h1;obtain⟨g1,g2,g3,g4⟩:=aiT h r (i+1) l' HE;have eB:=dZ.cells (DO (h.eval x)) o9;have dw:(a.eval x).cells.size=aO:=by rw[←hlen,eB.length];simp
    refine⟨by simp [g1],by simp [List.zipIdx_cons,g2],fun v hv=> ?_,eB,g4⟩;simp only[aEh,aDa]at hv;rcases hv with rfl|hv
    ·exact dw
    ·exact g3 v hv
   ·cases h1
  ·cases h1
theorem acj{H:Heap}(h:aP S ι st a w): ∀(ls:List (List AV)) (us:List Value) (K:List (List AV)→Prop),(∀b∈ls.flatten.flatMap pj,∀ro sz n f,aj H b 0= .ah ro sz n f→aj st.hp b 0= .ah true sz n f)→aT (fun cs (v:Value)=>aT (CR S ι st.hp w) cs v.cells.toList) ls us→nQ H ls K→ ∃ys,K ys∧aT (fun cs (v:Value)=>aT (aR w (FZ S ι st.hp w)) cs v.cells.toList) ys us
 |[],[],K,_,_,hk=>⟨[],hk,trivial⟩
 |l::ls,u::us,K,hH,hr,hk=>by
  simp only[nQ]at hk;obtain⟨y,hk,h1⟩:=SV h l _ _ (fun b hb=>hH b (by simp only[aDX,aD9,aC5];exact .inl hb)) hr.1 hk;obtain⟨ys,hk,h2⟩:=acj h ls us _ (fun b hb=>hH b (by simp only[aDX,aD9,aC5];exact .inr hb)) hr.2 hk;exact⟨y::ys,hk,h1,h2⟩
 |[],_::_,_,_,hr,_=>hr.elim
 |_::_,[],_,_,hr,_=>hr.elim
theorem ay8{c:AV}{b:Nat}(h:b∈pj c):b∈sd c:=by
 cases c<;>simp only[pj,sd]at h ⊢ <;>first|exact h|(cases h;done)
theorem anU{o:Oper}{T:TypeId}{t:Ty}{len:Nat}{ps:Array (Nat×Operand)}(ho:o.op= .buildSlice T len ps)(hT:gF E.P T t)(h:aP S ι st a w){nb:Nat}(fZ: ∀o,aj st.hp nb o= .undef)(qc:ι nb=none){K:AV→Ws→Prop}
  (hk:qM t st.tm st.hp nb len ps.toList K) {next:Act→World→Prop} {Q:Exit→Act→World→Prop}
  (bQ: ∀aA av ws v w',K av ws→aP S aA ⟨st.tm,bm st.hp ws⟩ a w'→VR S aA (bm st.hp ws) w' av v→(∀b,aA b≠none→ι b≠none∨ ∃p c,(b,p,c)∈ws)→next (a.put o.dst v) w'):o.wp E.P a w next Q:=by
 have hd:=hT.d;unfold qM at hk
 cases ed:t.d<;>rw[ed]at hk<;>simp only at hk<;>try exact hk.elim
 rename_i e aO eb;rw[ed]at hd;obtain⟨hu,i,eF,gR,nm,pY,Df⟩:=hd;subst gR;obtain⟨z,hz⟩:=Option.isSome_iff_exists.1 pY
 cases hp:lL i.size st.tm ps.toList 0 with
 |none=>rw[hp]at hk;exact hk.elim
 |some l=>
  rw[hp]at hk;obtain⟨hc,hk⟩:=aD.1 hk;simp only[aCN,aC9]at hc;obtain⟨⟨⟨hl,hle⟩,Dd⟩,rN⟩:=hc;have hl:l.length=len:=aCS hl;have hle:len≤4096:=aC1 hle;have Dd:i.size≤4096:=aC1 Dd;obtain⟨g1,g2,g3,g4⟩:=aiT h _ _ _ hp;have jV:(ps.toList.map fun p=>a.eval p.2).length=len:=by rw[List.length_map];omega
  obtain⟨hf,fQ⟩:=h.freeze (H':=bm st.hp (eI st.hp l.flatten)) (wK _) (rS _ _);obtain⟨ZG,⟨hh,mG,hK⟩,hy⟩:=acj (H:=st.hp) hf l _ _ (fun b hb ro sz n f he=>I7 (by
   obtain⟨c,rI,HA⟩:=aDh.1 hb;exact aDh.2 ⟨c,rI,ay8 HA⟩) he) (g4.imp fun _ _ q=>q.imp fun _ _ hv=>hv.step fQ) hk
  have Di: ∀o,aj (bm st.hp (eI st.hp l.flatten)) nb o= .undef:=fun o=>by
   rcases wK (H:=st.hp) l.flatten nb o with g|⟨_,ro,sz,n,f,g,_⟩
   ·rw[g];exact fZ o
   ·rw[fZ 0]at g;cases g
  have fin: ∀C:Array Value,(Instr.buildSlice T len (ps.map fun(i,x)=>(i,a.eval x))).run E.P w= .ok (.slice (some ⟨w.heap.size,0,none⟩) len len) (w.alloc (.cells C e))→C.size=len*i.size→
    (∀i' j,i'<len→j<i.size→C[i'*i.size+j]? =((ps.toList.map fun p=>a.eval p.2)[i']?).bind fun v=>v.cells[j]?)→o.wp E.P a w next Q:=fun C b_ eZ hC=>by
   have o8:Below w.heap.size w (w.alloc (.cells C e)):=(Below.refl _ w).alloc (aCK _) _;have hr:qJ w.heap.size (w.alloc (.cells C e)) (FZ S ι (bm st.hp (eI st.hp l.flatten)) w) (.ah false i.size len hh) (.slice (some ⟨w.heap.size,0,none⟩) len len):=by
    refine .inr ⟨w.heap.size,len,C,e,aCK _,by simp,rfl,aCK _,by have hB:dg=549755813888:=rfl;omega,aDE w _,eZ,fun i' j eO hj=> ?_⟩;have hyl:ZG.length=len:=by rw[hy.length];exact jV
    obtain⟨row,agW⟩: ∃row,ZG[i']? =some row:=⟨_,aCP (show i'<ZG.length by omega)⟩;obtain⟨v,k1,k2⟩:=hy.get i' row agW;have iF:v.cells.size=i.size:=g3 v (aCV k1);have hlen:row.length=i.size:=by rw[k2.length];simpa using iF
    obtain⟨c,hc⟩: ∃c,row[j]? =some c:=⟨_,aCP (show j<row.length by omega)⟩;obtain⟨u,k3,k4⟩:=k2.get j c hc;have wk:=mG i' eO;rw[List.getD,agW]at wk;obtain⟨c2,HA,hn2⟩:=OF j c wk hc;refine⟨c2,u,HA,?_,XW hn2 (k4.mono (fun y hy=>⟨hy,fun e=> ?_⟩) fun y o hy=>o8.cell hy.2.1)⟩
    ·rw[hC i' j eO hj,k1];simpa using k3
    ·subst e;exact absurd hy.2.1 (Nat.lt_irrefl _)
   obtain⟨aA,av,jv,q1,q2,q3,q4⟩:=YM (st:=st) (ws:=eI st.hp l.flatten) hf o8 hr (fun y hy=> .inl hy) Di qc hK;refine de (v:= .slice (some ⟨w.heap.size,0,none⟩) len len) (w':=w.alloc (.cells C e)) ?_ (bQ _ _ _ _ _ q1 q2 q3 q4);simp only[execOp,ho];rw[Sem.run_bind,b_];rfl
  have atk:(ps.map fun(i,x)=>(i,a.eval x)).toList=((ps.toList.map fun p=>a.eval p.2).zipIdx 0).map (fun x=>(x.2,x.1)):=by rw[←g2];simp
  by_cases h0:len=0
  ·subst h0;refine fin #[] ?_ (by simp) (fun i' j eO=>by omega);have Dq:ps.toList=[]:=by
    have:ps.toList.length=0:=by omega
    exact aEA this
   have HU:ps= #[]:=aDr (by simpa using Dq);have HV:(Array.range 0)= #[]:=rfl;simp [HV,Instr.buildSlice,aCU hu,sizeOf,typeInfo,eF,HU,Instr.fill,newRow]
  ·obtain⟨C,r1,r2,r3⟩:=Great.fill_dense rN (ps.toList.map fun p=>a.eval p.2) 0 ((Array.range (len*i.size)).map (z.cells[· %z.cells.size]!)) g3 (by rw[jV];simp);have hmul:len*i.size≤16777216:=Nat.mul_le_mul hle Dd;refine fin C (run_buildSlice w T e len _ C i z hu eF hz (by omega) (fun h=>by rcases Nat.mul_eq_zero.1 h with h|h<;>omega) (by rw[atk];exact r1)) (by rw[r2];simp) (fun i' j eO hj=> ?_);have cI:i'*i.size+j<len*i.size:=by
    have:(i'+1)*i.size≤len*i.size:=aC2 _ eO;rw[aDb]at this;omega
   have e1:(i'*i.size+j)/i.size=i':=by
    rw[aDM,Nat.mul_add_div (by omega),aEw hj];omega
   have e2:(i'*i.size+j)%i.size=j:=by
    rw[aDM,Nat.mul_add_mod,aEx hj]
   rw[r3,jV,aCL ⟨by simp,by rw[aCO];exact cI⟩,e1,e2,Nat.sub_zero]
theorem anP(h:aP S ι st a w){x:Operand}{k:IntKind}{z:Int}(hx:aC st.tm x= .int k z):a.eval x= .int k z:=by
 have:=h.eval x;rw[hx]at this;exact VR.int this
def mf(m:Option Operand)(c:Nat)(mx:Int):Nat:=
 match m with
 |none=>c
 |some _=>mx.toNat
theorem RU(h:aP S ι st a w)(isS:Bool)(len cap:Nat)(l hh m:Option Operand){K:Int→Int→Int→Prop}(hk:cB st.tm 0 l fun lo=>cB st.tm len hh fun hi=>cB st.tm hi m fun mx=>(0≤lo∧lo≤hi∧hi≤mx∧mx≤len)∧K lo hi mx)(pU:len≤cap)(zG:hh=none→m=none):
  ∃lo hi mx:Int,(0≤lo∧lo≤hi∧hi≤mx∧mx≤len)∧K lo hi mx∧(m=none→mx=hi)∧(Instr.sliceBounds isS len cap (l.map a.eval) (hh.map a.eval) (m.map a.eval)).run E.P w= .ok (lo.toNat,hi.toNat,mf m cap mx) w:=by
 have rK: ∀{x:Operand} {K':Int→Prop} (d:Int),cB st.tm d (some x) K'→ ∃k z,a.eval x= .int k z∧K' z:=fun {x K'} d hk=>by
  simp only[cB]at hk
  cases e:aC st.tm x<;>rw[e]at hk<;>simp only at hk<;>try exact hk.elim
  exact⟨_,_,anP h e,hk⟩
 cases l with
 |none=>
  simp only[cB]at hk
  cases hh with
  |none=>
   have:=zG rfl;subst this;simp only[cB]at hk;refine⟨_,_,_,hk.1,hk.2,fun _=>rfl,?_⟩;simp [mf,Instr.sliceBounds]
  |some xh=>
   obtain⟨kh,zh,eh,hk⟩:=rK 0 hk
   cases m with
   |none=>
    simp only[cB]at hk;refine⟨_,_,_,hk.1,hk.2,fun _=>rfl,?_⟩;simp [mf,Instr.sliceBounds,eh,run_sliceBound w kh zh cap _ (by omega) (by omega)]
   |some xm=>
    obtain⟨km,zm,em,hk⟩:=rK 0 hk;refine⟨_,_,_,hk.1,hk.2,fun h=>(by cases h),?_⟩;have e1:(zm.toNat:Int)=zm:=aEt (by omega);simp [mf,Instr.sliceBounds,eh,em,run_sliceBound w km zm cap _ (by omega) (by omega),run_sliceBound w kh zh zm.toNat _ (by omega) (by omega)]
 |some xl=>
  obtain⟨kl,zl,el,hk⟩:=rK 0 hk
  cases hh with
  |none=>
   have:=zG rfl;subst this;simp only[cB]at hk;refine⟨_,_,_,hk.1,hk.2,fun _=>rfl,?_⟩;simp [mf,Instr.sliceBounds,el,run_sliceBound w kl zl len _ (by omega) (by omega)]
  |some xh=>
   obtain⟨kh,zh,eh,hk⟩:=rK 0 hk
   cases m with
   |none=>
    simp only[cB]at hk;refine⟨_,_,_,hk.1,hk.2,fun _=>rfl,?_⟩;have e1:(zh.toNat:Int)=zh:=aEt (by omega);simp [mf,Instr.sliceBounds,el,eh,run_sliceBound w kh zh cap _ (by omega) (by omega),run_sliceBound w kl zl zh.toNat _ (by omega) (by omega)]
   |some xm=>
    obtain⟨km,zm,em,hk⟩:=rK 0 hk;refine⟨_,_,_,hk.1,hk.2,fun h=>(by cases h),?_⟩;have e1:(zm.toNat:Int)=zm:=aEt (by omega);have e2:(zh.toNat:Int)=zh:=aEt (by omega);simp [mf,Instr.sliceBounds,el,eh,em,run_sliceBound w km zm cap _ (by omega) (by omega),run_sliceBound w kh zh zm.toNat _ (by omega) (by omega),run_sliceBound w kl zl zh.toNat _ (by omega) (by omega)]
end
section
variable {E:Env} {S:dF} {ι:Nat→Option Nat} {st:St} {a:Act} {w:World}
theorem aR.part{F:Nat→Prop}{sz n c m l hh aO:Nat}{f:Nat→List AV}{ad:Option Addr}(dw:sz=aO)(h:aR w F (.arr sz n f) (.slice ad n c))(h1:l≤hh)(h2:hh≤n)(h3:hh≤m)(HN:n=0→ad=none→m=0):
  aR w F (.arr sz (hh-l) fun i=>f (l+i)) (.slice (if m=l then ad else ad.map (·.add (l*aO))) (hh-l) (m-l)):=by
 subst dw
 by_cases h0:hh-l=0
 ·rw[h0]
  cases ad with
  |none=>
   cases h with
   |nil=>
    have hm:=HN rfl rfl;have hl:l=0:=by omega
    subst hm;subst hl;exact .nil _ _
  |some ad=>
   by_cases e:m=l
   ·rw[aCL e];exact .mt _ _ _ _
   ·rw[aCM e];exact .mt _ _ _ _
 ·have e:m≠l:=by omega
  rw[aCM e]
  cases h with
  |nil=>omega
  |mt=>omega
  |arr _ _ _ b o c g vs hn hb hF g1 g2 g3=>
   simp only[aDC,Addr.add_lit];refine .arr sz (hh-l) _ b (o+l*sz) (m-l) (fun i=>g (l+i)) (fun i=>vs (l+i)) (by omega) (by omega) (fun _=>hF (by omega)) (fun i j hi hj=>g1 _ _ (by omega) hj) (fun i j hi hj=> ?_) (fun i j hi hj=>g3 _ _ (by omega) hj);have:=g2 (l+i) j (by omega) hj;rw[←this,aC6]
   congr 2;omega
theorem aAH{o:Oper}{T:TypeId}{t:Ty}{x:Operand}{l hh m:Option Operand}(ho:o.op= .slice T x l hh m)(hT:gF E.P T t)(h:aP S ι st a w){K:AV→Ws→Prop}(hk:sA t st.hp st.tm (aC st.tm x) l hh m K){next:Act→World→Prop}{Q:Exit→Act→World→Prop}
  (bQ: ∀av ws v,K av ws→aP S ι ⟨st.tm,bm st.hp ws⟩ a w→VR S ι (bm st.hp ws) w av v→next (a.put o.dst v) w):o.wp E.P a w next Q:=by
 have hx:=h.eval x;have hd:=hT.d;unfold sA at hk;obtain⟨zG,hk⟩:=aD.1 hk;have zG:hh=none→m=none:=fun e=>by
  subst e
  cases m with
  |none=>rfl
  |some _=>simp at zG
 cases ed:t.d<;>rw[ed]at hk hd<;>simp only at hk<;>try exact hk.elim
 ·
  cases ex:aC st.tm x<;>rw[ex]at hk hx<;>simp only at hk<;>try exact hk.elim
  rename_i s
  cases m with
  |some _=>exact hk.elim
  |none=>
   have VZ:cB st.tm 0 l fun lo=>cB st.tm s.size hh fun hi=>cB st.tm hi none fun mx=>(0≤lo∧lo≤hi∧hi≤mx∧mx≤s.size)∧K (.str (s.extract lo.toNat hi.toNat)) []:=by
    have mono: ∀{d:Int} {o:Option Operand} {K1 K2:Int→Prop},(∀z,K1 z→K2 z)→cB st.tm d o K1→cB st.tm d o K2:=fun {d o K1 K2} hK hb=>by
     cases o with
     |none=>exact hK _ hb
     |some x=>
      simp only[cB]at hb ⊢
      cases e:aC st.tm x<;>rw[e]at hb<;>simp only at hb ⊢ <;>first|exact hb.elim|exact hK _ hb
    refine mono (fun lo hb=>mono (fun hi hc=> ?_) hb) hk;simp only[cB];exact⟨⟨hc.1.1,hc.1.2.1,aCT _,hc.1.2.2⟩,hc.2⟩
   obtain⟨lo,hi,mx,hb,hK,_,b_⟩:=RU (E:=E) h false s.size s.size l hh none (K:=fun lo hi mx=>K (.str (s.extract lo.toNat hi.toNat)) []) VZ (aCK _) (fun _=>rfl);have hv:=VR.str hx;have dK:=VR.Zf hx;refine de (v:= .string (s.extract lo.toNat hi.toNat)) (w':=w) ?_ (bQ _ _ _ hK h (VR.mkStr _ (by rw[ByteArray.size_extract];omega)));simp only[Option.map_none]at b_;simp [execOp,ho,hv,Instr.sliceAt,aCU hd,Instr.slice];rw[b_];rfl
 ·rename_i e aO eb;obtain⟨hu,i,eF,gR,_⟩:=hd;have fin: ∀(ad:Option Addr) (n c:Nat) (lo hi mx:Int),a.eval x= .slice ad n c→(Instr.sliceBounds true n c (l.map a.eval) (hh.map a.eval) (m.map a.eval)).run E.P w= .ok (lo.toNat,hi.toNat,(mf m c mx)) w→
    (execOp a.eval o).run E.P w= .ok (.value (.slice (if(mf m c mx)=lo.toNat then ad else ad.map (·.add (lo.toNat*aO))) (hi.toNat-lo.toNat) ((mf m c mx)-lo.toNat))) w:=fun ad n c lo hi mx hv b_=>by
   generalize mf m c mx=mm at b_ ⊢;simp [execOp,ho,hv,Instr.sliceAt,aCU hu,Instr.slice,b_,sizeOf,typeInfo,eF,gR]
  have arr: ∀(H':Heap) (ws:Ws) (sz n:Nat) (f:Nat→List AV),H'=bm st.hp ws→aP S ι ⟨st.tm,H'⟩ a w→sz=aO→aR w (FZ S ι H' w) (.arr sz n f) (a.eval x)→(cB st.tm 0 l fun lo=>cB st.tm n hh fun hi=>cB st.tm hi m fun mx=>((0≤lo∧lo≤hi∧hi≤mx∧mx≤n)∧(lq m sz=true→hi=mx))∧K (uL (lq m sz) sz (hi-lo).toNat fun i=>f (lo.toNat+i)) ws)→o.wp E.P a w next Q:=fun H' ws sz n f hH hs dw hr hk=>by
   have mono: ∀{d:Int} {o:Option Operand} {K1 K2:Int→Prop},(∀z,K1 z→K2 z)→cB st.tm d o K1→cB st.tm d o K2:=fun {d o K1 K2} hK hb=>by
    cases o with
    |none=>exact hK _ hb
    |some x=>
     simp only[cB]at hb ⊢
     cases e:aC st.tm x<;>rw[e]at hb<;>simp only at hb ⊢ <;>first|exact hb.elim|exact hK _ hb
   have hk:=mono (K2:=fun lo=>cB st.tm n hh fun hi=>cB st.tm hi m fun mx=>(0≤lo∧lo≤hi∧hi≤mx∧mx≤n)∧((lq m sz=true→hi=mx)∧K (uL (lq m sz) sz (hi-lo).toNat fun i=>f (lo.toNat+i)) ws)) (fun lo hb=>mono (fun hi hc=>mono (fun mx hd=>⟨hd.1.1,hd.1.2,hd.2⟩) hc) hb) hk;have hvc: ∃ad c,a.eval x= .slice ad n c∧n≤c∧(ad=none→c=0):=by
    generalize a.eval x=v at hr
    cases hr with
    |nil=>exact⟨none,0,rfl,aCK _,fun _=>rfl⟩
    |mt _ _ ad c=>exact⟨some ad,c,rfl,aCQ _,fun h=>by cases h⟩
    |arr _ _ _ b o c g vs hn=>exact⟨_,c,rfl,hn,fun h=>by cases h⟩
   obtain⟨ad,c,hv,gL,had⟩:=hvc;obtain⟨lo,hi,mx,⟨b1,b2,b3,b4⟩,⟨pU,hK⟩,hmx,b_⟩:=RU (E:=E) h true n c l hh m (K:=fun lo hi mx=>(lq m sz=true→hi=mx)∧K (uL (lq m sz) sz (hi-lo).toNat fun i=>f (lo.toNat+i)) ws) hk gL zG;have wo:=hr;rw[hv]at wo;have hp:=aR.part (m:=(mf m c mx)) (l:=lo.toNat) (hh:=hi.toNat) dw wo (by omega) (by omega) (by cases m<;>simp only[mf]<;>omega) (fun hn ha=>by
    cases m with
    |none=>exact had ha
    |some _=>simp only[mf];omega)
   refine de (fin ad n c lo hi mx hv b_) (bQ _ _ _ hK (by rw[←hH];exact hs) ?_);rw[←hH];have e1:(hi-lo).toNat=hi.toNat-lo.toNat:=by omega
   rw[e1]
   cases ec:lq m sz with
   |false=>exact hp
   |true=>
    have e2:=pU ec;refine aR.kK _ _ _ _ _ hp ?_
    cases m with
    |none=>cases ec
    |some _=>simp only[mf];omega
  cases ex:aC st.tm x<;>rw[ex]at hk hx<;>simp only at hk<;>try exact hk.elim
  ·
   have mono: ∀{d:Int} {o:Option Operand} {K1 K2:Int→Prop},(∀z,K1 z→K2 z)→cB st.tm d o K1→cB st.tm d o K2:=fun {d o K1 K2} hK hb=>by
    cases o with
    |none=>exact hK _ hb
    |some x=>
     simp only[cB]at hb ⊢
     cases e:aC st.tm x<;>rw[e]at hb<;>simp only at hb ⊢ <;>first|exact hb.elim|exact hK _ hb
   have cQ:aR w (FZ S ι st.hp w) .aE (a.eval x):=hx;have hv:a.eval x= .slice none 0 0:=by
    generalize a.eval x=v at cQ
    cases cQ;rfl
   obtain⟨lo,hi,mx,⟨b1,b2,b3,b4⟩,hK,_,b_⟩:=RU (E:=E) h true 0 0 l hh m (K:=fun _ _ _=>K .aE []) (mono (fun lo hb=>mono (fun hi hc=>mono (fun mx hd=>⟨by omega,hd.2⟩) hc) hb) hk) (aCK _) zG;refine de (fin none 0 0 lo hi mx hv b_) (bQ _ _ _ hK h ?_);have e1:lo=0:=by omega
   have e2:hi=0:=by omega
   have e3:mx=0:=by omega
   subst e1 e2 e3
   cases m<;>simp [mf]<;>exact aR.aE
  ·rename_i sz n f;obtain⟨dw,hk⟩:=aD.1 hk;exact arr st.hp [] sz n f rfl h (ay dw) hx hk
  ·rename_i b k
   cases A_:aj st.hp b 0<;>rw[A_]at hk<;>simp only at hk
   rename_i ro sz n f;obtain⟨dw,zF,hk⟩:=aD.1 hk;obtain⟨h1,fQ⟩:=h.freeze (H':=bm st.hp [(b,0,.ah true sz n f)]) (fun b' o'=>by
    rw[Dw,e_]
    by_cases e:b'=b∧o'=0
    ·obtain⟨rfl,rfl⟩:=e;rw[aCL ⟨rfl,rfl⟩];exact .inr ⟨rfl,ro,sz,n,f,A_,by rw[e_,aCL ⟨rfl,rfl⟩]⟩
    ·rw[aCM e];exact .inl rfl) (rS _ _)
   refine arr _ _ sz n f rfl h1 (ay dw) (OL h1 (by rw[Dw,e_,aCL ⟨rfl,rfl⟩]) zF (bV.step fQ hx)) hk
theorem foldl_push: ∀(l:List Int) (r:ag),l.foldl (fun r n=>r.push (UInt8.ofNat n.toNat)) r=⟨r.data++(l.map fun n=>UInt8.ofNat n.toNat).toArray⟩
 |[],r=>by simp
 |n::l,r=>by
  simp only[aEe,foldl_push l,aEh];simp [ByteArray.push]
theorem aor{Ts Td e:TypeId}(hs:E.P.underlying Ts=some (.slice e))(he:E.P.underlying e=some (.int .u8))(hd:E.P.underlying Td=some .string){n x p c:Nat}{f:Nat→List AV}{u:Nat→Value}{F:Nat→Prop}
  (hu: ∀i,i<n→Ir ((f i).getD 0 .undef)=true) (hc: ∀i,i<n→w.cell? ⟨x,p+i,none⟩=some (u i)∧aR w F ((f i).getD 0 .undef) (u i)):
  (convert Ts Td (.slice (some ⟨x,p,none⟩) n c)).run E.P w= .ok (.string (bytesOf n f)) w:=by
 rw[run_convert_bytes_string w Ts Td e _ n c hs he hd];have hz: ∀i,i<n→u i= .int .u8 ((u8N ((f i).getD 0 .undef):Nat):Int)∨ ∃z,(f i).getD 0 .undef= .int .u8 z∧u i= .int .u8 z:=fun i hi=>by
  have h1:=hu i hi;have h2:=(hc i hi).2;generalize (f i).getD 0 .undef=av at h1 h2;generalize u i=v at h2
  cases h2<;>first|(cases h1;done)|skip
  rename_i k z
  cases k<;>first|(cases h1;done)|exact .inr ⟨z,rfl,rfl⟩
 let ns:List Int:=(List.range n).map fun i=>match u i with| .int _ z=>z|_=>0
 have hl:=aEu (P:=E.P) w ⟨x,p,none⟩ (ns.map (Value.int .u8)) (fun j v hj=>by
  have nn:j<n:=by
   have:=(aDc.1 hj).1;simpa[ns]using this
  rw[Addr.add_lit,(hc j nn).1];simp [ns,aD8 nn]at hj;rcases hz j nn with h|⟨z,_,h⟩<;>rw[h]at hj ⊢ <;>simp only at hj<;>rw[←hj]<;>simp)
 have hlen:(ns.map (Value.int .u8)).length=n:=by simp [ns]
 rw[hlen]at hl;rw[run_bytesToString w ⟨x,p,none⟩ n c ns hl,foldl_push];have M6:ByteArray.empty.data= #[]:=rfl;rw[M6]
 congr 2
 unfold bytesOf
 congr 1
 simp only[Array.empty_append,ns,List.map_map]
 congr 1
 apply aEp;intro i hi;have eO:i<n:=aDS.1 hi;simp only[Function.comp];have h1:=hu i eO;have h2:=(hc i eO).2;generalize (f i).getD 0 .undef=av at h1 h2;generalize u i=v at h2
 cases h2<;>first|(cases h1;done)|rfl
end
section
variable {E:Env} {S:dF} {ι:Nat→Option Nat} {st:St} {a:Act} {w:World}
theorem an0(n:Nat)(f:Nat→List AV):(bytesOf n f).size=n:=by simp [bytesOf,ByteArray.size]
def vm(E:Env)(t u:Ty):Option Ty:=
 match u.d with
 | .slice e _ _=>E.ty e
 |_=>match t.d with
  | .slice e _ _=>E.ty e
  |_=>none
theorem aa7(hE:E.Ok){T:TypeId}{t:Ty}{eu:Option Ty}(hT:gF E.P T t)(heu: ∀e aO eb,t.d= .slice e aO eb→eu=E.ty e)(h:oK t eu=true): ∃e,E.P.underlying T=some (.slice e)∧E.P.underlying e=some (.int .u8):=by
 have hd:=hT.d;unfold oK at h
 cases et:t.d<;>rw[et]at h hd<;>simp only at h<;>try (cases h;done)
 rename_i e aO eb;rw[heu e aO eb et]at h;simp only[aCN]at h
 cases ee:E.ty e with
 |none=>rw[ee]at h;cases h.2
 |some te=>
  rw[ee]at h;have hte:=(hE.ty e te ee).d;have h2:=h.2
  cases ed:te.d<;>rw[ed]at hte<;>simp only[ed]at h2<;>try (cases h2;done)
  rename_i k
  cases k<;>first|(cases h2;done)|exact⟨e,hd.1,hte⟩
theorem aos(hE:E.Ok){o:Oper}{Ts Td:TypeId}{t u:Ty}{x:Operand}(ho:o.op= .convert Ts Td x)(hT:gF E.P Ts t)(hU:gF E.P Td u)
  (h:aP S ι st a w) {K:AV→Prop} (hk:sU t u (vm E t u) st.hp (aC st.tm x) K) {next:Act→World→Prop} {Q:Exit→Act→World→Prop}
  (bQ: ∀av v w',K av→aP S ι st a w'→VR S ι st.hp w' av v→next (a.put o.dst v) w'):o.wp E.P a w next Q:=by
 have hx:=h.eval x;have tY:=hT.d;have C0:=hU.d;have b_: ∀v w',(convert Ts Td (a.eval x)).run E.P w= .ok v w'→(execOp a.eval o).run E.P w= .ok (.value v) w':=fun v w' hv=>by
  simp only[execOp,ho];rw[Sem.run_bind,hv];rfl
 have agZ:u.d.isStr=true→E.P.underlying Td=some .string:=fun e=>by
  cases pF:u.d<;>rw[pF]at e C0<;>first|exact C0|(cases e;done)
 have VQ:u.d.isStr=true→ ∀e aO eb,t.d= .slice e aO eb→vm E t u=E.ty e:=fun hs e aO eb et=>by
  unfold vm
  cases pF:u.d<;>rw[pF]at hs<;>first|(cases hs;done)|simp only[et]
 have core: ∀(n:Nat) (f:Nat→List AV),n≤dg→u.d.isStr=true→oK t (vm E t u)=true→(∀i,i<n→Ir ((f i).getD 0 .undef)=true)→K (.str (bytesOf n f))→(∃ad c,a.eval x= .slice ad n c∧(ad=none→n=0)∧(n=0∨ ∃(q p:Nat) (u:Nat→Value),ad=some ⟨q,p,none⟩∧ ∀i,i<n→w.cell? ⟨q,p+i,none⟩=some (u i)∧aR w (FZ S ι st.hp w) ((f i).getD 0 .undef) (u i)))→o.wp E.P a w next Q:=by
  intro n f dK hs hb H4 hK ⟨ad,c,hv,had,hc⟩;obtain⟨e,Db,Dc⟩:=aa7 hE hT (VQ hs) hb;refine de (b_ _ w ?_) (bQ _ _ _ hK h (VR.mkStr _ (by rw[an0];exact dK)));rcases hc with rfl|⟨q,p,u,rfl,hc⟩
  ·rw[hv];have wc:bytesOf 0 f=⟨#[]⟩:=rfl;rw[wc,run_convert_bytes_string w Ts Td e ad 0 c Db Dc (agZ hs)]
   cases ad with
   |none=>simp [Conv.bytesToString];rfl
   |some ad=>
    have hl:=aEu (P:=E.P) w ad [] (fun j v hj=>by simp at hj);have:=run_bytesToString (P:=E.P) w ad 0 c [] (by simpa using hl);rw[this];rfl
  ·rw[hv];exact aor Db Dc (agZ hs) H4 hc
 cases ex:aC st.tm x<;>rw[ex]at hk hx<;>simp only[sU]at hk<;>try exact hk.elim
 case int k z=>
  cases pF:u.d<;>rw[pF]at hk C0<;>simp only at hk<;>try exact hk.elim
  rename_i k'
  cases et:t.d<;>rw[et]at hk tY<;>simp only at hk<;>try exact hk.elim
  refine de (b_ _ w ?_) (bQ _ _ _ hk h (VR.mkInt _ _));rw[VR.int hx];simp [convert,aCU tY,aCU C0,Conv.intToInt]
 case str s=>
  have dK:=VR.Zf hx
  cases et:t.d<;>rw[et]at hk tY<;>simp only at hk<;>try exact hk.elim
  have sl:cT (oK u (vm E t u)) (K (.arr 1 s.size (wZ s)))→o.wp E.P a w next Q:=fun hk=>by
   obtain⟨hb,hK⟩:=aD.1 hk;obtain⟨e,Db,Dc⟩:=aa7 hE hU (fun e aO eb e1=>by simp [vm,e1]) hb;have hr:=run_bytes_of_string (P:=E.P) w Ts Td e s tY Db Dc;generalize pU:grownCap w s.size 0 e=cap at hr;have ox:s.size≤cap:=by
    have:=aDP w s.size 0 e;rw[pU]at this;exact this
   have o8:Below w.heap.size w (w.drew.alloc (.cells (bytesRow s cap) e ((bytesRow s cap).size,(bytesRow s cap).size+1))):=(Below.drew (Below.refl _ w)).alloc (aCK _) _;obtain⟨h1,h2⟩:=h.world o8;rw[←VR.str hx]at hr;refine de (b_ _ _ hr) (bQ _ _ _ hK h1 ?_);have np:FZ S ι st.hp (w.drew.alloc (.cells (bytesRow s cap) e ((bytesRow s cap).size,(bytesRow s cap).size+1))) w.heap.size:=⟨.inr h.below.size,by simp,fun b _ e=>by have:=(h.fresh b _ e).2;omega⟩;have pV: ∀i,i<s.size→(w.drew.alloc (.cells (bytesRow s cap) e ((bytesRow s cap).size,(bytesRow s cap).size+1))).cell? ⟨w.heap.size,0+i*1+0,none⟩=some (.int .u8 ((s.data.toList.getD i 0).toNat:Int)):=fun i hi=>by
    have hob:(w.drew.alloc (.cells (bytesRow s cap) e ((bytesRow s cap).size,(bytesRow s cap).size+1))).heap[w.heap.size]? =some (.cells (bytesRow s cap) e ((bytesRow s cap).size,(bytesRow s cap).size+1)):=aDE w.drew _;rw[aDN _ w.heap.size _ _ e _ hob];have gR:i<s.data.size:=hi;have nm:i<(s.data.map (fun b=>Value.int .u8 b.toNat)).size:=by simpa using gR
    simp only[aCO,Nat.mul_one,aDl];unfold bytesRow;rw[aDt nm];have h3:s.data.toList.getD i 0=s.data[i]:=by simp [List.getD,aDu gR]
    rw[h3,Array.getElem?_map,aDu gR];rfl
   exact aR.arr 1 s.size (wZ s) w.heap.size 0 cap (fun i _=> .int .u8 ((s.data.toList.getD i 0).toNat:Int)) (fun i _=> .int .u8 ((s.data.toList.getD i 0).toNat:Int)) ox dK (fun _=>np)
    (fun i j hi hj=>by have:j=0:=by omega
                       subst this;rfl) (fun i j hi hj=>by
     have:j=0:=by omega
     subst this;exact pV i hi) (fun i j hi hj=> .int _ _)
  cases pF:u.d<;>rw[pF]at hk C0<;>simp only at hk<;>first|exact sl hk|skip
  ·refine de (b_ _ w ?_) (bQ _ _ _ hk h (VR.mkStr _ dK));rw[VR.str hx];simp [convert,aCU tY,aCU C0]
 case aE=>
  obtain⟨hc,hK⟩:=aD.1 hk;simp only[aCN]at hc;have cQ:aR w (FZ S ι st.hp w) .aE (a.eval x):=hx;have hv:a.eval x= .slice none 0 0:=by
   generalize a.eval x=v at cQ
   cases cQ;rfl
  exact core 0 (fun _=>[]) (aCQ _) hc.1 hc.2 (fun i hi=>by omega) hK ⟨none,0,hv,fun _=>rfl,.inl rfl⟩
 case arr sz n f=>
  obtain⟨hc,H4,hK⟩:=aD.1 hk;simp only[aCN]at hc;have dw:sz=1:=aCS hc.2;subst dw;have cQ:aR w (FZ S ι st.hp w) (.arr 1 n f) (a.eval x):=hx;refine core n f ?_ hc.1.1 hc.1.2 H4 hK ?_
  ·generalize a.eval x=v at cQ
   cases cQ<;>first|exact aCQ _|assumption
  ·generalize a.eval x=v at cQ
   cases cQ with
   |nil=>exact⟨none,0,rfl,fun _=>rfl,.inl rfl⟩
   |mt _ _ ad c=>exact⟨_,c,rfl,(fun h=>by cases h),.inl rfl⟩
   |arr _ _ _ b o c g vs hn hb hF g1 g2 g3=>
    refine⟨_,c,rfl,(fun h=>by cases h),.inr ⟨b,o,fun i=>vs i 0,rfl,fun i hi=>⟨?_,?_⟩⟩⟩
    ·have:=g2 i 0 hi (by omega);simpa using this
    ·have h1:=g1 i 0 hi (by omega);have:(f i).getD 0 .undef=g i 0:=by simp [List.getD,h1]
     rw[this];exact g3 i 0 hi (by omega)
 case own b k=>
  cases e:aj st.hp b 0<;>rw[e]at hk<;>simp only at hk
  rename_i ro sz n f;obtain⟨hc,rfl,H4,hK⟩:=aD.1 hk;simp only[aCN]at hc;have dw:sz=1:=aCS hc.2;subst dw;obtain⟨_,iq,fe,n',f',e2,_,h3⟩:=(show CR S ι st.hp w (.own b k) (a.eval x)from hx);rw[e]at e2;cases e2;have hl:=h.hp b 0;rw[e]at hl;rcases hl.2 with hd|⟨dK,hl⟩
  ·cases hd.2.1
  refine core k f dK hc.1.1 hc.1.2 H4 hK ?_;rcases h3 rfl with⟨q,c,C,T',hq,hv,gL,hC,eZ⟩|⟨rfl,_,hv⟩
  ·refine⟨_,c,hv,(fun h=>by cases h),.inr ⟨q,0,fun i=>(C[i]?).getD undef,rfl,fun i hi=> ?_⟩⟩;rcases hl with hl|⟨q',C',T2,dn,iD,eB⟩
   ·rw[hq]at hl;cases hl.2
   ·rw[hq]at dn;cases dn;rw[hC]at iD;cases iD;obtain⟨av,u,g1,g2,g3⟩:=eB i 0 hi (by omega);have g2:C[i]? =some u:=by simpa using g2
    have g4:(C[i]?).getD undef=u:=by rw[g2];rfl
    refine⟨?_,?_⟩
    ·rw[aDN w q _ C T' (0,0) hC,aCO,g2];simp only[g2];rfl
    ·have:(f i).getD 0 .undef=av:=by simp [List.getD,g1]
     rw[this];simp only[g4];exact g3
  ·exact⟨none,0,hv,fun _=>rfl,.inl rfl⟩
theorem axS{o:Oper}{c:Go.Call}{x y:Operand}(ho:o.op= .call c)(hc:c.callee= .builtin .min)(eK:c.args= #[x,y])(h:aP S ι st a w){K:AV→Prop}(hk:Aa (aC st.tm x) (aC st.tm y) K){next:Act→World→Prop}{Q:Exit→Act→World→Prop}
  (bQ: ∀av v,K av→VR S ι st.hp w av v→next (a.put o.dst v) w):o.wp E.P a w next Q:=by
 have hx:=h.eval x;have hy:=h.eval y
 cases ex:aC st.tm x<;>cases ey:aC st.tm y<;>rw[ex,ey]at hk<;>rw[ex]at hx<;>rw[ey]at hy<;>simp only[Aa]at hk<;>try exact hk.elim
 rename_i k p k' q;obtain⟨_,hK⟩:=aD.1 hk;refine de (v:= .int k (bif decide (q<p)then q else p)) (w':=w) ?_ (bQ _ _ hK (VR.mkInt _ _));have:(bif decide (q<p)then q else p)=if q<p then q else p:=by by_cases h:q<p<;>simp [h]
 rw[this];simp [execOp,ho,resolve,hc,eK,invoke,builtin,VR.int hx,VR.int hy,run_min_int2]
theorem axN{o:Oper}{c:Go.Call}{x y:Operand}(ho:o.op= .call c)(hc:c.callee= .builtin .max)(eK:c.args= #[x,y])(h:aP S ι st a w){K:AV→Prop}(hk:z_ (aC st.tm x) (aC st.tm y) K){next:Act→World→Prop}{Q:Exit→Act→World→Prop}
  (bQ: ∀av v,K av→VR S ι st.hp w av v→next (a.put o.dst v) w):o.wp E.P a w next Q:=by
 have hx:=h.eval x;have hy:=h.eval y
 cases ex:aC st.tm x<;>cases ey:aC st.tm y<;>rw[ex,ey]at hk<;>rw[ex]at hx<;>rw[ey]at hy<;>simp only[z_]at hk<;>try exact hk.elim
 rename_i k p k' q;obtain⟨_,hK⟩:=aD.1 hk;refine de (v:= .int k (bif decide (q>p)then q else p)) (w':=w) ?_ (bQ _ _ hK (VR.mkInt _ _));have:(bif decide (q>p)then q else p)=if q>p then q else p:=by by_cases h:q>p<;>simp [h]
 rw[this];simp [execOp,ho,resolve,hc,eK,invoke,builtin,VR.int hx,VR.int hy,run_max_int2]
end
section
variable {E:Env} {S:dF} {ι:Nat→Option Nat} {st:St} {a:Act} {w:World}
theorem aBG{F:Nat→Prop}{c:AV}{v:Value}(hp:OO c=true)(h:lW c v):aR w F c v:=by
 cases c<;>simp only[OO]at hp<;>first|(cases hp;done)|skip
 ·have h:v=_:=h;subst h;exact .int _ _
 ·have h:v=_:=h;subst h;exact .bool _
 ·obtain⟨h,h2⟩:=(show v=_∧_ from h);subst h;exact .str _ (by rw[h2];exact aCQ _)
theorem axI(hE:E.Ok){o:Oper}{T:TypeId}{t:Ty}{l c:Operand}(ho:o.op= .makeSlice T l c)(hT:gF E.P T t)(h:aP S ι st a w){nb:Nat}(fZ: ∀o,aj st.hp nb o= .undef)(qc:ι nb=none){K:AV→Ws→Prop}
  (hk:sa E t st.tm nb l c K) {next:Act→World→Prop} {Q:Exit→Act→World→Prop}
  (bQ: ∀aA av ws v w',K av ws→aP S aA ⟨st.tm,bm st.hp ws⟩ a w'→VR S aA (bm st.hp ws) w' av v→(∀b,aA b≠none→ι b≠none∨ ∃p c,(b,p,c)∈ws)→next (a.put o.dst v) w'):o.wp E.P a w next Q:=by
 have hd:=hT.d;unfold sa at hk
 cases ed:t.d<;>rw[ed]at hk<;>simp only at hk<;>try exact hk.elim
 rename_i e aO eb;rw[ed]at hd;obtain⟨hu,i,eF,gR,nm,pY,Df⟩:=hd
 cases Fg:E.ty e with
 |none=>rw[Fg]at hk;exact hk.elim
 |some te=>
 rw[Fg]at hk;simp only at hk;have hl:=h.eval l;have hc:=h.eval c
 cases el:aC st.tm l<;>rw[el]at hk hl<;>simp only at hk<;>try exact hk.elim
 rename_i kl z
 cases ec:aC st.tm c<;>rw[ec]at hk hc<;>simp only at hk<;>try exact hk.elim
 rename_i kc z';obtain⟨M0,⟨rfl,h0,h1⟩,hK⟩:=aD.1 hk;simp only[aCN]at M0;obtain⟨⟨⟨⟨Wc,hlen⟩,Dd⟩,heb⟩,rN⟩:=M0;have hlen:=aCS hlen;have Dd:=aC1 Dd;have heb:=aC1 heb;have rN:0<aO:=aC1 rN;obtain⟨i',zv,g1,g2,g3,g4,g5⟩:=(hE.ty e te Fg).info;rw[eF]at g1;cases g1;have Hz:(i.bytes:Int)*z≤281474976710656:=by
  have e1:(i.bytes:Int)≤4096:=by omega
  calc (i.bytes:Int)*z≤4096*4096:=Int.mul_le_mul e1 h1 h0 (by omega)
   _≤_:=by omega
 have b_:=run_make (P:=E.P) w T e i zv hu eF g3 kl kc z z h0 (aCT _) Hz (by omega);have rU:te.zero.length=zv.cells.size:=by rw[g5.length];simp
 have jW:zv.cells.size=aO:=by omega
 have o8:Below w.heap.size w (w.alloc (.cells (madeCells zv.cells (z.toNat*i.size)) e)):=(Below.refl _ w).alloc (aCK _) _;obtain⟨k1,k2⟩:=h.I5 o8 (b:=nb) (x:=w.heap.size) (aCK _) (by simp) (f:=fun _=>te.zero) (n:=z.toNat) (sz:=aO) (c:=z.toNat) (by have hB:dg=549755813888:=rfl;omega) (aCK _) (aDE w _) (by rw[size_madeCells,gR])
  (F':=FZ S ι st.hp w) (fun y hy=> .inl hy) (fun p j hp hj=>by
   obtain⟨v,hv,hr⟩:=g5.get j _ (aCP (by omega));refine⟨te.zero[j]'(by omega),v,aCP (by omega),?_,aBG (aCR.1 Wc _ (aDY _)) hr⟩;have cI:p*aO+j<z.toNat*i.size:=by
    have:(p+1)*aO≤z.toNat*aO:=aC2 aO hp;rw[aDb]at this;rw[gR];omega
   have atg:(p*aO+j)%zv.cells.size=j:=by
    rw[jW,Nat.add_comm,Nat.add_mul_mod_self_right,aEx hj]
   have hj2:j<zv.cells.size:=by omega
   have ui:zv.cells[j]? =some v:=by simpa using hv
   simp only[madeCells,Array.getElem?_map,Array.getElem?_range,cI,aDg,aDC];rw[atg,getElem!_pos zv.cells j hj2];rw[aDu hj2]at ui;exact ui) (.inl ⟨fZ,qc⟩)
 refine de (v:= .slice (some ⟨w.heap.size,0,none⟩) z.toNat z.toNat) (w':=w.alloc (.cells (madeCells zv.cells (z.toNat*i.size)) e)) ?_ (bQ _ _ _ _ _ hK k1 k2 fun b hb=>(Ea _ _ _ b hb).imp id fun e=>⟨0,.ah false aO z.toNat fun _=>te.zero,by subst e;simp⟩);have Sx:a.eval l= .int kl z:=hl.int;have ec':a.eval c= .int kc z:=hc.int;simp only[execOp,ho];rw[Sem.run_bind,Sx,ec',b_];rfl
end
theorem mem_iff{l:List Nat}{b:Nat} :mem l b=true↔b∈l:=by
 simp only[mem,List.any_eq_true];constructor
 ·rintro⟨x,hx,h⟩
  rw[aCS h]at hx;exact hx
 ·intro h;exact⟨b,h,by simp⟩
theorem Ao: ∀{l:List Nat} {b:Nat},b∈l→l[pos l b]? =some b
 |[],_,h=>by cases h
 |x::l,b,h=>by
  unfold pos
  cases e:Nat.beq x b with
  |true=>simp [aCS e]
  |false=>
   rcases aDa.1 h with h|h
   ·subst h;simp at e
   ·simpa using Ao h
theorem Ho: ∀{l:List Nat} {i b:Nat},nodup l=true→l[i]? =some b→pos l b=i
 |[],i,b,_,h=>by simp at h
 |x::l,0,b,_,h=>by
  simp at h;subst h;simp [pos]
 |x::l,i+1,b,hn,h=>by
  simp only[nodup,aCN,aC_]at hn;have h:l[i]? =some b:=by simpa using h
  have hb:b∈l:=aCV h;have e:Nat.beq x b=false:=by
   cases e:Nat.beq x b with
   |false=>rfl
   |true=>
    rw[aCS e]at hn;rw[mem_iff.2 hb]at hn;cases hn.1
  simp only[pos,e];rw[Ho hn.2 h]
section
variable {lQ dU:Nat→Option Nat} {H1 H2:Heap} {w:World} {F1 F2:Nat→Prop} {ρ:Nat→Nat} {D:Nat→Bool}
theorem D0{c:AV} :bW (fB ρ c)=bW c:=by cases c<;>rfl
theorem az7{c:AV} :pw (fB ρ c)=pw c:=by cases c<;>rfl
theorem jx.mL(cL: ∀b,D b=true→dU (ρ b)=lQ b)(hH: ∀b o,D b=true→aj H2 (ρ b) o=fB ρ (aj H1 b o))(hF: ∀x,F1 x→F2 x){c:AV}{v:Value}(hd:qO D c=true)(k:jx lQ H1 w F1 c v):jx dU H2 w F2 (aje ρ c) v:=by
 cases c<;>simp only[qO]at hd<;>try (cases hd;done)
 case ptr b o=>
  obtain⟨k1,x,k2,k3⟩:=k;exact⟨by rw[hH _ _ hd,D0];exact k1,x,by rw[cL _ hd];exact k2,k3⟩
 all_goals first|(cases hd;done)|exact aR.mono hF (fun _ _ _=>rfl) k
theorem bV.mL(cL: ∀b,D b=true→dU (ρ b)=lQ b)(hH: ∀b o,D b=true→aj H2 (ρ b) o=fB ρ (aj H1 b o))(hF: ∀x,F1 x→F2 x){c:AV}{v:Value}(hd:nN D c=true)(k:bV lQ H1 w F1 c v):bV dU H2 w F2 (fB ρ c) v:=by
 cases c<;>simp only[nN]at hd
 case undef=>exact k
 case gone=>exact k
 case own b n=>
  obtain⟨k0,ro,sz,n',f,k1,k2,k3⟩:=k;refine⟨k0,ro,sz,n',f,by rw[hH _ _ hd,k1];rfl,k2,fun e=> ?_⟩;rw[cL _ hd];exact k3 e
 case ptr b o=>
  obtain⟨k1,x,k2,k3⟩:=k;exact⟨by rw[hH _ _ hd,D0];exact k1,x,by rw[cL _ hd];exact k2,k3⟩
 case fF b n i o=>
  obtain⟨k0,ro,sz,n',f,k1,k2,k3⟩:=k;refine⟨k0,ro,sz,n',f,by rw[hH _ _ hd,k1];rfl,k2,fun e=> ?_⟩;rw[cL _ hd];exact k3 e
 case fn f bp=>
  obtain⟨vs,rfl,k⟩:=k;refine⟨vs,rfl,aT.mk (by simpa using k.length) fun i p q hp hq=> ?_⟩;simp only[aC4,aDo]at hp;obtain⟨c,hc,rfl⟩:=hp;obtain⟨q',dn,hr⟩:=k.get i c hc;rw[hq]at dn;cases dn;exact jx.mL cL hH hF (aCR.1 hd c (aCV hc)) hr
 case agg=>exact k.elim
 case cU=>exact k.elim
 case ah=>exact k.elim
 all_goals exact aR.mono hF (fun _ _ _=>rfl) k
theorem gm.mL(cL: ∀b,D b=true→dU (ρ b)=lQ b)(hH: ∀b o,D b=true→aj H2 (ρ b) o=fB ρ (aj H1 b o))(hF: ∀x,F1 x→F2 x){c:AV}{v:Value}(hd:xk D c=true)(k:gm lQ H1 w F1 c v):gm dU H2 w F2 (lM ρ c) v:=by
 cases c
 case agg cs=>
  obtain⟨vs,rfl,k⟩:=k;refine⟨vs,rfl,aT.mk (by simpa using k.length) fun i p q hp hq=> ?_⟩;simp only[aC4,aDo]at hp;obtain⟨c,hc,rfl⟩:=hp;obtain⟨q',dn,hr⟩:=k.get i c hc;rw[hq]at dn;cases dn;exact bV.mL cL hH hF (aCR.1 hd c (aCV hc)) hr
 case cU=>cases hd
 case gone=>cases hd
 all_goals
  simp only[gm,xk,lM]at k hd ⊢;exact bV.mL cL hH hF hd k
theorem dZ.mL(cL: ∀b,D b=true→dU (ρ b)=lQ b)(hH: ∀b o,D b=true→aj H2 (ρ b) o=fB ρ (aj H1 b o))(hF: ∀x,F1 x→F2 x){c:AV}{v:Value}(hd:xk D c=true)(k:dZ lQ H1 w F1 c v):dZ dU H2 w F2 (lM ρ c) v:=by
 cases c
 case undef=>trivial
 case cU=>cases hd
 case gone=>cases hd
 case agg cs=>exact gm.mL (c:= .agg cs) cL hH hF hd k
 all_goals
  simp only[dZ]at k;have k:=gm.mL cL hH hF hd k;simp only[lM,fB]at k ⊢;exact k
theorem fc.mL(cL: ∀b,D b=true→dU (ρ b)=lQ b)(hH: ∀b o,D b=true→aj H2 (ρ b) o=fB ρ (aj H1 b o))(hF: ∀x,F1 x→F2 x){b o:Nat}{c:AV}(hb:D b=true)(hd:nN D c=true)(k:fc lQ H1 w F1 b o c):fc dU H2 w F2 (ρ b) o (fB ρ c):=by
 have jl:bW (aj H2 (ρ b) 0)=bW (aj H1 b 0):=by rw[hH _ _ hb,D0]
 cases c
 case undef=>trivial
 case ah ro sz n f=>
  obtain⟨k1,kd|⟨k2,k3⟩⟩:=k
  ·exact⟨k1,.inl ⟨kd.1,kd.2.1,by rw[cL _ hb];exact kd.2.2⟩⟩
  refine⟨k1,.inr ⟨k2,?_⟩⟩;rw[cL _ hb];exact k3.imp id fun⟨x,C,T,g1,g2,g3⟩=>⟨x,C,T,g1,g2,fun i j hi hj=>by
   obtain⟨av,v,m1,m2,m3⟩:=g3 i j hi hj;exact⟨av,v,m1,m2,m3.mono hF fun _ _ _=>rfl⟩⟩
 all_goals
  obtain⟨k0,x,v,k1,k2,k3,k4⟩:=k;have k5:=bV.mL cL hH hF hd k4;exact⟨by rw[jl];exact k0,x,v,by rw[cL _ hb];exact k1,k2,k3,k5⟩
end
theorem ID{H:Heap}{b:Nat}(h:zY (H.getD b [])=true):nD H b∧(∃z zs,H.getD b []=z::zs):=by
 unfold zY at h
 cases e:H.getD b []with
 |nil=>rw[e]at h;cases h
 |cons x r=>
  rw[e]at h;refine⟨?_,x,r,rfl⟩;have h0:aj H b 0=x:=by unfold aj;rw[e];rfl
  cases hx:bW x with
  |true=>
   obtain⟨ro,sz,n,f,rfl⟩:=NV hx;simp only[aCN,aC_]at h;exact .inl ⟨by rw[h0];rfl,by rw[h0];simp [pw,h.1]⟩
  |false=>
   have h':((x::r).all (fun c=> !(bW c))&&(x::r).any pw)=true:=by cases x<;>first|exact h|(cases hx;done)
   simp only[aCN]at h';obtain⟨c,hc,hw⟩:=List.any_eq_true.1 h'.2;obtain⟨o,ho⟩:=aDJ hc;refine .inr ⟨by rw[h0];exact hx,o,?_⟩;unfold aj;rw[e,List.getD,ho];exact hw
theorem ar4{H:Heap}{b:Nat}{z:AV}{zs:List AV}(h:H.getD b []=z::zs):b<H.length:=by
 rcases aCY b H.length with h'|h'
 ·exact h'
 ·simp [List.getD,aCW h']at h
theorem JD{σ:Nat→Nat}{b p:Nat}{c:AV} : ∀(ys:Heap) (i:Nat),(b,p,c)∈sR σ i ys→ ∃j l,ys[j]? =some l∧b=σ (i+j)∧p<l.length∧c=fB σ (l.getD p .undef)
 |[],_,h=>by cases h
 |l::ys,i,h=>by
  simp only[sR,aC5]at h;rcases h with h|h
  ·have key: ∀(cs:List AV) (o:Nat),(b,p,c)∈iy (σ i) cs o→b=σ i∧ ∃q,q<cs.length∧p=o+q∧c=cs.getD q .undef:=by
    intro cs
    induction cs with
    |nil=>intro o h;cases h
    |cons x cs ih=>
     intro o h;rcases aDa.1 h with h|h
     ·cases h;exact⟨rfl,0,by simp,rfl,rfl⟩
     ·obtain⟨h1,q,h2,h3,h4⟩:=ih (o+1) h;exact⟨h1,q+1,by simpa using h2,by omega,by simpa using h4⟩
   obtain⟨h1,q,h2,h3,h4⟩:=key _ _ h;have h2:q<l.length:=by simpa using h2
   refine⟨0,l,rfl,by simpa using h1,by omega,?_⟩;rw[h4,h3,aCO,List.getD,List.getD,aC4,aCP h2];rfl
  ·obtain⟨j,l',h1,h2,h3⟩:=JD ys (i+1) h;exact⟨j+1,l',by simpa using h1,by rw[h2];congr 1;omega,h3⟩
theorem EK{σ:Nat→Nat} : ∀(ys:Heap) (i j p:Nat) (l:List AV),ys[j]? =some l→p<l.length→(σ (i+j),p,fB σ (l.getD p .undef))∈sR σ i ys
 |[],_,_,_,_,h,_=>by simp at h
 |y::ys,i,0,p,l,h,hp=>by
  simp at h;subst h;simp only[sR,aC5];left;have key: ∀(cs:List AV) (o q:Nat),q<cs.length→(σ i,o+q,cs.getD q .undef)∈iy (σ i) cs o:=by
   intro cs
   induction cs with
   |nil=>intro o q h;simp at h
   |cons x cs ih=>
    intro o q h
    cases q with
    |zero=>exact aDa.2 (.inl rfl)
    |succ q=>
     have:=ih (o+1) q (by simpa using h);rw[show o+1+q=o+(q+1) by omega]at this;exact aDa.2 (.inr (by simpa using this))
  have:=key (y.map (fB σ)) 0 p (by simpa using hp);rw[List.getD,aC4,aCP hp]at this;rw[List.getD,aCP hp];simpa using this
 |y::ys,i,j+1,p,l,h,hp=>by
  have:=EK (σ:=σ) ys (i+1) j p l (by simpa using h) hp;rw[show i+1+j=i+(j+1) by omega]at this;exact aC5.2 (.inr this)
section
variable {E:Env} {S:dF} {ι:Nat→Option Nat} {st:St} {a:Act} {w:World}
theorem jx.toC{H:Heap}{F:Nat→Prop}{c:AV}{v:Value}(k:jx ι H w F c v):bV ι H w F c v:=by
 cases c
 case ptr=>exact k
 case fn f bp=>
  have k':aR w F (.fn f bp) v:=k
  cases k' with
  |fn _ _ vs g u hl h1 h2 h3=>
   refine⟨vs,rfl,aT.mk hl.symm fun i p q hp hq=> ?_⟩;have hi:i<bp.length:=(aDc.1 hp).1;have e1:=h1 i hi;have e2:=h2 i hi;rw[hp]at e1;cases e1;rw[hq]at e2;cases e2;have e3:=h3 i hi;generalize g i=x at e3
   cases x<;>first|exact e3|(cases e3;done)
 all_goals
  simp only[jx]at k
  first|exact k|(cases k;done)
def k9(H:Heap)(L:List Nat):Heap:=L.map fun b=>(H.getD b []).map (fB (pos L))
def mh(ι:Nat→Option Nat)(L:List Nat)(i:Nat):Option Nat:=(L[i]?).bind ι
theorem Pn{L:List Nat}{b:Nat}(hb:b∈L):mh ι L (pos L b)=ι b:=by simp [mh,Ao hb]
theorem D7{H:Heap}{L:List Nat}{b:Nat}(hb:b∈L)(o:Nat):aj (k9 H L) (pos L b) o=fB (pos L) (aj H b o):=by
 have e:(k9 H L).getD (pos L b) []=(H.getD b []).map (fB (pos L)):=by
  unfold k9;rw[List.getD,aC4,Ao hb];rfl
 unfold aj;rw[e];generalize H.getD b []=l;rw[List.getD,aC4,List.getD]
 cases l[o]? <;>rfl
theorem aAS{H:Heap}{L:List Nat}{i:Nat}(hi:L.length≤i)(o:Nat):aj (k9 H L) i o= .undef:=ub (by simpa[k9]using hi) o
theorem O9{ρ:Nat→Nat}{H H':Heap}{b b':Nat}(h: ∀o,aj H' b' o=fB ρ (aj H b o))(k:nD H' b'):nD H b:=by
 unfold nD at*
 simpa only[h,D0,az7]using k
theorem asV(hE:E.Ok){o:Oper}{c:Go.Call}{x0:Operand}{f:FuncId}{bp:List AV}(ho:o.op= .call c)(hc:c.callee= .value x0)(WB:aC st.tm x0= .fn f bp)(h:aP S ι st a w){nb:Nat}{Nw:Nat→Prop}(hN0:Nw nb)(hN: ∀b,Nw b→(∀p,aj st.hp b p= .undef)∧ι b=none)
  {K:AV→Ws→Prop} (Ht: ∀av ws,K av ws→ ∀b p c,(b,p,c)∈ws→nb<b→Nw b) (hk:ot E st.hp nb f (c.args.toList.map (aC st.tm)++bp) K) {next:Act→World→Prop} {Q:Exit→Act→World→Prop}
  (bQ: ∀aA av ws v w',K av ws→aP S aA ⟨st.tm,bm st.hp ws⟩ a w'→VR S aA (bm st.hp ws) w' av v→(∀b,aA b≠none→ι b≠none∨ ∃p c,(b,p,c)∈ws)→next (a.put o.dst v) w'):o.wp E.P a w next Q:=by
 have wg:=h.eval x0;rw[WB]at wg;obtain⟨cv,VU,Da⟩:=(show CR S ι st.hp w (.fn f bp) _ from wg);have eK:aT (VR S ι st.hp w) (c.args.toList.map (aC st.tm)++bp) (c.args.toList.map a.eval++cv):=by
  refine aT.append (aT.mk (by simp) fun i x y hx hy=> ?_) (Da.imp fun _ _ k=>dZ.Ai (by
   have k2:=jx.toC k;rename_i p q
   cases p<;>first|exact k2|exact k2.elim|exact(aR.aiu k).elim))
  simp only[aC4,aDo]at hx hy;obtain⟨o1,e1,rfl⟩:=hx;obtain⟨o2,e2,rfl⟩:=hy;rw[e1]at e2;cases e2;exact h.eval o1
 generalize iF:c.args.toList.map a.eval++cv=vs at eK;generalize c.args.toList.map (aC st.tm)++bp=aa at hk eK;unfold ot at hk;generalize dG st.hp aa=L at hk;obtain⟨M3,hk⟩:=aD.1 hk;simp only[aCN]at M3;obtain⟨⟨HQ,HM⟩,as1⟩:=M3;have Dh: ∀b,b∈L→zY (st.hp.getD b [])=true:=fun b hb=>by
  have:=aCR.1 HM b hb;simp only[aCN]at this;exact this.1
 have hdc: ∀b,b∈L→ ∀o,nN (mem L) (aj st.hp b o)=true:=fun b hb o=>by
  have:=aCR.1 HM b hb;simp only[aCN]at this;unfold aj;rw[List.getD]
  cases e:(st.hp.getD b [])[o]? with
  |none=>rfl
  |some x=>exact aCR.1 this.2 x (aCV e)
 have hNL: ∀b,Nw b→b∉L:=fun b hb hm=>by
  have hr:=(ID (Dh b hm)).1;have hu:=(hN b hb).1;rcases hr with⟨g,_⟩|⟨_,o,g⟩<;>rw[hu]at g<;>cases g
 cases hs:E.jU f (aa.map (lM (pos L))) (k9 st.hp L)with
 |none=>rw[show(L.map fun b=>(st.hp.getD b []).map (fB (pos L)))=k9 st.hp L from rfl,hs]at hk;exact hk.elim
 |some q=>
  obtain⟨pre,rs,H'⟩:=q;rw[show(L.map fun b=>(st.hp.getD b []).map (fB (pos L)))=k9 st.hp L from rfl,hs]at hk;obtain⟨hp,hk⟩:=qv.1 hk;obtain⟨agB,hK⟩:=aD.1 hk;simp only[aCN]at agB;obtain⟨⟨⟨_,hlen⟩,as2⟩,as3⟩:=agB;obtain⟨⟨fn,cd,as9,Hy,V5⟩,lH⟩:=hE.jU _ _ _ _ _ _ hs;have lH:=lH hp;let Pd:Nat→Prop:=fun x=> ∃b,b∈L∧ι b=some x;have hPd: ∀x,Pd x→x<w.heap.size:=fun x ⟨b,_,hb⟩=>(h.fresh b x hb).2;let F1:Nat→Prop:=fun x=>FZ S ι st.hp w x∨Pd x;have ats: ∀i x,mh ι L i=some x→ ∃b,b∈L∧pos L b=i∧ι b=some x:=fun i x hi=>by
   unfold mh at hi
   cases e:L[i]? with
   |none=>rw[e]at hi;cases hi
   |some b=>rw[e]at hi;exact⟨b,aCV e,Ho HQ e,hi⟩
  have asK: ∀x,FZ S ι st.hp w x→Fz F1 w.heap.size (mh ι L) (k9 st.hp L) w x:=fun x hx=>⟨.inl (.inl hx),hx.2.1,fun i hi he=>by
   obtain⟨b,hb,rfl,C6⟩:=ats i x he;exact hx.2.2 b (O9 (D7 hb) hi) C6⟩
  let S1:dF:=⟨F1,w,fun x hx=>hx.elim (fun g=>g.2.1) (hPd x),Pd,fun x hx=> .inr hx,mh ι L,k9 st.hp L,Fz F1 w.heap.size (mh ι L) (k9 st.hp L) w,fun b x hb=>by
   unfold mh at hb
   cases e:L[b]? with
   |none=>rw[e]at hb;cases hb
   |some y=>simpa[k9]using(aDc.1 e).1,fun g=>(h.gl g).imp id fun k=>k.mono asK fun _ _ _=>rfl⟩
  have rQ: ∀i x,mh ι L i=some x→ ∃b,b∈L∧pos L b=i∧ι b=some x:=fun i x hi=>by
   unfold mh at hi
   cases e:L[i]? with
   |none=>rw[e]at hi;cases hi
   |some b=>rw[e]at hi;exact⟨b,aCV e,Ho HQ e,hi⟩
  have MS: ∀x,FZ S ι st.hp w x→FZ S1 (mh ι L) (k9 st.hp L) w x:=fun x hx=>⟨.inl (.inl hx),hx.2.1,fun i hi he=>by
   obtain⟨b,hb,rfl,C6⟩:=rQ i x he;exact hx.2.2 b (O9 (D7 hb) hi) C6⟩
  have ag4: ∀b,mem L b=true→mh ι L (pos L b)=ι b:=fun b hb=>Pn (mem_iff.1 hb);have hH1: ∀b o,mem L b=true→aj (k9 st.hp L) (pos L b) o=fB (pos L) (aj st.hp b o):=fun b o hb=>D7 (mem_iff.1 hb) o;have Wm:aP S1 (mh ι L) ⟨aa.map (lM (pos L)),k9 st.hp L⟩ {tmps:=vs.toArray,defers:=[]} w:=by
   refine⟨je.refl _ _ _,rfl,fun t av ht=> ?_,fun i o=> ?_,fun i j x h1 h2=> ?_,fun i x hi=> ?_,fun i x hi=>S1.qO i x hi,dV.refl⟩
   ·simp only[aC4,aDo]at ht;obtain⟨x,hx,rfl⟩:=ht;obtain⟨v,hv,hr⟩:=eK.get t x hx;exact⟨v,by simpa using hv,dZ.mL ag4 hH1 MS (aCR.1 as1 x (aCV hx)) hr⟩
   ·show fc _ _ _ _ i o (aj (k9 st.hp L) i o);rcases aCY i L.length with hi|hi
    ·have hb:L[i]? =some L[i]:=aCP hi;have hm:L[i]∈L:=aCV hb;have e:=Ho HQ hb;have k:=fc.mL (ρ:=pos L) (D:=mem L) ag4 hH1 MS (mem_iff.2 hm) (hdc _ hm o) (h.hp L[i] o);rw[e]at k;have e2:=D7 (H:=st.hp) hm o;rw[e]at e2;rw[e2];exact k
    ·rw[aAS hi];trivial
   ·obtain⟨b1,m1,rfl,k1⟩:=rQ i x h1;obtain⟨b2,m2,rfl,k2⟩:=rQ j x h2;rw[h.inj b1 b2 x k1 k2]
   ·obtain⟨b,m,rfl,k⟩:=rQ i x hi;exact⟨.inr ⟨b,m,k⟩,(h.fresh b x k).2⟩
  have b_:(execOp a.eval o).run E.P w= .ok (.enter f vs.toArray) w:=by
   have V8:fn.name≠ "runtime.NumGoroutine" :=by simpa using V5
   have VC:vs.toArray=c.args.map a.eval++cv.toArray:=by rw[←iF];apply aDr;simp
   rw[VC];simp [execOp,ho,resolve,hc,VU,Deferred.ofValue,invoke,callFunc,as9,Hy,V8]
  unfold Oper.wp;rw[b_];refine(lH S1 (mh ι L) w vs (aCK _) (by simpa using eK.length.symm) Wm).mono fun e w' ⟨us,aA,he,hul,dP⟩=> ?_;subst he;let σ:Nat→Nat:=uS L nb;let ws:Ws:=sR σ 0 H';have zQ: ∀i,L.length≤i→σ i=nb+(i-L.length):=fun i hi=>by simp [σ,uS,List.getD,aCW hi]
  let NB:Nat→Prop:=fun b=>nb≤b∧b<nb+(H'.length-L.length);have yZ: ∀b,NB b→ ∃i,L.length≤i∧i<H'.length∧σ i=b:=fun b hb=>⟨L.length+(b-nb),by omega,by have:=hb.1;have:=hb.2;omega,by rw[zQ _ (by omega)];have:=hb.1;omega⟩;have MR: ∀i,L.length≤i→i<H'.length→NB (σ i):=fun i h1 h2=>by
   rw[zQ i h1];exact⟨by omega,by omega⟩
  let dU:Nat→Option Nat:=fun b=>if mem L b then aA (pos L b)else if nb≤b∧b<nb+(H'.length-L.length)then aA (L.length+(b-nb))else ι b
  have Dy: ∀b,b∈L→dU b=aA (pos L b):=fun b hb=>by simp [dU,mem_iff.2 hb]
  have agN: ∀b,b∉L→mem L b=false:=fun b hb=>by
   cases e:mem L b with
   |false=>rfl
   |true=>exact absurd (mem_iff.1 e) hb
  have uo: ∀b,b∉L→ ¬NB b→dU b=ι b:=fun b hb hn=>by
   simp only[dU,agN b hb];rw[aCM (by simp),aCM hn]
  have NG: ∀(l:List Nat) (ys:Heap),qz l st.hp ys=true→(∀(i b:Nat),l[i]? =some b→ ∃y,ys[i]? =some y∧(st.hp.getD b []).length=y.length)∧l.length≤ys.length∧ ∀(i:Nat) y,l.length≤i→ys[i]? =some y→y≠[]:=by
   intro l
   induction l with
   |nil=>
    intro ys hl;refine⟨fun i b hb=>by simp at hb,aCQ _,fun i y _ hy e=> ?_⟩;unfold qz at hl;have:=aCR.1 hl y (aCV hy);rw[e]at this;cases this
   |cons b l ih=>
    intro ys hl;unfold qz at hl
    cases ys with
    |nil=>cases hl
    |cons y ys=>
     simp only[aCN]at hl;obtain⟨g1,g2,g4⟩:=ih ys hl.2;refine⟨fun i b' hb=> ?_,by simpa using g2,fun i y' hi hy=> ?_⟩
     ·cases i with
      |zero=>simp at hb;subst hb;exact⟨y,rfl,aCS hl.1⟩
      |succ i=>simpa using g1 i b' (by simpa using hb)
     ·cases i with
      |zero=>simp at hi
      |succ i=>exact g4 i y' (by simpa using hi) (by simpa using hy)
  obtain⟨agX,aCj,Wn⟩:=NG L H' hlen;have NQ: ∀b,b∈L→σ (pos L b)=b:=fun b hb=>by simp [σ,uS,List.getD,Ao hb]
  have zP: ∀i,i<L.length→σ i∈L∧pos L (σ i)=i:=fun i hi=>by
   have hb:L[i]? =some L[i]:=aCP hi;have e:σ i=L[i]:=by simp [σ,uS,List.getD,hb]
   rw[e];exact⟨aCV hb,Ho HQ hb⟩
  have hNw: ∀i,L.length≤i→i<H'.length→Nw (σ i):=fun i h1 h2=>by
   by_cases e:i=L.length
   ·rw[zQ i h1,e,Nat.sub_self,aDl];exact hN0
   ·have hy:H'[i]? =some H'[i]:=aCP h2;have hm:=EK (σ:=σ) H' 0 i 0 _ hy (List.length_pos_iff.2 (Wn i _ h1 hy));rw[aCO]at hm;exact Ht _ _ hK _ _ _ hm (by rw[zQ i h1];omega)
  have Vx: ∀b,NB b→Nw b:=fun b hb=>by
   obtain⟨i,h1,h2,rfl⟩:=yZ b hb;exact hNw i h1 h2
  have Vw: ∀b,NB b→b∉L:=fun b hb=>hNL b (Vx b hb);have NO: ∀i,L.length≤i→i<H'.length→dU (σ i)=aA i:=fun i h1 h2=>by
   have hb:=MR i h1 h2;simp only[dU,agN _ (Vw _ hb)];rw[aCM (by simp),aCL hb,zQ i h1]
   congr 1;omega
  have ag5: ∀i j,i<H'.length→j<H'.length→σ i=σ j→i=j:=fun i j hi hj e=>by
   rcases aCY i L.length with eF|eF<;>rcases aCY j L.length with ue|ue
   ·rw[←(zP i eF).2,←(zP j ue).2,e]
   ·exact absurd (by rw[←e];exact(zP i eF).1) (Vw _ (MR j ue hj))
   ·exact absurd (by rw[e];exact(zP j ue).1) (Vw _ (MR i eF hi))
   ·rw[zQ i eF,zQ j ue]at e;omega
  have Na: ∀i o,i<H'.length→aj (bm st.hp ws) (σ i) o=fB σ (aj H' i o):=fun i o hi=>by
   have hy:H'[i]? =some H'[i]:=aCP hi;have hgi:aj H' i o=(H'[i]).getD o .undef:=by simp [aj,List.getD,hy]
   rcases aCY o (H'[i]).length with ho|ho
   ·have hm:=EK (σ:=σ) H' 0 i o _ hy ho;rw[aCO]at hm;obtain⟨c',h1,h2⟩:=Wz ws st.hp (σ i) o _ hm;obtain⟨j,l,g1,g2,g3,g4⟩:=JD H' 0 h1;rw[aCO]at g2;have hj:j<H'.length:=(aDc.1 g1).1;have iY:i=j:=ag5 i j hi hj g2;subst iY;rw[hy]at g1;cases g1;rw[h2,g4,hgi]
   ·have hu:aj H' i o= .undef:=by rw[hgi,List.getD,aCW ho];rfl
    rw[hu];rcases Ie ws st.hp (σ i) o with h1|⟨c',h1,h2⟩
    ·rw[h1];rcases aCY i L.length with eF|eF
     ·have hb:L[i]? =some L[i]:=aCP eF;obtain⟨y,g1,g2⟩:=agX i _ hb;rw[hy]at g1;cases g1;have e:σ i=L[i]:=by simp [σ,uS,List.getD,hb]
      rw[e];unfold aj;rw[List.getD,aCW (by rw[g2];exact ho)];rfl
     ·exact(hN _ (hNw i eF hi)).1 o
    ·obtain⟨j,l,g1,g2,g3,g4⟩:=JD H' 0 h1;rw[aCO]at g2;have hj:j<H'.length:=(aDc.1 g1).1;have iY:i=j:=ag5 i j hi hj g2;subst iY;rw[hy]at g1;cases g1;omega
  have wh: ∀b o,b∉L→ ¬NB b→aj (bm st.hp ws) b o=aj st.hp b o:=fun b o hb hn=>by
   rcases Ie ws st.hp b o with h1|⟨c',h1,h2⟩
   ·exact h1
   ·obtain⟨j,l,g1,g2,g3,g4⟩:=JD H' 0 h1;rw[aCO]at g2;have hj:j<H'.length:=(aDc.1 g1).1;rcases aCY j L.length with ue|ue
    ·exact absurd (by rw[g2];exact(zP j ue).1) hb
    ·exact absurd (by rw[g2];exact MR j ue hj) hn
  have M_: ∀b o,b∈L→aj (bm st.hp ws) b o=fB σ (aj H' (pos L b) o):=fun b o hb=>by
   have hp:=(aDc.1 (Ao hb)).1;have:=Na (pos L b) o (by omega);rwa [NQ b hb]at this
  have aCq: ∀x,FZ S ι st.hp w x→ ¬Pd x:=fun x hx ⟨b,hb,he⟩=>hx.2.2 b (ID (Dh b hb)).1 he;have wa: ∀x,FZ S1 aA H' w' x→FZ S dU (bm st.hp ws) w' x:=fun x hx=>by
   have gS:S.F0 x∨S.w0.heap.size≤x:=by
    rcases hx.1 with(g|⟨b,_,g⟩)|g
    ·exact g.1
    ·exact h.own g
    ·exact .inr (aCX h.below.size g)
   refine⟨gS,hx.2.1,fun b hb he=> ?_⟩
   by_cases dO:b∈L
   ·rw[Dy b dO]at he;exact hx.2.2 _ (O9 (fun o=>M_ b o dO) hb) he
   ·by_cases fP:NB b
    ·obtain⟨i,i1,i2,rfl⟩:=yZ b fP;rw[NO i i1 i2]at he;exact hx.2.2 _ (O9 (fun o=>Na i o i2) hb) he
    ·rw[uo b dO fP]at he;have HF:=oG (H:=st.hp) (fun o=>wh b o dO fP) hb;rcases hx.1 with(g|⟨b',eA,g⟩)|g
     ·exact g.2.2 b HF he
     ·exact dO (by rw[h.inj b b' x he g];exact eA)
     ·have:=(h.fresh b x he).2;have g:w.heap.size≤x:=g;omega
  have Nb:dV (mh ι L) (k9 st.hp L) w (FZ S1 (mh ι L) (k9 st.hp L) w) aA H' w' (FZ S1 aA H' w'):=dP.gK;have zM: ∀b x,b∉L→ι b=some x→w'.heap[x]? =w.heap[x]? :=fun b x hb hx=>dP.below.block x (h.fresh b x hx).2 fun⟨b',eA,g⟩=>hb (by rw[h.inj b b' x hx g];exact eA);have Wq:dV ι st.hp w (FZ S ι st.hp w) dU (bm st.hp ws) w' (FZ S dU (bm st.hp ws) w'):=by
   refine⟨fun x hx=>wa x (Nb.fz x (MS x hx)),fun x o hx=>Nb.cell x o (MS x hx),fun b x hx hb=> ?_,fun b ro sz n f hb=> ?_⟩
   ·by_cases dO:b∈L
    ·obtain⟨g1,g2⟩:=Nb.box (pos L b) x (by rw[Pn dO];exact hx) (by rw[D7 dO,D0];exact hb);exact⟨by rw[Dy b dO];exact g1,by rw[M_ b 0 dO,D0];exact g2⟩
    ·have fP: ¬NB b:=fun e=>by rw[(hN b (Vx b e)).2]at hx;cases hx
     exact⟨by rw[uo b dO fP];exact hx,by rw[wh b 0 dO fP];exact hb⟩
   ·by_cases dO:b∈L
    ·obtain⟨iq,fe,n',f',g1,g2,g3⟩:=Nb.arr (pos L b) ro sz n f (by rw[D7 dO,hb];rfl);refine⟨iq,fe,n',f',by rw[M_ b 0 dO,g1];rfl,g2,fun e=> ?_⟩;obtain⟨k0,k1,k2⟩:=g3 e;rw[Dy b dO,k1,Pn dO];refine⟨k0,rfl,fun x C T hx hC=>k2 x C T (by rw[Pn dO];exact hx) hC⟩
    ·have fP: ¬NB b:=fun e=>by rw[(hN b (Vx b e)).1]at hb;cases hb
     refine⟨ro,_,n,f,by rw[wh b 0 dO fP];exact hb,aCK _,fun _=>⟨rfl,uo b dO fP,fun x C T hx hC=>⟨C,by rw[zM b x dO hx];exact hC,rfl⟩⟩⟩
  have WD: ∀i,qk H'.length i=true→dU (σ i)=aA i:=fun i hi=>by
   have hi:i<H'.length:=aC1 hi;rcases aCY i L.length with eF|eF
   ·rw[Dy _ (zP i eF).1,(zP i eF).2]
   ·exact NO i eF hi
  have Vu: ∀i o,qk H'.length i=true→aj (bm st.hp ws) (σ i) o=fB σ (aj H' i o):=fun i o hi=>Na i o (aC1 hi);have hdH: ∀i o,nN (qk H'.length) (aj H' i o)=true:=fun i o=>by
   unfold aj;rw[List.getD,List.getD]
   cases e:H'[i]? with
   |none=>rfl
   |some l=>
    simp only[aDk]
    cases e2:l[o]? with
    |none=>rfl
    |some x=>exact aCR.1 (aCR.1 as2 l (aCV e)) x (aCV e2)
  have atp:aP S dU ⟨st.tm,bm st.hp ws⟩ a w':=by
   refine⟨h.below.then ⟨dP.below.os,dP.below.tape,dP.below.output,dP.below.size,fun k hk hn=>dP.below.block k (aC0 hk h.below.size) fun⟨b,_,g⟩=> ?_⟩,h.defers,fun t av ht=> ?_,fun b o=> ?_,fun b1 b2 x h1 h2=> ?_,fun b x hx=> ?_,fun b x hx=> ?_,h.gK.trans Wq⟩
   ·rcases(h.fresh b k g).1 with g1|g1
    ·omega
    ·exact hn g1
   ·obtain⟨v,h1,h2⟩:=h.tm t av ht;exact⟨v,h1,h2.step Wq⟩
   ·show fc _ _ _ _ b o (aj (bm st.hp ws) b o)
    by_cases dO:b∈L
    ·have hp:=(aDc.1 (Ao dO)).1;have k:=fc.mL (ρ:=σ) (D:=qk H'.length) WD Vu wa (b:=pos L b) (o:=o) (by simp only[qk,aC9];omega) (hdH _ o) (dP.hp (pos L b) o);rw[NQ b dO]at k;rw[M_ b o dO];exact k
    ·by_cases fP:NB b
     ·obtain⟨i,i1,i2,rfl⟩:=yZ b fP;have k:=fc.mL (ρ:=σ) (D:=qk H'.length) WD Vu wa (b:=i) (o:=o) (by simp only[qk,aC9];omega) (hdH _ o) (dP.hp i o);rw[Na i o i2];exact k
     ·rw[wh b o dO fP];exact(h.hp b o).step Wq (fun _=>uo b dO fP) (fun x hx _=>⟨World.cell?_of_block (zM b x dO hx),World.frozen?_of_block (zM b x dO hx)⟩) (fun _=>⟨uo b dO fP,fun x hx=>zM b x dO hx⟩)
   ·have key: ∀b x,dU b=some x→(∃i,σ i=b∧aA i=some x)∨(b∉L∧ ¬NB b∧ι b=some x):=fun b x hx=>by
     by_cases dO:b∈L
     ·exact .inl ⟨pos L b,NQ b dO,by rw[←Dy b dO];exact hx⟩
     ·by_cases fP:NB b
      ·obtain⟨i,i1,i2,rfl⟩:=yZ b fP;exact .inl ⟨i,rfl,by rw[←NO i i1 i2];exact hx⟩
      ·exact .inr ⟨dO,fP,by rw[←uo b dO fP];exact hx⟩
    have abi: ∀i b x,aA i=some x→b∉L→ι b=some x→False:=fun i b x h1 h2 h3=>by
     rcases(dP.fresh i x h1).1 with g|⟨b',eA,g⟩
     ·have:=(h.fresh b x h3).2;have g:w.heap.size≤x:=g;omega
     ·exact h2 (by rw[h.inj b b' x h3 g];exact eA)
    rcases key b1 x h1 with⟨i,e1,g1⟩|⟨m1,n1,g1⟩<;>rcases key b2 x h2 with⟨j,e2,g2⟩|⟨m2,n2,g2⟩
    ·rw[←e1,←e2,dP.inj i j x g1 g2]
    ·exact(abi i b2 x g1 m2 g2).elim
    ·exact(abi j b1 x g2 m1 g1).elim
    ·exact h.inj b1 b2 x g1 g2
   ·have conv: ∀i,aA i=some x→(S.w0.heap.size≤x∨S.Pd x)∧x<w'.heap.size:=fun i hi=>by
     obtain⟨g1,g2⟩:=dP.fresh i x hi;refine⟨?_,g2⟩;rcases g1 with g1|⟨b',_,g⟩
     ·exact .inl (aCX h.below.size g1)
     ·exact(h.fresh b' x g).1
    by_cases dO:b∈L
    ·exact conv _ (by rw[←Dy b dO];exact hx)
    ·by_cases fP:NB b
     ·obtain⟨i,i1,i2,rfl⟩:=yZ b fP;exact conv i (by rw[←NO i i1 i2];exact hx)
     ·rw[uo b dO fP]at hx;exact⟨(h.fresh b x hx).1,aC0 (h.fresh b x hx).2 dP.below.size⟩
   ·show b<(bm st.hp ws).length
    by_cases dO:b∈L
    ·obtain⟨_,z,zs,hz⟩:=ID (Dh b dO);exact aC0 (ar4 hz) (rS _ _)
    ·by_cases fP:NB b
     ·obtain⟨i,i1,i2,rfl⟩:=yZ b fP;have hy:H'[i]? =some H'[i]:=aCP i2;have hm:=EK (σ:=σ) H' 0 i 0 _ hy (List.length_pos_iff.2 (Wn i _ i1 hy));rw[aCO]at hm;have key: ∀(l:Ws) (H:Heap) b p c,(b,p,c)∈l→b<(bm H l).length:=by
       intro l
       induction l with
       |nil=>intro H b p c h;cases h
       |cons q l ih=>
        intro H b p c h;obtain⟨b1,p1,c1⟩:=q;rcases aDa.1 h with h|h
        ·cases h
         exact aC0 (wE H b p c).2 (rS _ _)
        ·exact ih _ b p c h
      exact key _ _ _ _ _ hm
     ·rw[uo b dO fP]at hx;exact aC0 (h.gH b x hx) (rS _ _)
  have atw:aT (gm dU (bm st.hp ws) w' (FZ S dU (bm st.hp ws) w')) (rs.map (lM σ)) us:=by
   refine aT.mk (by simpa using hul.symm) fun i p q hp hq=> ?_;simp only[aC4,aDo]at hp;obtain⟨r,hr,rfl⟩:=hp;have hc:=aCR.1 as3 r (aCV hr);simp only[aCN]at hc;obtain⟨v,h1,h2⟩:=dP.tm i r hr;have h1:us[i]? =some v:=by simpa using h1
   rw[hq]at h1;cases h1;have rR:gm aA H' w' (FZ S1 aA H' w') r q:=by
    cases r<;>first|exact h2|(cases hc.2;done)
   exact gm.mL WD Vu wa hc.1 rR
  have atv:VR S dU (bm st.hp ws) w' (Pq (rs.map (lM σ))) (pack us):=by
   unfold pack
   match hr:rs.map (lM σ),us,atw with
   |[],[],_=>exact⟨[],rfl,trivial⟩
   |[r],[u],hv=>
    simp only[Pq];have:=hv.1;exact dZ.Ai this
   |r::r'::l,u::u'::us,hv=>
    rw[dif_neg (by simp)];exact⟨_,rfl,hv⟩
  refine bQ dU _ ws (pack us) w' hK atp atv fun b hb=> ?_;have HO: ∀i,i<H'.length→(∃y,H'[i]? =some y∧y≠[])→ ∃p c,(σ i,p,c)∈ws:=fun i _ ⟨y,hy,db⟩=>by
   have:=EK (σ:=σ) H' 0 i 0 y hy (List.length_pos_iff.2 db);rw[aCO]at this;exact⟨0,_,this⟩
  by_cases dO:b∈L
  ·right;obtain⟨y,hy,hl⟩:=agX _ _ (Ao dO);obtain⟨_,z,zs,hz⟩:=ID (Dh b dO);have:=HO (pos L b) (aDc.1 hy).1 ⟨y,hy,fun e=>by rw[hz,e]at hl;simp at hl⟩;rwa [NQ b dO]at this
  ·by_cases fP:NB b
   ·right;obtain⟨i,i1,i2,rfl⟩:=yZ b fP;have hy:H'[i]? =some H'[i]:=aCP i2;exact HO i i2 ⟨_,hy,Wn i _ i1 hy⟩
   ·left;rw[uo b dO fP]at hb;exact hb
end
def dq(E:Env)(T:TypeId)(K:Ty→Prop):Prop:=
 match E.ty T with
 |some t=>K t
 |none=>False
def IB(t:Ty)(x:AV):Bool:=
 match t.d,x with
 | .string,.str _=>true
 | .string,_=>false
 | .slice ..,.str _=>false
 | .slice ..,_=>true
 |_,_=>false
def uI(H:Heap)(x:AV)(K:AV→Prop):Prop:=
 match x with
 | .ptr .. =>K x
 | .ref _=>K x
 | .fF b k _ _=>match aj H b 0 with
   | .ah _ _ n _=>k=n∧K x
   |_=>False
 |_=>False
def zS(ho:FuncId→Bool)(f:FuncId)(aa:List AV):Bool:=
 match agx aa with
 |true=>true
 |false=>ho f
def AT(E:Env)(H:Heap)(nb:Nat)(fv:AV)(args:List AV)(K:AV→Ws→Prop):Prop:=
 match fv with
 | .fn f bp=>match zS E.ho f (args++bp)with
   |true=>ot E H nb f (args++bp) K
   |false=>cT (bp.all nK) (vh E H nb f (args++bp) K)
 |_=>False
def aa1(tm:List AV)(op:Op):Bool:=
 match op with
 | .call c=>match c.callee with
   | .value x=>match aC tm x with
     | .fn _ bp=>agx (c.args.toList.map (aC tm)++bp)
     |_=>false
   | .builtin .append=>match c.args.toList with
     |x::_=>match aC tm x with
      | .own .. =>true
      |_=>false
     |[]=>false
   |_=>false
 |_=>false
def uG(tm:List AV)(H:Heap)(op:Op):Nat:=
 match aa1 tm op with
 |true=>H.length+32
 |false=>H.length
theorem II(tm:List AV)(H:Heap)(op:Op):H.length≤uG tm H op:=by
 unfold uG
 cases aa1 tm op
 ·exact aCK _
 ·exact aDB _ _
def iQ(E:Env)(nb:Nat)(tm:List AV)(H:Heap)(op:Op)(K:AV→Ws→Prop):Prop:=
 match op with
 | .move x=>K (aC tm x) []
 | .assign x=>K (aC tm x) []
 | .pick c x y=>match aC tm c with
   | .bool b=>I4 b (aC tm x) (aC tm y) fun av=>K av []
   | .lit b=>I4 b (aC tm x) (aC tm y) fun av=>K av []
   |_=>False
 | .alloc T=>dq E T fun t=>cT (!t.zero.isEmpty) (K (.ptr nb 0) (iy nb t.zero 0))
 | .box _ x=>cT (oH (aC tm x)&& !(cellsOf (aC tm x)).isEmpty) (K (.ptr nb 0) (iy nb (cellsOf (aC tm x)) 0))
 | .build T ps=>dq E T fun t=>match t.d with
   | .struct dC=>nJ dC tm ps.toList t.zero fun cs=>K (.agg cs) []
   |_=>False
 | .load T x=>dq E T fun t=>oB t H (aC tm x) fun av=>K av []
 | .store T x y=>dq E T fun t=>uV t H (aC tm x) (aC tm y) fun ws=>K .undef ws
 | .nilCheck x=>uI H (aC tm x) fun av=>K av []
 | .binOp op T x y _=>dq E T fun t=>pB t op (eR (aC tm x)) (eR (aC tm y)) fun av=>K av []
 | .unOp op _ x=>Ay op (aC tm x) fun av=>K av []
 | .fieldAddr T x f=>dq E T fun t=>sY t H f (aC tm x) fun av=>K av []
 | .indexAddr T x y=>dq E T fun t=>uq t H (aC tm x) (aC tm y) fun av=>K av []
 | .index T x y=>dq E T fun t=>wv E.ty t (aC tm x) (aC tm y) fun av=>K av []
 | .extract x i=>Bb i (aC tm x) fun av=>K av []
 | .buildSlice T len ps=>dq E T fun t=>qM t tm H nb len ps.toList K
 | .makeSlice T l c=>dq E T fun t=>sa E t tm nb l c K
 | .slice T x l h m=>dq E T fun t=>sA t H tm (aC tm x) l h m K
 | .convert Ts Td x=>dq E Ts fun t=>dq E Td fun u=>sU t u (vm E t u) H (aC tm x) fun av=>K av []
 | .makeFunc fn first captured=>match fn with
   | .func f=>cT (first.toList.isEmpty&&(captured.toList.map (aC tm)).all aa_) (K (.fn f (captured.toList.map (aC tm))) [])
   |_=>False
 | .call c=>match c.callee with
   | .value x=>AT E H nb (aC tm x) (c.args.toList.map (aC tm)) K
   | .builtin b=>match b with
     | .len=>match c.args.toList,c.argTypes.toList with
       |[x],[T]=>dq E T fun t=>cT (IB t (aC tm x)) (qi H (aC tm x) fun av=>K av [])
       |_,_=>False
     | .append=>match c.args.toList,c.argTypes.toList with
       |[x,y],[T,T2]=>dq E T fun t=>dq E T2 fun t2=>cT (t2.d.isStr||t2.d.uu) (oJ t t2.d.isStr H nb (aC tm x) (aC tm y) K)
       |_,_=>False
     | .min=>match c.args.toList with
       |[x,y]=>Aa (aC tm x) (aC tm y) fun av=>K av []
       |_=>False
     | .max=>match c.args.toList with
       |[x,y]=>z_ (aC tm x) (aC tm y) fun av=>K av []
       |_=>False
     |_=>False
   |_=>False
 |_=>False
def rY:Op→Bool
 | .alloc _| .box .. | .buildSlice .. | .makeSlice .. =>true
 | .call c=>match c.callee with
   | .value _=>true
   | .builtin .append=>true
   |_=>false
 |_=>false
section
variable {E:Env} {S:dF} {ι:Nat→Option Nat} {st:St} {a:Act} {w:World}
theorem kG{T:TypeId}{K:Ty→Prop}(hE:E.Ok)(h:dq E T K): ∃t,gF E.P T t∧E.ty T=some t∧K t:=by
 unfold dq at h
 cases e:E.ty T with
 |none=>rw[e]at h;exact h.elim
 |some t=>rw[e]at h;exact⟨t,hE.ty T t e,rfl,h⟩
theorem ayt{o:Oper}{x:Operand}(ho:o.op= .nilCheck x)(h:aP S ι st a w){K:AV→Prop}(hk:uI st.hp (aC st.tm x) K){next:Act→World→Prop}{Q:Exit→Act→World→Prop}
  (bQ: ∀av v,K av→VR S ι st.hp w av v→next (a.put o.dst v) w):o.wp E.P a w next Q:=by
 have hx:=h.eval x;have key: ∀(p:Addr),a.eval x= .pointer (some p)→(execOp a.eval o).run E.P w= .ok (.value (a.eval x)) w:=fun p e=>by simp [execOp,ho,e]
 cases e:aC st.tm x<;>rw[e]at hk hx<;>simp only[uI]at hk<;>try exact hk.elim
 ·obtain⟨_,y,_,hv⟩:=(show CR S ι st.hp w (.ptr _ _) _ from hx);exact de (key _ hv) (bQ _ _ hk hx)
 ·obtain⟨_,ro,sz,n,g,h1,h2,h3⟩:=(show CR S ι st.hp w (.fF _ _ _ _) _ from hx);rw[h1]at hk;simp only at hk;obtain⟨y,hy,hv⟩:=h3 hk.1;exact de (key _ hv) (bQ _ _ hk.2 hx)
 ·rename_i cs;have cQ:aR w (FZ S ι st.hp w) (.ref cs) (a.eval x):=hx;generalize hv:a.eval x=v at cQ
  cases cQ
  exact de (key _ hv) (bQ _ _ hk hx)
theorem aaK(hE:E.Ok){o:Oper}(h:aP S ι st a w){nb:Nat}{Nw:Nat→Prop}(hn:rY o.op=true→Nw nb∧ ∀b,Nw b→(∀p,aj st.hp b p= .undef)∧ι b=none){K:AV→Ws→Prop}(Ht: ∀av ws,K av ws→ ∀b p c,(b,p,c)∈ws→nb<b→Nw b)(hk:iQ E nb st.tm st.hp o.op K){next:Act→World→Prop}{Q:Exit→Act→World→Prop}
  (bQ: ∀aA av ws v w',K av ws→aP S aA ⟨st.tm,bm st.hp ws⟩ a w'→VR S aA (bm st.hp ws) w' av v→(∀b,aA b≠none→ι b≠none∨ ∃p c,(b,p,c)∈ws)→next (a.put o.dst v) w'):o.wp E.P a w next Q:=by
 have quiet: ∀av v,K av []→VR S ι st.hp w av v→next (a.put o.dst v) w:=fun av v hK hv=>bQ ι av [] v w hK h hv fun b hb=> .inl hb
 have hcw: ∀(cs:List AV),cs.isEmpty=false→ ∃p c,(nb,p,c)∈iy nb cs 0:=fun cs hc=>by
  cases cs with
  |nil=>cases hc
  |cons c cs=>exact⟨0,c,by simp [iy]⟩
 cases ho:o.op<;>rw[ho]at hk hn<;>simp only[iQ]at hk<;>try exact hk.elim
 case move x=>exact de (by simp [execOp,ho]) (quiet _ _ hk (h.eval x))
 case assign x=>exact de (by simp [execOp,ho]) (quiet _ _ hk (h.eval x))
 case pick c x y=>
  have hc:=h.eval c
  cases e:aC st.tm c<;>rw[e]at hk hc<;>simp only at hk<;>try exact hk.elim
  ·exact aiW ho hc.bool h hk quiet
  ·exact aiW ho hc.lit h hk quiet
 case alloc T=>
  obtain⟨t,hT,_,hk⟩:=kG hE hk;simp only[aD,aC_]at hk;obtain⟨db,hK⟩:=hk;obtain⟨h1,h2⟩:=(hn rfl).2 nb (hn rfl).1;exact anr ho hT h h1 h2 (by intro e;rw[e]at db;cases db) fun aA w' v hu hs hv=>bQ aA _ _ v w' hK hs hv fun b hb=>(hu b hb).imp id fun e=>by subst e;exact hcw _ db
 case box T x=>
  simp only[aD,aCN,aC_]at hk;obtain⟨⟨h3,db⟩,hK⟩:=hk;obtain⟨h1,h2⟩:=(hn rfl).2 nb (hn rfl).1;exact anQ ho h h1 h2 h3 (by intro e;rw[e]at db;cases db) fun aA w' v hu hs hv=>bQ aA _ _ v w' hK hs hv fun b hb=>(hu b hb).imp id fun e=>by subst e;exact hcw _ db
 case build T ps=>
  obtain⟨t,hT,_,hk⟩:=kG hE hk
  cases ed:t.d<;>rw[ed]at hk<;>simp only at hk<;>try exact hk.elim
  exact anV ho hT ed h hk quiet
 case load T x=>
  obtain⟨t,hT,_,hk⟩:=kG hE hk;exact axs ho hT h hk quiet
 case store T x y=>
  obtain⟨t,hT,_,hk⟩:=kG hE hk;exact aAR ho hT h hk fun ws w' hK hs=>bQ ι _ ws _ w' hK hs trivial fun b hb=> .inl hb
 case nilCheck x=>exact ayt ho h hk quiet
 case binOp op T x y T'=>
  obtain⟨t,hT,_,hk⟩:=kG hE hk;exact anL ho hT h hk quiet
 case unOp op T x=>exact aBf ho h hk quiet
 case fieldAddr T x f=>
  obtain⟨t,hT,_,hk⟩:=kG hE hk;exact apm ho hT h hk quiet
 case indexAddr T x y=>
  obtain⟨t,hT,_,hk⟩:=kG hE hk;exact atL ho hT h hk quiet
 case index T x y=>
  obtain⟨t,hT,_,hk⟩:=kG hE hk;exact atD hE.ty ho hT h hk quiet
 case extract x i=>exact apa ho h hk quiet
 case buildSlice T len ps=>
  obtain⟨t,hT,_,hk⟩:=kG hE hk;obtain⟨h1,h2⟩:=(hn rfl).2 nb (hn rfl).1;exact anU ho hT h h1 h2 hk bQ
 case makeSlice T l c=>
  obtain⟨t,hT,_,hk⟩:=kG hE hk;obtain⟨h1,h2⟩:=(hn rfl).2 nb (hn rfl).1;exact axI hE ho hT h h1 h2 hk bQ
 case slice T x l hh m=>
  obtain⟨t,hT,_,hk⟩:=kG hE hk;exact aAH ho hT h hk fun av ws v hK hs hv=>bQ ι av ws v w hK hs hv fun b hb=> .inl hb
 case convert Ts Td x=>
  obtain⟨t,hT,_,hk⟩:=kG hE hk;obtain⟨u,hU,_,hk⟩:=kG hE hk;exact aos hE ho hT hU h hk fun av v w' hK hs hv=>bQ ι av [] v w' hK hs hv fun b hb=> .inl hb
 case makeFunc fn first captured=>
  cases ef:fn<;>rw[ef]at hk<;>simp only at hk<;>try exact hk.elim
  rename_i f;obtain⟨hc,hK⟩:=aD.1 hk;simp only[aCN]at hc;have HC:first= #[]:=aDr (by simpa using hc.1)
  refine de (v:= .func (.func f) #[] (captured.map a.eval)) (w':=w) (by simp [execOp,ho,ef,HC,Instr.makeFunc]) (quiet _ _ hK ?_);refine⟨captured.toList.map a.eval,by apply congrArg (Value.func (.func f) #[]);apply aDr;simp,?_⟩;refine aT.mk (by simp) fun i p q hp hq=> ?_;simp only[aC4,aDo]at hp hq;obtain⟨x1,e1,rfl⟩:=hp;obtain⟨x2,e2,rfl⟩:=hq;rw[e1]at e2;cases e2;have h7:=aCR.1 hc.2 (aC st.tm x1) (aDx.2 ⟨x1,aCV e1,rfl⟩);have h8:=h.eval x1;generalize aC st.tm x1=c at h7 h8
  cases c<;>first|(cases h7;done)|exact h8
 case call c=>
  cases ec:c.callee with
  |value f=>
   rw[ec]at hk;simp only at hk;have hn:=hn (by simp [rY,ec]);obtain⟨h1,h2⟩:=hn.2 nb hn.1;unfold AT at hk
   cases ef:aC st.tm f<;>rw[ef]at hk<;>simp only at hk<;>try exact hk.elim
   rename_i g bp
   cases ep:zS E.ho g (c.args.toList.map (aC st.tm)++bp)with
   |true=>
    rw[ep]at hk;exact asV hE ho ec ef h hn.1 hn.2 Ht hk bQ
   |false=>
    rw[ep]at hk;obtain⟨C9,hk⟩:=aD.1 hk;exact an5 hE ho ec ef C9 h h1 h2 hk bQ
  |invoke r m=>rw[ec]at hk;exact hk.elim
  |builtin b=>
   rw[ec]at hk
   cases b<;>simp only at hk<;>try exact hk.elim
   case append=>
    have hn:=hn (by simp [rY,ec]);obtain⟨h1,h2⟩:=hn.2 nb hn.1
    split at hk
    ·rename_i x y T T2 ex eT;obtain⟨t,hT,_,hk⟩:=kG hE hk;obtain⟨t2,oo,_,hk⟩:=kG hE hk;obtain⟨hd,hk⟩:=aD.1 hk;refine anC (str:=t2.d.isStr) ho ec (aDr (by simpa using ex)) (aDr (by simpa using eT)) hT ?_ h h1 h2 hk bQ;have VM:=oo.d
     cases e:t2.d<;>rw[e]at hd VM<;>simp only[sL.isStr,sL.uu]at hd ⊢ <;>first|(cases hd;done)|exact VM|exact⟨_,VM.1⟩
    ·exact hk.elim
   case min=>
    split at hk
    ·rename_i x y ex;exact axS ho ec (aDr (by simpa using ex)) h hk quiet
    ·exact hk.elim
   case max=>
    split at hk
    ·rename_i x y ex;exact axN ho ec (aDr (by simpa using ex)) h hk quiet
    ·exact hk.elim
   case len=>
    split at hk
    ·rename_i x T ex eT;obtain⟨t,hT,_,hk⟩:=kG hE hk;obtain⟨hd,hk⟩:=aD.1 hk;refine axj ho ec (aDr (by simpa using ex)) (aDr (by simpa using eT)) hT h ?_ hk ?_ quiet
     ·unfold IB at hd;cases e:t.d<;>rw[e]at hd<;>first|rfl|(cases hd;done)
     ·unfold IB at hd;cases e:t.d<;>cases e2:aC st.tm x<;>rw[e,e2]at hd<;>first|rfl|(cases hd;done)
    ·exact hk.elim
end
def kO(dst:Option Nat)(av:AV)(tm:List AV):List AV:=
 match dst with
 |some d=>tm.set d av
 |none=>tm
def vZ(ops:Array Oper)(o:Oper)(st:St)(run skip:Prop):Prop:=
 match o.guard with
 |none=>run
 |some (j,want)=>match(ops[j]?).bind (·.dst)with
  |some d=>match st.tm.getD d .undef with
   | .lit b=>match b==want with
     |true=>run
     |false=>skip
   | .gone=>skip
   |_=>False
  |none=>False
def Jj:List Oper→Nat→Bool
 |[],_=>false
 |o::r,i=>(match o.guard with
  |some (j,_)=>j==i
  |none=>false)||Jj r i
def AO(E:Env)(ops:Array Oper):List Oper→Nat→St→(St→Prop)→Prop
 |[],_,st,K=>K st
 |o::rest,i,st,K=>vZ ops o st (iQ E (uG st.tm st.hp o.op) st.tm st.hp o.op fun av ws=>DE (Jj rest i) av fun av=>AO E ops rest (i+1) ⟨kO o.dst av st.tm,bm st.hp ws⟩ K)
   (AO E ops rest (i+1) ⟨kO o.dst .gone st.tm,st.hp⟩ K)
section
variable {E:Env} {S:dF} {ι:Nat→Option Nat} {st:St} {a:Act} {w:World}
theorem aP.dst(h:aP S ι st a w)(d:Option Nat){av:AV}{v:Value}(hv:VR S ι st.hp w av v):aP S ι ⟨kO d av st.tm,st.hp⟩ (a.put d v) w:=by
 cases d with
 |none=>exact h
 |some d=>exact h.put d hv
def Jq(av r:AV):Prop:=av=r∨ ∃b,av= .bool b∧r= .lit b
theorem Jq.rel{H:Heap}{av r:AV}{v:Value}(h:Jq av r)(hv:VR S ι H w av v):VR S ι H w r v:=by
 rcases h with rfl|⟨b,rfl,rfl⟩
 ·exact hv
 ·have:aR w (FZ S ι H w) (.bool b) v:=hv
  cases this
  exact aR.lit b
theorem ahZ{used:Bool}{av:AV}{K:AV→Prop}(h:DE used av K): ∃r,Jq av r∧K r:=by
 unfold DE at h
 cases used with
 |false=>exact⟨av,.inl rfl,h⟩
 |true=>
  cases av
  case bool b=>
   cases b
   ·exact⟨_,.inr ⟨false,rfl,rfl⟩,h.2 rfl⟩
   ·exact⟨_,.inr ⟨true,rfl,rfl⟩,h.1 rfl⟩
  all_goals exact⟨_,.inl rfl,h⟩
def sD(ops:Array Oper)(o:Oper)(tm:List AV):Option Bool:=
 match o.guard with
 |none=>some true
 |some (j,want)=>match(ops[j]?).bind (·.dst)with
  |some d=>match tm.getD d .undef with
   | .lit b=>some (b==want)
   | .gone=>some false
   |_=>none
  |none=>none
theorem agw{ops:Array Oper}{o:Oper}{st:St}{run skip:Prop}(hk:vZ ops o st run skip):
  (sD ops o st.tm=some true∧run)∨(sD ops o st.tm=some false∧skip):=by
 unfold vZ at hk;unfold sD
 cases hg:o.guard with
 |none=>rw[hg]at hk;exact .inl ⟨rfl,hk⟩
 |some q=>
  obtain⟨j,want⟩:=q;rw[hg]at hk;simp only at hk ⊢
  cases hd:(ops[j]?).bind (·.dst)with
  |none=>rw[hd]at hk;exact hk.elim
  |some d=>
   rw[hd]at hk;simp only at hk ⊢
   cases hb:st.tm.getD d .undef<;>rw[hb]at hk<;>simp only at hk<;>try exact hk.elim
   ·rename_i b
    cases e:(b==want)with
    |true=>rw[e]at hk;exact .inl ⟨by simp [e],hk⟩
    |false=>rw[e]at hk;exact .inr ⟨by simp [e],hk⟩
   ·exact .inr ⟨rfl,hk⟩
theorem Zz{ops:Array Oper}{o:Oper}(h:aP S ι st a w){b:Bool}(hw:sD ops o st.tm=some b):Region.wanted o (yielded ops a.tmps)=b:=by
 unfold sD at hw;unfold Region.wanted
 cases hg:o.guard with
 |none=>rw[hg]at hw;cases hw;rfl
 |some q=>
  obtain⟨j,want⟩:=q;rw[hg]at hw;simp only at hw ⊢
  cases hd:(ops[j]?).bind (·.dst)with
  |none=>rw[hd]at hw;cases hw
  |some d=>
   rw[hd]at hw;simp only at hw;have get: ∀x,st.tm.getD d .undef=x→x≠ .undef→st.tm[d]? =some x:=fun x hx hn=>by
    cases e:st.tm[d]? with
    |none=>simp [List.getD,e]at hx;exact absurd hx.symm hn
    |some av=>simp [List.getD,e]at hx;rw[hx]
   cases hb:st.tm.getD d .undef<;>rw[hb]at hw<;>simp only at hw<;>try (cases hw;done)
   ·rename_i c;obtain⟨v,h1,h2⟩:=h.tm d _ (get _ hb (by simp));have:=VR.lit h2;subst this;have hy:yielded ops a.tmps j=some c:=by simp [yielded,hd,h1]
    rw[hy];simp only[aC3]at hw;rw[←hw]
    cases c<;>cases want<;>rfl
   ·obtain⟨v,h1,h2⟩:=h.tm d _ (get _ hb (by simp));have h3:v=undef:=h2;subst h3;have hy:yielded ops a.tmps j=none:=by simp [yielded,hd,h1,undef]
    rw[hy]
    cases hw;rfl
theorem RJ(hE:E.Ok){ops:Array Oper}{Q:Exit→Act→World→Prop} : ∀(l:List Oper) (i:Nat) (ι:Nat→Option Nat) (st:St) (a:Act) (w:World) (K:St→Prop),aP S ι st a w→AO E ops l i st K→
  (∀ι st a w,aP S ι st a w→K st→Q .normal a w)→wpList E.P ops Q l a w
 |[],_,ι,st,a,w,K,h,hk,hq=>hq ι st a w h hk
 |o::l,i,ι,st,a,w,K,h,hk,hq=>by
  unfold wpList;rcases agw hk with⟨hw,hr⟩|⟨hw,hr⟩
  ·rw[aCL (Zz h hw)];refine .inl (aaK hE h (Nw:=fun b=>uG st.tm st.hp o.op≤b) (fun _=>⟨aCK _,fun b hb=>⟨fun p=>ub (aCX (II _ _ _) hb) p,h.OA (aCX (II _ _ _) hb)⟩⟩) (fun _ _ _ b _ _ _ hb=>Nat.le_of_lt hb) hr fun aA av ws v w' hK hs hv _=> ?_);obtain⟨r,hl,hK⟩:=ahZ hK;exact RJ hE l (i+1) aA _ _ w' K (aP.dst hs o.dst (hl.rel hv)) hK hq
  ·rw[aCM (by rw[Zz h hw];simp)];exact RJ hE l (i+1) ι _ _ w K (aP.dst h o.dst (av:= .gone) rfl) hr hq
end
end Go.Vc
