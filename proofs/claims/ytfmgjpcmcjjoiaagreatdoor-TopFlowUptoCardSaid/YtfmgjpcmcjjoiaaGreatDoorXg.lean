/- Part of a proof: walks of the program. -/
import Derived.Test.YtfmgjpcmcjjoiaaGreatDoorXf
import Derived.Laws.Cover3
import Derived.Lib.Bytealg
import Derived.Test.YtfmgjpcmcjjoiaaGreatDoorProg
import Derived.Laws.Externs
open Go.IntKind (i64 u64 u8)
open Int (toNat)
set_option maxRecDepth 100000
set_option maxHeartbeats 4000000
set_option linter.all false
noncomputable section
namespace Go.Vc
open Go Go.RowKit
theorem aAn{P:Program}{T e:TypeId}(w:World)(hd:P.underlying T=some (.slice e))(x y:Operand)(a:Option Addr)(l c:Nat):
  (do eqGuard .eql T x y (.slice a l c) (.slice none 0 0);binOp .eql T (.slice a l c) (.slice none 0 0):Sem Value).run P w= .ok (.bool a.isNone) w:=by
 have h:binOp .eql T (.slice a l c) (.slice none 0 0)=(do pure (.bool (←Op.equal T (.slice a l c) (.slice none 0 0)))):=rfl;rw[h];simp [go_sem,run_equal_slice_nil w T e a l c hd]
theorem WP.Fe{E:Env}(hE:E.Ok){rest:Code}{Q:Exit→St→Prop}{st:St}{id:Nat}{o0 o1:Oper}{T T':TypeId}{ty:Ty}{t d0 d1 sz n:Nat}{f:Nat→List AV}
  (hT:E.ty T=some ty) (NG:ty.d.uu=true) (g0:o0.guard=none) (p0:o0.op= .move (.tmp t)) (q0:o0.dst=some d0) (g1:o1.guard=none) (p1:o1.op= .binOp .eql T (.tmp d0) (.const (.slice none 0 0)) T') (q1:o1.dst=some d1)
  (fQ:st.tm[t]? =some (.arr sz n f)) (hl:d0<st.tm.length) (h: ∀q:Bool,(q=true→n=0)→WP E rest Q ⟨(st.tm.set d0 (.arr sz n f)).set d1 (.bool q),st.hp⟩):WP E (.seq (.region id #[o0,o1] false) rest) Q st:=by
 refine WP.seq fun S hS ι a w hs=>wp_region_list ?_;have HZ:=hE.ty T ty hT;have hd:=HZ.d;obtain⟨e,he⟩: ∃e,E.P.underlying T=some (.slice e):=by
  cases ed:ty.d<;>rw[ed]at NG hd<;>first|(cases NG;done)|exact⟨_,hd.1⟩
 obtain⟨v,rR,oz⟩:=hs.tm t _ fQ;have oz:aR w (FZ S ι st.hp w) (.arr sz n f) v:=oz;refine aD2 g0 fun K hK=>de (v:=a.eval (.tmp t)) (w':=w) (by simp [execOp,p0]) (hK _ _ ?_);have Hv:a.eval (.tmp t)=v:=by simp [Act.eval,aEj,rR]
 rw[Hv];have h1:aP S ι ⟨st.tm.set d0 (.arr sz n f),st.hp⟩ (a.put o0.dst v) w:=by rw[q0];exact hs.put d0 oz
 have hsv:(a.put o0.dst v).eval (.tmp d0)=v:=by
  obtain⟨u,oy,NJ⟩:=hs.tm d0 _ (aCP hl);have cI:d0<a.tmps.size:=by
   rcases aCY d0 a.tmps.size with h|h
   ·exact h
   ·simp [aEz h]at oy
  simp [Act.eval,Act.put,q0,aEj,cI]
 obtain⟨ad,c,iF⟩: ∃ad c,v= .slice ad n c:=by
  cases oz with
  |nil=>exact⟨none,0,rfl⟩
  |mt _ _ ad c=>exact⟨_,c,rfl⟩
  |arr _ _ _ b o c=>exact⟨_,c,rfl⟩
 have V9:ad.isNone=true→n=0:=fun hn=>by
  rw[iF]at oz
  cases oz<;>first|rfl|(cases hn;done)
 refine aD2 g1 fun K hK=>de (v:= .bool ad.isNone) (w':=w) ?_ (hK _ _ ?_)
 ·have hr:(execOp (a.put o0.dst v).eval o1).run E.P w=((do eqGuard .eql T (.tmp d0) (.const (.slice none 0 0)) ((a.put o0.dst v).eval (.tmp d0)) (.slice none 0 0);binOp .eql T ((a.put o0.dst v).eval (.tmp d0)) (.slice none 0 0):Sem Value).run E.P w).andThen fun v w=> .ok (.value v) w:=by
   simp only[execOp,p1];rw[Sem.run_bind];rfl
  rw[hr,hsv,iF,aAn w he];rfl
 ·have h2:=h1.put d1 (av:= .bool ad.isNone) (v:= .bool ad.isNone) (aR.bool _);rw[←q1]at h2;exact⟨ι,_,h2,h _ V9⟩
def gM(a b:Int):Int:=bif decide (b<a)then b else a
def imax(a b:Int):Int:=bif decide (b>a)then b else a
theorem NR(a b:Int):a≤imax a b∧b≤imax a b∧(imax a b=a∨imax a b=b):=by
 unfold imax
 by_cases h:b>a
 ·simp [h];omega
 ·simp [h];omega
theorem rX(a b:Int):gM a b≤a∧gM a b≤b∧(gM a b=a∨gM a b=b):=by
 unfold gM
 by_cases h:b<a
 ·simp [h];omega
 ·simp [h];omega
theorem At{H:Heap}{b b' o:Nat}(cs:List AV):aj (setAt [] H b cs) b' o=if b'=b then cs.getD o .undef else aj H b' o:=HD H b cs b' o
theorem WP.apA{E:Env}{x:Code}{Q:Exit→St→Prop}{st:St}(i b:Nat)(cs:List AV)(hi:st.tm[i]? =some (.ptr b 0))(hb:st.hp.getD b []=cs)(hc:cs.all nK=true)
  (hl:wF ⟨st.tm.set i (.ref cs),setAt [] st.hp b []⟩=true) (h:WP E x Q ⟨st.tm.set i (.ref cs),setAt [] st.hp b []⟩) (hm:im E.m ⟨st.tm.set i (.ref cs),setAt [] st.hp b []⟩=true:=by rfl):WP E x Q st:=fun S hS ι a w hs=>by
 simp only[wF,aCN]at hl;let H:Heap:=setAt [] st.hp b [];have tZ: ∀j (hj:j<cs.length),nK cs[j]=true:=fun j hj=>aCR.1 hc _ (aDY hj);have hcu: ∀c,nK c=true→c≠ .undef:=by intro c hc e;rw[e]at hc;cases hc
 have VK: ∀c,nK c=true→bW c=false:=by intro c hc;cases c<;>first|rfl|(cases hc;done)
 have VW: ∀j (hj:j<cs.length),aj st.hp b j=cs[j]:=fun j hj=>by unfold aj;rw[hb];simp [List.getD,hj]
 have yX: ∀o,aj H b o= .undef:=fun o=>by rw[At,aCL rfl];simp
 have asL: ∀b' o,b'≠b→aj H b' o=aj st.hp b' o:=fun b' o hn=>by rw[At,aCM hn]
 have C4:alive H b=false:=by
  unfold alive;rw[pQ,aCL rfl]
 have db: ∀b',alive H b'=true→b'≠b:=fun b' h e=>by rw[e,C4]at h;cases h
 let aA:Nat→Option Nat:=fun b'=>if alive H b' then ι b' else none
 have cL: ∀b',alive H b'=true→aA b'=ι b':=fun b' eA=>aCL eA;have iE: ∀b' y,aA b'=some y→alive H b'=true∧ι b'=some y:=fun b' y eA=>by
  by_cases h:alive H b'=true
  ·exact⟨h,by rw[←cL b' h];exact eA⟩
  ·simp [aA,h]at eA
 have cI: ∀b',alive H b'=true→b'<H.length:=fun b' eA=>by
  rcases aCY b' H.length with h|h
  ·exact h
  ·simp [alive,List.getD,aCW h]at eA
 have Ww: ∀b' o,alive H b'=false→aj H b' o= .undef:=fun b' o h=>by
  unfold alive at h;unfold aj
  cases e:H.getD b' []with
  |nil=>rfl
  |cons z zs=>rw[e]at h;cases h
 have CW: ∀b',alive H b'=true→ ∀o,aj H b' o=aj st.hp b' o:=fun b' eA o=>asL b' o (db b' eA);have hF: ∀y,FZ S ι st.hp w y→FZ S aA H w y:=fun y ⟨h1,h2,h3⟩=>⟨h1,h2,fun b' eA hx=>h3 b' (oG (fun o=>CW b' (iE b' y hx).1 o) eA) (iE b' y hx).2⟩;refine h S hS aA a w ⟨hs.below,hs.defers,fun t av ht=> ?_,fun b' o=> ?_,fun b1 b2 y h1 h2=>hs.inj b1 b2 y (iE _ _ h1).2 (iE _ _ h2).2,fun b' y h=>hs.fresh b' y (iE _ _ h).2,fun b' y h=>cI b' (iE _ _ h).1,hs.gK.cut S.qO (fun b hb=>aCR.1 hm b (aDS.2 (by omega))) cL CW hF⟩
 ·have HJ:Om H av=true:=aCR.1 hl.1 av (aCV ht);rw[aDK]at ht
  by_cases e:i=t
  ·subst e;rw[aCL rfl]at ht
   split at ht
   ·cases ht
    obtain⟨v,g1,g2⟩:=hs.tm i _ hi;obtain⟨_,y,hy,hv⟩:=(show CR S ι st.hp w (.ptr b 0) v from g2);have k5: ∀j (hj:j<cs.length),∃u,w.cell? ⟨y,j,none⟩=some u∧aR w (FZ S aA H w) cs[j] u:=fun j hj=>by
     obtain⟨y',u,k1,k2,_,k4⟩:=(hs.hp b j).box (by rw[VW j hj];exact hcu _ (tZ j hj)) (by rw[VW j hj];exact VK _ (tZ j hj));rw[hy]at k1;cases k1;rw[VW j hj]at k4;refine⟨u,k2,aR.mono hF (fun _ _ _=>rfl) ?_⟩;have hcj:=tZ j hj;generalize cs[j]=c at hcj k4
     cases c<;>first|(cases hcj;done)|exact k4
    have hf:=hs.fresh b y hy;refine⟨v,g1,?_⟩;rw[hv];refine(show aR w (FZ S aA H w) (.ref cs) _ from .ref cs y 0 (fun j=>cs.getD j .undef) (fun j=>(w.cell? ⟨y,0+j,none⟩).getD undef) ⟨hs.own hy,hf.2,fun b' _ he=> ?_⟩ (fun j hj=> ?_) (fun j hj=> ?_) fun j hj=> ?_)
    ·obtain⟨h1,h2⟩:=iE b' y he;exact db b' h1 (hs.inj b' b y h2 hy)
    ·simp [List.getD,hj]
    ·obtain⟨u,k6,_⟩:=k5 j hj;simp [k6]
    ·obtain⟨u,k6,k7⟩:=k5 j hj;simpa[List.getD,hj,k6]using k7
   ·cases ht
  ·rw[aCM e]at ht;obtain⟨v,g1,g2⟩:=hs.tm t av ht;exact⟨v,g1,ah5 cL CW hF HJ g2⟩
 ·show fc aA H w (FZ S aA H w) b' o (aj H b' o)
  cases fG:alive H b' with
  |false=>rw[Ww b' o fG];trivial
  |true=>
   have h2:=hs.hp b' o;have HJ: ∀av,aj H b' o=av→av≠ .undef→DH H av=true:=fun av e Nv=>by
    unfold aj at e
    cases e1:H[b']? with
    |none=>simp [List.getD,e1]at e;exact absurd e.symm Nv
    |some l=>
     simp only[List.getD,e1,aDk]at e
     cases e2:l[o]? with
     |none=>rw[e2]at e;exact absurd e.symm Nv
     |some z=>
      rw[e2]at e;simp only[aDk]at e;subst e;exact aCR.1 (aCR.1 hl.2 l (aCV e1)) z (aCV e2)
   have h0:bW (aj H b' 0)=bW (aj st.hp b' 0):=by rw[CW b' fG 0]
   have h2:fc ι st.hp w (FZ S ι st.hp w) b' o (aj H b' o):=by rw[CW b' fG o];exact h2
   cases e:aj H b' o<;>rw[e]at h2
   case undef=>trivial
   case ah ro sz n f=>
    obtain⟨g1,kd|⟨g2,g3⟩⟩:=h2
    ·exact⟨g1,.inl ⟨kd.1,kd.2.1,by rw[cL b' fG];exact kd.2.2⟩⟩
    refine⟨g1,.inr ⟨g2,?_⟩⟩;rw[cL b' fG];exact g3.imp id fun⟨x,C,T,k1,k2,k3⟩=>⟨x,C,T,k1,k2,fun i j hi hj=>by
     obtain⟨av,v,m1,m2,m3⟩:=k3 i j hi hj;exact⟨av,v,m1,m2,m3.mono hF fun _ _ _=>rfl⟩⟩
   all_goals
    obtain⟨k0,x,v,k1,k2,k3,k4⟩:=h2;exact⟨by rw[h0];exact k0,x,v,by rw[cL b' fG];exact k1,k2,k3,Ol cL CW hF (HJ _ e (by simp)) k4⟩
theorem WP.ao9{E:Env}{rest:Code}{Q:Exit→St→Prop}{st:St}{id:Nat}{o0 o1 o2 o3:Oper}{t0 t1 d0 d1 d2 d3:Nat}{x y:ag}{k:IntKind}{r:Int}
  (g0:o0.guard=none) (p0:o0.op= .move (.tmp t0)) (q0:o0.dst=some d0) (g1:o1.guard=none) (p1:o1.op= .move (.tmp t1)) (q1:o1.dst=some d1) (g2:o2.guard=none) (q2:o2.dst=some d2) (g3:o3.guard=none) (p3:o3.op= .assign (.tmp d2)) (q3:o3.dst=some d3)
  (hx:st.tm[t0]? =some (.str x)) (hy:st.tm[t1]? =some (.str y)) (hn:d0≠t1∧d0≠d1) (hl:d0<st.tm.length∧d1<st.tm.length∧d2<st.tm.length)
  (p2: ∀(ρ:Operand→Value) (w:World),(∀f,ρ (.func f)= .func (.func f) #[] #[])→ρ (.tmp d0)= .string x→ρ (.tmp d1)= .string y→(execOp ρ o2).run E.P w= .ok (.value (.int k r)) w)
  (h:WP E rest Q ⟨(((st.tm.set d0 (.str x)).set d1 (.str y)).set d2 (.int k r)).set d3 (.int k r),st.hp⟩):WP E (.seq (.region id #[o0,o1,o2,o3] false) rest) Q st:=by
 refine WP.seq fun S hS ι a w hs=>wp_region_list ?_;have size: ∀{tm:List AV} {H:Heap} {a:Act} {d:Nat},aP S ι ⟨tm,H⟩ a w→d<tm.length→d<a.tmps.size:=fun {tm H a d} h hd=>by
  obtain⟨u,oy,_⟩:=h.tm d _ (aCP hd);rcases aCY d a.tmps.size with h|h
  ·exact h
  ·simp [aEz h]at oy
 have ev: ∀{tm:List AV} {H:Heap} {a:Act} {t:Nat} {av:AV},aP S ι ⟨tm,H⟩ a w→tm[t]? =some av→VR S ι H w av (a.eval (.tmp t)):=fun {tm H a t av} h ht=>by
  have:=h.eval (.tmp t);simpa[aC,List.getD,ht]using this
 have e0:=ev hs hx;have h1:=hs.put d0 e0;rw[←q0]at h1;refine aD2 g0 fun K hK=>de (v:=a.eval (.tmp t0)) (w':=w) (by simp [execOp,p0]) (hK _ _ ?_);generalize Vz:a.put o0.dst (a.eval (.tmp t0))=a1 at h1 ⊢;have e1:=ev (t:=t1) (av:= .str y) h1 (by rw[aD6 hn.1];exact hy);have h2:=h1.put d1 e1;rw[←q1]at h2;refine aD2 g1 fun K hK=>de (v:=a1.eval (.tmp t1)) (w':=w) (by simp [execOp,p1]) (hK _ _ ?_);generalize ha2:a1.put o1.dst (a1.eval (.tmp t1))=a2 at h2 ⊢;have f0:=VR.str (ev (t:=d0) (av:= .str x) h2 (by rw[aD6 (Ne.symm hn.2),aDK,aCL rfl,aCL (by simpa using hl.1)]));have f1:=VR.str (ev (t:=d1) (av:= .str y) h2 (by rw[aDK,aCL rfl,aCL (by simpa using hl.2.1)]));have h3:=h2.put d2 (av:= .int k r) (v:= .int k r) (aR.int k r);rw[←q2]at h3;refine aD2 g2 fun K hK=>de (v:= .int k r) (w':=w) (p2 _ _ (fun _=>rfl) f0 f1) (hK _ _ ?_);generalize ha3:a2.put o2.dst (Value.int k r)=a3 at h3 ⊢;have e3:=ev (t:=d2) (av:= .int k r) h3 (by rw[aDK,aCL rfl,aCL (by simpa using hl.2.2)]);have h4:=h3.put d3 e3;rw[←q3]at h4;refine aD2 g3 fun K hK=>de (v:=a3.eval (.tmp d2)) (w':=w) (by simp [execOp,p3]) (hK _ _ ?_);exact⟨ι,_,h4,h⟩
theorem WP.It{E:Env}{x y:Code}{Q:Exit→St→Prop}{st:St}(eQ:St)(h:WP E x (iI (fun s=>sH s eQ) Q) st)(k:WP E y Q eQ)(hm:im E.m eQ=true:=by rfl):WP E (.seq x y) Q st:=WP.join eQ h k hm
theorem EI(f g:Nat→List AV)(i:Nat):ix 0 f g i=g i:=by
 have:Nat.blt i 0=false:=by cases i<;>rfl
 simp only[ix,this,aCI,Nat.sub_zero]
def vi(x y:AV):AV:=
 match y with
 | .undef=> .undef
 | .bool _=>match x with
   | .lit b=> .bool b
   |x=>x
 | .arr sz _ g=>match x with
   | .aE=> .arr sz 0 g
   |x=>x
 |_=>x
def A1:List AV→List AV→List AV
 |x::xs,y::ys=>vi x y::A1 xs ys
 |[],_=>[]
 |x::xs,[]=>x::xs
def Sj(x y:AV):AV:=
 match y with
 | .agg ds=>match x with
   | .agg cs=> .agg (A1 cs ds)
   |x=>x
 |y=>vi x y
def xf:List AV→List AV→List AV
 |x::xs,y::ys=>Sj x y::xf xs ys
 |[],_=>[]
 |x::xs,[]=>x::xs
def sV:List AV→List AV→List AV
 |x::xs,y::ys=>(match y with
  | .arr sz _ g=>match x with
    | .aE=> .arr sz 0 g
    |x=>x
  |_=>x)::sV xs ys
 |[],_=>[]
 |x::xs,[]=>x::xs
theorem JM: ∀{xs ys:List AV},sV xs ys=ys→kY xs ys
 |[],[],_=>trivial
 |[],_::_,h=>by simp [sV]at h
 |_::_,[],h=>by simp [sV]at h
 |x::xs,y::ys,h=>by
  simp only[sV,aDm]at h;refine⟨?_,JM h.2⟩;have h1:=h.1
  cases y<;>simp only at h1<;>first|exact .inl h1|skip
  rename_i sz n g
  cases x<;>simp only at h1<;>first|exact .inl h1|skip
  exact .inr ⟨rfl,sz,g,h1.symm⟩
def E6(x y:AV):AV:=
 match y with
 | .ah _ _ _ g=>match x with
   | .ah ro sz n f=> .ah ro sz n fun i=>sV (f i) (g i)
   |x=>x
 | .undef=>match bW x with
   |true=>x
   |false=> .undef
 | .gone=>match x with
   | .undef=> .undef
   | .ah ro sz n f=> .ah ro sz n f
   |_=> .gone
 |y=>vi x y
def A0:List AV→List AV→List AV
 |x::xs,y::ys=>E6 x y::A0 xs ys
 |[],_=>[]
 |x::xs,[]=>match(x::xs).all fun z=> !(bW z)with
  |true=>[]
  |false=>x::xs
def vj:Heap→Heap→Heap
 |[],ys=>match ys.all fun y=>y.isEmpty with
  |true=>ys
  |false=>[]
 |_::_,[]=>[]
 |x::xs,y::ys=>match y with
  |[]=>[]::vj xs ys
  |z::zs=>A0 x (z::zs)::vj xs ys
def JN(s m:St):Option St:=
 match wF m with
 |true=>some ⟨xf s.tm m.tm,vj s.hp m.hp⟩
 |false=>none
theorem JL{x y:AV}(h:vi x y=y):iS x y:=by
 cases y<;>simp only[vi]at h<;>first|trivial|skip
 case bool c=>cases x<;>simp only[AV.bool.injEq,reduceCtorEq]at h<;>exact h
 case arr sz n g=>cases x<;>simp only[AV.arr.injEq,reduceCtorEq]at h<;>first|(obtain⟨_,rfl,_⟩:=h;rfl)|(obtain⟨rfl,rfl,rfl⟩:=h;exact aD.2 ⟨by simp,rfl,fun _ _=>rfl⟩)
 all_goals (subst h;simp [iS,aD])
theorem abv: ∀{xs ys:List AV},A1 xs ys=ys→J5 xs ys
 |[],[],_=>trivial
 |[],_::_,h=>by simp [A1]at h
 |_::_,[],h=>by simp [A1]at h
 |x::xs,y::ys,h=>by
  simp only[A1,aDm]at h;exact⟨JL h.1,abv h.2⟩
theorem aoz{x y:AV}(h:Sj x y=y):xt x y:=by
 cases y<;>simp only[Sj]at h<;>simp only[xt]<;>first|exact JL h|skip
 rename_i ds
 cases x<;>simp only[AV.agg.injEq,reduceCtorEq]at h ⊢ <;>first|exact abv h|exact h.elim
theorem abw: ∀{xs ys:List AV},xf xs ys=ys→pG xs ys
 |[],[],_=>trivial
 |[],_::_,h=>by simp [xf]at h
 |_::_,[],h=>by simp [xf]at h
 |x::xs,y::ys,h=>by
  simp only[xf,aDm]at h;have h2:=abw h.2;have h1:=aoz h.1
  cases y<;>first|exact h2|exact⟨h1,h2⟩
theorem aoA{x y:AV}(h:E6 x y=y):iA x y:=by
 cases y
 case undef=>
  simp only[E6]at h;simp only[iA]
  cases e:bW x with
  |false=>rfl
  |true=>rw[e]at h;simp only at h;subst h;cases e
 case ah ro sz n f=>
  cases x<;>simp only[E6,AV.ah.injEq,reduceCtorEq]at h<;>first|exact h.elim|skip
  obtain⟨rfl,rfl,rfl,h⟩:=h;simp only[iA,aD,aDO,Bool.and_self,true_and];exact fun i _=>JM (congrFun h i)
 case bool c=>
  have h1:vi x (.bool c)= .bool c:=h;have h2:=JL h1
  cases x<;>simp only[iS]at h2<;>first|exact h2.elim|(simp only[iA,iS,bW,aD];exact⟨rfl,h2⟩)
 case arr sz n f=>
  have h1:vi x (.arr sz n f)= .arr sz n f:=h;have h2:=JL h1
  cases x<;>first|exact(show False from h2).elim|exact(aD (b:=true)).2 ⟨rfl,h2⟩
 case gone=>cases x<;>first|trivial|(cases h;done)
 all_goals
  simp only[E6,vi]at h;subst h;simp [iA,iS,bW,aD]
theorem abu: ∀{xs ys:List AV},A0 xs ys=ys→sW xs ys
 |[],[],_=>by simp [sW,aD]
 |[],_::_,h=>by simp [A0]at h
 |x::xs,[],h=>by
  simp only[A0]at h;simp only[sW,aD,and_true]
  cases e:(x::xs).all fun z=> !(bW z)with
  |true=>rfl
  |false=>rw[e]at h;cases h
 |x::xs,y::ys,h=>by
  simp only[A0,aDm]at h;exact⟨aoA h.1,abu h.2⟩
theorem Sm: ∀{xs ys:Heap},vj xs ys=ys→Be xs ys
 |[],ys,h=>by
  simp only[vj]at h;simp only[Be,aD,and_true]
  cases e:ys.all fun y=>y.isEmpty with
  |true=>rfl
  |false=>
   rw[e]at h;simp only at h;subst h;cases e
 |_::_,[],_=>trivial
 |x::xs,[]::ys,h=>by
  simp only[vj,aDm]at h;exact Sm (xs:=xs) h.2
 |x::xs,(z::zs)::ys,h=>by
  simp only[vj,aDm]at h;exact⟨abu h.1,Sm h.2⟩
theorem DD{s m:St}(h:JN s m=some m):sH s m:=by
 unfold JN at h
 cases e:wF m with
 |false=>rw[e]at h;cases h
 |true=>
  rw[e]at h;simp only[aC3]at h;have h1:xf s.tm m.tm=m.tm:=congrArg St.tm h;have h2:vj s.hp m.hp=m.hp:=congrArg St.hp h;exact⟨abw h1,Sm h2,e⟩
def us(n:Nat)(l:List AV):List AV:=Nat.rec (motive:=fun _=>List AV) l (fun _ r=> .undef::r) n
def Canon{α:Type}[Inhabited α](s:Sl α):Prop:= ∀i,s.n≤i→s.at' i=default
section
variable {α β:Type} [Inhabited α] [Inhabited β]
theorem anO{a b:Nat}(h:a<b):Nat.blt a b=true:=by rw[aC9];exact h
theorem anN{a b:Nat}(h:b≤a):Nat.blt a b=false:=by
 cases e:Nat.blt a b with
 |false=>rfl
 |true=>exact absurd (aC1 e) (by omega)
def scan(bad:Int→Bool)(c:Int→β):Nat→Int→Bool×β
 |0,_=>(false,default)
 |m+1,i=>bif bad i then(true,c i)else scan bad c m (i+1)
theorem ajC(F:Nat→Int→Bool×β)(n:Nat)(bad:Int→Bool)(c:Int→β)(hn:n≤549755813888)(hF: ∀k i,F (k+1) i=bif decide (i<(n:Int))then(bif bad i then(true,c i)else F k (i64.wrap (i+1)))else(false,default)):
  ∀(m k:Nat) (i:Int),0≤i→i+(m:Int)=n→m≤k→F (k+1) i=scan bad c m i
 |0,k,i,h0,hi,hk=>by
  rw[hF,show decide (i<(n:Int))=false by simp;omega];rfl
 |m+1,k,i,h0,hi,hk=>by
  obtain⟨k,rfl⟩: ∃k',k=k'+1:=⟨k-1,by omega⟩;rw[hF,show decide (i<(n:Int))=true by simp;omega];simp only[aCJ];rw[aq _,ajC F n bad c hn hF m k (i+1) (by omega) (by omega) (by omega)];rfl
theorem qA(F:Nat→Int→Bool×β)(n:Nat)(bad:Int→Bool)(c:Int→β)(hn:n≤549755813888)(hF: ∀k i,F (k+1) i=bif decide (i<(n:Int))then(bif bad i then(true,c i)else F k (i64.wrap (i+1)))else(false,default)):
  F (toNat ((n:Int)-0)+1) 0=scan bad c n 0:=ajC F n bad c hn hF n _ 0 (aCT _) (by omega) (by omega)
theorem ajD{bad:Int→Bool}{c:Int→β} : ∀(m:Nat) (i:Int),(∀j,i≤j→j<i+m→bad j=false)→scan bad c m i=(false,default)
 |0,_,_=>rfl
 |m+1,i,h=>by
  simp only[scan];rw[h i (aCT _) (by omega)];exact ajD m (i+1) fun j h1 h2=>h j (by omega) (by omega)
theorem Pf{bad:Int→Bool}{c:Int→β} : ∀(m:Nat) (i:Int),(scan bad c m i).1=true→ ∃j,i≤j∧j<i+m∧bad j=true∧(scan bad c m i).2=c j
 |0,_,h=>by cases h
 |m+1,i,h=>by
  simp only[scan]at h ⊢
  cases hb:bad i with
  |true=>exact⟨i,aCT _,by omega,hb,rfl⟩
  |false=>
   rw[hb]at h;obtain⟨j,h1,h2,h3,h4⟩:=Pf m (i+1) h;exact⟨j,by omega,by omega,h3,h4⟩
end
theorem AB{x:Int}(h:(Lit.int .i64 x).wf=true): -9223372036854775808≤x∧x≤9223372036854775807:=by
 simp only[Lit.wf,aCN,aDd]at h;exact h
def ku(bad:Int→Bool):Nat→Int→Bool
 |0,_=>false
 |m+1,i=>bad i||ku bad m (i+1)
section
variable {β:Type} [Inhabited β]
theorem YZ(bad:Int→Bool)(c:Int→β): ∀m i,(scan bad c m i).1=ku bad m i
 |0,_=>rfl
 |m+1,i=>by
  simp only[scan,ku]
  cases bad i
  ·simpa using YZ bad c m (i+1)
  ·rfl
theorem aAv(bad:Int→Bool)(c:β)(m:Nat)(i:Int):scan bad (fun _=>c) m i=(ku bad m i,bif ku bad m i then c else default):=by
 have h1:=YZ bad (fun _=>c) m i
 cases h:ku bad m i with
 |false=>
  rw[h]at h1;have h2: ∀m i,ku bad m i=false→scan bad (fun _=>c) m i=(false,default):=by
   intro m
   induction m with
   |zero=>intro i _;rfl
   |succ m ih=>
    intro i hh;simp only[ku,aD7]at hh;simp only[scan,hh.1,aCI];exact ih (i+1) hh.2
  exact h2 m i h
 |true=>
  rw[h]at h1;obtain⟨j,_,_,_,h4⟩:=Pf m i h1;exact Prod.ext h1 h4
end
theorem Ih(bad:Int→Bool)(m:Nat)(r:Bool×Int)(h:r=scan bad (fun i=>i) m 0):decide ((bif(bif r.1 then false else true)then(-1)else r.2)≥0)=ku bad m 0:=by
 subst h;have h1:=YZ bad (fun i=>i) m 0;rw[←h1];rcases Bool.eq_false_or_eq_true (scan bad (fun i=>i) m 0).1 with h|h
 ·obtain⟨j,g1,g2,_,g4⟩:=Pf m 0 h;have h4:0≤(scan bad (fun i=>i) m 0).2:=by rw[g4];exact g1
  simp [h,h4]
 ·simp [h]
end Go.Vc
namespace Go.Proofs.YtfmgjpcmcjjoiaaGreatDoor
open Go Go.Vc
def ir:List (Nat×Ty):=[
 (3,{size:=1,d:= .int .i64,zero:=[ae 0]}),
 (4,{size:=1,d:= .bool,zero:=[.bool false]}),
 (5,{size:=1,d:= .int .u8,zero:=[.int .u8 0]}),
 (9,{size:=1,d:= .string,zero:=[.str ⟨#[]⟩]}),
 (22,{size:=1,d:= .slice 73 8 72,zero:=[.aE]}),
 (23,{size:=1,d:= .slice 51 11 136,zero:=[.aE]}),
 (24,{size:=1,d:= .slice 101 12 144,zero:=[.aE]}),
 (25,{size:=1,d:= .slice 105 2 16,zero:=[.aE]}),
 (27,{size:=4,d:= .struct [(0,1),(1,1),(2,1),(3,1)],zero:=[.aE,.aE,.aE,ae 0]}),
 (30,{size:=1,d:= .slice 38 10 104,zero:=[.aE]}),
 (34,{size:=5,d:= .struct [(0,1),(1,1),(2,1),(3,1),(4,1)],zero:=[ae 0,.str ⟨#[]⟩,.str ⟨#[]⟩,.str ⟨#[]⟩,ae 0],cmp:=true}),
 (36,{size:=7,d:= .struct [(0,1),(1,1),(2,5)],zero:=[ae 0,ae 0,ae 0,.str ⟨#[]⟩,.str ⟨#[]⟩,.str ⟨#[]⟩,ae 0],cmp:=true}),
 (38,{size:=10,d:= .struct [(0,1),(1,1),(2,1),(3,7)],zero:=[ae 0,ae 0,ae 0,ae 0,ae 0,ae 0,.str ⟨#[]⟩,.str ⟨#[]⟩,.str ⟨#[]⟩,ae 0],cmp:=true}),
 (41,{size:=1,d:= .slice 53 10 104,zero:=[.aE]}),
 (43,{size:=3,d:= .struct [(0,1),(1,1),(2,1)],zero:=[ae 0,ae 0,.aE]}),
 (44,{size:=1,d:= .slice 127 8 128,zero:=[.aE]}),
 (46,{size:=2,d:= .struct [(0,1),(1,1)],zero:=[ae 0,.aE]}),
 (47,{size:=1,d:= .slice 135 7 80,zero:=[.aE]}),
 (49,{size:=4,d:= .struct [(0,2),(2,1),(3,1)],zero:=[ae 0,.aE,ae 0,.aE]}),
 (51,{size:=11,d:= .struct [(0,1),(1,1),(2,1),(3,1),(4,3),(7,4)],zero:=[.bool false,ae 0,.bool false,ae 0,ae 0,ae 0,.aE,ae 0,.aE,ae 0,.aE]}),
 (53,{size:=10,d:= .struct [(0,1),(1,1),(2,1),(3,7)],zero:=[ae 0,ae 0,.bool false,ae 0,ae 0,ae 0,.str ⟨#[]⟩,.str ⟨#[]⟩,.str ⟨#[]⟩,ae 0],cmp:=true}),
 (56,{size:=1,d:= .int .i64,zero:=[ae 0]}),
 (71,{size:=5,d:= .struct [(0,1),(1,1),(2,1),(3,1),(4,1)],zero:=[ae 0,ae 0,ae 0,ae 0,.str ⟨#[]⟩]}),
 (73,{size:=8,d:= .struct [(0,1),(1,1),(2,1),(3,5)],zero:=[ae 0,ae 0,ae 0,ae 0,ae 0,ae 0,ae 0,.str ⟨#[]⟩]}),
 (77,{size:=1,d:= .pointer 91,zero:=[.jX]}),
 (79,{size:=6,d:= .struct [(0,1),(1,1),(2,4)],zero:=[ae 0,ae 0,ae 0,.aE,ae 0,.aE]}),
 (80,{size:=3,d:= .array 3 4 1,zero:=[.bool false,.bool false,.bool false]}),
 (81,{size:=3,d:= .array 3 3 1,zero:=[ae 0,ae 0,ae 0]}),
 (82,{size:=1,d:= .slice 147 9 96,zero:=[.aE]}),
 (83,{size:=1,d:= .slice 5 1 1,zero:=[.aE]}),
 (85,{size:=2,d:= .struct [(0,1),(1,1)],zero:=[.aE,ae 0]}),
 (86,{size:=1,d:= .slice 117 15 168,zero:=[.aE]}),
 (88,{size:=33,d:= .struct [(0,1),(1,1),(2,1),(3,1),(4,1),(5,1),(6,3),(9,6),(15,4),(19,1),(20,3),(23,3),(26,3),(29,1),(30,2),(32,1)],zero:=[ae 0,.bool false,ae 0,ae 0,ae 0,ae 0,ae 0,ae 0,.aE,ae 0,ae 0,ae 0,.aE,ae 0,.aE,ae 0,.aE,ae 0,.aE,ae 0,.bool false,.bool false,.bool false,ae 0,ae 0,ae 0,ae 0,ae 0,ae 0,.aE,.aE,ae 0,.aE]}),
 (89,{size:=99,d:= .array 3 88 33,zero:=[ae 0,.bool false,ae 0,ae 0,ae 0,ae 0,ae 0,ae 0,.aE,ae 0,ae 0,ae 0,.aE,ae 0,.aE,ae 0,.aE,ae 0,.aE,ae 0,.bool false,.bool false,.bool false,ae 0,ae 0,ae 0,ae 0,ae 0,ae 0,.aE,.aE,ae 0,.aE,ae 0,.bool false,ae 0,ae 0,ae 0,ae 0,ae 0,ae 0,.aE,ae 0,ae 0,ae 0,.aE,ae 0,.aE,ae 0,.aE,ae 0,.aE,ae 0,.bool false,.bool false,.bool false,ae 0,ae 0,ae 0,ae 0,ae 0,ae 0,.aE,.aE,ae 0,.aE,ae 0,.bool false,ae 0,ae 0,ae 0,ae 0,ae 0,ae 0,.aE,ae 0,ae 0,ae 0,.aE,ae 0,.aE,ae 0,.aE,ae 0,.aE,ae 0,.bool false,.bool false,.bool false,ae 0,ae 0,ae 0,ae 0,ae 0,ae 0,.aE,.aE,ae 0,.aE]}),
 (91,{size:=102,d:= .struct [(0,99),(99,1),(100,1),(101,1)],zero:=[ae 0,.bool false,ae 0,ae 0,ae 0,ae 0,ae 0,ae 0,.aE,ae 0,ae 0,ae 0,.aE,ae 0,.aE,ae 0,.aE,ae 0,.aE,ae 0,.bool false,.bool false,.bool false,ae 0,ae 0,ae 0,ae 0,ae 0,ae 0,.aE,.aE,ae 0,.aE,ae 0,.bool false,ae 0,ae 0,ae 0,ae 0,ae 0,ae 0,.aE,ae 0,ae 0,ae 0,.aE,ae 0,.aE,ae 0,.aE,ae 0,.aE,ae 0,.bool false,.bool false,.bool false,ae 0,ae 0,ae 0,ae 0,ae 0,ae 0,.aE,.aE,ae 0,.aE,ae 0,.bool false,ae 0,ae 0,ae 0,ae 0,ae 0,ae 0,.aE,ae 0,ae 0,ae 0,.aE,ae 0,.aE,ae 0,.aE,ae 0,.aE,ae 0,.bool false,.bool false,.bool false,ae 0,ae 0,ae 0,ae 0,ae 0,ae 0,.aE,.aE,ae 0,.aE,.aE,.aE,.aE]}),
 (94,{size:=11,d:= .struct [(0,1),(1,1),(2,6),(8,3)],zero:=[ae 0,ae 0,ae 0,ae 0,ae 0,.aE,ae 0,.aE,ae 0,ae 0,.aE]}),
 (97,{size:=1,d:= .slice 9 1 16,zero:=[.aE]}),
 (99,{size:=4,d:= .struct [(0,1),(1,1),(2,1),(3,1)],zero:=[ae 0,.str ⟨#[]⟩,ae 0,.aE]}),
 (101,{size:=12,d:= .struct [(0,1),(1,7),(8,4)],zero:=[ae 0,ae 0,ae 0,ae 0,.str ⟨#[]⟩,.str ⟨#[]⟩,.str ⟨#[]⟩,ae 0,ae 0,.str ⟨#[]⟩,ae 0,.aE]}),
 (105,{size:=2,d:= .struct [(0,1),(1,1)],zero:=[ae 0,ae 0]}),
 (106,{size:=1,d:= .other,zero:=[.undef]}),
 (114,{size:=1,d:= .pointer 88,zero:=[.jX]}),
 (117,{size:=15,d:= .struct [(0,1),(1,1),(2,1),(3,1),(4,1),(5,1),(6,1),(7,1),(8,1),(9,6)],zero:=[ae 0,ae 0,ae 0,ae 0,ae 0,ae 0,.bool false,ae 0,.aE,ae 0,ae 0,ae 0,.aE,ae 0,.aE]}),
 (122,{size:=1,d:= .slice 130 2 32,zero:=[.aE]}),
 (123,{size:=1,d:= .slice 133 2 24,zero:=[.aE]}),
 (125,{size:=6,d:= .struct [(0,1),(1,1),(2,1),(3,1),(4,1),(5,1)],zero:=[ae 0,.str ⟨#[]⟩,ae 0,.aE,.aE,.aE]}),
 (127,{size:=8,d:= .struct [(0,1),(1,6),(7,1)],zero:=[.str ⟨#[]⟩,ae 0,.str ⟨#[]⟩,ae 0,.aE,.aE,.aE,ae 0]}),
 (130,{size:=2,d:= .struct [(0,1),(1,1)],zero:=[.str ⟨#[]⟩,.str ⟨#[]⟩],cmp:=true}),
 (133,{size:=2,d:= .struct [(0,1),(1,1)],zero:=[.str ⟨#[]⟩,ae 0],cmp:=true}),
 (135,{size:=7,d:= .struct [(0,1),(1,1),(2,1),(3,4)],zero:=[ae 0,ae 0,ae 0,ae 0,.str ⟨#[]⟩,ae 0,.aE]}),
 (147,{size:=9,d:= .struct [(0,1),(1,1),(2,7)],zero:=[ae 0,ae 0,ae 0,ae 0,ae 0,.str ⟨#[]⟩,.str ⟨#[]⟩,.str ⟨#[]⟩,ae 0]}),
 (166,{size:=20,d:= .struct [(0,1),(1,1),(2,1),(3,1),(4,10),(14,6)],zero:=[ae 0,ae 0,ae 0,ae 0,ae 0,ae 0,.bool false,ae 0,ae 0,ae 0,.str ⟨#[]⟩,.str ⟨#[]⟩,.str ⟨#[]⟩,ae 0,ae 0,ae 0,ae 0,.aE,ae 0,.aE]}),
 (181,{size:=1,d:= .slice 166 20 216,zero:=[.aE]}),
 (187,{size:=1,d:= .int .u64,zero:=[.int .u64 0]}),
 (213,{size:=1,d:= .pointer 49,zero:=[.jX]}),
 (224,{size:=1,d:= .struct [(0,1)],zero:=[.aE]}),
 (228,{size:=1,d:= .pointer 230,zero:=[.jX]}),
 (230,{size:=2,d:= .struct [(0,1),(1,1)],zero:=[.aE,.bool false]}),
 (237,{size:=1,d:= .slice 83 1 24,zero:=[.aE]}),
 (241,{size:=1,d:= .pointer 244,zero:=[.jX]}),
 (244,{size:=4,d:= .struct [(0,2),(2,1),(3,1)],zero:=[ae 0,.aE,ae 0,.bool false]}),
 (250,{size:=1,d:= .int .u64,zero:=[.int .u64 0]}),
 (293,{size:=1,d:= .slice 3 1 8,zero:=[.aE]})
]
theorem Zj:(ir.all fun x=>D_ Tryz.prog x.1 x.2)=true:=by kernel_rfl
theorem R6:(ir.all fun x=>JI Tryz.prog x)=true:=by kernel_rfl
theorem mixed:Tryz.prog.follows .mixedOrders=true:=by kernel_rfl
def aia(m:Nat)(l:List (Nat×u9))(hl:List (Nat×AH)):Env:=⟨Tryz.prog,Ax ir,Ja l,m,HX hl,fun _=>false⟩
theorem axT{m:Nat}{l:List (Nat×u9)}{hl:List (Nat×AH)}(h:Js Tryz.prog l)(h2:Qv Tryz.prog hl):(aia m l hl).Ok:=abL mixed Zj R6 (Zb h) (Wo h2)
def Ac(l:List (Nat×u9)):Env:=aia 0 l []
theorem gZ{l:List (Nat×u9)}(h:Js Tryz.prog l):(Ac l).Ok:=axT h trivial
abbrev U:AV:= .undef
section
def cf:AV→Int
 | .int _ n=>n
 |_=>0
def Jd:AV→Bool
 | .bool b=>b
 |_=>false
def iJ:AV→ag
 | .str s=>s
 |_=>⟨#[]⟩
variable(l:List AV)(x:Int)
def e3:List AV:=[ae x]
def d3:Int:=cf (l.getD 0 .undef)
theorem ed3(x:Int):d3 (e3 x)=x:=rfl
structure bk where
 c0:ag
 c1:ag
instance:Inhabited bk:=⟨⟨default,default⟩⟩
def fM(x:bk):List AV:=[.str x.c0,.str x.c1]
def d160:bk:=⟨iJ (l.getD 0 .undef),iJ (l.getD 1 .undef)⟩
theorem aoO(x:bk):d160 (fM x)=x:=rfl
def e9(x:ag):List AV:=[.str x]
def d9:ag:=iJ (l.getD 0 .undef)
theorem ed9(x:ag):d9 (e9 x)=x:=rfl
structure bD where
 c0:ag
 c1:Int
instance:Inhabited bD:=⟨⟨default,default⟩⟩
def fN(x:bD):List AV:=[.str x.c0,ae x.c1]
def d164:bD:=⟨iJ (l.getD 0 .undef),cf (l.getD 1 .undef)⟩
theorem aoP(x:bD):d164 (fN x)=x:=rfl
structure ar where
 c0:ag
 c1:Int
 c2:ag
 c3:Int
 c4:(Sl bk)
 c5:(Sl ag)
 c6:(Sl bD)
 c7:Int
instance:Inhabited ar:=⟨⟨default,default,default,default,default,default,default,default⟩⟩
def gn(x:ar):List AV:=[.str x.c0,ae x.c1,.str x.c2,ae x.c3,aL 2 fM x.c4,aL 1 e9 x.c5,aL 2 fN x.c6,ae x.c7]
def d175:ar:=⟨iJ (l.getD 0 .undef),cf (l.getD 1 .undef),iJ (l.getD 2 .undef),cf (l.getD 3 .undef),ja d160 (l.getD 4 .undef),ja d9 (l.getD 5 .undef),ja d164 (l.getD 6 .undef),cf (l.getD 7 .undef)⟩
theorem aoQ(x:ar):d175 (gn x)=x:=rfl
structure aG where
 c0:Int
 c1:Int
 c2:Int
 c3:Int
 c4:ag
 c5:Int
 c6:(Sl ag)
instance:Inhabited aG:=⟨⟨default,default,default,default,default,default,default⟩⟩
def gP(x:aG):List AV:=[ae x.c0,ae x.c1,ae x.c2,ae x.c3,.str x.c4,ae x.c5,aL 1 e9 x.c6]
def d137:aG:=⟨cf (l.getD 0 .undef),cf (l.getD 1 .undef),cf (l.getD 2 .undef),cf (l.getD 3 .undef),iJ (l.getD 4 .undef),cf (l.getD 5 .undef),ja d9 (l.getD 6 .undef)⟩
theorem aoN(x:aG):d137 (gP x)=x:=rfl
structure aM where
 c0:Int
 c1:Int
 c2:Bool
 c3:Int
 c4:Int
 c5:Int
 c6:ag
 c7:ag
 c8:ag
 c9:Int
instance:Inhabited aM:=⟨⟨default,default,default,default,default,default,default,default,default,default⟩⟩
def dH(x:aM):List AV:=[ae x.c0,ae x.c1,.bool x.c2,ae x.c3,ae x.c4,ae x.c5,.str x.c6,.str x.c7,.str x.c8,ae x.c9]
def d68:aM:=⟨cf (l.getD 0 .undef),cf (l.getD 1 .undef),Jd (l.getD 2 .undef),cf (l.getD 3 .undef),cf (l.getD 4 .undef),cf (l.getD 5 .undef),iJ (l.getD 6 .undef),iJ (l.getD 7 .undef),iJ (l.getD 8 .undef),cf (l.getD 9 .undef)⟩
theorem aoY(x:aM):d68 (dH x)=x:=rfl
def e5:List AV:=[.int .u8 x]
def d5:Int:=cf (l.getD 0 .undef)
theorem ed5(x:Int):d5 (e5 x)=x:=rfl
def e43(x:(Sl Int)):List AV:=[aL 1 e5 x]
def d43:(Sl Int):=ja d5 (l.getD 0 .undef)
theorem aoX(x:(Sl Int)):d43 (e43 x)=x:=rfl
structure cj where
 c0:Int
 c1:Int
 c2:Int
 c3:Int
 c4:Int
 c5:Int
 c6:Bool
 c7:Int
 c8:Int
 c9:Int
 cF:ag
 cS:ag
 cD:ag
 di:Int
 bO:Int
 gG:Int
 lj:Int
 j9:(Sl ar)
 lk:Int
 j_:(Sl aG)
instance:Inhabited cj:=⟨⟨default,default,default,default,default,default,default,default,default,default,default,default,default,default,default,default,default,default,default,default⟩⟩
def Ss(x:cj):List AV:=[ae x.c0,ae x.c1,ae x.c2,ae x.c3,ae x.c4,ae x.c5,.bool x.c6,ae x.c7,ae x.c8,ae x.c9,.str x.cF,.str x.cS,.str x.cD,ae x.di,ae x.bO,ae x.gG,ae x.lj,aL 8 gn x.j9,ae x.lk,aL 7 gP x.j_]
def d122:cj:=⟨cf (l.getD 0 .undef),cf (l.getD 1 .undef),cf (l.getD 2 .undef),cf (l.getD 3 .undef),cf (l.getD 4 .undef),cf (l.getD 5 .undef),Jd (l.getD 6 .undef),cf (l.getD 7 .undef),cf (l.getD 8 .undef),cf (l.getD 9 .undef),iJ (l.getD 10 .undef),iJ (l.getD 11 .undef),iJ (l.getD 12 .undef),cf (l.getD 13 .undef),cf (l.getD 14 .undef),cf (l.getD 15 .undef),cf (l.getD 16 .undef),ja d175 (l.getD 17 .undef),cf (l.getD 18 .undef),ja d137 (l.getD 19 .undef)⟩
theorem aoM(x:cj):d122 (Ss x)=x:=rfl
structure aK where
 c0:Int
 c1:Int
 c2:Int
 c3:Int
 c4:Int
 c5:Int
 c6:ag
 c7:ag
 c8:ag
 c9:Int
instance:Inhabited aK:=⟨⟨default,default,default,default,default,default,default,default,default,default⟩⟩
def e75(x:aK):List AV:=[ae x.c0,ae x.c1,ae x.c2,ae x.c3,ae x.c4,ae x.c5,.str x.c6,.str x.c7,.str x.c8,ae x.c9]
def d75:aK:=⟨cf (l.getD 0 .undef),cf (l.getD 1 .undef),cf (l.getD 2 .undef),cf (l.getD 3 .undef),cf (l.getD 4 .undef),cf (l.getD 5 .undef),iJ (l.getD 6 .undef),iJ (l.getD 7 .undef),iJ (l.getD 8 .undef),cf (l.getD 9 .undef)⟩
theorem aoZ(x:aK):d75 (e75 x)=x:=rfl
structure fW where
 c0:Bool
 c1:Int
 c2:Bool
 c3:Int
 c4:Int
 c5:Int
 c6:(Sl aM)
 c7:Int
 c8:(Sl ar)
 c9:Int
 cF:(Sl aG)
instance:Inhabited fW:=⟨⟨default,default,default,default,default,default,default,default,default,default,default⟩⟩
def E_(x:fW):List AV:=[.bool x.c0,ae x.c1,.bool x.c2,ae x.c3,ae x.c4,ae x.c5,aL 10 dH x.c6,ae x.c7,aL 8 gn x.c8,ae x.c9,aL 7 gP x.cF]
def abz:fW:=⟨Jd (l.getD 0 .undef),cf (l.getD 1 .undef),Jd (l.getD 2 .undef),cf (l.getD 3 .undef),cf (l.getD 4 .undef),cf (l.getD 5 .undef),ja d68 (l.getD 6 .undef),cf (l.getD 7 .undef),ja d175 (l.getD 8 .undef),cf (l.getD 9 .undef),ja d137 (l.getD 10 .undef)⟩
theorem aoT(x:fW):abz (E_ x)=x:=rfl
structure bI where
 c0:Int
 c1:Int
 c2:Int
 c3:Int
 c4:ag
 c5:ag
 c6:ag
 c7:Int
 c8:Int
 c9:ag
 cF:Int
 cS:(Sl ag)
instance:Inhabited bI:=⟨⟨default,default,default,default,default,default,default,default,default,default,default,default⟩⟩
def JT(x:bI):List AV:=[ae x.c0,ae x.c1,ae x.c2,ae x.c3,.str x.c4,.str x.c5,.str x.c6,ae x.c7,ae x.c8,.str x.c9,ae x.cF,aL 1 e9 x.cS]
def abx:bI:=⟨cf (l.getD 0 .undef),cf (l.getD 1 .undef),cf (l.getD 2 .undef),cf (l.getD 3 .undef),iJ (l.getD 4 .undef),iJ (l.getD 5 .undef),iJ (l.getD 6 .undef),cf (l.getD 7 .undef),cf (l.getD 8 .undef),iJ (l.getD 9 .undef),cf (l.getD 10 .undef),ja d9 (l.getD 11 .undef)⟩
theorem aoR(x:bI):abx (JT x)=x:=rfl
structure aS where
 c0:Int
 c1:Int
instance:Inhabited aS:=⟨⟨default,default⟩⟩
def JU(x:aS):List AV:=[ae x.c0,ae x.c1]
def aby:aS:=⟨cf (l.getD 0 .undef),cf (l.getD 1 .undef)⟩
theorem aoS(x:aS):aby (JU x)=x:=rfl
structure iP where
 c0:Int
 c1:Int
 c2:Int
 c3:Int
 c4:Int
 c5:ag
 c6:ag
 c7:ag
 c8:Int
instance:Inhabited iP:=⟨⟨default,default,default,default,default,default,default,default,default⟩⟩
def abG(x:iP):List AV:=[ae x.c0,ae x.c1,ae x.c2,ae x.c3,ae x.c4,.str x.c5,.str x.c6,.str x.c7,ae x.c8]
def abB:iP:=⟨cf (l.getD 0 .undef),cf (l.getD 1 .undef),cf (l.getD 2 .undef),cf (l.getD 3 .undef),cf (l.getD 4 .undef),iJ (l.getD 5 .undef),iJ (l.getD 6 .undef),iJ (l.getD 7 .undef),cf (l.getD 8 .undef)⟩
theorem aoV(x:iP):abB (abG x)=x:=rfl
structure aF where
 c0:Int
 c1:Int
 c2:Int
 c3:Int
 c4:Int
 c5:Int
 c6:Bool
 c7:Int
 c8:(Sl aM)
 c9:Int
 cF:Int
 cS:Int
 cD:(Sl ar)
 di:Int
 bO:(Sl aG)
instance:Inhabited aF:=⟨⟨default,default,default,default,default,default,default,default,default,default,default,default,default,default,default⟩⟩
def jh(x:aF):List AV:=[ae x.c0,ae x.c1,ae x.c2,ae x.c3,ae x.c4,ae x.c5,.bool x.c6,ae x.c7,aL 10 dH x.c8,ae x.c9,ae x.cF,ae x.cS,aL 8 gn x.cD,ae x.di,aL 7 gP x.bO]
def _root_.Go.jK(a b:Int)(x:aF):List AV:=[ae a,ae b,ae x.c2,ae x.c3,ae x.c4,ae x.c5,.bool x.c6,ae x.c7,aL 10 dH x.c8,ae x.c9,ae x.cF,ae x.cS,aL 8 gn x.cD,ae x.di,aL 7 gP x.bO]
def abA:aF:=⟨cf (l.getD 0 .undef),cf (l.getD 1 .undef),cf (l.getD 2 .undef),cf (l.getD 3 .undef),cf (l.getD 4 .undef),cf (l.getD 5 .undef),Jd (l.getD 6 .undef),cf (l.getD 7 .undef),ja d68 (l.getD 8 .undef),cf (l.getD 9 .undef),cf (l.getD 10 .undef),cf (l.getD 11 .undef),ja d175 (l.getD 12 .undef),cf (l.getD 13 .undef),ja d137 (l.getD 14 .undef)⟩
theorem aoU(x:aF):abA (jh x)=x:=rfl
structure jg where
 c0:Int
 c1:Int
 c2:Int
 c3:Int
 c4:Int
 c5:Int
 c6:Int
 c7:ag
instance:Inhabited jg:=⟨⟨default,default,default,default,default,default,default,default⟩⟩
def A9(x:jg):List AV:=[ae x.c0,ae x.c1,ae x.c2,ae x.c3,ae x.c4,ae x.c5,ae x.c6,.str x.c7]
def nM:jg:=⟨cf (l.getD 0 .undef),cf (l.getD 1 .undef),cf (l.getD 2 .undef),cf (l.getD 3 .undef),cf (l.getD 4 .undef),cf (l.getD 5 .undef),cf (l.getD 6 .undef),iJ (l.getD 7 .undef)⟩
theorem aoW(x:jg):nM (A9 x)=x:=rfl
end
end Go.Proofs.YtfmgjpcmcjjoiaaGreatDoor
namespace Go.Vc
open Go Go.RowKit
structure El where
 T:Type
 wy:Inhabited T
 sz:Nat
 e:T→List AV
 d:List AV→T
 ed: ∀x,d (e x)=x
inductive Kd:Type 1 where
 |int (k:IntKind)
 |bool
 |str
 |sl (E:El)
 |ah (E:El)
@[reducible] def Kd.ty:Kd→Type
  | .int _=>Int
  | .bool=>Bool
  | .str=>ByteArray
  | .sl E=>Sl E.T
  | .ah E=>Sl E.T
def Kd.mo:(k:Kd)→k.ty
 | .int _=>default
 | .bool=>default
 | .str=>default
 | .sl E=>have:=E.wy;default
 | .ah E=>have:=E.wy;default
def Kd.av:(k:Kd)→k.ty→AV
 | .int k,n=> .int k n
 | .bool,b=> .bool b
 | .str,s=> .str s
 | .sl E,s=>aL E.sz E.e s
 | .ah E,s=> .ah false E.sz s.n fun i=>E.e (s.at' i)
def rdI(k:IntKind)(x:AV):Option Int:=
 match x with
 | .int k' n=>match decide (k'=k)with
   |true=>some n
   |false=>none
 |_=>none
def YK(x:AV):Option Bool:=
 match x with
 | .bool b=>some b
 | .lit b=>some b
 |_=>none
def rdS(x:AV):Option ByteArray:=
 match x with
 | .str s=>some s
 |_=>none
def rdL(E:El)(x:AV):Option (Sl E.T):=
 match x with
 | .arr sz n f=>match Nat.beq sz E.sz with
   |true=>some ⟨n,fun i=>E.d (f i)⟩
   |false=>none
 | .aE=>some (@al E.T E.wy)
 |_=>none
def rdK(E:El)(x:AV):Option (Sl E.T):=
 match x with
 | .ah ro sz n f=>match ro with
   |true=>none
   |false=>match Nat.beq sz E.sz with
    |true=>some ⟨n,fun i=>E.d (f i)⟩
    |false=>none
 |_=>none
def Kd.rd:(k:Kd)→AV→Option k.ty
 | .int k,x=>rdI k x
 | .bool,x=>Vc.YK x
 | .str,x=>rdS x
 | .sl E,x=>rdL E x
 | .ah E,x=>rdK E x
theorem Kd.canon: ∀(k:Kd) (x:k.ty),k.rd (k.av x)=some x
 | .int k,x=>by simp [Kd.rd,Kd.av,rdI]
 | .bool,x=>rfl
 | .str,x=>rfl
 | .sl E,x=>by simp [Kd.rd,Kd.av,rdL,aL,E.ed]
 | .ah E,x=>by simp [Kd.rd,Kd.av,rdK,E.ed]
@[reducible] def dp:List Kd→Type
  |[]=>Unit
  |[k]=>k.ty
  |k::k'::r=>k.ty×dp (k'::r)
def dp.cons:{k:Kd} →{ks:List Kd} →k.ty→dp ks→dp (k::ks)
 |_,[],x,_=>x
 |_,_::_,x,s=>(x,s)
def dp.mo:(ks:List Kd)→dp ks
 |[]=>()
 |k::ks=>dp.cons k.mo (dp.mo ks)
def dp.cR:(ks:List Kd)→dp ks→List AV
 |[],_=>[]
 |[k],x=>[k.av x]
 |k::k'::r,s=>k.av s.1::dp.cR (k'::r) s.2
def su:(ks:List Kd)→List AV→Option (dp ks)
 |[],[]=>some ()
 |[k],[x]=>k.rd x
 |k::k'::r,x::xs=>match k.rd x with
  |some v=>match su (k'::r) xs with
   |some s=>some (v,s)
   |none=>none
  |none=>none
 |_,_=>none
def Kd.nrm(k:Kd)(x:AV):Option AV:=
 match k.rd x with
 |some v=>some (k.av v)
 |none=>none
def dB:List Kd→List AV→Option (List AV)
 |[],[]=>some []
 |k::ks,x::xs=>match k.nrm x with
  |some y=>match dB ks xs with
   |some ys=>some (y::ys)
   |none=>none
  |none=>none
 |_,_=>none
theorem Kd.IQ{k:Kd}{x y:AV}(h:k.nrm x=some y): ∃v,y=k.av v∧k.rd y=some v:=by
 unfold Kd.nrm at h
 split at h
 ·rename_i v e
  cases h
  exact⟨v,rfl,Kd.canon k v⟩
 ·cases h
theorem DQ: ∀{ks:List Kd} {xs ys:List AV},dB ks xs=some ys→ ∃s,su ks ys=some s∧dp.cR ks s=ys
 |[],[],ys,h=>by cases h;exact⟨(),rfl,rfl⟩
 |[k],[x],ys,h=>by
  simp only[dB]at h
  split at h<;>try (cases h;done)
  rename_i y e
  cases h
  obtain⟨v,h1,h2⟩:=Kd.IQ e;exact⟨v,h2,by simp only[dp.cR,h1]⟩
 |k::k'::r,x::xs,ys,h=>by
  simp only[dB]at h
  split at h<;>try (cases h;done)
  rename_i y e
  split at h<;>try (cases h;done)
  rename_i zs e2
  cases h
  obtain⟨v,h1,h2⟩:=Kd.IQ e;obtain⟨s,h3,h4⟩:=DQ (ks:=k'::r) (xs:=xs) (ys:=zs) (by simpa only[dB]using e2);exact⟨(v,s),by simp only[su,h2,h3],by simp only[dp.cR,h1,h4]⟩
 |[],_::_,_,h=>by cases h
 |_::_,[],_,h=>by cases h
 |[k],x::y::r,ys,h=>by
  simp only[dB]at h
  split at h<;>cases h
def AN:(ks:List Kd)→(dp ks→Prop)→Prop
 |[],p=>p ()
 |[k],p=> ∀x:k.ty,p x
 |k::k'::r,p=> ∀x:k.ty,AN (k'::r) fun s=>p (x,s)
theorem EH: ∀(ks:List Kd) (p:dp ks→Prop),AN ks p↔ ∀s,p s
 |[],p=>⟨fun h _=>h,fun h=>h ()⟩
 |[k],p=>Iff.rfl
 |k::k'::r,p=>by
  simp only[AN];constructor
  ·intro h s;exact(EH (k'::r) _).1 (h s.1) s.2
  ·intro h x;exact(EH (k'::r) _).2 fun s=>h (x,s)
inductive Eo:Type 1 where
 |tt
 |e {α:Type} (a b:α)
 |and (l r:Eo)
def Eo.holds:Eo→Prop
 | .tt=>True
 | .e a b=>a=b
 | .and l r=>l.holds∧r.holds
inductive Ob:Type 1 where
 |tt
 |p (q:Prop)
 |e {α:Type} (a b:α)
 |es {σ:Type} (f:σ→Eo)
 |and (l r:Ob)
 |imp (b c:Bool) (r:Ob)
 |vX (q:Prop) (r:Ob)
 |all (ks:List Kd) (I:dp ks→Prop) (f:dp ks→Ob)
def Ob.holds:Ob→Prop
 | .tt=>True
 | .p q=>q
 | .e a b=>a=b
 | .es f=> ∀k,(f k).holds
 | .and l r=>l.holds∧r.holds
 | .imp b c r=>b=c→r.holds
 | .vX q r=>q→r.holds
 | .all _ I f=> ∀s,I s→(f s).holds
def Ob.lG:Ob→Bool
 | .p _=>true
 | .and l r=>match l.lG with
   |true=>true
   |false=>r.lG
 | .imp _ _ r=>r.lG
 | .vX _ r=>r.lG
 | .all .. =>true
 |_=>false
def Ob.prop:Ob→Prop
 | .tt=>True
 | .p q=>q
 | .e _ _=>True
 | .es _=>True
 | .and l r=>match l.lG with
   |true=>match r.lG with
    |true=>l.prop∧r.prop
    |false=>l.prop
   |false=>r.prop
 | .imp b c r=>match r.lG with
   |true=>b=c→r.prop
   |false=>True
 | .vX q r=>match r.lG with
   |true=>q→r.prop
   |false=>True
 | .all ks I f=>AN ks fun s=>I s→(f s).prop
inductive Sk:Type 1 where
 |nil
 |c {α:Type} (a:α)
 |and (l r:Sk)
 |lam {σ:Type} (f:σ→Sk)
def Eo.g9:Eo→Sk
 | .tt=> .nil
 | .e a _=> .c a
 | .and l r=> .and l.g9 r.g9
def Eo.iH:Eo→Sk
 | .tt=> .nil
 | .e _ b=> .c b
 | .and l r=> .and l.iH r.iH
theorem Eo.ok: ∀(o:Eo),o.g9=o.iH→o.holds
 | .tt,_=>trivial
 | .e a b,h=>by
   simp only[Eo.g9,Eo.iH,Sk.c.injEq,heq_eq_eq,true_and]at h;exact h
 | .and l r,h=>by
   simp only[Eo.g9,Eo.iH,Sk.and.injEq]at h;exact⟨Eo.ok l h.1,Eo.ok r h.2⟩
def Ob.g9:Ob→Sk
 | .e a _=> .c a
 | .es f=> .lam fun k=>(f k).g9
 | .and l r=> .and l.g9 r.g9
 | .imp _ _ r=>r.g9
 | .vX _ r=>r.g9
 | .all _ _ f=> .lam fun s=>(f s).g9
 |_=> .nil
def Ob.iH:Ob→Sk
 | .e _ b=> .c b
 | .es f=> .lam fun k=>(f k).iH
 | .and l r=> .and l.iH r.iH
 | .imp _ _ r=>r.iH
 | .vX _ r=>r.iH
 | .all _ _ f=> .lam fun s=>(f s).iH
 |_=> .nil
theorem Ob.soft: ∀(o:Ob),o.lG=false→o.prop
 | .tt,_=>trivial
 | .p _,h=>by cases h
 | .e _ _,_=>trivial
 | .es _,_=>trivial
 | .and l r,h=>by
   simp only[Ob.lG]at h
   cases hl:l.lG with
   |true=>rw[hl]at h;cases h
   |false=>
    rw[hl]at h;simp only[Ob.prop,hl];exact Ob.soft r h
 | .imp b c r,h=>by
   simp only[Ob.lG]at h;simp only[Ob.prop,h]
 | .vX q r,h=>by
   simp only[Ob.lG]at h;simp only[Ob.prop,h]
 | .all ..,h=>by cases h
theorem Ob.ok: ∀(o:Ob),o.g9=o.iH→o.prop→o.holds
 | .tt,_,_=>trivial
 | .p _,_,h=>h
 | .e a b,h,_=>by
   simp only[Ob.g9,Ob.iH,Sk.c.injEq,heq_eq_eq,true_and]at h;exact h
 | .es f,h,_=>by
   simp only[Ob.g9,Ob.iH,Sk.lam.injEq,heq_eq_eq,true_and]at h;exact fun k=>Eo.ok (f k) (congrFun h k)
 | .and l r,h,hp=>by
   simp only[Ob.g9,Ob.iH,Sk.and.injEq]at h;simp only[Ob.prop]at hp
   cases hl:l.lG with
   |true=>
    rw[hl]at hp
    cases hr:r.lG with
    |true=>rw[hr]at hp;exact⟨Ob.ok l h.1 hp.1,Ob.ok r h.2 hp.2⟩
    |false=>rw[hr]at hp;exact⟨Ob.ok l h.1 hp,Ob.ok r h.2 (Ob.soft r hr)⟩
   |false=>rw[hl]at hp;exact⟨Ob.ok l h.1 (Ob.soft l hl),Ob.ok r h.2 hp⟩
 | .imp b c r,h,hp=>by
   simp only[Ob.g9,Ob.iH]at h;simp only[Ob.prop]at hp;intro hb
   cases hr:r.lG with
   |true=>rw[hr]at hp;exact Ob.ok r h (hp hb)
   |false=>exact Ob.ok r h (Ob.soft r hr)
 | .vX q r,h,hp=>by
   simp only[Ob.g9,Ob.iH]at h;simp only[Ob.prop]at hp;intro hb
   cases hr:r.lG with
   |true=>rw[hr]at hp;exact Ob.ok r h (hp hb)
   |false=>exact Ob.ok r h (Ob.soft r hr)
 | .all ks I f,h,hp=>by
   simp only[Ob.g9,Ob.iH,Sk.lam.injEq,heq_eq_eq,true_and]at h;intro s hs;exact Ob.ok (f s) (congrFun h s) ((EH ks _).1 hp s hs)
inductive T (α:Type _) where
 |lf (a:α)
 |br (b:Bool) (l r:T α)
def T.bq{α:Type _} :T α→α
 | .lf a=>a
 | .br b l r=>match b with
   |true=>l.bq
   |false=>r.bq
def T.map{α β:Type _}(f:α→β):T α→T β
 | .lf a=> .lf (f a)
 | .br b l r=> .br b (l.map f) (r.map f)
theorem T.mg{α β:Type _}(f:α→β): ∀t:T α,(t.map f).bq=f t.bq
 | .lf _=>rfl
 | .br b l r=>by cases b<;>simp only[T.map,T.bq,T.mg f]
def T.prune{α β:Type _}(f:α→Option β):T α→Option (T β)
 | .lf a=>match f a with
   |some b=>some (.lf b)
   |none=>none
 | .br b l r=>match l.prune f with
   |some l'=>match r.prune f with
    |some r'=>some (.br b l' r')
    |none=>some l'
   |none=>r.prune f
theorem T.nB{α β:Type _}{f:α→Option β} : ∀{t:T α} {x:β},f t.bq=some x→ ∃t',t.prune f=some t'∧t'.bq=x
 | .lf a,x,h=>by
   simp only[T.bq]at h;exact⟨.lf x,by simp only[T.prune,h],rfl⟩
 | .br b l r,x,h=>by
   cases b with
   |true=>
    obtain⟨t',h1,h2⟩:=T.nB (t:=l) (show f l.bq=some x from h);simp only[T.prune,h1]
    cases e:r.prune f with
    |none=>exact⟨t',rfl,h2⟩
    |some r'=>exact⟨.br true t' r',rfl,h2⟩
   |false=>
    obtain⟨t',h1,h2⟩:=T.nB (t:=r) (show f r.bq=some x from h);simp only[T.prune,h1]
    cases e:l.prune f with
    |none=>exact⟨t',rfl,h2⟩
    |some l'=>exact⟨.br false l' t',rfl,h2⟩
inductive Mk where
 |f
 |l
 |b (x y:Mk)
def T.first{α:Type _} :T α→α
 | .lf a=>a
 | .br _ l _=>l.first
def T.kL{α:Type} :T α→Mk→α
 | .lf a,_=>a
 | .br b l r,m=>match m with
   | .f=>bif b then l.kL .f else r.kL .f
   | .l=>l.first
   | .b x y=>bif b then l.kL x else r.kL y
def T.same{α:Type}(a:α):T α→Eo
 | .lf x=> .e x a
 | .br _ l r=> .and (l.same a) (r.same a)
def T.AY{α:Type} :T α→Mk→Eo
 | .lf _,_=> .tt
 | .br _ l r,m=>match m with
   | .f=> .tt
   | .l=> .and (l.same l.first) (r.same l.first)
   | .b x y=> .and (l.AY x) (r.AY y)
theorem T.YV{α:Type}{a:α} : ∀{t:T α},(t.same a).holds→t.bq=a
 | .lf _,h=>h
 | .br b l r,h=>by
   cases b
   ·exact T.YV (t:=r) h.2
   ·exact T.YV (t:=l) h.1
theorem T.abl{α:Type} : ∀(t:T α),t.kL .f=t.bq
 | .lf _=>rfl
 | .br b l r=>by cases b<;>simp only[T.kL,T.bq,aCJ,aCI,T.abl]
theorem T.E2{α:Type} : ∀{t:T α} {m:Mk},(t.AY m).holds→t.kL m=t.bq
 | .lf _,_,_=>rfl
 | .br b l r,.f,_=>T.abl _
 | .br b l r,.l,h=>by
   simp only[T.kL];exact(T.YV (t:= .br b l r) h).symm
 | .br b l r,.b x y,h=>by
   have h1:=T.E2 (t:=l) (m:=x) h.1;have h2:=T.E2 (t:=r) (m:=y) h.2
   cases b
   ·simp only[T.kL,aCI,T.bq,h2]
   ·simp only[T.kL,aCJ,T.bq,h1]
structure XE where
 P:Program
 ty:TypeId→Option Ty
 el:TypeId→Option El
 spec:FuncId→List AV→Option (Ob×AV)
 m:Nat:=0
 jU:FuncId→List AV→Heap→Option (Ob×List AV×Heap):=fun _ _ _=>none
 fel:Nat→List AV→Option El:=fun _ _=>none
 ho:FuncId→Bool:=fun _=>false
def XE.ao0(X:XE)(H:Heap)(x:AV):Option El:=
 match x with
 | .fF b _ i _=>match aj H b 0 with
   | .ah _ sz _ f=>X.fel sz (f i)
   |_=>none
 |_=>none
def XE.env(X:XE):Env where
 P:=X.P
 ty:=X.ty
 spec:=fun f aa=>match X.spec f aa with
  |some q=>some (some q.1.holds,q.2)
  |none=>none
 m:=X.m
 jU:=fun f aa H=>match X.jU f aa H with
  |some q=>some (some q.1.holds,q.2)
  |none=>none
 ho:=X.ho
def gd{α:Type _}(b:Bool)(x:Option α):Option α:=
 match b with
 |true=>x
 |false=>none
theorem cY{α:Type _}{b:Bool}{x:Option α}{y:α} :gd b x=some y↔b=true∧x=some y:=by
 cases b<;>simp [gd]
abbrev R1:=Ob×AV×Ws
abbrev V1:=Ob×AV
def val(x:Option V1):Option R1:=
 match x with
 |some q=>some (q.1,q.2,[])
 |none=>none
theorem pt{x:Option V1}{o:Ob}{av:AV}{ws:Ws} :val x=some (o,av,ws)↔x=some (o,av)∧ws=[]:=by
 cases x with
 |none=>simp [val]
 |some q=>
  obtain⟨a,b⟩:=q;simp only[val,aC3,aDL];constructor
  ·rintro⟨rfl,rfl,rfl⟩;exact⟨⟨rfl,rfl⟩,rfl⟩
  ·rintro⟨⟨rfl,rfl⟩,rfl⟩;exact⟨rfl,rfl,rfl⟩
def cJ(av:AV):Option V1:=some (.tt,av)
def loadT(t:Ty)(H:Heap)(x:AV):Option V1:=
 match x with
 | .ptr b o=>gd ((lr H b o t.size).all w7) (cJ (py t.d.isAgg (lr H b o t.size)))
 | .ref cs=>gd (decide (t.size≤cs.length)) (cJ (py t.d.isAgg (cs.take t.size)))
 | .fF b k i o=>match aj H b 0 with
   | .ah _ sz n f=>gd (decide (o+t.size≤sz)) (some (.and (.e k n) (.p (i<n)),py t.d.isAgg (((f i).drop o).take t.size)))
   |_=>none
 |_=>none
theorem Oh{t:Ty}{H:Heap}{x:AV}{o:Ob}{av:AV}{K:AV→Prop}(h:loadT t H x=some (o,av))(ho:o.holds)(hK:K av):oB t H x K:=by
 unfold loadT at h;unfold oB
 cases x<;>simp only at h ⊢ <;>try (cases h;done)
 ·rw[cY,cJ]at h;obtain⟨h1,h2⟩:=h
  cases h2
  exact aD.2 ⟨h1,hK⟩
 ·split at h
  ·rename_i e;rw[cY]at h;obtain⟨h1,h2⟩:=h
   cases h2
   simp only[e];exact⟨ho.1,ho.2,aD.2 ⟨h1,hK⟩⟩
  ·cases h
 ·rw[cY,cJ]at h;obtain⟨h1,h2⟩:=h
  cases h2
  exact aD.2 ⟨h1,hK⟩
def El.canon(E:El)(f:Nat→List AV):Ob:= .e f fun i=>E.e (E.d (f i))
noncomputable def Sl.cp{α:Type}(s:Sl α)(i:Nat)(x:α):Sl α:=⟨s.n,fun j=>bif Nat.beq j i then x else s.at' j⟩
theorem Sl.aj5{α:Type}(s:Sl α)(i:Nat)(x:α):(s.cp i x).n=s.n:=rfl
noncomputable def storeT(E:Option El)(t:Ty)(H:Heap)(x v:AV):Option (Ob×Ws):=
 match x with
 | .ptr b o=>gd (oH v&&decide ((cellsOf v).length=t.size)&&(lr H b o t.size).all w7&& !(bW (aj H b 0))) (some (.tt,iy b (cellsOf v) o))
 | .fF b k i o=>match aj H b 0 with
   | .ah ro sz n f=>match E with
     |some E=>gd (!ro&&decide (o+t.size≤sz)&&oH (eR v)&&decide ((cellsOf (eR v)).length=t.size)&&(cellsOf (eR v)).all oN&& !((cellsOf (eR v)).isEmpty))
       (some (.and (.e k n) (.and (.p (i<n)) (.and (E.canon f) (.e (r_ (f i) (cellsOf (eR v)) o) (E.e (E.d (r_ (f i) (cellsOf (eR v)) o)))))),[(b,0,.ah false sz n fun j=>E.e ((Sl.cp (⟨n,fun i=>E.d (f i)⟩:Sl E.T) i (E.d (r_ (f i) (cellsOf (eR v)) o))).at' j))]))
     |none=>none
   |_=>none
 |_=>none
theorem aAQ{E:Option El}{t:Ty}{H:Heap}{x v:AV}{o:Ob}{ws:Ws}{K:Ws→Prop}(h:storeT E t H x v=some (o,ws))(ho:o.holds)(hK:K ws):uV t H x v K:=by
 unfold storeT at h;unfold uV
 cases x<;>simp only at h ⊢ <;>try (cases h;done)
 ·rw[cY]at h;obtain⟨h1,h2⟩:=h
  cases h2
  exact aD.2 ⟨h1,hK⟩
 ·split at h
  ·rename_i e
   split at h<;>try (cases h;done)
   rename_i E;rw[cY]at h;obtain⟨h1,h2⟩:=h
   cases h2
   simp only[e];obtain⟨g1,g2,g3,g4⟩:=ho;refine aD.2 ⟨h1,g1,g2,_,fun j hj=> ?_,hK⟩;unfold Pv Sl.cp;simp only
   cases ej:Nat.beq j _ with
   |true=>
    have:=aCS ej;subst this;simp only[aCJ];exact g4
   |false=>
    simp only[aCI];exact congrFun g3 j
  ·cases h
def SK(t:Ty)(H:Heap)(f:Nat)(x:AV):Option V1:=
 match t.d with
 | .struct dC=>match dC[f]? with
   |some (off,_)=>match x with
    | .ptr b o=>cJ (.ptr b (o+off))
    | .ref cs=>cJ (.ref (cs.drop off))
    | .fF b k i o=>match aj H b 0 with
      | .ah _ _ n _=>some (.e k n,.fF b k i (o+off))
      |_=>none
    |_=>none
   |none=>none
 |_=>none
theorem apl{t:Ty}{H:Heap}{f:Nat}{x:AV}{o:Ob}{av:AV}{K:AV→Prop}(h:SK t H f x=some (o,av))(ho:o.holds)(hK:K av):sY t H f x K:=by
 unfold SK at h;unfold sY
 split at h<;>try (cases h;done)
 rename_i dC e;simp only[e]
 split at h<;>try (cases h;done)
 rename_i off sz e2;simp only[e2]
 cases x<;>simp only[cJ]at h ⊢ <;>try (cases h;done)
 ·cases h;exact hK
 ·split at h
  ·rename_i e;cases h;simp only[e];exact⟨ho,hK⟩
  ·cases h
 ·cases h;exact hK
def WG(t:Ty)(H:Heap)(x i:AV):Option V1:=
 match t.d with
 | .slice _ aO _=>match i with
   | .int _ z=>match x with
     | .arr sz n f=>gd (decide (sz=aO)) (some (.p (0≤z∧z<n),.ref ((f z.toNat).take sz)))
     | .own b k=>match aj H b 0 with
       | .ah _ sz n _=>gd (decide (sz=aO)) (some (.and (.e k n) (.p (0≤z∧z<n)),.fF b k z.toNat 0))
       |_=>none
     |_=>none
   |_=>none
 | .array n _ aO=>match i with
   | .int _ z=>match x with
     | .ptr b o=>gd (decide (0≤z)&&decide (z<n)) (cJ (.ptr b (o+z.toNat*aO)))
     | .ref cs=>gd (decide (0≤z)&&decide (z<n)) (cJ (.ref (cs.drop (z.toNat*aO))))
     |_=>none
   |_=>none
 |_=>none
def WE(E:TypeId→Option Ty)(t:Ty)(x i:AV):Option V1:=
 match t.d with
 | .array n e aO=>match i with
   | .int _ z=>match x with
     | .agg cs=>match E e with
       |some u=>gd (decide (0≤z)&&decide (z<n)&&decide (u.size=aO)&&decide (z.toNat*aO+aO≤cs.length)) (cJ (py u.d.isAgg ((cs.drop (z.toNat*aO)).take aO)))
       |none=>none
     |_=>none
   |_=>none
 |_=>none
theorem atB{E:TypeId→Option Ty}{t:Ty}{x i:AV}{o:Ob}{av:AV}{K:AV→Prop}(h:WE E t x i=some (o,av))(hK:K av):wv E t x i K:=by
 unfold WE at h;unfold wv
 split at h<;>try (cases h;done)
 rename_i n e aO ed;simp only[ed]
 cases i<;>simp only at h ⊢ <;>try (cases h;done)
 cases x<;>simp only at h ⊢ <;>try (cases h;done)
 split at h<;>try (cases h;done)
 rename_i u eu;simp only[eu];rw[cY,cJ]at h;obtain⟨h1,h2⟩:=h
 cases h2
 exact aD.2 ⟨h1,hK⟩
theorem atJ{t:Ty}{H:Heap}{x i:AV}{o:Ob}{av:AV}{K:AV→Prop}(h:WG t H x i=some (o,av))(ho:o.holds)(hK:K av):uq t H x i K:=by
 unfold WG at h;unfold uq
 split at h<;>try (cases h;done)
 case h_2 n e' aO e=>
  simp only[e]
  cases i<;>simp only at h ⊢ <;>try (cases h;done)
  cases x<;>simp only at h ⊢ <;>try (cases h;done)
  all_goals
   rw[cY,cJ]at h;obtain⟨h1,h2⟩:=h
   cases h2
   exact aD.2 ⟨h1,hK⟩
 rename_i e' aO eb e;simp only[e]
 cases i<;>simp only at h ⊢ <;>try (cases h;done)
 cases x<;>simp only at h ⊢ <;>try (cases h;done)
 ·rw[cY]at h;obtain⟨h1,h2⟩:=h
  cases h2
  exact aD.2 ⟨h1,ho,hK⟩
 ·split at h
  ·rename_i e;rw[cY]at h;obtain⟨h1,h2⟩:=h
   cases h2
   simp only[e];exact aD.2 ⟨h1,ho.1,ho.2,hK⟩
  ·cases h
def WI(op:BinOp)(k:IntKind)(a b:Int):Option V1:=
 match op with
 | .add=>cJ (.int k (k.wrap (a+b)))
 | .sub=>cJ (.int k (k.wrap (a-b)))
 | .mul=>cJ (.int k (k.wrap (a*b)))
 | .eql=>cJ (.bool (a==b))
 | .neq=>cJ (.bool (a !=b))
 | .lss=>cJ (.bool (decide (a<b)))
 | .leq=>cJ (.bool (decide (a≤b)))
 | .gtr=>cJ (.bool (decide (a>b)))
 | .geq=>cJ (.bool (decide (a≥b)))
 | .quo=>some (.p (b≠0),.int k (k.wrap (a.tdiv b)))
 | .rem=>some (.p (b≠0),.int k (a.tmod b))
 | .and=>cJ (.int k (bits .and k a b))
 | .or=>cJ (.int k (bits .or k a b))
 |_=>none
theorem atT{op:BinOp}{k:IntKind}{a b:Int}{o:Ob}{av:AV}{K:AV→Prop}(h:WI op k a b=some (o,av))(ho:o.holds)(hK:K av):wz op k a b K:=by
 unfold WI at h;unfold wz
 cases op<;>simp only[cJ]at h ⊢ <;>first|(cases h;done)|(cases h;exact hK)|(cases h;exact⟨ho,hK⟩)
def Y7(op:BinOp)(k:IntKind)(a b:Int):Option V1:=
 match op with
 | .shl=>some (.p (0≤b∧b≤k.bits),.int k (k.wrap (a*2^b.toNat)))
 | .shr=>some (.p (0≤b∧b≤k.bits),.int k (a/2^b.toNat))
 |_=>none
theorem aAz{op:BinOp}{k:IntKind}{a b:Int}{o:Ob}{av:AV}{K:AV→Prop}(h:Y7 op k a b=some (o,av))(ho:o.holds)(hK:K av):Pk op k a b K:=by
 unfold Y7 at h;unfold Pk
 cases op<;>simp only at h ⊢ <;>first|(cases h;done)|(cases h;exact⟨ho,hK⟩)
def RQ(t:Ty)(op:BinOp)(x y:AV):Option V1:=
 match x with
 | .int k a=>match y with
   | .int k' b=>match NY op with
     |true=>Y7 op k a b
     |false=>gd (decide (k=k')) (WI op k a b)
   |_=>none
 | .bool a=>match y with
   | .bool b=>match t.d with
     | .bool=>match op with
       | .eql=>cJ (.bool (a==b))
       | .neq=>cJ (.bool (!(a==b)))
       |_=>none
     |_=>none
   |_=>none
 | .str a=>match y with
   | .str b=>match op with
     | .eql=>cJ (.bool (a.toList==b.toList))
     | .neq=>cJ (.bool (!(a.toList==b.toList)))
     | .leq=>cJ (.bool (Op.bytesLess a.toList b.toList||a.toList==b.toList))
     | .gtr=>cJ (.bool (!(Op.bytesLess a.toList b.toList||a.toList==b.toList)))
     | .lss=>cJ (.bool (Op.bytesLess a.toList b.toList))
     | .geq=>cJ (.bool (!Op.bytesLess a.toList b.toList))
     | .add=>some (.p (a.size+b.size≤dg),.str (a++b))
     |_=>none
   |_=>none
 | .agg cs=>match y with
   | .agg ds=>gd (t.cmp&&ik t.zero cs&&ik t.zero ds) (match op with
     | .eql=>cJ (.bool (jO cs ds))
     | .neq=>cJ (.bool (!(jO cs ds)))
     |_=>none)
   |_=>none
 |_=>none
theorem anK{t:Ty}{op:BinOp}{x y:AV}{o:Ob}{av:AV}{K:AV→Prop}(h:RQ t op x y=some (o,av))(ho:o.holds)(hK:K av):pB t op x y K:=by
 unfold RQ at h
 cases x<;>simp only at h<;>try (cases h;done)
 ·cases y<;>simp only at h<;>try (cases h;done)
  simp only[pB]
  split at h
  ·rename_i e;simp only[e];exact aAz h ho hK
  ·rename_i e;simp only[e];rw[cY]at h;exact aD.2 ⟨h.1,atT h.2 ho hK⟩
 ·cases y<;>simp only at h<;>try (cases h;done)
  split at h<;>try (cases h;done)
  rename_i e;simp only[pB,e]
  cases op<;>simp only[cJ]at h ⊢ <;>first|(cases h;done)|(cases h;exact hK)
 ·cases y<;>simp only at h<;>try (cases h;done)
  simp only[pB]
  cases op<;>simp only[cJ]at h ⊢ <;>first|(cases h;done)|(cases h;exact hK)|(cases h;exact⟨ho,hK⟩)
 ·cases y<;>simp only at h<;>try (cases h;done)
  simp only[pB];rw[cY]at h;refine aD.2 ⟨h.1,?_⟩;have h2:=h.2
  cases op<;>simp only[cJ]at h2 ⊢ <;>first|(cases h2;done)|(cases h2;exact hK)
def Zu(op:UnOp)(x:AV):Option V1:=
 match op with
 | .not=>match x with
   | .bool b=>cJ (.bool (!b))
   | .lit b=>cJ (.lit (!b))
   |_=>none
 | .neg=>match x with
   | .int k n=>cJ (.int k (k.wrap (0-n)))
   |_=>none
 |_=>none
theorem aBe{op:UnOp}{x:AV}{o:Ob}{av:AV}{K:AV→Prop}(h:Zu op x=some (o,av))(hK:K av):Ay op x K:=by
 unfold Zu at h
 cases op<;>simp only at h<;>try (cases h;done)
 all_goals
  cases x<;>simp only[cJ]at h<;>first|(cases h;done)|(cases h;exact hK)
def JF(dC:List (Nat×Nat))(tm:List AV):List (Nat×Operand)→List AV→Option (List AV)
 |[],cs=>some cs
 |(i,x)::r,cs=>match dC[i]? with
  |some (off,sz)=>gd (oH (aC tm x)&&decide ((cellsOf (aC tm x)).length=sz)&&decide (off+sz≤cs.length)) (JF dC tm r (r_ cs (cellsOf (aC tm x)) off))
  |none=>none
theorem aa5{dC:List (Nat×Nat)}{tm:List AV}{K:List AV→Prop} : ∀{ps:List (Nat×Operand)} {cs ds:List AV},JF dC tm ps cs=some ds→K ds→nJ dC tm ps cs K
 |[],cs,ds,h,hK=>by cases h;exact hK
 |(i,x)::r,cs,ds,h,hK=>by
  simp only[JF]at h;simp only[nJ]
  split at h
  ·rename_i off sz e;rw[cY]at h;simp only[e];exact aD.2 ⟨h.1,aa5 h.2 hK⟩
  ·cases h
def Xt(H:Heap)(x:AV):Option V1:=
 match x with
 | .arr _ n _=>cJ (.int .i64 n)
 | .aE=>cJ (.int .i64 0)
 | .str s=>cJ (.int .i64 s.size)
 | .own b k=>match aj H b 0 with
   | .ah _ _ n _=>some (.e k n,.int .i64 n)
   |_=>none
 |_=>none
theorem axi{H:Heap}{x:AV}{o:Ob}{av:AV}{K:AV→Prop}(h:Xt H x=some (o,av))(ho:o.holds)(hK:K av):qi H x K:=by
 unfold Xt at h;unfold qi
 cases x<;>simp only[cJ]at h ⊢ <;>try (cases h;done)
 ·cases h;exact hK
 ·cases h;exact hK
 ·cases h;exact hK
 ·split at h
  ·rename_i e;cases h;simp only[e];exact⟨ho,hK⟩
  ·cases h
def Kn(H:Heap)(x:AV):Option V1:=
 match x with
 | .own b k=>match aj H b 0 with
   | .ah _ sz n f=>some (.e k n,.arr sz n f)
   |_=>none
 | .lit b=>cJ (.bool b)
 |av=>gd (oN av) (cJ av)
theorem acp{H:Heap}{x:AV}{o:Ob}{av:AV}{K:AV→Prop}(h:Kn H x=some (o,av))(ho:o.holds)(hK:K av):ji H x K:=by
 unfold Kn at h;unfold ji
 cases x<;>simp only[cJ,cY]at h ⊢ <;>first|(obtain⟨h1,h2⟩:=h;cases h2;exact aD.2 ⟨h1,hK⟩)|(cases h;exact hK)|skip
 split at h
 ·rename_i e;cases h;simp only[e];exact⟨ho,hK⟩
 ·cases h
def Fv(H:Heap):List AV→Option (Ob×List AV)
 |[]=>some (.tt,[])
 |x::r=>match Kn H x with
  |some q=>match Fv H r with
   |some q'=>some (.and q.1 q'.1,q.2::q'.2)
   |none=>none
  |none=>none
theorem SZ{H:Heap} : ∀{xs:List AV} {o:Ob} {ys:List AV} {K:List AV→Prop},Fv H xs=some (o,ys)→o.holds→K ys→mr H xs K
 |[],o,ys,K,h,_,hK=>by cases h;exact hK
 |x::r,o,ys,K,h,ho,hK=>by
  simp only[Fv]at h
  split at h<;>try (cases h;done)
  rename_i q e
  split at h<;>try (cases h;done)
  rename_i q' e'
  cases h
  exact acp (o:=q.1) (av:=q.2) e ho.1 (SZ (o:=q'.1) (ys:=q'.2) e' ho.2 hK)
def xw(H:Heap)(x:AV):Option V1:=
 match x with
 | .agg cs=>match Fv H cs with
   |some q=>some (q.1,.agg q.2)
   |none=>none
 |av=>Kn H av
theorem S0{H:Heap}{x:AV}{o:Ob}{av:AV}{K:AV→Prop}(h:xw H x=some (o,av))(ho:o.holds)(hK:K av):lx H x K:=by
 unfold xw at h;unfold lx
 cases x<;>simp only at h ⊢ <;>first|exact acp h ho hK|skip
 split at h<;>try (cases h;done)
 rename_i q e
 cases h
 exact SZ (o:=q.1) (ys:=q.2) e ho hK
def tf(H:Heap):List AV→Option (Ob×List AV)
 |[]=>some (.tt,[])
 |x::r=>match xw H x with
  |some q=>match tf H r with
   |some q'=>some (.and q.1 q'.1,q.2::q'.2)
   |none=>none
  |none=>none
theorem S5{H:Heap} : ∀{xs:List AV} {o:Ob} {ys:List AV} {K:List AV→Prop},tf H xs=some (o,ys)→o.holds→K ys→mW H xs K
 |[],o,ys,K,h,_,hK=>by cases h;exact hK
 |x::r,o,ys,K,h,ho,hK=>by
  simp only[tf]at h
  split at h<;>try (cases h;done)
  rename_i q e
  split at h<;>try (cases h;done)
  rename_i q' e'
  cases h
  exact S0 (o:=q.1) (av:=q.2) e ho.1 (S5 (o:=q'.1) (ys:=q'.2) e' ho.2 hK)
def YO(nb:Nat)(o:Ob)(r:AV)(ws:Ws):R1:=
 match r with
 | .ah _ sz n f=>(o,.own nb n,ws++[(nb,0,.ah false sz n f)])
 |r=>(o,r,ws)
def RX(X:XE)(H:Heap)(nb:Nat)(f:FuncId)(args:List AV):Option R1:=
 match tf H (args.map eR)with
 |some q=>match X.spec f q.2 with
  |some s=>some (YO nb (.and q.1 s.1) s.2 (oF H s.2 (args.map eR)))
  |none=>none
 |none=>none
theorem an3{X:XE}{H:Heap}{nb:Nat}{f:FuncId}{args:List AV}{o:Ob}{av:AV}{ws:Ws}{K:AV→Ws→Prop}(h:RX X H nb f args=some (o,av,ws))(ho:o.holds)(hK:K av ws):vh X.env H nb f args K:=by
 unfold RX at h
 split at h<;>try (cases h;done)
 rename_i q e
 split at h<;>try (cases h;done)
 rename_i s e2;have hoq:q.1.holds∧s.1.holds:=by
  simp only[aC3]at h;unfold YO at h
  split at h<;>(cases h;exact ho)
 refine S5 (o:=q.1) (ys:=q.2) e hoq.1 ?_;have e3:X.env.spec f q.2=some (some s.1.holds,s.2):=by simp only[XE.env,e2]
 simp only[e3,oD];refine⟨hoq.2,?_⟩;simp only[aC3]at h;unfold YO at h;unfold uQ
 split at h
 ·rename_i e4
  cases h
  rw[e4]at hK ⊢;exact hK
 ·rename_i e4
  cases h
  split
  ·rename_i e5;exact absurd e5 (e4 _ _ _ _)
  ·exact hK
def SI(i:Nat)(x:AV):Option V1:=
 match x with
 | .cU vs=>gd (decide (i<vs.length)) (cJ (vs.getD i .undef))
 |_=>none
theorem ao_{i:Nat}{x:AV}{o:Ob}{av:AV}{K:AV→Prop}(h:SI i x=some (o,av))(hK:K av):Bb i x K:=by
 unfold SI at h;unfold Bb
 cases x<;>simp only[cY,cJ]at h ⊢ <;>try (cases h;done)
 obtain⟨h1,h2⟩:=h
 cases h2
 exact aD.2 ⟨h1,hK⟩
def Zd(E:El)(H:Heap)(str:Bool)(aO:Nat)(y:AV):Option (Ob×Nat×(Nat→List AV)):=
 match y with
 | .aE=>gd (!str) (some (.tt,0,fun _=>E.e (E.d [])))
 | .arr sz n f=>gd (!str&&decide (sz=aO)) (some (.tt,n,f))
 | .str s=>gd (str&&decide (aO=1)) (some (.tt,s.size,wZ s))
 | .own b k=>match aj H b 0 with
   | .ah _ sz n f=>gd (!str&&decide (sz=aO)) (some (.e k n,n,f))
   |_=>none
 |_=>none
theorem Ze{E:El}{H:Heap}{str:Bool}{aO:Nat}{y:AV}{o:Ob}{n:Nat}{g:Nat→List AV}{K:Nat→(Nat→List AV)→Prop}(h:Zd E H str aO y=some (o,n,g))(ho:o.holds)(hK: ∀g',(∀i,i<n→g' i=g i)→(y= .aE∨g'=g)→K n g'):nE H str aO y K:=by
 unfold Zd at h;unfold nE
 cases y<;>simp only[cY]at h ⊢ <;>try (cases h;done)
 ·obtain⟨h1,h2⟩:=h;cases h2;exact aD.2 ⟨h1,hK _ (fun _ _=>rfl) (.inr rfl)⟩
 ·obtain⟨h1,h2⟩:=h;cases h2;exact aD.2 ⟨h1,hK _ (fun i hi=>absurd hi (fC _)) (.inl rfl)⟩
 ·obtain⟨h1,h2⟩:=h;cases h2;exact aD.2 ⟨h1,hK _ (fun _ _=>rfl) (.inr rfl)⟩
 ·split at h
  ·rename_i e;rw[cY]at h;obtain⟨h1,h2⟩:=h;cases h2;simp only[e];exact aD.2 ⟨h1,ho,hK _ (fun _ _=>rfl) (.inr rfl)⟩
  ·cases h
def El.sl(E:El)(n:Nat)(f:Nat→List AV):Sl E.T:=⟨n,fun i=>E.d (f i)⟩
def notNil:AV→Bool
 | .aE=>false
 |_=>true
noncomputable def RK(el:TypeId→Option El)(t:Ty)(str:Bool)(H:Heap)(nb:Nat)(x y:AV):Option R1:=
 match t.d with
 | .slice e aO eb=>match el e with
   |some E=>gd (Nat.ble eb 256&&Nat.blt 0 aO) (match Zd E H str aO y with
    |some (o,m,g)=>match x with
     | .aE=>gd (notNil y) (some (.and o (.and (E.canon g) (.p (m≤dg))),.own nb m,[(nb,0,.ah false aO m fun i=>E.e ((E.sl m g).at' i))]))
     | .own b k=>match aj H b 0 with
       | .ah ro sz n f=>gd (!ro&&decide (sz=aO)) (some (.and o (.and (.e k n) (.and (E.canon f) (.and (E.canon g) (.p (n+m≤dg))))),.own b (n+m),[(b,0,.ah false aO (n+m) fun i=>E.e (((E.sl n f).app (E.sl m g)).at' i))]))
       |_=>none
     | .kK sz n f=>gd (decide (sz=aO)) (some (.and o (.and (E.canon f) (.and (E.canon g) (.p (0<m∧n+m≤dg)))),.own nb (n+m),[(nb,0,.ah false aO (n+m) fun i=>E.e (((E.sl n f).app (E.sl m g)).at' i))]))
     |_=>none
    |none=>none)
   |none=>none
 |_=>none
theorem anA{el:TypeId→Option El}{t:Ty}{str:Bool}{H:Heap}{nb:Nat}{x y:AV}{o:Ob}{av:AV}{ws:Ws}{K:AV→Ws→Prop}(h:RK el t str H nb x y=some (o,av,ws))(ho:o.holds)(hK:K av ws):oJ t str H nb x y K:=by
 unfold RK at h
 split at h<;>try (cases h;done)
 rename_i e aO eb ed;simp only[oJ,ed]
 split at h<;>try (cases h;done)
 rename_i E eE;rw[cY]at h;refine aD.2 ⟨h.1,?_⟩;have h2:=h.2;clear h
 split at h2<;>try (cases h2;done)
 rename_i o' m g es
 cases x<;>simp only at h2<;>try (cases h2;done)
 ·rw[cY]at h2;obtain⟨hn,h2⟩:=h2
  cases h2
  refine Ze es ho.1 fun g' hg hg2=>⟨ho.2.2,?_⟩;have e1:g'=g:=hg2.resolve_left fun e=>by rw[e]at hn;cases hn
  have e2:g=fun i=>E.e (E.d (g i)):=ho.2.1;rw[e1,e2];exact hK
 ·split at h2<;>try (cases h2;done)
  rename_i b k ro sz n f A_;rw[cY]at h2;obtain⟨h3,h2⟩:=h2
  cases h2
  refine Ze es ho.1 fun g' hg _=> ?_;simp only[A_];refine aD.2 ⟨h3,ho.2.1,ho.2.2.2.2,_,?_,hK⟩;have e1:f=fun i=>E.e (E.d (f i)):=ho.2.2.1;have e2:g=fun i=>E.e (E.d (g i)):=ho.2.2.2.1;exact aaO (e:=E.e) (s:=E.sl n f) (t:=E.sl m g) rfl rfl (fun i _=>congrFun e1 i) fun i hi=>(hg i hi).trans (congrFun e2 i)
 ·rename_i sz n f;rw[cY]at h2;obtain⟨h3,h2⟩:=h2
  cases h2
  refine Ze es ho.1 fun g' hg _=> ?_;refine aD.2 ⟨h3,ho.2.2.2.1,ho.2.2.2.2,_,?_,hK⟩;have e1:f=fun i=>E.e (E.d (f i)):=ho.2.1;have e2:g=fun i=>E.e (E.d (g i)):=ho.2.2.1;exact aaO (e:=E.e) (s:=E.sl n f) (t:=E.sl m g) rfl rfl (fun i _=>congrFun e1 i) fun i hi=>(hg i hi).trans (congrFun e2 i)
def Bi(H:Heap):List (List AV)→Option (Ob×List (List AV))
 |[]=>some (.tt,[])
 |x::r=>match Fv H x with
  |some q=>match Bi H r with
   |some q'=>some (.and q.1 q'.1,q.2::q'.2)
   |none=>none
  |none=>none
theorem acm{H:Heap} : ∀{xs:List (List AV)} {o:Ob} {ys:List (List AV)} {K:List (List AV)→Prop},Bi H xs=some (o,ys)→o.holds→K ys→nQ H xs K
 |[],o,ys,K,h,_,hK=>by cases h;exact hK
 |x::r,o,ys,K,h,ho,hK=>by
  simp only[Bi]at h
  split at h<;>try (cases h;done)
  rename_i q e
  split at h<;>try (cases h;done)
  rename_i q' e'
  cases h
  exact SZ (o:=q.1) (ys:=q.2) e ho.1 (acm (o:=q'.1) (ys:=q'.2) e' ho.2 hK)
theorem ack{H:Heap} : ∀{xs:List (List AV)} {o:Ob} {ys:List (List AV)},Bi H xs=some (o,ys)→ys.length=xs.length
 |[],o,ys,h=>by cases h;rfl
 |x::r,o,ys,h=>by
  simp only[Bi]at h
  split at h<;>try (cases h;done)
  split at h<;>try (cases h;done)
  rename_i q' e'
  cases h
  simp [ack e']
noncomputable def RV(el:TypeId→Option El)(t:Ty)(tm:List AV)(H:Heap)(nb len:Nat)(ps:List (Nat×Operand)):Option R1:=
 match t.d with
 | .slice e aO _=>match el e with
   |some E=>match lL aO tm ps 0 with
    |some l=>match Bi H l with
     |some q=>gd (Nat.beq l.length len&&Nat.ble len 4096&&Nat.ble aO 4096&&Nat.blt 0 aO)
      (some (.and q.1 (.e (q.2.map fun x=>sV x (E.e (E.d x))) (q.2.map fun x=>E.e (E.d x))),.own nb len,eI H l.flatten++[(nb,0,.ah false aO len fun i=>E.e ((have:=E.wy;Sl.lit (q.2.map E.d)).at' i))]))
     |none=>none
    |none=>none
   |none=>none
 |_=>none
theorem anT{el:TypeId→Option El}{t:Ty}{tm:List AV}{H:Heap}{nb len:Nat}{ps:List (Nat×Operand)}{o:Ob}{av:AV}{ws:Ws}{K:AV→Ws→Prop}(h:RV el t tm H nb len ps=some (o,av,ws))(ho:o.holds)(hK:K av ws):qM t tm H nb len ps K:=by
 unfold RV at h
 split at h<;>try (cases h;done)
 rename_i e aO eb ed;simp only[qM,ed]
 split at h<;>try (cases h;done)
 rename_i E eE
 split at h<;>try (cases h;done)
 rename_i l Sx;simp only[Sx]
 split at h<;>try (cases h;done)
 rename_i q eq;obtain⟨qo,l'⟩:=q;rw[cY]at h;obtain⟨h1,h⟩:=h
 cases h
 refine aD.2 ⟨h1,acm eq ho.1 ⟨_,?_,hK⟩⟩;intro i hi;simp only[aCN]at h1;have hl:=aCS h1.1.1.1;have Nn:l'.length=l.length:=ack eq;have ho:(l'.map fun x=>sV x (E.e (E.d x)))=l'.map fun x=>E.e (E.d x):=ho.2;have gR:i<(l'.map E.d).length:=by rw[List.length_map];omega
 have:= @axp E.T E.wy E.e (l'.map E.d) i gR;rw[List.map_map]at this;rw[←this];have nm:i<l'.length:=by omega
 have e2:=congrArg (fun q:List (List AV)=>q.getD i []) ho;simp only[List.getD,aC4,aCP nm,aDC,aDk]at e2;simp only[List.getD,aC4,aCP nm,aDC,aDk,Function.comp];exact JM e2
def XA(X:XE)(t:Ty)(tm:List AV)(nb:Nat)(l c:Operand):Option R1:=
 match t.d with
 | .slice e aO eb=>match X.ty e with
   |some te=>match aC tm l with
    | .int _ z=>match aC tm c with
      | .int _ z'=>gd (te.zero.all OO&&Nat.beq te.zero.length aO&&Nat.ble aO 4096&&Nat.ble eb 4096&&Nat.blt 0 aO) (some (.and (.e z z') (.p (0≤z∧z≤4096)),.own nb z.toNat,[(nb,0,.ah false aO z.toNat fun _=>te.zero)]))
      |_=>none
    |_=>none
   |none=>none
 |_=>none
theorem axH{X:XE}{t:Ty}{tm:List AV}{nb:Nat}{l c:Operand}{o:Ob}{av:AV}{ws:Ws}{K:AV→Ws→Prop}(h:XA X t tm nb l c=some (o,av,ws))(ho:o.holds)(hK:K av ws):sa X.env t tm nb l c K:=by
 unfold XA at h
 split at h<;>try (cases h;done)
 rename_i e aO eb ed;simp only[sa,ed]
 split at h<;>try (cases h;done)
 rename_i te et;have et':X.env.ty e=some te:=et;simp only[et']
 split at h<;>try (cases h;done)
 rename_i k1 z ez
 split at h<;>try (cases h;done)
 rename_i k2 z' ez';simp only[ez,ez'];rw[cY]at h;obtain⟨h1,h⟩:=h
 cases h
 exact aD.2 ⟨h1,⟨ho.1,ho.2⟩,hK⟩
def wY(tm:List AV)(d:Int)(o:Option Operand):Option Int:=
 match o with
 |none=>some d
 |some x=>match aC tm x with
  | .int _ z=>some z
  |_=>none
theorem ES{tm:List AV}{d z:Int}{o:Option Operand}{K:Int→Prop}(h:wY tm d o=some z)(hK:K z):cB tm d o K:=by
 unfold wY at h;unfold cB
 split at h
 ·cases h;exact hK
 ·rename_i x;simp only
  split at h
  ·rename_i e;cases h;simp only[e];exact hK
  ·cases h
def EO(tm:List AV)(n:Int)(l h m:Option Operand):Option (Int×Int×Int):=
 match wY tm 0 l with
 |some lo=>match wY tm n h with
  |some hi=>match wY tm hi m with
   |some mx=>some (lo,hi,mx)
   |none=>none
  |none=>none
 |none=>none
theorem RR{tm:List AV}{n lo hi mx:Int}{l h m:Option Operand}{K:Int→Int→Int→Prop}(e:EO tm n l h m=some (lo,hi,mx))(hK:K lo hi mx):cB tm 0 l fun lo=>cB tm n h fun hi=>cB tm hi m fun mx=>K lo hi mx:=by
 unfold EO at e
 split at e<;>try (cases e;done)
 rename_i lo' e1
 split at e<;>try (cases e;done)
 rename_i eO e2
 split at e<;>try (cases e;done)
 rename_i mx' e3
 cases e
 exact ES e1 (ES e2 (ES e3 hK))
def RY(c:Bool)(p q:Prop):Ob:=
 match c with
 |true=> .p (p∧q)
 |false=> .p q
theorem aa9{c:Bool}{p q:Prop}(h:(RY c p q).holds):q∧(c=true→p):=by
 cases c with
 |true=>exact⟨h.2,fun _=>h.1⟩
 |false=>exact⟨h,fun e=>by cases e⟩
def Y_(t:Ty)(H:Heap)(tm:List AV)(x:AV)(l h m:Option Operand):Option R1:=
 gd (h.isSome|| !(m.isSome)) (match t.d with
 | .slice _ aO _=>match x with
   | .arr sz n f=>gd (decide (sz=aO)) (match EO tm n l h m with
     |some (lo,hi,mx)=>some (RY (lq m sz) (hi=mx) (0≤lo∧lo≤hi∧hi≤mx∧mx≤n),uL (lq m sz) sz (hi-lo).toNat fun i=>f (lo.toNat+i),[])
     |none=>none)
   | .aE=>match EO tm 0 l h m with
     |some (lo,hi,mx)=>some (.p (lo=0∧hi=0∧mx=0),.aE,[])
     |none=>none
   | .own b k=>match aj H b 0 with
     | .ah ro sz n f=>gd (decide (sz=aO)) (match EO tm n l h m with
       |some (lo,hi,mx)=>some (.and (.e k n) (RY (lq m sz) (hi=mx) (0≤lo∧lo≤hi∧hi≤mx∧mx≤n)),uL (lq m sz) sz (hi-lo).toNat (fun i=>f (lo.toNat+i)),[(b,0,.ah true sz n f)])
       |none=>none)
     |_=>none
   |_=>none
 | .string=>match x with
   | .str s=>match m with
     |none=>match wY tm 0 l with
      |some lo=>match wY tm s.size h with
       |some hi=>some (.p (0≤lo∧lo≤hi∧hi≤s.size),.str (s.extract lo.toNat hi.toNat),[])
       |none=>none
      |none=>none
     |some _=>none
   |_=>none
 |_=>none)
theorem aAG{t:Ty}{H:Heap}{tm:List AV}{x:AV}{l hh m:Option Operand}{o:Ob}{av:AV}{ws:Ws}{K:AV→Ws→Prop}(h:Y_ t H tm x l hh m=some (o,av,ws))(ho:o.holds)(hK:K av ws):sA t H tm x l hh m K:=by
 unfold Y_ at h;rw[cY]at h;refine aD.2 ⟨h.1,?_⟩;have h2:=h.2;clear h
 split at h2<;>try (cases h2;done)
 ·rename_i e aO eb ed;simp only[ed]
  cases x<;>simp only at h2 ⊢ <;>try (cases h2;done)
  ·split at h2<;>try (cases h2;done)
   rename_i lo hi mx e3
   cases h2
   exact RR e3 ⟨ho,hK⟩
  ·rw[cY]at h2;obtain⟨h1,h2⟩:=h2;refine aD.2 ⟨h1,?_⟩
   split at h2<;>try (cases h2;done)
   rename_i lo hi mx e3
   cases h2
   exact RR e3 ⟨aa9 ho,hK⟩
  ·split at h2<;>try (cases h2;done)
   rename_i ro sz n f A_;simp only[A_];rw[cY]at h2;obtain⟨h1,h2⟩:=h2;refine aD.2 ⟨h1,?_⟩
   split at h2<;>try (cases h2;done)
   rename_i lo hi mx e3
   cases h2
   exact⟨ho.1,RR e3 ⟨aa9 ho.2,hK⟩⟩
 ·rename_i ed;simp only[ed]
  cases x<;>simp only at h2 ⊢ <;>try (cases h2;done)
  split at h2<;>try (cases h2;done)
  simp only
  split at h2<;>try (cases h2;done)
  rename_i lo e1
  split at h2<;>try (cases h2;done)
  rename_i hi e2
  cases h2
  exact ES e1 (ES e2 ⟨ho,hK⟩)
def aaI(f:Nat→List AV):Ob:= .e (fun i=>Ir ((f i).getD 0 .undef)) fun _=>true
def Se(t u:Ty)(eu:Option Ty)(H:Heap)(x:AV):Option V1:=
 match x with
 | .int _ z=>match u.d with
   | .int k=>match t.d with
     | .int _=>cJ (.int k (k.wrap z))
     |_=>none
   |_=>none
 | .str s=>match t.d with
   | .string=>match u.d with
     | .string=>cJ (.str s)
     | .slice .. =>gd (oK u eu) (cJ (.arr 1 s.size (wZ s)))
     |_=>none
   |_=>none
 | .arr sz n f=>gd (u.d.isStr&&oK t eu&&Nat.beq sz 1) (some (aaI f,.str (bytesOf n f)))
 | .aE=>gd (u.d.isStr&&oK t eu) (cJ (.str ⟨#[]⟩))
 | .own b k'=>match aj H b 0 with
   | .ah _ sz n f=>gd (u.d.isStr&&oK t eu&&Nat.beq sz 1) (some (.and (.e k' n) (aaI f),.str (bytesOf n f)))
   |_=>none
 |_=>none
theorem aoq{t u:Ty}{eu:Option Ty}{H:Heap}{x:AV}{o:Ob}{av:AV}{K:AV→Prop}(h:Se t u eu H x=some (o,av))(ho:o.holds)(hK:K av):sU t u eu H x K:=by
 unfold Se at h;unfold sU
 cases x<;>simp only[cJ,cY]at h ⊢ <;>try (cases h;done)
 ·split at h<;>try (cases h;done)
  rename_i e1
  split at h<;>try (cases h;done)
  rename_i e2
  cases h
  simp only[e1,e2];exact hK
 ·split at h<;>try (cases h;done)
  rename_i e1
  split at h<;>try (cases h;done)
  ·rename_i e2
   cases h
   simp only[e1,e2];exact hK
  ·rename_i e2;rw[cY]at h;obtain⟨h1,h⟩:=h
   cases h
   simp only[e1,e2];exact aD.2 ⟨h1,hK⟩
 ·obtain⟨h1,h⟩:=h
  cases h
  exact aD.2 ⟨h1,hK⟩
 ·obtain⟨h1,h⟩:=h
  cases h
  exact aD.2 ⟨h1,fun i _=>congrFun ho i,hK⟩
 ·split at h<;>try (cases h;done)
  rename_i e;rw[cY]at h;obtain⟨h1,h⟩:=h
  cases h
  simp only[e];exact aD.2 ⟨h1,ho.1,fun i _=>congrFun ho.2 i,hK⟩
def XD(x y:AV):Option V1:=
 match x with
 | .int k a=>match y with
   | .int k' b=>gd (decide (k=k')) (cJ (.int k (gM a b)))
   |_=>none
 |_=>none
theorem axR{x y:AV}{o:Ob}{av:AV}{K:AV→Prop}(h:XD x y=some (o,av))(hK:K av):Aa x y K:=by
 unfold XD at h
 cases x<;>simp only at h<;>try (cases h;done)
 cases y<;>simp only[cY,cJ]at h<;>try (cases h;done)
 obtain⟨h1,h⟩:=h
 cases h
 exact aD.2 ⟨h1,hK⟩
def XB(x y:AV):Option V1:=
 match x with
 | .int k a=>match y with
   | .int k' b=>gd (decide (k=k')) (cJ (.int k (imax a b)))
   |_=>none
 |_=>none
theorem axM{x y:AV}{o:Ob}{av:AV}{K:AV→Prop}(h:XB x y=some (o,av))(hK:K av):z_ x y K:=by
 unfold XB at h
 cases x<;>simp only at h<;>try (cases h;done)
 cases y<;>simp only[cY,cJ]at h<;>try (cases h;done)
 obtain⟨h1,h⟩:=h
 cases h
 exact aD.2 ⟨h1,hK⟩
def XP(H:Heap)(x:AV):Option V1:=
 match x with
 | .ptr .. =>cJ x
 | .ref _=>cJ x
 | .fF b k _ _=>match aj H b 0 with
   | .ah _ _ n _=>some (.e k n,x)
   |_=>none
 |_=>none
theorem ays{H:Heap}{x:AV}{o:Ob}{av:AV}{K:AV→Prop}(h:XP H x=some (o,av))(ho:o.holds)(hK:K av):uI H x K:=by
 unfold XP at h;unfold uI
 cases x<;>simp only[cJ]at h ⊢ <;>try (cases h;done)
 ·cases h;exact hK
 ·split at h
  ·rename_i e;cases h;simp only[e];exact⟨ho,hK⟩
  ·cases h
 ·cases h;exact hK
def VI(X:XE)(H:Heap)(nb:Nat)(f:FuncId)(aa:List AV):Option R1:=
 gd (nodup (dG H aa)&&(dG H aa).all (fun b=>zY (H.getD b [])&&(H.getD b []).all (nN (mem (dG H aa))))&&aa.all (xk (mem (dG H aa))))
  (match X.jU f (aa.map (lM (pos (dG H aa)))) ((dG H aa).map fun b=>(H.getD b []).map (fB (pos (dG H aa))))with
  |some q=>gd (!(q.2.2.isEmpty)&&qz (dG H aa) H q.2.2&&q.2.2.all (fun l=>l.all (nN (qk q.2.2.length)))&&q.2.1.all (fun r=>xk (qk q.2.2.length) r&&oH r))
    (some (q.1,Pq (q.2.1.map (lM (uS (dG H aa) nb))),sR (uS (dG H aa) nb) 0 q.2.2))
  |none=>none)
theorem asU{X:XE}{H:Heap}{nb:Nat}{f:FuncId}{aa:List AV}{o:Ob}{av:AV}{ws:Ws}{K:AV→Ws→Prop}(h:VI X H nb f aa=some (o,av,ws))(ho:o.holds)(hK:K av ws):ot X.env H nb f aa K:=by
 unfold VI at h;rw[cY]at h;refine aD.2 ⟨h.1,?_⟩;have h2:=h.2;clear h
 split at h2<;>try (cases h2;done)
 rename_i q e;have e2:X.env.jU f (aa.map (lM (pos (dG H aa)))) ((dG H aa).map fun b=>(H.getD b []).map (fB (pos (dG H aa))))=some (some q.1.holds,q.2):=by simp only[XE.env,e]
 rw[cY]at h2;obtain⟨h3,h2⟩:=h2
 cases h2
 obtain⟨q1,q2,q3⟩:=q;rw[e2];exact⟨ho,aD.2 ⟨h3,hK⟩⟩
def jJ{α:Type _}(X:XE)(T:TypeId)(K:Ty→Option α):Option α:=
 match X.ty T with
 |some t=>K t
 |none=>none
theorem kE{α:Type _}{X:XE}{T:TypeId}{K:Ty→Option α}{a:α}(h:jJ X T K=some a): ∃t,X.env.ty T=some t∧K t=some a:=by
 unfold jJ at h
 split at h
 ·rename_i t e;exact⟨t,e,h⟩
 ·cases h
theorem kF{E:Env}{T:TypeId}{t:Ty}{K:Ty→Prop}(h:E.ty T=some t)(hK:K t):dq E T K:=by
 unfold dq;rw[h];exact hK
noncomputable def OI(X:XE)(nb:Nat)(tm:List AV)(H:Heap)(op:Op):Option R1:=
 match op with
 | .move x=>some (.tt,aC tm x,[])
 | .assign x=>some (.tt,aC tm x,[])
 | .pick c x y=>match aC tm c with
   | .lit b=>match b with
     |true=>some (.tt,aC tm x,[])
     |false=>some (.tt,aC tm y,[])
   |_=>none
 | .alloc T=>jJ X T fun t=>gd (!t.zero.isEmpty) (some (.tt,.ptr nb 0,iy nb t.zero 0))
 | .box _ x=>gd (oH (aC tm x)&& !(cellsOf (aC tm x)).isEmpty) (some (.tt,.ptr nb 0,iy nb (cellsOf (aC tm x)) 0))
 | .build T ps=>jJ X T fun t=>match t.d with
   | .struct dC=>match JF dC tm ps.toList t.zero with
     |some cs=>some (.tt,.agg cs,[])
     |none=>none
   |_=>none
 | .load T x=>jJ X T fun t=>val (loadT t H (aC tm x))
 | .store T x y=>jJ X T fun t=>match storeT (X.ao0 H (aC tm x)) t H (aC tm x) (aC tm y)with
   |some q=>some (q.1,.undef,q.2)
   |none=>none
 | .nilCheck x=>val (XP H (aC tm x))
 | .binOp op T x y _=>jJ X T fun t=>val (RQ t op (eR (aC tm x)) (eR (aC tm y)))
 | .unOp op _ x=>val (Zu op (aC tm x))
 | .fieldAddr T x f=>jJ X T fun t=>val (SK t H f (aC tm x))
 | .indexAddr T x y=>jJ X T fun t=>val (WG t H (aC tm x) (aC tm y))
 | .index T x y=>jJ X T fun t=>val (WE X.ty t (aC tm x) (aC tm y))
 | .extract x i=>val (SI i (aC tm x))
 | .buildSlice T len ps=>jJ X T fun t=>RV X.el t tm H nb len ps.toList
 | .makeSlice T l c=>jJ X T fun t=>XA X t tm nb l c
 | .slice T x l h m=>jJ X T fun t=>Y_ t H tm (aC tm x) l h m
 | .convert Ts Td x=>jJ X Ts fun t=>jJ X Td fun u=>val (Se t u (vm X.env t u) H (aC tm x))
 | .makeFunc fn first captured=>match fn with
   | .func f=>gd (first.toList.isEmpty&&(captured.toList.map (aC tm)).all aa_) (some (.tt,.fn f (captured.toList.map (aC tm)),[]))
   |_=>none
 | .call c=>match c.callee with
   | .value x=>match aC tm x with
     | .fn f bp=>match zS X.ho f (c.args.toList.map (aC tm)++bp)with
       |true=>VI X H nb f (c.args.toList.map (aC tm)++bp)
       |false=>gd (bp.all nK) (RX X H nb f (c.args.toList.map (aC tm)++bp))
     |_=>none
   | .builtin b=>match b with
     | .len=>match c.args.toList with
       |[x]=>match c.argTypes.toList with
        |[T]=>jJ X T fun t=>gd (IB t (aC tm x)) (val (Xt H (aC tm x)))
        |_=>none
       |_=>none
     | .append=>match c.args.toList with
       |[x,y]=>match c.argTypes.toList with
        |[T,T2]=>jJ X T fun t=>jJ X T2 fun t2=>gd (t2.d.isStr||t2.d.uu) (RK X.el t t2.d.isStr H nb (aC tm x) (aC tm y))
        |_=>none
       |_=>none
     | .min=>match c.args.toList with
       |[x,y]=>val (XD (aC tm x) (aC tm y))
       |_=>none
     | .max=>match c.args.toList with
       |[x,y]=>val (XB (aC tm x) (aC tm y))
       |_=>none
     |_=>none
   |_=>none
 |_=>none
theorem DS{X:XE}{nb:Nat}{tm:List AV}{H:Heap}{op:Op}{o:Ob}{av:AV}{ws:Ws}{K:AV→Ws→Prop}(h:OI X nb tm H op=some (o,av,ws))(ho:o.holds)(hK:K av ws):iQ X.env nb tm H op K:=by
 cases op<;>simp only[OI]at h<;>try (cases h;done)
 case move x=>cases h;exact hK
 case assign x=>cases h;exact hK
 case pick c x y=>
  split at h<;>try (cases h;done)
  rename_i b e;simp only[iQ,e]
  cases b<;>(cases h;exact hK)
 case alloc T=>
  obtain⟨t,h1,h2⟩:=kE h;rw[cY]at h2;obtain⟨h3,h2⟩:=h2
  cases h2
  exact kF h1 (aD.2 ⟨h3,hK⟩)
 case box T x=>
  rw[cY]at h;obtain⟨h3,h2⟩:=h
  cases h2
  exact aD.2 ⟨h3,hK⟩
 case build T ps=>
  obtain⟨t,h1,h2⟩:=kE h;refine kF h1 ?_
  split at h2<;>try (cases h2;done)
  rename_i dC e;simp only[e]
  split at h2<;>try (cases h2;done)
  rename_i cs e2
  cases h2
  exact aa5 e2 hK
 case load T x=>
  obtain⟨t,h1,h2⟩:=kE h;obtain⟨h3,rfl⟩:=pt.1 h2;exact kF h1 (Oh (K:=fun av=>K av []) h3 ho hK)
 case store T x y=>
  obtain⟨t,h1,h2⟩:=kE h
  split at h2<;>try (cases h2;done)
  rename_i q e
  cases h2
  exact kF h1 (aAQ (o:=q.1) (ws:=q.2) e ho hK)
 case nilCheck x=>
  obtain⟨h3,rfl⟩:=pt.1 h;exact ays (K:=fun av=>K av []) h3 ho hK
 case binOp op T x y T'=>
  obtain⟨t,h1,h2⟩:=kE h;obtain⟨h3,rfl⟩:=pt.1 h2;exact kF h1 (anK (K:=fun av=>K av []) h3 ho hK)
 case unOp op T x=>
  obtain⟨h3,rfl⟩:=pt.1 h;exact aBe (K:=fun av=>K av []) h3 hK
 case fieldAddr T x f=>
  obtain⟨t,h1,h2⟩:=kE h;obtain⟨h3,rfl⟩:=pt.1 h2;exact kF h1 (apl (K:=fun av=>K av []) h3 ho hK)
 case indexAddr T x y=>
  obtain⟨t,h1,h2⟩:=kE h;obtain⟨h3,rfl⟩:=pt.1 h2;exact kF h1 (atJ (K:=fun av=>K av []) h3 ho hK)
 case index T x y=>
  obtain⟨t,h1,h2⟩:=kE h;obtain⟨h3,rfl⟩:=pt.1 h2;exact kF h1 (atB (K:=fun av=>K av []) h3 hK)
 case extract x i=>
  obtain⟨h3,rfl⟩:=pt.1 h;exact ao_ (K:=fun av=>K av []) h3 hK
 case buildSlice T len ps=>
  obtain⟨t,h1,h2⟩:=kE h;exact kF h1 (anT h2 ho hK)
 case makeSlice T l c=>
  obtain⟨t,h1,h2⟩:=kE h;exact kF h1 (axH h2 ho hK)
 case slice T x l hh m=>
  obtain⟨t,h1,h2⟩:=kE h;exact kF h1 (aAG h2 ho hK)
 case convert Ts Td x=>
  obtain⟨t,h1,h2⟩:=kE h;obtain⟨u,h3,h4⟩:=kE h2;obtain⟨h5,rfl⟩:=pt.1 h4;exact kF h1 (kF h3 (aoq (K:=fun av=>K av []) h5 ho hK))
 case makeFunc fn first captured=>
  cases fn<;>simp only at h<;>try (cases h;done)
  rw[cY]at h;obtain⟨h3,h2⟩:=h
  cases h2
  exact aD.2 ⟨h3,hK⟩
 case call c=>
  simp only[iQ]
  cases ec:c.callee with
  |value f=>
   rw[ec]at h;simp only at h ⊢;unfold AT
   split at h<;>try (cases h;done)
   rename_i g bp ef;simp only[ef];have eho:X.env.ho=X.ho:=rfl;rw[eho]
   cases ep:zS X.ho g (c.args.toList.map (aC tm)++bp)with
   |true=>rw[ep]at h;exact asU h ho hK
   |false=>
    rw[ep]at h;simp only[cY]at h;exact aD.2 ⟨h.1,an3 h.2 ho hK⟩
  |invoke r m=>rw[ec]at h;cases h
  |builtin b=>
   rw[ec]at h
   cases b<;>simp only at h ⊢ <;>try (cases h;done)
   case append=>
    split at h<;>try (cases h;done)
    rename_i x y e1
    split at h<;>try (cases h;done)
    rename_i T T2 e2;obtain⟨t,h1,h2⟩:=kE h;obtain⟨u,h3,h4⟩:=kE h2;rw[cY]at h4;simp only[e1,e2];exact kF h1 (kF h3 (aD.2 ⟨h4.1,anA h4.2 ho hK⟩))
   case min=>
    split at h<;>try (cases h;done)
    rename_i x y e1;obtain⟨h3,rfl⟩:=pt.1 h;simp only[e1];exact axR (K:=fun av=>K av []) h3 hK
   case max=>
    split at h<;>try (cases h;done)
    rename_i x y e1;obtain⟨h3,rfl⟩:=pt.1 h;simp only[e1];exact axM (K:=fun av=>K av []) h3 hK
   case len=>
    split at h<;>try (cases h;done)
    rename_i x e1
    split at h<;>try (cases h;done)
    rename_i T e2;obtain⟨t,h1,h2⟩:=kE h;rw[cY]at h2;obtain⟨h5,rfl⟩:=pt.1 h2.2;simp only[e1,e2];exact kF h1 (aD.2 ⟨h2.1,axi h5 ho hK⟩)
def CS(ops:Array Oper)(o:Oper)(tm:List AV):Option Bool:=
 match o.guard with
 |none=>some true
 |some (j,want)=>match(ops[j]?).bind (·.dst)with
  |some d=>match tm.getD d .undef with
   | .lit b=>some (b==want)
   | .gone=>some false
   |_=>none
  |none=>none
def Og(used:Bool)(av:AV):Option Bool:=
 match used with
 |true=>match av with
  | .bool b=>some b
  |_=>none
 |false=>none
def abC:Op→Bool
 | .panic .. =>true
 | .makeInterface .. =>true
 |_=>false
abbrev RL:=Option (St×List Rec)
def sy(b:Nat):Nat→Ws→List AV×Ws
 |_,[]=>([],[])
 |o,x::r=>match Nat.beq x.1 b&&Nat.beq x.2.1 o with
  |true=>(x.2.2::(sy b (o+1) r).1,(sy b (o+1) r).2)
  |false=>([],x::r)
def Ib:Nat→Heap→Ws→Heap
 |0,H,ws=>bm H ws
 |n+1,H,ws=>match ws with
  |[]=>H
  |x::r=>match x.2.1 with
   |0=>Ib n (setAt [] H x.1 (x.2.2::(sy x.1 1 r).1++(H.getD x.1 []).drop ((sy x.1 1 r).1.length+1))) (sy x.1 1 r).2
   |o+1=>Ib n (bl H x.1 (o+1) x.2.2) r
def zO(H:Heap)(ws:Ws):Heap:=Ib ws.length H ws
theorem ajG{α:Type}(d:α)(x:α): ∀(p r:List α),setAt d (p++r) p.length x=p++x::r.drop 1
 |[],[]=>rfl
 |[],_::_=>rfl
 |a::p,r=>by simp only[aEd,aC7,setAt,ajG d x p r]
theorem ar5{α:Type}(d x e:α)(l:List α)(i:Nat):(setAt d l i x).getD i e=x:=by
 induction l generalizing i with
 |nil=>
  induction i with
  |zero=>rfl
  |succ i ih=>simpa[setAt]using ih
 |cons a l ih=>
  cases i with
  |zero=>rfl
  |succ i=>simpa[setAt]using ih i
theorem run_eq(b:Nat): ∀(r:Ws) (H:Heap) (p q:List AV),bm (setAt [] H b (p++q)) r=bm (setAt [] H b (p++(sy b p.length r).1++q.drop (sy b p.length r).1.length)) (sy b p.length r).2
 |[],H,p,q=>by simp [sy]
 |x::r,H,p,q=>by
  unfold sy
  cases e:(Nat.beq x.1 b&&Nat.beq x.2.1 p.length)with
  |false=>simp
  |true=>
   simp only[aCN]at e;have e1:=aCS e.1;have e2:=aCS e.2;obtain⟨b',o',c⟩:=x;simp only at e1 e2;subst e1 e2;have h:=run_eq b' r H (p++[c]) (q.drop 1);have hl:(p++[c]).length=p.length+1:=by simp
   rw[hl]at h;show bm (bl (setAt [] H b' (p++q)) b' p.length c) r=_;unfold bl;rw[ar5,I9,ajG];simp only[aDe,aD5]at h;rw[h];simp only[aC7,aDT,aDe,aEd,Nat.add_comm]
theorem Wx: ∀(n:Nat) (H:Heap) (ws:Ws),Ib n H ws=bm H ws
 |0,_,_=>rfl
 |n+1,H,[]=>rfl
 |n+1,H,(b,o,c)::r=>by
  unfold Ib
  cases o with
  |zero=>
   simp only;rw[Wx n];show _=bm (bl H b 0 c) r;unfold bl;have h0:setAt .undef (H.getD b []) 0 c=[c]++(H.getD b []).drop 1:=by
    cases H.getD b []<;>rfl
   rw[h0];have h:=run_eq b r H [c] ((H.getD b []).drop 1);rw[h];simp only[aC7,aDf,aCO,aDT,aEd,aDD,Nat.add_comm]
  |succ o=>
   simp only;rw[Wx n];rfl
theorem Ia(H:Heap)(ws:Ws):zO H ws=bm H ws:=Wx _ _ _
noncomputable def qp(X:XE)(ops:Array Oper):List Oper→Nat→St→List Rec→Option (Ob×T RL)
 |[],_,st,rs=>some (.tt,.lf (some (st,rs)))
 |o::rest,i,st,rs=>match CS ops o st.tm with
  |none=>none
  |some g=>match g with
   |false=>qp X ops rest (i+1) ⟨kO o.dst .gone st.tm,st.hp⟩ (⟨.gone,[],[],[],0,false⟩::rs)
   |true=>match abC o.op with
    |true=>some (.p False,.lf none)
    |false=>match OI X (uG st.tm st.hp o.op) st.tm st.hp o.op with
     |none=>none
     |some r=>match Og (Jj rest i) r.2.1 with
      |some b=>match qp X ops rest (i+1) ⟨kO o.dst (.lit true) st.tm,zO st.hp r.2.2⟩ (⟨.lit true,r.2.2,kZ X.env st.tm o.op,qw st.tm st.hp o.op,uG st.tm st.hp o.op,true⟩::rs)with
       |none=>none
       |some q1=>match qp X ops rest (i+1) ⟨kO o.dst (.lit false) st.tm,zO st.hp r.2.2⟩ (⟨.lit false,r.2.2,kZ X.env st.tm o.op,qw st.tm st.hp o.op,uG st.tm st.hp o.op,true⟩::rs)with
        |none=>none
        |some q2=>some (.and r.1 (.and (.imp b true q1.1) (.imp b false q2.1)),.br b q1.2 q2.2)
      |none=>match qp X ops rest (i+1) ⟨kO o.dst r.2.1 st.tm,zO st.hp r.2.2⟩ (⟨r.2.1,r.2.2,kZ X.env st.tm o.op,qw st.tm st.hp o.op,uG st.tm st.hp o.op,true⟩::rs)with
       |none=>none
       |some q=>some (.and r.1 q.1,q.2)
theorem Vo{ops:Array Oper}{o:Oper}{st:St}{run skip:Prop}(h:CS ops o st.tm=some true)(k:run):vZ ops o st run skip:=by
 unfold CS at h;unfold vZ
 split at h
 ·rename_i e;simp only[e];exact k
 ·rename_i j want e;simp only[e]
  split at h<;>try (cases h;done)
  rename_i d e2;simp only[e2]
  split at h<;>try (cases h;done)
  rename_i b e3;simp only[e3];simp only[aC3]at h;simp only[h];exact k
theorem Vp{ops:Array Oper}{o:Oper}{st:St}{run skip:Prop}(h:CS ops o st.tm=some false)(k:skip):vZ ops o st run skip:=by
 unfold CS at h;unfold vZ
 split at h
 ·cases h
 ·rename_i j want e;simp only[e]
  split at h<;>try (cases h;done)
  rename_i d e2;simp only[e2]
  split at h<;>try (cases h;done)
  ·rename_i b e3;simp only[e3];simp only[aC3]at h;simp only[h];exact k
  ·rename_i e3;simp only[e3];exact k
theorem DF{used:Bool}{av:AV}{K:AV→Prop}(h:match Og used av with
  |some b=>(b=true→K (.lit true))∧(b=false→K (.lit false))
  |none=>K av):DE used av K:=by
 unfold Og at h;unfold DE
 cases used
 ·exact h
 ·simp only at h ⊢
  cases av<;>exact h
theorem IX{X:XE}{ops:Array Oper}{K:List Rec→St→Prop} : ∀(l:List Oper) (i:Nat) (st:St) (rs:List Rec) (o:Ob) (t:T RL),qp X ops l i st rs=some (o,t)→o.holds→
  (∀s jr,t.bq=some (s,jr)→K jr.reverse s)→sO X.env ops l i st rs K
 |[],i,st,rs,o,t,h,ho,hK=>by
  cases h
  exact hK st rs rfl
 |p::l,i,st,rs,o,t,h,ho,hK=>by
  simp only[qp,Ia]at h;simp only[sO]
  split at h<;>try (cases h;done)
  rename_i g eg
  split at h
  ·exact Vp eg (IX l _ _ _ o t h ho hK)
  ·refine Vo eg ?_
   split at h
   ·cases h;exact ho.elim
   split at h<;>try (cases h;done)
   rename_i r er;obtain⟨ro,rav,rws⟩:=r
   split at h
   ·rename_i b eb
    split at h<;>try (cases h;done)
    rename_i q1 e1
    split at h<;>try (cases h;done)
    rename_i q2 e2
    cases h
    refine⟨_,II st.tm st.hp p.op,?_⟩;refine DS er ho.1 (DF ?_);simp only at eb;simp only[eb];constructor
    ·intro hb;subst hb;exact IX l _ _ _ q1.1 q1.2 e1 (ho.2.1 rfl) fun s jr hs=>hK s jr hs
    ·intro hb;subst hb;exact IX l _ _ _ q2.1 q2.2 e2 (ho.2.2 rfl) fun s jr hs=>hK s jr hs
   ·rename_i eb
    split at h<;>try (cases h;done)
    rename_i q e1
    cases h
    refine⟨_,II st.tm st.hp p.op,?_⟩;refine DS er ho.1 (DF ?_);simp only at eb;simp only[eb];exact IX l _ _ _ q.1 q.2 e1 ho.2 hK
theorem IZ{X:XE}{ops:Array Oper}{K:St→Prop} : ∀(l:List Oper) (i:Nat) (st:St) (rs:List Rec) (o:Ob) (t:T RL),qp X ops l i st rs=some (o,t)→o.holds→
  (∀s jr,t.bq=some (s,jr)→K s)→AO X.env ops l i st K
 |[],i,st,rs,o,t,h,ho,hK=>by
  cases h
  exact hK st rs rfl
 |p::l,i,st,rs,o,t,h,ho,hK=>by
  simp only[qp,Ia]at h;simp only[AO]
  split at h<;>try (cases h;done)
  rename_i g eg
  split at h
  ·exact Vp eg (IZ l _ _ _ o t h ho hK)
  ·refine Vo eg ?_
   split at h
   ·cases h;exact ho.elim
   split at h<;>try (cases h;done)
   rename_i r er;obtain⟨ro,rav,rws⟩:=r
   split at h
   ·rename_i b eb
    split at h<;>try (cases h;done)
    rename_i q1 e1
    split at h<;>try (cases h;done)
    rename_i q2 e2
    cases h
    refine DS er ho.1 (DF ?_);simp only at eb;simp only[eb];constructor
    ·intro hb;subst hb;exact IZ l _ _ _ q1.1 q1.2 e1 (ho.2.1 rfl) fun s jr hs=>hK s jr hs
    ·intro hb;subst hb;exact IZ l _ _ _ q2.1 q2.2 e2 (ho.2.2 rfl) fun s jr hs=>hK s jr hs
   ·rename_i eb
    split at h<;>try (cases h;done)
    rename_i q e1
    cases h
    refine DS er ho.1 (DF ?_);simp only at eb;simp only[eb];exact IZ l _ _ _ q.1 q.2 e1 ho.2 hK
inductive Lf where
 |nrm (s:St)
 |ext (id:Nat) (s:St)
 |ret (vs:List AV)
 |dead
structure jw where
 o:Ob
 f:Option Prop
 t:T Lf
def jw.bad:jw:=⟨.p False,none,.lf .dead⟩
def T.sQ{α:Type _}(f:α→Bool):T α→Bool
 | .lf a=>f a
 | .br _ l r=>match l.sQ f with
   |true=>r.sQ f
   |false=>false
theorem T.AM{α:Type _}{f:α→Bool} : ∀{t:T α},t.sQ f=true→f t.bq=true
 | .lf _,h=>h
 | .br b l r,h=>by
   simp only[T.sQ]at h
   split at h
   ·rename_i e
    cases b
    ·exact T.AM (t:=r) h
    ·exact T.AM (t:=l) e
   ·cases h
def Of:RL→Lf
 |some q=> .nrm q.1
 |none=> .dead
noncomputable def ky(X:XE)(ops:Array Oper)(draw:Bool)(st:St):jw:=
 match qp X ops ops.toList 0 st []with
 |none=> .bad
 |some q=>match draw with
  |false=>⟨q.1,none,q.2.map Of⟩
  |true=>match q.2.sQ (fun x=>match x with
    |some y=>indep st.hp ops y.2.reverse
    |none=>true)with
   |true=>⟨q.1,none,q.2.map Of⟩
   |false=> .bad
theorem ajd{X:XE}(hE:X.env.Ok){id:Nat}{ops:Array Oper}{draw:Bool}{st:St}{Q:Exit→St→Prop}(ho:(ky X ops draw st).o.holds)(hQ: ∀s,(ky X ops draw st).t.bq= .nrm s→Q .normal s):WP X.env (.region id ops draw) Q st:=by
 unfold ky at ho hQ;refine WP.XY hE ?_;simp only[mT]
 split at ho
 ·exact ho.elim
 ·rename_i q e;obtain⟨o,t⟩:=q;simp only[e]at hQ
  cases draw with
  |false=>
   simp only at hQ ho ⊢;exact IZ _ _ _ _ o t e ho fun s jr hs=>hQ s (by rw[T.mg,hs];rfl)
  |true=>
   simp only at hQ ho ⊢
   split at ho
   ·rename_i eb;simp only[eb]at hQ;refine IX _ _ _ _ o t e ho fun s jr hs=>⟨?_,hQ s (by rw[T.mg,hs];rfl)⟩;have:=T.AM eb;rw[hs]at this;exact AI.of this
   ·exact ho.elim
def Oo(L:List (Nat×Nat))(b p:Nat):Bool:=L.any fun x=>Nat.beq x.1 b&&Nat.beq x.2 p
def IS(H:Heap)(L:List (Nat×Nat)):Ws→Eo
 |[]=> .tt
 |x::r=>match Oo L x.1 x.2.1 with
  |true=> .and (.e x.2.2 (aj H x.1 x.2.1)) (IS H L r)
  |false=>IS H L r
def OC(H:Heap)(L:List (Nat×Nat)):List Rec→Eo
 |[]=> .tt
 |r::rs=> .and (IS H L r.ws) (OC H L rs)
theorem XT{H:Heap}{L:List (Nat×Nat)} : ∀{ws:Ws},(IS H L ws).holds→ ∀b p c,Oo L b p=true→(b,p,c)∈ws→c=aj H b p
 |[],_,_,_,_,_,h=>by cases h
 |x::r,ho,b,p,c,hm,h=>by
  unfold IS at ho;rcases aDa.1 h with e|e
  ·subst e;rw[hm]at ho;exact ho.1
  ·split at ho
   ·exact XT ho.2 b p c hm e
   ·exact XT ho b p c hm e
theorem aiw{H:Heap}{L:List (Nat×Nat)} : ∀{rs:List Rec},(OC H L rs).holds→ ∀b p,Oo L b p=true→ ∀r∈rs,∀c,(b,p,c)∈r.ws→c=aj H b p
 |[],_,_,_,_,_,h,_,_=>by cases h
 |r0::rs,ho,b,p,hm,r,h,c,hc=>by
  rcases aDa.1 h with e|e
  ·subst e;exact XT ho.1 b p c hm hc
  ·exact aiw ho.2 b p hm r e c hc
def OE(H:Heap)(L:List (Nat×Nat)):T RL→Eo
 | .lf a=>match a with
   |some y=>OC H L y.2.reverse
   |none=> .tt
 | .br _ l r=> .and (OE H L l) (OE H L r)
theorem XU{H:Heap}{L:List (Nat×Nat)} : ∀{t:T RL} {y:St×List Rec},(OE H L t).holds→t.bq=some y→(OC H L y.2.reverse).holds
 | .lf a,y,h,e=>by
   simp only[T.bq]at e;subst e;exact h
 | .br b l r,y,h,e=>by
   cases b
   ·exact XU (t:=r) h.2 e
   ·exact XU (t:=l) h.1 e
def DK(tm:List AV)(H:Heap)(op:Op):Nat:=match op with
 | .call _=>H.length+32
 |op=>uG tm H op
theorem aim(tm:List AV)(H:Heap)(op:Op):H.length≤DK tm H op:=by
 unfold DK
 split
 ·exact aDB _ _
 ·exact II _ _ _
noncomputable def uK(X:XE)(ops:Array Oper):List Oper→Nat→St→List Rec→Option (Ob×T RL)
 |[],_,st,rs=>some (.tt,.lf (some (st,rs)))
 |o::rest,i,st,rs=>match CS ops o st.tm with
  |none=>none
  |some g=>match g with
   |false=>uK X ops rest (i+1) ⟨kO o.dst .gone st.tm,st.hp⟩ (⟨.gone,[],[],[],0,false⟩::rs)
   |true=>match abC o.op with
    |true=>some (.p False,.lf none)
    |false=>match OI X (DK st.tm st.hp o.op) st.tm st.hp o.op with
     |none=>none
     |some r=>match Og (Jj rest i) r.2.1 with
      |some b=>match uK X ops rest (i+1) ⟨kO o.dst (.lit true) st.tm,zO st.hp r.2.2⟩ (⟨.lit true,r.2.2,kZ X.env st.tm o.op,qw st.tm st.hp o.op,DK st.tm st.hp o.op,true⟩::rs)with
       |none=>none
       |some q1=>match uK X ops rest (i+1) ⟨kO o.dst (.lit false) st.tm,zO st.hp r.2.2⟩ (⟨.lit false,r.2.2,kZ X.env st.tm o.op,qw st.tm st.hp o.op,DK st.tm st.hp o.op,true⟩::rs)with
        |none=>none
        |some q2=>some (.and r.1 (.and (.imp b true q1.1) (.imp b false q2.1)),.br b q1.2 q2.2)
      |none=>match uK X ops rest (i+1) ⟨kO o.dst r.2.1 st.tm,zO st.hp r.2.2⟩ (⟨r.2.1,r.2.2,kZ X.env st.tm o.op,qw st.tm st.hp o.op,DK st.tm st.hp o.op,true⟩::rs)with
       |none=>none
       |some q=>some (.and r.1 q.1,q.2)
theorem IV{X:XE}{ops:Array Oper}{K:List Rec→St→Prop} : ∀(l:List Oper) (i:Nat) (st:St) (rs:List Rec) (o:Ob) (t:T RL),uK X ops l i st rs=some (o,t)→o.holds→
  (∀s jr,t.bq=some (s,jr)→K jr.reverse s)→sO X.env ops l i st rs K
 |[],i,st,rs,o,t,h,ho,hK=>by
  cases h
  exact hK st rs rfl
 |p::l,i,st,rs,o,t,h,ho,hK=>by
  simp only[uK,Ia]at h;simp only[sO]
  split at h<;>try (cases h;done)
  rename_i g eg
  split at h
  ·exact Vp eg (IV l _ _ _ o t h ho hK)
  ·refine Vo eg ?_
   split at h
   ·cases h;exact ho.elim
   split at h<;>try (cases h;done)
   rename_i r er;obtain⟨ro,rav,rws⟩:=r
   split at h
   ·rename_i b eb
    split at h<;>try (cases h;done)
    rename_i q1 e1
    split at h<;>try (cases h;done)
    rename_i q2 e2
    cases h
    refine⟨_,aim st.tm st.hp p.op,?_⟩;refine DS er ho.1 (DF ?_);simp only at eb;simp only[eb];constructor
    ·intro hb;subst hb;exact IV l _ _ _ q1.1 q1.2 e1 (ho.2.1 rfl) fun s jr hs=>hK s jr hs
    ·intro hb;subst hb;exact IV l _ _ _ q2.1 q2.2 e2 (ho.2.2 rfl) fun s jr hs=>hK s jr hs
   ·rename_i eb
    split at h<;>try (cases h;done)
    rename_i q e1
    cases h
    refine⟨_,aim st.tm st.hp p.op,?_⟩;refine DS er ho.1 (DF ?_);simp only at eb;simp only[eb];exact IV l _ _ _ q.1 q.2 e1 ho.2 hK
noncomputable def uP(X:XE)(ops:Array Oper)(L:List (Nat×Nat))(st:St):jw:=
 match uK X ops ops.toList 0 st []with
 |none=> .bad
 |some q=>match q.2.sQ (fun x=>match x with
   |some y=>zR (fun b p=>OD st.hp y.2.reverse b p||Oo L b p) ops y.2.reverse
   |none=>true)with
  |true=>⟨.and q.1 (.es fun _:Unit=>OE st.hp L q.2),none,q.2.map Of⟩
  |false=> .bad
theorem az5{X:XE}(hE:X.env.Ok){id:Nat}{ops:Array Oper}{L:List (Nat×Nat)}{st:St}{Q:Exit→St→Prop}(ho:(uP X ops L st).o.holds)(hQ: ∀s,(uP X ops L st).t.bq= .nrm s→Q .normal s):WP X.env (.region id ops true) Q st:=by
 unfold uP at ho hQ;refine WP.XY hE ?_;simp only[mT]
 split at ho
 ·exact ho.elim
 ·rename_i q e;obtain⟨o,t⟩:=q;simp only[e]at hQ;simp only at hQ ho ⊢
  split at ho
  ·rename_i eb;simp only[eb]at hQ;refine IV _ _ _ _ o t e ho.1 fun s jr hs=>⟨?_,hQ s (by rw[T.mg,hs];rfl)⟩;have:=T.AM eb;rw[hs]at this;refine⟨_,fun b p hN r hr c hc=> ?_,this⟩;rcases Bool.or_eq_true_iff.1 hN with h|h
   ·exact aix h hr hc
   ·exact aiw (XU (ho.2 ()) hs) b p h r hr c hc
  ·exact ho.elim
inductive Key where
 |t (i:Nat)
 |c (i j:Nat)
 |h (b o:Nat)
 |b (b:Nat)
def yV(s:St)(k:Key):AV:=
 match k with
 | .t i=>s.tm.getD i .undef
 | .c i j=>match s.tm.getD i .undef with
   | .agg cs=>cs.getD j .undef
   |_=> .undef
 | .h b o=>aj s.hp b o
 | .b _=> .undef
def Au(l:List AV)(i:Nat)(v:AV):List AV:=
 match l,i with
 |[],_=>[]
 |_::r,0=>v::r
 |x::r,i+1=>x::Au r i v
def Y4(H:Heap)(b:Nat)(f:List AV→List AV):Heap:=
 match H,b with
 |[],_=>[]
 |l::r,0=>f l::r
 |l::r,b+1=>l::Y4 r b f
def OP(s:St)(k:Key)(v:AV):St:=
 match k with
 | .t i=>⟨Au s.tm i v,s.hp⟩
 | .c i j=>match s.tm.getD i .undef with
   | .agg cs=>⟨Au s.tm i (.agg (Au cs j v)),s.hp⟩
   |_=>s
 | .h b o=>⟨s.tm,Y4 s.hp b fun l=>Au l o v⟩
 | .b b=>⟨s.tm,Y4 s.hp b fun _=>[]⟩
def ai1:St→List Key→List AV→St
 |s,k::ks,v::vs=>ai1 (OP s k v) ks vs
 |s,_,_=>s
def xn:St→List Key→St
 |s,[]=>s
 |s,k::ks=>xn (OP s k .undef) ks
def ahI(m:Nat):List AV→List AV
 |[]=>[]
 |x::r=>(match Nat.beq (m%2) 1 with
  |true=>x
  |false=> .undef)::ahI (m/2) r
def OU(H:Heap)(x:AV):AV:=
 match x with
 | .own b _=>match aj H b 0 with
   | .ah _ _ n _=> .own b n
   |_=> .undef
 | .fF b _ i o=>match aj H b 0 with
   | .ah _ _ n _=> .fF b n i o
   |_=> .undef
 |x=>x
def DZ(H:Heap)(x:AV):AV:=
 match x with
 | .agg cs=> .agg (cs.map (OU H))
 |x=>OU H x
def az4(s:St):St:=⟨s.tm.map (DZ s.hp),s.hp.map fun l=>l.map (OU s.hp)⟩
def Ad(base:St)(ks:List Key)(vs:List AV):St:=az4 (ai1 base ks vs)
def getAll(s:St):List Key→List AV
 |[]=>[]
 |k::ks=>yV s k::getAll s ks
def qh(ks:List (Key×Kd))(s:St):Option (List AV):=dB (ks.map (·.2)) (getAll s (ks.map (·.1)))
def SC(x y:AV):Ob:=
 match x with
 | .int k a=>match y with
   | .int k' b=> .and (.e k k') (.e a b)
   |y=> .e (.int k a) y
 | .bool a=>match y with
   | .bool b=> .e a b
   |y=> .e (.bool a) y
 | .own b n=>match y with
   | .own b' n'=> .and (.e b b') (.e n n')
   |y=> .e (.own b n) y
 |x=> .e x y
theorem ao4{x y:AV}(h:(SC x y).holds):x=y:=by
 unfold SC at h
 cases x<;>simp only at h<;>first|exact h|skip
 all_goals
  cases y<;>simp only at h<;>first|exact h|skip
 ·have h1:=h.1;have h2:=h.2;simp only[Ob.holds]at h1 h2;rw[h1,h2]
 ·simp only[Ob.holds]at h;rw[h]
 ·have h1:=h.1;have h2:=h.2;simp only[Ob.holds]at h1 h2;rw[h1,h2]
def J0:List AV→List AV→Ob
 |[],[]=> .tt
 |x::xs,y::ys=> .and (SC x y) (J0 xs ys)
 |[],_::_=> .p False
 |_::_,[]=> .p False
theorem SG: ∀{xs ys:List AV},(J0 xs ys).holds→xs=ys
 |[],[],_=>rfl
 |x::xs,y::ys,h=>by
  have h1:=ao4 h.1;have h2:=SG h.2;rw[h1,h2]
 |[],_::_,h=>h.elim
 |_::_,[],h=>h.elim
def SD:Heap→Heap→Ob
 |[],[]=> .tt
 |x::xs,y::ys=> .and (J0 x y) (SD xs ys)
 |[],_::_=> .p False
 |_::_,[]=> .p False
theorem abO: ∀{xs ys:Heap},(SD xs ys).holds→xs=ys
 |[],[],_=>rfl
 |x::xs,y::ys,h=>by
  have h1:=SG h.1;have h2:=abO h.2;rw[h1,h2]
 |[],_::_,h=>h.elim
 |_::_,[],h=>h.elim
def kN(s m:St):Ob:=
 match JN s m with
 |some z=> .and (J0 z.tm m.tm) (SD z.hp m.hp)
 |none=> .p False
theorem A2{s m:St}(h:(kN s m).holds):JN s m=some m:=by
 unfold kN at h
 split at h
 ·rename_i z e;have h1:=SG h.1;have h2:=abO h.2;rw[e]
  cases z;cases m
  simp only at h1 h2;rw[h1,h2]
 ·exact h.elim
theorem oL{s m:St}{k:Nat}(h:(kN s m).holds)(hp:im k m=true):Le k s m:=sH.le (DD (A2 h)) hp
def R8(k:Kd)(m:Mk)(t:T AV):Option (Eo×AV):=
 match t.sQ (fun x=>(k.rd x).isSome)with
 |true=>some ((t.map fun x=>(k.rd x).getD k.mo).AY m,k.av ((t.map fun x=>(k.rd x).getD k.mo).kL m))
 |false=>none
theorem aom{k:Kd}{m:Mk}{t:T AV}{o:Eo}{v:AV}(h:R8 k m t=some (o,v))(ho:o.holds):k.nrm t.bq=some v:=by
 unfold R8 at h
 split at h
 ·rename_i e;have h1:=T.AM e
  cases h
  rw[T.E2 ho,T.mg];unfold Kd.nrm
  cases e2:k.rd t.bq with
  |none=>rw[e2]at h1;cases h1
  |some v=>rfl
 ·cases h
def E1:List Kd→List Mk→T (List AV)→Option (Eo×List AV)
 |[],_,_=>some (.tt,[])
 |k::ks,ms,t=>match R8 k (ms.headD .f) (t.map fun l=>l.headD .undef)with
  |some q=>match E1 ks ms.tail (t.map List.tail)with
   |some q'=>some (.and q.1 q'.1,q.2::q'.2)
   |none=>none
  |none=>none
theorem R7: ∀{ks:List Kd} {ms:List Mk} {t:T (List AV)} {o:Eo} {vs:List AV},E1 ks ms t=some (o,vs)→o.holds→t.bq.length=ks.length→dB ks t.bq=some vs
 |[],ms,t,o,vs,h,ho,hl=>by
  cases h
  have:t.bq=[]:=aEA (by simpa using hl);rw[this];rfl
 |k::ks,ms,t,o,vs,h,ho,hl=>by
  simp only[E1]at h
  split at h<;>try (cases h;done)
  rename_i q e
  split at h<;>try (cases h;done)
  rename_i q' e'
  cases h
  have h1:=aom (o:=q.1) (v:=q.2) e ho.1;rw[T.mg]at h1
  cases hs:t.bq with
  |nil=>rw[hs]at hl;cases hl
  |cons x xs=>
   have h2:=R7 (ks:=ks) (o:=q'.1) (vs:=q'.2) e' ho.2 (by rw[T.mg,hs];simpa[hs]using hl);rw[T.mg,hs]at h2;rw[hs]at h1;simp only[List.headD_cons]at h1;simp only[List.tail_cons]at h2;simp only[dB,h1,h2]
def T.Ah{α:Type _}(f:α→Ob):T α→Ob
 | .lf a=>f a
 | .br b l r=> .and (.imp b true (l.Ah f)) (.imp b false (r.Ah f))
theorem T.IU{α:Type _}{f:α→Ob} : ∀{t:T α},(t.Ah f).holds→(f t.bq).holds
 | .lf _,h=>h
 | .br b l r,h=>by
   cases b
   ·exact T.IU (t:=r) (h.2 rfl)
   ·exact T.IU (t:=l) (h.1 rfl)
def T.IT{α:Type _}(f:α→Ob):T α→Ob
 | .lf a=>f a
 | .br _ l r=> .and (l.IT f) (r.IT f)
theorem T.OG{α:Type _}{f:α→Ob} : ∀{t:T α},(t.IT f).holds→(f t.bq).holds
 | .lf _,h=>h
 | .br b l r,h=>by
   cases b
   ·exact T.OG (t:=r) h.2
   ·exact T.OG (t:=l) h.1
structure Jn where
 keep:Nat
 drop:List Key
 ks:List (Key×Kd)
 ms:List Mk
 pm:Mk:= .f
def ajS:Heap→Heap
 |[]=>[]
 |l::r=>match ajS r with
  |[]=>match l with
   |[]=>[]
   |x::y=>[x::y]
  |a::b=>l::a::b
def aA8(s:St):St:=⟨s.tm,ajS s.hp⟩
def EL(keep:Nat)(drop:List Key)(s:St):St:=aA8 (xn ⟨ahI keep s.tm,s.hp⟩ drop)
def meet(m:Nat)(J:Jn)(t:T St):Option (Ob×St):=
 match t.sQ (fun s=>(qh J.ks s).isSome)with
 |false=>none
 |true=>match E1 (J.ks.map (·.2)) J.ms (t.map fun s=>getAll s (J.ks.map (·.1)))with
  |none=>none
  |some q=>match im m (Ad (EL J.keep J.drop t.first) (J.ks.map (·.1)) q.2)with
   |true=>some (.and (.es fun _:Unit=>q.1) (t.IT fun s=>kN s (Ad (EL J.keep J.drop t.first) (J.ks.map (·.1)) ((qh J.ks s).getD []))),Ad (EL J.keep J.drop t.first) (J.ks.map (·.1)) q.2)
   |false=>none
theorem agr(s:St): ∀ks:List Key,(getAll s ks).length=ks.length
 |[]=>rfl
 |_::ks=>by simp [getAll,agr s ks]
theorem ah_{m:Nat}{J:Jn}{t:T St}{o:Ob}{eQ:St}(h:meet m J t=some (o,eQ))(ho:o.holds):Le m t.bq eQ:=by
 unfold meet at h
 split at h<;>try (cases h;done)
 rename_i hs
 split at h<;>try (cases h;done)
 rename_i q eq
 split at h<;>try (cases h;done)
 rename_i hp
 cases h
 have h1:=R7 (o:=q.1) (vs:=q.2) eq (ho.1 ()) (by rw[T.mg,agr];simp);rw[T.mg]at h1;have h2:=T.OG (t:=t) ho.2;have h3:qh J.ks t.bq=some q.2:=h1;rw[h3]at h2;exact oL h2 hp
theorem EM{α:Type}(a b:Bool)(x y:α):(bif a then x else bif b then x else y)=bif(a||b)then x else y:=by cases a<;>rfl
end Go.Vc
namespace Go.Proofs.YtfmgjpcmcjjoiaaGreatDoor
open Go Go.RowKit Go.Vc
def Qx(n:Nat)(key:Nat→ag):Prop:= ∀i j,i<j→j<n→Op.bytesLess (key i).toList (key j).toList=true
end Go.Proofs.YtfmgjpcmcjjoiaaGreatDoor
