/-
  A GENERATOR OF CONDITIONS over the model's code, proved sound once: what it asks of a function's body gives the run of that body. By an AI agent; no person has read it. Part 6: slices as data; states that are kept as they were reckoned.
-/
import Derived.Test.YtfbpilmhnpkfhaaGreatDoorVcD
import Derived.Laws.Cover3
set_option linter.all false
namespace Go.Vc
open Go Go.RowKit
section
variable {S:Base} {ι:Nat→Option Nat} {st:St} {a:Act} {w:World}
theorem Sim.recell(h:Sim S ι st a w){b o:Nat}{av:AV}(hu:hget st.hp b o≠ .undef)(hb:isBlk (hget st.hp b o)=false)(ha:av≠ .undef)(hab:isBlk av=false)
  (hv: ∀v,CRel ι st.hp w (FZ S ι st.hp w) (hget st.hp b o) v→CRel ι st.hp w (FZ S ι st.hp w) av v):Sim S ι ⟨st.tm,hset st.hp b o av⟩ a w:=by
 have hH: ∀b' o',hget (hset st.hp b o av) b' o'=if b'=b∧o'=o then av else hget st.hp b' o':=fun b' o'=>hget_hset _ _ _ _ _ _
 have hnb:=(h.hp b o).nblk hu hb
 have hblk: ∀b',isBlk (hget (hset st.hp b o av) b' 0)=isBlk (hget st.hp b' 0):=fun b'=>by
  rw[hH]
  by_cases e:b'=b∧0=o
  ·rw[if_pos e,hab,e.1,hnb]
  ·rw[if_neg e]
 have hs:Stp ι st.hp w (FZ S ι st.hp w) ι (hset st.hp b o av) w (FZ S ι (hset st.hp b o av) w):=by
  refine⟨fun y ⟨h1,h2,h3⟩=>⟨h1,h2,fun b' hb'=>h3 b' ?_⟩,fun _ _ _=>rfl,fun b' z hz hk=>⟨hz,by rw[hblk];exact hk⟩,fun b' ro sz n f hk=> ?_⟩
  ·rcases hb' with⟨g1,g2⟩|⟨g1,o',g2⟩
   ·rw[hblk]at g1
    refine .inl ⟨g1,?_⟩
    rw[hH]at g2
    by_cases e:b'=b∧0=o
    ·rw[if_pos e]at g2
     rw[e.1,hnb]at g1;cases g1
    ·rw[if_neg e]at g2;exact g2
   ·rw[hblk]at g1
    rw[hH]at g2
    by_cases e:b'=b∧o'=o
    ·refine .inr ⟨g1,o,?_⟩
     rw[e.1]
     exact writable_of hu hb
    ·rw[if_neg e]at g2;exact .inr ⟨g1,o',g2⟩
  ·have e: ¬(b'=b∧0=o):=fun e=>by rw[e.1,e.2]at hk;rw[hk]at hb;cases hb
   exact⟨ro,_,n,f,by rw[hH,if_neg e];exact hk,Nat.le_refl _,fun _=>⟨rfl,rfl,fun x C T _ hC=>⟨C,hC,rfl⟩⟩⟩
 refine⟨h.below,h.defers,fun t u ht=> ?_,fun b' o'=> ?_,h.inj,h.fresh,fun b' y hy=>Nat.lt_of_lt_of_le (h.dom _ _ hy) (length_setAt _ _ _ _).1,h.hist.trans hs⟩
 ·obtain⟨v,h1,h2⟩:=h.tm t u ht
  exact⟨v,h1,h2.step hs⟩
 ·show LRel _ _ _ _ _ _ (hget (hset st.hp b o av) b' o')
  rw[hH]
  by_cases e:b'=b∧o'=o
  ·obtain⟨rfl,rfl⟩:=e
   rw[if_pos ⟨rfl,rfl⟩]
   obtain⟨x,v,k1,k2,k3,k4⟩:=(h.hp b' o').box hu hb
   have k5:=(hv v k4).step hs
   have hnb':isBlk (hget (hset st.hp b' o' av) b' 0)=false:=by rw[hblk];exact hnb
   cases av<;>first|exact absurd rfl ha|(cases hab;done)|exact⟨hnb',x,v,k1,k2,k3,k5⟩
  ·rw[if_neg e]
   exact(h.hp b' o').step hs (fun _=>rfl) (fun _ _ _=>⟨rfl,rfl⟩) (fun _=>⟨rfl,fun _ _=>rfl⟩)
theorem nils_val{H:Heap}{F:Nat→Prop}{v:Value}(h:CRel ι H w F .nils v):v= .slice none 0 0:=by
 have h':FRel w F .nils v:=h
 cases h';rfl
end
section
variable {E:Env} {x:Code} {Q:Exit→St→Prop} {st:St}
theorem WP.nilT(i sz:Nat)(hi:st.tm[i]? =some .nils)(h:WP E x Q ⟨st.tm.set i (.own st.hp.length 0),hset st.hp st.hp.length 0 (.blk false sz 0 fun _=>[])⟩):WP E x Q st:=fun S hS ι a w hs=>by
 obtain⟨h1,h2,h3⟩:=hs.nilOwn (b:=st.hp.length) (fun o=>hget_ge (Nat.le_refl _) o) (hs.none_ge (Nat.le_refl _)) sz (fun _=>[])
 refine h S hS ι a w ⟨h1.below,h1.defers,fun t av ht=> ?_,h1.hp,h1.inj,h1.fresh,h1.dom,h1.hist⟩
 rw[List.getElem?_set]at ht
 by_cases e:i=t
 ·subst e
  rw[if_pos rfl]at ht
  split at ht
  ·cases ht
   obtain⟨v,g1,g2⟩:=hs.tm i .nils hi
   refine⟨v,g1,?_⟩
   have hv:v= .slice none 0 0:=nils_val (ι:=ι) (H:=st.hp) (F:=FZ S ι st.hp w) (w:=w) g2
   subst hv
   exact h3 (FZ S ι (hset st.hp st.hp.length 0 (.blk false sz 0 fun _=>[])) w)
  ·cases ht
 ·rw[if_neg e]at ht
  exact h1.tm t av ht
theorem WP.nilH(b o sz:Nat)(hi:hget st.hp b o= .nils)(hb:Nat.blt b st.hp.length=true)(h:WP E x Q ⟨st.tm,hset (hset st.hp st.hp.length 0 (.blk false sz 0 fun _=>[])) b o (.own st.hp.length 0)⟩):WP E x Q st:=fun S hS ι a w hs=>by
 obtain⟨h1,h2,h3⟩:=hs.nilOwn (b:=st.hp.length) (fun o=>hget_ge (Nat.le_refl _) o) (hs.none_ge (Nat.le_refl _)) sz (fun _=>[])
 have hne:b≠st.hp.length:=by
  have:=Nat.le_of_ble_eq_true hb
  omega
 have hg:hget (hset st.hp st.hp.length 0 (.blk false sz 0 fun _=>[])) b o= .nils:=by rw[hget_hset,if_neg (fun e=>hne e.1)];exact hi
 refine h S hS ι a w (h1.recell (by rw[hg];simp) (by rw[hg];rfl) (by simp) rfl fun v hv=> ?_)
 rw[hg]at hv
 rw[nils_val hv]
 exact h3 _
end
section
variable {α:Type}
noncomputable def Sl.app(s t:Sl α):Sl α:=⟨s.n+t.n,fun i=>bif Nat.blt i s.n then s.at' i else t.at' (i-s.n)⟩
noncomputable def Sl.lit[Inhabited α](l:List α):Sl α:=⟨l.length,fun i=>l.getD i default⟩
noncomputable def Sl.part(s:Sl α)(l h:Int):Sl α:=⟨(h-l).toNat,fun i=>s.at' (l.toNat+i)⟩
theorem Sl.app_n(s t:Sl α):(s.app t).n=s.n+t.n:=rfl
theorem Sl.lit_n[Inhabited α](l:List α):(Sl.lit l).n=l.length:=rfl
theorem Sl.part_n(s:Sl α)(l h:Int):(s.part l h).n=(h-l).toNat:=rfl
theorem appOk'{e:α→List AV}{s t:Sl α}{n m:Nat}{f g:Nat→List AV}(hn:n=s.n)(hm:m=t.n)(hf: ∀i,i<n→f i=e (s.at' i))(hg: ∀i,i<m→g i=e (t.at' i)): ∀i,i<n+m→appF n f g i=e ((s.app t).at' i):=fun i hi=>by
 subst hn hm
 simp only[appF,Sl.app]
 cases h:Nat.blt i s.n with
 |true=>exact hf i (Nat.le_of_ble_eq_true h)
 |false=>
  refine hg _ ?_
  have: ¬i<s.n:=fun h'=>by rw[show Nat.blt i s.n=true by rw[Nat.blt_eq];exact h']at h;cases h
  omega
theorem litOk[Inhabited α](e:α→List AV)(l:List α): ∀i,i<l.length→(l.map e).getD i []=e ((Sl.lit l).at' i):=fun i hi=>by
 simp only[Sl.lit,List.getD,List.getElem?_map,List.getElem?_eq_getElem hi,Option.map_some,Option.getD_some]
end
end Go.Vc
namespace Go.Vc
open Go Go.RowKit
theorem run_eql_nil{P:Program}{T e:TypeId}(w:World)(hd:P.underlying T=some (.slice e))(x y:Operand)(a:Option Addr)(l c:Nat):
  (do eqGuard .eql T x y (.slice a l c) (.slice none 0 0);binOp .eql T (.slice a l c) (.slice none 0 0):Sem Value).run P w= .ok (.bool a.isNone) w:=by
 have h:binOp .eql T (.slice a l c) (.slice none 0 0)=(do pure (.bool (←Op.equal T (.slice a l c) (.slice none 0 0)))):=rfl
 rw[h]
 simp [go_sem,run_equal_slice_nil w T e a l c hd]
theorem WP.eqNil{E:Env}(hE:E.Ok){rest:Code}{Q:Exit→St→Prop}{st:St}{id:Nat}{o0 o1:Oper}{T T':TypeId}{ty:Ty}{t d0 d1 sz n:Nat}{f:Nat→List AV}
  (hT:E.ty T=some ty) (hsl:ty.d.isSl=true) (g0:o0.guard=none) (p0:o0.op= .move (.tmp t)) (q0:o0.dst=some d0) (g1:o1.guard=none) (p1:o1.op= .binOp .eql T (.tmp d0) (.const (.slice none 0 0)) T') (q1:o1.dst=some d1)
  (hst:st.tm[t]? =some (.arr sz n f)) (hl:d0<st.tm.length) (h: ∀q:Bool,(q=true→n=0)→WP E rest Q ⟨(st.tm.set d0 (.arr sz n f)).set d1 (.bool q),st.hp⟩):WP E (.seq (.region id #[o0,o1] false) rest) Q st:=by
 refine WP.seq fun S hS ι a w hs=>wp_region_list ?_
 have hty:=hE.ty T ty hT
 have hd:=hty.d
 obtain⟨e,he⟩: ∃e,E.P.underlying T=some (.slice e):=by
  cases ed:ty.d<;>rw[ed]at hsl hd<;>first|(cases hsl;done)|exact⟨_,hd.1⟩
 obtain⟨v,hv1,hv2⟩:=hs.tm t _ hst
 have hv2:FRel w (FZ S ι st.hp w) (.arr sz n f) v:=hv2
 refine wpList_plain g0 fun K hK=>wp_value (v:=a.eval (.tmp t)) (w':=w) (by simp [execOp,p0]) (hK _ _ ?_)
 have hav:a.eval (.tmp t)=v:=by simp [Act.eval,Array.getD_eq_getD_getElem?,hv1]
 rw[hav]
 have h1:Sim S ι ⟨st.tm.set d0 (.arr sz n f),st.hp⟩ (a.put o0.dst v) w:=by rw[q0];exact hs.put d0 hv2
 have hsv:(a.put o0.dst v).eval (.tmp d0)=v:=by
  obtain⟨u,hu1,hu2⟩:=hs.tm d0 _ (List.getElem?_eq_getElem hl)
  have hlt:d0<a.tmps.size:=by
   rcases Nat.lt_or_ge d0 a.tmps.size with h|h
   ·exact h
   ·simp [Array.getElem?_eq_none h]at hu1
  simp [Act.eval,Act.put,q0,Array.getD_eq_getD_getElem?,hlt]
 obtain⟨ad,c,hvs⟩: ∃ad c,v= .slice ad n c:=by
  cases hv2 with
  |nil=>exact⟨none,0,rfl⟩
  |mt _ _ ad c=>exact⟨_,c,rfl⟩
  |arr _ _ _ b o c=>exact⟨_,c,rfl⟩
 have hnone:ad.isNone=true→n=0:=fun hn=>by
  rw[hvs]at hv2
  cases hv2<;>first|rfl|(cases hn;done)
 refine wpList_plain g1 fun K hK=>wp_value (v:= .bool ad.isNone) (w':=w) ?_ (hK _ _ ?_)
 ·have hr:(execOp (a.put o0.dst v).eval o1).run E.P w=((do eqGuard .eql T (.tmp d0) (.const (.slice none 0 0)) ((a.put o0.dst v).eval (.tmp d0)) (.slice none 0 0);binOp .eql T ((a.put o0.dst v).eval (.tmp d0)) (.slice none 0 0):Sem Value).run E.P w).andThen fun v w=> .ok (.value v) w:=by
   simp only[execOp,p1]
   rw[Sem.run_bind];rfl
  rw[hr,hsv,hvs,run_eql_nil w he];rfl
 ·have h2:=h1.put d1 (av:= .bool ad.isNone) (v:= .bool ad.isNone) (FRel.bool _)
  rw[←q1]at h2
  exact⟨ι,_,h2,h _ hnone⟩
def imin(a b:Int):Int:=bif decide (b<a)then b else a
def imax(a b:Int):Int:=bif decide (b>a)then b else a
theorem imax_spec(a b:Int):a≤imax a b∧b≤imax a b∧(imax a b=a∨imax a b=b):=by
 unfold imax
 by_cases h:b>a
 ·simp [h];omega
 ·simp [h];omega
theorem setAt_get{H:Heap}{b b' o:Nat}(cs:List AV):hget (setAt [] H b cs) b' o=if b'=b then cs.getD o .undef else hget H b' o:=hget_hnew H b cs b' o
theorem WP.freezeT{E:Env}{x:Code}{Q:Exit→St→Prop}{st:St}(i b:Nat)(cs:List AV)(hi:st.tm[i]? =some (.ptr b 0))(hb:st.hp.getD b []=cs)(hc:cs.all capOk=true)
  (hl:lowSt ⟨st.tm.set i (.ref cs),setAt [] st.hp b []⟩=true) (h:WP E x Q ⟨st.tm.set i (.ref cs),setAt [] st.hp b []⟩) (hm:pinOk E.m ⟨st.tm.set i (.ref cs),setAt [] st.hp b []⟩=true:=by rfl):WP E x Q st:=fun S hS ι a w hs=>by
 simp only[lowSt,Bool.and_eq_true]at hl
 let H:Heap:=setAt [] st.hp b []
 have hck: ∀j (hj:j<cs.length),capOk cs[j]=true:=fun j hj=>List.all_eq_true.1 hc _ (List.getElem_mem hj)
 have hcu: ∀c,capOk c=true→c≠ .undef:=by intro c hc e;rw[e]at hc;cases hc
 have hcb: ∀c,capOk c=true→isBlk c=false:=by intro c hc;cases c<;>first|rfl|(cases hc;done)
 have hgetj: ∀j (hj:j<cs.length),hget st.hp b j=cs[j]:=fun j hj=>by unfold hget;rw[hb];simp [List.getD,hj]
 have hHb: ∀o,hget H b o= .undef:=fun o=>by rw[setAt_get,if_pos rfl];simp
 have hHne: ∀b' o,b'≠b→hget H b' o=hget st.hp b' o:=fun b' o hn=>by rw[setAt_get,if_neg hn]
 have hab:alive H b=false:=by
  unfold alive
  rw[getD_setAt,if_pos rfl]
 have hne: ∀b',alive H b'=true→b'≠b:=fun b' h e=>by rw[e,hab]at h;cases h
 let ι':Nat→Option Nat:=fun b'=>if alive H b' then ι b' else none
 have hι: ∀b',alive H b'=true→ι' b'=ι b':=fun b' hb'=>if_pos hb'
 have hsome: ∀b' y,ι' b'=some y→alive H b'=true∧ι b'=some y:=fun b' y hb'=>by
  by_cases h:alive H b'=true
  ·exact⟨h,by rw[←hι b' h];exact hb'⟩
  ·simp [ι',h]at hb'
 have hlt: ∀b',alive H b'=true→b'<H.length:=fun b' hb'=>by
  rcases Nat.lt_or_ge b' H.length with h|h
  ·exact h
  ·simp [alive,List.getD,List.getElem?_eq_none h]at hb'
 have hundef: ∀b' o,alive H b'=false→hget H b' o= .undef:=fun b' o h=>by
  unfold alive at h
  unfold hget
  cases e:H.getD b' []with
  |nil=>rfl
  |cons z zs=>rw[e]at h;cases h
 have hHa: ∀b',alive H b'=true→ ∀o,hget H b' o=hget st.hp b' o:=fun b' hb' o=>hHne b' o (hne b' hb')
 have hF: ∀y,FZ S ι st.hp w y→FZ S ι' H w y:=fun y ⟨h1,h2,h3⟩=>⟨h1,h2,fun b' hb' hx=>h3 b' (rwLive_congr (fun o=>hHa b' (hsome b' y hx).1 o) hb') (hsome b' y hx).2⟩
 refine h S hS ι' a w ⟨hs.below,hs.defers,fun t av ht=> ?_,fun b' o=> ?_,fun b1 b2 y h1 h2=>hs.inj b1 b2 y (hsome _ _ h1).2 (hsome _ _ h2).2,fun b' y h=>hs.fresh b' y (hsome _ _ h).2,fun b' y h=>hlt b' (hsome _ _ h).1,hs.hist.cut S.dom0 (fun b hb=>List.all_eq_true.1 hm b (List.mem_range.2 (by omega))) hι hHa hF⟩
 ·have hlow:lowA H av=true:=List.all_eq_true.1 hl.1 av (List.mem_of_getElem? ht)
  rw[List.getElem?_set]at ht
  by_cases e:i=t
  ·subst e
   rw[if_pos rfl]at ht
   split at ht
   ·cases ht
    obtain⟨v,g1,g2⟩:=hs.tm i _ hi
    obtain⟨_,y,hy,hv⟩:=(show CR S ι st.hp w (.ptr b 0) v from g2)
    have k5: ∀j (hj:j<cs.length),∃u,w.cell? ⟨y,j,none⟩=some u∧FRel w (FZ S ι' H w) cs[j] u:=fun j hj=>by
     obtain⟨y',u,k1,k2,_,k4⟩:=(hs.hp b j).box (by rw[hgetj j hj];exact hcu _ (hck j hj)) (by rw[hgetj j hj];exact hcb _ (hck j hj))
     rw[hy]at k1;cases k1
     rw[hgetj j hj]at k4
     refine⟨u,k2,FRel.mono hF (fun _ _ _=>rfl) ?_⟩
     have hcj:=hck j hj
     generalize cs[j]=c at hcj k4
     cases c<;>first|(cases hcj;done)|exact k4
    have hf:=hs.fresh b y hy
    refine⟨v,g1,?_⟩
    rw[hv]
    refine(show FRel w (FZ S ι' H w) (.ref cs) _ from .ref cs y 0 (fun j=>cs.getD j .undef) (fun j=>(w.cell? ⟨y,0+j,none⟩).getD undef) ⟨hs.own hy,hf.2,fun b' _ he=> ?_⟩ (fun j hj=> ?_) (fun j hj=> ?_) fun j hj=> ?_)
    ·obtain⟨h1,h2⟩:=hsome b' y he
     exact hne b' h1 (hs.inj b' b y h2 hy)
    ·simp [List.getD,hj]
    ·obtain⟨u,k6,_⟩:=k5 j hj
     simp [k6]
    ·obtain⟨u,k6,k7⟩:=k5 j hj
     simpa[List.getD,hj,k6]using k7
   ·cases ht
  ·rw[if_neg e]at ht
   obtain⟨v,g1,g2⟩:=hs.tm t av ht
   exact⟨v,g1,lowA_rel hι hHa hF hlow g2⟩
 ·show LRel ι' H w (FZ S ι' H w) b' o (hget H b' o)
  cases hbb:alive H b' with
  |false=>rw[hundef b' o hbb];trivial
  |true=>
   have h2:=hs.hp b' o
   have hlow: ∀av,hget H b' o=av→av≠ .undef→low1 H av=true:=fun av e hne'=>by
    unfold hget at e
    cases e1:H[b']? with
    |none=>simp [List.getD,e1]at e;exact absurd e.symm hne'
    |some l=>
     simp only[List.getD,e1,Option.getD_some]at e
     cases e2:l[o]? with
     |none=>rw[e2]at e;exact absurd e.symm hne'
     |some z=>
      rw[e2]at e
      simp only[Option.getD_some]at e
      subst e
      exact List.all_eq_true.1 (List.all_eq_true.1 hl.2 l (List.mem_of_getElem? e1)) z (List.mem_of_getElem? e2)
   have h0:isBlk (hget H b' 0)=isBlk (hget st.hp b' 0):=by rw[hHa b' hbb 0]
   have h2:LRel ι st.hp w (FZ S ι st.hp w) b' o (hget H b' o):=by rw[hHa b' hbb o];exact h2
   cases e:hget H b' o<;>rw[e]at h2
   case undef=>trivial
   case blk ro sz n f=>
    obtain⟨g1,kd|⟨g2,g3⟩⟩:=h2
    ·exact⟨g1,.inl ⟨kd.1,kd.2.1,by rw[hι b' hbb];exact kd.2.2⟩⟩
    refine⟨g1,.inr ⟨g2,?_⟩⟩
    rw[hι b' hbb]
    exact g3.imp id fun⟨x,C,T,k1,k2,k3⟩=>⟨x,C,T,k1,k2,fun i j hi hj=>by
     obtain⟨av,v,m1,m2,m3⟩:=k3 i j hi hj
     exact⟨av,v,m1,m2,m3.mono hF fun _ _ _=>rfl⟩⟩
   all_goals
    obtain⟨k0,x,v,k1,k2,k3,k4⟩:=h2
    exact⟨by rw[h0];exact k0,x,v,by rw[hι b' hbb];exact k1,k2,k3,low1_rel hι hHa hF (hlow _ e (by simp)) k4⟩
theorem WP.ext4{E:Env}{rest:Code}{Q:Exit→St→Prop}{st:St}{id:Nat}{o0 o1 o2 o3:Oper}{t0 t1 d0 d1 d2 d3:Nat}{x y:ByteArray}{k:IntKind}{r:Int}
  (g0:o0.guard=none) (p0:o0.op= .move (.tmp t0)) (q0:o0.dst=some d0) (g1:o1.guard=none) (p1:o1.op= .move (.tmp t1)) (q1:o1.dst=some d1) (g2:o2.guard=none) (q2:o2.dst=some d2) (g3:o3.guard=none) (p3:o3.op= .assign (.tmp d2)) (q3:o3.dst=some d3)
  (hx:st.tm[t0]? =some (.str x)) (hy:st.tm[t1]? =some (.str y)) (hn:d0≠t1∧d0≠d1) (hl:d0<st.tm.length∧d1<st.tm.length∧d2<st.tm.length)
  (p2: ∀(ρ:Operand→Value) (w:World),(∀f,ρ (.func f)= .func (.func f) #[] #[])→ρ (.tmp d0)= .string x→ρ (.tmp d1)= .string y→(execOp ρ o2).run E.P w= .ok (.value (.int k r)) w)
  (h:WP E rest Q ⟨(((st.tm.set d0 (.str x)).set d1 (.str y)).set d2 (.int k r)).set d3 (.int k r),st.hp⟩):WP E (.seq (.region id #[o0,o1,o2,o3] false) rest) Q st:=by
 refine WP.seq fun S hS ι a w hs=>wp_region_list ?_
 have size: ∀{tm:List AV} {H:Heap} {a:Act} {d:Nat},Sim S ι ⟨tm,H⟩ a w→d<tm.length→d<a.tmps.size:=fun {tm H a d} h hd=>by
  obtain⟨u,hu1,_⟩:=h.tm d _ (List.getElem?_eq_getElem hd)
  rcases Nat.lt_or_ge d a.tmps.size with h|h
  ·exact h
  ·simp [Array.getElem?_eq_none h]at hu1
 have ev: ∀{tm:List AV} {H:Heap} {a:Act} {t:Nat} {av:AV},Sim S ι ⟨tm,H⟩ a w→tm[t]? =some av→VR S ι H w av (a.eval (.tmp t)):=fun {tm H a t av} h ht=>by
  have:=h.eval (.tmp t)
  simpa[evalA,List.getD,ht]using this
 have e0:=ev hs hx
 have h1:=hs.put d0 e0
 rw[←q0]at h1
 refine wpList_plain g0 fun K hK=>wp_value (v:=a.eval (.tmp t0)) (w':=w) (by simp [execOp,p0]) (hK _ _ ?_)
 generalize ha1:a.put o0.dst (a.eval (.tmp t0))=a1 at h1 ⊢
 have e1:=ev (t:=t1) (av:= .str y) h1 (by rw[List.getElem?_set_ne hn.1];exact hy)
 have h2:=h1.put d1 e1
 rw[←q1]at h2
 refine wpList_plain g1 fun K hK=>wp_value (v:=a1.eval (.tmp t1)) (w':=w) (by simp [execOp,p1]) (hK _ _ ?_)
 generalize ha2:a1.put o1.dst (a1.eval (.tmp t1))=a2 at h2 ⊢
 have f0:=VR.str (ev (t:=d0) (av:= .str x) h2 (by rw[List.getElem?_set_ne (Ne.symm hn.2),List.getElem?_set,if_pos rfl,if_pos (by simpa using hl.1)]))
 have f1:=VR.str (ev (t:=d1) (av:= .str y) h2 (by rw[List.getElem?_set,if_pos rfl,if_pos (by simpa using hl.2.1)]))
 have h3:=h2.put d2 (av:= .int k r) (v:= .int k r) (FRel.int k r)
 rw[←q2]at h3
 refine wpList_plain g2 fun K hK=>wp_value (v:= .int k r) (w':=w) (p2 _ _ (fun _=>rfl) f0 f1) (hK _ _ ?_)
 generalize ha3:a2.put o2.dst (Value.int k r)=a3 at h3 ⊢
 have e3:=ev (t:=d2) (av:= .int k r) h3 (by rw[List.getElem?_set,if_pos rfl,if_pos (by simpa using hl.2.2)])
 have h4:=h3.put d3 e3
 rw[←q3]at h4
 refine wpList_plain g3 fun K hK=>wp_value (v:=a3.eval (.tmp d2)) (w':=w) (by simp [execOp,p3]) (hK _ _ ?_)
 exact⟨ι,_,h4,h⟩
theorem WP.joinB{E:Env}{x y:Code}{Q:Exit→St→Prop}{st:St}(mid:St)(h:WP E x (thenA (fun s=>LeS s mid) Q) st)(k:WP E y Q mid)(hm:pinOk E.m mid=true:=by rfl):WP E (.seq x y) Q st:=WP.join mid h k hm
theorem appNil(f g:Nat→List AV)(i:Nat):appF 0 f g i=g i:=by
 have:Nat.blt i 0=false:=by cases i<;>rfl
 simp only[appF,this,cond_false,Nat.sub_zero]
end Go.Vc
namespace Go.Vc
open Go Go.RowKit
/-! A state that is kept as it has been reckoned, but for what is forgotten. -/
def cut1(x y:AV):AV:=
 match y with
 | .undef=> .undef
 | .bool _=>match x with
   | .lit b=> .bool b
   |x=>x
 | .arr sz _ g=>match x with
   | .nils=> .arr sz 0 g
   |x=>x
 |_=>x
def cutC:List AV→List AV→List AV
 |x::xs,y::ys=>cut1 x y::cutC xs ys
 |[],_=>[]
 |x::xs,[]=>x::xs
def cutA(x y:AV):AV:=
 match y with
 | .agg ds=>match x with
   | .agg cs=> .agg (cutC cs ds)
   |x=>x
 |y=>cut1 x y
def cutL:List AV→List AV→List AV
 |x::xs,y::ys=>cutA x y::cutL xs ys
 |[],_=>[]
 |x::xs,[]=>x::xs
def cutN:List AV→List AV→List AV
 |x::xs,y::ys=>(match y with
  | .arr sz _ g=>match x with
    | .nils=> .arr sz 0 g
    |x=>x
  |_=>x)::cutN xs ys
 |[],_=>[]
 |x::xs,[]=>x::xs
theorem cutN_nz: ∀{xs ys:List AV},cutN xs ys=ys→nzL xs ys
 |[],[],_=>trivial
 |[],_::_,h=>by simp [cutN]at h
 |_::_,[],h=>by simp [cutN]at h
 |x::xs,y::ys,h=>by
  simp only[cutN,List.cons.injEq]at h
  refine⟨?_,cutN_nz h.2⟩
  have h1:=h.1
  cases y<;>simp only at h1<;>first|exact .inl h1|skip
  rename_i sz n g
  cases x<;>simp only at h1<;>first|exact .inl h1|skip
  exact .inr ⟨rfl,sz,g,h1.symm⟩
def cutB1(x y:AV):AV:=
 match y with
 | .blk _ _ _ g=>match x with
   | .blk ro sz n f=> .blk ro sz n fun i=>cutN (f i) (g i)
   |x=>x
 | .undef=>match isBlk x with
   |true=>x
   |false=> .undef
 | .gone=>match x with
   | .undef=> .undef
   | .blk ro sz n f=> .blk ro sz n f
   |_=> .gone
 |y=>cut1 x y
def cutB:List AV→List AV→List AV
 |x::xs,y::ys=>cutB1 x y::cutB xs ys
 |[],_=>[]
 |x::xs,[]=>match(x::xs).all fun z=> !(isBlk z)with
  |true=>[]
  |false=>x::xs
def cutH:Heap→Heap→Heap
 |[],ys=>match ys.all fun y=>y.isEmpty with
  |true=>ys
  |false=>[]
 |_::_,[]=>[]
 |x::xs,y::ys=>match y with
  |[]=>[]::cutH xs ys
  |z::zs=>cutB x (z::zs)::cutH xs ys
def cutS(s m:St):Option St:=
 match lowSt m with
 |true=>some ⟨cutL s.tm m.tm,cutH s.hp m.hp⟩
 |false=>none
theorem cut1_fgt{x y:AV}(h:cut1 x y=y):fgt1 x y:=by
 cases y<;>simp only[cut1]at h<;>first|trivial|skip
 case bool c=>cases x<;>simp only[AV.bool.injEq,reduceCtorEq]at h<;>exact h
 case arr sz n g=>cases x<;>simp only[AV.arr.injEq,reduceCtorEq]at h<;>first|(obtain⟨_,rfl,_⟩:=h;rfl)|(obtain⟨rfl,rfl,rfl⟩:=h;exact chk_iff.2 ⟨by simp,rfl,fun _ _=>rfl⟩)
 all_goals (subst h;simp [fgt1,chk_iff])
theorem cutC_fgt: ∀{xs ys:List AV},cutC xs ys=ys→fgtC xs ys
 |[],[],_=>trivial
 |[],_::_,h=>by simp [cutC]at h
 |_::_,[],h=>by simp [cutC]at h
 |x::xs,y::ys,h=>by
  simp only[cutC,List.cons.injEq]at h
  exact⟨cut1_fgt h.1,cutC_fgt h.2⟩
theorem cutA_fgt{x y:AV}(h:cutA x y=y):fgtA x y:=by
 cases y<;>simp only[cutA]at h<;>simp only[fgtA]<;>first|exact cut1_fgt h|skip
 rename_i ds
 cases x<;>simp only[AV.agg.injEq,reduceCtorEq]at h ⊢ <;>first|exact cutC_fgt h|exact h.elim
theorem cutL_fgt: ∀{xs ys:List AV},cutL xs ys=ys→fgtL xs ys
 |[],[],_=>trivial
 |[],_::_,h=>by simp [cutL]at h
 |_::_,[],h=>by simp [cutL]at h
 |x::xs,y::ys,h=>by
  simp only[cutL,List.cons.injEq]at h
  have h2:=cutL_fgt h.2
  have h1:=cutA_fgt h.1
  cases y<;>first|exact h2|exact⟨h1,h2⟩
theorem cutB1_fgt{x y:AV}(h:cutB1 x y=y):fgtB1 x y:=by
 cases y
 case undef=>
  simp only[cutB1]at h
  simp only[fgtB1]
  cases e:isBlk x with
  |false=>rfl
  |true=>rw[e]at h;simp only at h;subst h;cases e
 case blk ro sz n f=>
  cases x<;>simp only[cutB1,AV.blk.injEq,reduceCtorEq]at h<;>first|exact h.elim|skip
  obtain⟨rfl,rfl,rfl,h⟩:=h
  simp only[fgtB1,chk_iff,decide_true,Bool.and_self,true_and]
  exact fun i _=>cutN_nz (congrFun h i)
 case bool c=>
  have h1:cut1 x (.bool c)= .bool c:=h
  have h2:=cut1_fgt h1
  cases x<;>simp only[fgt1]at h2<;>first|exact h2.elim|(simp only[fgtB1,fgt1,isBlk,chk_iff];exact⟨rfl,h2⟩)
 case arr sz n f=>
  have h1:cut1 x (.arr sz n f)= .arr sz n f:=h
  have h2:=cut1_fgt h1
  cases x<;>first|exact(show False from h2).elim|exact(chk_iff (b:=true)).2 ⟨rfl,h2⟩
 case gone=>cases x<;>first|trivial|(cases h;done)
 all_goals
  simp only[cutB1,cut1]at h
  subst h
  simp [fgtB1,fgt1,isBlk,chk_iff]
theorem cutB_fgt: ∀{xs ys:List AV},cutB xs ys=ys→fgtB xs ys
 |[],[],_=>by simp [fgtB,chk_iff]
 |[],_::_,h=>by simp [cutB]at h
 |x::xs,[],h=>by
  simp only[cutB]at h
  simp only[fgtB,chk_iff,and_true]
  cases e:(x::xs).all fun z=> !(isBlk z)with
  |true=>rfl
  |false=>rw[e]at h;cases h
 |x::xs,y::ys,h=>by
  simp only[cutB,List.cons.injEq]at h
  exact⟨cutB1_fgt h.1,cutB_fgt h.2⟩
theorem cutH_fgt: ∀{xs ys:Heap},cutH xs ys=ys→fgtH xs ys
 |[],ys,h=>by
  simp only[cutH]at h
  simp only[fgtH,chk_iff,and_true]
  cases e:ys.all fun y=>y.isEmpty with
  |true=>rfl
  |false=>
   rw[e]at h
   simp only at h
   subst h;cases e
 |_::_,[],_=>trivial
 |x::xs,[]::ys,h=>by
  simp only[cutH,List.cons.injEq]at h
  exact cutH_fgt (xs:=xs) h.2
 |x::xs,(z::zs)::ys,h=>by
  simp only[cutH,List.cons.injEq]at h
  exact⟨cutB_fgt h.1,cutH_fgt h.2⟩
theorem leE{s m:St}(h:cutS s m=some m):LeS s m:=by
 unfold cutS at h
 cases e:lowSt m with
 |false=>rw[e]at h;cases h
 |true=>
  rw[e]at h
  simp only[Option.some.injEq]at h
  have h1:cutL s.tm m.tm=m.tm:=congrArg St.tm h
  have h2:cutH s.hp m.hp=m.hp:=congrArg St.hp h
  exact⟨cutL_fgt h1,cutH_fgt h2,e⟩
noncomputable def us(n:Nat)(l:List AV):List AV:=Nat.rec (motive:=fun _=>List AV) l (fun _ r=> .undef::r) n
def KM{α:Type}(M:α→St)(a0 a:α):Prop:=some (M a)=some (M a0)
theorem KM.mk{α:Type}{M:α→St}{a0 a:α}(h:a=a0):KM M a0 a:=by subst h;rfl
section
variable {E:Env} {x y:Code} {Q:Exit→St→Prop} {st:St}
end
end Go.Vc
