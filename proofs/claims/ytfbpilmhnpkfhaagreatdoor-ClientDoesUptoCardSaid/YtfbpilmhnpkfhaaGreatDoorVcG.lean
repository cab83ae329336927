/-
  The end of slices.DeleteFunc: what is left over is cleared, and the slice of the call's own is cut.
-/
import Derived.Test.YtfbpilmhnpkfhaaGreatDoorVcL
import Derived.Test.YtfbpilmhnpkfhaaGreatDoorVcF
set_option linter.all false
namespace Go.Vc
open Go Go.RowKit
noncomputable def Sl.clr{α:Type}(s:Sl α)(i:Nat)(z:α):Sl α:=⟨s.n,fun t=>bif Nat.blt t i then s.at' t else z⟩
def Sl.cut{α:Type}(s:Sl α)(i:Nat):Sl α:=⟨i,s.at'⟩
/-! How the operations look. -/
def mvP(o:Oper):Option (Nat×Nat):=
 match o.guard with
 |none=>match o.dst with
  |some d=>match o.op with
   | .move x=>match x with
     | .tmp s=>some (d,s)
     |_=>none
   |_=>none
  |none=>none
 |some _=>none
def asP(o:Oper):Option (Nat×Nat):=
 match o.guard with
 |none=>match o.dst with
  |some d=>match o.op with
   | .assign x=>match x with
     | .tmp s=>some (d,s)
     |_=>none
   |_=>none
  |none=>none
 |some _=>none
structure SlP where
 d:Nat
 T:TypeId
 x:Nat
 y:Nat
def slLo(o:Oper):Option SlP:=
 match o.guard with
 |none=>match o.dst with
  |some d=>match o.op with
   | .slice T x l h m=>match x,l,h,m with
     | .tmp x,some (.tmp y),none,none=>some ⟨d,T,x,y⟩
     |_,_,_,_=>none
   |_=>none
  |none=>none
 |some _=>none
def slHi(o:Oper):Option SlP:=
 match o.guard with
 |none=>match o.dst with
  |some d=>match o.op with
   | .slice T x l h m=>match x,l,h,m with
     | .tmp x,none,some (.tmp y),none=>some ⟨d,T,x,y⟩
     |_,_,_,_=>none
   |_=>none
  |none=>none
 |some _=>none
def clP(o:Oper):Option (Nat×TypeId):=
 match o.guard with
 |none=>match o.dst with
  |none=>match o.op with
   | .call c=>match c.callee with
     | .builtin b=>match b with
       | .clear=>match c.args.toList,c.argTypes.toList with
         |[.tmp z],[T]=>some (z,T)
         |_,_=>none
       |_=>none
     |_=>none
   |_=>none
  |some _=>none
 |some _=>none
theorem mvP_some{o:Oper}{d s:Nat}(h:mvP o=some (d,s)):o.guard=none∧o.dst=some d∧o.op= .move (.tmp s):=by
 unfold mvP at h
 split at h<;>try (cases h;done)
 split at h<;>try (cases h;done)
 split at h<;>try (cases h;done)
 split at h<;>cases h
 exact⟨by assumption,by assumption,by assumption⟩
theorem asP_some{o:Oper}{d s:Nat}(h:asP o=some (d,s)):o.guard=none∧o.dst=some d∧o.op= .assign (.tmp s):=by
 unfold asP at h
 split at h<;>try (cases h;done)
 split at h<;>try (cases h;done)
 split at h<;>try (cases h;done)
 split at h<;>cases h
 exact⟨by assumption,by assumption,by assumption⟩
theorem slLo_some{o:Oper}{p:SlP}(h:slLo o=some p):o.guard=none∧o.dst=some p.d∧o.op= .slice p.T (.tmp p.x) (some (.tmp p.y)) none none:=by
 unfold slLo at h
 split at h<;>try (cases h;done)
 split at h<;>try (cases h;done)
 split at h<;>try (cases h;done)
 split at h<;>cases h
 exact⟨by assumption,by assumption,by assumption⟩
theorem slHi_some{o:Oper}{p:SlP}(h:slHi o=some p):o.guard=none∧o.dst=some p.d∧o.op= .slice p.T (.tmp p.x) none (some (.tmp p.y)) none:=by
 unfold slHi at h
 split at h<;>try (cases h;done)
 split at h<;>try (cases h;done)
 split at h<;>try (cases h;done)
 split at h<;>cases h
 exact⟨by assumption,by assumption,by assumption⟩
theorem clP_some{o:Oper}{z:Nat}{T:TypeId}(h:clP o=some (z,T)):o.guard=none∧o.dst=none∧ ∃c,o.op= .call c∧c.callee= .builtin .clear∧c.args= #[.tmp z]∧c.argTypes= #[T]:=by
 unfold clP at h
 split at h<;>try (cases h;done)
 split at h<;>try (cases h;done)
 split at h<;>try (cases h;done)
 split at h<;>try (cases h;done)
 split at h<;>try (cases h;done)
 split at h<;>cases h
 rename_i c _ _ _ h1 _ _ h2 h3
 exact⟨by assumption,by assumption,_,by assumption,h1,Array.toList_inj.1 h2,Array.toList_inj.1 h3⟩
def ownAt(st:St)(E:El)(s i:Nat)(K:Nat→Nat→IntKind→Int→Nat→(Nat→List AV)→Option (Ob×St)):Option (Ob×St):=
 match st.tm.getD s .undef with
 | .own b k=>match st.tm.getD i .undef with
   | .int kk z=>match hget st.hp b 0 with
     | .blk ro sz n f=>gd (!ro&&Nat.beq sz E.sz) (match K b k kk z n f with
       |some q=>some (.and (.e k n) (.and (.p ((0:Int)≤z∧z<((n:Nat):Int))) (.and (E.canon f) q.1)),q.2)
       |none=>none)
     |_=>none
   |_=>none
 |_=>none
def elTy(X:XE)(T:TypeId):Option (Ty×El):=
 match X.ty T with
 |some t=>match t.d with
  | .slice e esz _=>match X.el e with
    |some E=>match X.ty e with
     |some te=>gd (Nat.beq esz E.sz&&Nat.beq te.zero.length E.sz&&Nat.beq te.size E.sz) (some (te,E))
     |none=>none
    |none=>none
  |_=>none
 |none=>none
def okZ:AV→Bool
 | .undef=>false
 |_=>true
noncomputable def clrT(X:XE)(ops:List Oper)(st:St):Option (Ob×St):=
 match ops with
 |[o1,o2,o3,o4]=>match mvP o1 with
  |some p1=>match mvP o2 with
   |some p2=>match slLo o3 with
    |some p3=>match clP o4 with
     |some p4=>match elTy X p3.T with
      |some q=>gd (Nat.beq p3.x p1.1&&Nat.beq p3.y p2.1&&Nat.beq p4.1 p3.d&&Nat.beq p4.2 p3.T&& !(Nat.beq p1.1 p2.1)&& !(Nat.beq p2.2 p1.1)&&Nat.blt p1.1 st.tm.length&&Nat.blt p2.1 st.tm.length&&Nat.blt p3.d st.tm.length&&q.1.zero.all okZ)
       (ownAt st q.2 p1.2 p2.2 fun b _ kk z n f=>some (.e (cutN q.1.zero (q.2.e (q.2.d q.1.zero))) (q.2.e (q.2.d q.1.zero)),
        ⟨((st.tm.set p1.1 (.own b n)).set p2.1 (.int kk z)).set p3.d .undef,turnH st.hp b b (.blk false q.2.sz n fun t=>q.2.e ((Sl.clr (q.2.sl n f) z.toNat (q.2.d q.1.zero)).at' t))⟩))
      |none=>none
     |none=>none
    |none=>none
   |none=>none
  |none=>none
 |_=>none
noncomputable def cutT(X:XE)(ops:List Oper)(st:St):Option (Ob×St):=
 match ops with
 |[o1,o2,o3,o4]=>match mvP o1 with
  |some p1=>match mvP o2 with
   |some p2=>match slHi o3 with
    |some p3=>match asP o4 with
     |some p4=>match elTy X p3.T with
      |some q=>gd (Nat.beq p3.x p1.1&&Nat.beq p3.y p2.1&&Nat.beq p4.2 p3.d&& !(Nat.beq p1.1 p2.1)&& !(Nat.beq p2.2 p1.1)&&Nat.blt p1.1 st.tm.length&&Nat.blt p2.1 st.tm.length&&Nat.blt p3.d st.tm.length&&Nat.blt p4.1 st.tm.length)
       (ownAt st q.2 p1.2 p2.2 fun b _ kk z n f=>some (.tt,
        ⟨(((st.tm.set p1.1 .undef).set p2.1 (.int kk z)).set p3.d (.own st.hp.length z.toNat)).set p4.1 (.own st.hp.length z.toNat),turnH st.hp b st.hp.length (.blk false q.2.sz z.toNat fun t=>q.2.e ((Sl.cut (q.2.sl n f) z.toNat).at' t))⟩))
      |none=>none
     |none=>none
    |none=>none
   |none=>none
  |none=>none
 |_=>none
noncomputable def owT(X:XE)(ops:List Oper)(draw:Bool)(st:St):Option (Ob×St):=
 match draw with
 |true=>none
 |false=>match clrT X ops st with
  |some q=>some q
  |none=>cutT X ops st
section
variable {X:XE} {S:Base} {ι:Nat→Option Nat} {st:St} {a:Act} {w:World}
theorem wpList_go{P:Program}{ops:Array Oper}{Q:Exit→Act→World→Prop}{rest:List Oper}{o:Oper}(hg:o.guard=none)(h:o.wp P a w (wpList P ops Q rest) Q):wpList P ops Q (o::rest) a w:=by
 unfold wpList
 rw[if_pos (by simp [Region.wanted,hg])]
 exact .inl h
theorem mv_step{P:Program}{o:Oper}{d s:Nat}{next:Act→World→Prop}{Q:Exit→Act→World→Prop}(h:mvP o=some (d,s))(hn:next (a.put (some d) (a.eval (.tmp s))) w):o.wp P a w next Q:=by
 obtain⟨_,h2,h3⟩:=mvP_some h
 refine wp_value (v:=a.eval (.tmp s)) (w':=w) ?_ (by rw[h2];exact hn)
 simp [execOp,h3]
theorem as_step{P:Program}{o:Oper}{d s:Nat}{next:Act→World→Prop}{Q:Exit→Act→World→Prop}(h:asP o=some (d,s))(hn:next (a.put (some d) (a.eval (.tmp s))) w):o.wp P a w next Q:=by
 obtain⟨_,h2,h3⟩:=asP_some h
 refine wp_value (v:=a.eval (.tmp s)) (w':=w) ?_ (by rw[h2];exact hn)
 simp [execOp,h3]
theorem put_eval(d:Nat)(v:Value)(t:Nat):(a.put (some d) v).eval (.tmp t)=if t=d∧d<a.tmps.size then v else a.eval (.tmp t):=by
 simp only[Act.eval,Act.put]
 by_cases e:t=d
 ·subst e
  by_cases h:t<a.tmps.size
  ·simp [h]
  ·simp [h]
 ·simp only[e,false_and,if_false]
  rw[Array.getD_eq_getD_getElem?,Array.getD_eq_getD_getElem?,Array.getElem?_setIfInBounds_ne (fun h=>e h.symm)]
theorem ownAt_some{E:El}{s i:Nat}{K:Nat→Nat→IntKind→Int→Nat→(Nat→List AV)→Option (Ob×St)}{o:Ob}{s':St}(h:ownAt st E s i K=some (o,s'))(ho:o.holds):
  ∃b k kk z n f o',st.tm.getD s .undef= .own b n∧st.tm.getD i .undef= .int kk z∧hget st.hp b 0= .blk false E.sz n f∧K b k kk z n f=some (o',s')∧0≤z∧z<(n:Int)∧(∀t,f t=E.e (E.d (f t)))∧o'.holds:=by
 unfold ownAt at h
 split at h<;>try (cases h;done)
 rename_i b k e1
 split at h<;>try (cases h;done)
 rename_i kk z e2
 split at h<;>try (cases h;done)
 rename_i ro sz n f e3
 rw[gd_some]at h
 obtain⟨h1,h⟩:=h
 split at h<;>try (cases h;done)
 rename_i q eq
 cases h
 obtain⟨g1,g2,g3,g4⟩:=ho
 have g1:k=n:=g1
 subst g1
 simp only[Bool.and_eq_true,Bool.not_eq_true']at h1
 obtain⟨r1,r2⟩:=h1
 have r2:=Nat.eq_of_beq_eq_true r2
 subst r1 r2
 exact⟨b,_,kk,z,_,f,q.1,e1,e2,e3,eq,g2.1,g2.2,fun t=>congrFun g3 t,g4⟩
theorem elTy_some(hE:X.env.Ok){T:TypeId}{te:Ty}{E:El}(h:elTy X T=some (te,E)):te.zero.length=E.sz∧ ∃e i z,X.P.underlying T=some (.slice e)∧X.P.info? e=some i∧i.size=E.sz∧i.zero=some z∧z.cells.size=E.sz∧All2 ZRel te.zero z.cells.toList:=by
 unfold elTy at h
 split at h<;>try (cases h;done)
 rename_i t et
 split at h<;>try (cases h;done)
 rename_i e esz eb ed
 split at h<;>try (cases h;done)
 rename_i E' eE
 split at h<;>try (cases h;done)
 rename_i te' ete
 rw[gd_some]at h
 obtain⟨h1,h⟩:=h
 cases h
 simp only[Bool.and_eq_true]at h1
 obtain⟨⟨r1,r2⟩,r3⟩:=h1
 have r1:=Nat.eq_of_beq_eq_true r1
 have r2:=Nat.eq_of_beq_eq_true r2
 have r3:=Nat.eq_of_beq_eq_true r3
 have hT:=(hE.ty T t et).d
 rw[ed]at hT
 obtain⟨hu,i,hi1,hi2,_⟩:=hT
 obtain⟨i',z,g1,g2,g3,g4,g5⟩:=(hE.ty e te ete).info
 have hii:i'=i:=by
  have:X.P.info? e=some i':=g1
  have h2:X.P.info? e=some i:=hi1
  rw[this]at h2;cases h2;rfl
 subst hii
 exact⟨r2,e,i',z,hu,g1,by rw[g2,r3],g3,by rw[g4,r3],g5⟩
theorem evalTmp(h:Sim S ι st a w){t:Nat}{av:AV}(e:st.tm.getD t .undef=av):VR S ι st.hp w av (a.eval (.tmp t)):=by
 have:=h.eval (.tmp t)
 simp only[evalA]at this
 rwa [e]at this
theorem two_moves(h:Sim S ι st a w){d1 d2 s i b n:Nat}{kk:IntKind}{z:Int}{x1:AV}{ops:Array Oper}{Q:Exit→Act→World→Prop}{o1 o2:Oper}{l:List Oper}
  (h1:mvP o1=some (d1,s)) (h2:mvP o2=some (d2,i)) (hd:d1≠d2) (hi:i≠d1) (hl1:d1<st.tm.length) (hl2:d2<st.tm.length) (e1:st.tm.getD s .undef= .own b n) (e2:st.tm.getD i .undef= .int kk z) (hx:x1= .undef∨x1= .own b n)
  (hk: ∀a',Sim S ι ⟨(st.tm.set d1 x1).set d2 (.int kk z),st.hp⟩ a' w→CR S ι st.hp w (.own b n) (a'.eval (.tmp d1))→a'.eval (.tmp d2)= .int kk z→wpList X.P ops Q l a' w):wpList X.P ops Q (o1::o2::l) a w:=by
 have r1:=evalTmp h e1
 have r2:=evalTmp h e2
 have r2':=VR.int r2
 refine wpList_go (mvP_some h1).1 (mv_step h1 (wpList_go (mvP_some h2).1 (mv_step h2 ?_)))
 have hsz: ∀t,t<st.tm.length→t<a.tmps.size:=fun t ht=>by
  obtain⟨v,hv,_⟩:=h.tm t _ (List.getElem?_eq_getElem ht)
  exact(Array.getElem?_eq_some_iff.1 hv).1
 have ei:(a.put (some d1) (a.eval (.tmp s))).eval (.tmp i)= .int kk z:=by
  rw[put_eval,if_neg (fun g=>hi g.1)];exact r2'
 have s1:Sim S ι ⟨st.tm.set d1 x1,st.hp⟩ (a.put (some d1) (a.eval (.tmp s))) w:=by
  rcases hx with rfl|rfl
  ·exact Sim.dst h (some d1) (av:= .undef) trivial
  ·exact Sim.dst h (some d1) r1
 have s2:=Sim.dst s1 (some d2) (av:= .int kk z) (v:= .int kk z) (VR.mkInt _ _)
 rw[ei]
 refine hk _ s2 ?_ ?_
 ·rw[put_eval,if_neg (fun g=>hd g.1),put_eval,if_pos ⟨rfl,hsz _ hl1⟩]
  exact r1
 ·rw[put_eval,if_pos ⟨rfl,by simp [Act.put];exact hsz _ hl2⟩]
theorem zero_cell{E:El}{te:Ty}{z:Value}(hz:All2 ZRel te.zero z.cells.toList)(hok:te.zero.all okZ=true)(hnz:nzL te.zero (E.e (E.d te.zero)))(hl:te.zero.length=E.sz){j:Nat}(hj:j<E.sz)(w:World)(F:Nat→Prop):
  ∃av u,(E.e (E.d te.zero))[j]? =some av∧z.cells[j]? =some u∧FRel w F av u:=by
 obtain⟨x,hx⟩: ∃x,te.zero[j]? =some x:=⟨_,List.getElem?_eq_getElem (by omega)⟩
 obtain⟨v,h1,h2⟩:=hz.get j x hx
 obtain⟨y,h3,h4⟩:=nzL_get j x hnz hx
 have hxo:okZ x=true:=List.all_eq_true.1 hok x (List.mem_of_getElem? hx)
 refine⟨y,v,h3,by simpa using h1,nz1_rel h4 ?_⟩
 cases x<;>simp only[ZRel]at h2<;>first|exact h2.elim|(subst h2;constructor)|(obtain⟨rfl,hz⟩:=h2;exact FRel.str _ (by omega))|(cases hxo;done)
theorem zeroCells_at{z:Array Value}{m t j:Nat}(ht:t<m)(hj:j<z.size):(Builtin.zeroCells z m).toList[t*z.size+j]? =z[j]? :=by
 have hlt:=idx_lt ht hj
 simp only[Builtin.zeroCells,Array.toList_map,List.getElem?_map,Array.getElem?_toList]
 rw[Array.getElem?_range]
 rw[if_pos hlt]
 simp only[Option.map_some]
 have:(t*z.size+j)%z.size=j:=by rw[Nat.add_comm,Nat.add_mul_mod_self_right,Nat.mod_eq_of_lt hj]
 rw[this,getElem!_pos z j hj,Array.getElem?_eq_getElem hj]
def WpR(X:XE)(ops:Array Oper)(st s':St):Prop:= ∀(S:Base) (ι:Nat→Option Nat) (a:Act) (w:World) (Q:Exit→Act→World→Prop),Sim S ι st a w→(∀ι' a' w',Sim S ι' s' a' w'→Q .normal a' w')→wpList X.P ops Q ops.toList a w
theorem WpR.wp{ops:Array Oper}{s':St}(h:WpR X ops st s')(id:Nat):WP X.env (.region id ops false) (fun e s=>e= .normal∧s=s') st:=fun S _ ι a w hs=>
 wp_region_list (h S ι a w _ hs fun ι' a' w' hs'=>⟨ι',s',hs',rfl,rfl⟩)
theorem clrT_ok(hE:X.env.Ok){ops:Array Oper}{o:Ob}{s':St}(h:clrT X ops.toList st=some (o,s'))(ho:o.holds):WpR X ops st s':=by
 intro S ι a w Q hs hQ
 unfold clrT at h
 split at h<;>try (cases h;done)
 rename_i o1 o2 o3 o4 eops
 split at h<;>try (cases h;done)
 rename_i p1 ep1
 split at h<;>try (cases h;done)
 rename_i p2 ep2
 split at h<;>try (cases h;done)
 rename_i p3 ep3
 split at h<;>try (cases h;done)
 rename_i p4 ep4
 split at h<;>try (cases h;done)
 rename_i q eq
 obtain⟨te,E⟩:=q
 rw[gd_some]at h
 obtain⟨hb,h⟩:=h
 simp only[Bool.and_eq_true,Bool.not_eq_true']at hb
 obtain⟨⟨⟨⟨⟨⟨⟨⟨⟨b1,b2⟩,b3⟩,b4⟩,b5⟩,b6⟩,b7⟩,b8⟩,b9⟩,b10⟩:=hb
 replace b1:=(Nat.eq_of_beq_eq_true b1).symm
 replace b2:=(Nat.eq_of_beq_eq_true b2).symm
 replace b3:=(Nat.eq_of_beq_eq_true b3).symm
 replace b4:=(Nat.eq_of_beq_eq_true b4).symm
 replace b5:=Nat.ne_of_beq_eq_false b5
 replace b6:=Nat.ne_of_beq_eq_false b6
 replace b7:p1.1<st.tm.length:=Nat.le_of_ble_eq_true b7
 replace b8:p2.1<st.tm.length:=Nat.le_of_ble_eq_true b8
 replace b9:p3.d<st.tm.length:=Nat.le_of_ble_eq_true b9
 obtain⟨d1,s⟩:=p1
 obtain⟨d2,i⟩:=p2
 obtain⟨zt,T4⟩:=p4
 obtain⟨d3,T,x3,y3⟩:=p3
 simp only at b1 b2 b3 b4 b5 b6 b7 b8 b9 b10 h
 subst b1 b2 b3 b4
 obtain⟨b,k,kk,z,n,f,o',e1,e2,e3,hK,hz0,hzn,hcan,ho'⟩:=ownAt_some h ho
 simp only[Option.some.injEq,Prod.mk.injEq]at hK
 obtain⟨rfl,rfl⟩:=hK
 have hnz:nzL te.zero (E.e (E.d te.zero)):=cutN_nz ho'
 obtain⟨hzl,e,inf,zv,hu,hi1,hi2,hi3,hi4,hi5⟩:=elTy_some hE eq
 rw[eops]
 refine two_moves (x1:= .own b n) hs ep1 ep2 b5 b6 b7 b8 e1 e2 (.inr rfl) fun a' hs2 hv1 hv2=> ?_
 obtain⟨hbig,hown⟩:=hs.ownGet e3 hv1
 rcases hown with⟨x,c,C,T',hx,hv,hnc,hC,hCs,hcells⟩|⟨h0,_⟩
 case inr=>omega
 obtain⟨g31,g32,g33⟩:=slLo_some ep3
 obtain⟨g41,g42,cc,g43,g44,g45,g46⟩:=clP_some ep4
 have hlo:(Instr.sliceBounds true n c (some (.int kk z)) none none).run X.P w= .ok (z.toNat,n,c) w:=by
  simp [Instr.sliceBounds,run_sliceBound w kk z n _ hz0 (by omega)]
 refine wpList_go g31 (wp_value (v:= .slice (some ⟨x,z.toNat*E.sz,none⟩) (n-z.toNat) (c-z.toNat)) (w':=w) ?_ ?_)
 ·have hne: ¬c=z.toNat:=by omega
  simp [execOp,g33,hv,hv2,Instr.sliceAt,run_underlying hu,Instr.slice,hlo,sizeOf,typeInfo,hi1,hi2,hne,Addr.add]
  exact fun h=>h.symm
 rw[g32]
 have hs3:Sim S ι ⟨((st.tm.set d1 (.own b n)).set d2 (.int kk z)).set d3 .undef,st.hp⟩ (a'.put (some d3) (.slice (some ⟨x,z.toNat*E.sz,none⟩) (n-z.toNat) (c-z.toNat))) w:=Sim.dst hs2 (some d3) (av:= .undef) trivial
 have hd3:d3<a'.tmps.size:=by
  obtain⟨v,hv,_⟩:=hs2.tm d3 _ (List.getElem?_eq_getElem (by simpa using b9))
  exact(Array.getElem?_eq_some_iff.1 hv).1
 have hev:(a'.put (some d3) (.slice (some ⟨x,z.toNat*E.sz,none⟩) (n-z.toNat) (c-z.toNat))).eval (.tmp d3)= .slice (some ⟨x,z.toNat*E.sz,none⟩) (n-z.toNat) (c-z.toNat):=by
  rw[put_eval,if_pos ⟨rfl,hd3⟩]
 generalize (a'.put (some d3) (.slice (some ⟨x,z.toNat*E.sz,none⟩) (n-z.toNat) (c-z.toNat)))=a3 at hs3 hev
 have hone:zv.cells.all (fun v=>v.oneCell')=true:=by
  apply Array.all_eq_true.2
  intro j hj
  obtain⟨av,u,_,q2,q3⟩:=zero_cell hi5 b10 hnz hzl (j:=j) (by rw[←hi4];exact hj) w (fun _=>True)
  rw[Array.getElem?_eq_getElem hj]at q2
  cases q2
  exact q3.oneC
 obtain⟨hzl2,hz1⟩:(Builtin.zeroCells zv.cells (n-z.toNat)).toList.length=(n-z.toNat)*E.sz∧ ∀v∈(Builtin.zeroCells zv.cells (n-z.toNat)).toList,v.oneCell'=true:=by
  refine⟨by simp [Builtin.zeroCells,hi4],fun v hv=> ?_⟩
  simp only[Builtin.zeroCells,Array.toList_map,List.mem_map,Array.mem_toList_iff,Array.mem_range]at hv
  obtain⟨t,ht,rfl⟩:=hv
  have hpos:0<zv.cells.size:=by
   rcases Nat.eq_zero_or_pos zv.cells.size with e|e
   ·rw[e]at ht;simp at ht
   ·exact e
  have hlt:=Nat.mod_lt t hpos
  rw[getElem!_pos zv.cells _ hlt]
  exact Array.all_eq_true.1 hone _ hlt
 have hmul:z.toNat*E.sz+(n-z.toNat)*E.sz=n*E.sz:=by rw[←Nat.add_mul];congr 1;omega
 have hnsz:n*E.sz≤C.size:=by rw[hCs];exact Nat.mul_le_mul_right _ hnc
 have hclr:=run_clear_k (P:=X.P) w T e o4.type zv hu (fun w=>by simp [zeroValue,typeInfo,hi1,hi3]) x (z.toNat*E.sz) (n-z.toNat) (c-z.toNat) (by omega) _ rfl hz1 (fun j hj=>by
  rw[hzl2]at hj
  rw[cell_row hC,Array.getElem?_eq_getElem (by omega)];rfl) (fun j _=>frozen_row hC _)
 refine wpList_go g41 (wp_value (v:= .tuple #[]) (w':=w.setCells x (z.toNat*E.sz) (Builtin.zeroCells zv.cells (n-z.toNat)).toList) ?_ ?_)
 ·simp [execOp,g43,resolve,g44,g45,g46,invoke,builtin,hev]
  rw[hclr]
  rfl
 rw[g42]
 obtain⟨⟨C2,q1,q2,q3⟩,q4,q5,q6,q7,q8⟩:=heap_setCells x (Builtin.zeroCells zv.cells (n-z.toNat)).toList (z.toNat*E.sz) w C T' (0,0) hC
 generalize w.setCells x (z.toNat*E.sz) (Builtin.zeroCells zv.cells (n-z.toNat)).toList=w' at*
 have e3':hget (⟨((st.tm.set d1 (.own b n)).set d2 (.int kk z)).set d3 .undef,st.hp⟩:St).hp b 0= .blk false E.sz n f:=e3
 obtain⟨ι',hs4,_⟩:=Sim.turn (b:=b) (b2:=b) (f:=f) (f':=fun t=>E.e ((Sl.clr (E.sl n f) z.toNat (E.d te.zero)).at' t)) (n':=n) (c:=c) (w':=w') (C':=C2) hs3 e3' hx hC q6 q7 q8 q4 q5 q1 (by rw[q2];exact hCs) hbig hnc (fun p r hp hr=>by
  have hpr:=idx_lt hp hr
  rw[q3,hzl2]
  show∃av u,(E.e (bif Nat.blt p z.toNat then E.d (f p)else E.d te.zero))[r]? =some av∧_
  by_cases hpi:p<z.toNat
  ·have hb:Nat.blt p z.toNat=true:=by simpa[Nat.blt_eq]using hpi
   have:=idx_lt hpi hr
   rw[if_neg (by omega),hb,cond_true,←hcan]
   exact hcells p r hp hr
  ·have hb:Nat.blt p z.toNat=false:=by
    cases e:Nat.blt p z.toNat with
    |false=>rfl
    |true=>exact absurd (Nat.le_of_ble_eq_true e) (by omega)
   have h1:z.toNat*E.sz≤p*E.sz:=Nat.mul_le_mul_right _ (by omega)
   have h2:(p-z.toNat)*E.sz=p*E.sz-z.toNat*E.sz:=Nat.sub_mul _ _ _
   rw[if_pos ⟨by omega,by omega,by omega⟩,hb,cond_false]
   obtain⟨av,u,k1,k2,k3⟩:=zero_cell hi5 b10 hnz hzl hr w' (FZ S ι st.hp w)
   refine⟨av,u,k1,?_,?_⟩
   ·have ht:p-z.toNat<n-z.toNat:=by omega
    have:=zeroCells_at (z:=zv.cells) ht (by rw[hi4];exact hr)
    rw[hi4]at this
    rw[show p*E.sz+r-z.toNat*E.sz=(p-z.toNat)*E.sz+r by omega,this]
    exact k2
   ·obtain⟨av',u',k1',k2',k3'⟩:=zero_cell hi5 b10 hnz hzl hr w (FZ S ι st.hp w)
    rw[k1]at k1';cases k1'
    rw[k2]at k2';cases k2'
    exact k3') (.inl ⟨rfl,.inr ⟨rfl,q2⟩⟩)
 exact hQ ι' _ w' hs4
theorem cutT_ok(hE:X.env.Ok){ops:Array Oper}{o:Ob}{s':St}(h:cutT X ops.toList st=some (o,s'))(ho:o.holds):WpR X ops st s':=by
 intro S ι a w Q hs hQ
 unfold cutT at h
 split at h<;>try (cases h;done)
 rename_i o1 o2 o3 o4 eops
 split at h<;>try (cases h;done)
 rename_i p1 ep1
 split at h<;>try (cases h;done)
 rename_i p2 ep2
 split at h<;>try (cases h;done)
 rename_i p3 ep3
 split at h<;>try (cases h;done)
 rename_i p4 ep4
 split at h<;>try (cases h;done)
 rename_i q eq
 obtain⟨te,E⟩:=q
 rw[gd_some]at h
 obtain⟨hb,h⟩:=h
 simp only[Bool.and_eq_true,Bool.not_eq_true']at hb
 obtain⟨⟨⟨⟨⟨⟨⟨⟨b1,b2⟩,b3⟩,b5⟩,b6⟩,b7⟩,b8⟩,b9⟩,b10⟩:=hb
 replace b1:=(Nat.eq_of_beq_eq_true b1).symm
 replace b2:=(Nat.eq_of_beq_eq_true b2).symm
 replace b3:=(Nat.eq_of_beq_eq_true b3).symm
 replace b5:=Nat.ne_of_beq_eq_false b5
 replace b6:=Nat.ne_of_beq_eq_false b6
 replace b7:p1.1<st.tm.length:=Nat.le_of_ble_eq_true b7
 replace b8:p2.1<st.tm.length:=Nat.le_of_ble_eq_true b8
 replace b9:p3.d<st.tm.length:=Nat.le_of_ble_eq_true b9
 obtain⟨d1,s⟩:=p1
 obtain⟨d2,i⟩:=p2
 obtain⟨d4,zt⟩:=p4
 obtain⟨d3,T,x3,y3⟩:=p3
 simp only at b1 b2 b3 b5 b6 b7 b8 b9 b10 h
 subst b1 b2 b3
 obtain⟨b,k,kk,z,n,f,o',e1,e2,e3,hK,hz0,hzn,hcan,ho'⟩:=ownAt_some h ho
 simp only[Option.some.injEq,Prod.mk.injEq]at hK
 obtain⟨rfl,rfl⟩:=hK
 obtain⟨hzl,e,inf,zv,hu,hi1,hi2,hi3,hi4,hi5⟩:=elTy_some hE eq
 rw[eops]
 refine two_moves (x1:= .undef) hs ep1 ep2 b5 b6 b7 b8 e1 e2 (.inl rfl) fun a' hs2 hv1 hv2=> ?_
 obtain⟨hbig,hown⟩:=hs.ownGet e3 hv1
 rcases hown with⟨x,c,C,T',hx,hv,hnc,hC,hCs,hcells⟩|⟨h0,_⟩
 case inr=>omega
 obtain⟨g31,g32,g33⟩:=slHi_some ep3
 obtain⟨g41,g42,g43⟩:=asP_some ep4
 have hhi:(Instr.sliceBounds true n c none (some (.int kk z)) none).run X.P w= .ok (0,z.toNat,c) w:=by
  simp [Instr.sliceBounds,run_sliceBound w kk z c _ hz0 (by omega)]
 have e3':hget (⟨(st.tm.set d1 .undef).set d2 (.int kk z),st.hp⟩:St).hp b 0= .blk false E.sz n f:=e3
 obtain⟨ι',hs3,hv3⟩:=Sim.turn (b:=b) (b2:=st.hp.length) (f:=f) (f':=fun t=>E.e ((Sl.cut (E.sl n f) z.toNat).at' t)) (n':=z.toNat) (c:=c) (w':=w) (C':=C) hs2 e3' hx hC rfl rfl rfl rfl (fun _ _=>rfl) hC hCs (by omega) (by omega) (fun p r hp hr=>by
  show∃av u,(E.e (E.d (f p)))[r]? =some av∧_
  rw[←hcan]
  exact hcells p r (by omega) hr) (.inr ⟨fun g=>by
   have:=hs.dom b x hx
   omega,fun o=>hget_ge (Nat.le_refl _) o,hs.none_ge (Nat.le_refl _)⟩)
 refine wpList_go g31 (wp_value (v:= .slice (some ⟨x,0,none⟩) z.toNat c) (w':=w) ?_ ?_)
 ·simp [execOp,g33,hv,hv2,Instr.sliceAt,run_underlying hu,Instr.slice,hhi,sizeOf,typeInfo,hi1,hi2,Addr.add]
 rw[g32]
 have hd3:d3<a'.tmps.size:=by
  obtain⟨v,hv,_⟩:=hs2.tm d3 _ (List.getElem?_eq_getElem (by simpa using b9))
  exact(Array.getElem?_eq_some_iff.1 hv).1
 have hs4:=Sim.dst hs3 (some d3) (av:= .own st.hp.length z.toNat) (v:= .slice (some ⟨x,0,none⟩) z.toNat c) hv3
 have hev:(a'.put (some d3) (.slice (some ⟨x,0,none⟩) z.toNat c)).eval (.tmp d3)= .slice (some ⟨x,0,none⟩) z.toNat c:=by
  rw[put_eval,if_pos ⟨rfl,hd3⟩]
 refine wpList_go g41 (as_step ep4 ?_)
 rw[hev]
 exact hQ ι' _ w (Sim.dst hs4 (some d4) (av:= .own st.hp.length z.toNat) hv3)
theorem owT_ok(hE:X.env.Ok){ops:Array Oper}{draw:Bool}{o:Ob}{s':St}(h:owT X ops.toList draw st=some (o,s'))(ho:o.holds)(id:Nat):WP X.env (.region id ops draw) (fun e s=>e= .normal∧s=s') st:=by
 unfold owT at h
 cases draw with
 |true=>cases h
 |false=>
  simp only at h
  split at h
  ·rename_i q eq
   cases h
   exact(clrT_ok hE eq ho).wp id
  ·exact(cutT_ok hE h ho).wp id
end
end Go.Vc
namespace Go.Vc
open Go Go.RowKit
/-! What a function hands back. -/
inductive Md where
 |pure
 |own (E:El)
 |heap
 |hp2 (fr:Bool) (dr:List Key) (l:List Cvi)
 |hp3 (fr:Bool) (dr:List Key) (l:List Cvi) (sf:List AV→St) (lf:St→List AV)
structure RS where
 md:Md
 rs:List ResultVar
 ks:List (Key×Kd)
 RB:St
def RS.kd(R:RS):List Kd:=R.ks.map (·.2)
def RS.st(R:RS)(vs:List AV):St:=
 match R.md with
 | .hp3 _ _ _ sf _=>sf vs
 |_=>mkS R.RB (R.ks.map (·.1)) vs
def rc1(x y:AV):AV:=
 match y with
 | .arr sz _ g=>match x with
   | .nils=> .arr sz 0 g
   |x=>x
 | .undef=> .nils
 | .agg _=> .nils
 |_=>x
def rcC:List AV→List AV→List AV
 |x::xs,y::ys=>rc1 x y::rcC xs ys
 |[],_=>[]
 |x::xs,[]=>x::xs
def rcA(x y:AV):AV:=
 match y with
 | .agg ds=>match x with
   | .agg cs=> .agg (rcC cs ds)
   |x=>x
 |y=>rc1 x y
def rcL:List AV→List AV→List AV
 |x::xs,y::ys=>rcA x y::rcL xs ys
 |[],_=>[]
 |x::xs,[]=>x::xs
theorem rc1_le{x y:AV}(h:rc1 x y=y):cLe x y:=by
 cases y<;>simp only[rc1]at h<;>try (cases h;done)
 case arr sz n g=>
  cases x<;>simp only[AV.arr.injEq,reduceCtorEq]at h
  ·exact h.2.1.symm
  ·obtain⟨rfl,rfl,rfl⟩:=h;exact⟨rfl,rfl,fun _ _=>rfl⟩
 all_goals (subst h;rfl)
theorem rcC_le: ∀{xs ys:List AV},rcC xs ys=ys→All2 cLe xs ys
 |[],[],_=>trivial
 |[],_::_,h=>by simp [rcC]at h
 |_::_,[],h=>by simp [rcC]at h
 |x::xs,y::ys,h=>by
  simp only[rcC,List.cons.injEq]at h
  exact⟨rc1_le h.1,rcC_le h.2⟩
theorem rcA_le{x y:AV}(h:rcA x y=y):aLe x y:=by
 cases y<;>simp only[rcA]at h
 case agg ds=>
  cases x<;>simp only[AV.agg.injEq,reduceCtorEq]at h
  exact rcC_le h
 all_goals
  have:=rc1_le h
  cases x<;>first|exact this|(simp [cLe]at this;done)
theorem rcL_le: ∀{xs ys:List AV},rcL xs ys=ys→All2 aLe xs ys
 |[],[],_=>trivial
 |[],_::_,h=>by simp [rcL]at h
 |_::_,[],h=>by simp [rcL]at h
 |x::xs,y::ys,h=>by
  simp only[rcL,List.cons.injEq]at h
  exact⟨rcA_le h.1,rcL_le h.2⟩
def resVT(X:XE)(st:St)(r:ResultVar):Option V1:=
 match r with
 | .tmp t=>frzT st.hp (st.tm.getD t .undef)
 | .cell t T=>withT X T fun ty=>match loadT ty st.hp (st.tm.getD t .undef)with
   |some q=>match frzT st.hp q.2 with
    |some q'=>some (.and q.1 q'.1,q'.2)
    |none=>none
   |none=>none
theorem resVT_ok{X:XE}{st:St}{r:ResultVar}{o:Ob}{av:AV}{K:AV→Prop}(h:resVT X st r=some (o,av))(ho:o.holds)(hK:K av):resV X.env st r K:=by
 unfold resVT at h
 unfold resV
 cases r with
 |tmp t=>exact frzT_ok h ho hK
 |cell t T=>
  simp only at h ⊢
  obtain⟨ty,h1,h2⟩:=withT_some h
  refine withTy_of h1 ?_
  split at h2<;>try (cases h2;done)
  rename_i q e
  split at h2<;>try (cases h2;done)
  rename_i q' e'
  cases h2
  exact loadT_ok (o:=q.1) (av:=q.2) e ho.1 (frzT_ok (o:=q'.1) (av:=q'.2) e' ho.2 hK)
def resTL(X:XE)(st:St):List ResultVar→Option (Ob×List AV)
 |[]=>some (.tt,[])
 |r::rs=>match resVT X st r with
  |some q=>match resTL X st rs with
   |some q'=>some (.and q.1 q'.1,q.2::q'.2)
   |none=>none
  |none=>none
theorem resTL_ok{X:XE}{st:St} : ∀{rs:List ResultVar} {o:Ob} {vs:List AV} {K:List AV→Prop},resTL X st rs=some (o,vs)→o.holds→K vs→resL X.env st rs K
 |[],o,vs,K,h,ho,hK=>by cases h;exact hK
 |r::rs,o,vs,K,h,ho,hK=>by
  simp only[resTL]at h
  split at h<;>try (cases h;done)
  rename_i q e
  split at h<;>try (cases h;done)
  rename_i q' e'
  cases h
  exact resVT_ok (o:=q.1) (av:=q.2) e ho.1 (resTL_ok (o:=q'.1) (vs:=q'.2) e' ho.2 hK)
def hresVT(X:XE)(st:St)(r:ResultVar):Option V1:=
 match r with
 | .tmp t=>pure1 (st.tm.getD t .undef)
 | .cell t T=>withT X T fun ty=>loadT ty st.hp (st.tm.getD t .undef)
theorem hresVT_ok{X:XE}{st:St}{r:ResultVar}{o:Ob}{av:AV}{K:AV→Prop}(h:hresVT X st r=some (o,av))(ho:o.holds)(hK:K av):hresV X.env st r K:=by
 unfold hresVT at h
 unfold hresV
 cases r with
 |tmp t=>cases h;exact hK
 |cell t T=>
  simp only at h ⊢
  obtain⟨ty,h1,h2⟩:=withT_some h
  exact withTy_of h1 (loadT_ok h2 ho hK)
def hresTL(X:XE)(st:St):List ResultVar→Option (Ob×List AV)
 |[]=>some (.tt,[])
 |r::rs=>match hresVT X st r with
  |some q=>match hresTL X st rs with
   |some q'=>some (.and q.1 q'.1,q.2::q'.2)
   |none=>none
  |none=>none
theorem hresTL_ok{X:XE}{st:St} : ∀{rs:List ResultVar} {o:Ob} {vs:List AV} {K:List AV→Prop},hresTL X st rs=some (o,vs)→o.holds→K vs→hresL X.env st rs K
 |[],o,vs,K,h,ho,hK=>by cases h;exact hK
 |r::rs,o,vs,K,h,ho,hK=>by
  simp only[hresTL]at h
  split at h<;>try (cases h;done)
  rename_i q e
  split at h<;>try (cases h;done)
  rename_i q' e'
  cases h
  exact hresVT_ok (o:=q.1) (av:=q.2) e ho.1 (hresTL_ok (o:=q'.1) (vs:=q'.2) e' ho.2 hK)
def ownT(E:El)(H:Heap)(x:AV):Option V1:=
 match x with
 | .own b k=>match hget H b 0 with
   | .blk ro sz n f=>gd (!ro&&Nat.beq sz E.sz) (some (.and (.e k n) (E.canon f),.blk false E.sz n fun i=>E.e ((E.sl n f).at' i)))
   |_=>none
 | .nils=>pure1 (.blk false E.sz 0 fun i=>E.e ((@nilSl E.T E.inh).at' i))
 |_=>none
theorem ownT_ok{E:El}{H:Heap}{x:AV}{o:Ob}{av:AV}(h:ownT E H x=some (o,av))(ho:o.holds): ∃n f,av= .blk false E.sz n f∧ownV H E.sz n f x:=by
 unfold ownT at h
 unfold ownV
 cases x<;>simp only[pure1]at h ⊢ <;>try (cases h;done)
 ·cases h;exact⟨0,_,rfl,rfl⟩
 ·split at h<;>try (cases h;done)
  rename_i e
  rw[gd_some]at h
  obtain⟨h1,h⟩:=h
  cases h
  simp only[e]
  exact⟨_,_,rfl,chk_iff.2 ⟨h1,ho.1,rfl,fun i _=>congrFun ho.2 i⟩⟩
def resOT(X:XE)(E:El)(st:St)(rs:List ResultVar):Option V1:=
 match rs with
 |[x]=>match x with
  | .tmp t=>ownT E st.hp (st.tm.getD t .undef)
  | .cell t T=>withT X T fun ty=>match loadT ty st.hp (st.tm.getD t .undef)with
    |some q=>match ownT E st.hp q.2 with
     |some q'=>some (.and q.1 q'.1,q'.2)
     |none=>none
    |none=>none
 |_=>none
theorem resOT_ok{X:XE}{E:El}{st:St}{rs:List ResultVar}{o:Ob}{av:AV}(h:resOT X E st rs=some (o,av))(ho:o.holds): ∃n f,av= .blk false E.sz n f∧resOwn X.env st rs E.sz n f:=by
 unfold resOT at h
 split at h<;>try (cases h;done)
 rename_i x
 unfold resOwn
 cases x with
 |tmp t=>exact ownT_ok h ho
 |cell t T=>
  simp only at h ⊢
  obtain⟨ty,h1,h2⟩:=withT_some h
  split at h2<;>try (cases h2;done)
  rename_i q e
  split at h2<;>try (cases h2;done)
  rename_i q' e'
  cases h2
  obtain⟨n,f,h3,h4⟩:=ownT_ok (o:=q'.1) (av:=q'.2) e' ho.2
  exact⟨n,f,h3,withTy_of h1 (loadT_ok (o:=q.1) (av:=q.2) e ho.1 h4)⟩
theorem frzTs_length{H:Heap} : ∀{xs:List AV} {o:Ob} {ys:List AV},frzTs H xs=some (o,ys)→ys.length=xs.length
 |[],o,ys,h=>by cases h;rfl
 |x::r,o,ys,h=>by
  simp only[frzTs]at h
  split at h<;>try (cases h;done)
  split at h<;>try (cases h;done)
  rename_i q' e'
  cases h
  simp [frzTs_length (o:=q'.1) (ys:=q'.2) e']
def RetRel(X:XE)(R:RS)(s:St)(vs:List AV):Prop:=
 match R.md with
 | .pure=> ∀K:List AV→Prop,(∀ys,All2 aLe ys (R.st vs).tm→K ys)→resL X.env s R.rs K
 | .own E=> ∃n f,vs=[.blk false E.sz n f]∧resOwn X.env s R.rs E.sz n f
 | .heap=> ∀K:List AV→Prop,(∀ys,ys.length=(R.st vs).tm.length→Le X.m ⟨ys,s.hp⟩ (R.st vs)→K ys)→hresL X.env s R.rs K
 | .hp2 .. => ∀K:List AV→Prop,(∀ys,ys.length=(R.st vs).tm.length→Le X.m ⟨ys,s.hp⟩ (R.st vs)→K ys)→hresL X.env s R.rs K
 | .hp3 .. => ∀K:List AV→Prop,(∀ys,ys.length=(R.st vs).tm.length→Le X.m ⟨ys,s.hp⟩ (R.st vs)→K ys)→hresL X.env s R.rs K
def resF(fr:Bool)(H:Heap)(l:List AV):Option (Ob×St):=
 match fr with
 |true=>match frzTs H l with
  |some z=>some (z.1,⟨z.2,hwr H (roAs H l)⟩)
  |none=>none
 |false=>some (.tt,⟨l,H⟩)
theorem resF_le{m:Nat}{fr:Bool}{H:Heap}{l:List AV}{o:Ob}{s:St}(h:resF fr H l=some (o,s))(ho:o.holds):Le m ⟨l,H⟩ s∧l.length=s.tm.length:=by
 unfold resF at h
 cases fr with
 |false=>cases h;exact⟨Le.refl _,rfl⟩
 |true=>
  simp only at h
  split at h<;>try (cases h;done)
  rename_i z ez
  cases h
  exact⟨Le.frz (o:=z.1) (zs:=z.2) ez ho,(frzTs_length (o:=z.1) (ys:=z.2) ez).symm⟩
def retT(X:XE)(R:RS)(s:St):Option (Ob×List AV):=
 match R.md with
 | .pure=>match resTL X s R.rs with
   |some q=>match leafV R.ks ⟨q.2,[]⟩with
    |some vs=>some (.and q.1 (.e (rcL q.2 (R.st vs).tm) (R.st vs).tm),vs)
    |none=>none
   |none=>none
 | .own E=>match resOT X E s R.rs with
   |some q=>match nrmL R.kd [q.2]with
    |some vs=>some (.and q.1 (.e vs [q.2]),vs)
    |none=>none
   |none=>none
 | .heap=>match hresTL X s R.rs with
   |some q=>match frzTs s.hp q.2 with
    |some z=>match leafV R.ks ⟨z.2,hwr s.hp (roAs s.hp q.2)⟩with
     |some vs=>gd (pinOk X.m (R.st vs)) (some (.and q.1 (.and z.1 (cutO ⟨z.2,hwr s.hp (roAs s.hp q.2)⟩ (R.st vs))),vs))
     |none=>none
    |none=>none
   |none=>none
 | .hp2 fr dr l=>match hresTL X s R.rs with
   |some q=>match resF fr s.hp q.2 with
    |some z=>match convW X.m z.2 dr l with
     |some p=>match leafV R.ks p.2 with
      |some vs=>gd (pinOk X.m (R.st vs)) (some (.and q.1 (.and z.1 (.and p.1 (cutO p.2 (R.st vs)))),vs))
      |none=>none
     |none=>none
    |none=>none
   |none=>none
 | .hp3 fr dr l _ lf=>match hresTL X s R.rs with
   |some q=>match resF fr s.hp q.2 with
    |some z=>match convW X.m z.2 dr l with
     |some p=>match nrmL R.kd (lf p.2)with
      |some vs=>gd (pinOk X.m (R.st vs)) (some (.and q.1 (.and z.1 (.and p.1 (cutO p.2 (R.st vs)))),vs))
      |none=>none
     |none=>none
    |none=>none
   |none=>none
theorem retT_ok{X:XE}{R:RS}{s:St}{o:Ob}{vs:List AV}(h:retT X R s=some (o,vs))(ho:o.holds):RetRel X R s vs∧ ∃xs,nrmL R.kd xs=some vs:=by
 unfold retT at h
 unfold RetRel
 cases e:R.md<;>rw[e]at h<;>simp only at h ⊢
 ·split at h<;>try (cases h;done)
  rename_i q e1
  split at h<;>try (cases h;done)
  rename_i ws e2
  cases h
  exact⟨fun K hK=>resTL_ok (o:=q.1) (vs:=q.2) e1 ho.1 (hK _ (rcL_le ho.2)),_,e2⟩
 ·split at h<;>try (cases h;done)
  rename_i q e1
  split at h<;>try (cases h;done)
  rename_i ws e2
  simp only[Option.some.injEq,Prod.mk.injEq]at h
  obtain⟨rfl,rfl⟩:=h
  obtain⟨n,f,h1,h2⟩:=resOT_ok (o:=q.1) (av:=q.2) e1 ho.1
  have h3:ws=[q.2]:=ho.2
  exact⟨⟨n,f,by rw[h3,h1],h2⟩,_,e2⟩
 ·split at h<;>try (cases h;done)
  rename_i q e1
  split at h<;>try (cases h;done)
  rename_i z ez
  split at h<;>try (cases h;done)
  rename_i ws e2
  rw[gd_some]at h
  obtain⟨hp,h⟩:=h
  cases h
  exact⟨fun K hK=>hresTL_ok (o:=q.1) (vs:=q.2) e1 ho.1 (hK _ ((frzTs_length (o:=z.1) (ys:=z.2) ez).symm.trans (fgtL_len (leE ho.2.2).1)) ((Le.frz (o:=z.1) (zs:=z.2) ez ho.2.1).trans (cutO_le ho.2.2 hp))),_,e2⟩
 ·split at h<;>try (cases h;done)
  rename_i q e1
  split at h<;>try (cases h;done)
  rename_i z ez
  split at h<;>try (cases h;done)
  rename_i p ep
  split at h<;>try (cases h;done)
  rename_i ws e2
  rw[gd_some]at h
  obtain⟨hp,h⟩:=h
  cases h
  obtain⟨z1,z2⟩:=resF_le (m:=X.m) (o:=z.1) (s:=z.2) ez ho.2.1
  exact⟨fun K hK=>hresTL_ok (o:=q.1) (vs:=q.2) e1 ho.1 (hK _ (z2.trans ((convW_len ep).symm.trans (fgtL_len (leE ho.2.2.2).1))) ((z1.trans (convW_le (o:=p.1) (s':=p.2) ep ho.2.2.1)).trans (cutO_le ho.2.2.2 hp))),_,e2⟩
 ·split at h<;>try (cases h;done)
  rename_i q e1
  split at h<;>try (cases h;done)
  rename_i z ez
  split at h<;>try (cases h;done)
  rename_i p ep
  split at h<;>try (cases h;done)
  rename_i ws e2
  rw[gd_some]at h
  obtain⟨hp,h⟩:=h
  cases h
  obtain⟨z1,z2⟩:=resF_le (m:=X.m) (o:=z.1) (s:=z.2) ez ho.2.1
  exact⟨fun K hK=>hresTL_ok (o:=q.1) (vs:=q.2) e1 ho.1 (hK _ (z2.trans ((convW_len ep).symm.trans (fgtL_len (leE ho.2.2.2).1))) ((z1.trans (convW_le (o:=p.1) (s':=p.2) ep ho.2.2.1)).trans (cutO_le ho.2.2.2 hp))),_,e2⟩
/-! Hints. -/
def rhoK(R:List Kd)(ex:Option Nat)(rt:Bool)(es:List (Key×Kd)):List Kd:=
 match ex with
 |some _=>match rt with
  |true=> .bool::(es.map (·.2)++R)
  |false=>es.map (·.2)
 |none=>match rt with
  |true=>R
  |false=>[]
structure LoopH (R:List Kd) where
 keep:Nat
 drop:List Key
 cv:List (Key×El)
 ks:List (Key×Kd)
 ex:Option Nat
 rt:Bool
 keep2:Nat
 drop2:List Key
 es:List (Key×Kd)
 G:Nat→Tup (ks.map (·.2))→Tup (rhoK R ex rt es)
 m:Mk
 I:Tup (ks.map (·.2))→Prop
 mu:Tup (ks.map (·.2))→Nat
 post:Option (Tup (rhoK R ex rt es)→Prop):=none
inductive Hn (R:List Kd):Type 1 where
 |z
 |s (l r:Hn R)
 |j (J:Jn) (l r:Hn R)
 |c (b:Bool) (h:Hn R)
 |lp (L:LoopH R) (h:Hn R)
 |lpv (L:LoopH R) (h:Tup (L.ks.map (·.2))→Hn R)
 |l1 (h:Hn R)
 |un (n:Nat) (h:Hn R)
 |fz (i b:Nat) (h:Hn R)
 |cv (l:List (Key×El))
 |cw (dr:List Key) (l:List Cvi)
 |jc (J:Jn) (cv:List Cvi) (l r:Hn R)
 |ow
structure JH (R:List Kd):Type 1 where
 J:Jn
 cv:List Cvi
 l:Hn R
 r:Hn R
def Hn.jn{R:List Kd} :Hn R→Option (JH R)
 | .j J l r=>some ⟨J,[],l,r⟩
 | .jc J vv l r=>some ⟨J,vv,l,r⟩
 |_=>none
def meetC(m:Nat)(cv:List Cvi)(J:Jn)(t:T St):Option (Ob×St):=
 match cv with
 |[]=>meet m J t
 |c::r=>match t.allB (fun s=>(cviL m s (c::r)).isSome)with
  |true=>match meet m J (t.map fun s=>((cviL m s (c::r)).getD (.tt,s)).2)with
   |some q=>some (.and (t.obs0 fun s=>((cviL m s (c::r)).getD (.tt,s)).1) q.1,q.2)
   |none=>none
  |false=>none
theorem meetC_ok{m:Nat}{cv:List Cvi}{J:Jn}{t:T St}{o:Ob}{mid:St}(h:meetC m cv J t=some (o,mid))(ho:o.holds):Le m t.sel mid:=by
 unfold meetC at h
 split at h
 ·exact meet_ok h ho
 ·rename_i c r
  split at h<;>try (cases h;done)
  rename_i ea
  split at h<;>try (cases h;done)
  rename_i q eq
  cases h
  have h1:=T.allB_sel ea
  have h2:=T.obs0_sel ho.1
  have h3:=meet_ok (o:=q.1) (mid:=q.2) eq ho.2
  rw[T.sel_map]at h3
  cases e:cviL m t.sel (c::r)with
  |none=>rw[e]at h1;cases h1
  |some p=>
   rw[e]at h2 h3
   exact(cviL_le (o:=p.1) (s':=p.2) e h2).trans h3
def Hn.l{R:List Kd} :Hn R→Hn R
 | .s l _=>l
 | .j _ l _=>l
 | .c _ h=>h
 |_=> .z
def Hn.r{R:List Kd} :Hn R→Hn R
 | .s _ r=>r
 | .j _ _ r=>r
 | .c _ h=>h
 |_=> .z
def dfl(ks:List Kd):List AV:=ks.map fun k=>k.av k.dflt
theorem dfl_nrm: ∀ks:List Kd,nrmL ks (dfl ks)=some (dfl ks)
 |[]=>rfl
 |k::ks=>by
  have h:=dfl_nrm ks
  unfold dfl at h
  simp only[dfl,List.map_cons,nrmL,Kd.nrm,Kd.canon,h]
def isNrm:Lf→Bool
 | .nrm _=>true
 |_=>false
def T.hasN:T Lf→Bool
 | .lf a=>isNrm a
 | .br _ l r=>match l.hasN with
   |true=>true
   |false=>r.hasN
def T.cnt:T Lf→Nat
 | .lf a=>match isNrm a with
   |true=>1
   |false=>0
 | .br _ l r=>l.cnt+r.cnt
def T.theN:T Lf→Option St
 | .lf a=>match a with
   | .nrm s=>some s
   |_=>none
 | .br _ l r=>match l.theN with
   |some s=>some s
   |none=>r.theN
def T.wrap(t:T Lf)(o:Ob):Ob:=
 match t with
 | .lf _=>o
 | .br b l r=>match l.hasN with
   |true=> .imp b true (l.wrap o)
   |false=> .imp b false (r.wrap o)
def T.subst(t:T Lf)(u:T Lf):T Lf:=
 match t with
 | .lf a=>match isNrm a with
   |true=>u
   |false=> .lf a
 | .br b l r=> .br b (l.subst u) (r.subst u)
theorem T.hasN_sel: ∀{t:T Lf} {s:St},t.sel= .nrm s→t.hasN=true
 | .lf a,s,h=>by simp only[T.sel]at h;subst h;rfl
 | .br b l r,s,h=>by
   simp only[T.hasN]
   cases b
   ·rw[T.hasN_sel (t:=r) h];split<;>rfl
   ·rw[T.hasN_sel (t:=l) h]
theorem T.cnt_hasN: ∀{t:T Lf},t.cnt=0→t.hasN=false
 | .lf a,h=>by
   cases a<;>first|rfl|(simp [T.cnt,isNrm]at h;done)
 | .br b l r,h=>by
   simp only[T.cnt]at h
   simp only[T.hasN,T.cnt_hasN (t:=l) (by omega),T.cnt_hasN (t:=r) (by omega)]
theorem T.hasN_cnt: ∀{t:T Lf},t.hasN=true→0<t.cnt
 | .lf a,h=>by simp only[T.hasN]at h;simp [T.cnt,h]
 | .br b l r,h=>by
   simp only[T.hasN]at h
   simp only[T.cnt]
   split at h
   ·rename_i e;have:=T.hasN_cnt e;omega
   ·have:=T.hasN_cnt h;omega
theorem T.theN_none: ∀{t:T Lf},t.hasN=false→t.theN=none
 | .lf a,h=>by cases a<;>first|rfl|(simp [T.hasN,isNrm]at h;done)
 | .br b l r,h=>by
   simp only[T.hasN]at h
   split at h
   ·cases h
   ·rename_i e;simp only[T.theN,T.theN_none (t:=l) (by simpa using e),T.theN_none h]
theorem T.one_sel: ∀{t:T Lf} {s s':St},t.cnt=1→t.sel= .nrm s→t.theN=some s'→s=s'
 | .lf a,s,s',_,h,h2=>by
   simp only[T.sel]at h
   subst h
   simp only[T.theN]at h2
   cases h2;rfl
 | .br b l r,s,s',hc,h,h2=>by
   simp only[T.cnt]at hc
   simp only[T.theN]at h2
   cases b
   ·have hr:=T.hasN_cnt (T.hasN_sel (t:=r) h)
    rw[T.theN_none (t:=l) (T.cnt_hasN (by omega))]at h2
    exact T.one_sel (t:=r) (by omega) h h2
   ·have hl:=T.hasN_cnt (T.hasN_sel (t:=l) h)
    split at h2
    ·cases h2
     rename_i e
     exact T.one_sel (t:=l) (by omega) h e
    ·rename_i e
     obtain⟨s2,h3⟩: ∃s2,l.theN=some s2:=by
      have:=T.hasN_sel (t:=l) h
      clear h2 hc h hl
      revert e
      have key: ∀{t:T Lf},t.hasN=true→ ∃s2,t.theN=some s2:=by
       intro t
       induction t with
       |lf a=>intro ht;cases a<;>first|exact⟨_,rfl⟩|(simp [T.hasN,isNrm]at ht;done)
       |br b l r ihl ihr=>
        intro ht
        simp only[T.hasN]at ht
        simp only[T.theN]
        split at ht
        ·rename_i e;obtain⟨s2,h⟩:=ihl e;rw[h];exact⟨_,rfl⟩
        ·cases h1:l.theN with
         |some q=>exact⟨q,rfl⟩
         |none=>exact ihr ht
      obtain⟨s2,h5⟩:=key this
      intro e;rw[h5]at e;cases e
     rw[h3]at e;cases e
theorem T.wrap_sel: ∀{t:T Lf} {s:St} {o:Ob},t.cnt=1→t.sel= .nrm s→(t.wrap o).holds→o.holds
 | .lf a,s,o,_,_,h=>h
 | .br b l r,s,o,hc,hs,h=>by
   simp only[T.cnt]at hc
   simp only[T.wrap]at h
   cases b
   ·have hr:=T.hasN_cnt (T.hasN_sel (t:=r) hs)
    rw[T.cnt_hasN (t:=l) (by omega)]at h
    exact T.wrap_sel (t:=r) (by omega) hs (h rfl)
   ·have hl:=T.hasN_sel (t:=l) hs
    rw[hl]at h
    exact T.wrap_sel (t:=l) (by have:=T.hasN_cnt hl;omega) hs (h rfl)
theorem T.subst_nrm{u:T Lf} : ∀{t:T Lf} {s:St},t.sel= .nrm s→(t.subst u).sel=u.sel
 | .lf a,s,h=>by simp only[T.sel]at h;subst h;rfl
 | .br b l r,s,h=>by
   cases b
   ·exact T.subst_nrm (t:=r) h
   ·exact T.subst_nrm (t:=l) h
theorem T.subst_not{u:T Lf} : ∀{t:T Lf},isNrm t.sel=false→(t.subst u).sel=t.sel
 | .lf a,h=>by simp only[T.sel]at h;simp only[T.subst,h,T.sel]
 | .br b l r,h=>by
   cases b
   ·exact T.subst_not (t:=r) h
   ·exact T.subst_not (t:=l) h
def nrmSt:Lf→Option St
 | .nrm s=>some s
 |_=>none
def isOther:Lf→Option Lf
 | .nrm _=>none
 | .dead=>none
 |x=>some x
def isGoing:Lf→Option Bool
 | .nrm _=>some true
 | .dead=>none
 |_=>some false
def inBlk(id:Nat):Lf→Lf
 | .ext j s=>match Nat.beq j id with
   |true=> .nrm s
   |false=> .ext j s
 |x=>x
def andF(a b:Option Prop):Option Prop:=
 match a with
 |none=>b
 |some p=>match b with
  |none=>some p
  |some q=>some (p∧q)
def givF(a:Option Prop)(o:Ob):Ob:=
 match a with
 |none=>o
 |some p=> .giv p o
section
variable {R:List Kd}
def LoopH.kd(L:LoopH R):List Kd:=L.ks.map (·.2)
def LoopH.ends(L:LoopH R):Bool:=
 match L.ex with
 |some _=>true
 |none=>L.rt
def LoopH.b0(L:LoopH R)(c0:St):St:=baseOf L.keep L.drop c0
def LoopH.hd(L:LoopH R)(b0:St)(s:Tup (L.ks.map (·.2))):St:=mkS b0 (L.ks.map (·.1)) (Tup.avs (L.ks.map (·.2)) s)
def LoopH.mid(L:LoopH R)(b0:St)(vs:List AV):St:=mkS (baseOf L.keep2 L.drop2 b0) (L.es.map (·.1)) vs
def LoopH.nx(L:LoopH R)(s:St):Option (Tup (L.ks.map (·.2))):=
 match leafV L.ks s with
 |some a=>rdTup _ a
 |none=>none
def LoopH.out(L:LoopH R)(lf:Lf):Option (List AV):=
 match lf with
 | .ext _ s=>match leafV L.es s with
   |some a=>match L.ex with
    |some _=>match L.rt with
     |true=>some (.bool false::(a++dfl R))
     |false=>some a
    |none=>none
   |none=>none
 | .ret vs=>match L.rt with
   |true=>match L.ex with
    |some _=>some (.bool true::(dfl (L.es.map (·.2))++vs))
    |none=>some vs
   |false=>none
 |_=>none
def LoopH.lv(L:LoopH R)(k:Nat)(lf:Lf):Option (Tup (rhoK R L.ex L.rt L.es)):=
 match lf with
 | .nrm s=>match L.nx s with
   |some τ=>some (L.G k τ)
   |none=>none
 | .dead=>none
 |lf=>match L.out lf with
  |some a=>rdTup _ a
  |none=>none
def LoopH.rnd(L:LoopH R)(t:T Lf)(k:Nat):Tup (rhoK R L.ex L.rt L.es):=
 match t.prune (L.lv k)with
 |some tv=>tv.coll L.m
 |none=>Tup.dflt _
def LoopH.rndO(L:LoopH R)(t:T Lf)(k:Nat):Eo:=
 match t.prune (L.lv k)with
 |some tv=>tv.collO L.m
 |none=> .tt
def sameId(ex:Option Nat)(id:Nat):Bool:=
 match ex with
 |some i=>Nat.beq id i
 |none=>false
def LoopH.postO(L:LoopH R)(a:List AV):Ob:=
 match L.post with
 |some p=>match rdTup (rhoK R L.ex L.rt L.es) a with
  |some τ=> .p (p τ)
  |none=> .p False
 |none=> .tt
def LoopH.leafO(L:LoopH R)(b0:St)(s:Tup (L.ks.map (·.2)))(lf:Lf):Ob:=
 match lf with
 | .nrm s'=>match L.nx s' with
   |some τ=> .and (cutO s' (L.hd b0 τ)) (.p (L.I τ∧L.mu τ<L.mu s))
   |none=> .p False
 | .ext id s'=>match sameId L.ex id with
   |true=>match leafV L.es s' with
    |some a=>match L.out (.ext id s')with
     |some w=> .and (cutO s' (L.mid b0 a)) (L.postO w)
     |none=> .p False
    |none=> .p False
   |false=> .p False
 | .ret vs=>match L.out (.ret vs)with
   |some _=> .tt
   |none=> .p False
 | .dead=> .tt
def headB(l:List AV):Bool:=
 match l with
 | .bool b::_=>b
 |_=>false
def LoopH.res(L:LoopH R)(b0:St)(R0:Tup (rhoK R L.ex L.rt L.es)):T Lf:=
 match L.ex with
 |some id=>match L.rt with
  |true=> .br (headB (Tup.avs _ R0)) (.lf (.ret ((Tup.avs _ R0).drop (1+L.es.length)))) (.lf (.ext id (L.mid b0 (((Tup.avs _ R0).drop 1).take L.es.length))))
  |false=> .lf (.ext id (L.mid b0 (Tup.avs _ R0)))
 |none=>match L.rt with
  |true=> .lf (.ret (Tup.avs _ R0))
  |false=> .lf .dead
def LoopH.fact(L:LoopH R)(R0:Tup (rhoK R L.ex L.rt L.es)):Option Prop:=
 match L.post with
 |some p=>match L.rt with
  |true=>none
  |false=>some (p R0)
 |none=>none
end
def Hn.pre{R:List Kd}(m:Nat)(st:St):Hn R→Option (Ob×St)
 | .cw dr l=>convW m st dr l
 |_=>some (.tt,st)
theorem Hn.pre_le{R:List Kd}{m:Nat}{st s':St}{o:Ob} : ∀{h:Hn R},h.pre m st=some (o,s')→o.holds→Le m st s':=fun {h} e ho=>by
 unfold Hn.pre at e
 split at e
 ·exact convW_le e ho
 ·cases e;exact Le.refl _
noncomputable def seqC{R:List Kd}(m:Nat)(f g:Hn R→St→Res)(h:Hn R)(st:St):Res:=
 match h.jn with
 |some z=>match(f z.l st).t.prune nrmSt with
  |some tn=>match meetC m z.cv z.J tn with
   |some q=>match(f z.l st).t.prune isOther with
    |none=>⟨.and (f z.l st).o (givF (f z.l st).f (.and q.1 (g z.r q.2).o)),andF (f z.l st).f (g z.r q.2).f,(g z.r q.2).t⟩
    |some tr=>match(f z.l st).t.prune isGoing with
     |some tb=>⟨.and (f z.l st).o (givF (f z.l st).f (.and q.1 (.and (.es fun _:Unit=>tb.collO z.J.pm) (.imp (tb.coll z.J.pm) true (g z.r q.2).o)))),(f z.l st).f,.br (tb.coll z.J.pm) (g z.r q.2).t tr⟩
     |none=> .bad
   |none=> .bad
  |none=> .bad
 |none=>match(f h.l st).t.cnt with
  |0=>f h.l st
  |1=>match(f h.l st).t.theN with
   |some s=>⟨.and (f h.l st).o (givF (f h.l st).f ((f h.l st).t.wrap (g h.r s).o)),(match(f h.l st).t with
    | .lf _=>andF (f h.l st).f (g h.r s).f
    |_=>(f h.l st).f),(f h.l st).t.subst (g h.r s).t⟩
   |none=> .bad
  |_=> .bad
noncomputable def unrC{R:List Kd}(m:Nat)(f:Hn R→St→Res):Nat→Hn R→St→Res
 |0,h,st=>match(f h st).t.hasN with
  |true=> .bad
  |false=>f h st
 |n+1,h,st=>seqC m f (unrC m f n) h st
noncomputable def exec(X:XE)(R:RS):Code→Hn R.kd→St→Res
 | .skip,h,st=>match h with
   | .cw dr l=>match convW X.m st dr l with
     |some p=>⟨p.1,none,.lf (.nrm p.2)⟩
     |none=> .bad
   |_=>⟨.tt,none,.lf (.nrm st)⟩
 | .label _,_,st=>⟨.tt,none,.lf (.nrm st)⟩
 | .region _ ops draw,h,st=>match h with
   | .fz i b h'=>match h'.pre X.m st with
     |none=> .bad
     |some p=>match p.2.tm.getD i .undef with
      | .ptr b' o=>match(Nat.beq b' b&&Nat.beq o 0)with
        |true=>match(p.2.hp.getD b []).all capOk&&lowSt ⟨p.2.tm.set i (.ref (p.2.hp.getD b [])),setAt [] p.2.hp b []⟩&&pinOk X.m ⟨p.2.tm.set i (.ref (p.2.hp.getD b [])),setAt [] p.2.hp b []⟩&&Nat.blt i p.2.tm.length with
         |true=>⟨.and p.1 (regionT X ops draw ⟨p.2.tm.set i (.ref (p.2.hp.getD b [])),setAt [] p.2.hp b []⟩).o,none,(regionT X ops draw ⟨p.2.tm.set i (.ref (p.2.hp.getD b [])),setAt [] p.2.hp b []⟩).t⟩
         |false=> .bad
        |false=> .bad
      |_=> .bad
   | .cv l=>match convAll st l with
     |some p=>⟨.and p.1 (regionT X ops draw p.2).o,none,(regionT X ops draw p.2).t⟩
     |none=> .bad
   | .cw dr l=>match convW X.m st dr l with
     |some p=>⟨.and p.1 (regionT X ops draw p.2).o,none,(regionT X ops draw p.2).t⟩
     |none=> .bad
   | .ow=>match owT X ops.toList draw st with
     |some p=>⟨p.1,none,.lf (.nrm p.2)⟩
     |none=> .bad
   |h=>match h.jn with
    |some z=>match(regionT X ops draw st).t.prune nrmSt with
     |some tn=>match meetC X.m z.cv z.J tn with
      |some q=>⟨.and (regionT X ops draw st).o q.1,none,.lf (.nrm q.2)⟩
      |none=> .bad
     |none=> .bad
    |none=>regionT X ops draw st
 | .exit id,h,st=>match h with
   | .cw dr l=>match convW X.m st dr l with
     |some p=>⟨p.1,none,.lf (.ext id p.2)⟩
     |none=> .bad
   |_=>⟨.tt,none,.lf (.ext id st)⟩
 | .ret,h,st=>match h with
   | .cw dr l=>match convW X.m st dr l with
     |some p=>match retT X R p.2 with
      |some q=>⟨.and p.1 q.1,none,.lf (.ret q.2)⟩
      |none=> .bad
     |none=> .bad
   |_=>match retT X R st with
    |some q=>⟨q.1,none,.lf (.ret q.2)⟩
    |none=> .bad
 | .block id x,h,st=>⟨(exec X R x h st).o,(exec X R x h st).f,(exec X R x h st).t.map (inBlk id)⟩
 | .cond c x y,h,st=>match evalA st.tm c with
   | .lit b=>match b with
     |true=>exec X R x h.l st
     |false=>exec X R y h.r st
   | .bool b=>match h with
     | .c b' h'=>match b' with
       |true=>⟨.and (.e b true) (exec X R x h' st).o,(exec X R x h' st).f,(exec X R x h' st).t⟩
       |false=>⟨.and (.e b false) (exec X R y h' st).o,(exec X R y h' st).f,(exec X R y h' st).t⟩
     |h=>⟨.and (.imp b true (exec X R x h.l st).o) (.imp b false (exec X R y h.r st).o),none,.br b (exec X R x h.l st).t (exec X R y h.r st).t⟩
   |_=> .bad
 | .seq x y,h,st=>seqC X.m (exec X R x) (exec X R y) h st
 | .loop x,h,st=>match h with
   | .l1 h'=>match(exec X R x h' st).t.hasN with
     |true=> .bad
     |false=>exec X R x h' st
   | .un n h'=>unrC X.m (exec X R x) n h' st
   | .lp L h'=>match convAll st L.cv with
     |none=> .bad
     |some p=>match L.ends with
      |false=> .bad
      |true=>match L.nx p.2 with
       |none=> .bad
       |some s0=>⟨.and p.1 (.and (cutO p.2 (L.hd (L.b0 p.2) s0)) (.and (.p (L.I s0)) (.and (.e (fun s=>pinOk X.m (L.hd (L.b0 p.2) s)) fun _=>true) (.and (.e (fun v=>pinOk X.m (L.mid (L.b0 p.2) (Tup.avs (L.es.map (·.2)) v))) fun _=>true)
         (.all (L.ks.map (·.2)) L.I fun s=> .and (exec X R x h' (L.hd (L.b0 p.2) s)).o (.and (givF (exec X R x h' (L.hd (L.b0 p.2) s)).f ((exec X R x h' (L.hd (L.b0 p.2) s)).t.obs (L.leafO (L.b0 p.2) s)))
           (.es fun k:Nat=> .and (.e (L.G (k+1) s) (L.rnd (exec X R x h' (L.hd (L.b0 p.2) s)).t k)) (L.rndO (exec X R x h' (L.hd (L.b0 p.2) s)).t k)))))))),
         L.fact (L.G (L.mu s0+1) s0),L.res (L.b0 p.2) (L.G (L.mu s0+1) s0)⟩
   | .lpv L h'=>match convAll st L.cv with
     |none=> .bad
     |some p=>match L.ends with
      |false=> .bad
      |true=>match L.nx p.2 with
       |none=> .bad
       |some s0=>⟨.and p.1 (.and (cutO p.2 (L.hd (L.b0 p.2) s0)) (.and (.p (L.I s0)) (.and (.e (fun s=>pinOk X.m (L.hd (L.b0 p.2) s)) fun _=>true) (.and (.e (fun v=>pinOk X.m (L.mid (L.b0 p.2) (Tup.avs (L.es.map (·.2)) v))) fun _=>true)
         (.all (L.ks.map (·.2)) L.I fun s=> .and (exec X R x (h' s) (L.hd (L.b0 p.2) s)).o (.and (givF (exec X R x (h' s) (L.hd (L.b0 p.2) s)).f ((exec X R x (h' s) (L.hd (L.b0 p.2) s)).t.obs (L.leafO (L.b0 p.2) s)))
           (.es fun k:Nat=> .and (.e (L.G (k+1) s) (L.rnd (exec X R x (h' s) (L.hd (L.b0 p.2) s)).t k)) (L.rndO (exec X R x (h' s) (L.hd (L.b0 p.2) s)).t k)))))))),
         L.fact (L.G (L.mu s0+1) s0),L.res (L.b0 p.2) (L.G (L.mu s0+1) s0)⟩
   |_=> .bad
 |_,_,_=> .bad
end Go.Vc
namespace Go.Vc
open Go Go.RowKit
def Post(X:XE)(R:RS)(lf:Lf)(e:Exit)(s:St):Prop:=
 match e with
 | .normal=>match lf with
   | .nrm s'=>Le X.m s s'
   |_=>False
 | .exit id=>match lf with
   | .ext id' s'=>id=id'∧Le X.m s s'
   |_=>False
 | .ret=>match lf with
   | .ret vs=>RetRel X R s vs
   |_=>False
 |_=>False
theorem leafV_tup{ks:List (Key×Kd)}{s:St}{a:List AV}(h:leafV ks s=some a): ∃τ,rdTup (ks.map (·.2)) a=some τ∧Tup.avs (ks.map (·.2)) τ=a:=nrmL_tup h
theorem nrmL_app: ∀{ks js:List Kd} {as bs xs ys:List AV},nrmL ks as=some xs→nrmL js bs=some ys→nrmL (ks++js) (as++bs)=some (xs++ys)
 |[],js,[],bs,xs,ys,h,k=>by cases h;exact k
 |[],_,_::_,_,_,_,h,_=>by cases h
 |_::_,_,[],_,_,_,h,_=>by cases h
 |k::ks,js,a::as,bs,xs,ys,h,h2=>by
  simp only[nrmL]at h
  split at h<;>try (cases h;done)
  rename_i y e
  split at h<;>try (cases h;done)
  rename_i zs e2
  cases h
  have:=nrmL_app e2 h2
  simp only[List.cons_append,nrmL,e,this]
theorem nrmL_length: ∀{ks:List Kd} {as xs:List AV},nrmL ks as=some xs→xs.length=ks.length
 |[],[],xs,h=>by cases h;rfl
 |[],_::_,_,h=>by cases h
 |_::_,[],_,h=>by cases h
 |k::ks,a::as,xs,h=>by
  simp only[nrmL]at h
  split at h<;>try (cases h;done)
  split at h<;>try (cases h;done)
  rename_i zs e2
  cases h
  simp [nrmL_length e2]
section
variable {R:List Kd}
theorem LoopH.out_tup{L:LoopH R}{lf:Lf}{w:List AV}(h:L.out lf=some w)(hr: ∀vs,lf= .ret vs→ ∃xs,nrmL R xs=some vs): ∃τ,rdTup (rhoK R L.ex L.rt L.es) w=some τ∧Tup.avs _ τ=w:=by
 unfold LoopH.out at h
 unfold rhoK
 cases lf<;>simp only at h<;>try (cases h;done)
 ·rename_i id s
  split at h<;>try (cases h;done)
  rename_i a ea
  split at h<;>try (cases h;done)
  rename_i i ei
  cases ert:L.rt<;>rw[ert]at h<;>cases h
  ·simp only
   exact nrmL_tup ea
  ·simp only
   exact nrmL_tup (xs:= .bool false::(getAll s (L.es.map (·.1))++dfl R)) (by
    have:=nrmL_app ea (dfl_nrm R)
    simp only[nrmL,Kd.nrm,Kd.rd,Vc.rdO,Kd.av,this])
 ·rename_i vs
  obtain⟨xs,hx⟩:=hr vs rfl
  cases ert:L.rt<;>rw[ert]at h<;>simp only at h<;>try (cases h;done)
  split at h
  ·cases h
   simp only
   exact nrmL_tup (xs:= .bool true::(dfl (L.es.map (·.2))++xs)) (by
    have:=nrmL_app (dfl_nrm (L.es.map (·.2))) hx
    simp only[nrmL,Kd.nrm,Kd.rd,Vc.rdO,Kd.av,this])
  ·cases h
   simp only
   exact nrmL_tup hx
end
structure RPW (X:XE) (R:RS) (W:(Exit→St→Prop)→St→Prop) (st:St) (r:Res):Prop where
 wp:W (Post X R r.t.sel) st
 f: ∀p,r.f=some p→p
 ret: ∀vs,r.t.sel= .ret vs→ ∃xs,nrmL R.kd xs=some vs
 live:r.t.sel≠ .dead
abbrev RP(X:XE)(R:RS)(c:Code)(st:St)(r:Res):Prop:=RPW X R (WP X.env c) st r
set_option maxHeartbeats 1000000
theorem headB_cons(b:Bool)(l:List AV):headB (.bool b::l)=b:=rfl
theorem WP.loopX{X:XE}{R:RS}{x:Code}{st:St}(L:LoopH R.kd)(c0:St)(s0:Tup (L.ks.map (·.2)))(body:Tup (L.ks.map (·.2))→Res)(hend:L.ends=true)
  (hb: ∀s,(body s).o.holds→RP X R x (L.hd (L.b0 c0) s) (body s))
  (hle:Le X.m st (L.hd (L.b0 c0) s0)) (h0:L.I s0) (hp: ∀s,pinOk X.m (L.hd (L.b0 c0) s)=true) (hp2: ∀v,pinOk X.m (L.mid (L.b0 c0) (Tup.avs (L.es.map (·.2)) v))=true)
  (hall: ∀s,L.I s→(body s).o.holds∧(givF (body s).f ((body s).t.obs (L.leafO (L.b0 c0) s))).holds∧ ∀k:Nat,L.G (k+1) s=L.rnd (body s).t k∧(L.rndO (body s).t k).holds)
  (o:Ob):RP X R (.loop x) st ⟨o,L.fact (L.G (L.mu s0+1) s0),L.res (L.b0 c0) (L.G (L.mu s0+1) s0)⟩:=by
 have hrp: ∀s,L.I s→RP X R x (L.hd (L.b0 c0) s) (body s):=fun s hs=>hb s (hall s hs).1
 have hleaf: ∀s,L.I s→(L.leafO (L.b0 c0) s (body s).t.sel).holds:=fun s hs=>by
  obtain⟨h1,h2,_⟩:=hall s hs
  have h3:=(hb s h1).f
  unfold givF at h2
  cases e:(body s).f with
  |none=>rw[e]at h2;exact T.obs_sel h2
  |some p=>rw[e]at h2;exact T.obs_sel (h2 (h3 p e))
 have hrnd: ∀s,L.I s→ ∀k τ,L.lv k (body s).t.sel=some τ→L.G (k+1) s=τ:=fun s hs k τ hτ=>by
  obtain⟨_,_,h3⟩:=hall s hs
  obtain⟨h4,h5⟩:=h3 k
  rw[h4]
  obtain⟨tv,e1,e2⟩:=T.prune_sel hτ
  unfold LoopH.rnd
  unfold LoopH.rndO at h5
  rw[e1]at h5 ⊢
  simp only at h5 ⊢
  rw[T.coll_ok h5,e2]
 have hnrm: ∀s,L.I s→ ∀s',(body s).t.sel= .nrm s'→ ∃τ,L.nx s'=some τ∧(cutO s' (L.hd (L.b0 c0) τ)).holds∧L.I τ∧L.mu τ<L.mu s∧ ∀k,L.G (k+1) s=L.G k τ:=fun s hs s' el=>by
  have h1:=hleaf s hs
  rw[el]at h1
  simp only[LoopH.leafO]at h1
  split at h1
  ·rename_i τ en
   exact⟨τ,en,h1.1,h1.2.1,h1.2.2,fun k=>hrnd s hs k _ (by rw[el];simp only[LoopH.lv,en])⟩
  ·exact h1.elim
 have hext: ∀s,L.I s→ ∀id s',(body s).t.sel= .ext id s'→L.ex=some id∧ ∃a w τ,leafV L.es s'=some a∧L.out (.ext id s')=some w∧rdTup _ w=some τ∧Tup.avs _ τ=w∧(cutO s' (L.mid (L.b0 c0) a)).holds∧(L.postO w).holds∧ ∀k,L.G (k+1) s=τ:=fun s hs id s' el=>by
  have h1:=hleaf s hs
  rw[el]at h1
  simp only[LoopH.leafO]at h1
  split at h1<;>try exact h1.elim
  rename_i eid
  split at h1<;>try exact h1.elim
  rename_i a ea
  split at h1<;>try exact h1.elim
  rename_i w ew
  obtain⟨τ,t1,t2⟩:=LoopH.out_tup ew (fun vs e=>by cases e)
  refine⟨?_,a,w,τ,ea,ew,t1,t2,h1.1,h1.2,fun k=>hrnd s hs k τ (by rw[el];simp only[LoopH.lv,ew,t1])⟩
  unfold sameId at eid
  split at eid
  ·rename_i i e;rw[e,Nat.eq_of_beq_eq_true eid]
  ·cases eid
 have hret: ∀s,L.I s→ ∀vs,(body s).t.sel= .ret vs→L.rt=true∧ ∃w τ,L.out (.ret vs)=some w∧rdTup _ w=some τ∧Tup.avs _ τ=w∧ ∀k,L.G (k+1) s=τ:=fun s hs vs el=>by
  have h1:=hleaf s hs
  rw[el]at h1
  simp only[LoopH.leafO]at h1
  split at h1<;>try exact h1.elim
  rename_i w ew
  obtain⟨τ,t1,t2⟩:=LoopH.out_tup ew (fun vs' e=>by cases e;exact(hrp s hs).ret _ el)
  refine⟨?_,w,τ,ew,t1,t2,fun k=>hrnd s hs k τ (by rw[el];simp only[LoopH.lv,ew,t1])⟩
  cases er:L.rt with
  |true=>rfl
  |false=>
   simp only[LoopH.out]at ew
   split at ew
   ·rename_i e';rw[er]at e';cases e'
   ·cases ew
 have hind: ∀(q:Tup (rhoK R.kd L.ex L.rt L.es)→Prop),(∀s,L.I s→ ∀τ,(∀id s',(body s).t.sel= .ext id s'→L.G 1 s=τ→q τ)∧(∀vs,(body s).t.sel= .ret vs→L.G 1 s=τ→q τ))→ ∀(k:Nat) s,L.I s→L.mu s≤k→q (L.G (k+1) s):=fun q hq k=>by
  induction k using Nat.strongRecOn with
  |_ k ih=>
   intro s hs hk
   cases el:(body s).t.sel with
   |nrm s'=>
    obtain⟨τ,_,_,h3,h4,h5⟩:=hnrm s hs s' el
    obtain⟨k',rfl⟩: ∃k',k=k'+1:=⟨k-1,by omega⟩
    rw[h5]
    exact ih k' (by omega) τ h3 (by omega)
   |ext id s'=>
    obtain⟨_,a,w,τ,_,_,_,_,_,_,h7⟩:=hext s hs id s' el
    rw[h7]
    exact(hq s hs τ).1 id s' el (h7 0)
   |ret vs=>
    obtain⟨_,w,τ,_,_,_,h7⟩:=hret s hs vs el
    rw[h7]
    exact(hq s hs τ).2 vs el (h7 0)
   |dead=>exact absurd el (hrp s hs).live
 have hresE: ∀s,L.I s→ ∀id s',(body s).t.sel= .ext id s'→ ∀k,∃a,(cutO s' (L.mid (L.b0 c0) a)).holds∧pinOk X.m (L.mid (L.b0 c0) a)=true∧(L.res (L.b0 c0) (L.G (k+1) s)).sel= .ext id (L.mid (L.b0 c0) a):=fun s hs id s' el k=>by
  obtain⟨hex,a,w,τ,ea,ew,t1,t2,h5,_,h7⟩:=hext s hs id s' el
  obtain⟨v,v1,v2⟩:=leafV_tup ea
  have hpin:=hp2 v
  rw[v2]at hpin
  refine⟨a,h5,hpin,?_⟩
  rw[h7 k]
  simp only[LoopH.out,ea,hex]at ew
  simp only[LoopH.res,t2]
  split
  ·rename_i i ei
   rw[hex]at ei
   cases ei
   split
   ·rename_i er
    split at ew
    ·cases ew
     simp only[headB_cons,T.sel]
     have hl:=nrmL_length ea
     simp only[List.length_map]at hl
     simp only[List.drop_one,List.tail_cons,←hl,List.take_left']
    ·rename_i er';rw[er]at er';cases er'
   ·rename_i er
    split at ew
    ·rename_i er';rw[er]at er';cases er'
    ·cases ew
     rfl
  ·rename_i ei
   rw[hex]at ei
   cases ei
 have hresR: ∀s,L.I s→ ∀vs,(body s).t.sel= .ret vs→ ∀k,(L.res (L.b0 c0) (L.G (k+1) s)).sel= .ret vs:=fun s hs vs el k=>by
  obtain⟨hrt,w,τ,ew,t1,t2,h7⟩:=hret s hs vs el
  rw[h7 k]
  simp only[LoopH.out,hrt]at ew
  simp only[LoopH.res,t2]
  split
  ·rename_i i ei
   split at ew
   ·cases ew
    split
    ·simp only[headB_cons,T.sel]
     have hl:(dfl (L.es.map (·.2))).length=L.es.length:=by simp [dfl]
     rw[Nat.add_comm,List.drop_succ_cons,←hl,List.drop_left]
    ·rename_i er;rw[hrt]at er;cases er
   ·rename_i e;rw[ei]at e;cases e
  ·rename_i ei
   split at ew
   ·rename_i e;rw[ei]at e;cases e
   ·cases ew
    split
    ·rfl
    ·rename_i er;rw[hrt]at er;cases er
 refine⟨?_,?_,?_,?_⟩
 ·refine WP.le hle (WP.loop (α:=Tup (L.ks.map (·.2))×Nat) (fun p=>L.hd (L.b0 c0) p.1) (fun p=>L.I p.1∧L.mu p.1≤p.2∧L.G (p.2+1) p.1=L.G (L.mu s0+1) s0) (fun p=>L.mu p.1) (s0,L.mu s0) ⟨h0,Nat.le_refl _,rfl⟩ (Le.refl _) fun p hp'=> ?_)
  obtain⟨s,k⟩:=p
  obtain⟨hI,hk,hG⟩:=hp'
  simp only at hI hk hG
  refine(hrp s hI).wp.mono fun e s1 hs1=> ?_
  cases e<;>simp only[Post]at hs1<;>try exact hs1.elim
  ·
   split at hs1<;>try exact hs1.elim
   rename_i s' el
   obtain⟨τ,h1,h2,h3,h4,h5⟩:=hnrm s hI s' el
   obtain⟨k',rfl⟩: ∃k',k=k'+1:=⟨k-1,by omega⟩
   have h6:L.mu τ≤k':=by omega
   have h7:L.G (k'+1) τ=L.G (L.mu s0+1) s0:=(h5 (k'+1)).symm.trans hG
   exact⟨(τ,k'),⟨h3,h6,h7⟩,h4,hs1.trans (cutO_le h2 (hp τ))⟩
  ·
   split at hs1<;>try exact hs1.elim
   rename_i id' s' el
   obtain⟨rfl,hle1⟩:=hs1
   obtain⟨a,h1,h2,h3⟩:=hresE s hI _ s' el k
   rw[hG]at h3
   show Post X R (L.res (L.b0 c0) _).sel (.exit _) s1
   rw[h3]
   exact⟨rfl,hle1.trans (cutO_le h1 h2)⟩
  ·
   split at hs1<;>try exact hs1.elim
   rename_i vs el
   have h3:=hresR s hI vs el k
   rw[hG]at h3
   show Post X R (L.res (L.b0 c0) _).sel .ret s1
   rw[h3]
   exact hs1
 ·
  intro p hpp
  simp only[LoopH.fact]at hpp
  split at hpp<;>try (cases hpp;done)
  rename_i q ep
  split at hpp<;>try (cases hpp;done)
  rename_i er
  cases hpp
  refine hind q (fun s hs τ=>⟨fun id s' el hg=> ?_,fun vs el _=> ?_⟩) _ s0 h0 (Nat.le_refl _)
  ·obtain⟨_,a,w,τ',_,_,t1,_,_,h6,h7⟩:=hext s hs id s' el
   rw[h7 0]at hg
   subst hg
   unfold LoopH.postO at h6
   rw[ep]at h6
   simp only[t1]at h6
   exact h6
  ·have:=(hret s hs vs el).1
   rw[er]at this;cases this
 ·refine hind (fun τ=> ∀vs,(L.res (L.b0 c0) τ).sel= .ret vs→ ∃xs,nrmL R.kd xs=some vs) (fun s hs τ=>⟨fun id s' el hg vs hv=> ?_,fun vs el hg vs' hv=> ?_⟩) _ s0 h0 (Nat.le_refl _)
  ·obtain⟨a,_,_,h3⟩:=hresE s hs id s' el 0
   rw[hg,hv]at h3
   cases h3
  ·have h3:=hresR s hs vs el 0
   rw[hg,hv]at h3
   cases h3
   exact(hrp s hs).ret _ el
 ·simp only[LoopH.res]
  split
  ·split
   ·intro h
    simp only[T.sel]at h
    split at h<;>cases h
   ·intro h;cases h
  ·split
   ·intro h;cases h
   ·rename_i ei _ er
    unfold LoopH.ends at hend
    rw[ei]at hend
    simp only at hend
    rw[er]at hend;cases hend
theorem opsT_live{X:XE}{ops:Array Oper} : ∀(l:List Oper) (i:Nat) (st:St) (rs:List Rec) (o:Ob) (t:T RL),opsT X ops l i st rs=some (o,t)→o.holds→t.sel≠none
 |[],i,st,rs,o,t,h,ho=>by cases h;intro h;cases h
 |p::l,i,st,rs,o,t,h,ho=>by
  simp only[opsT,hwrB_eq]at h
  split at h<;>try (cases h;done)
  split at h
  ·exact opsT_live l _ _ _ o t h ho
  ·split at h
   ·cases h;exact ho.elim
   split at h<;>try (cases h;done)
   split at h
   ·rename_i b eb
    split at h<;>try (cases h;done)
    rename_i q1 e1
    split at h<;>try (cases h;done)
    rename_i q2 e2
    cases h
    cases b
    ·exact opsT_live l _ _ _ q2.1 q2.2 e2 (ho.2.2 rfl)
    ·exact opsT_live l _ _ _ q1.1 q1.2 e1 (ho.2.1 rfl)
   ·split at h<;>try (cases h;done)
    rename_i q e1
    cases h
    exact opsT_live l _ _ _ q.1 q.2 e1 ho.2
theorem regionT_live{X:XE}{ops:Array Oper}{draw:Bool}{st:St}(ho:(regionT X ops draw st).o.holds): ∃s,(regionT X ops draw st).t.sel= .nrm s:=by
 unfold regionT at ho ⊢
 split at ho
 ·exact ho.elim
 ·rename_i q e
  obtain⟨o,t⟩:=q
  simp only[e]
  have key:o.holds→ ∃s,(t.map lfOf).sel= .nrm s:=fun ho=>by
   rw[T.sel_map]
   cases h:t.sel with
   |none=>exact absurd h (opsT_live _ _ _ _ o t e ho)
   |some q=>exact⟨q.1,rfl⟩
  cases draw with
  |false=>exact key ho
  |true=>
   simp only at ho ⊢
   split at ho
   ·rename_i eb;simp only[eb];exact key ho
   ·exact ho.elim
theorem region_rp{X:XE}{R:RS}(hE:X.env.Ok){id:Nat}{ops:Array Oper}{draw:Bool}{st:St}(ho:(regionT X ops draw st).o.holds):RP X R (.region id ops draw) st (regionT X ops draw st):=by
 obtain⟨s,hs⟩:=regionT_live ho
 refine⟨regionT_ok hE ho fun s' h=> ?_,fun p hp=> ?_,fun vs h=> ?_,fun h=> ?_⟩
 ·rw[h];exact Le.refl _
 ·unfold regionT at hp
  split at hp
  ·cases hp
  ·split at hp
   ·cases hp
   ·split at hp<;>cases hp
 ·rw[hs]at h;cases h
 ·rw[hs]at h;cases h
theorem inBlk_sel{id:Nat}{lf:Lf} :(∀vs,inBlk id lf= .ret vs→lf= .ret vs)∧(inBlk id lf= .dead→lf= .dead):=by
 cases lf<;>simp only[inBlk]
 ·exact⟨fun _ h=>(by cases h),fun h=>(by cases h)⟩
 ·split<;>exact⟨fun _ h=>(by cases h),fun h=>(by cases h)⟩
 ·exact⟨fun _ h=>h,fun h=>(by cases h)⟩
 ·exact⟨fun _ h=>(by cases h),fun h=>h⟩
theorem andF_some{a b:Option Prop}(ha: ∀p,a=some p→p)(hb: ∀p,b=some p→p): ∀p,andF a b=some p→p:=by
 intro p h
 unfold andF at h
 split at h
 ·exact hb p h
 ·split at h
  ·cases h;exact ha _ rfl
  ·cases h;exact⟨ha _ rfl,hb _ rfl⟩
theorem givF_holds{a:Option Prop}{o:Ob}(h:(givF a o).holds)(ha: ∀p,a=some p→p):o.holds:=by
 unfold givF at h
 split at h
 ·exact h
 ·exact h (ha _ rfl)
theorem seq_other{X:XE}{R:RS}{W:(Exit→St→Prop)→St→Prop}{x:Code}{st:St}{r:Res}(h:RP X R x st r)(hn:isNrm r.t.sel=false):WP X.env x (thenA (W (Post X R r.t.sel)) (Post X R r.t.sel)) st:=
 h.wp.mono fun e s hs=>by
  cases e<;>simp only[thenA]<;>try exact hs
  simp only[Post]at hs
  split at hs
  ·rename_i s' el;rw[el]at hn;cases hn
  ·exact hs.elim
theorem seq_nrm{X:XE}{R:RS}{W:(Exit→St→Prop)→St→Prop}(hle: ∀{Q st st'},Le X.m st st'→W Q st'→W Q st){x:Code}{st s mid:St}{r:Res}{Q:Exit→St→Prop}(h:RP X R x st r)(hs:r.t.sel= .nrm s)(hm:Le X.m s mid)(hy:W Q mid):WP X.env x (thenA (W Q) Q) st:=
 h.wp.mono fun e s1 h1=>by
  rw[hs]at h1
  cases e<;>simp only[Post,thenA]at h1 ⊢ <;>try exact h1.elim
  exact hle (h1.trans hm) hy
theorem seqC_ok{X:XE}{R:RS}{W:(Exit→St→Prop)→St→Prop}{x:Code}{f g:Hn R.kd→St→Res}(hle: ∀{Q st st'},Le X.m st st'→W Q st'→W Q st)(hf: ∀h st,(f h st).o.holds→RP X R x st (f h st))(hg: ∀h st,(g h st).o.holds→RPW X R W st (g h st))
  (h:Hn R.kd) (st:St) (ho:(seqC X.m f g h st).o.holds):RPW X R (fun Q st=>WP X.env x (thenA (W Q) Q) st) st (seqC X.m f g h st):=by
 unfold seqC at ho ⊢
 split at ho
 ·rename_i z ez
  split at ho<;>try exact ho.elim
  rename_i tn en
  split at ho<;>try exact ho.elim
  rename_i q eq
  split at ho
  ·rename_i er
   have hx:=hf z.l st ho.1
   have hrest:=givF_holds ho.2 hx.f
   have hy:=hg z.r q.2 hrest.2
   have hm:=meetC_ok (o:=q.1) (mid:=q.2) eq hrest.1
   have h1:isOther (f z.l st).t.sel=none:=by
    cases h:isOther (f z.l st).t.sel with
    |none=>rfl
    |some v=>obtain⟨t',h2,_⟩:=T.prune_sel h;rw[er]at h2;cases h2
   obtain⟨s,hs⟩: ∃s,(f z.l st).t.sel= .nrm s:=by
    cases h:(f z.l st).t.sel with
    |nrm s=>exact⟨s,rfl⟩
    |dead=>exact absurd h hx.live
    |_=>rw[h]at h1;cases h1
   have hts:tn.sel=s:=by
    obtain⟨t',h2,h3⟩:=T.prune_sel (f:=nrmSt) (t:=(f z.l st).t) (x:=s) (by rw[hs];rfl)
    rw[en]at h2;cases h2;exact h3
   exact⟨seq_nrm hle hx hs (hts▸hm) hy.wp,andF_some hx.f hy.f,hy.ret,hy.live⟩
  ·rename_i tr er
   split at ho<;>try exact ho.elim
   rename_i tb eb
   have hx:=hf z.l st ho.1
   have hrest:=givF_holds ho.2 hx.f
   have hm:=meetC_ok (o:=q.1) (mid:=q.2) eq hrest.1
   have hc:tb.coll z.J.pm=tb.sel:=T.coll_ok (hrest.2.1 ())
   have hi:=hrest.2.2
   cases h:(f z.l st).t.sel with
   |nrm s=>
    have hts:tn.sel=s:=by
     obtain⟨t',h2,h3⟩:=T.prune_sel (f:=nrmSt) (t:=(f z.l st).t) (x:=s) (by rw[h];rfl)
     rw[en]at h2;cases h2;exact h3
    have htb:tb.coll z.J.pm=true:=by
     obtain⟨t',h2,h3⟩:=T.prune_sel (f:=isGoing) (t:=(f z.l st).t) (x:=true) (by rw[h];rfl)
     rw[eb]at h2;cases h2;exact hc.trans h3
    have hy:=hg z.r q.2 (hi htb)
    rw[htb]
    exact⟨seq_nrm hle hx h (hts▸hm) hy.wp,hx.f,hy.ret,hy.live⟩
   |dead=>exact absurd h hx.live
   |ext id s=>
    have htb:tb.coll z.J.pm=false:=by
     obtain⟨t',h2,h3⟩:=T.prune_sel (f:=isGoing) (t:=(f z.l st).t) (x:=false) (by rw[h];rfl)
     rw[eb]at h2;cases h2;exact hc.trans h3
    have htr:tr.sel=(f z.l st).t.sel:=by
     obtain⟨t',h2,h3⟩:=T.prune_sel (f:=isOther) (t:=(f z.l st).t) (x:= .ext id s) (by rw[h];rfl)
     rw[er]at h2;cases h2;rw[h3,h]
    rw[htb]
    refine⟨?_,hx.f,?_,?_⟩
    ·show WP _ x (thenA (W (Post X R tr.sel)) (Post X R tr.sel)) _
     rw[htr];exact seq_other hx (by rw[h];rfl)
    ·show∀vs,tr.sel= .ret vs→_
     rw[htr];exact hx.ret
    ·show tr.sel≠ .dead
     rw[htr];exact hx.live
   |ret vs=>
    have htb:tb.coll z.J.pm=false:=by
     obtain⟨t',h2,h3⟩:=T.prune_sel (f:=isGoing) (t:=(f z.l st).t) (x:=false) (by rw[h];rfl)
     rw[eb]at h2;cases h2;exact hc.trans h3
    have htr:tr.sel=(f z.l st).t.sel:=by
     obtain⟨t',h2,h3⟩:=T.prune_sel (f:=isOther) (t:=(f z.l st).t) (x:= .ret vs) (by rw[h];rfl)
     rw[er]at h2;cases h2;rw[h3,h]
    rw[htb]
    refine⟨?_,hx.f,?_,?_⟩
    ·show WP _ x (thenA (W (Post X R tr.sel)) (Post X R tr.sel)) _
     rw[htr];exact seq_other hx (by rw[h];rfl)
    ·show∀vs,tr.sel= .ret vs→_
     rw[htr];exact hx.ret
    ·show tr.sel≠ .dead
     rw[htr];exact hx.live
 ·rename_i h' hne
  split at ho
  ·rename_i ec
   have hx:=hf _ st ho
   exact⟨seq_other hx (by
    cases h:(f h.l st).t.sel with
    |nrm s=>have:=T.hasN_sel h;rw[T.cnt_hasN ec]at this;cases this
    |_=>rfl),hx.f,hx.ret,hx.live⟩
  ·rename_i ec
   split at ho<;>try exact ho.elim
   rename_i s es
   have hx:=hf _ st ho.1
   have hrest:=givF_holds ho.2 hx.f
   cases hsel:(f h.l st).t.sel with
   |nrm s'=>
    have he:=T.one_sel ec hsel es
    subst he
    have hy:=hg _ _ (T.wrap_sel ec hsel hrest)
    refine⟨?_,?_,?_,?_⟩
    ·simp only[T.subst_nrm hsel];exact seq_nrm hle hx hsel (Le.refl _) hy.wp
    ·split
     ·exact andF_some hx.f hy.f
     ·exact hx.f
    ·simp only[T.subst_nrm hsel];exact hy.ret
    ·simp only[T.subst_nrm hsel];exact hy.live
   |dead=>exact absurd hsel hx.live
   |_=>
    have hn:isNrm (f h.l st).t.sel=false:=by rw[hsel];rfl
    refine⟨?_,?_,?_,?_⟩
    ·simp only[T.subst_not hn];exact seq_other hx hn
    ·split
     ·rename_i lf el
      exfalso
      rw[el]at ec hsel
      simp only[T.sel]at hsel
      subst hsel
      cases ec
     ·exact hx.f
    ·simp only[T.subst_not hn];exact hx.ret
    ·simp only[T.subst_not hn];exact hx.live
  ·exact ho.elim
theorem WP.rnds_le{E:Env}{x:Code}{Q:Exit→St→Prop}{st st':St}(h:Le E.m st st'): ∀n,WP.rnds E x Q n st'→WP.rnds E x Q n st
 |0,k=>k
 |_+1,k=>WP.le h k
theorem unrC_ok{X:XE}{R:RS}{x:Code}{f:Hn R.kd→St→Res}(hf: ∀h st,(f h st).o.holds→RP X R x st (f h st)): ∀(n:Nat) (h:Hn R.kd) (st:St),(unrC X.m f n h st).o.holds→RPW X R (fun Q st=>WP.rnds X.env x Q (n+1) st) st (unrC X.m f n h st)
 |0,h,st,ho=>by
  unfold unrC at ho ⊢
  split at ho
  ·exact ho.elim
  ·rename_i eN
   have hr:=hf h st ho
   refine⟨hr.wp.mono fun e s hs=> ?_,hr.f,hr.ret,hr.live⟩
   cases e<;>simp only[thenA]<;>try exact hs
   simp only[Post]at hs
   split at hs
   ·rename_i s' el
    rw[T.hasN_sel el]at eN;cases eN
   ·exact hs
 |n+1,h,st,ho=>seqC_ok (W:=fun Q st=>WP.rnds X.env x Q (n+1) st) (fun h k=>WP.rnds_le h _ k) hf (unrC_ok hf n) h st ho
theorem exec_ok{X:XE}{R:RS}(hE:X.env.Ok): ∀(c:Code) (h:Hn R.kd) (st:St),(exec X R c h st).o.holds→RP X R c st (exec X R c h st):=by
 intro c
 induction c with
 |skip=>
  intro h st ho
  simp only[exec]at ho ⊢
  split at ho
  ·split at ho<;>try exact ho.elim
   rename_i p ep
   exact⟨WP.skip (convW_le (o:=p.1) (s':=p.2) ep ho),fun p hp=>(by cases hp),fun vs h=>(by cases h),fun h=>(by cases h)⟩
  ·exact⟨WP.skip (Le.refl _),fun p hp=>(by cases hp),fun vs h=>(by cases h),fun h=>(by cases h)⟩
 |label l=>
  intro h st ho
  exact⟨WP.label (Le.refl _),fun p hp=>(by cases hp),fun vs h=>(by cases h),fun h=>(by cases h)⟩
 |exit id=>
  intro h st ho
  simp only[exec]at ho ⊢
  split at ho
  ·split at ho<;>try exact ho.elim
   rename_i p ep
   exact⟨WP.exit ⟨rfl,convW_le (o:=p.1) (s':=p.2) ep ho⟩,fun p hp=>(by cases hp),fun vs h=>(by cases h),fun h=>(by cases h)⟩
  ·exact⟨WP.exit ⟨rfl,Le.refl _⟩,fun p hp=>(by cases hp),fun vs h=>(by cases h),fun h=>(by cases h)⟩
 |ret=>
  intro h st ho
  simp only[exec]at ho ⊢
  split at ho
  ·split at ho<;>try exact ho.elim
   rename_i p ep
   split at ho<;>try exact ho.elim
   rename_i q e
   obtain⟨h1,h2⟩:=retT_ok (o:=q.1) (vs:=q.2) e ho.2
   exact⟨WP.le (convW_le (o:=p.1) (s':=p.2) ep ho.1) (WP.ret h1),fun p hp=>(by cases hp),fun vs h=>(by cases h;exact h2),fun h=>(by cases h)⟩
  ·split at ho<;>try exact ho.elim
   rename_i q e
   obtain⟨h1,h2⟩:=retT_ok (o:=q.1) (vs:=q.2) e ho
   exact⟨WP.ret h1,fun p hp=>(by cases hp),fun vs h=>(by cases h;exact h2),fun h=>(by cases h)⟩
 |region id ops draw=>
  intro h st ho
  simp only[exec]at ho ⊢
  split at ho
  ·split at ho<;>try exact ho.elim
   rename_i p ep
   split at ho<;>try exact ho.elim
   rename_i b' o' e0
   split at ho<;>try exact ho.elim
   rename_i e1
   split at ho<;>try exact ho.elim
   rename_i e3
   simp only[Bool.and_eq_true]at e1 e3
   obtain⟨⟨⟨g1,g2⟩,g3⟩,g4⟩:=e3
   have hb:=Nat.eq_of_beq_eq_true e1.1
   have ho':=Nat.eq_of_beq_eq_true e1.2
   subst hb ho'
   have hr:=region_rp (R:=R) (id:=id) hE ho.2
   refine⟨WP.le (Hn.pre_le (o:=p.1) (s':=p.2) ep ho.1) (WP.freezeT _ _ _ ?_ rfl g1 g2 hr.wp g3),fun p hp=>(by cases hp),hr.ret,hr.live⟩
   have hi:_<p.2.tm.length:=Nat.le_of_ble_eq_true g4
   rw[List.getElem?_eq_getElem hi]
   simp only[List.getD,List.getElem?_eq_getElem hi,Option.getD_some]at e0
   rw[e0]
  ·rename_i l
   split at ho<;>try exact ho.elim
   rename_i p ep
   have hr:=region_rp (R:=R) (id:=id) hE ho.2
   refine⟨WP.le (convAll_le (ob:=p.1) (st':=p.2) ep ho.1) hr.wp,fun p hp=>(by cases hp),hr.ret,hr.live⟩
  ·split at ho<;>try exact ho.elim
   rename_i p ep
   have hr:=region_rp (R:=R) (id:=id) hE ho.2
   refine⟨WP.le (convW_le (o:=p.1) (s':=p.2) ep ho.1) hr.wp,fun p hp=>(by cases hp),hr.ret,hr.live⟩
  ·split at ho<;>try exact ho.elim
   rename_i p ep
   refine⟨(owT_ok (o:=p.1) (s':=p.2) hE ep ho id).mono fun e s hs=> ?_,fun p hp=>(by cases hp),fun vs h=>(by cases h),fun h=>(by cases h)⟩
   obtain⟨rfl,rfl⟩:=hs
   exact Le.refl _
  ·split at ho
   ·rename_i z ez
    split at ho<;>try exact ho.elim
    rename_i tn en
    split at ho<;>try exact ho.elim
    rename_i q eq
    obtain⟨s,hs⟩:=regionT_live ho.1
    have hm:=meetC_ok (o:=q.1) (mid:=q.2) eq ho.2
    have hts:tn.sel=s:=by
     obtain⟨t',h2,h3⟩:=T.prune_sel (f:=nrmSt) (t:=(regionT X ops draw st).t) (x:=s) (by rw[hs];rfl)
     rw[en]at h2;cases h2;exact h3
    refine⟨regionT_ok hE ho.1 fun s' h=> ?_,fun p hp=>(by cases hp),fun vs h=>(by cases h),fun h=>(by cases h)⟩
    rw[hs]at h
    cases h
    exact hts▸hm
   ·exact region_rp hE ho
 |block id x ih=>
  intro h st ho
  simp only[exec]at ho ⊢
  have hr:=ih h st ho
  refine⟨WP.block (hr.wp.mono fun e s hs=> ?_),hr.f,fun vs hv=> ?_,fun hd=> ?_⟩
  ·simp only[T.sel_map]
   generalize (exec X R x h st).t.sel=lf at hs
   cases e with
   |normal=>
    simp only[Post]at hs
    cases lf<;>simp only at hs<;>first|exact hs.elim|exact hs
   |exit j=>
    simp only[Post]at hs
    cases lf<;>simp only at hs<;>try exact hs.elim
    obtain⟨rfl,hs⟩:=hs
    simp only[blockA,inBlk]
    cases ej:Nat.beq j id with
    |true=>rw[if_pos (Nat.eq_of_beq_eq_true ej)];exact hs
    |false=>
     rw[if_neg (by intro e;rw[e,Nat.beq_refl]at ej;cases ej)]
     exact⟨rfl,hs⟩
   |ret=>
    simp only[Post]at hs
    cases lf<;>simp only at hs<;>first|exact hs.elim|exact hs
   |_=>exact hs.elim
  ·rw[T.sel_map]at hv;exact hr.ret vs (inBlk_sel.1 vs hv)
  ·rw[T.sel_map]at hd;exact hr.live (inBlk_sel.2 hd)
 |cond c x y ihx ihy=>
  intro h st ho
  simp only[exec]at ho ⊢
  split at ho
  ·rename_i b eb
   cases b with
   |true=>
    have hr:=ihx _ _ ho
    refine⟨fun S hS ι a w hs=> ?_,hr.f,hr.ret,hr.live⟩
    have hc:=hs.eval c
    rw[eb]at hc
    refine wp_cond hc.lit ?_
    exact hr.wp S hS ι a w hs
   |false=>
    have hr:=ihy _ _ ho
    refine⟨fun S hS ι a w hs=> ?_,hr.f,hr.ret,hr.live⟩
    have hc:=hs.eval c
    rw[eb]at hc
    refine wp_cond hc.lit ?_
    exact hr.wp S hS ι a w hs
  ·rename_i b eb
   split at ho
   ·rename_i b' h'
    cases b' with
    |true=>
     have hr:=ihx _ _ ho.2
     have hb:b=true:=ho.1
     exact⟨WP.cond eb (fun _=>hr.wp) (fun h=>by rw[hb]at h;cases h),hr.f,hr.ret,hr.live⟩
    |false=>
     have hr:=ihy _ _ ho.2
     have hb:b=false:=ho.1
     exact⟨WP.cond eb (fun h=>by rw[hb]at h;cases h) (fun _=>hr.wp),hr.f,hr.ret,hr.live⟩
   ·cases b with
    |true=>
     have hr:=ihx _ _ (ho.1 rfl)
     exact⟨WP.cond eb (fun _=>hr.wp) (fun h=>by cases h),fun p hp=>(by cases hp),hr.ret,hr.live⟩
    |false=>
     have hr:=ihy _ _ (ho.2 rfl)
     exact⟨WP.cond eb (fun h=>by cases h) (fun _=>hr.wp),fun p hp=>(by cases hp),hr.ret,hr.live⟩
  ·exact ho.elim
 |seq x y ihx ihy=>
  intro h st ho
  simp only[exec]at ho ⊢
  have hr:=seqC_ok (W:=WP X.env y) (fun h k=>WP.le h k) ihx ihy h st ho
  exact⟨WP.seq hr.wp,hr.f,hr.ret,hr.live⟩
 |loop x ih=>
  intro h st ho
  simp only[exec]at ho ⊢
  split at ho
  ·rename_i h'
   split at ho
   ·exact ho.elim
   ·rename_i eN
    have hr:=ih h' st ho
    refine⟨WP.loop1 (hr.wp.mono fun e s hs=> ?_),hr.f,hr.ret,hr.live⟩
    cases e<;>simp only[thenA]<;>try exact hs
    simp only[Post]at hs
    split at hs
    ·rename_i s' el
     rw[T.hasN_sel el]at eN;cases eN
    ·exact hs
  ·rename_i n h'
   have hr:=unrC_ok ih n h' st ho
   exact⟨WP.rounds _ hr.wp,hr.f,hr.ret,hr.live⟩
  ·rename_i L h'
   split at ho
   ·exact ho.elim
   rename_i p ec
   split at ho
   ·exact ho.elim
   rename_i hend
   split at ho
   ·exact ho.elim
   rename_i s0 es
   obtain⟨h0,h1,h2,h3,h4,h5⟩:=ho
   have hp: ∀s,pinOk X.m (L.hd (L.b0 p.2) s)=true:=fun s=>congrFun h3 s
   have hr:=WP.loopX (X:=X) (R:=R) (st:=p.2) L p.2 s0 (fun s=>exec X R x h' (L.hd (L.b0 p.2) s)) hend (fun s ho=>ih h' _ ho) (cutO_le h1 (hp s0)) h2 hp (fun v=>congrFun h4 v)
    (fun s hs=>⟨(h5 s hs).1,(h5 s hs).2.1,fun k=>⟨((h5 s hs).2.2 k).1,((h5 s hs).2.2 k).2⟩⟩) .tt
   exact⟨WP.le (convAll_le (ob:=p.1) (st':=p.2) ec h0) hr.wp,hr.f,hr.ret,hr.live⟩
  ·rename_i L h'
   split at ho
   ·exact ho.elim
   rename_i p ec
   split at ho
   ·exact ho.elim
   rename_i hend
   split at ho
   ·exact ho.elim
   rename_i s0 es
   obtain⟨h0,h1,h2,h3,h4,h5⟩:=ho
   have hp: ∀s,pinOk X.m (L.hd (L.b0 p.2) s)=true:=fun s=>congrFun h3 s
   have hr:=WP.loopX (X:=X) (R:=R) (st:=p.2) L p.2 s0 (fun s=>exec X R x (h' s) (L.hd (L.b0 p.2) s)) hend (fun s ho=>ih (h' s) _ ho) (cutO_le h1 (hp s0)) h2 hp (fun v=>congrFun h4 v)
    (fun s hs=>⟨(h5 s hs).1,(h5 s hs).2.1,fun k=>⟨((h5 s hs).2.2 k).1,((h5 s hs).2.2 k).2⟩⟩) .tt
   exact⟨WP.le (convAll_le (ob:=p.1) (st':=p.2) ec h0) hr.wp,hr.f,hr.ret,hr.live⟩
  ·exact ho.elim
 |_=>exact fun h st ho=>ho.elim
end Go.Vc
namespace Go.Vc
open Go Go.RowKit
/-! A function's arguments: their shapes, the cells' kinds. -/
inductive Sh where
 |v (k:Kd)
 |g (ks:List Kd)
 |r (ks:List Kd)
 |fn (f:FuncId) (caps:List (List Kd))
 |p (b:Nat)
 |o (b:Nat)
 |fp (f:FuncId) (bs:List Nat)
 |po (b o:Nat)
def Sh.kd:Sh→List Kd
 | .v k=>[k]
 | .g ks=>ks
 | .r ks=>ks
 | .fn _ caps=>caps.flatten
 | .p _=>[]
 | .o _=>[]
 | .fp _ _=>[]
 | .po .. =>[]
def capsOf:List (List Kd)→List AV→List AV×List AV
 |[],l=>([],l)
 |ks::r,l=>match capsOf r (l.drop ks.length)with
  |(a,b)=>(.ref (l.take ks.length)::a,b)
def putSh:List Sh→List AV→List AV
 |[],_=>[]
 |s::r,l=>match s with
  | .v _=>l.headD .undef::putSh r l.tail
  | .g ks=> .agg (l.take ks.length)::putSh r (l.drop ks.length)
  | .r ks=> .ref (l.take ks.length)::putSh r (l.drop ks.length)
  | .fn f caps=>match capsOf caps l with
    |(a,b)=> .fn f a::putSh r b
  | .p b=> .ptr b 0::putSh r l
  | .o b=> .own b 0::putSh r l
  | .fp f bs=> .fn f (bs.map fun b=> .ptr b 0)::putSh r l
  | .po b o=> .ptr b o::putSh r l
def cellsS:AV→List AV
 | .agg cs=>cs
 | .ref cs=>cs
 | .ptr .. =>[]
 | .own .. =>[]
 | .fn _ caps=>caps.flatMap fun c=>match c with
   | .ref cs=>cs
   | .ptr .. =>[]
   |x=>[x]
 |x=>[x]
@[reducible] def Cur:List Kd→Type 1→Type 1
  |[],α=>α
  |k::ks,α=>k.ty→Cur ks α
def Cur.ap{α:Type 1} :(ks:List Kd)→Cur ks α→List AV→Option α
 |[],f,[]=>some f
 |k::ks,f,x::xs=>match k.rd x with
  |some v=>Cur.ap ks (f v) xs
  |none=>none
 |_,_,_=>none
structure Fa where
 pre:Option Prop
 res:AV
structure Fq where
 sh:List Sh
 f:Cur (sh.flatMap Sh.kd) (ULift Fa)
def Sh.bs:Sh→List Bool
 | .v _=>[true]
 | .g ks=>List.replicate ks.length true
 | .r ks=>List.replicate ks.length false
 | .fn _ caps=>List.replicate caps.flatten.length false
 | .p _=>[]
 | .o _=>[]
 | .fp _ _=>[]
 | .po .. =>[]
def Bd(b:Bool):(k:Kd)→k.ty→Prop→Prop
 | .int _,_,p=>p
 | .bool,_,p=>p
 | .str,s,p=>match b with
   |true=>s.size≤549755813888→p
   |false=>p
 | .sl E,s,p=>match b with
   |true=>s.n≤549755813888→Fine (ofSl E.sz E.e s)→p
   |false=>p
 | .blk _,_,p=>p
def impP(pre:Option Prop)(p:Prop):Prop:=
 match pre with
 |none=>p
 |some q=>q→p
def FnOk(P:Program)(f:FuncId)(sh:List Sh):(ks:List Kd)→List Bool→Cur ks (ULift Fa)→List AV→Prop
 |[],_,F,acc=>impP F.down.pre (PureCall P f (putSh sh acc) F.down.res)
 |k::ks,bs,F,acc=> ∀x:k.ty,Bd (bs.headD false) k x (FnOk P f sh ks bs.tail (F x) (acc++[k.av x]))
def preO(p:Option Prop):Ob:=
 match p with
 |none=> .tt
 |some q=> .p q
def shB:List Sh→List AV→Bool
 |[],_=>true
 |s::r,l=>match s with
  | .fn f _=>match l with
    |x::xs=>match x with
     | .fn g _=>match Nat.beq f g with
       |true=>shB r xs
       |false=>false
     |_=>false
    |[]=>false
  | .fp f _=>match l with
    |x::xs=>match x with
     | .fn g _=>match Nat.beq f g with
       |true=>shB r xs
       |false=>false
     |_=>false
    |[]=>false
  | .po _ o=>match l with
    |x::xs=>match x with
     | .ptr _ o'=>match Nat.beq o o' with
       |true=>shB r xs
       |false=>false
     |_=>false
    |[]=>false
  |_=>shB r l.tail
def Fq.ans(F:Fq)(as:List AV):Option (Ob×AV):=
 gd (shB F.sh as) (match nrmL (F.sh.flatMap Sh.kd) (as.flatMap cellsS)with
 |some cs=>match Cur.ap _ F.f cs with
  |some a=>some (.and (.e (rcL as (putSh F.sh cs)) (putSh F.sh cs)) (preO a.down.pre),a.down.res)
  |none=>none
 |none=>none)
structure XOk (P:Program) (f:FuncId) (s:List AV→Option (Ob×AV)):Prop where
 callable:Callable P f
 pure: ∀args o r,s args=some (o,r)→o.holds→PureCall P f args r
def fineB:List Bool→List AV→Prop
 |b::bs,c::cs=>(b=true→Fine c)∧fineB bs cs
 |_,_=>True
theorem fineB_app: ∀{bs:List Bool} {cs:List AV} {bs':List Bool} {cs':List AV},bs.length=cs.length→fineB bs cs→fineB bs' cs'→fineB (bs++bs') (cs++cs')
 |[],[],_,_,_,_,h=>h
 |b::bs,c::cs,_,_,hl,h,h'=>⟨h.1,fineB_app (by simpa using hl) h.2 h'⟩
 |[],_::_,_,_,hl,_,_=>by simp at hl
 |_::_,[],_,_,hl,_,_=>by simp at hl
theorem fineB_true: ∀{cs:List AV},fineL cs→fineB (List.replicate cs.length true) cs
 |[],_=>trivial
 |_::_,h=>⟨fun _=>h.1,fineB_true h.2⟩
theorem fineB_false: ∀(n:Nat) (cs:List AV),fineB (List.replicate n false) cs
 |0,_=>trivial
 |_+1,[]=>trivial
 |n+1,_::cs=>⟨fun h=>(by cases h),fineB_false n cs⟩
theorem capsOf_snd: ∀(caps:List (List Kd)) (l:List AV),(capsOf caps l).2=l.drop caps.flatten.length
 |[],l=>by simp [capsOf]
 |ks::r,l=>by
  simp only[capsOf,capsOf_snd r,List.flatten_cons,List.length_append,List.drop_drop]
theorem nrmL_idem: ∀{ks:List Kd} {xs ys:List AV},nrmL ks xs=some ys→nrmL ks ys=some ys
 |[],[],ys,h=>by cases h;rfl
 |[],_::_,_,h=>by cases h
 |_::_,[],_,h=>by cases h
 |k::ks,x::xs,ys,h=>by
  simp only[nrmL]at h
  split at h<;>try (cases h;done)
  rename_i y e
  split at h<;>try (cases h;done)
  rename_i zs e2
  cases h
  obtain⟨v,h1,h2⟩:=Kd.nrm_idem e
  subst h1
  simp only[nrmL,Kd.nrm,h2,nrmL_idem e2]
theorem nrmL_split: ∀{ks js:List Kd} {l:List AV},nrmL (ks++js) l=some l→nrmL ks (l.take ks.length)=some (l.take ks.length)∧nrmL js (l.drop ks.length)=some (l.drop ks.length)
 |[],js,l,h=>⟨rfl,h⟩
 |k::ks,js,[],h=>by cases h
 |k::ks,js,x::xs,h=>by
  simp only[List.cons_append,nrmL]at h
  split at h<;>try (cases h;done)
  rename_i y e
  split at h<;>try (cases h;done)
  rename_i zs e2
  simp only[Option.some.injEq,List.cons.injEq]at h
  obtain⟨rfl,rfl⟩:=h
  obtain⟨h1,h2⟩:=nrmL_split e2
  exact⟨by simp only[List.length_cons,List.take_succ_cons,nrmL,e,h1],h2⟩
theorem putSh_fine: ∀(sh:List Sh) (l:List AV),nrmL (sh.flatMap Sh.kd) l=some l→fineAs (putSh sh l)→fineB (sh.flatMap Sh.bs) l
 |[],l,_,_=>trivial
 |s::r,l,hn,h=>by
  simp only[List.flatMap_cons]at hn ⊢
  obtain⟨n1,n2⟩:=nrmL_split hn
  have hl:=nrmL_length n1
  cases s with
  |v k=>
   cases l with
   |nil=>cases hn
   |cons x xs=>
    simp only[putSh,List.headD_cons,List.tail_cons]at h
    refine fineB_app (bs:=[true]) (cs:=[x]) rfl ⟨fun _=> ?_,trivial⟩ (putSh_fine r xs n2 h.2)
    have h1:=h.1
    simp only[Sh.kd,List.length_cons,List.length_nil,Nat.zero_add,List.take_succ_cons,List.take_zero,nrmL]at n1
    split at n1<;>try (cases n1;done)
    rename_i y e
    simp only[Option.some.injEq,List.cons.injEq,and_true]at n1
    subst n1
    obtain⟨v,e1,_⟩:=Kd.nrm_idem e
    subst e1
    cases k<;>exact h1
  |g ks=>
   simp only[putSh]at h
   simp only[Sh.kd]at hl n2
   have h1:=fineB_true h.1
   rw[hl]at h1
   have:=fineB_app (bs:=List.replicate ks.length true) (by simp [hl]) h1 (putSh_fine r (l.drop ks.length) n2 h.2)
   rwa [List.take_append_drop]at this
  |r ks=>
   simp only[putSh]at h
   simp only[Sh.kd]at hl n2
   have:=fineB_app (bs:=List.replicate ks.length false) (cs:=l.take ks.length) (by simp [hl]) (fineB_false _ _) (putSh_fine r (l.drop ks.length) n2 h.2)
   rwa [List.take_append_drop]at this
  |fn f caps=>
   simp only[putSh]at h
   simp only[Sh.kd]at hl n2
   have h2:=h.2
   rw[capsOf_snd]at h2
   have:=fineB_app (bs:=List.replicate caps.flatten.length false) (cs:=l.take caps.flatten.length) (by rw[List.length_replicate,hl]) (fineB_false _ _) (putSh_fine r (l.drop caps.flatten.length) n2 h2)
   rwa [List.take_append_drop]at this
  |p b=>exact putSh_fine r l n2 h.2
  |o b=>exact putSh_fine r l n2 h.2
  |fp f bs=>exact putSh_fine r l n2 h.2
  |po b o=>exact putSh_fine r l n2 h.2
theorem Cur.ap_ok{P:Program}{f:FuncId}{sh:List Sh} : ∀{ks:List Kd} {bs:List Bool} {F:Cur ks (ULift Fa)} {acc cs:List AV} {a:ULift Fa},Cur.ap ks F cs=some a→nrmL ks cs=some cs→fineB bs cs→FnOk P f sh ks bs F acc→impP a.down.pre (PureCall P f (putSh sh (acc++cs)) a.down.res)
 |[],bs,F,acc,[],a,h,_,_,hf=>by
  cases h
  rw[List.append_nil]
  exact hf
 |[],_,_,_,_::_,_,h,_,_,_=>by cases h
 |_::_,_,_,_,[],_,h,_,_,_=>by cases h
 |k::ks,bs,F,acc,x::xs,a,h,hn,hfc,hf=>by
  simp only[Cur.ap]at h
  split at h<;>try (cases h;done)
  rename_i v e
  simp only[nrmL]at hn
  split at hn<;>try (cases hn;done)
  rename_i y ey
  split at hn<;>try (cases hn;done)
  rename_i ys eys
  simp only[Option.some.injEq,List.cons.injEq]at hn
  obtain⟨rfl,rfl⟩:=hn
  have hx:y=k.av v:=by
   unfold Kd.nrm at ey
   rw[e]at ey
   cases ey;rfl
  subst hx
  have hB: ∀p,Bd (bs.headD false) k v p→p:=fun p hb=>by
   cases bs with
   |nil=>cases k<;>exact hb
   |cons b bs=>
    cases b with
    |false=>cases k<;>exact hb
    |true=>
     have hc:=hfc.1 rfl
     cases k with
     |int _=>exact hb
     |bool=>exact hb
     |str=>exact hb hc.size
     |sl E=>exact hb (Fine.len hc) hc
     |blk _=>exact hb
  have hfc':fineB bs.tail ys:=by
   cases bs with
   |nil=>trivial
   |cons b bs=>exact hfc.2
  have:=Cur.ap_ok (ks:=ks) (bs:=bs.tail) (acc:=acc++[k.av v]) h eys hfc' (hB _ (hf v))
  rwa [List.append_assoc,List.singleton_append]at this
theorem Fq.ok{P:Program}{f:FuncId}{F:Fq}(hc:Callable P f)(h:FnOk P f F.sh _ (F.sh.flatMap Sh.bs) F.f []):XOk P f F.ans:=by
 refine⟨hc,fun args o r e ho=> ?_⟩
 unfold Fq.ans at e
 rw[gd_some]at e
 replace e:=e.2
 split at e<;>try (cases e;done)
 rename_i cs ecs
 split at e<;>try (cases e;done)
 rename_i a ea
 cases e
 have hle:All2 aLe args (putSh F.sh cs):=rcL_le ho.1
 refine PureCall.weak ?_ hle
 refine PureCall.fine fun hf=> ?_
 have h1:=nrmL_idem ecs
 have:=Cur.ap_ok ea h1 (putSh_fine F.sh cs h1 hf) h
 have h2:=ho.2
 unfold preO at h2
 cases hp:a.down.pre with
 |none=>rw[hp]at this;exact this
 |some q=>rw[hp]at this h2;exact this h2
/-! A function's whole run. -/
def endV(X:XE)(R:RS)(lf:Lf):Option (List AV):=
 match lf with
 | .nrm s=>match retT X R s with
   |some q=>some q.2
   |none=>none
 | .ret vs=>some vs
 |_=>none
def endO(X:XE)(R:RS)(lf:Lf):Ob:=
 match lf with
 | .nrm s=>match retT X R s with
   |some q=>q.1
   |none=> .p False
 | .ret _=> .tt
 | .dead=> .tt
 | .ext .. => .p False
def finT(X:XE)(R:RS)(ms:List Mk)(r:Res):Option (Ob×List AV):=
 match r.t.prune (endV X R)with
 |some tv=>match colAll R.kd ms tv with
  |some q=>some (.and r.o (.and (givF r.f (r.t.obs (endO X R))) (.es fun _:Unit=>q.1)),q.2)
  |none=>none
 |none=>none
theorem WP.monoLe{E:Env}{c:Code}{Q R:Exit→St→Prop}{st:St}(h:WP E c R st)(hr: ∀e s,R e s→ ∃s',Le E.m s s'∧Q e s'):WP E c Q st:=fun S hS ι a w hs=>wp_mono (h S hS ι a w hs) fun e a w ⟨ι',st',h1,h2⟩=>by
 obtain⟨s',h3,h4⟩:=hr e st' h2
 obtain⟨ι2,h5⟩:=h3 S hS ι' a w h1
 exact⟨ι2,s',h5,h4⟩
def EndQ(X:XE)(R:RS)(vs:List AV)(e:Exit)(s:St):Prop:=
 (match e with
  | .normal=>True
  | .ret=>True
  |_=>False)∧RetRel X R s vs
theorem finT_ok{X:XE}{R:RS}{c:Code}{st:St}{r:Res}{ms:List Mk}{o:Ob}{vs:List AV}(h:finT X R ms r=some (o,vs))(ho:o.holds)(hr:r.o.holds→RP X R c st r):WP X.env c (EndQ X R vs) st:=by
 unfold finT at h
 split at h<;>try (cases h;done)
 rename_i tv etv
 split at h<;>try (cases h;done)
 rename_i q eq
 cases h
 obtain⟨h1,h2,h3⟩:=ho
 have hp:=hr h1
 have h4:=T.obs_sel (givF_holds h2 hp.f)
 have hcol:tv.sel.length=R.kd.length→nrmL R.kd tv.sel=some q.2:=fun hl=>colAll_ok (o:=q.1) (vs:=q.2) eq (h3 ()) hl
 refine hp.wp.monoLe fun e s hs=> ?_
 cases el:r.t.sel with
 |nrm s'=>
  rw[el]at hs h4
  cases e<;>simp only[Post]at hs<;>try exact hs.elim
  simp only[endO]at h4
  cases er:retT X R s' with
  |none=>rw[er]at h4;exact h4.elim
  |some p=>
   rw[er]at h4
   obtain⟨g1,xs,g2⟩:=retT_ok (o:=p.1) (vs:=p.2) er h4
   obtain⟨t',e1,e2⟩:=T.prune_sel (f:=endV X R) (t:=r.t) (x:=p.2) (by rw[el];simp only[endV,er])
   rw[etv]at e1;cases e1
   have:=hcol (by rw[e2];exact nrmL_length g2)
   rw[e2,nrmL_idem g2]at this
   have hv:p.2=q.2:=Option.some.inj this
   exact⟨s',hs,trivial,hv▸g1⟩
 |ret ws=>
  rw[el]at hs
  cases e<;>simp only[Post]at hs<;>try exact hs.elim
  obtain⟨xs,g2⟩:=hp.ret ws el
  obtain⟨t',e1,e2⟩:=T.prune_sel (f:=endV X R) (t:=r.t) (x:=ws) (by rw[el];rfl)
  rw[etv]at e1;cases e1
  have:=hcol (by rw[e2];exact nrmL_length g2)
  rw[e2,nrmL_idem g2]at this
  cases this
  exact⟨s,Le.refl _,trivial,hs⟩
 |ext id s'=>rw[el]at h4;exact h4.elim
 |dead=>exact absurd el hp.live
def okOut:List AV→Bool
 |[]=>false
 |[x]=>match x with
  | .tup _=>false
  | .blk .. =>false
  |_=>true
 |_=>true
noncomputable def pureT(X:XE)(R:RS)(c:Code)(h:Hn R.kd)(ms:List Mk)(st:St):Ob×AV:=
 match finT X R ms (exec X R c h st)with
 |some q=>match R.md with
  | .pure=>match okOut (R.st q.2).tm with
    |true=>(q.1,tupA (R.st q.2).tm)
    |false=>(.p False,.undef)
  | .own _=>(q.1,q.2.headD .undef)
  |_=>(.p False,.undef)
 |none=>(.p False,.undef)
theorem tLe_tupA: ∀{xs ys:List AV},All2 aLe xs ys→okOut ys=true→tLe (tupA xs) (tupA ys)
 |[],[],_,h=>by cases h
 |[x],[y],h,ho=>by
  have h1:=h.1
  simp only[tupA]
  simp only[okOut]at ho
  cases x<;>cases y<;>first|exact h1|(cases ho;done)|(simp [aLe,cLe]at h1;done)
 |_::_::_,_::_::_,h,_=>h
 |[],_::_,h,_=>h.elim
 |_::_,[],h,_=>h.elim
 |[_],_::_::_,h,_=>h.2.elim
 |_::_::_,[_],h,_=>h.2.elim
theorem pure_of_exec{X:XE}{R:RS}{f:FuncId}{fn:Func}{c:Code}{h:Hn R.kd}{ms:List Mk}{as:List AV}{r:AV}{p:Prop}(hE:X.env.Ok)(hf:X.P.funcs[f]? =some fn)(hb:fn.body=some c)(hR:R.rs=fn.results.toList)
  (e:((pureT X R c h ms ⟨as++List.replicate (fn.ntmps-as.length) .undef,[]⟩).1.prop,(pureT X R c h ms ⟨as++List.replicate (fn.ntmps-as.length) .undef,[]⟩).1.skL,(pureT X R c h ms ⟨as++List.replicate (fn.ntmps-as.length) .undef,[]⟩).2)=(p,(pureT X R c h ms ⟨as++List.replicate (fn.ntmps-as.length) .undef,[]⟩).1.skR,r)) (hp:p):PureCall X.P f as r:=by
 generalize est:(⟨as++List.replicate (fn.ntmps-as.length) .undef,[]⟩:St)=st at e
 simp only[Prod.mk.injEq]at e
 obtain⟨e1,e2,e3⟩:=e
 have ho:(pureT X R c h ms st).1.holds:=Ob.ok _ e2 (by rw[e1];exact hp)
 clear e1 e2
 unfold pureT at ho e3
 split at ho
 ·rename_i q eq
  rw[eq]at e3
  simp only at e3
  obtain⟨o,vs⟩:=q
  simp only at ho e3
  split at ho
  ·rename_i em
   rw[em]at e3
   simp only at e3
   split at ho
   ·rename_i eo
    rw[eo]at e3
    simp only at e3
    have hw:=finT_ok eq ho fun h'=>exec_ok hE c h st h'
    refine pure_of_WP hE hf hb as r ?_
    rw[est]
    refine hw.mono fun e s hs=>⟨hs.1,?_⟩
    have h2:=hs.2
    unfold RetRel at h2
    rw[em]at h2
    simp only at h2
    subst e3
    have h3:resL X.env s fn.results.toList fun vs'=>tLe (tupA vs') (tupA (R.st vs).tm):=by
     rw[←hR]
     exact h2 _ fun ys hy=>tLe_tupA hy eo
    cases hr:tupA (R.st vs).tm<;>rw[hr]at h3<;>first|exact h3|skip
    revert eo hr
    generalize (R.st vs).tm=l
    intro eo hr
    match l with
    |[]=>cases eo
    |[x]=>simp only[tupA]at hr;subst hr;cases eo
    |_::_::_=>cases hr
   ·exact ho.elim
  ·rename_i El em
   rw[em]at e3
   simp only at e3
   have hw:=finT_ok eq ho fun h'=>exec_ok hE c h st h'
   refine pure_of_WP hE hf hb as r ?_
   rw[est]
   refine hw.mono fun e s hs=>⟨hs.1,?_⟩
   have h2:=hs.2
   unfold RetRel at h2
   rw[em]at h2
   simp only at h2
   obtain⟨n,g,g1,g2⟩:=h2
   subst g1
   simp only[List.headD_cons]at e3
   subst e3
   rw[hR]at g2
   exact g2
  ·exact ho.elim
 ·exact ho.elim
def elOf:List (Nat×El)→TypeId→Option El
 |[],_=>none
 |(T',t)::r,T=>match Nat.beq T T' with
  |true=>some t
  |false=>elOf r T
abbrev XAns:=List AV→Option (Ob×AV)
def spX:List (Nat×XAns)→FuncId→List AV→Option (Ob×AV)
 |[],_,_=>none
 |(g,s)::r,f,xs=>match Nat.beq f g with
  |true=>match s xs with
   |some q=>some q
   |none=>spX r f xs
  |false=>spX r f xs
def XAll(P:Program):List (Nat×XAns)→Prop
 |[]=>True
 |x::r=>XOk P x.1 x.2∧XAll P r
theorem spX_ok{P:Program} : ∀{l:List (Nat×XAns)},XAll P l→ ∀f xs o r,spX l f xs=some (o,r)→Callable P f∧(o.holds→PureCall P f xs r)
 |[],_,_,_,_,_,h=>by cases h
 |(g,s)::l,hl,f,xs,o,r,h=>by
  simp only[spX]at h
  split at h
  ·rename_i e
   have:f=g:=Nat.eq_of_beq_eq_true e
   subst this
   split at h
   ·rename_i q e2
    cases h
    exact⟨hl.1.callable,hl.1.pure xs _ _ e2⟩
   ·exact spX_ok hl.2 f xs o r h
  ·exact spX_ok hl.2 f xs o r h
abbrev XH:=List AV→Heap→Option (Ob×List AV×Heap)
def spH:List (Nat×XH)→FuncId→List AV→Heap→Option (Ob×List AV×Heap)
 |[],_,_,_=>none
 |(g,s)::r,f,xs,H=>match Nat.beq f g with
  |true=>match s xs H with
   |some q=>some q
   |none=>spH r f xs H
  |false=>spH r f xs H
structure XHOk (P:Program) (f:FuncId) (s:XH):Prop where
 callable:Callable P f
 call: ∀args H o rs H',s args H=some (o,rs,H')→o.holds→HCall P f args H rs H'
def XHAll(P:Program):List (Nat×XH)→Prop
 |[]=>True
 |x::r=>XHOk P x.1 x.2∧XHAll P r
theorem spH_ok{P:Program} : ∀{l:List (Nat×XH)},XHAll P l→ ∀f xs H o rs H',spH l f xs H=some (o,rs,H')→Callable P f∧(o.holds→HCall P f xs H rs H')
 |[],_,_,_,_,_,_,_,h=>by cases h
 |(g,s)::l,hl,f,xs,H,o,rs,H',h=>by
  simp only[spH]at h
  split at h
  ·rename_i e
   have:f=g:=Nat.eq_of_beq_eq_true e
   subst this
   split at h
   ·rename_i q e2
    cases h
    exact⟨hl.1.callable,hl.1.call xs H _ _ _ e2⟩
   ·exact spH_ok hl.2 f xs H o rs H' h
  ·exact spH_ok hl.2 f xs H o rs H' h
theorem spX_env{P:Program}{l:List (Nat×XAns)}(h:XAll P l):Spec.Ok P (fun f xs=>match spX l f xs with
  |some q=>some (some q.1.holds,q.2)
  |none=>none):=fun f args pre r e=>by
 simp only at e
 split at e
 ·rename_i q e2
  cases e
  obtain⟨h1,h2⟩:=spX_ok h f args q.1 q.2 e2
  exact⟨h1,fun hp=>h2 hp.1⟩
 ·cases e
theorem spH_env{P:Program}{l:List (Nat×XH)}(h:XHAll P l):HSpec.Ok P (fun f xs H=>match spH l f xs H with
  |some q=>some (some q.1.holds,q.2)
  |none=>none):=fun f args H pre rs H' e=>by
 simp only at e
 split at e
 ·rename_i q e2
  obtain⟨q1,q2,q3⟩:=q
  cases e
  obtain⟨h1,h2⟩:=spH_ok h f args H q1 _ _ e2
  exact⟨h1,fun hp=>h2 hp.1⟩
 ·cases e
abbrev kI:Kd:= .int .i64
abbrev kB:Kd:= .bool
abbrev kS:Kd:= .str
def skA:AV→AV→Bool
 | .int k _,.int k' _=>decide (k=k')
 | .bool _,.bool _=>true
 | .str _,.str _=>true
 | .arr s _ _,.arr s' _ _=>Nat.beq s s'
 |_,_=>false
def skL:List AV→List AV→Bool
 |[],[]=>true
 |x::xs,y::ys=>match skA x y with
  |true=>skL xs ys
  |false=>false
 |_,_=>false
def findEl:List (Nat×El)→Nat→List AV→Option El
 |[],_,_=>none
 |(_,E)::r,sz,cs=>match Nat.beq E.sz sz with
  |true=>match skL (E.e (E.d [])) cs with
   |true=>some E
   |false=>findEl r sz cs
  |false=>findEl r sz cs
def hoOf(hl:List (Nat×XH))(f:Nat):Bool:=hl.any fun x=>Nat.beq f x.1
def XE.of(P:Program)(tbl:List (Nat×Ty))(els:List (Nat×El))(l:List (Nat×XAns))(m:Nat)(hl:List (Nat×XH)):XE:=⟨P,tyOf tbl,elOf els,spX l,m,spH hl,findEl els,hoOf hl⟩
theorem XE.of_ok{P:Program}{tbl:List (Nat×Ty)}{els:List (Nat×El)}{l:List (Nat×XAns)}{m:Nat}{hl:List (Nat×XH)}(hm:P.follows .mixedOrders=true)(h:(tbl.all fun x=>tyB P x.1 x.2)=true)(hc:(tbl.all fun x=>cmpB P x)=true)(h1:XAll P l)(h2:XHAll P hl):
  (XE.of P tbl els l m hl).env.Ok:=env_ok2 hm h hc (spX_env h1) (spH_env h2)
end Go.Vc
namespace Go.Vc
open Go Go.RowKit
/-! Functions that are handed boxes. -/
theorem heap_of_WP2{E:Env}(hE:E.Ok){f:FuncId}{fn:Func}{c:Code}(hf:E.P.funcs[f]? =some fn)(hb:fn.body=some c)(as:List AV)(H:Heap)(rs:List AV)(H':Heap)(hm:Nat.ble H.length E.m=true)
  (hk:WP E c (fun e st=>(match e with
   | .normal=>True
   | .ret=>True
   |_=>False)∧hresL E st fn.results.toList fun vs=>vs.length=rs.length∧Le E.m ⟨vs,st.hp⟩ ⟨rs,H'⟩) ⟨as++List.replicate (fn.ntmps-as.length) .undef,H⟩):HCall E.P f as H rs H':=by
 intro S ι w vs hS hvl hsim
 have hS':=Nat.le_trans hS (Nat.le_of_ble_eq_true hm)
 have hsim1:Sim S ι ⟨as++List.replicate (fn.ntmps-as.length) .undef,H⟩ {tmps:=vs.toArray++Array.replicate (fn.ntmps-vs.toArray.size) undef,defers:=[]} w:=by
  refine⟨hsim.below,rfl,fun t av ht=> ?_,hsim.hp,hsim.inj,hsim.fresh,hsim.dom,hsim.hist⟩
  rcases Nat.lt_or_ge t as.length with h|h
  ·rw[List.getElem?_append_left h]at ht
   obtain⟨v,h1,h2⟩:=hsim.tm t av ht
   refine⟨v,?_,h2⟩
   rw[Array.getElem?_append_left (by simp;omega)]
   exact h1
  ·rw[List.getElem?_append_right h]at ht
   have htl:t-as.length<fn.ntmps-as.length:=by
    rcases Nat.lt_or_ge (t-as.length) (fn.ntmps-as.length)with h'|h'
    ·exact h'
    ·rw[List.getElem?_eq_none (by simpa using h')]at ht;cases ht
   rw[List.getElem?_replicate,if_pos htl]at ht
   cases ht
   exact⟨undef,by rw[Array.getElem?_append_right (by simp;omega),Array.getElem?_replicate,if_pos (by simp;omega)],trivial⟩
 refine calls_of_wp hf hb (wp_mono (hk S hS' _ _ w hsim1) fun e a w' ⟨ι1,st,hs,hq⟩=> ?_)
 obtain⟨he,hres⟩:=hq
 obtain⟨ys,us,hle,h1,h2⟩:=hresL_sound hE hs _ _ hres
 have hrun:=results_run h2
 have hs2:Sim S ι1 ⟨ys,st.hp⟩ {tmps:=us.toArray,defers:=[]} w':=by
  refine⟨hs.below,rfl,fun t av ht=> ?_,hs.hp,hs.inj,hs.fresh,hs.dom,hs.hist⟩
  obtain⟨v,g1,g2⟩:=h1.get t av ht
  exact⟨v,by simpa using g1,g2⟩
 have hl:us.length=rs.length:=by rw[←h1.length];exact hle.1
 obtain⟨ι2,hs3⟩:=hle.2 S hS' ι1 _ w' hs2
 have post: ∃v,(results fn a.tmps).run E.P w'= .ok v w'∧ ∃us ι',Ending.returned v= .returned (pack us)∧us.length=rs.length∧Sim S ι' ⟨rs,H'⟩ {tmps:=us.toArray,defers:=[]} w':=
  ⟨_,hrun,us,ι2,rfl,hl,hs3⟩
 cases e<;>simp only at he<;>first|exact⟨hs.defers,post⟩|exact he.elim
noncomputable def heapT(X:XE)(R:RS)(c:Code)(h:Hn R.kd)(ms:List Mk)(st:St):Ob×St:=
 match finT X R ms (exec X R c h st)with
 |some q=>match R.md with
  | .heap=>(q.1,R.st q.2)
  | .hp2 .. =>(q.1,R.st q.2)
  | .hp3 .. =>(q.1,R.st q.2)
  |_=>(.p False,st)
 |none=>(.p False,st)
theorem heap_of_exec{X:XE}{R:RS}{f:FuncId}{fn:Func}{c:Code}{h:Hn R.kd}{ms:List Mk}{as:List AV}{H:Heap}{rs:List AV}{H':Heap}{p:Prop}(hE:X.env.Ok)(hf:X.P.funcs[f]? =some fn)(hb:fn.body=some c)(hR:R.rs=fn.results.toList)(hm:Nat.ble H.length X.m=true)
  (e:((heapT X R c h ms ⟨as++List.replicate (fn.ntmps-as.length) .undef,H⟩).1.prop,(heapT X R c h ms ⟨as++List.replicate (fn.ntmps-as.length) .undef,H⟩).1.skL,(heapT X R c h ms ⟨as++List.replicate (fn.ntmps-as.length) .undef,H⟩).2)=(p,(heapT X R c h ms ⟨as++List.replicate (fn.ntmps-as.length) .undef,H⟩).1.skR,⟨rs,H'⟩)) (hp:p):HCall X.P f as H rs H':=by
 generalize est:(⟨as++List.replicate (fn.ntmps-as.length) .undef,H⟩:St)=st at e
 simp only[Prod.mk.injEq]at e
 obtain⟨e1,e2,e3⟩:=e
 have ho:(heapT X R c h ms st).1.holds:=Ob.ok _ e2 (by rw[e1];exact hp)
 clear e1 e2
 unfold heapT at ho e3
 split at ho
 ·rename_i q eq
  rw[eq]at e3
  simp only at e3
  obtain⟨o,vs⟩:=q
  simp only at ho e3
  split at ho
  ·rename_i em
   rw[em]at e3
   simp only at e3
   have hw:=finT_ok eq ho fun h'=>exec_ok hE c h st h'
   refine heap_of_WP2 hE hf hb as H rs H' hm ?_
   rw[est]
   refine hw.mono fun e s hs=>⟨hs.1,?_⟩
   have h2:=hs.2
   unfold RetRel at h2
   rw[em]at h2
   simp only at h2
   rw[e3]at h2
   rw[←hR]
   exact h2 _ fun ys h3 h4=>⟨h3,h4⟩
  ·rename_i em
   rw[em]at e3
   simp only at e3
   have hw:=finT_ok eq ho fun h'=>exec_ok hE c h st h'
   refine heap_of_WP2 hE hf hb as H rs H' hm ?_
   rw[est]
   refine hw.mono fun e s hs=>⟨hs.1,?_⟩
   have h2:=hs.2
   unfold RetRel at h2
   rw[em]at h2
   simp only at h2
   rw[e3]at h2
   rw[←hR]
   exact h2 _ fun ys h3 h4=>⟨h3,h4⟩
  ·rename_i em
   rw[em]at e3
   simp only at e3
   have hw:=finT_ok eq ho fun h'=>exec_ok hE c h st h'
   refine heap_of_WP2 hE hf hb as H rs H' hm ?_
   rw[est]
   refine hw.mono fun e s hs=>⟨hs.1,?_⟩
   have h2:=hs.2
   unfold RetRel at h2
   rw[em]at h2
   simp only at h2
   rw[e3]at h2
   rw[←hR]
   exact h2 _ fun ys h3 h4=>⟨h3,h4⟩
  ·exact ho.elim
 ·exact ho.elim
/-! The contract of such a function. -/
structure Ha where
 pre:Option Prop
 rs:List AV
 H:Heap
structure Hq where
 sh:List Sh
 hk:List (Key×Kd)
 hb:Heap
 f:Cur (sh.flatMap Sh.kd++hk.map (·.2)) (ULift Ha)
def Hq.heap(F:Hq)(cs:List AV):Heap:=(mkS ⟨[],F.hb⟩ (F.hk.map (·.1)) cs).hp
def Hq.na(F:Hq):Nat:=(F.sh.flatMap Sh.kd).length
def Hq.args(F:Hq)(cs:List AV):List AV:=(putSh F.sh (cs.take F.na)).map (refA (F.heap (cs.drop F.na)))
def BdH(b:Bool):(k:Kd)→k.ty→Prop→Prop
 | .int _,_,p=>p
 | .bool,_,p=>p
 | .str,s,p=>match b with
   |true=>s.size≤549755813888→p
   |false=>p
 | .sl _,s,p=>match b with
   |true=>s.n≤549755813888→p
   |false=>p
 | .blk _,s,p=>match b with
   |true=>s.n≤549755813888→p
   |false=>p
def HqOk(P:Program)(f:FuncId)(F:Hq):(ks:List Kd)→List Bool→Cur ks (ULift Ha)→List AV→Prop
 |[],_,A,acc=>impP A.down.pre (HCall P f (F.args acc) (F.heap (acc.drop F.na)) A.down.rs A.down.H)
 |k::ks,bs,A,acc=> ∀x:k.ty,BdH (bs.headD true) k x (HqOk P f F ks bs.tail (A x) (acc++[k.av x]))
def Hq.ans(F:Hq)(as:List AV)(H:Heap):Option (Ob×List AV×Heap):=
 gd (shB F.sh as) (match nrmL (F.sh.flatMap Sh.kd++F.hk.map (·.2)) (as.flatMap cellsS++getAll ⟨[],H⟩ (F.hk.map (·.1)))with
 |some cs=>match Cur.ap _ F.f cs with
  |some a=>gd (Nat.beq H.length (F.heap (cs.drop F.na)).length&&pinOk H.length ⟨F.args cs,F.heap (cs.drop F.na)⟩)
    (some (.and (cutO ⟨as,H⟩ ⟨F.args cs,F.heap (cs.drop F.na)⟩) (.and (.e (getAll ⟨[],F.heap (cs.drop F.na)⟩ (F.hk.map (·.1))) (cs.drop F.na)) (preO a.down.pre)),a.down.rs,a.down.H))
  |none=>none
 |none=>none)
def fineX(x:AV):Prop:=
 match x with
 | .str s=>s.size≤BIG
 | .arr _ n _=>n≤BIG
 | .blk ro sz n _=>n≤BIG∨(ro=true∧sz=0)
 |_=>True
def okX(x:AV):Prop:=
 match x with
 | .agg cs=> ∀c∈cs,fineX c
 |x=>fineX x
def fineBX:List Bool→List AV→Prop
 |bs,c::cs=>(bs.headD true=true→fineX c)∧fineBX bs.tail cs
 |_,[]=>True
theorem fineBX_app: ∀{bs:List Bool} {cs:List AV} {bs':List Bool} {cs':List AV},bs.length=cs.length→fineBX bs cs→fineBX bs' cs'→fineBX (bs++bs') (cs++cs')
 |[],[],_,_,_,_,h=>h
 |b::bs,c::cs,_,_,hl,h,h'=>⟨h.1,fineBX_app (by simpa using hl) h.2 h'⟩
 |[],_::_,_,_,hl,_,_=>by simp at hl
 |_::_,[],_,_,hl,_,_=>by simp at hl
theorem fineBX_all: ∀{n:Nat} {cs:List AV},(∀c∈cs,fineX c)→fineBX (List.replicate n true) cs
 |n,[],_=>by cases n<;>trivial
 |0,c::cs,h=>⟨fun _=>h c (by simp),fineBX_all (n:=0) fun c hc=>h c (by simp [hc])⟩
 |n+1,c::cs,h=>⟨fun _=>h c (by simp),fineBX_all (n:=n) fun c hc=>h c (by simp [hc])⟩
theorem fineBX_false: ∀(n:Nat) (cs:List AV),cs.length=n→fineBX (List.replicate n false) cs
 |_,[],_=>by trivial
 |0,_::_,h=>by simp at h
 |n+1,_::cs,h=>⟨fun h=>(by cases h),fineBX_false n cs (by simpa using h)⟩
theorem putSh_bd: ∀(sh:List Sh) (l:List AV),nrmL (sh.flatMap Sh.kd) l=some l→(∀x∈putSh sh l,okX x)→fineBX (sh.flatMap Sh.bs) l
 |[],l,hn,_=>by
  cases l with
  |nil=>trivial
  |cons x xs=>cases hn
 |s::r,l,hn,h=>by
  simp only[List.flatMap_cons]at hn ⊢
  obtain⟨n1,n2⟩:=nrmL_split hn
  have hl:=nrmL_length n1
  cases s with
  |v k=>
   cases l with
   |nil=>cases hn
   |cons x xs=>
    simp only[putSh,List.headD_cons,List.tail_cons]at h
    refine fineBX_app (bs:=[true]) (cs:=[x]) rfl ⟨fun _=> ?_,trivial⟩ (putSh_bd r xs n2 fun y hy=>h y (by simp [hy]))
    have h1:=h x (by simp)
    simp only[Sh.kd,List.length_cons,List.length_nil,Nat.zero_add,List.take_succ_cons,List.take_zero,nrmL]at n1
    split at n1<;>try (cases n1;done)
    rename_i y e
    simp only[Option.some.injEq,List.cons.injEq,and_true]at n1
    subst n1
    obtain⟨v,e1,_⟩:=Kd.nrm_idem e
    subst e1
    cases k<;>exact h1
  |g ks=>
   simp only[putSh]at h
   simp only[Sh.kd]at hl n2
   have h1: ∀c∈l.take ks.length,fineX c:=h (.agg (l.take ks.length)) (by simp)
   have:=fineBX_app (bs:=List.replicate ks.length true) (by simp [hl]) (fineBX_all h1) (putSh_bd r (l.drop ks.length) n2 fun y hy=>h y (by simp [hy]))
   rwa [List.take_append_drop]at this
  |r ks=>
   simp only[putSh]at h
   simp only[Sh.kd]at hl n2
   have:=fineBX_app (bs:=List.replicate ks.length false) (cs:=l.take ks.length) (by simp [hl]) (fineBX_false _ _ hl) (putSh_bd r (l.drop ks.length) n2 fun y hy=>h y (by simp [hy]))
   rwa [List.take_append_drop]at this
  |fn f caps=>
   simp only[putSh]at h
   simp only[Sh.kd]at hl n2
   have h2: ∀y∈putSh r (l.drop caps.flatten.length),okX y:=fun y hy=>h y (by
    rw[←capsOf_snd]at hy
    simp [hy])
   have:=fineBX_app (bs:=List.replicate caps.flatten.length false) (cs:=l.take caps.flatten.length) (by rw[List.length_replicate,hl]) (fineBX_false _ _ hl) (putSh_bd r (l.drop caps.flatten.length) n2 h2)
   rwa [List.take_append_drop]at this
  |p b=>exact putSh_bd r l n2 fun y hy=>h y (by simp [putSh,hy])
  |o b=>exact putSh_bd r l n2 fun y hy=>h y (by simp [putSh,hy])
  |fp f bs=>exact putSh_bd r l n2 fun y hy=>h y (by simp [putSh,hy])
  |po b o=>exact putSh_bd r l n2 fun y hy=>h y (by simp [putSh,hy])
theorem Cur.aph_ok{P:Program}{f:FuncId}{F:Hq} : ∀{ks:List Kd} {bs:List Bool} {A:Cur ks (ULift Ha)} {acc cs:List AV} {a:ULift Ha},Cur.ap ks A cs=some a→nrmL ks cs=some cs→fineBX bs cs→HqOk P f F ks bs A acc→impP a.down.pre (HCall P f (F.args (acc++cs)) (F.heap ((acc++cs).drop F.na)) a.down.rs a.down.H)
 |[],bs,A,acc,[],a,h,_,_,hf=>by
  cases h
  rw[List.append_nil]
  exact hf
 |[],_,_,_,_::_,_,h,_,_,_=>by cases h
 |_::_,_,_,_,[],_,h,_,_,_=>by cases h
 |k::ks,bs,A,acc,x::xs,a,h,hn,hfc,hf=>by
  simp only[Cur.ap]at h
  split at h<;>try (cases h;done)
  rename_i v e
  simp only[nrmL]at hn
  split at hn<;>try (cases hn;done)
  rename_i y ey
  split at hn<;>try (cases hn;done)
  rename_i ys eys
  simp only[Option.some.injEq,List.cons.injEq]at hn
  obtain⟨rfl,rfl⟩:=hn
  have hx:y=k.av v:=by
   unfold Kd.nrm at ey
   rw[e]at ey
   cases ey;rfl
  subst hx
  have hB: ∀p,BdH (bs.headD true) k v p→p:=fun p hb=>by
   have hc:=hfc.1
   cases hbs:bs.headD true with
   |false=>rw[hbs]at hb;cases k<;>exact hb
   |true=>
    rw[hbs]at hb
    have hc:=hc hbs
    cases k with
    |int _=>exact hb
    |bool=>exact hb
    |str=>exact hb hc
    |sl E=>exact hb hc
    |blk _=>exact hb (hc.resolve_right fun g=>by cases g.1)
  have:=Cur.aph_ok (ks:=ks) (bs:=bs.tail) (acc:=acc++[k.av v]) h eys hfc.2 (hB _ (hf v))
  rwa [List.append_assoc,List.singleton_append]at this
theorem fineX_of{S:Base}{ι:Nat→Option Nat}{H:Heap}{w:World}{c:AV}{v:Value}(h:CR S ι H w c v):fineX c:=by
 cases c<;>try trivial
 ·have h':FRel w (FZ S ι H w) (.str _) v:=h
  exact(FRel.fine h').size
 ·have h':FRel w (FZ S ι H w) (.arr _ _ _) v:=h
  cases FRel.fine h';assumption
 all_goals exact h.elim
theorem okX_of{S:Base}{ι:Nat→Option Nat}{H:Heap}{w:World}{x:AV}{v:Value}(h:VR S ι H w x v):okX x:=by
 cases x
 case agg cs=>
  obtain⟨vs,_,h⟩:=h
  intro c hc
  obtain⟨i,hi⟩:=List.getElem?_of_mem hc
  obtain⟨u,_,h2⟩:=h.get i c hi
  exact fineX_of h2
 case undef=>trivial
 case gone=>trivial
 case tup=>trivial
 case str s=>exact fineX_of (show CR S ι H w (.str s) v from h)
 case arr sz n f=>exact fineX_of (show CR S ι H w (.arr sz n f) v from h)
 case blk ro sz n f=>exact(show False from h).elim
 all_goals trivial
theorem okX_ref{H:Heap}{x:AV}(h:okX (refA H x)):okX x:=by
 have key: ∀c,fineX (ref1 H c)→fineX c:=fun c hc=>by cases c<;>first|exact hc|trivial
 cases x<;>first|exact h|trivial|skip
 intro c hc
 exact key c (h _ (List.mem_map.2 ⟨c,hc,rfl⟩))
theorem fineX_heap{S:Base}{ι:Nat→Option Nat}{st:St}{a:Act}{w:World}(h:Sim S ι st a w)(b o:Nat):fineX (hget st.hp b o):=by
 have h1:=h.hp b o
 cases e:hget st.hp b o<;>rw[e]at h1<;>try trivial
 ·obtain⟨_,x,v,_,_,_,h2⟩:=h1
  exact fineX_of (S:=S) h2
 ·obtain⟨_,x,v,_,_,_,h2⟩:=h1
  exact fineX_of (S:=S) h2
 ·exact h1.2.elim (fun g=> .inr ⟨g.1,g.2.1⟩) fun g=> .inl g.1
theorem Hq.ok{P:Program}{f:FuncId}{F:Hq}(hc:Callable P f)(hk:(F.hk.all fun k=>match k.1 with
  | .h _ _=>true
  |_=>false)=true) (h:HqOk P f F _ (F.sh.flatMap Sh.bs) F.f []):XHOk P f F.ans:=by
 refine⟨hc,fun args H o rs H' e ho=> ?_⟩
 unfold Hq.ans at e
 rw[gd_some]at e
 replace e:=e.2
 split at e<;>try (cases e;done)
 rename_i cs ecs
 split at e<;>try (cases e;done)
 rename_i a ea
 rw[gd_some]at e
 obtain⟨hpin,e⟩:=e
 cases e
 simp only[Bool.and_eq_true]at hpin
 obtain⟨hcut,hget',hpre⟩:=ho
 have hcs:=nrmL_idem ecs
 have hlen:=Nat.eq_of_beq_eq_true hpin.1
 intro S ι w vs hS hvl hsim
 obtain⟨ι',hs⟩:=cutO_le hcut hpin.2 S hS ι _ w hsim
 have hal:args.length=(F.args cs).length:=fgtL_len (leE hcut).1
 obtain⟨n1,n2⟩:=nrmL_split hcs
 have hargs: ∀x∈putSh F.sh (cs.take F.na),okX x:=fun x hx=>by
  obtain⟨i,hi⟩:=List.getElem?_of_mem hx
  obtain⟨v,_,h2⟩:=hs.tm i (refA (F.heap (cs.drop F.na)) x) (by simp [Hq.args,hi])
  exact okX_ref (okX_of h2)
 have hheap: ∀c∈cs.drop F.na,fineX c:=by
  have hg:getAll ⟨[],F.heap (cs.drop F.na)⟩ (F.hk.map (·.1))=cs.drop F.na:=hget'
  rw[←hg]
  have key: ∀(l:List (Key×Kd)),(l.all fun k=>match k.1 with
    | .h _ _=>true
    |_=>false)=true→ ∀c∈getAll ⟨[],F.heap (cs.drop F.na)⟩ (l.map (·.1)),fineX c:=by
   intro l
   induction l with
   |nil=>intro _ c hc;simp [getAll]at hc
   |cons k l ih=>
    intro hl c hc
    simp only[List.all_cons,Bool.and_eq_true]at hl
    simp only[List.map_cons,getAll,List.mem_cons]at hc
    rcases hc with rfl|hc
    ·obtain⟨k1,k2⟩:=k
     cases k1 with
     |h b o=>exact fineX_heap hs b o
     |_=>cases hl.1
    ·exact ih hl.2 c hc
  exact key F.hk hk
 have hfb:fineBX (F.sh.flatMap Sh.bs) cs:=by
  have h1:=putSh_bd F.sh (cs.take F.na) n1 hargs
  have h2:fineBX [] (cs.drop F.na):=by
   have:=fineBX_all (n:=0) hheap
   exact this
  have hl:=nrmL_length n1
  have hbl:(F.sh.flatMap Sh.bs).length=(cs.take F.na).length:=by
   have hb: ∀sh:List Sh,(sh.flatMap Sh.bs).length=(sh.flatMap Sh.kd).length:=by
    intro sh
    induction sh with
    |nil=>rfl
    |cons s r ih=>
     simp only[List.flatMap_cons,List.length_append,ih]
     congr 1
     cases s<;>simp [Sh.bs,Sh.kd]
   rw[hb];exact hl.symm
  have:=fineBX_app hbl h1 h2
  rwa [List.append_nil,List.take_append_drop]at this
 have hcall:=Cur.aph_ok ea hcs hfb h
 rw[List.nil_append]at hcall
 have hcall2:HCall P f (F.args cs) (F.heap (cs.drop F.na)) a.down.rs a.down.H:=by
  unfold preO at hpre
  cases hp:a.down.pre with
  |none=>rw[hp]at hcall;exact hcall
  |some q=>rw[hp]at hcall hpre;exact hcall hpre
 exact hcall2 S ι' w vs (by rw[←hlen];exact hS) (hvl.trans hal) hs
end Go.Vc
