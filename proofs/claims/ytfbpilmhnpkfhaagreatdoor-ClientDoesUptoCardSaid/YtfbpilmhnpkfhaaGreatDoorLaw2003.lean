/-
  rostrum/rostrumlaw.ClientDoes: answers as the document does, where all that comes in is of bulk at most 1048576. The row lists what client.nothing holds; the card ties it.
-/
import Derived.Test.YtfbpilmhnpkfhaaGreatDoorRows
import Derived.Test.YtfbpilmhnpkfhaaGreatDoorHead
import Derived.Test.YtfbpilmhnpkfhaaGreatDoorWd
import Derived.Test.YtfbpilmhnpkfhaaGreatDoorGE
import Derived.ProofKit
import Derived.Deep.DeepHandedRow
import Derived.Lib.LaidTab
import Derived.Test.YtfbpilmhnpkfhaaGreatDoorCards
import Derived.Test.YtfbpilmhnpkfhaaGreatDoorTie
set_option linter.all false
namespace Go.Proofs.YtfbpilmhnpkfhaaGreatDoor
open Go Go.Vc Go.RowKit Go.ChangeShapes Go.WideShapes Go.ChangeAt
set_option maxRecDepth 100000
theorem gNoth:Tryz.prog.globalNamed "rostrum/client.nothing" =some 0:=by kernel_rfl
theorem gNothT:(Tryz.prog.globals[0]?).map (·.type)=some 29:=by kernel_rfl
theorem nothing_cells{W:World}(h:laidMetH Tryz.prog [("rostrum/client.nothing",Rows.laid_rostrum_client_nothing)] W):W.var? Tryz.prog "rostrum/client.nothing" =some #[.int .i64 22,.string ⟨#[]⟩,.string ⟨#[]⟩,.string ⟨#[]⟩,.int .i64 0]:=by
 have h:laidMet Tryz.prog [("rostrum/client.nothing",Rows.laid_rostrum_client_nothing)] W:=h
 obtain⟨ps,⟨g',t',cs,fuel,p,q,hg',ht',hvar,hd,_,_⟩,_⟩:=h
 obtain rfl:=Option.some.inj (gNoth.symm.trans hg')
 obtain rfl:=Option.some.inj (gNothT.symm.trans ht')
 obtain⟨xs,m,_,hx,hlen,hxl,hat⟩:=DataW.trod_struct Tryz.underlying29 hd
 have hx1:=congrArg Prod.fst hx
 simp only[Rows.laid_rostrum_client_nothing,DataW.agg.injEq]at hx1
 have hc:Tryz.prog.cellsOf 29=5:=by kernel_rfl
 rw[hc]at hlen
 have key: ∀(i:Nat) (f:Field) (x:DataW Unit),(Tryz.prog.underlying 29).map (fun d=>match d with| .struct fs=>fs[i]? |_=>none)=some (some f)→(xs.map (·.1))[i]? =some x→ ∃y,DataW.trod (fun _=>()) Tryz.prog W 0 (fun _=>true) false m f.type ((cs.toList.drop f.offset).take (Tryz.prog.cellsOf f.type))=some y∧y.1=x:=by
  intro i f x hf hx
  rw[Tryz.underlying29]at hf
  have hf:=Option.some.inj hf
  have:=hat i f hf
  rw[List.getElem?_map,Option.map_eq_some_iff]at hx
  obtain⟨y,hy,rfl⟩:=hx
  exact⟨y,this.trans hy,rfl⟩
 have c1:Tryz.prog.cellsOf 3=1:=by kernel_rfl
 have c2:Tryz.prog.cellsOf 9=1:=by kernel_rfl
 have int: ∀(i:Nat) (f:Field) (n:Int),f.type=3→f.offset=i→(Tryz.prog.underlying 29).map (fun d=>match d with| .struct fs=>fs[i]? |_=>none)=some (some f)→(xs.map (·.1))[i]? =some (.lit (.int .i64 n))→cs.toList[i]? =some (.int .i64 n):=by
  intro i f n e1 e2 hf hx
  obtain⟨y,hy,hyx⟩:=key i f _ hf hx
  rw[e1,e2,c1]at hy
  obtain⟨z,hz,rfl,_⟩:=DataW.trod_int (show Tryz.prog.underlying 3=some (.int .i64) by kernel_rfl) hy
  simp only[DataW.lit.injEq,Lit.int.injEq,true_and]at hyx
  subst hyx
  have:=congrArg (·[0]?) hz
  simpa[List.getElem?_take,List.getElem?_drop]using this
 have str: ∀(i:Nat) (f:Field),f.type=9→f.offset=i→(Tryz.prog.underlying 29).map (fun d=>match d with| .struct fs=>fs[i]? |_=>none)=some (some f)→(xs.map (·.1))[i]? =some (.lit (.string []))→cs.toList[i]? =some (.string ⟨#[]⟩):=by
  intro i f e1 e2 hf hx
  obtain⟨y,hy,hyx⟩:=key i f _ hf hx
  rw[e1,e2,c2]at hy
  obtain⟨z,hz,rfl,_⟩:=DataW.trod_string (show Tryz.prog.underlying 9=some .string by kernel_rfl) hy
  simp only[DataW.lit.injEq,Lit.string.injEq]at hyx
  have hz0:z=⟨#[]⟩:=by
   obtain⟨⟨l⟩⟩:=z
   simp only at hyx
   subst hyx;rfl
  subst hz0
  have:=congrArg (·[0]?) hz
  simpa[List.getElem?_take,List.getElem?_drop]using this
 have x0:=int 0 _ 22 rfl rfl (by rw[Tryz.underlying29];rfl) (by rw[←hx1];rfl)
 have x1:=str 1 _ rfl rfl (by rw[Tryz.underlying29];rfl) (by rw[←hx1];rfl)
 have x2:=str 2 _ rfl rfl (by rw[Tryz.underlying29];rfl) (by rw[←hx1];rfl)
 have x3:=str 3 _ rfl rfl (by rw[Tryz.underlying29];rfl) (by rw[←hx1];rfl)
 have x4:=int 4 _ 0 rfl rfl (by rw[Tryz.underlying29];rfl) (by rw[←hx1];rfl)
 rw[hvar]
 obtain⟨l⟩:=cs
 simp only at hlen x0 x1 x2 x3 x4
 match l,hlen with
 |[a,b,c,d,e],_=>
  simp at x0 x1 x2 x3 x4
  subst x0 x1 x2 x3 x4;rfl
theorem nothing_fok{W:World}(h:laidMetH Tryz.prog [("rostrum/client.nothing",Rows.laid_rostrum_client_nothing)] W):FOk W (fun y=>y<W.heap.size):=by
 have hv:=nothing_cells h
 refine⟨fun _ h=>h,fun g=> ?_⟩
 cases g with
 |succ g=>exact .inl rfl
 |zero=>
  refine .inr ?_
  have hc:=fun i=>World.var?_cell gNoth hv i
  have hlt:0<W.heap.size:=by
   have h0:=hc 0
   rcases Nat.eq_zero_or_pos W.heap.size with e|e
   ·have:W.heap[0]? =none:=Array.getElem?_eq_none (by omega)
    unfold World.var? at hv
    rw[gNoth]at hv
    simp only[Option.bind_some,this]at hv
    cases hv
   ·exact e
  refine FRel.ref _ 0 0 (fun j=>([.int .i64 22,.str ⟨#[]⟩,.str ⟨#[]⟩,.str ⟨#[]⟩,.int .i64 0]:List AV).getD j .undef) (fun j=>([.int .i64 22,.string ⟨#[]⟩,.string ⟨#[]⟩,.string ⟨#[]⟩,.int .i64 0]:List Value).getD j undef) hlt ?_ ?_ ?_
  ·intro j hj
   have hj:j<5:=hj
   match j,hj with
   |0,_=>rfl
   |1,_=>rfl
   |2,_=>rfl
   |3,_=>rfl
   |4,_=>rfl
  ·intro j hj
   have hj:j<5:=hj
   rw[Nat.zero_add,hc j]
   match j,hj with
   |0,_=>rfl
   |1,_=>rfl
   |2,_=>rfl
   |3,_=>rfl
   |4,_=>rfl
  ·intro j hj
   have hj:j<5:=hj
   match j,hj with
   |0,_=>exact .int _ _
   |1,_=>exact .str _ (Nat.zero_le _)
   |2,_=>exact .str _ (Nat.zero_le _)
   |3,_=>exact .str _ (Nat.zero_le _)
   |4,_=>exact .int _ _
theorem pure2003:shArgs Tryz.prog 1048576 12 [27,3,31] fun xs=>PureCall Tryz.prog 3 xs (.bool true):=by
 refine Eq.mpr (β:= ∀x0:Int,(Lit.int .i64 x0).wf=true→ ∀(m1:Nat) (f1:Nat→List AV),m1≤1048576→(∀i,m1≤i→f1 i=[.str ⟨#[]⟩,.int .i64 0,.str ⟨#[]⟩,.int .i64 0,.arr 2 0 fun _=>[.str ⟨#[]⟩,.str ⟨#[]⟩],.arr 1 0 fun _=>[.str ⟨#[]⟩],.arr 2 0 fun _=>[.str ⟨#[]⟩,.int .i64 0],.int .i64 0])→(∀i,i<m1→ ∀K:List AV→Prop,(∀x0:ByteArray,x0.size≤1048576→ ∀x1:Int,(Lit.int .i64 x1).wf=true→ ∀x2:ByteArray,x2.size≤1048576→ ∀x3:Int,(Lit.int .i64 x3).wf=true→ ∀(m4:Nat) (f4:Nat→List AV),m4≤1048576→(∀i,m4≤i→f4 i=[.str ⟨#[]⟩,.str ⟨#[]⟩])→(∀i,i<m4→ ∀K:List AV→Prop,(∀x0:ByteArray,x0.size≤1048576→ ∀x1:ByteArray,x1.size≤1048576→K [.str x0,.str x1])→K (f4 i))→ ∀(m5:Nat) (f5:Nat→List AV),m5≤1048576→(∀i,m5≤i→f5 i=[.str ⟨#[]⟩])→(∀i,i<m5→ ∀K:List AV→Prop,(∀x0:ByteArray,x0.size≤1048576→K [.str x0])→K (f5 i))→ ∀(m6:Nat) (f6:Nat→List AV),m6≤1048576→(∀i,m6≤i→f6 i=[.str ⟨#[]⟩,.int .i64 0])→(∀i,i<m6→ ∀K:List AV→Prop,(∀x0:ByteArray,x0.size≤1048576→ ∀x1:Int,(Lit.int .i64 x1).wf=true→K [.str x0,.int .i64 x1])→K (f6 i))→ ∀x7:Int,(Lit.int .i64 x7).wf=true→K [.str x0,.int .i64 x1,.str x2,.int .i64 x3,.arr 2 m4 f4,.arr 1 m5 f5,.arr 2 m6 f6,.int .i64 x7])→K (f1 i))→ ∀x2:Int,(Lit.int .i64 x2).wf=true→ ∀(m3:Nat) (f3:Nat→List AV),m3≤1048576→(∀i,m3≤i→f3 i=[.int .i64 0,.int .i64 0,.int .i64 0,.int .i64 0,.str ⟨#[]⟩,.int .i64 0,.arr 1 0 fun _=>[.str ⟨#[]⟩]])→(∀i,i<m3→ ∀K:List AV→Prop,(∀x0:Int,(Lit.int .i64 x0).wf=true→ ∀x1:Int,(Lit.int .i64 x1).wf=true→ ∀x2:Int,(Lit.int .i64 x2).wf=true→ ∀x3:Int,(Lit.int .i64 x3).wf=true→ ∀x4:ByteArray,x4.size≤1048576→ ∀x5:Int,(Lit.int .i64 x5).wf=true→ ∀(m6:Nat) (f6:Nat→List AV),m6≤1048576→(∀i,m6≤i→f6 i=[.str ⟨#[]⟩])→(∀i,i<m6→ ∀K:List AV→Prop,(∀x0:ByteArray,x0.size≤1048576→K [.str x0])→K (f6 i))→K [.int .i64 x0,.int .i64 x1,.int .i64 x2,.int .i64 x3,.str x4,.int .i64 x5,.arr 1 m6 f6])→K (f3 i))→ ∀x4:Int,(Lit.int .i64 x4).wf=true→ ∀x5:Int,(Lit.int .i64 x5).wf=true→ ∀x6:Int,(Lit.int .i64 x6).wf=true→ ∀x7:Int,(Lit.int .i64 x7).wf=true→ ∀x8:ByteArray,x8.size≤1048576→ ∀x9:ByteArray,x9.size≤1048576→ ∀x10:ByteArray,x10.size≤1048576→ ∀x11:Int,(Lit.int .i64 x11).wf=true→PureCall Tryz.prog 3 [.agg [.int .i64 x0,.arr 8 m1 f1,.int .i64 x2,.arr 7 m3 f3],.int .i64 x4,.agg [.int .i64 x5,.int .i64 x6,.int .i64 x7,.str x8,.str x9,.str x10,.int .i64 x11]] (.bool true)) (by kernel_rfl) ?_
 intro x0 r0 m1 f1 hm1 hd1 he1 x2 r2 m3 f3 hm3 hd3 he3 x4 r4 x5 r5 x6 r6 x7 r7 x8 r8 x9 r9 x10 r10 x11 r11
 have w0:=wf64 r0
 have w2:=wf64 r2
 have w4:=wf64 r4
 have w5:=wf64 r5
 have w6:=wf64 r6
 have w7:=wf64 r7
 have w11:=wf64 r11
 have q1: ∀i,i<m1→f1 i=e175 (d175 (f1 i))∧W175 (d175 (f1 i)):=fun i hi=>he1 i hi (fun l=>l=e175 (d175 l)∧W175 (d175 l)) (fun _ _ _ _ _ _ _ _ m_1 f_1 h_1 d_1 e_1 m_2 f_2 h_2 d_2 e_2 m_3 f_3 h_3 d_3 e_3 _ _=>⟨(Go.Vc.c2 rfl (Go.Vc.c2 rfl (Go.Vc.c2 rfl (Go.Vc.c2 rfl (Go.Vc.c2 (nest (e:=e160) (d:=d160) (fun i hi=>by rw[d_1 i hi];rfl) (fun i hi=>e_1 i hi (fun l=>l=e160 (d160 l)) (fun _ _ _ _=>rfl))) (Go.Vc.c2 (nest (e:=e9) (d:=d9) (fun i hi=>by rw[d_2 i hi];rfl) (fun i hi=>e_2 i hi (fun l=>l=e9 (d9 l)) (fun _ _=>rfl))) (Go.Vc.c2 (nest (e:=e164) (d:=d164) (fun i hi=>by rw[d_3 i hi];rfl) (fun i hi=>e_3 i hi (fun l=>l=e164 (d164 l)) (fun _ _ _ _=>rfl))) (Go.Vc.c2 rfl rfl)))))))),⟨⟨(fun i hi=>by show d160 (f_1 i)=default;rw[d_1 i hi];rfl),h_1⟩,⟨(fun i hi=>by show d9 (f_2 i)=default;rw[d_2 i hi];rfl),h_2⟩,⟨(fun i hi=>by show d164 (f_3 i)=default;rw[d_3 i hi];rfl),h_3⟩⟩⟩)
 have e1: ∀i,i<m1→f1 i=e175 (d175 (f1 i)):=fun i hi=>(q1 i hi).1
 have c1:Canon (toSl d175 (.arr 8 m1 f1)):=fun i hi=>by
  show d175 (f1 i)=default
  rw[hd1 i hi];rfl
 have q3: ∀i,i<m3→f3 i=e137 (d137 (f3 i))∧W137 (d137 (f3 i)):=fun i hi=>he3 i hi (fun l=>l=e137 (d137 l)∧W137 (d137 l)) (fun _ _ _ _ _ _ _ _ _ _ _ _ m_4 f_4 h_4 d_4 e_4=>⟨(Go.Vc.c2 rfl (Go.Vc.c2 rfl (Go.Vc.c2 rfl (Go.Vc.c2 rfl (Go.Vc.c2 rfl (Go.Vc.c2 rfl (Go.Vc.c2 (nest (e:=e9) (d:=d9) (fun i hi=>by rw[d_4 i hi];rfl) (fun i hi=>e_4 i hi (fun l=>l=e9 (d9 l)) (fun _ _=>rfl))) rfl))))))),⟨(fun i hi=>by show d9 (f_4 i)=default;rw[d_4 i hi];rfl),h_4⟩⟩)
 have e3: ∀i,i<m3→f3 i=e137 (d137 (f3 i)):=fun i hi=>(q3 i hi).1
 have c3:Canon (toSl d137 (.arr 7 m3 f3)):=fun i hi=>by
  show d137 (f3 i)=default
  rw[hd3 i hi];rfl
 have h0:PureCall Tryz.prog 3 [.agg [.int .i64 x0,ofSl 8 e175 (toSl d175 (.arr 8 m1 f1)),.int .i64 x2,ofSl 7 e137 (toSl d137 (.arr 7 m3 f3))],.int .i64 x4,.agg [.int .i64 x5,.int .i64 x6,.int .i64 x7,.str x8,.str x9,.str x10,.int .i64 x11]] (.bool (g2003 x0 (toSl d175 (.arr 8 m1 f1)) x2 (toSl d137 (.arr 7 m3 f3)) x4 x5 x6 x7 x8 x9 x10 x11)):=PureCall.fine fun hf=>pc2003 x0 (toSl d175 (.arr 8 m1 f1)) (by show _≤_;simp only[toSl];omega) hf.1.2.1 x2 (toSl d137 (.arr 7 m3 f3)) (by show _≤_;simp only[toSl];omega) hf.1.2.2.2.1 x4 x5 x6 x7 x8 (by omega) x9 (by omega) x10 (by omega) x11 ⟨⟨c1,hm1,(fun i hi=>(q1 i hi).2)⟩,⟨c3,hm3,(fun i hi=>(q3 i hi).2)⟩⟩
 have h:=h0.weak (l1 (aG (l1 cI (l1 (slLe rfl e1) (l1 cI (l1 (slLe rfl e3) l0))))) (l1 aI (l1 (aG (l1 cI (l1 cI (l1 cI (l1 cS (l1 cS (l1 cS (l1 cI l0)))))))) l0)))
 rw[law2003 x0 (toSl d175 (.arr 8 m1 f1)) x2 (toSl d137 (.arr 7 m3 f3)) x4 x5 x6 x7 x8 x9 x10 x11 (wf64 r0) c1 hm1 (fun i hi=>(q1 i hi).2) (wf64 r2) c3 hm3 (fun i hi=>(q3 i hi).2) (wf64 r4) (wf64 r5) (wf64 r6) (wf64 r7) r8 r9 r10 (wf64 r11)]at h
 exact h
noncomputable def laidWorld(os:Os):World:=
 {World.holding Tryz.prog os ⟨#[],#[],[]⟩with heap:=(World.holding Tryz.prog os ⟨#[],#[],[]⟩).heap.modify 0 fun
   | .cells _ t frozen=> .cells #[.int .i64 22,.string ⟨#[]⟩,.string ⟨#[]⟩,.string ⟨#[]⟩,.int .i64 0] t frozen
   |o=>o}
theorem laid_met(os:Os):laidMet Tryz.prog Rows.clientDoesUptoRow.laid ((laidWorld os).forCall (fun _ _=>0) ⟨#[],#[.agg #[.int .i64 0,.slice none 0 0,.int .i64 0,.slice none 0 0],.int .i64 0,.agg #[.int .i64 0,.int .i64 0,.int .i64 0,.string ⟨#[]⟩,.string ⟨#[]⟩,.string ⟨#[]⟩,.int .i64 0]],[]⟩).memory:=
 laidMet_of_run' 8 (by kernel_rfl) (by kernel_rfl)
theorem law_reads(os:Os){H:Type}(enc:TypeId×Value→H): ∃places,DataW.whole enc Tryz.prog ((laidWorld os).forCall (fun _ _=>0) ⟨#[],#[.agg #[.int .i64 0,.slice none 0 0,.int .i64 0,.slice none 0 0],.int .i64 0,.agg #[.int .i64 0,.int .i64 0,.int .i64 0,.string ⟨#[]⟩,.string ⟨#[]⟩,.string ⟨#[]⟩,.int .i64 0]],[]⟩).memory Tryz.f3.params.toList Rows.clientDoesSpec.vars false (#[.agg #[.int .i64 0,.slice none 0 0,.int .i64 0,.slice none 0 0],.int .i64 0,.agg #[.int .i64 0,.int .i64 0,.int .i64 0,.string ⟨#[]⟩,.string ⟨#[]⟩,.string ⟨#[]⟩,.int .i64 0]]:Array Value).toList 8=some ([.agg [.agg [.lit (.int .i64 0),.nil],.lit (.int .i64 0),.nil],.lit (.int .i64 0),.agg [.lit (.int .i64 0),.lit (.int .i64 0),.agg [.lit (.int .i64 0),.lit (.string []),.lit (.string []),.lit (.string []),.lit (.int .i64 0)]]],[],places):=
 ⟨[],by kernel_rfl⟩
theorem clientDoes_lifted(os:Os)(started:os.Started)(H:Type)(enc:TypeId×Value→H)(F:Stop.Interp):
  ReturnsInHanded {} Tryz.checked os 3 .any ((Rows.OpenSpec.upto Rows.clientDoesSpec).preRow enc Tryz.prog Tryz.f3 Rows.clientDoesUptoRow.domain false Rows.clientDoesUptoRow.laid) (((Rows.OpenSpec.upto Rows.clientDoesSpec).at F).post enc Tryz.prog Tryz.f3 false true false false):=by
 obtain⟨places,hx⟩:=law_reads os enc
 refine returnsInHanded_of_row (C:=Tryz.checked) (s:=Rows.OpenSpec.upto Rows.clientDoesSpec) Tryz.own started (by kernel_rfl) Tryz.func3
  (witness_row_at (enc:=enc) (C:=Tryz.checked) false (laidWorld os) #[.agg #[.int .i64 0,.slice none 0 0,.int .i64 0,.slice none 0 0],.int .i64 0,.agg #[.int .i64 0,.int .i64 0,.int .i64 0,.string ⟨#[]⟩,.string ⟨#[]⟩,.string ⟨#[]⟩,.int .i64 0]] rfl (by kernel_rfl) (by kernel_rfl) (by kernel_rfl)
   (OpenSpec.preRow_of_cond 8 hx (by kernel_rfl) (fun k hk=>by cases hk;kernel_rfl) (by kernel_rfl) (laid_met os))) ?_
 intro W base args ds gs before hval hW _ hcond _ hL _ _
 exact law_contract (P:=Tryz.prog) (fn:=Tryz.f3) (s:=Rows.clientDoesSpec) (n:=12) (B:=1048576) (bulk:=Rows.uptoBulk) (tb:=4) (ts:=[27,3,31]) (by decide) (bulk_ok H) rfl jf2 (by kernel_rfl) (by kernel_rfl) rfl (by kernel_rfl) rfl (fun ds h=>by
  match ds,h with
  |[d1,d2,d3],_=>rfl) pure2003 W base args ds gs before hval hW (fun d hd=>bulk_small (hcond _ rfl) d (by simp [hd])) (nothing_fok hL)
theorem joined2003:joinedFacts Tryz.prog 3 Tryz.f3 Rows.clientDoesSpec Rows.clientDoesUptoRow=true:=
 joined_of (by kernel_rfl) jf2 jf3 (by kernel_rfl) (by kernel_rfl) rfl jf7 rfl jf9 (by kernel_rfl) (by kernel_rfl) (by kernel_rfl) (by kernel_rfl) (by kernel_rfl) (by kernel_rfl) (by kernel_rfl) (by kernel_rfl) (by kernel_rfl)
  (by kernel_rfl) (by kernel_rfl) (by kernel_rfl) (by kernel_rfl) (by rw[jf23];rfl) rfl jf25 jf26 (by rw[jf27];rfl) (by rw[jf28];rfl) (by kernel_rfl) (by kernel_rfl) (by kernel_rfl) (by kernel_rfl)
theorem clientDoes_said:Rows.ClientDoesUptoSaid:=
 OpenClaim.holds_of_cond 3 Tryz.f3 rfl rfl rfl rfl rfl rfl rfl ⟨rfl,rfl,rfl,rfl,rfl⟩ rfl rfl rfl rfl rfl (by kernel_rfl) Tryz.func3 joined2003
  (of_decide_eq_true (by kernel_rfl)) (by unfold Func.isWrapper;first|(rw[if_pos (by decide+kernel)];kernel_rfl)|(rw[if_neg (by decide+kernel)];exact⟨rfl,rfl⟩))
  (fun os started H enc _ F=>by rw[OpenClaim.pre_eq_preRow];exact clientDoes_lifted os started H enc F)
theorem law_plain(f:FuncId)(fn:Func)(hf:Tryz.pinned.checked.prog.funcNamed "rostrum/rostrumlaw.ClientDoes" =some f)(hfn:Tryz.pinned.checked.prog.funcs[f]? =some fn):
  false=Tryz.pinned.checked.prog.looks []∧ ∀(j:Nat) t,fn.params[j]? =some t→Tryz.pinned.checked.prog.wantsStandIn t=false:=by
 obtain rfl:f=3:=Option.some.inj ((show Tryz.prog.funcNamed "rostrum/rostrumlaw.ClientDoes" =some 3 by kernel_rfl).symm.trans hf)|>.symm
 obtain rfl:fn=Tryz.f3:=(Option.some.inj (Tryz.func3.symm.trans hfn)).symm
 refine⟨by kernel_rfl,fun j t ht=> ?_⟩
 have hm:t∈Tryz.f3.params.toList:=by have:=Array.mem_of_getElem? ht;simpa using this
 have hm:t∈([27,3,31]:List Nat):=hm
 simp only[List.mem_cons,List.not_mem_nil,or_false]at hm
 rcases hm with rfl|rfl|rfl
 ·exact(show Tryz.prog.wantsStandIn 27=false by kernel_rfl)
 ·exact(show Tryz.prog.wantsStandIn 3=false by kernel_rfl)
 ·exact(show Tryz.prog.wantsStandIn 31=false by kernel_rfl)
theorem clientDoes_holds:Rows.ClientDoesUptoCardSaid:=
 Claim7.holds_tied_plain_at .later [] _ _ _ _ clientDoes_said (fun _ h=>by cases h) (by kernel_rfl) (fun _ h=>by cases h) clientDoesUpto_row_tie rfl ⟨rfl,rfl⟩ (by kernel_rfl) rfl law_plain (by kernel_rfl)
end Go.Proofs.YtfbpilmhnpkfhaaGreatDoor
