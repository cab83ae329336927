/- rostrum/rostrumtop.TopQuiet: it answers true, as the document says, for every input whose bulk is at most 1048576; the card ties what client.nothing holds. -/
import Derived.Test.YtfmgjpcmcjjoiaaGreatDoorXc
import Derived.Test.YtfmgjpcmcjjoiaaGreatDoorYf
import Derived.Deep.DeepHandedRow
import Derived.Lib.LaidTab
import Derived.Test.YtfmgjpcmcjjoiaaGreatDoorCards
import Derived.Test.YtfmgjpcmcjjoiaaGreatDoorTie
open Go.IntKind (i64 u64 u8)
open Int (toNat)
set_option maxRecDepth 100000
set_option maxHeartbeats 4000000
set_option linter.all false
noncomputable section
namespace Go.Proofs.YtfmgjpcmcjjoiaaGreatDoor
open Go Go.RowKit Go.Vc
def afI(x0:Sl jg)(x1:Int):Bool:=(bif(yz (gY x0 80))then(bif(yz (m_ (gY x0 80) (Sl.lit ([(⟨7,0,(bd x1 300),0,0,0,⟨#[]⟩,⟨#[]⟩,⟨#[]⟩,0⟩:aK)]:List aK))))then(bif((Cu (m_ (gY x0 80) (Sl.lit ([(⟨7,0,(bd x1 300),0,0,0,⟨#[]⟩,⟨#[]⟩,⟨#[]⟩,0⟩:aK)]:List aK))))==(imax (i64.wrap ((Cu (gY x0 80))-1)) 0))then(bif true then(((L5 (gY x0 80)).n:Int)==((L5 (m_ (gY x0 80) (Sl.lit ([(⟨7,0,(bd x1 300),0,0,0,⟨#[]⟩,⟨#[]⟩,⟨#[]⟩,0⟩:aK)]:List aK)))).n:Int))else false)else false)else false)else false)
def L4(x0:Sl jg)(x1:Int):Bool:=(afI x0 x1)
def amJ:Fq:=⟨[.v (.sl PH),.v kI],fun x0 (x1:Int)=>⟨⟨some (ve x0∧lV x1),.bool (L4 x0 x1)⟩⟩⟩
theorem azM:Jl 7 amJ:=
 fun x0 n0 _ (x1:Int) hp=>bj ⟨.pure,[.tmp 4],[(.t 0,kB)],⟨[U],[]⟩⟩ (.ai (.ai (.ai (.ai (.j ⟨16,[.b 0,.b 1,.b 2,.b 3,.b 4],[(.t 4,kB)],[],.f⟩ .z .z))))) (let z8:=gY x0 80;let z6:=m_ z8 (Sl.lit ([(⟨7,0,(bd x1 300),0,0,0,⟨#[]⟩,⟨#[]⟩,⟨#[]⟩,0⟩:aK)]:List aK));((0<(300:Int))∧((z8.n:Int)+1≤549755813888))∧((yz z8)=true→((yz z6)=true→(((Cu z6)==(imax (i64.wrap ((Cu z8)-1)) 0))=true→(wV (vO z8) (vO z6)))))) (bU (aH av2 (aH av3 (aH av4 (aH WS (aH av6 aQ)))))) Tryz.func7 (have⟨cn,dv⟩:=hp;⟨⟨(by omega),(by have:=ayk x0 80;omega)⟩,(fun h1=>(fun h2=>(fun h3=>(by have:=eq_of_beq h3;have:=ao7 cn dv;assumption))))⟩)
def aE0(x0:Sl jg)(x1:Int):Bool:=(bif(yz (m_ (gY x0 80) (Sl.lit ([(⟨4,(bd x1 3),0,0,0,0,⟨#[]⟩,⟨#[]⟩,⟨#[]⟩,0⟩:aK)]:List aK))))then(bif(yz (m_ (m_ (gY x0 80) (Sl.lit ([(⟨4,(bd x1 3),0,0,0,0,⟨#[]⟩,⟨#[]⟩,⟨#[]⟩,0⟩:aK)]:List aK))) (Sl.lit ([(⟨4,(bd x1 3),0,0,0,0,⟨#[]⟩,⟨#[]⟩,⟨#[]⟩,0⟩:aK)]:List aK))))then(bif((Cu (m_ (gY x0 80) (Sl.lit ([(⟨4,(bd x1 3),0,0,0,0,⟨#[]⟩,⟨#[]⟩,⟨#[]⟩,0⟩:aK)]:List aK))))==(Cu (m_ (m_ (gY x0 80) (Sl.lit ([(⟨4,(bd x1 3),0,0,0,0,⟨#[]⟩,⟨#[]⟩,⟨#[]⟩,0⟩:aK)]:List aK))) (Sl.lit ([(⟨4,(bd x1 3),0,0,0,0,⟨#[]⟩,⟨#[]⟩,⟨#[]⟩,0⟩:aK)]:List aK)))))then true else false)else false)else false)
def aEO(x0:Sl jg)(x1:Int):Bool:=(aE0 x0 x1)
def aFe:Fq:=⟨[.v (.sl PH),.v kI],fun x0 (x1:Int)=>⟨⟨some (ve x0∧lV x1),.bool (aEO x0 x1)⟩⟩⟩
theorem aFq:Jl 11 aFe:=
 fun x0 n0 _ (x1:Int) hp=>bj ⟨.pure,[.tmp 4],[(.t 0,kB)],⟨[U],[]⟩⟩ (.ai (.ai (.ai (.ai (.ai (.j ⟨16,[.b 0,.b 1,.b 2,.b 3,.b 4,.b 5,.b 6],[(.t 4,kB)],[],.f⟩ .z .z)))))) (let z6:=Sl.lit ([(⟨4,(bd x1 3),0,0,0,0,⟨#[]⟩,⟨#[]⟩,⟨#[]⟩,0⟩:aK)]:List aK);let z8:=m_ (gY x0 80) z6;(0<(3:Int))∧(((((gY x0 80).n:Nat):Int)+1≤549755813888)∧(((z8.n:Int)+1≤549755813888)∧((yz z8)=true→((yz (m_ z8 z6))=true→(((Cu z8)==(Cu (m_ z8 z6)))=true→(wV (vO z8) (vO (m_ z8 z6))))))))) (bU (aH av2 (aH av3 (aH av4 (aH WS (aH av6 aQ)))))) Tryz.func11 (have⟨cn,dv⟩:=hp;⟨(by have:=aEM cn dv;omega),⟨(by have:=aEM cn dv;have:=ayk x0 80;omega),⟨(by have:=aEM cn dv;have:(Sl.lit ([(⟨4,(bd x1 3),0,0,0,0,⟨#[]⟩,⟨#[]⟩,⟨#[]⟩,0⟩:aK)]:List aK)).n=1:=rfl;have:=aE6 (gY x0 80) (Sl.lit ([(⟨4,(bd x1 3),0,0,0,0,⟨#[]⟩,⟨#[]⟩,⟨#[]⟩,0⟩:aK)]:List aK));have:=ayk x0 80;(try simp only[Sl.pz,Sl.nA,Sl.An,Sl.ajf,Sl.aj5,Sl.aBU,Sl.aBY,DN,aC7,aDf]);omega),(fun h1=>(fun h2=>(fun h3=>(by have:=eq_of_beq h3;have:=aEM cn dv;repeat first|assumption|apply ru0|apply rus|apply rud|apply s_|apply ta|apply uW|apply qP|apply wA|apply mM|apply rZ|apply uO|apply uN|apply ss|apply rD|apply rE|apply jt|apply uU|apply xg|apply mi|apply kD|apply oE|apply And.intro))))⟩⟩⟩)
theorem aw2(x0:Sl jg)(x1:Int)(_:Canon x0)(_:x0.n≤1048576)(h:ve x0)(h1:lV x1):L4 x0 x1=true:=by
 obtain⟨hA,hB,hv,ht,ha⟩:=ah4 h h1;have han:=(abt hA).an;unfold L4 afI;rw[ai6 hA,ai6 hB,ai7 hA,ai7 hB,ai8 hA,ai8 hB,ht,ha,aq _];have hm:=NR (((iR (gY x0 80).B).ax.n:Int)-1) 0;have e:(((iR (gY x0 80).B).ax.n-1:Nat):Int)=imax (((iR (gY x0 80).B).ax.n:Int)-1) 0:=by omega
 rw[e];simp
theorem aFo(x0:Sl jg)(x1:Int)(_:Canon x0)(_:x0.n≤1048576)(h:ve x0)(h1:lV x1):aEO x0 x1=true:=by
 obtain⟨hA,hB,hv,ha⟩:=aE9 h h1;unfold aEO aE0;rw[ai6 hA,ai6 hB,ai7 hA,ai7 hB,ha];simp
end Go.Proofs.YtfmgjpcmcjjoiaaGreatDoor
namespace Go.Proofs.YtfmgjpcmcjjoiaaGreatDoor
open Go Go.ChangeAt Go.ChangeShapes Go.RowKit Go.Vc Go.WideShapes
theorem Vn:Tryz.prog.globalNamed "rostrum/client.nothing" =some 0:=by kernel_rfl
theorem ar3:(Tryz.prog.globals[0]?).map (·.type)=some 34:=by kernel_rfl
theorem ayw{W:World}(h:laidMetH Tryz.prog [("rostrum/client.nothing",Rows.laid_rostrum_client_nothing)] W):W.var? Tryz.prog "rostrum/client.nothing" =some #[.int .i64 22,.string ⟨#[]⟩,.string ⟨#[]⟩,.string ⟨#[]⟩,.int .i64 0]:=by
 have h:laidMet Tryz.prog [("rostrum/client.nothing",Rows.laid_rostrum_client_nothing)] W:=h
 obtain⟨ps,⟨g',t',cs,fuel,p,q,hg',Wr,atx,hd,_,_⟩,_⟩:=h;obtain rfl:=aDZ (Vn.symm.trans hg');obtain rfl:=aDZ (ar3.symm.trans Wr);obtain⟨xs,m,_,hx,hlen,hxl,pS⟩:=DataW.trod_struct Tryz.underlying34 hd;have pc:=congrArg Prod.fst hx;simp only[Rows.laid_rostrum_client_nothing,DataW.agg.injEq]at pc;have hc:Tryz.prog.cellsOf 34=5:=by kernel_rfl
 rw[hc]at hlen;have key: ∀(i:Nat) (f:Field) (x:DataW Unit),(Tryz.prog.underlying 34).map (fun d=>match d with| .struct fs=>fs[i]? |_=>none)=some (some f)→(xs.map (·.1))[i]? =some x→ ∃y,DataW.trod (fun _=>()) Tryz.prog W 0 (fun _=>true) false m f.type ((cs.toList.drop f.offset).take (Tryz.prog.cellsOf f.type))=some y∧y.1=x:=by
  intro i f x hf hx;rw[Tryz.underlying34]at hf;have hf:=aDZ hf;have:=pS i f hf;rw[aC4,aDo]at hx;obtain⟨y,hy,rfl⟩:=hx;exact⟨y,this.trans hy,rfl⟩
 have c1:Tryz.prog.cellsOf 3=1:=by kernel_rfl
 have c2:Tryz.prog.cellsOf 9=1:=by kernel_rfl
 have int: ∀(i:Nat) (f:Field) (n:Int),f.type=3→f.offset=i→(Tryz.prog.underlying 34).map (fun d=>match d with| .struct fs=>fs[i]? |_=>none)=some (some f)→(xs.map (·.1))[i]? =some (.lit (.int .i64 n))→cs.toList[i]? =some (.int .i64 n):=by
  intro i f n e1 e2 hf hx;obtain⟨y,hy,wu⟩:=key i f _ hf hx;rw[e1,e2,c1]at hy;obtain⟨z,hz,rfl,_⟩:=DataW.trod_int (show Tryz.prog.underlying 3=some (.int .i64) by kernel_rfl) hy;simp only[DataW.lit.injEq,Lit.int.injEq,true_and]at wu;subst wu;have:=congrArg (·[0]?) hz;simpa[aEv,aDv]using this
 have str: ∀(i:Nat) (f:Field),f.type=9→f.offset=i→(Tryz.prog.underlying 34).map (fun d=>match d with| .struct fs=>fs[i]? |_=>none)=some (some f)→(xs.map (·.1))[i]? =some (.lit (.string []))→cs.toList[i]? =some (.string ⟨#[]⟩):=by
  intro i f e1 e2 hf hx;obtain⟨y,hy,wu⟩:=key i f _ hf hx;rw[e1,e2,c2]at hy;obtain⟨z,hz,rfl,_⟩:=DataW.trod_string (show Tryz.prog.underlying 9=some .string by kernel_rfl) hy;simp only[DataW.lit.injEq,Lit.string.injEq]at wu;have qb:z=⟨#[]⟩:=by
   obtain⟨⟨l⟩⟩:=z;simp only at wu;subst wu;rfl
  subst qb;have:=congrArg (·[0]?) hz;simpa[aEv,aDv]using this
 have x0:=int 0 _ 22 rfl rfl (by rw[Tryz.underlying34];rfl) (by rw[←pc];rfl);have x1:=str 1 _ rfl rfl (by rw[Tryz.underlying34];rfl) (by rw[←pc];rfl);have x2:=str 2 _ rfl rfl (by rw[Tryz.underlying34];rfl) (by rw[←pc];rfl);have x3:=str 3 _ rfl rfl (by rw[Tryz.underlying34];rfl) (by rw[←pc];rfl);have x4:=int 4 _ 0 rfl rfl (by rw[Tryz.underlying34];rfl) (by rw[←pc];rfl);rw[atx];obtain⟨l⟩:=cs;simp only at hlen x0 x1 x2 x3 x4
 match l,hlen with
 |[a,b,c,d,e],_=>
  simp at x0 x1 x2 x3 x4;subst x0 x1 x2 x3 x4;rfl
theorem ayx{W:World}(h:laidMetH Tryz.prog [("rostrum/client.nothing",Rows.laid_rostrum_client_nothing)] W):Ee W (fun y=>y<W.heap.size):=by
 have hv:=ayw h;refine⟨fun _ h=>h,fun g=> ?_⟩
 cases g with
 |succ g=>exact .inl rfl
 |zero=>
  refine .inr ?_;have hc:=fun i=>World.var?_cell Vn hv i;have cI:0<W.heap.size:=by
   have h0:=hc 0;rcases aDW W.heap.size with e|e
   ·have:W.heap[0]? =none:=aEz (by omega);unfold World.var? at hv;rw[Vn]at hv;simp only[Option.bind_some,this]at hv
    cases hv
   ·exact e
  refine aR.ref _ 0 0 (fun j=>([.int .i64 22,.str ⟨#[]⟩,.str ⟨#[]⟩,.str ⟨#[]⟩,.int .i64 0]:List AV).getD j .undef) (fun j=>([.int .i64 22,.string ⟨#[]⟩,.string ⟨#[]⟩,.string ⟨#[]⟩,.int .i64 0]:List Value).getD j undef) cI ?_ ?_ ?_
  ·intro j hj;have hj:j<5:=hj
   match j,hj with
   |0,_=>rfl
   |1,_=>rfl
   |2,_=>rfl
   |3,_=>rfl
   |4,_=>rfl
  ·intro j hj;have hj:j<5:=hj;rw[aCO,hc j]
   match j,hj with
   |0,_=>rfl
   |1,_=>rfl
   |2,_=>rfl
   |3,_=>rfl
   |4,_=>rfl
  ·intro j hj;have hj:j<5:=hj
   match j,hj with
   |0,_=>exact .int _ _
   |1,_=>exact .str _ (aCQ _)
   |2,_=>exact .str _ (aCQ _)
   |3,_=>exact .str _ (aCQ _)
   |4,_=>exact .int _ _
theorem aFs:Pj Tryz.prog 1048576 12 [22,3] fun xs=>fk Tryz.prog 11 xs (.bool true):=by
 refine Eq.mpr (β:= ∀(m0:Nat) (f0:Nat→List AV),m0≤1048576→(∀i,m0≤i→f0 i=[.int .i64 0,.int .i64 0,.int .i64 0,.int .i64 0,.int .i64 0,.int .i64 0,.int .i64 0,.str ⟨#[]⟩])→(∀i,i<m0→ ∀K:List AV→Prop,(∀x0:Int,(Lit.int .i64 x0).wf=true→ ∀x1:Int,(Lit.int .i64 x1).wf=true→ ∀x2:Int,(Lit.int .i64 x2).wf=true→ ∀x3:Int,(Lit.int .i64 x3).wf=true→ ∀x4:Int,(Lit.int .i64 x4).wf=true→ ∀x5:Int,(Lit.int .i64 x5).wf=true→ ∀x6:Int,(Lit.int .i64 x6).wf=true→ ∀x7:ByteArray,x7.size≤1048576→K [.int .i64 x0,.int .i64 x1,.int .i64 x2,.int .i64 x3,.int .i64 x4,.int .i64 x5,.int .i64 x6,.str x7])→K (f0 i))→ ∀x1:Int,(Lit.int .i64 x1).wf=true→fk Tryz.prog 11 [.arr 8 m0 f0,.int .i64 x1] (.bool true)) (by kernel_rfl) ?_;intro m0 f0 HN hd0 M6 x1 r1;have w1:=AB r1;have q0: ∀i,i<m0→f0 i=A9 (nM (f0 i)):=fun i hi=>M6 i hi (fun l=>l=A9 (nM l)) (fun _ _ _ _ _ _ _ _ _ _ _ _ _ _ _ _=>rfl);have e0: ∀i,i<m0→f0 i=A9 (nM (f0 i)):=fun i hi=>q0 i hi;have c0:Canon (ja nM (.arr 8 m0 f0)):=fun i hi=>by
  show nM (f0 i)=default;rw[hd0 i hi];rfl
 have z0:ve (ja nM (.arr 8 m0 f0)):=⟨(by show m0≤_;omega),fun j hj=>by
  exact M6 j hj (fun l=>Qu (nM l)) (fun x0 r0 x1 r1 x2 r2 x3 r3 x4 r4 x5 r5 x6 r6 x7 r7=>⟨AB r0,AB r1,AB r2,AB r3,AB r6⟩)⟩
 have h0:fk Tryz.prog 11 [aL 8 A9 (ja nM (.arr 8 m0 f0)),.int .i64 x1] (.bool (aEO (ja nM (.arr 8 m0 f0)) x1)):=fk.nO fun hf=>aFq (ja nM (.arr 8 m0 f0)) (by show _≤_;simp only[ja];omega) hf.1 x1 ⟨z0,w1⟩;have h:=h0.aj9 (l1 (aAC rfl e0) (l1 aI l0));rw[aFo (ja nM (.arr 8 m0 f0)) x1 c0 HN z0 (AB r1)]at h;exact h
def Xq(os:Os):World:=
 {World.holding Tryz.prog os ⟨#[],#[],[]⟩with heap:=(World.holding Tryz.prog os ⟨#[],#[],[]⟩).heap.modify 0 fun
   | .cells _ t frozen=> .cells #[.int .i64 22,.string ⟨#[]⟩,.string ⟨#[]⟩,.string ⟨#[]⟩,.int .i64 0] t frozen
   |o=>o}
theorem aw1(os:Os):laidMet Tryz.prog Rows.topQuietUptoRow.laid ((Xq os).forCall (fun _ _=>0) ⟨#[],#[.slice none 0 0,.int .i64 0],[]⟩).memory:=
 laidMet_of_run' 8 (by kernel_rfl) (by kernel_rfl)
theorem aw5(os:Os){H:Type}(enc:TypeId×Value→H): ∃places,DataW.whole enc Tryz.prog ((Xq os).forCall (fun _ _=>0) ⟨#[],#[.slice none 0 0,.int .i64 0],[]⟩).memory Tryz.f11.params.toList Rows.topQuietSpec.vars false (#[.slice none 0 0,.int .i64 0]:Array Value).toList 8=some ([.nil,.lit (.int .i64 0)],[],places):=
 ⟨[],by kernel_rfl⟩
theorem aFD(os:Os)(started:os.Started)(H:Type)(enc:TypeId×Value→H)(F:Stop.Interp):
  ReturnsInHanded {} Tryz.checked os 11 .any ((Rows.OpenSpec.upto Rows.topQuietSpec).preRow enc Tryz.prog Tryz.f11 Rows.topQuietUptoRow.domain false Rows.topQuietUptoRow.laid) (((Rows.OpenSpec.upto Rows.topQuietSpec).at F).post enc Tryz.prog Tryz.f11 false true false false):=by
 obtain⟨places,hx⟩:=aw5 os enc;refine returnsInHanded_of_row (C:=Tryz.checked) (s:=Rows.OpenSpec.upto Rows.topQuietSpec) Tryz.own started (by kernel_rfl) Tryz.func11
  (witness_row_at (enc:=enc) (C:=Tryz.checked) false (Xq os) #[.slice none 0 0,.int .i64 0] rfl (by kernel_rfl) (by kernel_rfl) (by kernel_rfl)
   (OpenSpec.preRow_of_cond 8 hx (by kernel_rfl) (fun k hk=>by cases hk;kernel_rfl) (by kernel_rfl) (aw1 os))) ?_
 intro W base args ds gs before nt hW _ M3 _ hL _ _;exact aw3 (P:=Tryz.prog) (fn:=Tryz.f11) (s:=Rows.topQuietSpec) (n:=12) (B:=1048576) (jN:=Rows.uptoBulk) (tb:=4) (ts:=[22,3]) (by decide) (anX H) rfl jf2 (by kernel_rfl) (by kernel_rfl) rfl (by kernel_rfl) rfl (fun ds h=>by
  match ds,h with
  |[d1,d2],_=>rfl) aFs W base args ds gs before nt hW (fun d hd=>anZ (M3 _ rfl) d (by simp [hd])) (ayx hL)
theorem aFm:joinedFacts Tryz.prog 11 Tryz.f11 Rows.topQuietSpec Rows.topQuietUptoRow=true:=
 aug (by kernel_rfl) jf2 jf3 (by kernel_rfl) (by kernel_rfl) rfl jf7 rfl jf9 (by kernel_rfl) (by kernel_rfl) (by kernel_rfl) (by kernel_rfl) (by kernel_rfl) (by kernel_rfl) (by kernel_rfl) (by kernel_rfl) (by kernel_rfl)
  (by kernel_rfl) (by kernel_rfl) (by kernel_rfl) (by kernel_rfl) (by rw[aua];rfl) rfl aub auc (by rw[aud];rfl) (by rw[aue];rfl) (by kernel_rfl) (by kernel_rfl) (by kernel_rfl) (by kernel_rfl)
theorem aFE:Rows.TopQuietUptoSaid:=
 OpenClaim.holds_of_cond 11 Tryz.f11 rfl rfl rfl rfl rfl rfl rfl ⟨rfl,rfl,rfl,rfl,rfl⟩ rfl rfl rfl rfl rfl (by kernel_rfl) Tryz.func11 aFm
  (ay (by kernel_rfl)) (by unfold Func.isWrapper;first|(rw[aCL (by decide+kernel)];kernel_rfl)|(rw[aCM (by decide+kernel)];exact⟨rfl,rfl⟩))
  (fun os started H enc _ F=>by rw[OpenClaim.pre_eq_preRow];exact aFD os started H enc F)
theorem aw4(f:FuncId)(fn:Func)(hf:Tryz.pinned.checked.prog.funcNamed "rostrum/rostrumtop.TopQuiet" =some f)(wg:Tryz.pinned.checked.prog.funcs[f]? =some fn):
  false=Tryz.pinned.checked.prog.looks []∧ ∀(j:Nat) t,fn.params[j]? =some t→Tryz.pinned.checked.prog.wantsStandIn t=false:=by
 obtain rfl:f=11:=aDZ ((show Tryz.prog.funcNamed "rostrum/rostrumtop.TopQuiet" =some 11 by kernel_rfl).symm.trans hf)|>.symm
 obtain rfl:fn=Tryz.f11:=(aDZ (Tryz.func11.symm.trans wg)).symm;refine⟨by kernel_rfl,fun j t ht=> ?_⟩;have hm:t∈Tryz.f11.params.toList:=by have:=Array.mem_of_getElem? ht;simpa using this
 have hm:t∈([22,3]:List Nat):=hm;simp only[aDa,aEb,or_false]at hm;rcases hm with rfl|rfl
 ·exact(show Tryz.prog.wantsStandIn 22=false by kernel_rfl)
 ·exact(show Tryz.prog.wantsStandIn 3=false by kernel_rfl)
theorem topQuiet_holds:Rows.TopQuietUptoCardSaid:=
 Claim7.holds_tied_plain_at .later [] _ _ _ _ aFE (fun _ h=>by cases h) (by kernel_rfl) (fun _ h=>by cases h) topQuietUpto_row_tie rfl ⟨rfl,rfl⟩ (by kernel_rfl) rfl aw4 (by kernel_rfl)
end Go.Proofs.YtfmgjpcmcjjoiaaGreatDoor
