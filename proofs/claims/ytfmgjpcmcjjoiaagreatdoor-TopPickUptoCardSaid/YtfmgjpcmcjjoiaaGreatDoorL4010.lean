/- rostrum/rostrumtop.TopPick: it answers true, as the document says, for every input whose bulk is at most 1048576; the card ties what client.nothing holds. -/
import Derived.Test.YtfmgjpcmcjjoiaaGreatDoorXc
import Derived.Test.YtfmgjpcmcjjoiaaGreatDoorYf
import Derived.Deep.DeepHandedRow
import Derived.Lib.LaidTab
import Derived.Test.YtfmgjpcmcjjoiaaGreatDoorCards
import Derived.Test.YtfmgjpcmcjjoiaaGreatDoorTie
open Go.IntKind (i64 u64 u8)
open Int (toNat)
set_option maxRecDepth 100000
set_option maxHeartbeats 4000000
set_option linter.all false
noncomputable section
namespace Go.Proofs.YtfmgjpcmcjjoiaaGreatDoor
open Go Go.RowKit Go.Vc
section
variable(x0:Sl jg)(x1:Int)(x2:Int)
def aED:Bool:=(bif(!(yz (gY x0 80)))then true else((Cu (gY x0 80))==0))
def aEZ:Bool:=(bif(yz (m_ (gY x0 80) (Sl.lit ([(⟨6,0,(bd x1 (Cu (gY x0 80))),0,0,0,⟨#[]⟩,⟨#[]⟩,⟨#[]⟩,0⟩:aK)]:List aK))))then(bif(yz (m_ (gY x0 80) (Sl.lit ([(⟨6,0,(i64.wrap ((bd x1 (Cu (gY x0 80)))+(i64.wrap ((Cu (gY x0 80))*(bd x2 50))))),0,0,0,⟨#[]⟩,⟨#[]⟩,⟨#[]⟩,0⟩:aK)]:List aK))))then(bif((Cu (m_ (gY x0 80) (Sl.lit ([(⟨6,0,(bd x1 (Cu (gY x0 80))),0,0,0,⟨#[]⟩,⟨#[]⟩,⟨#[]⟩,0⟩:aK)]:List aK))))==(i64.wrap ((Cu (gY x0 80))-1)))then(bif((Cu (m_ (gY x0 80) (Sl.lit ([(⟨6,0,(i64.wrap ((bd x1 (Cu (gY x0 80)))+(i64.wrap ((Cu (gY x0 80))*(bd x2 50))))),0,0,0,⟨#[]⟩,⟨#[]⟩,⟨#[]⟩,0⟩:aK)]:List aK))))==(Cu (m_ (gY x0 80) (Sl.lit ([(⟨6,0,(bd x1 (Cu (gY x0 80))),0,0,0,⟨#[]⟩,⟨#[]⟩,⟨#[]⟩,0⟩:aK)]:List aK)))))then true else false)else false)else false)else false)
def aEN:Bool:=(bif(aED x0)then(yz (gY x0 80))else(aEZ x0 x1 x2))
theorem aEH{x0:Sl jg}(h:ve x0)(h1:aED x0=false):0<Cu (gY x0 80):=by
 obtain⟨e,_⟩:=aEU h;unfold aED at h1;rw[ai6 (ay4 h).1]at h1;have h1:(Cu (gY x0 80)==0)=false:=h1;have:=cM h1;omega
def aFd:Fq:=⟨[.v (.sl PH),.v kI,.v kI],fun x0 (x1:Int) (x2:Int)=>⟨⟨some (ve x0∧lV x1∧lV x2),.bool (aEN x0 x1 x2)⟩⟩⟩
theorem aFp:Jl 10 aFd:=
 fun x0 n0 _ (x1:Int) (x2:Int) hp=>bj ⟨.pure,[.tmp 6],[(.t 0,kB)],⟨[U],[]⟩⟩ (.ai (.ai (.ai (.s (.j ⟨268436422,[],[(.t 28,kB)],[],.f⟩ .z .z) (.ai (.ai (.s (.nw []) (.j ⟨64,[.b 0,.b 1,.b 2,.b 3,.b 4,.b 5,.b 6,.b 7],[(.t 6,kB)],[],.f⟩ .z .z)))))))) (let zb:=gY x0 80;let za:=Cu zb;let z8:=m_ zb (Sl.lit ([(⟨6,0,(bd x1 za),0,0,0,⟨#[]⟩,⟨#[]⟩,⟨#[]⟩,0⟩:aK)]:List aK));let z6:=m_ zb (Sl.lit ([(⟨6,0,(i64.wrap ((bd x1 za)+(i64.wrap (za*(bd x2 50))))),0,0,0,⟨#[]⟩,⟨#[]⟩,⟨#[]⟩,0⟩:aK)]:List aK));(aED x0)=false→((0<za)∧(((zb.n:Int)+1≤549755813888)∧(((0<(50:Int))∧((zb.n:Int)+1≤549755813888))∧((yz z8)=true→((yz z6)=true→(((Cu z8)==(i64.wrap (za-1)))=true→(((Cu z6)==(Cu z8))=true→(wV (vO z8) (vO z6)))))))))) (bU (aH av2 (aH av3 (aH av4 (aH WS (aH av6 aQ)))))) Tryz.func10 (have⟨cn,dv,ia⟩:=hp;(fun h1=>⟨(by have:=h1;simp [aED]at this;have:=trivial;(try have hpk:=aEH cn (by assumption));(try have rK:=aEL cn dv ia hpk);have:=ayk x0 80;omega),⟨(by have:=h1;simp [aED]at this;have:=trivial;(try have hpk:=aEH cn (by assumption));(try have rK:=aEL cn dv ia hpk);have:=ayk x0 80;omega),⟨⟨(by have:=h1;simp [aED]at this;have:=trivial;(try have hpk:=aEH cn (by assumption));(try have rK:=aEL cn dv ia hpk);omega),(by have:=h1;simp [aED]at this;have:=trivial;(try have hpk:=aEH cn (by assumption));(try have rK:=aEL cn dv ia hpk);have:=ayk x0 80;omega)⟩,(fun h2=>(fun h3=>(fun h4=>(fun h5=>(by have:=h1;simp [aED]at this;have:=eq_of_beq h4;have:=eq_of_beq h5;have:=trivial;(try have hpk:=aEH cn (by assumption));(try have rK:=aEL cn dv ia hpk);repeat first|assumption|apply ru0|apply rus|apply rud|apply s_|apply ta|apply uW|apply qP|apply wA|apply mM|apply rZ|apply uO|apply uN|apply ss|apply rD|apply rE|apply jt|apply uU|apply xg|apply mi|apply kD|apply oE|apply And.intro)))))⟩⟩⟩))
end
theorem aFn(x0:Sl jg)(x1 x2:Int)(_:Canon x0)(_:x0.n≤1048576)(h:ve x0)(h1:lV x1)(h2:lV x2):aEN x0 x1 x2=true:=by
 have hA:=(ay4 h).1;unfold aEN
 cases hm:aED x0 with
 |true=>simp only[aCJ];exact ai6 hA
 |false=>
  have hz:=aEH h hm;obtain⟨hB,hC,e,ha⟩:=aE8 h h1 h2 hz;have han:=(abt hA).an;have aA:=ai7 hA;have aB:=ai7 hB;have aC:=ai7 hC;rw[←e]at aC;simp only[aCI];unfold aEZ;rw[ai6 hB,ai6 hC,aB,aC,ha,aA,aq (((iR (gY x0 80).B).ax.n:Int)-1)];have e2:(((iR (gY x0 80).B).ax.n-1:Nat):Int)=((iR (gY x0 80).B).ax.n:Int)-1:=by rw[aA]at hz;omega
  rw[e2];simp
end Go.Proofs.YtfmgjpcmcjjoiaaGreatDoor
namespace Go.Proofs.YtfmgjpcmcjjoiaaGreatDoor
open Go Go.ChangeAt Go.ChangeShapes Go.RowKit Go.Vc Go.WideShapes
theorem Vn:Tryz.prog.globalNamed "rostrum/client.nothing" =some 0:=by kernel_rfl
theorem ar3:(Tryz.prog.globals[0]?).map (·.type)=some 34:=by kernel_rfl
theorem ayw{W:World}(h:laidMetH Tryz.prog [("rostrum/client.nothing",Rows.laid_rostrum_client_nothing)] W):W.var? Tryz.prog "rostrum/client.nothing" =some #[.int .i64 22,.string ⟨#[]⟩,.string ⟨#[]⟩,.string ⟨#[]⟩,.int .i64 0]:=by
 have h:laidMet Tryz.prog [("rostrum/client.nothing",Rows.laid_rostrum_client_nothing)] W:=h
 obtain⟨ps,⟨g',t',cs,fuel,p,q,hg',Wr,atx,hd,_,_⟩,_⟩:=h;obtain rfl:=aDZ (Vn.symm.trans hg');obtain rfl:=aDZ (ar3.symm.trans Wr);obtain⟨xs,m,_,hx,hlen,hxl,pS⟩:=DataW.trod_struct Tryz.underlying34 hd;have pc:=congrArg Prod.fst hx;simp only[Rows.laid_rostrum_client_nothing,DataW.agg.injEq]at pc;have hc:Tryz.prog.cellsOf 34=5:=by kernel_rfl
 rw[hc]at hlen;have key: ∀(i:Nat) (f:Field) (x:DataW Unit),(Tryz.prog.underlying 34).map (fun d=>match d with| .struct fs=>fs[i]? |_=>none)=some (some f)→(xs.map (·.1))[i]? =some x→ ∃y,DataW.trod (fun _=>()) Tryz.prog W 0 (fun _=>true) false m f.type ((cs.toList.drop f.offset).take (Tryz.prog.cellsOf f.type))=some y∧y.1=x:=by
  intro i f x hf hx;rw[Tryz.underlying34]at hf;have hf:=aDZ hf;have:=pS i f hf;rw[aC4,aDo]at hx;obtain⟨y,hy,rfl⟩:=hx;exact⟨y,this.trans hy,rfl⟩
 have c1:Tryz.prog.cellsOf 3=1:=by kernel_rfl
 have c2:Tryz.prog.cellsOf 9=1:=by kernel_rfl
 have int: ∀(i:Nat) (f:Field) (n:Int),f.type=3→f.offset=i→(Tryz.prog.underlying 34).map (fun d=>match d with| .struct fs=>fs[i]? |_=>none)=some (some f)→(xs.map (·.1))[i]? =some (.lit (.int .i64 n))→cs.toList[i]? =some (.int .i64 n):=by
  intro i f n e1 e2 hf hx;obtain⟨y,hy,wu⟩:=key i f _ hf hx;rw[e1,e2,c1]at hy;obtain⟨z,hz,rfl,_⟩:=DataW.trod_int (show Tryz.prog.underlying 3=some (.int .i64) by kernel_rfl) hy;simp only[DataW.lit.injEq,Lit.int.injEq,true_and]at wu;subst wu;have:=congrArg (·[0]?) hz;simpa[aEv,aDv]using this
 have str: ∀(i:Nat) (f:Field),f.type=9→f.offset=i→(Tryz.prog.underlying 34).map (fun d=>match d with| .struct fs=>fs[i]? |_=>none)=some (some f)→(xs.map (·.1))[i]? =some (.lit (.string []))→cs.toList[i]? =some (.string ⟨#[]⟩):=by
  intro i f e1 e2 hf hx;obtain⟨y,hy,wu⟩:=key i f _ hf hx;rw[e1,e2,c2]at hy;obtain⟨z,hz,rfl,_⟩:=DataW.trod_string (show Tryz.prog.underlying 9=some .string by kernel_rfl) hy;simp only[DataW.lit.injEq,Lit.string.injEq]at wu;have qb:z=⟨#[]⟩:=by
   obtain⟨⟨l⟩⟩:=z;simp only at wu;subst wu;rfl
  subst qb;have:=congrArg (·[0]?) hz;simpa[aEv,aDv]using this
 have x0:=int 0 _ 22 rfl rfl (by rw[Tryz.underlying34];rfl) (by rw[←pc];rfl);have x1:=str 1 _ rfl rfl (by rw[Tryz.underlying34];rfl) (by rw[←pc];rfl);have x2:=str 2 _ rfl rfl (by rw[Tryz.underlying34];rfl) (by rw[←pc];rfl);have x3:=str 3 _ rfl rfl (by rw[Tryz.underlying34];rfl) (by rw[←pc];rfl);have x4:=int 4 _ 0 rfl rfl (by rw[Tryz.underlying34];rfl) (by rw[←pc];rfl);rw[atx];obtain⟨l⟩:=cs;simp only at hlen x0 x1 x2 x3 x4
 match l,hlen with
 |[a,b,c,d,e],_=>
  simp at x0 x1 x2 x3 x4;subst x0 x1 x2 x3 x4;rfl
theorem ayx{W:World}(h:laidMetH Tryz.prog [("rostrum/client.nothing",Rows.laid_rostrum_client_nothing)] W):Ee W (fun y=>y<W.heap.size):=by
 have hv:=ayw h;refine⟨fun _ h=>h,fun g=> ?_⟩
 cases g with
 |succ g=>exact .inl rfl
 |zero=>
  refine .inr ?_;have hc:=fun i=>World.var?_cell Vn hv i;have cI:0<W.heap.size:=by
   have h0:=hc 0;rcases aDW W.heap.size with e|e
   ·have:W.heap[0]? =none:=aEz (by omega);unfold World.var? at hv;rw[Vn]at hv;simp only[Option.bind_some,this]at hv
    cases hv
   ·exact e
  refine aR.ref _ 0 0 (fun j=>([.int .i64 22,.str ⟨#[]⟩,.str ⟨#[]⟩,.str ⟨#[]⟩,.int .i64 0]:List AV).getD j .undef) (fun j=>([.int .i64 22,.string ⟨#[]⟩,.string ⟨#[]⟩,.string ⟨#[]⟩,.int .i64 0]:List Value).getD j undef) cI ?_ ?_ ?_
  ·intro j hj;have hj:j<5:=hj
   match j,hj with
   |0,_=>rfl
   |1,_=>rfl
   |2,_=>rfl
   |3,_=>rfl
   |4,_=>rfl
  ·intro j hj;have hj:j<5:=hj;rw[aCO,hc j]
   match j,hj with
   |0,_=>rfl
   |1,_=>rfl
   |2,_=>rfl
   |3,_=>rfl
   |4,_=>rfl
  ·intro j hj;have hj:j<5:=hj
   match j,hj with
   |0,_=>exact .int _ _
   |1,_=>exact .str _ (aCQ _)
   |2,_=>exact .str _ (aCQ _)
   |3,_=>exact .str _ (aCQ _)
   |4,_=>exact .int _ _
theorem aFr:Pj Tryz.prog 1048576 12 [22,3,3] fun xs=>fk Tryz.prog 10 xs (.bool true):=by
 refine Eq.mpr (β:= ∀(m0:Nat) (f0:Nat→List AV),m0≤1048576→(∀i,m0≤i→f0 i=[.int .i64 0,.int .i64 0,.int .i64 0,.int .i64 0,.int .i64 0,.int .i64 0,.int .i64 0,.str ⟨#[]⟩])→(∀i,i<m0→ ∀K:List AV→Prop,(∀x0:Int,(Lit.int .i64 x0).wf=true→ ∀x1:Int,(Lit.int .i64 x1).wf=true→ ∀x2:Int,(Lit.int .i64 x2).wf=true→ ∀x3:Int,(Lit.int .i64 x3).wf=true→ ∀x4:Int,(Lit.int .i64 x4).wf=true→ ∀x5:Int,(Lit.int .i64 x5).wf=true→ ∀x6:Int,(Lit.int .i64 x6).wf=true→ ∀x7:ByteArray,x7.size≤1048576→K [.int .i64 x0,.int .i64 x1,.int .i64 x2,.int .i64 x3,.int .i64 x4,.int .i64 x5,.int .i64 x6,.str x7])→K (f0 i))→ ∀x1:Int,(Lit.int .i64 x1).wf=true→ ∀x2:Int,(Lit.int .i64 x2).wf=true→fk Tryz.prog 10 [.arr 8 m0 f0,.int .i64 x1,.int .i64 x2] (.bool true)) (by kernel_rfl) ?_;intro m0 f0 HN hd0 M6 x1 r1 x2 r2;have w1:=AB r1;have w2:=AB r2;have q0: ∀i,i<m0→f0 i=A9 (nM (f0 i)):=fun i hi=>M6 i hi (fun l=>l=A9 (nM l)) (fun _ _ _ _ _ _ _ _ _ _ _ _ _ _ _ _=>rfl);have e0: ∀i,i<m0→f0 i=A9 (nM (f0 i)):=fun i hi=>q0 i hi;have c0:Canon (ja nM (.arr 8 m0 f0)):=fun i hi=>by
  show nM (f0 i)=default;rw[hd0 i hi];rfl
 have z0:ve (ja nM (.arr 8 m0 f0)):=⟨(by show m0≤_;omega),fun j hj=>by
  exact M6 j hj (fun l=>Qu (nM l)) (fun x0 r0 x1 r1 x2 r2 x3 r3 x4 r4 x5 r5 x6 r6 x7 r7=>⟨AB r0,AB r1,AB r2,AB r3,AB r6⟩)⟩
 have h0:fk Tryz.prog 10 [aL 8 A9 (ja nM (.arr 8 m0 f0)),.int .i64 x1,.int .i64 x2] (.bool (aEN (ja nM (.arr 8 m0 f0)) x1 x2)):=fk.nO fun hf=>aFp (ja nM (.arr 8 m0 f0)) (by show _≤_;simp only[ja];omega) hf.1 x1 x2 ⟨z0,w1,w2⟩;have h:=h0.aj9 (l1 (aAC rfl e0) (l1 aI (l1 aI l0)));rw[aFn (ja nM (.arr 8 m0 f0)) x1 x2 c0 HN z0 (AB r1) (AB r2)]at h;exact h
def Xq(os:Os):World:=
 {World.holding Tryz.prog os ⟨#[],#[],[]⟩with heap:=(World.holding Tryz.prog os ⟨#[],#[],[]⟩).heap.modify 0 fun
   | .cells _ t frozen=> .cells #[.int .i64 22,.string ⟨#[]⟩,.string ⟨#[]⟩,.string ⟨#[]⟩,.int .i64 0] t frozen
   |o=>o}
theorem aw1(os:Os):laidMet Tryz.prog Rows.topPickUptoRow.laid ((Xq os).forCall (fun _ _=>0) ⟨#[],#[.slice none 0 0,.int .i64 0,.int .i64 0],[]⟩).memory:=
 laidMet_of_run' 8 (by kernel_rfl) (by kernel_rfl)
theorem aw5(os:Os){H:Type}(enc:TypeId×Value→H): ∃places,DataW.whole enc Tryz.prog ((Xq os).forCall (fun _ _=>0) ⟨#[],#[.slice none 0 0,.int .i64 0,.int .i64 0],[]⟩).memory Tryz.f10.params.toList Rows.topPickSpec.vars false (#[.slice none 0 0,.int .i64 0,.int .i64 0]:Array Value).toList 8=some ([.nil,.lit (.int .i64 0),.lit (.int .i64 0)],[],places):=
 ⟨[],by kernel_rfl⟩
theorem aFB(os:Os)(started:os.Started)(H:Type)(enc:TypeId×Value→H)(F:Stop.Interp):
  ReturnsInHanded {} Tryz.checked os 10 .any ((Rows.OpenSpec.upto Rows.topPickSpec).preRow enc Tryz.prog Tryz.f10 Rows.topPickUptoRow.domain false Rows.topPickUptoRow.laid) (((Rows.OpenSpec.upto Rows.topPickSpec).at F).post enc Tryz.prog Tryz.f10 false true false false):=by
 obtain⟨places,hx⟩:=aw5 os enc;refine returnsInHanded_of_row (C:=Tryz.checked) (s:=Rows.OpenSpec.upto Rows.topPickSpec) Tryz.own started (by kernel_rfl) Tryz.func10
  (witness_row_at (enc:=enc) (C:=Tryz.checked) false (Xq os) #[.slice none 0 0,.int .i64 0,.int .i64 0] rfl (by kernel_rfl) (by kernel_rfl) (by kernel_rfl)
   (OpenSpec.preRow_of_cond 8 hx (by kernel_rfl) (fun k hk=>by cases hk;kernel_rfl) (by kernel_rfl) (aw1 os))) ?_
 intro W base args ds gs before nt hW _ M3 _ hL _ _;exact aw3 (P:=Tryz.prog) (fn:=Tryz.f10) (s:=Rows.topPickSpec) (n:=12) (B:=1048576) (jN:=Rows.uptoBulk) (tb:=4) (ts:=[22,3,3]) (by decide) (anX H) rfl jf2 (by kernel_rfl) (by kernel_rfl) rfl (by kernel_rfl) rfl (fun ds h=>by
  match ds,h with
  |[d1,d2,d3],_=>rfl) aFr W base args ds gs before nt hW (fun d hd=>anZ (M3 _ rfl) d (by simp [hd])) (ayx hL)
theorem aFl:joinedFacts Tryz.prog 10 Tryz.f10 Rows.topPickSpec Rows.topPickUptoRow=true:=
 aug (by kernel_rfl) jf2 jf3 (by kernel_rfl) (by kernel_rfl) rfl jf7 rfl jf9 (by kernel_rfl) (by kernel_rfl) (by kernel_rfl) (by kernel_rfl) (by kernel_rfl) (by kernel_rfl) (by kernel_rfl) (by kernel_rfl) (by kernel_rfl)
  (by kernel_rfl) (by kernel_rfl) (by kernel_rfl) (by kernel_rfl) (by rw[aua];rfl) rfl aub auc (by rw[aud];rfl) (by rw[aue];rfl) (by kernel_rfl) (by kernel_rfl) (by kernel_rfl) (by kernel_rfl)
theorem aFC:Rows.TopPickUptoSaid:=
 OpenClaim.holds_of_cond 10 Tryz.f10 rfl rfl rfl rfl rfl rfl rfl ⟨rfl,rfl,rfl,rfl,rfl⟩ rfl rfl rfl rfl rfl (by kernel_rfl) Tryz.func10 aFl
  (ay (by kernel_rfl)) (by unfold Func.isWrapper;first|(rw[aCL (by decide+kernel)];kernel_rfl)|(rw[aCM (by decide+kernel)];exact⟨rfl,rfl⟩))
  (fun os started H enc _ F=>by rw[OpenClaim.pre_eq_preRow];exact aFB os started H enc F)
theorem aw4(f:FuncId)(fn:Func)(hf:Tryz.pinned.checked.prog.funcNamed "rostrum/rostrumtop.TopPick" =some f)(wg:Tryz.pinned.checked.prog.funcs[f]? =some fn):
  false=Tryz.pinned.checked.prog.looks []∧ ∀(j:Nat) t,fn.params[j]? =some t→Tryz.pinned.checked.prog.wantsStandIn t=false:=by
 obtain rfl:f=10:=aDZ ((show Tryz.prog.funcNamed "rostrum/rostrumtop.TopPick" =some 10 by kernel_rfl).symm.trans hf)|>.symm
 obtain rfl:fn=Tryz.f10:=(aDZ (Tryz.func10.symm.trans wg)).symm;refine⟨by kernel_rfl,fun j t ht=> ?_⟩;have hm:t∈Tryz.f10.params.toList:=by have:=Array.mem_of_getElem? ht;simpa using this
 have hm:t∈([22,3,3]:List Nat):=hm;simp only[aDa,aEb,or_false]at hm;rcases hm with rfl|rfl|rfl
 ·exact(show Tryz.prog.wantsStandIn 22=false by kernel_rfl)
 ·exact(show Tryz.prog.wantsStandIn 3=false by kernel_rfl)
 ·exact(show Tryz.prog.wantsStandIn 3=false by kernel_rfl)
theorem topPick_holds:Rows.TopPickUptoCardSaid:=
 Claim7.holds_tied_plain_at .later [] _ _ _ _ aFC (fun _ h=>by cases h) (by kernel_rfl) (fun _ h=>by cases h) topPickUpto_row_tie rfl ⟨rfl,rfl⟩ (by kernel_rfl) rfl aw4 (by kernel_rfl)
end Go.Proofs.YtfmgjpcmcjjoiaaGreatDoor
