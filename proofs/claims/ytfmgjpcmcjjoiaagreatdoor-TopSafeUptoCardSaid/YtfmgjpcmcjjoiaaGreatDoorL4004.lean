/- rostrum/rostrumtop.TopSafe: it answers true, as the document says, for every input whose bulk is at most 1048576; the card ties what client.nothing holds. -/
import Derived.Test.YtfmgjpcmcjjoiaaGreatDoorXc
import Derived.Test.YtfmgjpcmcjjoiaaGreatDoorXy
import Derived.Deep.DeepHandedRow
import Derived.Lib.LaidTab
import Derived.Test.YtfmgjpcmcjjoiaaGreatDoorCards
import Derived.Test.YtfmgjpcmcjjoiaaGreatDoorTie
open Go.IntKind (i64 u64 u8)
open Int (toNat)
set_option maxRecDepth 100000
set_option maxHeartbeats 4000000
set_option linter.all false
noncomputable section
namespace Go.Proofs.YtfmgjpcmcjjoiaaGreatDoor
open Go Go.RowKit Go.af
section
variable {A:G iw} {g r h:Int}
theorem alR{i p:Int}(a:0≤i∧i<3)(b:0≤p∧p≤400000):g9 ⟨9,i,p,0,0,0,⟨#[]⟩,⟨#[]⟩,⟨#[]⟩,0⟩:=iD (k:=9) (n:=i) (p:=p) (by decide) (fun _=>a) (fun z=>by cases z) (fun _=>b) (fun z=>by cases z)
theorem Pt{i:Int}(a:0≤i∧i<3):g9 ⟨10,i,0,0,0,0,⟨#[]⟩,⟨#[]⟩,⟨#[]⟩,0⟩:=iD (k:=10) (n:=i) (p:=0) (by decide) (fun _=>a) (fun z=>by cases z) (fun z=>by cases z) (fun _=>rfl)
abbrev cs(i x:Int):G aJ:=G.lit ([(⟨9,i,x,0,0,0,⟨#[]⟩,⟨#[]⟩,⟨#[]⟩,0⟩:aJ),(⟨10,i,0,0,0,0,⟨#[]⟩,⟨#[]⟩,⟨#[]⟩,0⟩:aJ)]:List aJ)
theorem afY{A:G aJ}(h:kP A)(g:A.n<2998){a b:aJ}(d:g9 a)(f:g9 b):kP (eL A (G.lit ([a,b]:List aJ))):=by
 refine⟨by show A.n+2≤3000;omega,?_⟩;intro q c;have c:q<A.n+2:=c;show g9 (cond (Nat.blt q A.n) (A.at' q) (([a,b]:List aJ).getD (q-A.n) default))
 cases e:Nat.blt q A.n with
 |true=>exact h.2 q (by rw[hj]at e;exact e)
 |false=>
  have: ¬q<A.n:=fun hh=>by
   rw[show Nat.blt q A.n=true by rw[hj];exact hh]at e
   cases e
  rw[aS];obtain z|z:q-A.n=0∨q-A.n=1:=by omega
  ·rw[z];exact d
  ·rw[z];exact f
theorem Y9(A:G aJ)(a b:aJ):ie (eL A (G.lit ([a,b]:List aJ))).B=gi (gi (ie A.B) a) b:=by
 unfold eL;rw[jm,jn,P8];rfl
end
theorem aCd{C:ak}{a:aJ}(h:a.q=2):gi C a=UN (toNat a.C) C a:=by
 unfold gi;simp only[h,ak.fx];rfl
theorem afJ{C:ak}{i:Nat}(b:i<3){a:aJ}(h:a.q=10∧toNat a.C=i):(gi C a).d i={C.d i with up:=true} :=by
 rw[aCe h.1,h.2];unfold F2;rw[GK,Mr C b];rfl
theorem ax7{C:ak}{i:Nat}(b:i<3){a:aJ}(h:a.q=2∧toNat a.C=i)(u:(C.d i).up=true):((gi C a).d i).up=true:=by
 rw[aCd h.1,h.2];unfold UN;rw[Mr C b];unfold se l6;simp only[H.fx];rw[u];generalize Js (C.d i)=z
 cases z
 ·exact u
 ·exact u
theorem ax8{C:ak}{i:Nat}(b:i<3){a:aJ}(h:a.q=4∧toNat a.C=i)(u:(C.d i).up=true):(gi C a).d i=n1 (C.d i):=by
 rw[aCf h.1,h.2];unfold UO;rw[Mr C b];show H.bif (C.d i).up (l6 _ (C.d i)) (C.d i)=_;unfold l6;simp only[H.fx];rw[u];rfl
theorem ax6{C:ak}{i:Nat}(b:i<3){a:aJ}(h:a.q=9∧toNat a.C=i)(u:(C.d i).up=true):(gi C a).d i=l7 a.z (C.d i):=by
 rw[aCc h.1,h.2,anm,Mr C b,H.fx,u];rfl
theorem ahZ(C:ak){i:Nat}(a:i<3):(views C).at' i=B5 (C.d i):=by
 match i,a with
 |0,_=>rfl
 |1,_=>rfl
 |2,_=>rfl
section
variable {A:G iw} {g:Int}
abbrev jE(i:Int):G aJ:=G.lit ([(⟨10,i,0,0,0,0,⟨#[]⟩,⟨#[]⟩,⟨#[]⟩,0⟩:aJ),(⟨2,i,0,0,0,0,⟨#[]⟩,⟨#[]⟩,⟨#[]⟩,0⟩:aJ),(⟨4,i,0,0,0,0,⟨#[]⟩,⟨#[]⟩,⟨#[]⟩,0⟩:aJ)]:List aJ)
theorem X7{i:Int}(a:0≤i∧i<3):g9 ⟨2,i,0,0,0,0,⟨#[]⟩,⟨#[]⟩,⟨#[]⟩,0⟩:=iD (k:=2) (n:=i) (p:=0) (by decide) (fun _=>a) (fun z=>by cases z) (fun z=>by cases z) (fun _=>rfl)
theorem ayO{A:G aJ}(h:kP A){l:List aJ}(d:A.n+l.length≤3000)(c: ∀a∈l,g9 a):kP (eL A (G.lit l)):=by
 refine⟨d,?_⟩;intro q b;have b:q<A.n+l.length:=b;show g9 (cond (Nat.blt q A.n) (A.at' q) (l.getD (q-A.n) default))
 cases e:Nat.blt q A.n with
 |true=>exact h.2 q (by rw[hj]at e;exact e)
 |false=>
  have: ¬q<A.n:=fun hh=>by
   rw[show Nat.blt q A.n=true by rw[hj];exact hh]at e
   cases e
  rw[aS,yK,cI (by omega),kM];exact c _ (oz _)
theorem ano(A:G aJ)(a b c:aJ):ie (eL A (G.lit ([a,b,c]:List aJ))).B=gi (gi (gi (ie A.B) a) b) c:=by
 unfold eL;rw[jm,jn,P8];rfl
theorem ahg(h:tK A)(v:kT g):kP (eL (e9 A 80) (jE (a2 g 3)))∧kP (eL (eL (e9 A 80) (jE (a2 g 3))) (cs (a2 g 3) 0))∧
  ∃n m:H,(views (ie (eL (e9 A 80) (jE (a2 g 3))).B)).at' (toNat (a2 g 3))=B5 n∧(views (ie (eL (eL (e9 A 80) (jE (a2 g 3))) (cs (a2 g 3) 0)).B)).at' (toNat (a2 g 3))=B5 m∧
   n.up=true∧m.up=true∧m.ro=0∧core m=core n∧m.co=m.j∧n.j≤n.co∧n.li.n≤200:=by
 obtain⟨j,D⟩:=ayN h;have b:0≤a2 g 3∧a2 g 3<3:=oi v (by decide);generalize a2 g 3=i at b ⊢;have y:=afY j (by omega) (Pt b) (X7 b);have g0:kP (eL (e9 A 80) (jE i)):=ayO j (by show(e9 A 80).n+3≤3000;omega) fun a d=>by
  rcases hS.1 d with e|d
  ·rw[e];exact Pt b
  rcases hS.1 d with e|d
  ·rw[e];exact X7 b
  ·rw[List.mem_singleton.1 d];exact alS b
 have afT:=afY g0 (by rw[afG];show(e9 A 80).n+3<2998;omega) (alR b (p:=0) (by decide)) (Pt b);have c:toNat i<3:=by omega
 refine⟨g0,afT,(ie (eL (e9 A 80) (jE i)).B).d (toNat i),(ie (eL (eL (e9 A 80) (jE i)) (cs i 0)).B).d (toNat i),ahZ _ c,ahZ _ c,?_⟩;have q:=(P9 y).n (toNat i);have r:=(P9 afT).n (toNat i);have B:=(P9 g0).n (toNat i);have k:=(Y_ g0).d (toNat i);have f:=r.1.bX;rw[Y9]at q f r;have t:=afJ (C:=ie (e9 A 80).B) c (a:=⟨10,i,0,0,0,0,⟨#[]⟩,⟨#[]⟩,⟨#[]⟩,0⟩) ⟨rfl,rfl⟩;have l:=ax7 (C:=gi (ie (e9 A 80).B) ⟨10,i,0,0,0,0,⟨#[]⟩,⟨#[]⟩,⟨#[]⟩,0⟩) c (a:=⟨2,i,0,0,0,0,⟨#[]⟩,⟨#[]⟩,⟨#[]⟩,0⟩) ⟨rfl,rfl⟩ (by rw[t]);have aZ:=ax8 c (a:=⟨4,i,0,0,0,0,⟨#[]⟩,⟨#[]⟩,⟨#[]⟩,0⟩) ⟨rfl,rfl⟩ l;have s:=ano (e9 A 80) ⟨10,i,0,0,0,0,⟨#[]⟩,⟨#[]⟩,⟨#[]⟩,0⟩ ⟨2,i,0,0,0,0,⟨#[]⟩,⟨#[]⟩,⟨#[]⟩,0⟩ ⟨4,i,0,0,0,0,⟨#[]⟩,⟨#[]⟩,⟨#[]⟩,0⟩;rw[Y9 (eL (e9 A 80) (jE i))];rw[←s]at aZ;have o:((ie (eL (e9 A 80) (jE i)).B).d (toNat i)).up=true:=by rw[aZ];exact l
 have z:((ie (eL (e9 A 80) (jE i)).B).d (toNat i)).bc=(((ie (eL (e9 A 80) (jE i)).B).d (toNat i)).aX.n:Int):=by
  rw[aZ];exact(ah1 q.1).2.1
 generalize ie (eL (e9 A 80) (jE i)).B=C at*
 have u:=ax6 (C:=C) c (a:=⟨9,i,0,0,0,0,⟨#[]⟩,⟨#[]⟩,⟨#[]⟩,0⟩) ⟨rfl,rfl⟩ o;have cN:=afJ (C:=gi C ⟨9,i,0,0,0,0,⟨#[]⟩,⟨#[]⟩,⟨#[]⟩,0⟩) c (a:=⟨10,i,0,0,0,0,⟨#[]⟩,⟨#[]⟩,⟨#[]⟩,0⟩) ⟨rfl,rfl⟩;rw[u]at cN;rw[cN]at f ⊢;have w:=(ah2 B.1 (x:=0) (cR _)).2.1 z;exact⟨o,rfl,rfl,w,f,k.ha,k.fZ⟩
theorem atl{M:Prop}(h:tK A)(a:kT g):(0<(3:Int))∧(((e9 A 80).n:Int)+3≤549755813888∧(((eL (e9 A 80) (jE (a2 g 3))).n:Int)+2≤549755813888∧(M→(0≤a2 g 3∧a2 g 3<((qo (eL (e9 A 80) (jE (a2 g 3)))).n:Int))∧(0≤a2 g 3∧a2 g 3<((qo (eL (eL (e9 A 80) (jE (a2 g 3))) (cs (a2 g 3) 0))).n:Int))))):=by
 have c:0≤a2 g 3∧a2 g 3<3:=oi a (by decide);obtain⟨b,d,_⟩:=ahg h a;have n:=b.1;rw[afG]at n ⊢;rw[Mv b,Mv d];exact⟨by decide,by omega,by omega,fun _=>⟨c,c⟩⟩
def awE(p q:Bool)(a b:iQ):Bool:=bif(cond (!p) true (!q))then false else bif a.q then bif b.q then bif !b.z then bif a.C==b.C then bif AJ a.w a.m a.N b.w b.m b.N then bif decide (b.I≤a.I)then b.I==b.w else false else false else false else false else false else false
theorem aAN{a b:Int}{s t:G aq}(h:s.B=t.B)(g:s.n≤549755813888):AJ a b s a b t=true:=by
 have n:s.n=t.n:=by rw[←a_ s,←a_ t,h]
 have q: ∀i,i<s.n→s.at' i=t.at' i:=fun i f=>by
  have c:=gy s f;have d:=gy t (show i<t.n by omega);rw[h,d]at c;exact(jk c).symm
 have k:=am3 (AK s t) s.n g (fun k i j e=>by rw[AK,bS e,q _ (by omega)];simp) (fun k=>by rw[AK,bp (aCE _)];rfl);have k:(SH s t).1=false:=k;unfold AJ acB xk;rw[k,n];simp
end
section
variable(A:G iw)(g:Int)
def acz:Bool:=let a:=a2 g 3;let b:=eL (e9 A 80) (G.lit ([(⟨10,a,0,0,0,0,⟨#[]⟩,⟨#[]⟩,⟨#[]⟩,0⟩:aJ),(⟨2,a,0,0,0,0,⟨#[]⟩,⟨#[]⟩,⟨#[]⟩,0⟩:aJ),(⟨4,a,0,0,0,0,⟨#[]⟩,⟨#[]⟩,⟨#[]⟩,0⟩:aJ)]:List aJ));(cond (!(xj b)) true (!(xj (eL b (G.lit ([(⟨9,a,0,0,0,0,⟨#[]⟩,⟨#[]⟩,⟨#[]⟩,0⟩:aJ),(⟨10,a,0,0,0,0,⟨#[]⟩,⟨#[]⟩,⟨#[]⟩,0⟩:aJ)]:List aJ))))))
def apZ:Bool:=let b:=a2 g 3;let e:=toNat b;let d:=eL (e9 A 80) (G.lit ([(⟨10,b,0,0,0,0,⟨#[]⟩,⟨#[]⟩,⟨#[]⟩,0⟩:aJ),(⟨2,b,0,0,0,0,⟨#[]⟩,⟨#[]⟩,⟨#[]⟩,0⟩:aJ),(⟨4,b,0,0,0,0,⟨#[]⟩,⟨#[]⟩,⟨#[]⟩,0⟩:aJ)]:List aJ));let h:=qo d;let c:=h.at' e;let f:=qo (eL d (G.lit ([(⟨9,b,0,0,0,0,⟨#[]⟩,⟨#[]⟩,⟨#[]⟩,0⟩:aJ),(⟨10,b,0,0,0,0,⟨#[]⟩,⟨#[]⟩,⟨#[]⟩,0⟩:aJ)]:List aJ)));let a:=f.at' e;(cond c.q (cond a.q (cond (!a.z) (cond (c.C==a.C) (cond (AJ c.w c.m c.N a.w a.m a.N) (cond (decide (a.I≤c.I)) (a.I==a.w) false) false) false) false) false) false)
def SG:Bool:=(cond (acz A g) false (apZ A g))
def akR:ba:=⟨[.v (.ab NC),.v a],fun A (g:Int)=>⟨⟨some (tK A∧kT g),.bool (SG A g)⟩⟩⟩
theorem azB:M8 4 akR:=
 fun A d _ (g:Int) c=>bu ⟨.pure,[.tmp 4],[(.t 0,l)],⟨[U],[]⟩⟩ (.ae (.ae (.ae (.ae (.ae (.s (.j ⟨70368744178352,[.b 0,.b 1,.b 2,.b 4,.b 5],[(.t 46,l)],[],.f⟩ .z .z) (.ae (.ae (.j ⟨16,[.b 3,.b 6,.b 7,.b 8],[(.t 4,l)],[],.f⟩ .z .z))))))))) (let a:=a2 g 3;let b:=eL (e9 A 80) (G.lit ([(⟨10,a,0,0,0,0,⟨#[]⟩,⟨#[]⟩,⟨#[]⟩,0⟩:aJ),(⟨2,a,0,0,0,0,⟨#[]⟩,⟨#[]⟩,⟨#[]⟩,0⟩:aJ),(⟨4,a,0,0,0,0,⟨#[]⟩,⟨#[]⟩,⟨#[]⟩,0⟩:aJ)]:List aJ));(0<(3:Int))∧(((((e9 A 80).n:Nat):Int)+3≤549755813888)∧(((b.n:Int)+2≤549755813888)∧((acz A g)=false→(((0:Int)≤a∧a<(((qo b).n:Nat):Int))∧((0:Int)≤a∧a<(((qo (eL b (G.lit ([(⟨9,a,0,0,0,0,⟨#[]⟩,⟨#[]⟩,⟨#[]⟩,0⟩:aJ),(⟨10,a,0,0,0,0,⟨#[]⟩,⟨#[]⟩,⟨#[]⟩,0⟩:aJ)]:List aJ)))).n:Nat):Int))))))) (cu (aG avA (aG avB (aG avC (aG Uh (aG avD aT)))))) Tryz.func4 (atl c.1 c.2)
end
theorem awF(A:G iw)(g:Int)(_:Canon A)(_:A.n≤1048576)(h:tK A)(q:kT g):SG A g=true:=by
 obtain⟨d,e,n,m,a,b,u,v,r,c,s,k,l⟩:=ahg h q;rw[←Mv d]at a;rw[←Mv e]at b;obtain⟨f,z,t,i,j,o⟩:=gz.mk.inj c;show awE (xj (eL (e9 A 80) (jE (a2 g 3)))) (xj (eL (eL (e9 A 80) (jE (a2 g 3))) (cs (a2 g 3) 0))) ((qo (eL (e9 A 80) (jE (a2 g 3)))).at' (toNat (a2 g 3))) ((qo (eL (eL (e9 A 80) (jE (a2 g 3))) (cs (a2 g 3) 0))).at' (toNat (a2 g 3)))=true;rw[agH d,agH e,a,b];have p:=aAN (a:=n.j) (b:=n.lt) o.symm (dB l (by decide));show(bif n.up then bif m.up then bif !(m.ro==3)then bif n.a6==m.a6 then bif AJ n.j n.lt n.li m.j m.lt m.li then bif decide (m.co≤n.co)then m.co==m.j else false else false else false else false else false else false)=true;rw[u,v,r,f,i,j,p,bS (show m.co≤n.co by omega),iM.2 (show m.co=n.j by omega)];simp
end Go.Proofs.YtfmgjpcmcjjoiaaGreatDoor
namespace Go.Proofs.YtfmgjpcmcjjoiaaGreatDoor
open Go Go.ChangeAt Go.ChangeShapes Go.RowKit Go.WideShapes Go.af
theorem SR:Tryz.prog.globalNamed "rostrum/client.nothing" =some 0:=by kernel_rfl
theorem aqk:(Tryz.prog.globals[0]?).map (·.type)=some 34:=by kernel_rfl
theorem ayh{W:World}(C:laidMetH Tryz.prog [("rostrum/client.nothing",Rows.laid_rostrum_client_nothing)] W):W.var? Tryz.prog "rostrum/client.nothing" =some #[.int .i64 22,.string ⟨#[]⟩,.string ⟨#[]⟩,.string ⟨#[]⟩,.int .i64 0]:=by
 have C:laidMet Tryz.prog [("rostrum/client.nothing",Rows.laid_rostrum_client_nothing)] W:=C
 obtain⟨V,⟨T,X,cs,S,p,q,O,P,Q,N,_,_⟩,_⟩:=C;obtain rfl:=jk (SR.symm.trans O);obtain rfl:=jk (aqk.symm.trans P);obtain⟨G,m,_,k,D,U,L⟩:=DataW.trod_struct Tryz.underlying34 N;have t:=congrArg Prod.fst k;simp only[Rows.laid_rostrum_client_nothing,DataW.agg.injEq]at t;have M:Tryz.prog.cellsOf 34=5:=by kernel_rfl
 rw[M]at D;have J: ∀(i:Nat) (f:Field) (x:DataW Unit),(Tryz.prog.underlying 34).map (fun d=>match d with| .struct v=>v[i]? |_=>none)=some (some f)→(G.map (·.1))[i]? =some x→ ∃y,DataW.trod (fun _=>()) Tryz.prog W 0 (fun _=>true) false m f.type ((cs.toList.drop f.offset).take (Tryz.prog.cellsOf f.type))=some y∧y.1=x:=by
  intro i f x j k;rw[Tryz.underlying34]at j;have j:=jk j;have:=L i f j;rw[gN,lM]at k;obtain⟨y,s,rfl⟩:=k;exact⟨y,this.trans s,rfl⟩
 have K:Tryz.prog.cellsOf 3=1:=by kernel_rfl
 have z:Tryz.prog.cellsOf 9=1:=by kernel_rfl
 have I: ∀(i:Nat) (f:Field) (n:Int),f.type=3→f.offset=i→(Tryz.prog.underlying 34).map (fun d=>match d with| .struct v=>v[i]? |_=>none)=some (some f)→(G.map (·.1))[i]? =some (.lit (.int .i64 n))→cs.toList[i]? =some (.int .i64 n):=by
  intro i f n w B j k;obtain⟨y,s,u⟩:=J i f _ j k;rw[w,B,K]at s;obtain⟨H,E,rfl,_⟩:=DataW.trod_int (show Tryz.prog.underlying 3=some (.int .i64) by kernel_rfl) s;simp only[DataW.lit.injEq,Lit.int.injEq,true_and]at u;subst u;have:=congrArg (·[0]?) E;simpa[G7,ou]using this
 have F: ∀(i:Nat) (f:Field),f.type=9→f.offset=i→(Tryz.prog.underlying 34).map (fun d=>match d with| .struct v=>v[i]? |_=>none)=some (some f)→(G.map (·.1))[i]? =some (.lit (.string []))→cs.toList[i]? =some (.string ⟨#[]⟩):=by
  intro i f w B j k;obtain⟨y,s,u⟩:=J i f _ j k;rw[w,B,z]at s;obtain⟨H,E,rfl,_⟩:=DataW.trod_string (show Tryz.prog.underlying 9=some .string by kernel_rfl) s;simp only[DataW.lit.injEq,Lit.string.injEq]at u;have R:H=⟨#[]⟩:=by
   obtain⟨⟨l⟩⟩:=H;simp only at u;subst u;rfl
  subst R;have:=congrArg (·[0]?) E;simpa[G7,ou]using this
 have A:=I 0 _ 22 rfl rfl (by rw[Tryz.underlying34];rfl) (by rw[←t];rfl);have g:=F 1 _ rfl rfl (by rw[Tryz.underlying34];rfl) (by rw[←t];rfl);have r:=F 2 _ rfl rfl (by rw[Tryz.underlying34];rfl) (by rw[←t];rfl);have h:=F 3 _ rfl rfl (by rw[Tryz.underlying34];rfl) (by rw[←t];rfl);have o:=I 4 _ 0 rfl rfl (by rw[Tryz.underlying34];rfl) (by rw[←t];rfl);rw[Q];obtain⟨l⟩:=cs;simp only at D A g r h o
 match l,D with
 |[a,b,c,d,e],_=>
  simp at A g r h o;subst A g r h o;rfl
theorem ayi{W:World}(h:laidMetH Tryz.prog [("rostrum/client.nothing",Rows.laid_rostrum_client_nothing)] W):Cn W (fun y=>y<W.heap.size):=by
 have b:=ayh h;refine⟨fun _ h=>h,fun g=> ?_⟩
 cases g with
 |succ g=>exact .inl rfl
 |zero=>
  refine .inr ?_;have c:=fun i=>World.var?_cell SR b i;have d:0<W.heap.size:=by
   have f:=c 0;rcases vC W.heap.size with e|e
   ·have:W.heap[0]? =none:=Nh (by omega);unfold World.var? at b;rw[SR]at b;simp only[Option.bind_some,this]at b
    cases b
   ·exact e
  refine aR.ref _ 0 0 (fun j=>([.int .i64 22,.str ⟨#[]⟩,.str ⟨#[]⟩,.str ⟨#[]⟩,.int .i64 0]:List J).getD j .undef) (fun j=>([.int .i64 22,.string ⟨#[]⟩,.string ⟨#[]⟩,.string ⟨#[]⟩,.int .i64 0]:List Value).getD j undef) d ?_ ?_ ?_
  ·intro j a;have a:j<5:=a
   match j,a with
   |0,_=>rfl
   |1,_=>rfl
   |2,_=>rfl
   |3,_=>rfl
   |4,_=>rfl
  ·intro j a;have a:j<5:=a;rw[c1,c j]
   match j,a with
   |0,_=>rfl
   |1,_=>rfl
   |2,_=>rfl
   |3,_=>rfl
   |4,_=>rfl
  ·intro j a;have a:j<5:=a
   match j,a with
   |0,_=>exact .int _ _
   |1,_=>exact .str _ (cf _)
   |2,_=>exact .str _ (cf _)
   |3,_=>exact .str _ (cf _)
   |4,_=>exact .int _ _
theorem azJ:MQ Tryz.prog 1048576 12 [22,3] fun F=>e1 Tryz.prog 4 F (.bool true):=by
 refine Eq.mpr (β:= ∀(b:Nat) (a:Nat→List J),b≤1048576→(∀i,b≤i→a i=[.int .i64 0,.int .i64 0,.int .i64 0,.int .i64 0,.int .i64 0,.int .i64 0,.int .i64 0,.str ⟨#[]⟩])→(∀i,i<b→ ∀K:List J→Prop,(∀A:Int,(Lit.int .i64 A).wf=true→ ∀g:Int,(Lit.int .i64 g).wf=true→ ∀r:Int,(Lit.int .i64 r).wf=true→ ∀h:Int,(Lit.int .i64 h).wf=true→ ∀o:Int,(Lit.int .i64 o).wf=true→ ∀c:Int,(Lit.int .i64 c).wf=true→ ∀v:Int,(Lit.int .i64 v).wf=true→ ∀y:ByteArray,y.size≤1048576→K [.int .i64 A,.int .i64 g,.int .i64 r,.int .i64 h,.int .i64 o,.int .i64 c,.int .i64 v,.str y])→K (a i))→ ∀g:Int,(Lit.int .i64 g).wf=true→e1 Tryz.prog 4 [.arr 8 b a,.int .i64 g] (.bool true)) (by kernel_rfl) ?_;intro b a w s k g e;have E:=yF e;have x: ∀i,i<b→a i=zi (mF (a i)):=fun i d=>k i d (fun l=>l=zi (mF l)) (fun _ _ _ _ _ _ _ _ _ _ _ _ _ _ _ _=>rfl);have p: ∀i,i<b→a i=zi (mF (a i)):=fun i d=>x i d;have n:Canon (h6 mF (.arr 8 b a)):=fun i d=>by
  show mF (a i)=default;rw[s i d];rfl
 have m:tK (h6 mF (.arr 8 b a)):=⟨(by show b≤_;omega),fun j u=>by
  exact k j u (fun l=>Ok (mF l)) (fun A z g e r B h C o G c H v D y I=>⟨yF z,yF e,yF B,yF C,yF D⟩)⟩
 have q:e1 Tryz.prog 4 [aI 8 zi (h6 mF (.arr 8 b a)),.int .i64 g] (.bool (SG (h6 mF (.arr 8 b a)) g)):=e1.mH fun t=>azB (h6 mF (.arr 8 b a)) (by show _≤_;simp only[h6];omega) t.1 g ⟨m,E⟩;have f:=q.ah3 (nn (aAY rfl p) (nn alQ avW));rw[awF (h6 mF (.arr 8 b a)) g n w m (yF e)]at f;exact f
def Uu(a:Os):World:=
 {World.holding Tryz.prog a ⟨#[],#[],[]⟩with heap:=(World.holding Tryz.prog a ⟨#[],#[],[]⟩).heap.modify 0 fun
   | .cells _ t frozen=> .cells #[.int .i64 22,.string ⟨#[]⟩,.string ⟨#[]⟩,.string ⟨#[]⟩,.int .i64 0] t frozen
   |o=>o}
theorem awD(a:Os):laidMet Tryz.prog Rows.topSafeUptoRow.laid ((Uu a).forCall (fun _ _=>0) ⟨#[],#[.slice none 0 0,.int .i64 0],[]⟩).memory:=
 laidMet_of_run' 8 (by kernel_rfl) (by kernel_rfl)
theorem awI(a:Os){H:Type}(enc:TypeId×Value→H): ∃b,DataW.whole enc Tryz.prog ((Uu a).forCall (fun _ _=>0) ⟨#[],#[.slice none 0 0,.int .i64 0],[]⟩).memory Tryz.f4.params.toList Rows.topSafeSpec.vars false (#[.slice none 0 0,.int .i64 0]:Array Value).toList 8=some ([.nil,.lit (.int .i64 0)],[],b):=
 ⟨[],by kernel_rfl⟩
theorem aBD(a:Os)(q:a.Started)(H:Type)(enc:TypeId×Value→H)(F:Stop.Interp):
  ReturnsInHanded {} Tryz.checked a 4 .any ((Rows.OpenSpec.upto Rows.topSafeSpec).preRow enc Tryz.prog Tryz.f4 Rows.topSafeUptoRow.domain false Rows.topSafeUptoRow.laid) (((Rows.OpenSpec.upto Rows.topSafeSpec).at F).post enc Tryz.prog Tryz.f4 false true false false):=by
 obtain⟨u,p⟩:=awI a enc;refine returnsInHanded_of_row (C:=Tryz.checked) (s:=Rows.OpenSpec.upto Rows.topSafeSpec) Tryz.own q (by kernel_rfl) Tryz.func4
  (witness_row_at (enc:=enc) (C:=Tryz.checked) false (Uu a) #[.slice none 0 0,.int .i64 0] rfl (by kernel_rfl) (by kernel_rfl) (by kernel_rfl)
   (OpenSpec.preRow_of_cond 8 p (by kernel_rfl) (fun k m=>by cases m;kernel_rfl) (by kernel_rfl) (awD a))) ?_
 intro W base c b f e o i _ j _ g _ _;exact awG (P:=Tryz.prog) (fn:=Tryz.f4) (s:=Rows.topSafeSpec) (n:=12) (B:=1048576) (iT:=Rows.uptoBulk) (fu:=4) (bc:=[22,3]) (by decide) (ams H) rfl ad9 (by kernel_rfl) (by kernel_rfl) rfl (by kernel_rfl) rfl (fun b h=>by
  match b,h with
  |[r,t],_=>rfl) azJ W base c b f e o i (fun d l=>amu (j _ rfl) d (by simp [l])) (ayi g)
theorem atI:joinedFacts Tryz.prog 4 Tryz.f4 Rows.topSafeSpec Rows.topSafeUptoRow=true:=
 atJ (by kernel_rfl) ad9 atF (by kernel_rfl) (by kernel_rfl) rfl atG rfl atH (by kernel_rfl) (by kernel_rfl) (by kernel_rfl) (by kernel_rfl) (by kernel_rfl) (by kernel_rfl) (by kernel_rfl) (by kernel_rfl) (by kernel_rfl)
  (by kernel_rfl) (by kernel_rfl) (by kernel_rfl) (by kernel_rfl) (by rw[atA];rfl) rfl atB atC (by rw[atD];rfl) (by rw[atE];rfl) (by kernel_rfl) (by kernel_rfl) (by kernel_rfl) (by kernel_rfl)
theorem aBE:Rows.TopSafeUptoSaid:=
 OpenClaim.holds_of_cond 4 Tryz.f4 rfl rfl rfl rfl rfl rfl rfl ⟨rfl,rfl,rfl,rfl,rfl⟩ rfl rfl rfl rfl rfl (by kernel_rfl) Tryz.func4 atI
  (al (by kernel_rfl)) (by unfold Func.isWrapper;first|(rw[bf (by decide+kernel)];kernel_rfl)|(rw[a7 (by decide+kernel)];exact⟨rfl,rfl⟩))
  (fun a b H enc _ F=>by rw[OpenClaim.pre_eq_preRow];exact aBD a b H enc F)
theorem awH(f:FuncId)(b:Func)(c:Tryz.pinned.checked.prog.funcNamed "rostrum/rostrumtop.TopSafe" =some f)(d:Tryz.pinned.checked.prog.funcs[f]? =some b):
  false=Tryz.pinned.checked.prog.looks []∧ ∀(j:Nat) t,b.params[j]? =some t→Tryz.pinned.checked.prog.wantsStandIn t=false:=by
 obtain rfl:f=4:=jk ((show Tryz.prog.funcNamed "rostrum/rostrumtop.TopSafe" =some 4 by kernel_rfl).symm.trans c)|>.symm
 obtain rfl:b=Tryz.f4:=(jk (Tryz.func4.symm.trans d)).symm;refine⟨by kernel_rfl,fun j t e=> ?_⟩;have a:t∈Tryz.f4.params.toList:=by have:=Array.mem_of_getElem? e;simpa using this
 have a:t∈([22,3]:List Nat):=a;simp only[hS,yL,or_false]at a;rcases a with rfl|rfl
 ·exact(show Tryz.prog.wantsStandIn 22=false by kernel_rfl)
 ·exact(show Tryz.prog.wantsStandIn 3=false by kernel_rfl)
theorem topSafe_holds:Rows.TopSafeUptoCardSaid:=
 Claim7.holds_tied_plain_at .later [] _ _ _ _ aBE (fun _ h=>by cases h) (by kernel_rfl) (fun _ h=>by cases h) topSafeUpto_row_tie rfl ⟨rfl,rfl⟩ (by kernel_rfl) rfl awH (by kernel_rfl)
end Go.Proofs.YtfmgjpcmcjjoiaaGreatDoor
