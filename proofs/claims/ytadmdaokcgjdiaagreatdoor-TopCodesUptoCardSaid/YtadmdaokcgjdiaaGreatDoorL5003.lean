/- rostrum/rostrumtop.TopCodes: it answers true, as the document says, for every input whose bulk is at most 1048576; the card ties what client.nothing holds. -/
import Derived.Test.YtadmdaokcgjdiaaGreatDoorXc
import Derived.Test.YtadmdaokcgjdiaaGreatDoorXz
import Derived.Deep.DeepHandedRow
import Derived.Lib.LaidTab
import Derived.Test.YtadmdaokcgjdiaaGreatDoorCards
import Derived.Test.YtadmdaokcgjdiaaGreatDoorTie
open Go.IntKind (i64 u64 u8)
open Int (toNat)
set_option maxRecDepth 100000
set_option maxHeartbeats 4000000
set_option linter.all false
noncomputable section
namespace Go.Proofs.YtadmdaokcgjdiaaGreatDoor
open Go Go.RowKit Go.af
section
variable {A:G hZ} {g:Int}
abbrev l5(A:G hZ)(g:Int):G a7:=n_ (dw A 60) (G.lit ([Af (a8 g 3)]:List a7))
abbrev pg(g:Int):Int:=(i64 ((a8 g 3)+1)).tmod 3
def ayu{i:Int}(h:0<=i/\i<3):0<=(i64 (i+1)).tmod 3/\(i64 (i+1)).tmod 3<3/\(i64 (i+1)).tmod 3≠i:=by
 rw[E (i+1)];have e:i=0\/i=1\/i=2:=by omega
 rcases e with rfl|rfl|rfl<;>decide
def avU{i j M k q1 m n o p:Prop}(h:sw A)(l:kM g):(0<(3:Int))/\((((dw A 60).n:Nat):Int)+1<=549755813888)/\(i->j->(((3:Int)≠0)/\((0<=pg g/\pg g<(((gA (dw A 60)).n:Nat):Int))/\(((3:Int)≠0)/\((0<=pg g/\pg g<(((gA (l5 A g)).n:Nat):Int))/\(gA (dw A 60)).at' (toNat (pg g))=(gA (l5 A g)).at' (toNat (pg g)))))))/\
  (M->(((0<=a8 g 3/\a8 g 3<(((gA (dw A 60)).n:Nat):Int))/\(((gA (dw A 60)).at' (toNat (a8 g 3))).z=true->(q1->((0<=a8 g 3/\a8 g 3<(((gA (l5 A g)).n:Nat):Int))/\(0<=a8 g 3/\a8 g 3<(((gA (dw A 60)).n:Nat):Int))))))/\(((gA (dw A 60)).at' (toNat (a8 g 3))).z=false->((m->((0<=a8 g 3/\a8 g 3<(((gA (dw A 60)).n:Nat):Int))/\((0<=a8 g 3/\a8 g 3<(((gA (l5 A g)).n:Nat):Int))/\(gA (dw A 60)).at' (toNat (a8 g 3))=(gA (l5 A g)).at' (toNat (a8 g 3)))))/\(k->((0<=((hR (dw A 60)).n:Int)/\((hR (dw A 60)).n:Int)<(((hR (l5 A g)).n:Nat):Int))/\((0<=a8 g 3/\a8 g 3<(((gA (dw A 60)).n:Nat):Int))/\((n->(o->(0<=a8 g 3/\a8 g 3<(((gA (dw A 60)).n:Nat):Int))))/\(p->(0<=a8 g 3/\a8 g 3<(((gA (dw A 60)).n:Nat):Int))))))))))):=by
 obtain⟨b,s,d,f,Q⟩:=aa2 h l;have a:0<=pg g/\pg g<3/\pg g≠a8 g 3:=ayu b;rw[Of d,Of f,Oe d,Oe f];rw[Ds _ (show toNat (a8 g 3)<3 by omega),Ds _ (show toNat (a8 g 3)<3 by omega),Ds _ (show toNat (pg g)<3 by omega),Ds _ (show toNat (pg g)<3 by omega),Q.o (toNat (pg g)) Ω Ω];have r:0<=a8 g 3/\a8 g 3<(((3:Nat):Nat):Int):=b;refine⟨Δ,Ω,λ_ _=>⟨Δ,⟨a.1,a.2.1⟩,Δ,⟨a.1,a.2.1⟩,rfl⟩,λ_=>⟨⟨r,λ_ _=>⟨r,r⟩⟩,λc=> ?_⟩⟩;have q:=Q.n λe=>by
  have c:(((kQ (dw A 60).B).d (toNat (a8 g 3))).ro==3)=false:=c;rw[e]at c;cases c
 refine⟨λ_=>⟨r,r,by rw[q.1]⟩,λ_=>⟨⟨Int.natCast_nonneg _,?_⟩,r,λ_ _=>r,λ_=>r⟩⟩;rw[q.2];show(_:Int)<((_+1:Nat):Int);omega
def apk(A:G hZ)(g:Int)(_:Canon A)(_:A.n<=1048576)(h:sw A)(m:kM g):(bif(cond (!(tw (dw A 60))) true (cond (!(tw (l5 A g))) true false))then false else(bif((gA (dw A 60)).at' (toNat (a8 g 3))).z then(cond (((hR (l5 A g)).n:Int)==((hR (dw A 60)).n:Int)) ((((gA (l5 A g)).at' (toNat (a8 g 3))).P.n:Int)==(i64 ((((gA (dw A 60)).at' (toNat (a8 g 3))).P.n:Int)+1))) false)
  else(bif(cond (((hR (l5 A g)).n:Int)!=(i64 (((hR (dw A 60)).n:Int)+1))) true false)then false else(bif((gA (dw A 60)).at' (toNat (a8 g 3))).q then(cond (((hR (l5 A g)).at' (toNat ((hR (dw A 60)).n:Int))).f==12) true (cond (!((gA (dw A 60)).at' (toNat (a8 g 3))).q) (((hR (l5 A g)).at' (toNat ((hR (dw A 60)).n:Int))).f==13) false))
   else(cond (!((gA (dw A 60)).at' (toNat (a8 g 3))).q) (((hR (l5 A g)).at' (toNat ((hR (dw A 60)).n:Int))).f==13) false)))))=true:=by
 obtain⟨o,p,c,d,Q⟩:=aa2 h m;have J:=aba c;rw[aiE c,aiE d,Of c,Of d,Ds _ (show toNat (a8 g 3)<3 by omega),Ds _ (show toNat (a8 g 3)<3 by omega)];simp only[Bool.not_true,aX];have i:=aDe d;have k:=Oe c;have f:=Oe d;have j:=(J.d (toNat (a8 g 3))).gG;have n:=J.qE;generalize hR (l5 A g)=T at i f |-;generalize kQ (l5 A g).B=D at Q i f |-;generalize kQ (dw A 60).B=C at Q k j n |-;generalize toNat (a8 g 3)=u at Q j |-;rw[k];show(cond ((C.d u).ro==3) (cond ((T.n:Int)==(C.told.n:Int)) (((D.d u).li.n:Int)==i64 (((C.d u).li.n:Int)+1)) false) (cond (cond ((T.n:Int)!=i64 ((C.told.n:Int)+1)) true false) false (cond (C.d u).up (cond ((T.at' (toNat (C.told.n:Int))).f==12) true (cond (!(C.d u).up) ((T.at' (toNat (C.told.n:Int))).f==13) false)) (cond (!(C.d u).up) ((T.at' (toNat (C.told.n:Int))).f==13) false))))=true
 by_cases r:(C.d u).ro=3
 .obtain⟨a,b⟩:=Q.l r;rw[r,f,a,b,E (((C.d u).li.n:Int)+1)];simp
 .obtain⟨a,b⟩:=Q.n r;have e:T.at' C.told.n=ajF (C.d u) (cond (C.d u).up 12 13):=by
   refine q3 ?_;rw[i,b,iL,iq,zW (by rw[bc];exact bN _),bc,Nat.sub_self];rfl
  have l:T.n=C.told.n+1:=by rw[f,b];rfl
  rw[fl.2 r,show toNat (C.told.n:Int)=C.told.n from rfl,e,l,E ((C.told.n:Int)+1),show(((C.told.n+1:Nat):Int)!=(C.told.n:Int)+1)=false by simp]
  cases (C.d u).up<;>rfl
end
section
variable(A:G hZ)(g:Int)
def aeE:Bool:=(cond (!(tw (dw A 60))) true (cond (!(tw (n_ (dw A 60) (G.lit ([(⟨1,(a8 g 3),0,0,0,0,⟨#[]⟩,⟨#[]⟩,⟨#[]⟩,0⟩:a7)]:List a7))))) true false))
def asl:Bool:=let b:=toNat (a8 g 3);let a:=n_ (dw A 60) (G.lit ([(⟨1,(a8 g 3),0,0,0,0,⟨#[]⟩,⟨#[]⟩,⟨#[]⟩,0⟩:a7)]:List a7));(cond (((hR a).n:Int)==((hR (dw A 60)).n:Int)) ((((gA a).at' b).P.n:Int)==(i64 ((((gA (dw A 60)).at' b).P.n:Int)+1))) false)
def aeF:Bool:=(cond (((hR (n_ (dw A 60) (G.lit ([(⟨1,(a8 g 3),0,0,0,0,⟨#[]⟩,⟨#[]⟩,⟨#[]⟩,0⟩:a7)]:List a7)))).n:Int)!=(i64 (((hR (dw A 60)).n:Int)+1))) true false)
def asm:Bool:=let d:=gA (dw A 60);let b:=d.at' (toNat (a8 g 3));let c:=hR (n_ (dw A 60) (G.lit ([(⟨1,(a8 g 3),0,0,0,0,⟨#[]⟩,⟨#[]⟩,⟨#[]⟩,0⟩:a7)]:List a7)));let a:=c.at' (toNat ((hR (dw A 60)).n:Int));(cond b.q (cond (a.f==12) true (cond (!b.q) (a.f==13) false)) (cond (!b.q) (a.f==13) false))
def UD:Bool:=(cond (aeE A g) false (cond ((gA (dw A 60)).at' (toNat (a8 g 3))).z (asl A g) (cond (aeF A g) false (asm A g))))
def anh:bq:=⟨[.v (.ab Pd),.v a],λA (g:Int)=>⟨⟨some (sw A/\kM g),.bool (UD A g)⟩⟩⟩
def aCh:IG 3 anh:=
 λA r _ (g:Int) n=>bD ⟨.pure,[.tmp 4],[(.t 0,K)],⟨[U],[]⟩⟩ (.ae (.ae (.ae (.ae (.ae (.s (.j ⟨9007199254741680,[.b 0,.b 2,.b 3],[(.t 53,K)],[],.f⟩ .z .z) (.s (.ae (.s (.j ⟨688,[],[(.t 4,K)],[],.f⟩ .z .z) .z)) (.s (.j ⟨324518553658426726783156020576944,[],[(.t 108,K)],[],.f⟩ .z .z) (.ae (.j ⟨16,[.b 1,.b 4],[(.t 4,K)],[],.f⟩ .z .z)))))))))) (let j:=dw A 60;let i:=hR j;let a:=a8 g 3;let q:=i64 (a+1);let k:=q.tmod 3;let p:=toNat a;let f:=gA j;let b:=f.at' p;let o:=toNat k;let c:=f.at' o;let m:=n_ j (G.lit ([(⟨1,a,0,0,0,0,⟨#[]⟩,⟨#[]⟩,⟨#[]⟩,0⟩:a7)]:List a7));let l:=hR m;let h:=gA m;let e:=h.at' p;let d:=h.at' o;(0<(3:Int))/\(((j.n:Int)+1<=549755813888)/\(((!(tw j))=false->((!(tw m))=false->(((3:Int)≠0)/\(((0:Int)<=k/\k<(f.n:Int))/\(((3:Int)≠0)/\(((0:Int)<=k/\k<(h.n:Int))/\((⟨c.q,c.F,c.z,c.M,c.w,c.C,c.P,c.aw,c.f,c.aD,c.bX⟩:hL)=(⟨d.q,d.F,d.z,d.M,d.w,d.C,d.P,d.aw,d.f,d.aD,d.bX⟩:hL))))))))/\((aeE A g)=false->((((0:Int)<=a/\a<(f.n:Int))/\(b.z=true->(((l.n:Int)==(i.n:Int))=true->(((0:Int)<=a/\a<(h.n:Int))/\((0:Int)<=a/\a<(f.n:Int))))))/\(b.z=false->((((l.n:Int)!=(i64 ((i.n:Int)+1)))=false->(((0:Int)<=a/\a<(f.n:Int))/\(((0:Int)<=a/\a<(h.n:Int))/\((⟨b.q,b.F,b.z,b.M,b.w,b.C,b.P,b.aw,b.f,b.aD,b.bX⟩:hL)=(⟨e.q,e.F,e.z,e.M,e.w,e.C,e.P,e.aw,e.f,e.aD,e.bX⟩:hL)))))/\((aeF A g)=false->(((0:Int)<=(i.n:Int)/\(i.n:Int)<(l.n:Int))/\(((0:Int)<=a/\a<(f.n:Int))/\((b.q=true->(((l.at' (toNat (i.n:Int))).f==12)=false->((0:Int)<=a/\a<(f.n:Int))))/\(b.q=false->((0:Int)<=a/\a<(f.n:Int)))))))))))))) (ct (aJ ax3 (aJ ax4 (aJ ax5 (aJ V5 (aJ ax7 a2)))))) Tryz.func3 (avU n.1 n.2)
end
def aze(A:G hZ)(g:Int)(b:Canon A)(c:A.n<=1048576)(h:sw A)(a:kM g):UD A g=true:=apk A g b c h a
end Go.Proofs.YtadmdaokcgjdiaaGreatDoor
namespace Go.Proofs.YtadmdaokcgjdiaaGreatDoor
open Go Go.ChangeAt Go.ChangeShapes Go.RowKit Go.WideShapes Go.af
def UJ:Tryz.prog.globalNamed "rostrum/client.nothing" =some 0:=by kernel_rfl
def asx:(Tryz.prog.globals[0]?).map (·.type)=some 35:=by kernel_rfl
def aAV{W:World}(C:laidMetH Tryz.prog [("rostrum/client.nothing",Rows.laid_rostrum_client_nothing)] W):W.var? Tryz.prog "rostrum/client.nothing" =some #[.int .i64 22,.string ⟨#[]⟩,.string ⟨#[]⟩,.string ⟨#[]⟩,.int .i64 0]:=by
 have C:laidMet Tryz.prog [("rostrum/client.nothing",Rows.laid_rostrum_client_nothing)] W:=C
 obtain⟨V,⟨T,t',cs,S,p,q,O,P,Q,N,_,_⟩,_⟩:=C;obtain rfl:=jM (UJ.symm.trans O);obtain rfl:=jM (asx.symm.trans P);obtain⟨G,m,_,k,D,U,L⟩:=DataW.trod_struct Tryz.underlying35 N;have t:=congrArg Prod.fst k;simp only[Rows.laid_rostrum_client_nothing,DataW.agg.injEq]at t;have M:Tryz.prog.cellsOf 35=5:=by kernel_rfl
 rw[M]at D;have J: ∀(i:Nat) (f:Field) (x:DataW Unit),(Tryz.prog.underlying 35).map (λd=>match d with| .struct v=>v[i]? |_=>none)=some (some f)->(G.map (·.1))[i]? =some x-> ∃y,DataW.trod (λ_=>()) Tryz.prog W 0 (λ_=>true) false m f.type ((cs.toList.drop f.offset).take (Tryz.prog.cellsOf f.type))=some y/\y.1=x:=by
  intro i f x j k;rw[Tryz.underlying35]at j;have j:=jM j;have:=L i f j;rw[g_,mC]at k;obtain⟨y,s,rfl⟩:=k;exact⟨y,this.trans s,rfl⟩
 have K:Tryz.prog.cellsOf 3=1:=by kernel_rfl
 have z:Tryz.prog.cellsOf 9=1:=by kernel_rfl
 have I: ∀(i:Nat) (f:Field) (n:Int),f.type=3->f.offset=i->(Tryz.prog.underlying 35).map (λd=>match d with| .struct v=>v[i]? |_=>none)=some (some f)->(G.map (·.1))[i]? =some (.lit (.int .i64 n))->cs.toList[i]? =some (.int .i64 n):=by
  intro i f n w B j k;obtain⟨y,s,u⟩:=J i f _ j k;rw[w,B,K]at s;obtain⟨H,E,rfl,_⟩:=DataW.trod_int (show Tryz.prog.underlying 3=some (.int .i64) by kernel_rfl) s;simp only[DataW.lit.injEq,Lit.int.injEq,true_and]at u;subst u;have:=congrArg (·[0]?) E;simpa[IK,pv]using this
 have F: ∀(i:Nat) (f:Field),f.type=9->f.offset=i->(Tryz.prog.underlying 35).map (λd=>match d with| .struct v=>v[i]? |_=>none)=some (some f)->(G.map (·.1))[i]? =some (.lit (.string []))->cs.toList[i]? =some (.string ⟨#[]⟩):=by
  intro i f w B j k;obtain⟨y,s,u⟩:=J i f _ j k;rw[w,B,z]at s;obtain⟨H,E,rfl,_⟩:=DataW.trod_string (show Tryz.prog.underlying 9=some .string by kernel_rfl) s;simp only[DataW.lit.injEq,Lit.string.injEq]at u;have R:H=⟨#[]⟩:=by
   obtain⟨⟨l⟩⟩:=H;simp only at u;subst u;rfl
  subst R;have:=congrArg (·[0]?) E;simpa[IK,pv]using this
 have A:=I 0 _ 22 rfl rfl (by rw[Tryz.underlying35];rfl) (by rw[<-t];rfl);have g:=F 1 _ rfl rfl (by rw[Tryz.underlying35];rfl) (by rw[<-t];rfl);have r:=F 2 _ rfl rfl (by rw[Tryz.underlying35];rfl) (by rw[<-t];rfl);have h:=F 3 _ rfl rfl (by rw[Tryz.underlying35];rfl) (by rw[<-t];rfl);have o:=I 4 _ 0 rfl rfl (by rw[Tryz.underlying35];rfl) (by rw[<-t];rfl);rw[Q];obtain⟨l⟩:=cs;simp only at D A g r h o
 match l,D with
 |[a,b,c,d,e],_=>
  simp at A g r h o;subst A g r h o;rfl
def aAW{W:World}(h:laidMetH Tryz.prog [("rostrum/client.nothing",Rows.laid_rostrum_client_nothing)] W):DJ W (λy=>y<W.heap.size):=by
 have b:=aAV h;refine⟨λ_ h=>h,λg=> ?_⟩
 cases g with
 |succ g=>exact .inl rfl
 |zero=>
  refine .inr ?_;have c:=λi=>World.var?_cell UJ b i;have d:0<W.heap.size:=by
   have f:=c 0;rcases wX W.heap.size with e|e
   .have:W.heap[0]? =none:=O2 Ω;unfold World.var? at b;rw[UJ]at b;simp only[Option.bind_some,this]at b
    cases b
   .exact e
  refine a1.ref _ 0 0 (λj=>([.int .i64 22,.str ⟨#[]⟩,.str ⟨#[]⟩,.str ⟨#[]⟩,.int .i64 0]:List J).getD j .undef) (λj=>([.int .i64 22,.string ⟨#[]⟩,.string ⟨#[]⟩,.string ⟨#[]⟩,.int .i64 0]:List Value).getD j undef) d ?_ ?_ ?_
  .intro j a;have a:j<5:=a
   match j,a with
   |0,_=>rfl
   |1,_=>rfl
   |2,_=>rfl
   |3,_=>rfl
   |4,_=>rfl
  .intro j a;have a:j<5:=a;rw[db,c j]
   match j,a with
   |0,_=>rfl
   |1,_=>rfl
   |2,_=>rfl
   |3,_=>rfl
   |4,_=>rfl
  .intro j a;have a:j<5:=a
   match j,a with
   |0,_=>exact .int _ _
   |1,_=>exact .str _ (cp _)
   |2,_=>exact .str _ (cp _)
   |3,_=>exact .str _ (cp _)
   |4,_=>exact .int _ _
def aCq:OF Tryz.prog 1048576 12 [22,3] λF=>fo Tryz.prog 3 F (.bool true):=by
 refine Eq.mpr (β:= ∀(b:Nat) (a:Nat->List J),b<=1048576->(∀i,b<=i->a i=[.int .i64 0,.int .i64 0,.int .i64 0,.int .i64 0,.int .i64 0,.int .i64 0,.int .i64 0,.str ⟨#[]⟩])->(∀i,i<b-> ∀K:List J->Prop,(∀A:Int,(Lit.int .i64 A).wf=true-> ∀g:Int,(Lit.int .i64 g).wf=true-> ∀r:Int,(Lit.int .i64 r).wf=true-> ∀h:Int,(Lit.int .i64 h).wf=true-> ∀o:Int,(Lit.int .i64 o).wf=true-> ∀c:Int,(Lit.int .i64 c).wf=true-> ∀v:Int,(Lit.int .i64 v).wf=true-> ∀y:ByteArray,y.size<=1048576->K [.int .i64 A,.int .i64 g,.int .i64 r,.int .i64 h,.int .i64 o,.int .i64 c,.int .i64 v,.str y])->K (a i))-> ∀g:Int,(Lit.int .i64 g).wf=true->fo Tryz.prog 3 [.arr 8 b a,.int .i64 g] (.bool true)) Ξ ?_;intro b a w s k g e;have E:=zT e;have x: ∀i,i<b->a i=AI (nA (a i)):=λi d=>k i d (λl=>l=AI (nA l)) (λ_ _ _ _ _ _ _ _ _ _ _ _ _ _ _ _=>rfl);have p: ∀i,i<b->a i=AI (nA (a i)):=λi d=>x i d;have n:Canon (iF nA (.arr 8 b a)):=λi d=>by
  show nA (a i)=default;rw[s i d];rfl
 have m:sw (iF nA (.arr 8 b a)):=⟨(by show b<=_;omega),λj u=>by
  exact k j u (λl=>DL (nA l)) (λA z g e r B h C o G c H v D y I=>⟨zT z,zT e,zT B,zT C,zT D⟩)⟩
 have q:fo Tryz.prog 3 [aP 8 AI (iF nA (.arr 8 b a)),.int .i64 g] (.bool (UD (iF nA (.arr 8 b a)) g)):=fo.nD λt=>aCh (iF nA (.arr 8 b a)) (by show _<=_;simp only[iF];omega) t.1 g ⟨m,E⟩;have f:=q.aj3 (m_ (aDz rfl p) (m_ an1 ayv));rw[aze (iF nA (.arr 8 b a)) g n w m (zT e)]at f;exact f
def Wh(a:Os):World:=
 {World.holding Tryz.prog a ⟨#[],#[],[]⟩with heap:=(World.holding Tryz.prog a ⟨#[],#[],[]⟩).heap.modify 0 λ
   | .cells _ t frozen=> .cells #[.int .i64 22,.string ⟨#[]⟩,.string ⟨#[]⟩,.string ⟨#[]⟩,.int .i64 0] t frozen
   |o=>o}
def azc(a:Os):laidMet Tryz.prog Rows.topCodesUptoRow.laid ((Wh a).forCall (λ_ _=>0) ⟨#[],#[.slice none 0 0,.int .i64 0],[]⟩).memory:=
 laidMet_of_run' 8 Ξ Ξ
def azh(a:Os){H:Type}(enc:TypeId×Value->H): ∃b,DataW.whole enc Tryz.prog ((Wh a).forCall (λ_ _=>0) ⟨#[],#[.slice none 0 0,.int .i64 0],[]⟩).memory Tryz.f3.params.toList Rows.topCodesSpec.vars false (#[.slice none 0 0,.int .i64 0]:Array Value).toList 8=some ([.nil,.lit (.int .i64 0)],[],b):=
 ⟨[],Ξ⟩
def aEg(a:Os)(q:a.Started)(H:Type)(enc:TypeId×Value->H)(F:Stop.Interp):
  ReturnsInHanded {} Tryz.checked a 3 .any ((Rows.OpenSpec.upto Rows.topCodesSpec).preRow enc Tryz.prog Tryz.f3 Rows.topCodesUptoRow.domain false Rows.topCodesUptoRow.laid) (((Rows.OpenSpec.upto Rows.topCodesSpec).at F).post enc Tryz.prog Tryz.f3 false true false false):=by
 obtain⟨u,p⟩:=azh a enc;refine returnsInHanded_of_row (C:=Tryz.checked) (s:=Rows.OpenSpec.upto Rows.topCodesSpec) Tryz.own q Ξ Tryz.func3
  (witness_row_at (enc:=enc) (C:=Tryz.checked) false (Wh a) #[.slice none 0 0,.int .i64 0] rfl Ξ Ξ Ξ
   (OpenSpec.preRow_of_cond 8 p Ξ (λk m=>by cases m;kernel_rfl) Ξ (azc a))) ?_
 intro W base c b f e o i _ j _ g _ _;exact azf (P:=Tryz.prog) (fn:=Tryz.f3) (s:=Rows.topCodesSpec) (n:=12) (B:=1048576) (jw:=Rows.uptoBulk) (ga:=4) (br:=[22,3]) Δ (aoC H) rfl aga Ξ Ξ rfl Ξ rfl (λb h=>by
  match b,h with
  |[r,t],_=>rfl) aCq W base c b f e o i (λd l=>aoE (j _ rfl) d (by simp [l])) (aAW g)
def awf:joinedFacts Tryz.prog 3 Tryz.f3 Rows.topCodesSpec Rows.topCodesUptoRow=true:=
 awg Ξ aga awc Ξ Ξ rfl awd rfl awe Ξ Ξ Ξ Ξ Ξ Ξ Ξ Ξ Ξ
  Ξ Ξ Ξ Ξ (by rw[av8];rfl) rfl av9 av_ (by rw[awa];rfl) (by rw[awb];rfl) Ξ Ξ Ξ Ξ
def aEh:Rows.TopCodesUptoSaid:=
 OpenClaim.holds_of_cond 3 Tryz.f3 rfl rfl rfl rfl rfl rfl rfl ⟨rfl,rfl,rfl,rfl,rfl⟩ rfl rfl rfl rfl rfl Ξ Tryz.func3 awf
  (an Ξ) (by unfold Func.isWrapper;first|(rw[a5 (by decide+kernel)];kernel_rfl)|(rw[aS (by decide+kernel)];exact⟨rfl,rfl⟩))
  (λa b H enc _ F=>by rw[OpenClaim.pre_eq_preRow];exact aEg a b H enc F)
def azg(f:FuncId)(b:Func)(c:Tryz.pinned.checked.prog.funcNamed "rostrum/rostrumtop.TopCodes" =some f)(d:Tryz.pinned.checked.prog.funcs[f]? =some b):
  false=Tryz.pinned.checked.prog.looks []/\ ∀(j:Nat) t,b.params[j]? =some t->Tryz.pinned.checked.prog.wantsStandIn t=false:=by
 obtain rfl:f=3:=jM ((show Tryz.prog.funcNamed "rostrum/rostrumtop.TopCodes" =some 3 by kernel_rfl).symm.trans c)|>.symm
 obtain rfl:b=Tryz.f3:=(jM (Tryz.func3.symm.trans d)).symm;refine⟨Ξ,λj t e=> ?_⟩;have a:t∈Tryz.f3.params.toList:=by have:=Array.mem_of_getElem? e;simpa using this
 have a:t∈([22,3]:List Nat):=a;simp only[iI,zZ,or_false]at a;rcases a with rfl|rfl
 .exact(show Tryz.prog.wantsStandIn 22=false by kernel_rfl)
 .exact(show Tryz.prog.wantsStandIn 3=false by kernel_rfl)
theorem topCodes_holds:Rows.TopCodesUptoCardSaid:=
 Claim7.holds_tied_plain_at .later [] _ _ _ _ aEh (λ_ h=>by cases h) Ξ (λ_ h=>by cases h) topCodesUpto_row_tie rfl ⟨rfl,rfl⟩ Ξ rfl azg Ξ
end Go.Proofs.YtadmdaokcgjdiaaGreatDoor
