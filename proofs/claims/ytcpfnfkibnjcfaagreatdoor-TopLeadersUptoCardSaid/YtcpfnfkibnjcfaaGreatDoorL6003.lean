/- rostrum/rostrumtop.TopLeaders: it answers true, as the document says, for every input whose bulk is at most 1048576; the card ties what client.nothing holds. -/
import Derived.Test.YtcpfnfkibnjcfaaGreatDoorXc
import Derived.Test.YtcpfnfkibnjcfaaGreatDoorXt
import Derived.Deep.DeepHandedRow
import Derived.Lib.LaidTab
import Derived.Test.YtcpfnfkibnjcfaaGreatDoorCards
import Derived.Test.YtcpfnfkibnjcfaaGreatDoorTie
open Go.IntKind (i64 u64 u8)
open Int (toNat)
set_option maxRecDepth 100000
set_option maxHeartbeats 4000000
set_option linter.all false
noncomputable section
namespace Go.Proofs.YtcpfnfkibnjcfaaGreatDoor
open Go Go.RowKit Go.ag
section
variable(A:I h6)(iB:Int)
def nd:Bool:=cond (!(MQ (hT (ee A 60) e8))) true (((eg (hT (ee A 60) e8)).n:Int)==0)
def H0(A:I h6):Nat->Int->Bool×Bool
 |0,_=>default
 |k+1,a=>cond (decide (a<((eg (hT (ee A 60) e8)).n:Int))) (cond (decide (((eg (hT (ee A 60) e8)).at' a.toNat).r<=((eg (hT (ee A 60) e8)).at' (toNat (i64 (a-1)))).r)) (true,false) (H0 A k (i64 (a+1)))) (false,default)
def V2:Bool×Bool:=H0 A (toNat (((eg (hT (ee A 60) e8)).n:Int)-1)+1) 1
def NA:Bool:=cond (V2 A).1 false true
def V0(b:Bool)(a:Int):Bool:=cond b true ((((eg (hT (ee A 60) e8)).at' a.toNat).r==((rp (hT (ee A 60) e8)).at' iB.toNat).K)&&((((eg (hT (ee A 60) e8)).at' a.toNat).K==iB)&&true))
def xA(A:I h6)(iB:Int):Nat->Bool->Int->Bool×Int×Int×I aw×Int×Bool
 |0,_,_=>default
 |k+1,b,a=>cond (decide (a<((eg (hT (ee A 60) e8)).n:Int))) (xA A iB k (V0 A iB b a) (i64 (a+1))) (b,a,a,eg (hT (ee A 60) e8),((eg (hT (ee A 60) e8)).n:Int),decide (a<((eg (hT (ee A 60) e8)).n:Int)))
def NB:Bool×Int×Int×I aw×Int×Bool:=let a:=hT (ee A 60) e8;xA A iB (toNat (((eg a).n:Int)-0)+1) (!((rp a).at' iB.toNat).G) 0
def xz(A:I h6):Nat->Int->Bool×Bool
 |0,_=>default
 |k+1,iB=>cond (decide (iB<3)) (cond (!(NB A iB).1) (true,false) (xz A k (i64 (iB+1)))) (false,default)
def NC:Bool×Bool:=xz A (toNat (3-0)+1) 0
def V1:Bool:=cond (NC A).1 false true
def Nw:Bool:=cond (nd A) false (cond (NA A) (cond (V1 A) true (NC A).2) (V2 A).2)
def apu:bt:=⟨[.v (.ab QZ)],λA=>⟨⟨some (yw A),.bool (Nw A)⟩⟩⟩
def aEo:JY 3 apu:=
 λA H _ d=>bJ ⟨.pure,[.tmp 2],[(.t 0,l)],⟨[U],[]⟩⟩ (.ae (.ae (.s (.j ⟨16777228,[.b 0,.b 1,.b 2],[(.t 24,l)],[],.f⟩ .z .z) (.j ⟨12,[],[],[],.f⟩ (.ae (.c6 ⟨44,[],[],[(.t 5,a)],some 0,true,12,[],[],λk (s:Int)=>H0 A k s,.f,λ(s:Int)=>1<=s/\(s<=((eg (hT (ee A 60) e8)).n:Int)\/s=1),λ(s:Int)=>toNat (((eg (hT (ee A 60) e8)).n:Int)-s),none⟩ .z)) (.j ⟨4,[],[],[],.f⟩ (.ae (.vC ⟨76,[],[],[(.t 6,a)],some 2,true,4,[.b 3],[],λk (s:Int)=>xz A k s,.f,λ(s:Int)=>0<=s/\s<=3,λ(s:Int)=>toNat (3-s),none⟩ (λ(y:Int)=>.ae (.s (.ae (.j ⟨4322540848601366988,[],[],[],.f⟩ (.ae (.c6 ⟨143200394401546700,[],[],[(.t 7,l),(.t 8,a)],some 4,false,4322540848601366988,[],[(.t 7,l),(.t 8,a),(.t 57,a),(.t 59,.ab c3),(.t 60,a),(.t 61,l)],λk (s:Bool×Int)=>xA A y k s.1 s.2,.f,λ(s:Bool×Int)=>0<=s.2/\s.2<=((eg (hT (ee A 60) e8)).n:Int),λ(s:Bool×Int)=>toNat (((eg (hT (ee A 60) e8)).n:Int)-s.2),none⟩ (.ae (.s (.j ⟨1208985770618075056439756,[],[(.t 7,l),(.t 65,l),(.t 80,l)],[],.f⟩ .z .z) .z)))) .z)) .z)))) .z))))) (let n:=hT (ee A 60) e8;let b:=eg n;(((ee A 60).n:Int)+e8.n<=549755813888)/\(nd A=false->((1<=(1:Int)/\((1:Int)<=(b.n:Int)\/(1:Int)=1))/\∀(c:Int),let t:=decide (c<b.n);let m:=i64 (c-1);let h:=i64 (c+1);(1<=c/\(c<=(b.n:Int)\/c=1))->(t=true->((0:Int)<=c/\c<b.n)/\(0:Int)<=m/\m<b.n)/\(t=true->decide ((b.at' c.toNat).r<=(b.at' m.toNat).r)=false->(1<=h/\(h<=(b.n:Int)\/h=1))/\toNat ((b.n:Int)-h)<toNat ((b.n:Int)-c)))/\(NA A=true->(0<=(0:Int)/\(0:Int)<=3)/\∀(iB:Int),let j:=i64 (iB+1);(0<=iB/\iB<=3)->(decide (iB<3)=true->((0:Int)<=iB/\iB<((rp n).n:Int))/\((0<=(0:Int)/\(0:Int)<=(b.n:Int))/\∀(q:Bool) (f:Int),let r:=decide (f<b.n);let i:=i64 (f+1);(0<=f/\f<=b.n)->(r=true->q=false->((0:Int)<=f/\f<b.n)/\(0:Int)<=iB/\iB<((rp n).n:Int))/\(r=true->(0<=i/\i<=b.n)/\toNat ((b.n:Int)-i)<toNat ((b.n:Int)-f))))/\(decide (iB<3)=true->(!(NB A iB).1)=false->(0<=j/\j<=3)/\toNat (3-j)<toNat (3-iB))))) (cK (aR aAc (aR aAd (aR aAe (aR aAo ba))))) Tryz.func3 (⟨have:=qn d;have:=tq A 60;Ω,(λe=>⟨⟨by have:=e;simp [nd]at this;have:=qn d;have:=vE (ee A 60) e8;have:=tq A 60;omega,(λc D=>⟨(λp=>⟨by have:=e;simp [nd]at this;have:=al p;have:=qn d;have:=vE (ee A 60) e8;have:=tq A 60;omega,(by have:=e;simp [nd]at this;have:=al p;have:=qn d;have:=vE (ee A 60) e8;have:=tq A 60;first|omega|(have:=E (c-1);omega))⟩),(λw x=>by have:=e;simp [nd]at this;have:=al w;have:=hy x;have:=qn d;have:=vE (ee A 60) e8;have:=tq A 60;first|omega|(have:=E (c+1);omega))⟩)⟩,(λC=>⟨by have:=e;simp [nd]at this;have:=qn d;omega,(λiB F=>⟨(λg=>⟨by have:=e;simp [nd]at this;have:=al g;have:=qn d;have:=vE (ee A 60) e8;have:=tq A 60;omega,⟨by have:=e;simp [nd]at this;have:=al g;have:=qn d;have:=vE (ee A 60) e8;have:=tq A 60;omega,(λq f G=>⟨λo z=>⟨by have:=e;simp [nd]at this;have:=al g;have:=al o;have:=qn d;have:=vE (ee A 60) e8;have:=tq A 60;omega,by have:=e;simp [nd]at this;have:=al g;have:=al o;have:=qn d;have:=vE (ee A 60) e8;have:=tq A 60;omega⟩,(λu=>by have:=e;simp [nd]at this;have:=al g;have:=al u;have:=qn d;have:=vE (ee A 60) e8;have:=tq A 60;first|omega|(have:=E (f+1);omega))⟩)⟩⟩),(λv B=>by have:=e;simp [nd]at this;have:=al v;have:=qn d;first|omega|(have:=E (iB+1);omega))⟩)⟩)⟩)⟩)
end
section
variable {A:I h6}
def ajV(a: ∀i:Nat,i+1<(eg (ei A)).n->((eg (ei A)).at' i).r<((eg (ei A)).at' (i+1)).r)(b:(eg (ei A)).n<=900000): ∀(f v:Nat),1<=v->(eg (ei A)).n-v<=f->(H0 A (f+1) (v:Int)).1=false
 |f,v,d,e=>by
  rw[H0]
  by_cases c:v<(eg (ei A)).n
  .obtain⟨f,rfl⟩: ∃g,f=g+1:=⟨f-1,Ω⟩;have r:=a (v-1) Ω;rw[show v-1+1=v by omega]at r;rw[bm (show(v:Int)<((eg (ei A)).n:Int) by omega),au,E ((v:Int)-1),E ((v:Int)+1),show toNat ((v:Int)-1)=v-1 by omega,show toNat (v:Int)=v from rfl,a8 (by show¬((eg (ei A)).at' v).r<=((eg (ei A)).at' (v-1)).r;omega),aB];exact ajV a b f (v+1) Ω Ω
  .rw[a8 (show¬(v:Int)<((eg (ei A)).n:Int) by omega)];rfl
def XS(v:Int)(a:(eg (ei A)).n<=900000): ∀(f j:Nat),(eg (ei A)).n-j<=f->(xA A v (f+1) true (j:Int)).1=true
 |f,j,b=>by
  rw[xA]
  by_cases c:j<(eg (ei A)).n
  .obtain⟨f,rfl⟩: ∃g,f=g+1:=⟨f-1,Ω⟩;rw[bm (show(j:Int)<((eg (ei A)).n:Int) by omega),au,E ((j:Int)+1)];exact XS v a f (j+1) Ω
  .rw[a8 (show¬(j:Int)<((eg (ei A)).n:Int) by omega)];rfl
def aiR(v:Int)(e:(eg (ei A)).n<=900000){q:Nat}(h:q<(eg (ei A)).n)(a:((eg (ei A)).at' q).r=((rp (ei A)).at' v.toNat).K)(c:((eg (ei A)).at' q).K=v): ∀(f j:Nat) (b:Bool),j<=q->(eg (ei A)).n-j<=f->(xA A v (f+1) b (j:Int)).1=true
 |f,j,b,k,i=>by
  obtain⟨f,rfl⟩: ∃g,f=g+1:=⟨f-1,Ω⟩;rw[xA,bm (show(j:Int)<((eg (ei A)).n:Int) by omega),au,E ((j:Int)+1)]
  by_cases d:j=q
  .have m:V0 A v b (j:Int)=true:=by
    unfold V0;rw[show toNat (j:Int)=j from rfl,d];have a0:(((eg (hT (ee A 60) e8)).at' q).r==((rp (hT (ee A 60) e8)).at' v.toNat).K)=true:=gy.2 a;have aL:(((eg (hT (ee A 60) e8)).at' q).K==v)=true:=gy.2 c;rw[a0,aL]
    cases b<;>rfl
   rw[m];exact XS v e f (j+1) Ω
  .exact aiR v e h a c f (j+1) _ Ω Ω
def aBj(A:I h6)(_:Canon A)(_:A.n<=1048576)(h:yw A):Nw A=true:=by
 obtain⟨_,_,c,s,g,t⟩:=ai2 h;obtain⟨y,z,B,C⟩:=aBt g t;have d:eg (ei A)=hR (je (ei A).B).aU:=(ak8 c).trans y;have o:=akF c;have p:=aEJ c;have n:(eg (ei A)).n=(je (ei A).B).aU.n:=by rw[d,z]
 have D:0<(eg (ei A)).n:=by rw[n];exact s
 have a5:(eg (ei A)).n<=900000:=by omega
 have u:nd A=false:=by
  unfold nd;rw[p];exact ew.2 (show(((eg (ei A)).n:Nat):Int)≠0 by omega)
 have v:NA A=true:=by
  unfold NA;have q:(V2 A).1=false:=ajV (λi a=>by rw[d];exact C i (by rw[<-n];exact a)) a5 (toNat (((eg (ei A)).n:Int)-1)) 1 (bH _) Ω;rw[q];rfl
 have x: ∀i:Nat,i<3->(NB A (i:Int)).1=true:=λi a=>by
  have fV:(rp (ei A)).at' i=yk ((je (ei A).B).h i):=by rw[o];exact aGY _ a
  have k:(NB A (i:Int))=xA A (i:Int) ((toNat (((eg (ei A)).n:Int)-0))+1) (!((rp (ei A)).at' i).G) ((0:Nat):Int):=rfl;rw[k,fV]
  by_cases r:((je (ei A).B).h i).ro=3
  .obtain⟨l,e,XT,iQ⟩:=aBs g a r;obtain⟨q,m⟩:=l_ (B.mem_iff.2 e);have e:q<(hR (je (ei A).B).aU).n:=by
    rw[<-bj];exact(hk.1 m).1
   have j:(eg (ei A)).at' q=l:=by rw[d];exact ug m
   exact aiR (i:Int) a5 (q:=q) (by rw[d];exact e) (by rw[j,show toNat (i:Int)=i from rfl,fV];exact XT) (by rw[j];exact iQ) _ 0 _ (cd _) Ω
  .have b:(!(yk ((je (ei A).B).h i)).G)=true:=by
    show(!(((je (ei A).B).h i).ro==3))=true;rw[ew.2 r];rfl
   rw[b];exact XS _ a5 _ 0 Ω
 have w:V1 A=true:=by
  unfold V1;have q:(NC A).1=false:=by
   have st: ∀(f i:Nat),i<3->(xz A (f+1) (i:Int))=xz A f (((i+1:Nat)):Int):=λf i a=>by
    rw[xz,bm (show(i:Int)<3 by omega),au,x i a,E ((i:Int)+1)];rfl
   have k:NC A=xz A 4 ((0:Nat):Int):=rfl;rw[k,st _ 0 Δ,st _ 1 Δ,st _ 2 Δ,xz];rfl
  rw[q];rfl
 unfold Nw;rw[u,v,w];rfl
end
end Go.Proofs.YtcpfnfkibnjcfaaGreatDoor
namespace Go.Proofs.YtcpfnfkibnjcfaaGreatDoor
open Go Go.ChangeAt Go.ChangeShapes Go.RowKit Go.WideShapes Go.ag
def V6:Tryz.prog.globalNamed "rostrum/client.nothing" =some 0:=by kernel_rfl
def au9:(Tryz.prog.globals[0]?).map (·.type)=some 49:=by kernel_rfl
def aC4{W:World}(h:laidMetH Tryz.prog [("rostrum/client.nothing",Rows.laid_rostrum_client_nothing)] W):W.var? Tryz.prog "rostrum/client.nothing" =some #[.int .i64 22,.string ⟨#[]⟩,.string ⟨#[]⟩,.string ⟨#[]⟩,.int .i64 0]:=by
 have h:laidMet Tryz.prog [("rostrum/client.nothing",Rows.laid_rostrum_client_nothing)] W:=h
 obtain⟨V,⟨T,X,cs,S,p,q,O,P,Q,N,_,_⟩,_⟩:=h;obtain rfl:=ij (V6.symm.trans O);obtain rfl:=ij (au9.symm.trans P);have⟨H,m,_,k,D,U,L⟩:=DataW.trod_struct Tryz.underlying49 N;have s:=congrArg Prod.fst k;simp only[Rows.laid_rostrum_client_nothing,DataW.agg.injEq]at s;have M:Tryz.prog.cellsOf 49=5:=by kernel_rfl
 rw[M]at D;have J: ∀(i:Nat) (f:Field) (x:DataW Unit),(Tryz.prog.underlying 49).map (λd=>match d with| .struct w=>w[i]? |_=>none)=some (some f)->(H.map (·.1))[i]? =some x-> ∃y,DataW.trod (λ_=>()) Tryz.prog W 0 (λ_=>true) false m f.type ((cs.toList.drop f.offset).take (Tryz.prog.cellsOf f.type))=some y/\y.1=x:=by
  intro i f x j k;rw[Tryz.underlying49]at j;have j:=ij j;have:=L i f j;rw[hJ,nt]at k;obtain⟨y,r,rfl⟩:=k;exact⟨y,this.trans r,rfl⟩
 have K:Tryz.prog.cellsOf 3=1:=by kernel_rfl
 have G:Tryz.prog.cellsOf 9=1:=by kernel_rfl
 have I: ∀(i:Nat) (f:Field) (n:Int),f.type=3->f.offset=i->(Tryz.prog.underlying 49).map (λd=>match d with| .struct w=>w[i]? |_=>none)=some (some f)->(H.map (·.1))[i]? =some (.lit (.int .i64 n))->cs.toList[i]? =some (.int .i64 n):=by
  intro i f n B C j k;have⟨y,r,t⟩:=J i f _ j k;rw[B,C,K]at r;obtain⟨z,E,rfl,_⟩:=DataW.trod_int (show Tryz.prog.underlying 3=some (.int .i64) by kernel_rfl) r;simp only[DataW.lit.injEq,Lit.int.injEq,true_and]at t;subst t;have:=congrArg (·[0]?) E;simpa[J3,qA]using this
 have F: ∀(i:Nat) (f:Field),f.type=9->f.offset=i->(Tryz.prog.underlying 49).map (λd=>match d with| .struct w=>w[i]? |_=>none)=some (some f)->(H.map (·.1))[i]? =some (.lit (.string []))->cs.toList[i]? =some (.string ⟨#[]⟩):=by
  intro i f B C j k;have⟨y,r,t⟩:=J i f _ j k;rw[B,C,G]at r;obtain⟨z,E,rfl,_⟩:=DataW.trod_string (show Tryz.prog.underlying 9=some .string by kernel_rfl) r;simp only[DataW.lit.injEq,Lit.string.injEq]at t;have R:z=⟨#[]⟩:=by
   obtain⟨⟨l⟩⟩:=z;simp only at t;subst t;rfl
  subst R;have:=congrArg (·[0]?) E;simpa[J3,qA]using this
 have A:=I 0 _ 22 rfl rfl (by rw[Tryz.underlying49];rfl) (by rw[<-s];rfl);have g:=F 1 _ rfl rfl (by rw[Tryz.underlying49];rfl) (by rw[<-s];rfl);have u:=F 2 _ rfl rfl (by rw[Tryz.underlying49];rfl) (by rw[<-s];rfl);have o:=F 3 _ rfl rfl (by rw[Tryz.underlying49];rfl) (by rw[<-s];rfl);have v:=I 4 _ 0 rfl rfl (by rw[Tryz.underlying49];rfl) (by rw[<-s];rfl);rw[Q];obtain⟨l⟩:=cs;simp only at D A g u o v
 match l,D with
 |[a,b,c,d,e],_=>
  simp at A g u o v;subst A g u o v;rfl
def aC5{W:World}(h:laidMetH Tryz.prog [("rostrum/client.nothing",Rows.laid_rostrum_client_nothing)] W):Fb W (λy=>y<W.heap.size):=by
 have b:=aC4 h;refine⟨λ_ h=>h,λg=> ?_⟩
 cases g with
 |succ g=>exact .inl rfl
 |zero=>
  refine .inr ?_;have c:=λi=>World.var?_cell V6 b i;have d:0<W.heap.size:=by
   have f:=c 0;rcases yr W.heap.size with e|e
   .have:W.heap[0]? =none:=QR Ω;unfold World.var? at b;rw[V6]at b;simp only[Option.bind_some,this]at b
    cases b
   .exact e
  refine a6.ref _ 0 0 (λj=>([.int .i64 22,.str ⟨#[]⟩,.str ⟨#[]⟩,.str ⟨#[]⟩,.int .i64 0]:List J).getD j .undef) (λj=>([.int .i64 22,.string ⟨#[]⟩,.string ⟨#[]⟩,.string ⟨#[]⟩,.int .i64 0]:List Value).getD j undef) d ?_ ?_ ?_
  .intro j a;have a:j<5:=a
   match j,a with
   |0,_=>rfl
   |1,_=>rfl
   |2,_=>rfl
   |3,_=>rfl
   |4,_=>rfl
  .intro j a;have a:j<5:=a;rw[dj,c j]
   match j,a with
   |0,_=>rfl
   |1,_=>rfl
   |2,_=>rfl
   |3,_=>rfl
   |4,_=>rfl
  .intro j a;have a:j<5:=a
   match j,a with
   |0,_=>exact .int _ _
   |1,_=>exact .str _ (cd _)
   |2,_=>exact .str _ (cd _)
   |3,_=>exact .str _ (cd _)
   |4,_=>exact .int _ _
def aEw:Qq Tryz.prog 1048576 12 [22] λz=>fR Tryz.prog 3 z (.bool true):=by
 refine Eq.mpr (β:= ∀(b:Nat) (a:Nat->List J),b<=1048576->(∀i,b<=i->a i=[.int .i64 0,.int .i64 0,.int .i64 0,.int .i64 0,.int .i64 0,.int .i64 0,.int .i64 0,.str ⟨#[]⟩])->(∀i,i<b-> ∀K:List J->Prop,(∀A:Int,(Lit.int .i64 A).wf=true-> ∀g:Int,(Lit.int .i64 g).wf=true-> ∀u:Int,(Lit.int .i64 u).wf=true-> ∀o:Int,(Lit.int .i64 o).wf=true-> ∀v:Int,(Lit.int .i64 v).wf=true-> ∀d:Int,(Lit.int .i64 d).wf=true-> ∀y:Int,(Lit.int .i64 y).wf=true-> ∀F:ByteArray,F.size<=1048576->K [.int .i64 A,.int .i64 g,.int .i64 u,.int .i64 o,.int .i64 v,.int .i64 d,.int .i64 y,.str F])->K (a i))->fR Tryz.prog 3 [.arr 8 b a] (.bool true)) Ξ ?_;intro b a s n e;have t: ∀i,i<b->a i=B6 (ov (a i)):=λi c=>e i c (λl=>l=B6 (ov l)) (λ_ _ _ _ _ _ _ _ _ _ _ _ _ _ _ _=>rfl);have k: ∀i,i<b->a i=B6 (ov (a i)):=λi c=>t i c;have r:Canon (jl ov (.arr 8 b a)):=λi c=>by
  show ov (a i)=default;rw[n i c];rfl
 have f:yw (jl ov (.arr 8 b a)):=⟨by show b<=_;omega,λj q=>by
  exact e j q (λl=>Ks (ov l)) (λA hD g cX u ct o w v B d C y x F D=>⟨JX hD,JX cX,JX ct,JX w,JX x⟩)⟩
 have m:fR Tryz.prog 3 [aV 8 B6 (jl ov (.arr 8 b a))] (.bool (Nw (jl ov (.arr 8 b a)))):=fR.oz λp=>aEo (jl ov (.arr 8 b a)) (by show _<=_;simp only[jl];omega) p.1 f;have h:=m.ami (iQ (aFK rfl k) XT);rw[aBj (jl ov (.arr 8 b a)) r s f]at h;exact h
def X1(a:Os):World:=
 {World.holding Tryz.prog a ⟨#[],#[],[]⟩with heap:=(World.holding Tryz.prog a ⟨#[],#[],[]⟩).heap.modify 0 λ
   | .cells _ t frozen=> .cells #[.int .i64 22,.string ⟨#[]⟩,.string ⟨#[]⟩,.string ⟨#[]⟩,.int .i64 0] t frozen
   |o=>o}
def aBf(a:Os):laidMet Tryz.prog Rows.topLeadersUptoRow.laid ((X1 a).forCall (λ_ _=>0) ⟨#[],#[.slice none 0 0],[]⟩).memory:=
 laidMet_of_run' 8 Ξ Ξ
def aBm(a:Os){H:Type}(enc:TypeId×Value->H): ∃b,DataW.whole enc Tryz.prog ((X1 a).forCall (λ_ _=>0) ⟨#[],#[.slice none 0 0],[]⟩).memory Tryz.f3.params.toList Rows.topLeadersSpec.vars false (#[.slice none 0 0]:Array Value).toList 8=some ([.nil],[],b):=
 ⟨[],Ξ⟩
def aGB(a:Os)(q:a.Started)(H:Type)(enc:TypeId×Value->H)(F:Stop.Interp):
  ReturnsInHanded {} Tryz.checked a 3 .any ((Rows.OpenSpec.upto Rows.topLeadersSpec).preRow enc Tryz.prog Tryz.f3 Rows.topLeadersUptoRow.domain false Rows.topLeadersUptoRow.laid) (((Rows.OpenSpec.upto Rows.topLeadersSpec).at F).post enc Tryz.prog Tryz.f3 false true false false):=by
 have⟨r,p⟩:=aBm a enc;refine returnsInHanded_of_row (C:=Tryz.checked) (s:=Rows.OpenSpec.upto Rows.topLeadersSpec) Tryz.own q Ξ Tryz.func3
  (witness_row_at (enc:=enc) (C:=Tryz.checked) false (X1 a) #[.slice none 0 0] rfl Ξ Ξ Ξ
   (OpenSpec.preRow_of_cond 8 p Ξ (λk m=>by cases m;kernel_rfl) Ξ (aBf a))) ?_
 intro W base c b f e o i _ j _ g _ _;exact aBk (P:=Tryz.prog) (fn:=Tryz.f3) (s:=Rows.topLeadersSpec) (n:=12) (B:=1048576) (ka:=Rows.uptoBulk) (gJ:=4) (bp:=[22]) Δ (aqN H) rfl ah5 Ξ Ξ rfl Ξ rfl (λb h=>by
  match b,h with
  |[d],_=>rfl) aEw W base c b f e o i (λd l=>aqP (j _ rfl) d (by simp [l])) (aC5 g)
def ayp:joinedFacts Tryz.prog 3 Tryz.f3 Rows.topLeadersSpec Rows.topLeadersUptoRow=true:=
 ayq Ξ ah5 aym Ξ Ξ rfl ayn rfl ayo Ξ Ξ Ξ Ξ Ξ Ξ Ξ Ξ Ξ
  Ξ Ξ Ξ Ξ (by rw[ayh];rfl) rfl ayi ayj (by rw[ayk];rfl) (by rw[ayl];rfl) Ξ Ξ Ξ Ξ
def aGC:Rows.TopLeadersUptoSaid:=
 OpenClaim.holds_of_cond 3 Tryz.f3 rfl rfl rfl rfl rfl rfl rfl ⟨rfl,rfl,rfl,rfl,rfl⟩ rfl rfl rfl rfl rfl Ξ Tryz.func3 ayp
  (al Ξ) (by unfold Func.isWrapper;first|(rw[bg (by decide+kernel)];kernel_rfl)|(rw[aW (by decide+kernel)];exact⟨rfl,rfl⟩))
  (λa b H enc _ F=>by rw[OpenClaim.pre_eq_preRow];exact aGB a b H enc F)
def aBl(f:FuncId)(b:Func)(c:Tryz.pinned.checked.prog.funcNamed "rostrum/rostrumtop.TopLeaders" =some f)(d:Tryz.pinned.checked.prog.funcs[f]? =some b):
  false=Tryz.pinned.checked.prog.looks []/\ ∀(j:Nat) t,b.params[j]? =some t->Tryz.pinned.checked.prog.wantsStandIn t=false:=by
 obtain rfl:f=3:=ij ((show Tryz.prog.funcNamed "rostrum/rostrumtop.TopLeaders" =some 3 by kernel_rfl).symm.trans c)|>.symm
 obtain rfl:b=Tryz.f3:=(ij (Tryz.func3.symm.trans d)).symm;refine⟨Ξ,λj t e=> ?_⟩;have a:t∈Tryz.f3.params.toList:=by have:=Array.mem_of_getElem? e;simpa using this
 have a:t∈([22]:List Nat):=a;simp only[ih,tQ,or_false]at a;rcases a with rfl
 .exact(show Tryz.prog.wantsStandIn 22=false by kernel_rfl)
theorem topLeaders_holds:Rows.TopLeadersUptoCardSaid:=
 Claim7.holds_tied_plain_at .later [] _ _ _ _ aGC (λ_ h=>by cases h) Ξ (λ_ h=>by cases h) topLeadersUpto_row_tie rfl ⟨rfl,rfl⟩ Ξ rfl aBl Ξ
