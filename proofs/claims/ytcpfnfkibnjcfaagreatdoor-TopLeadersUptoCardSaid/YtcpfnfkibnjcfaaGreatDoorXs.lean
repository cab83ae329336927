import Derived.Test.YtcpfnfkibnjcfaaGreatDoorXq
import Derived.Test.YtcpfnfkibnjcfaaGreatDoorXr
open Go.IntKind (i64 u64 u8)
open Int (toNat)
set_option maxRecDepth 100000
set_option maxHeartbeats 4000000
set_option linter.all false
noncomputable section
namespace Go.Proofs.YtcpfnfkibnjcfaaGreatDoor
open Go Go.RowKit Go.ag
def v8(C:aq)(D:I ai):aq:={C with s:=D}
def yK(C:aq)(l:List ai):aq:=l.foldl jq C
def aeh{L:I ai}(d:L.n<=300): ∀(m a v:Nat) (X:aq),v+m=L.n->m<=a->cN (uU L (a+1) (v:Int) X)=yK X (L.B.drop v)
 |0,a,v,X,c,b=>by
  rw[uU,a8 (show¬(v:Int)<(L.n:Int) by omega),aB,KX,List.drop_eq_nil_of_le (by rw[bj];omega)];rfl
 |m+1,a,v,X,c,b=>by
  obtain⟨a,rfl⟩: ∃q,a=q+1:=⟨a-1,Ω⟩;rw[uU,bm (show(v:Int)<(L.n:Int) by omega),au,E _,aa4 Ω];exact aeh d m a (v+1) _ Ω Ω
def LF{k:Nat}{C:aq}(h:fz k C):sE C.s C=yK (v8 C B) C.s.B:=by
 have q:=aeh h.lF C.s.n (toNat ((C.s.n:Int)- (0:Int))) 0 (v8 C B) Ω Ω;rw[List.drop_zero]at q;exact q
def aEz(C:aq)(a:Nat)(n:N)(L:I ai)(aj:I bI)(an:I aw)(i:Nat):(C.put a n L aj an).h i=C.h i\/((C.put a n L aj an).h i=n/\C.h a=C.h i):=by
 match a,i with
 |0,0=>exact .inr ⟨rfl,rfl⟩
 |0,1=>exact .inl rfl
 |0,i+2=>exact .inl rfl
 |1,0=>exact .inl rfl
 |1,1=>exact .inr ⟨rfl,rfl⟩
 |1,i+2=>exact .inl rfl
 |a+2,0=>exact .inl rfl
 |a+2,1=>exact .inl rfl
 |a+2,i+2=>exact .inr ⟨rfl,rfl⟩
section
def aEr(a:I Int){f:Int}(h:0<=f):((I.part a 0 f).n:Int)=f:=by
 show(((f-0).toNat:Nat):Int)=f;omega
def aDD{a:I Int}{b:Int}(c:0<=b)(d:b<=a.n)(e:a.n<=400000):wS a b=false:=by
 unfold wS;rw[a8 Ω,a8 Ω,a8 Ω];rfl
def AW{a:I Int}{b:Int}(c:0<=b)(d:b<=a.n)(e:a.n<=400000):bL a b=a/\k4 a b=b/\h9 a b=true:=by
 have m:=aDD c d e;unfold bL k4 h9;rw[m];exact⟨rfl,rfl,rfl⟩
end
structure wB (d:I Int) (s:Int):Prop where
 u:aN d
 n:d.n<=400000
 s:0<=s/\s<=(d.n:Int)
def y2{r:bB}(h:jv r):(dB r).length=3+(fM r).length/\(8<=(dB r).length/\(dB r).length<=14003):=by
 have n:=(Li h).2;have e:(dB r).length=3+(fM r).length:=by
  unfold dB;simp only[db,gl,dE,gx]
 exact⟨e,Ω,Ω⟩
def aHn{rc:bB}{h:N}(d:wB h.a_ h.bp)(k:dY rc.eH)(j:e6 rc.eI):(gu rc h=false/\(fI rc h).a_=h.a_/\(fI rc h).bp=h.bp)\/(gu rc h=true/\jv rc/\(fI rc h).a_.B=h.a_.B++dB rc/\(fI rc h).bp=h.bp/\(fI rc h).a_.n<=400000):=by
 show(gu rc h=false/\xm rc h=h.a_/\HQ rc h=h.bp)\/(gu rc h=true/\jv rc/\(xm rc h).B=h.a_.B++dB rc/\HQ rc h=h.bp/\(xm rc h).n<=400000);have⟨g,l,ib⟩:=AW (a:=h.a_) (b:=h.bp) d.s.1 d.s.2 d.n;unfold gu xm HQ
 cases K:(xH h.a_ h.bp rc.r rc.K rc.G rc.q rc.j rc.m rc.ak rc.aA rc.i rc.aJ rc.b4 rc.cb rc.b0 rc.cq rc.bn rc.c9 rc.fc rc.eH rc.fe rc.eI !=0)with
 |true=>exact .inl ⟨rfl,rfl,rfl⟩
 |false=>
  have K:=bP K;unfold xH at K;rw[ib,g]at K;simp only[Bool.not_true,aB]at K
  cases G:(fJ rc.r rc.K rc.G rc.q rc.j rc.m rc.ak rc.aA rc.i rc.aJ rc.b4 rc.cb rc.b0 rc.cq rc.bn rc.c9 rc.fc rc.eH rc.fe rc.eI !=0)with
  |true=>
   rw[G]at K;simp only[au]at K;rw[K]at G;cases G
  |false=>
   rw[G]at K;simp only[aB]at K;have i:jv rc:=⟨bP G,k,j⟩;have⟨e,iQ,o⟩:=Li i;have⟨c,_⟩:=dG K Δ;have f:(kh rc.r rc.K rc.G rc.q rc.j rc.m rc.ak rc.aA rc.i rc.aJ rc.b4 rc.cb rc.b0 rc.cq rc.bn rc.c9 rc.fc rc.eH rc.fe rc.eI).n=(fM rc).length:=by rw[<-bj,e]
   have n:=d.n;rw[f,E ((h.a_.n:Int)+3),E ((h.a_.n:Int)+3+_)]at c;have m:=dh c;have B:(z_ h.a_ h.bp rc.r rc.K rc.G rc.q rc.j rc.m rc.ak rc.aA rc.i rc.aJ rc.b4 rc.cb rc.b0 rc.cq rc.bn rc.c9 rc.fc rc.eH rc.fe rc.eI).B=h.a_.B++dB rc:=by
    unfold z_;rw[ib,g,G,f,E ((h.a_.n:Int)+3),E ((h.a_.n:Int)+3+_),c];simp only[Bool.not_true,aB];rw[amI Ω (by show 3<=1000000;decide) Ω,E8,e];rfl
   refine .inr ⟨rfl,i,B,?_,?_⟩
   .show NZ h.a_ h.bp rc.r rc.K rc.G rc.q rc.j rc.m rc.ak rc.aA rc.i rc.aJ rc.b4 rc.cb rc.b0 rc.cq rc.bn rc.c9 rc.fc rc.eH rc.fe rc.eI=h.bp;unfold NZ;rw[ib,g,G,f,E ((h.a_.n:Int)+3),E ((h.a_.n:Int)+3+_),c];exact l
   .show(z_ h.a_ h.bp rc.r rc.K rc.G rc.q rc.j rc.m rc.ak rc.aA rc.i rc.aJ rc.b4 rc.cb rc.b0 rc.cq rc.bn rc.c9 rc.fc rc.eH rc.fe rc.eI).n<=400000;rw[<-bj,B,db,bj,(y2 i).1];omega
def ac9: ∀(rs:List bB) (m:Nat),(∀r∈rs,jv r)-> ∃(k:Nat) (j:List Int),k<=rs.length/\(rs.flatMap dB).take m=(rs.take k).flatMap dB++j/\(j=[]\/ ∃r,jv r/\j.length<(dB r).length/\j=(dB r).take j.length)/\((rs.flatMap dB).length<=m->k=rs.length/\j=[])/\ ∀b,((rs.take b).flatMap dB).length<=m->b<=rs.length->b<=k
 |[],m,_=>⟨0,[],bH _,by simp,.inl rfl,λ_=>⟨rfl,rfl⟩,λ_ _ h=>h⟩
 |r::rs,m,h=>by
  have f:=h r (List.mem_cons_self ..);have n:=y2 f
  by_cases c:(dB r).length<=m
  .obtain⟨k,j,q,g,i,l,o⟩:=ac9 rs (m- (dB r).length) λx p=>h x (List.mem_cons_of_mem _ p);refine⟨k+1,j,by rw[dE];omega,?_,i,λd=> ?_,λb e d=> ?_⟩
   .rw[gO,List.take_append,g,List.take_of_length_le c,List.take_succ_cons,gO,e5]
   .rw[gO,db]at d;have⟨a,b⟩:=l Ω;exact⟨by rw[dE,a],b⟩
   .cases b with
    |zero=>exact cd _
    |succ b=>
     rw[List.take_succ_cons,gO,db]at e;rw[dE]at d;exact Nat.succ_le_succ (o b Ω Ω)
  .refine⟨0,(dB r).take m,cd _,?_,.inr ⟨r,f,?_,?_⟩,λd=> ?_,λb e _=> ?_⟩
   .rw[gO,List.take_append,show m- (dB r).length=0 by omega];simp
   .rw[jr];omega
   .rw[jr,show min m (dB r).length=m by omega]
   .rw[gO,db]at d;omega
   .cases b with
    |zero=>exact cd _
    |succ b=>
     rw[List.take_succ_cons,gO,db]at e;omega
def aES{a:I Int}{b:Int}(f:wB a b): ∀(rs:List bB) (c j:List Int) (d:Nat) (o:I bB),(∀r∈rs,jv r)->a.B=c++(rs.flatMap dB++j)->(j=[]\/ ∃r,jv r/\j.length<(dB r).length/\j=(dB r).take j.length)->rs.length<d->
  ∃n,bb (λr y=>yB r y/\mO y) rs n/\(oC a b d (c.length:Int) o).1=((c.length+(rs.flatMap dB).length:Nat):Int)/\(oC a b d (c.length:Int) o).2.B=o.B++n:=by
 intro rs
 induction rs with
 |nil=>
  intro c j d o _ g t k;obtain⟨d,rfl⟩: ∃q,d=q+1:=⟨d-1,by rw[gx]at k;omega⟩;have⟨u,J,ib⟩:=AW (a:=a) (b:=b) f.s.1 f.s.2 f.n;have w:a.n=c.length+j.length:=by rw[<-bj,g];simp
  have F:=f.n;refine⟨[],trivial,?_⟩;have stop:oC a b (d+1) (c.length:Int) o=((c.length:Int),o):=by
   rw[oC,u,E ((c.length:Int)+3)]
   by_cases K:(c.length:Int)+3<=(a.n:Int)
   .rcases t with rfl|⟨r,m,O,D⟩
    .rw[gx]at w;omega
    .have e:=y2 m;have v:e0 (I.part a (c.length:Int) (a.n:Int))=((fM r).length:Int):=by
      have A:(I.part a (c.length:Int) (a.n:Int)).B=gl ((fM r).length:Int)++(fM r).take (j.length-3):=by
       rw[wk (a:=c) (l:=j) (by rw[g];rfl) rfl];have z:(gl ((fM r).length:Int)).length=3:=rfl;refine D.trans ?_;unfold dB;rw[List.take_append,z,List.take_of_length_le (by rw[z];omega)]
      exact EV (s:=I.part a (c.length:Int) (a.n:Int)) (λi=>f.u _) A Ω
     rw[v,bm K,au,E ((c.length:Int)+3+_),bm Ω,au]
   .rw[a8 K,aB]
  rw[stop];exact⟨by simp,(iE _).symm⟩
 |cons r rs H=>
  intro c j d o h g t k;obtain⟨d,rfl⟩: ∃q,d=q+1:=⟨d-1,by rw[dE]at k;omega⟩;rw[dE]at k;have⟨u,J,ib⟩:=AW (a:=a) (b:=b) f.s.1 f.s.2 f.n;have m:=h r (List.mem_cons_self ..);have e:=y2 m;have F:=f.n;have p:a.B=c++(gl ((fM r).length:Int)++(fM r++(rs.flatMap dB++j))):=by
   rw[g,gO];unfold dB;simp only[e5]
  have w:a.n=c.length+(3+((fM r).length+((rs.flatMap dB).length+j.length))):=by
   rw[<-bj,p];simp only[db];rfl
  have v:e0 (I.part a (c.length:Int) (a.n:Int))=((fM r).length:Int):=EV (s:=I.part a (c.length:Int) (a.n:Int)) (λi=>f.u _) (wk (a:=c) p rfl) Ω;have gI:(I.part a ((c.length:Int)+3) ((c.length:Int)+3+((fM r).length:Int))).B=fM r:=by
   rw[sc _ _ _ Ω Ω Ω,p,<-e5 c,show((c.length:Int)+3).toNat=(c++gl ((fM r).length:Int)).length by rw[db];show _=c.length+3;omega,List.drop_left,show((c.length:Int)+3+((fM r).length:Int)- ((c.length:Int)+3)).toNat=(fM r).length by omega,List.take_left]
  have⟨B,C,d3⟩:=aET m (s:=I.part a ((c.length:Int)+3) ((c.length:Int)+3+((fM r).length:Int))) (λi=>f.u _) gI;have⟨n,L,M,N⟩:=H (c++dB r) j d (I.app o (I.lit [dec (I.part a ((c.length:Int)+3) ((c.length:Int)+3+((fM r).length:Int)))])) (λx G=>h x (List.mem_cons_of_mem _ G)) (by rw[g,gO];simp only[e5]) t Ω;have step:oC a b (d+1) (c.length:Int) o=oC a b d ((c++dB r).length:Int) (I.app o (I.lit [dec (I.part a ((c.length:Int)+3) ((c.length:Int)+3+((fM r).length:Int)))])):=by
   rw[oC,u,v,E ((c.length:Int)+3),bm Ω,au,E ((c.length:Int)+3+_),a8 Ω,aB,B,E (3+((fM r).length:Int)),E ((c.length:Int)+(3+((fM r).length:Int)))];rw[show(c.length:Int)+(3+((fM r).length:Int))=((c++dB r).length:Int) by rw[db,e.1];omega];rfl
  rw[step];refine⟨_::n,⟨⟨C,d3⟩,L⟩,?_,?_⟩
  .rw[M,db,gO,db,r7]
  .rw[N,fH,fQ,e5];rfl
def tR:Int->Int->List ax->Prop
 |_,_,[]=>True
 |t,u,x::l=>se x/\t<=x.r/\u<=x.K/\tR x.r x.K l
structure ku (e lt:Int) (l:List ax):Prop where
 b:0<=e
 t:0<=lt/\lt<=1048576
 z:e=0↔lt=0
 n:l.length<=200/\e+(l.length:Int)<=1048576
 c:tR lt 0 l
def ug{α:Type}{s:I α}{i:Nat}{x:α}(a:s.B[i]? =some x):s.at' i=x:=by
 have b:i<s.n:=by rw[<-bj s];exact(hk.1 a).1
 rw[fP s b]at a;exact ij a
def X0{s:I ax}(l:s.n<=200): ∀(m i d:Nat) (t u:Int),i+m=s.n->m<d->((rr s d t u (i:Int)).1=false↔tR t u (s.B.drop i))/\((rr s d t u (i:Int)).1=true->(rr s d t u (i:Int)).2=13)
 |0,i,d+1,t,u,k,_=>by
  rw[rr,a8 Ω,aB,List.drop_eq_nil_of_le (by rw[bj];omega)];exact⟨⟨λ_=>trivial,λ_=>rfl⟩,λh=>by cases h⟩
 |m+1,i,d+1,t,u,k,o=>by
  have f:i<s.B.length:=by rw[bj];omega
  have q:s.at' (toNat (i:Int))=s.B[i]:=ug (i:=i) (cG f);rw[rr,bm Ω,au,r8 f];have j:xw s t u (i:Int)=false↔se s.B[i]/\t<=s.B[i].r/\u<=s.B[i].K:=by
   unfold xw;rw[q];constructor
   .intro h;obtain⟨a,h⟩:=c8 h;obtain⟨b,c⟩:=c8 h;have:=dh b;have:=dh c;exact⟨bP a,Ω,Ω⟩
   .rintro⟨a,b,c⟩
    have a:fX s.B[i].r s.B[i].K s.B[i].G s.B[i].q s.B[i].j s.B[i].m s.B[i].ak s.B[i].aA s.B[i].i s.B[i].aJ=0:=a;rw[a,a8 Ω,a8 Ω];rfl
  cases e:xw s t u (i:Int)with
  |true=>
   refine⟨⟨(λh=>by cases h),λh=> ?_⟩,λ_=>rfl⟩;have:=j.2 ⟨h.1,h.2.1,h.2.2.1⟩;rw[e]at this;cases this
  |false=>
   obtain⟨a,b,c⟩:=j.1 e;simp only[aB];rw[q,E ((i:Int)+1),show(i:Int)+1=((i+1:Nat):Int) by omega];obtain⟨g,n⟩:=X0 l m (i+1) d s.B[i].r s.B[i].K Ω Ω;exact⟨⟨λh=>⟨a,b,c,g.1 h⟩,λh=>g.2 h.2.2.2⟩,n⟩
def u3{i f:Int}{s:I ax} :cV i f s=0↔ku i f s.B:=by
 constructor
 .intro h;have⟨a,b,c,d⟩:=fF _ _ _ h;unfold cV at h;have⟨m,h⟩:=dG h Δ;unfold qg at m;have⟨_,m⟩:=c8 m;have⟨p,m⟩:=c8 m;have⟨q,m⟩:=c8 m;have⟨n,m⟩:=c8 m;have:=dh p;have:=dh q;have l:=X0 c s.n 0 (toNat ((s.n:Int)-0)+1) f 0 Ω Ω;refine⟨a.1,⟨Ω,Ω⟩,?_,⟨by rw[bj];exact c,by rw[bj];exact d⟩,?_⟩
  .by_cases g:i=0<;>by_cases j:f=0
   .exact⟨λ_=>j,λ_=>g⟩
   .rw[gy.2 g,ew.2 j]at n;cases n
   .rw[ew.2 g,gy.2 j]at n;cases n
   .exact⟨λx=>absurd x g,λx=>absurd x j⟩
  .cases e:(DD f s).1 with
   |false=>exact l.1.1 e
   |true=>
    unfold Ns at h;rw[e]at h;have k:(DD f s).2=13:=l.2 e;rw[k]at h;cases h
 .intro h;have o:s.n<=200:=by rw[<-bj];exact h.n.1
  have t:i+(s.n:Int)<=1048576:=by rw[<-bj];exact h.n.2
  have l:=(X0 o s.n 0 (toNat ((s.n:Int)-0)+1) f 0 Ω Ω).1.2 h.c;have r:=h.b;have u:=h.t;have m:qg i f s=false:=by
   unfold qg;have z:(!((i==0)==(f==0)))=false:=by
    by_cases g:i=0
    .rw[gy.2 g,gy.2 (h.z.1 g)];rfl
    .rw[ew.2 g,ew.2 λx=>g (h.z.2 x)];rfl
   rw[a8 Ω,a8 Ω,a8 Ω,z,a8 Ω,E (1048576- (s.n:Int)),a8 Ω];rfl
  unfold cV Ns;rw[m,show(DD f s).1=false from l];rfl
def arl{t a u b:Int}(c:a<=t)(d:b<=u): ∀{l:List ax},tR t u l->tR a b l
 |[],_=>trivial
 |_::_,h=>⟨h.1,by have:=h.2.1;omega,by have:=h.2.2.1;omega,h.2.2.2⟩
def acO{t u:Int} : ∀{l:List ax} (k:Nat),tR t u l->tR t u (l.take k)
 |_,0,_=>by rw[List.take_zero];trivial
 |[],_+1,_=>trivial
 |_::_,k+1,h=>⟨h.1,h.2.1,h.2.2.1,acO k h.2.2.2⟩
def acN{t u:Int} : ∀{l:List ax} (k:Nat) {x:ax},tR t u l->l[k]? =some x->tR x.r x.K (l.drop (k+1))/\se x/\t<=x.r
 |y::l,0,x,h,d=>by
  rw[List.getElem?_cons_zero]at d;obtain rfl:=ij d;exact⟨h.2.2.2,h.1,h.2.1⟩
 |y::l,k+1,x,h,d=>by
  rw[List.getElem?_cons_succ]at d;have⟨a,b,c⟩:=acN k h.2.2.2 d;exact⟨a,b,Int.le_trans h.2.1 c⟩
structure fs where
 D:Int
 bl:Int
 b9:Int
 e:Int
 lt:Int
 li:List ax
def n_(a b:Int)(l:List ax)(i:Int):Option Int:=if i<a then none else if i=a then some b else(l[(i-a-1).toNat]?).map (·.r)
def g_(c:fs)(r:bB):fs:=if r.r=1 then {c with D:=r.K,bl:=r.G} else if r.r=2 then(if r.q<=c.e then c else {c with li:=c.li.take (r.q-c.e-1).toNat++[lj r]})else if r.bn>c.b9 then {c with b9:=r.bn,e:=r.bn,lt:=r.c9,li:=if n_ c.e c.lt c.li r.bn=some r.c9 then c.li.drop (r.bn-c.e).toNat else[]} else c
def wy(c:fs)(r:bB):Prop:=r.r=2->r.q<=c.e\/(r.q<=c.e+(c.li.length:Int)+1/\ku c.e c.lt (c.li.take (r.q-c.e-1).toNat++[lj r]))
def lB:fs->List bB->fs->Prop
 |c,[],d=>c=d
 |c,r::rs,d=>wy c r/\lB (g_ c r) rs d
def ZV: ∀{rs:List bB} {c d:fs} {r:bB},lB c rs d->wy d r->lB c (rs++[r]) (g_ d r)
 |[],c,d,r,h,k=>by
  have h:c=d:=h;subst h;exact⟨k,rfl⟩
 |_::_,_,_,_,h,k=>⟨h.1,ZV h.2 k⟩
def alc: ∀{rs:List bB} {c d:fs} (k:Nat),lB c rs d-> ∃a,lB c (rs.take k) a
 |[],c,d,_,_=>⟨c,by rw[List.take_nil];rfl⟩
 |_::_,c,_,0,_=>⟨c,by rw[List.take_zero];rfl⟩
 |_::_,_,_,k+1,h=>by
  have⟨a,e⟩:=alc k h.2;exact⟨a,h.1,e⟩
def tU(c:fs):Prop:=ku c.e c.lt c.li
def alH{c:fs}{r:bB}(h:tU c)(f:mO r)(d:wy c r):tU (g_ c r):=by
 unfold g_;rcases ED f with⟨k,a,b,e⟩|⟨k,a,b⟩|⟨k,a,b,e⟩
 .rw[bg k];exact h
 .rw[aW Ω,bg k]
  by_cases z:r.q<=c.e
  .rw[bg z];exact h
  .rw[aW z];exact((d k).resolve_left z).2
 .rw[aW Ω,aW Ω]
  by_cases z:r.bn>c.b9
  .rw[bg z]
   by_cases t:n_ c.e c.lt c.li r.bn=some r.c9
   .show ku r.bn r.c9 (if n_ c.e c.lt c.li r.bn=some r.c9 then _ else _);rw[bg t];unfold n_ at t;have j:=h.n
    by_cases t1:r.bn<c.e
    .rw[bg t1]at t;cases t
    rw[aW t1]at t;have l:((c.li.drop (r.bn-c.e).toNat).length:Int)+r.bn<=c.e+(c.li.length:Int)\/(c.li.drop (r.bn-c.e).toNat).length=0:=by rw[r_];omega
    refine⟨Ω,Ω,⟨λq=>by omega,λq=>by omega⟩,⟨by rw[r_];omega,Ω⟩,?_⟩
    by_cases t2:r.bn=c.e
    .rw[bg t2]at t;rw[show(r.bn-c.e).toNat=0 by omega,List.drop_zero,<-ij t];exact h.c
    .rw[aW t2]at t;have⟨x,g,e⟩:=nt.1 t;have⟨q1,i,_⟩:=acN _ h.c g;rw[show(r.bn-c.e-1).toNat+1=(r.bn-c.e).toNat by omega,e]at q1;have:=(PM i).1.2.1;exact arl (bz _) this q1
   .show ku r.bn r.c9 (if n_ c.e c.lt c.li r.bn=some r.c9 then _ else _);rw[aW t];exact⟨Ω,Ω,⟨λq=>by omega,λq=>by omega⟩,⟨by simp,by simp;omega⟩,trivial⟩
  .rw[aW z];exact h
def X2{a b:Int}{s:I ax}(h:ku a b s.B):lf a b s=a+(s.n:Int):=by
 have d:=h.n;rw[bj]at d;have e:=h.b;unfold lf pV;rw[u3.2 h]
 by_cases c:(s.n:Int)>0
 .rw[bm c];exact E _
 .rw[a8 c];show a=a+(s.n:Int);omega
def alT{a b:Int}{s:I ax}(h:ku a b s.B){i:Int}(f:0<=i/\i<=1048576):(hQ a s i=0/\n_ a b s.B i=some (kD a b s i))\/(hQ a s i≠0/\n_ a b s.B i=none):=by
 have d:=h.n;rw[bj]at d;have e:=h.b;unfold hQ kD n_
 by_cases K:i<a
 .rw[bm K,bg K];exact .inr ⟨(by decide:(11:Int)≠0),rfl⟩
 rw[a8 K,aW K]
 by_cases G:i=a
 .rw[gy.2 G,bg G];exact .inl ⟨rfl,rfl⟩
 rw[ew.2 G,aW G,E (i-a),E (i-a-1)]
 by_cases c:i-a>(s.n:Int)
 .rw[bm c,fk (by rw[bj];omega)];exact .inr ⟨(by decide:(5:Int)≠0),rfl⟩
 .rw[a8 c,fP s (show(i-a-1).toNat<s.n by omega)];exact .inl ⟨rfl,rfl⟩
def agL{a b:Int}{s:I ax}(h:ku a b s.B){i:Int}(c:0<=i/\i<=1048576):jX a b s i=kD a b s i/\u5 a b s i=hQ a s i:=by
 unfold jX u5 z2;rw[u3.2 h,a8 Ω,a8 Ω];exact⟨rfl,rfl⟩
def ZP{d e:Int}{s:I ax}(h:ku d e s.B){i t:Int}(f:0<=i/\i<=1048576):pY d e s i t=i/\uL d e s i t=t/\(pZ d e s i t).B=if n_ d e s.B i=some t then s.B.drop (i-d).toNat else[]:=by
 have⟨g,j⟩:=agL h f;have k:=h.n;rw[bj]at k;have m:=h.b;unfold pY uL pZ p0;rw[g,j];rcases alT h f with⟨a,b⟩|⟨a,b⟩
 .rw[a,b]
  by_cases c:kD d e s i=t
  .rw[bg (by rw[c])];unfold ry DG sX;rw[u3.2 h,a,gy.2 c,c];refine⟨rfl,rfl,?_⟩;have n:d<=i/\i<=d+(s.n:Int):=by
    unfold n_ at b
    by_cases K:i<d
    .rw[bg K]at b;cases b
    rw[aW K]at b
    by_cases G:i=d
    .omega
    rw[aW G]at b;have⟨x,l,_⟩:=nt.1 b;have:=(hk.1 l).1;rw[bj]at this;omega
   show(I.part s (i64 (i-d)) (s.n:Int)).B=_;rw[E (i-d),sc _ _ _ Ω Ω Ω,List.take_of_length_le (by rw[r_,bj];omega)]
  .rw[aW (λq=>c (ij q)),ew.2 c];exact⟨rfl,rfl,rfl⟩
 .rw[b,aW (by intro q;cases q),ew.2 a];exact⟨rfl,rfl,rfl⟩
def l4(i j:Nat)(ms:ai):ai:=⟨(j:Int),(i:Int),ms.G,ms.q,ms.j,ms.m,ms.ak,ms.aA,ms.i,ms.aJ,ms.b4,ms.cb,ms.b0,ms.cq,ms.bn⟩
def kd(i j:Nat)(ms:ai)(s:N)(L:I ai)(aj:I bI)(an:I aw):N:=
 N.bif (ms.G==1) (rf (l4 i j ms) s) (N.bif (ms.G==2) (N.bif (cond (s.ro==1) (ms.q==i64 (s.D+1)) false) (N.bif (hq (N.ic j s)) (kH (N.ic j s)) (N.ic j s)) s)
  (N.bif (decide (ms.q<s.D)) (N.bif (ms.G !=8) (lW (j:Int) s) s) (N.bif (ms.G==3) (m7 (l4 i j ms) s) (N.bif (ms.G==4) (N.bif (s.ro==2) (N.bif (hq (N.ic j s)) (zG (N.ic j s)) (N.ic j s)) s)
   (N.bif (ms.G==5) (m8 (l4 i j ms) (k_ s) L aj an) (N.bif (ms.G==7) (na (l4 i j ms) (k_ s)) (N.bif (ms.G==6) (N.bif (s.ro==3) (xf (l4 i j ms) s L aj an) s) s)))))))
section
variable {i j:Nat} {ms:ai} {h s:N} {L:I ai} {aj:I bI} {an:I aw}
def KU:m5 i j ms h L aj an=N.bif (!h.up) h (N.bif (mw ms h) (kd i j ms (de ms h) L aj an) (dt ms.q (-1) h)):=rfl
def D_{a b:Int}(d:iu a b h=false):dt a b h=h:=by
 unfold iu at d;unfold dt MF MG
 cases e:gu (A1 a b) h with
 |true=>rw[e]at d;cases d
 |false=>
  have f:=e;unfold gu at f;have k: ∀c:Bool,cond c false true=false->c=true:=λc=>by cases c<;>simp
  have c:=k _ f;unfold fI xm HQ;simp only[Bool.not_false,au];rw[c];rfl
def x4{a b:Int}(c:iu a b h=true):(dt a b h).D=a:=by
 unfold iu at c;unfold dt MF
 cases e:gu (A1 a b) h with
 |true=>rfl
 |false=>rw[e]at c;cases c
def ES(j:Nat)(n:N):(N.ic j n).D=n.D/\(N.ic j n).ro=n.ro/\(N.ic j n).up=n.up/\yk (N.ic j n)=yk n/\N.ic j (N.ic j n)=N.ic j n:=by
 match j with
 |0=>exact⟨rfl,rfl,rfl,rfl,rfl⟩
 |1=>exact⟨rfl,rfl,rfl,rfl,rfl⟩
 |_+2=>exact⟨rfl,rfl,rfl,rfl,rfl⟩
def aF5(n:N):kH n=n\/(kH n).ro=2:=by
 unfold kH
 cases e:nM n with
 |false=>exact .inr (by rw[N.cT];rfl)
 |true=>
  refine .inl ?_;rw[N.cT,au];unfold nM at e;unfold kI sK xb xc Db
  cases c:(n.D==1048576)with
  |true=>rfl
  |false=>
   rw[c,aB]at e;have m:=D_ (h:=n) (a:=i64 (n.D+1)) (b:=n.aM) (by simpa using e);simp only[aB];rw[m]
def aF6(n:N):(kH n).up=n.up:=by
 unfold kH;rw[N.cT]
 cases nM n<;>rfl
end
def ac4(r:I bB)(t:I Int)(s:Int)(h:N):N:={h with aM:=(zr h.aM),up:=Vv,ro:=zB,D:=(Hq (Cm r)),bl:=(Hr (Cn r)),e:=(Hs (qY r)),lt:=(Ht (y9 r)),li:=(Hu (sv r)),b9:=(Hv (oD r)),g9:=(Hd (Co r)),hE:=(He (y6 r)),fU:=(Hf (y7 r)),dW:=(Hg (F_ r)),fT:=(Hh (y8 r)),fL:=(Hi (y6 r)),dx:=(Hj (y7 r)),fx:=(Hk (F_ r)),eN:=(Hl (y8 r)),co:=(Hm (oD r)),v0:=zs,v1:=zt,v2:=zu,eL:=zv,ef:=zw,ek:=zx,hX:=zy,q1:=zz,gw:=zA,ws:=(B:I hz),a_:=t,bp:=s,a1:=(B:I ai)}
def arJ(x:Int)(n:N):gS x n=ac4 (wN (rq n.a_ n.bp x) (xv n.a_ n.bp x)) (y5 (rq n.a_ n.bp x) (xv n.a_ n.bp x)) (F9 (rq n.a_ n.bp x) (xv n.a_ n.bp x)) n:=rfl
def aj6{l:List aK}(h: ∀a∈l,fO a)(c:l.length<=3000):og (I.lit l):=by
 refine⟨c,λq b=>h _ ?_⟩;have b:q<l.length:=b;show l.getD q default∈l;rw[E7,cG b,mM];exact mb b
def aF8{A:I bB}{i:Int}{c:fs}{r y:bB}{v:I ax}(q:A.at' i.toNat=y)(n:yB r y)(u:mO y)(s:mO r)(d:v.B=c.li)(m:tU c)(o:wy c r):
  qZ A i c.e c.lt v=true/\Ud A i c.D=(g_ c r).D/\Ue A i c.bl=(g_ c r).bl/\Ga A i c.b9=(g_ c r).b9/\Ug A i c.b9 c.lt=(g_ c r).lt/\wP A i c.b9 c.e c.lt v=(g_ c r).e/\Cp A i c.b9 c.e c.lt v=(g_ c r).lt/\(wO A i c.b9 c.e c.lt v).B=(g_ c r).li:=by
 obtain⟨hD,cX,ct,F⟩:=n;have L:ku c.e c.lt v.B:=by rw[d];exact m
 have l:(fJ y.r y.K y.G y.q y.j y.m y.ak y.aA y.i y.aJ y.b4 y.cb y.b0 y.cq y.bn y.c9 y.fc y.eH y.fe y.eI !=0)=false:=by rw[show fJ y.r y.K y.G y.q y.j y.m y.ak y.aA y.i y.aJ y.b4 y.cb y.b0 y.cq y.bn y.c9 y.fc y.eH y.fe y.eI=0 from u];rfl
 unfold qZ Ud Ue Ga Ug wP Cp wO g_;rw[q,l];rcases ED s with⟨k,a,b,e⟩|⟨k,a,b⟩|⟨k,a,b,e⟩
 .obtain⟨f,h⟩:=cX k;rw[bg k,hD,k];exact⟨rfl,f,h,rfl,rfl,rfl,rfl,d⟩
 .obtain⟨f,h⟩:=ct k;have it:(⟨y.j,y.m,y.ak,y.aA,y.i,y.aJ,y.b4,y.cb,y.b0,y.cq⟩:ax)=lj r:=h;have p:=L.n;rw[bj]at p;have J:=L.b;rw[aW Ω,bg k,hD,k];have B:Gd c.e c.lt v y.q y.j y.m y.ak y.aA y.i y.aJ y.b4 y.cb y.b0 y.cq=0/\(y_ c.e c.lt v y.q y.j y.m y.ak y.aA y.i y.aJ y.b4 y.cb y.b0 y.cq).B=(if r.q<=c.e then c else {c with li:=c.li.take (r.q-c.e-1).toNat++[lj r]}).li:=by
   unfold Gd y_;rw[it,f,X2 L]
   by_cases z:r.q<=c.e
   .rw[bm z,bg z];exact⟨rfl,d⟩
   .obtain⟨G,H⟩:=(o k).resolve_left z;rw[<-d,bj]at G;have j:(I.app (I.part v 0 (i64 (i64 (r.q-c.e)-1))) (I.lit ([lj r]:List ax))).B=c.li.take (r.q-c.e-1).toNat++[lj r]:=by
     rw[E (r.q-c.e),E (r.q-c.e-1),fH,fQ,sc _ _ _ Ω Ω Ω,<-d];rw[show(r.q-c.e-1-0).toNat=(r.q-c.e-1).toNat by omega];rfl
    have g:cV c.e c.lt (I.app (I.part v 0 (i64 (i64 (r.q-c.e)-1))) (I.lit ([lj r]:List ax)))=0:=u3.2 (by rw[j];exact H);rw[a8 z,aW z,g,E (c.e+(v.n:Int)+1),a8 Ω];exact⟨rfl,j⟩
  obtain⟨w,x⟩:=B;rw[w];refine⟨rfl,?_,?_,?_,?_,?_,?_,x⟩<;>by_cases z:r.q<=c.e<;>first|rw[bg z];rfl|rw[aW z];rfl
 .obtain⟨f,h⟩:=F k;have⟨C,q1,D⟩:=ZP L (i:=r.bn) (t:=r.c9) Ω;rw[aW Ω,aW Ω,hD,k,f,h]
  by_cases z:r.bn>c.b9
  .rw[bg z,bm z];refine⟨rfl,rfl,rfl,rfl,rfl,C,q1,?_⟩;show(pZ c.e c.lt v r.bn r.c9).B=if n_ c.e c.lt c.li r.bn=some r.c9 then _ else _
   rw[D,d]
  .rw[aW z,a8 z];exact⟨rfl,rfl,rfl,rfl,rfl,rfl,rfl,d⟩
def ato{A:I bB}(O:A.n<=549755813888): ∀(rs:List bB) (i a:Nat) (c d:fs) (h:Int) (j:I ah) (k:Int) (l:I ay) (v:I ax),i+rs.length=A.n->rs.length<a->bb (λr y=>yB r y/\mO y) rs (A.B.drop i)->tU c->v.B=c.li->lB c rs d->(∀r∈rs,mO r)->
  ∃(K:Int) (L:I ah) (M:Int) (N:I ay) (w:I ax),uA A a (i:Int) c.D c.bl c.b9 c.lt h j k l c.e c.lt v=(false,d.D,d.bl,d.b9,d.lt,K,L,M,N,d.e,d.lt,w,default,default,default,default,default,default,default,default,default,default,default,default)/\w.B=d.li/\tU d:=by
 intro rs
 induction rs with
 |nil=>
  intro i a c d h j k l v m g _ e n b _;obtain⟨a,rfl⟩: ∃q,a=q+1:=⟨a-1,by rw[gx]at g;omega⟩;have b:c=d:=b;subst b;rw[gx]at m;rw[uA,a8 Ω];exact⟨h,j,k,l,v,rfl,n,e⟩
 |cons r rs z=>
  intro i a c d h j k l v m g f e n b s;obtain⟨a,rfl⟩: ∃q,a=q+1:=⟨a-1,by rw[dE]at g;omega⟩;rw[dE]at m g;have t:i<A.B.length:=by rw[bj];omega
  rw[r8 t]at f;have q:A.at' (toNat (i:Int))=A.B[i]:=ug (i:=i) (cG t);have o:=s r (List.mem_cons_self ..);have⟨p,B,F,G,H,J,C,D⟩:=aF8 q f.1.1 f.1.2 o n e b.1;rw[uA,bm Ω,au,p,au,E ((i:Int)+1),B,F,G,H,J,C,show(i:Int)+1=((i+1:Nat):Int) by omega];exact z (i+1) a (g_ c r) d _ _ _ _ _ Ω Ω f.2 (alH e o b.1) D b.2 λx u=>s x (List.mem_cons_of_mem _ u)
def mV:fs:=⟨0,-1,0,0,0,[]⟩
def ajb:tU mV:=⟨bz _,Δ,⟨λ_=>rfl,λ_=>rfl⟩,Δ,trivial⟩
def core(n:N):fs:=⟨n.D,n.bl,n.b9,n.e,n.lt,n.li.B⟩
def atq{A:I bB}(j:A.n<=549755813888){rs:List bB}{d:fs}(g:bb (λr y=>yB r y/\mO y) rs A.B)(k:lB mV rs d)(i: ∀r∈rs,mO r):
  Cm A=d.D/\Cn A=d.bl/\oD A=d.b9/\Co A=d.lt/\qY A=d.e/\y9 A=d.lt/\(sv A).B=d.li/\tU d/\mn A=true:=by
 have l:rs.length=A.n:=by
  have n: ∀(f c:List bB),bb (λr y=>yB r y/\mO y) f c->f.length=c.length:=by
   intro f
   induction f with
   |nil=>intro c h;cases c with|nil=>rfl|cons _ _=>exact h.elim
   |cons a f m=>intro c h;cases c with|nil=>exact h.elim|cons b c=>rw[dE,dE,m c h.2]
  rw[n _ _ g,bj]
 have⟨o,p,q,s,w,e,b,L⟩:=ato j rs 0 (toNat ((A.n:Int)-0)+1) mV d xp xq xr xt B Ω Ω (by rw[List.drop_zero];exact g) ajb rfl k i;have r:fu A=(false,d.D,d.bl,d.b9,d.lt,o,p,q,s,d.e,d.lt,w,default,default,default,default,default,default,default,default,default,default,default,default):=e;unfold Cm Cn oD Co qY y9 sv mn;rw[r];exact⟨rfl,rfl,rfl,rfl,rfl,rfl,b,L,rfl⟩
structure Fi (n:N):Prop where
 t:wB n.a_ n.bp
 r: ∃rs,(∀r∈rs,jv r)/\n.a_.B=rs.flatMap dB/\lB mV rs (core n)
def Fi.log{n:N}(h:Fi n):ku n.e n.lt n.li.B:=by
 have⟨rs,a,i,b⟩:=h.r;have g: ∀(rs:List bB) (c d:fs),(∀r∈rs,jv r)->tU c->lB c rs d->tU d:=by
  intro rs
  induction rs with
  |nil=>intro c d _ L h;have h:c=d:=h;subst h;exact L
  |cons r rs f=>intro c d k L h;exact f _ _ (λx e=>k x (List.mem_cons_of_mem _ e)) (alH L (k r (List.mem_cons_self ..)).c h.1) h.2
 exact g rs mV (core n) a ajb b
def ZW: ∀{rs:List bB} {c d e:fs},lB c rs d->lB c rs e->d=e
 |[],_,_,_,h,k=>(show _=_ from h).symm.trans k
 |_::_,_,_,_,h,k=>ZW h.2 k.2
def ai7: ∀{rs:List bB},(∀r∈rs,jv r)->rs.length<=(rs.flatMap dB).length
 |[],_=>cd _
 |r::rs,h=>by
  have n:=y2 (h r (List.mem_cons_self ..));have:=ai7 (rs:=rs) λx a=>h x (List.mem_cons_of_mem _ a);rw[gO,db,dE];omega
def arK{n:N}(hV:wB n.a_ n.bp){rs:List bB}(A: ∀r∈rs,jv r)(Z:n.a_.B=rs.flatMap dB)(fG:lB mV rs (core n)){x:Int}(l2:0<=x): ∃k,(wB (gS x n).a_ (gS x n).bp/\(gS x n).a_.B=(rs.take k).flatMap dB/\lB mV (rs.take k) (core (gS x n))/\(∀b,(((rs.take b).flatMap dB).length:Int)<=n.bp->b<=rs.length->b<=k)/\(gS x n).bp=(((rs.take k).flatMap dB).length:Int))/\(gS x n).g9=(gS x n).lt/\ ∃a b c d,(gS x n).fL=xE (jG a b c d)/\(gS x n).dx=rA (jG a b c d)/\(gS x n).eN=rB (jG a b c d):=by
 obtain⟨xN,gT,aFq,s1⟩:=hV;have⟨D,F,ib⟩:=AW (a:=n.a_) (b:=n.bp) aFq s1 gT;obtain⟨z,u,aHs,sa,O,P⟩: ∃z:Int,0<=z/\z<=n.a_.n/\n.bp<=z/\rq n.a_ n.bp x=I.part n.a_ 0 z/\xv n.a_ n.bp x=z:=by
  have i:=qm x (i64 ((n.a_.n:Int)-n.bp));rw[E ((n.a_.n:Int)-n.bp)]at i;refine⟨n.bp+gj x ((n.a_.n:Int)-n.bp),Ω,Ω,Ω,?_,?_⟩
  .unfold rq;rw[D,F,ib,a8 Ω,E ((n.a_.n:Int)-n.bp),E (n.bp+gj x ((n.a_.n:Int)-n.bp))];rfl
  .unfold xv;rw[D,F,ib,a8 Ω,E ((n.a_.n:Int)-n.bp),E (n.bp+gj x ((n.a_.n:Int)-n.bp))];rfl
 rw[arJ,O,P];have iw:z.toNat<=n.a_.n:=by omega
 have qS:(I.part n.a_ 0 z).B=(rs.flatMap dB).take z.toNat:=by
  rw[sc _ _ _ (bz _) u aHs,Z,show(z-0).toNat=z.toNat by omega];rfl
 have J:((I.part n.a_ 0 z).n:Int)=z:=aEr n.a_ u;have m:aN (I.part n.a_ 0 z):=λi=>xN _;generalize I.part n.a_ 0 z=a at qS J m |-;have⟨k,j,ix,s,j0,_,Az⟩:=ac9 rs z.toNat A;have p: ∀r∈rs.take k,jv r:=λr q=>A r (List.mem_of_mem_take q);have T:wB a z:=⟨m,Ω,u,Ω⟩;have aHN:((rs.take k).flatMap dB).length+j.length=a.n:=by rw[<-bj,qS,s,db]
 have ath:=ai7 p;have⟨e,H,f,l⟩:=aES T (rs.take k) [] j (toNat ((a.n:Int)-0)+1) B p (by rw[qS,s];rfl) j0 Ω;have⟨G,ek,t⟩:=AW (a:=a) (b:=z) T.s.1 T.s.2 T.n;have Q:nG a z=oC a z (toNat ((a.n:Int)-0)+1) ((([]:List Int).length:Nat):Int) B:=by unfold nG;rw[G];rfl
 rw[<-Q]at f l;have K:wN a z=(nG a z).2:=by unfold wN;rw[t];rfl
 have L:y5 a z=I.part a 0 (nG a z).1:=by unfold y5;rw[t,G];rfl
 have M:F9 a z=(nG a z).1:=by
  unfold F9;rw[t,ek];have:=qm z (nG a z).1;rw[gx]at f;show gj z (nG a z).1=_;omega
 rw[K,L,M];generalize nG a z=R at f l |-;rw[gx,dj]at f;rw[show(B:I bB).B=[]from rfl,r6]at l;have⟨v,C⟩:=alc k fG;have aFd:R.2.n<=549755813888:=by
  have key: ∀(g e:List bB),bb (λr y=>yB r y/\mO y) g e->g.length=e.length:=by
   intro g
   induction g with
   |nil=>intro e h;cases e with|nil=>rfl|cons _ _=>exact h.elim
   |cons a g pe=>intro e h;cases e with|nil=>exact h.elim|cons b e=>rw[dE,dE,pe e h.2]
  have:=key _ _ H;rw[<-bj,l,<-this];omega
 have⟨S,U,V,Y,W,w,X,_,o⟩:=atq aFd (by rw[l];exact H) C λr q=>(p r q).c;have awq:core (ac4 R.2 (I.part a 0 R.1) R.1 n)=v:=by
  show(⟨Cm R.2,Cn R.2,oD R.2,qY R.2,y9 R.2,(sv R.2).B⟩:fs)=v;rw[S,U,V,W,w,X]
 have gU:(I.part a 0 R.1).B=(rs.take k).flatMap dB:=by
  rw[sc _ _ _ (bz _) Ω Ω,qS,s,f,show(0:Int).toNat=0 from rfl,List.drop_zero,show((((rs.take k).flatMap dB).length:Nat)- (0:Int)).toNat=((rs.take k).flatMap dB).length by omega,List.take_left]
 have aJj:(I.part a 0 R.1).n=((rs.take k).flatMap dB).length:=by rw[<-bj,gU]
 refine⟨k,⟨⟨λi=>m _,?_,?_,?_⟩,gU,by rw[awq];exact C,λb jH nV=>Az b Ω nV,f⟩,?_,?_⟩
 .show(I.part a 0 R.1).n<=400000;omega
 .show 0<=R.1;omega
 .show R.1<=((I.part a 0 R.1).n:Int);omega
 .show Co R.2=y9 R.2;rw[Y,w]
 .refine⟨(fu R.2).2.2.2.2.2.1,(fu R.2).2.2.2.2.2.2.1,(fu R.2).2.2.2.2.2.2.2.1,(fu R.2).2.2.2.2.2.2.2.2.1,?_,?_,?_⟩
  .show y6 R.2=_;unfold y6;rw[o];rfl
  .show y7 R.2=_;unfold y7;rw[o];rfl
  .show y8 R.2=_;unfold y8;rw[o];rfl
section
variable {A g:Int} {u:I ax} {o v:Int} {d:I ax}
def kc(A:Int)(u:I ax)(o:Int)(d:I ax)(w:Int):I ax:=I.app (I.part u 0 (cJ A o d-A+w)) (I.part (eB A o d) w ((eB A o d).n:Int))
def ac_{w:Int}(h:0<=cJ A o d-A+w)(a:0<=w/\w<=((eB A o d).n:Int)):((kc A u o d w).n:Int)=cJ A o d-A+((eB A o d).n:Int):=by
 show(((cJ A o d-A+w-0).toNat+(((eB A o d).n:Int)-w).toNat:Nat):Int)=_;omega
end
def pK:dY (B:I ah):=⟨cd _,λi a=>absurd a (dJ _)⟩
def pJ:e6 (B:I ay):=⟨cd _,λi a=>absurd a (dJ _)⟩
def ak_: ∀{rs:List bB} {c d:fs},c.b9=c.e->lB c rs d->d.b9=d.e
 |[],c,d,e,h=>by
  have h:c=d:=h;subst h;exact e
 |r::rs,c,d,e,h=>by
  refine ak_ (c:=g_ c r) ?_ h.2;unfold g_
  by_cases a:r.r=1
  .rw[bg a];exact e
  rw[aW a]
  by_cases b:r.r=2
  .rw[bg b]
   by_cases f:r.q<=c.e
   .rw[bg f];exact e
   .rw[aW f];exact e
  rw[aW b]
  by_cases g:r.bn>c.b9
  .rw[bg g]
  .rw[aW g];exact e
def Fi.b9{n:N}(h:Fi n):n.b9=n.e:=by
 have⟨rs,_,_,a⟩:=h.r;exact ak_ (c:=mV) rfl a
section
variable {A g:Int} {u:I ax} {o v:Int} {d:I ax}
def ajx(j:0<=A/\A<=1048576)(p:u.n<=200)(m:A<=cJ A o d/\cJ A o d<=A+(u.n:Int))(l:(eB A o d).n<=200):
  ∀(k:Nat) (v:Int),0<=v->v<=((eB A o d).n:Int)->toNat (((eB A o d).n:Int)-v)<k->cJ A o d-A+v<=u.n->(o6 A g u o d k v).1=true->(o6 A g u o d k v).2.2.2.2.2.2=0->
   ∃w,v<=w/\w<((eB A o d).n:Int)/\cJ A o d-A+w<=u.n/\cV A g (kc A u o d w)=0/\(o6 A g u o d k v).2.1=A/\(o6 A g u o d k v).2.2.1=g/\(o6 A g u o d k v).2.2.2.1=kc A u o d w/\(o6 A g u o d k v).2.2.2.2.2.1=cJ A o d+w+1
 |0,v,_,_,h,_,_,_=>absurd h (dJ _)
 |k+1,v,s,t,q,n,a,b=>by
  rw[o6]at a b |-
  by_cases c:v<((eB A o d).n:Int)
  .rw[bm c]at a b |-;simp only[au]at a b |-
   cases e:s3 A u o d v with
   |true=>
    have r:cJ A o d-A+v<(u.n:Int):=by
     unfold s3 at e;rw[E (cJ A o d-A),E (cJ A o d-A+v)]at e
     by_cases f:cJ A o d-A+v<(u.n:Int)
     .exact f
     .rw[a8 f]at e;cases e
    rw[e]at a b;simp only[au]at a b |-;rw[E (v+1)]at a b |-;have⟨w,aL,aO⟩:=ajx j p m l k (v+1) Ω Ω Ω Ω a b;exact⟨w,Ω,aO⟩
   |false=>
    rw[e]at a b;simp only[aB]at a b |-;rw[E (cJ A o d-A),E (cJ A o d-A+v),E (cJ A o d+v),E (cJ A o d+v+1)]at a b |-
    cases i:(cV A g (I.app (I.part u 0 (cJ A o d-A+v)) (I.part (eB A o d) v ((eB A o d).n:Int)))!=0)with
    |true=>
     rw[i]at b;exact absurd b (by decide:(6:Int)≠0)
    |false=>exact⟨v,bz _,c,n,bP i,rfl,rfl,rfl,rfl⟩
  .rw[a8 c]at a
   cases a
def ajz(h:iP A g u o v d=0)(a:dQ A g u o v d≠0):
  ∃w,(0<=w/\w<((eB A o d).n:Int))/\(A<=cJ A o d/\cJ A o d-A+w<=u.n)/\cV A g (kc A u o d w)=0/\cr A g u o v d=A/\va A g u o v d=g/\cf A g u o v d=kc A u o d w/\dQ A g u o v d=cJ A o d+w+1:=by
 unfold iP at h;unfold dQ at a |-;unfold cr va cf
 cases b:(cV A g u !=0)with
 |true=>rw[b]at a;exact absurd rfl a
 |false=>
 cases c:(cV o v d !=0)with
 |true=>rw[b,c]at a;exact absurd rfl a
 |false=>
 cases f:qj A g u o v d with
 |false=>rw[b,c,f]at a;exact absurd rfl a
 |true=>
 cases e:vb A g u o d with
 |true=>rw[b,c,f,e]at a;exact absurd rfl a
 |false=>
 rw[b,c,f,e]at h;simp only[aB,au]at h |-;have G:=fF _ _ _ (bP b);have i:=fF _ _ _ (bP c);have j:=f75 A g u o v d f ⟨⟨G.1,G.2.2.1⟩,i.1,i.2.2.1⟩;have t:(s4 A g u o d).1=true:=by
  unfold vb at e
  cases q:(s4 A g u o d).1 with
  |true=>rfl
  |false=>rw[q]at e;cases e
 have⟨w,fy,e1,fq,k,l,m,n,p⟩:=ajx (g:=g) G.1 G.2.2.1 j.1 Ω (toNat (((eB A o d).n:Int)-0)+1) 0 (bz _) Ω Ω Ω t h;exact⟨w,⟨fy,e1⟩,⟨j.1.1,fq⟩,k,l,m,n,p⟩
def ac8{w:Int}(a:0<=w/\w<=((eB A o d).n:Int))(b:A<=cJ A o d)(c:cJ A o d-A+w<=u.n):(kc A u o d w).B=u.B.take (cJ A o d-A+w).toNat++(eB A o d).B.drop w.toNat:=by
 unfold kc;rw[fH,sc _ _ _ Ω Ω Ω,sc _ _ _ Ω Ω Ω,show(cJ A o d-A+w-0).toNat=(cJ A o d-A+w).toNat by omega,List.take_of_length_le (l:=(eB A o d).B.drop w.toNat) (by rw[r_,bj];omega)];rfl
end
def ku.take{a b:Int}{l:List ax}(h:ku a b l)(k:Nat):ku a b (l.take k):=by
 have c:=h.n;exact⟨h.b,h.t,h.z,⟨by rw[jr];omega,by rw[jr];omega⟩,acO k h.c⟩
structure ja (G:Int->fs->Prop) (d:I Int) (s:Int) (c:fs):Prop where
 t:wB d s
 r: ∃rs,(∀r∈rs,jv r)/\d.B=rs.flatMap dB/\lB mV rs c/\(∃b,b<=rs.length/\s=(((rs.take b).flatMap dB).length:Int))/\ ∀j e,s<=(((rs.take j).flatMap dB).length:Int)->lB mV (rs.take j) e->G (((rs.take j).flatMap dB).length:Int) e
abbrev iG(G:Int->fs->Prop)(n:N):Prop:=ja G n.a_ n.bp (core n)
section
variable {e3 Fe:Int->fs->Prop} {kz:I Int} {aas:Int} {bd:fs} {C:N}
def ja.mono(h:ja e3 kz aas bd)(d: ∀l e,e3 l e->Fe l e):ja Fe kz aas bd:=by
 have⟨rs,aL,aO,a,b,c⟩:=h.r;exact⟨h.t,rs,aL,aO,a,b,λj e x y=>d _ _ (c j e x y)⟩
def ja.top(h:ja e3 kz aas bd):e3 (kz.n:Int) bd:=by
 have⟨rs,aL,aO,a,c,b⟩:=h.r;have k:=b rs.length bd;rw[List.take_length,<-aO,bj]at k;exact k h.t.s.2 a
def ja.Bo(h:iG e3 C):Fi C:=by
 have⟨rs,aL,aO,a,_⟩:=h.r;exact⟨h.t,rs,aL,aO,a⟩
def aml(h:ja e3 C.a_ C.bp bd){rc:bB}(s:dY rc.eH)(c:e6 rc.eI)(l:wy bd rc)(dW:jv rc->e3 ((C.a_.n:Int)+((dB rc).length:Int)) (g_ bd rc)):(gu rc C=false/\(fI rc C).a_=C.a_/\(fI rc C).bp=C.bp)\/(gu rc C=true/\jv rc/\ja e3 (fI rc C).a_ (fI rc C).bp (g_ bd rc)):=by
 rcases aHn h.t s c with a|⟨a,b,kz,e,f⟩
 .exact .inl a
 .obtain⟨rs,m,i,k,⟨u,n,o⟩,p⟩:=h.r;have v:(fI rc C).a_.n=C.a_.n+(dB rc).length:=by rw[<-bj,kz,db,bj]
  have t:C.a_.n=(rs.flatMap dB).length:=by rw[<-i,bj]
  refine .inr ⟨a,b,⟨v7 h.t.u,f,?_⟩,rs++[rc],?_,?_,ZV k l,⟨u,?_,?_⟩,λj y g c=> ?_⟩
  .rw[e,v];have:=h.t.s;omega
  .intro r d;rcases fj.1 d with d|d
   .exact m r d
   .rw[List.mem_singleton.1 d];exact b
  .rw[kz,i,tP,gO,List.flatMap_nil,iE]
  .rw[db];omega
  .rw[e,List.take_append_of_le_length n];exact o
  .by_cases q:j<=rs.length
   .rw[List.take_append_of_le_length q]at g c |-;rw[e]at g;exact p j y g c
   .rw[List.take_of_length_le (by rw[db,dE,gx];omega)]at g c |-;rw[ZW c (ZV k l),tP,db,gO,List.flatMap_nil,iE,<-t];exact dW b
def ja.same{n':N}(h:iG e3 C)(a:n'.a_=C.a_)(b:n'.bp=C.bp)(bo:core n'=core C):iG e3 n':=by
 show ja e3 n'.a_ n'.bp (core n');rw[a,b,bo];exact h
def aem(a b:Int):(dB (A1 a b)).length=8:=rfl
def aCj{a b:Int}(h:jv (A1 a b)):1<=a/\a<=1048576:=by
 rcases ED h.c with q|q|q
 .exact q.2.1
 .exact absurd q.1 (show¬(1:Int)=2 by decide)
 .exact absurd q.1 (show¬(1:Int)=3 by decide)
def QF{a b:Int}(h:iG e3 C)(c:1<=a/\a<=1048576->e3 ((C.a_.n:Int)+8) {core C with D:=a,bl:=b}):iG e3 (dt a b C):=by
 rcases aml h (rc:=(A1 a b)) pK pJ (λz=>absurd z (show(1:Int)≠2 by decide)) (λk=>by rw[aem];exact c (aCj k))with⟨r,t1,t2⟩|⟨r,_,w⟩
 .have e:dt a b C=C:=D_ (by unfold iu;rw[r];rfl);rw[e];exact h
 .have q:core (dt a b C)=g_ (core C) (A1 a b):=by
   unfold core dt MF MG;rw[r];rfl
  show ja e3 (dt a b C).a_ (dt a b C).bp (core (dt a b C));rw[q];exact w
def amj(h:iG e3 C)(l:Fe (C.a_.n:Int) (core C)):iG Fe (lb C):=by
 have⟨k,r,ib⟩:=AW (a:=C.a_) (b:=C.bp) h.t.s.1 h.t.s.2 h.t.n;have t1:(lb C).a_=C.a_:=by
  show Dy C.a_ C.bp=_;unfold Dy;rw[ib,k];rfl
 have t2:(lb C).bp=(C.a_.n:Int):=by
  show MP C.a_ C.bp=_;unfold MP;rw[ib,k];rfl
 have⟨rs,aL,aO,f,o,p⟩:=h.r;have c:C.a_.n=(rs.flatMap dB).length:=by rw[<-aO,bj]
 show ja Fe (lb C).a_ (lb C).bp (core C);rw[t1,t2];refine⟨⟨h.t.u,h.t.n,Ω,bz _⟩,rs,aL,aO,f,⟨rs.length,bH _,by rw[List.take_length,c]⟩,λj e m g=> ?_⟩;have:rs.take j=rs:=by
  by_cases q:rs.length<=j
  .exact List.take_of_length_le q
  .exfalso;have i:j<rs.length:=by omega
   have d:rs.flatMap dB=(rs.take j).flatMap dB++(dB rs[j]++(rs.drop (j+1)).flatMap dB):=by
    rw[<-gO,<-r8 i,<-tP,qz]
   have n:=(y2 (aL rs[j] (mb i))).2;rw[c,d,db,db]at m;omega
 rw[this]at g |-;rw[ZW g f,<-c];exact l
def amk(h:iG e3 C){x:Int}(B:0<=x):iG e3 (gS x C)/\(gS x C).g9=(gS x C).lt/\ ∃a b c d,(gS x C).dx=rA (jG a b c d)/\(gS x C).eN=rB (jG a b c d):=by
 have⟨rs,aL,aO,g,⟨u,i,G⟩,l⟩:=h.r;have⟨k,⟨T,t,v,y,aF2⟩,E,a',b',n,o,_,p,s⟩:=arK h.t aL aO g B;have F:=y u Ω i;have D: ∀{m:Nat},m<=k->((rs.take m).flatMap dB).length<=((rs.take k).flatMap dB).length:=λ{m} z=>by
  have q:rs.take k=(rs.take k).take m++(rs.take k).drop m:=(qz ..).symm;rw[List.take_take,Nat.min_eq_left z]at q;rw[q,tP,db];omega
 refine⟨⟨T,rs.take k,λr A=>aL r (List.mem_of_mem_take A),t,v,⟨(rs.take k).length,bH _,by rw[List.take_length,aF2]⟩,λj e w f=> ?_⟩,E,a',b',n,o,p,s⟩;rw[List.take_take]at w f |-;have:=D F;exact l _ e Ω f
end
section
variable {ms:ai} {h:N} {L:I ai} {aj:I bI} {an:I aw}
theorem alD{i t A u:Int}{g:I ah}{o:I ay}(h:mO (A2 i t A g u o)):(1<=i/\i<=1048576)/\(1<=t/\t<=1048576)/\eK A g u o=0:=by
 rcases ED h with⟨k,_⟩|⟨k,_⟩|⟨_,a,b,c⟩
 .exact absurd (show(3:Int)=1 from k) Δ
 .exact absurd (show(3:Int)=2 from k) Δ
 .exact⟨a,b,c⟩
end
def yx(G:Int->fs->Prop):Prop:= ∀l m (e f:fs),e.D=f.D->e.bl=f.bl->G l e->G m f
def alG{c:fs}{r:bB}(h:r.r≠1):c.D=(g_ c r).D/\c.bl=(g_ c r).bl:=by
 unfold g_;rw[aW h]
 by_cases b:r.r=2
 .rw[bg b]
  by_cases z:r.q<=c.e
  .rw[bg z];exact⟨rfl,rfl⟩
  .rw[aW z];exact⟨rfl,rfl⟩
 rw[aW b]
 by_cases z:r.bn>c.b9
 .rw[bg z];exact⟨rfl,rfl⟩
 .rw[aW z];exact⟨rfl,rfl⟩
section
variable {ms:ai} {h C:N} {bd:fs} {L:I ai} {aj:I bI} {an:I aw} {e3:Int->fs->Prop}
def QE(b:yx e3)(h:ja e3 C.a_ C.bp bd){rc:bB}(d:dY rc.eH)(c:e6 rc.eI)(e:wy bd rc)(a:rc.r≠1):(gu rc C=false/\(fI rc C).a_=C.a_/\(fI rc C).bp=C.bp)\/(gu rc C=true/\jv rc/\ja e3 (fI rc C).a_ (fI rc C).bp (g_ bd rc)):=
 aml h d c e λ_=>b _ _ _ _ (alG a).1 (alG a).2 h.top
def aHl(g:yx e3)(h:iG e3 C)(it:ax):iG e3 (ki it C):=by
 by_cases e:ki it C=C
 .rw[e];exact h
 have L:=h.Bo.log;have i:=L.n;rw[bj]at i;have v:=L.b;have p:b_ C=C.e+(C.li.n:Int):=X2 L;revert e;unfold ki C_ age Da HD VD uV
 cases f:(iP C.e C.lt C.li (b_ C) (hr C) (I.lit ([it]:List ax))!=0)with
 |true=>exact λe=>absurd rfl e
 |false=>
 cases !(jF C.e C.lt C.li (b_ C) (hr C) (I.lit ([it]:List ax)))with
 |true=>exact λe=>absurd rfl e
 |false=>
 cases bo:(dQ C.e C.lt C.li (b_ C) (hr C) (I.lit ([it]:List ax))==0)with
 |true=>exact λe=>absurd rfl e
 |false=>
 have⟨w,⟨fy,e1⟩,⟨fq,n⟩,o,q,s,u,_⟩:=ajz (bP f) (ew.1 bo);have l:cJ C.e (b_ C) (I.lit ([it]:List ax))=C.e+(C.li.n:Int):=by
  unfold cJ;rw[p,a8 Ω];rfl
 have c:eB C.e (b_ C) (I.lit ([it]:List ax))=I.lit ([it]:List ax):=by
  unfold eB;rw[p,a8 Ω];rfl
 obtain rfl:w=0:=by
  rw[c]at e1;have:((I.lit ([it]:List ax)).n:Int)=1:=rfl;omega
 have b:(kc C.e C.li (b_ C) (I.lit ([it]:List ax)) 0).B=C.li.B++[it]:=by
  rw[ac8 ⟨bz _,Ω⟩ fq n,l,c,fQ,List.take_of_length_le (by rw[bj];omega)];rfl
 have a:ku C.e C.lt (C.li.B++[it]):=by rw[<-b];exact u3.1 o
 have k:=a.n;rw[db,bj,dE,gx]at k;have j:i64 (b_ C+1)=C.e+(C.li.n:Int)+1:=by rw[p];exact E _
 have d:C.li.B.take (C.e+(C.li.n:Int)+1-C.e-1).toNat=C.li.B:=List.take_of_length_le (by rw[bj];omega);rw[q,s,u,j];have st:g_ (core C) (PO (C.e+(C.li.n:Int)+1) it)={core C with li:=C.li.B++[it]} :=by
  unfold g_;rw[aW (show¬(2:Int)=1 by decide),bg rfl];show(if C.e+(C.li.n:Int)+1<=C.e then core C else {core C with li:=C.li.B.take (C.e+(C.li.n:Int)+1-C.e-1).toNat++[it]})=_;rw[aW Ω,d]
 have m:wy (core C) (PO (C.e+(C.li.n:Int)+1) it):=by
  intro _;right;show C.e+(C.li.n:Int)+1<=C.e+(C.li.B.length:Int)+1/\ku C.e C.lt (C.li.B.take (C.e+(C.li.n:Int)+1-C.e-1).toNat++[it]);rw[d,bj];exact⟨bz _,a⟩
 rcases QE g h pK pJ m (show(2:Int)≠1 by decide)with⟨r,t⟩|⟨r,_,W⟩
 .intro e;rw[r,t.1,t.2]at e;exact absurd rfl e
 .intro _;rw[st,<-b]at W;rw[r];exact W
def aHk(p:yx e3){kC:Int}{l:I ax}(m:cr h.e h.lt h.li ms.j ms.m ms.i=h.e)(n:cf h.e h.lt h.li ms.j ms.m ms.i=l)(c:ku h.e h.lt l.B)(B:h.e+1<=kC/\kC<=h.e+(l.n:Int)):
  ∀(k:Nat) (v:Int) (a:I Int) (b:Int) (li:List ax),kC<=v->v<=h.e+(l.n:Int)+1->toNat (h.e+(l.n:Int)+1-v)<k->ja e3 a b {core h with li:=li} ->li.take (v-h.e-1).toNat=l.B.take (v-h.e-1).toNat->(v-h.e-1).toNat<=li.length->(kC<v->li=l.B.take (v-h.e-1).toNat)->
   (m9 ms h L aj an k v a b).1=true\/((m9 ms h L aj an k v a b).1=false/\ja e3 (m9 ms h L aj an k v a b).2.1 (m9 ms h L aj an k v a b).2.2.1 {core h with li:=l.B}):=by
 have q:=c.n;rw[bj]at q;have A:=c.b;intro k
 induction k with
 |zero=>intro v a b li _ _ o;exact absurd o (dJ _)
 |succ k u=>
  intro v a b li y z D W g F s;rw[m9,m,n,E (h.e+(l.n:Int))]
  by_cases e:v<=h.e+(l.n:Int)
  .have f:(v-h.e-1).toNat<l.B.length:=by rw[bj];omega
   rw[bm e,au,E (v-h.e),E (v-h.e-1),show l.at' (toNat (v-h.e-1))=l.B[(v-h.e-1).toNat]from ug (i:=(v-h.e-1).toNat) (cG f),E (v+1)];generalize t:l.B[(v-h.e-1).toNat]=x;have j:l.B.take (v-h.e-1).toNat++[x]=l.B.take (v+1-h.e-1).toNat:=by
    rw[show(v+1-h.e-1).toNat=(v-h.e-1).toNat+1 by omega,List.take_add_one,cG f,t];rfl
   have st:g_ {core h with li:=li} (PO v x)={core h with li:=l.B.take (v+1-h.e-1).toNat} :=by
    unfold g_;rw[aW (show¬(2:Int)=1 by decide),bg rfl];show(if v<=h.e then _ else {core h with li:=li.take (v-h.e-1).toNat++[x]})=_;rw[aW Ω,g,j]
   have w:wy {core h with li:=li} (PO v x):=by
    intro _;right;show v<=h.e+(li.length:Int)+1/\ku h.e h.lt (li.take (v-h.e-1).toNat++[x]);rw[g,j];exact⟨Ω,c.take _⟩
   rcases QE p (C:=Dh h a b) (bd:={core h with li:=li}) W pK pJ w (show(2:Int)≠1 by decide)with⟨r,_,_⟩|⟨r,_,d⟩
   .rw[r];exact .inl rfl
   .rw[r];rw[st]at d;simp only[Bool.not_true,aB];exact u (v+1) _ _ _ Ω Ω Ω d (by rw[List.take_take,Nat.min_self]) (by rw[jr,bj];omega) λ_=>rfl
  .rw[a8 e,aB];have G:v=h.e+(l.n:Int)+1:=by omega
   have:li=l.B:=by
    rw[s Ω,List.take_of_length_le (by rw[bj];omega)]
   rw[this]at W;exact .inr ⟨rfl,W⟩
def aHh(p:yx e3)(b:iG e3 h):iG e3 (m8 ms h L aj an):=by
 have k:=b.Bo.log;have r:=k.n;rw[bj]at r;unfold m8;rw[N.cT,N.cT,N.cT]
 cases n:(iP h.e h.lt h.li ms.j ms.m ms.i !=0)with
 |true=>exact b
 |false=>
 cases C:(!(jF h.e h.lt h.li ms.j ms.m ms.i))with
 |true=>exact b.same rfl rfl rfl
 |false=>
 simp only[aB]
 cases a:decide (dQ h.e h.lt h.li ms.j ms.m ms.i>0)with
 |false=>
  have f:la ms h L aj an=true:=by unfold la;rw[a];rfl
  rw[f,au];refine b.same (n':=mC _ (dn _ _ (rh ms h L aj an)) aj) ?_ ?_ ?_
  .show xe ms h L aj an=_;unfold xe;rw[a];rfl
  .show Dg ms h L aj an=_;unfold Dg;rw[a];rfl
  .show(⟨h.D,h.bl,h.b9,m_ ms h,Df ms h,(lX ms h).B⟩:fs)=core h;unfold m_ Df lX;rw[a];rfl
 |true=>
  have B:=al a;have⟨w,⟨fy,e1⟩,⟨fq,v⟩,x,i,y,j,F⟩:=ajz (bP n) (show dQ h.e h.lt h.li ms.j ms.m ms.i≠0 by omega);have g:ku h.e h.lt (kc h.e h.li ms.j ms.i w).B:=u3.1 x;have z:=ac_ (A:=h.e) (u:=h.li) (o:=ms.j) (d:=ms.i) (w:=w) Ω ⟨fy,Ω⟩;have aq7:=ac8 (A:=h.e) (u:=h.li) (o:=ms.j) (d:=ms.i) (w:=w) ⟨fy,Ω⟩ fq v;have s:=g.n;rw[bj]at s;have D:=g.b;have W:(ji ms h L aj an).1=true\/((ji ms h L aj an).1=false/\ja e3 (ji ms h L aj an).2.1 (ji ms h L aj an).2.2.1 {core h with li:=(kc h.e h.li ms.j ms.i w).B}):=aHk p (kC:=dQ h.e h.lt h.li ms.j ms.m ms.i) i j g Ω _ _ h.a_ h.bp h.li.B (bz _) Ω (by rw[i,j,E (h.e+((kc h.e h.li ms.j ms.i w).n:Int))];omega) b (by
   have e:(dQ h.e h.lt h.li ms.j ms.m ms.i-h.e-1).toNat=(cJ h.e ms.j ms.i-h.e+w).toNat:=by omega
   rw[aq7,e,List.take_append,List.take_take,Nat.min_self,jr,bj,show(cJ h.e ms.j ms.i-h.e+w).toNat-min (cJ h.e ms.j ms.i-h.e+w).toNat h.li.n=0 by omega,List.take_zero,iE]) (by rw[bj];omega) λq=>absurd q Ω
  rcases W with W|⟨l,m⟩
  .have f:la ms h L aj an=false:=by unfold la zH;rw[a,W];rfl
   have c:_\/((ji ms h L aj an).1=true/\(ji ms h L aj an).2.2.2=yg h L aj an):=IX _ _ _ _ b.t.u;rcases c with⟨c,_⟩|⟨_,c⟩
   .cases W.symm.trans c
   .rw[f,aB,c];exact b
  .have f:la ms h L aj an=true:=by unfold la zH;rw[a,l];rfl
   rw[f,au];show ja e3 (mC _ (dn _ _ (rh ms h L aj an)) aj).a_ (mC _ (dn _ _ (rh ms h L aj an)) aj).bp (core (mC _ (dn _ _ (rh ms h L aj an)) aj));have t1:xe ms h L aj an=(ji ms h L aj an).2.1:=by unfold xe;rw[a];rfl
   have t2:Dg ms h L aj an=(ji ms h L aj an).2.2.1:=by unfold Dg;rw[a];rfl
   have t:(⟨h.D,h.bl,h.b9,m_ ms h,Df ms h,(lX ms h).B⟩:fs)={core h with li:=(kc h.e h.li ms.j ms.i w).B} :=by
    unfold m_ Df lX;rw[a,au,au,au,i,y,j];rfl
   show ja e3 (xe ms h L aj an) (Dg ms h L aj an) (⟨h.D,h.bl,h.b9,m_ ms h,Df ms h,(lX ms h).B⟩:fs);rw[t1,t2,t];exact m
def aHi(g:yx e3)(d:iG e3 h)(o:h.e<=h.co)(k:dY ms.b0)(j:e6 ms.bn):iG e3 (na ms h):=by
 have L:=d.Bo.log;have q:=d.Bo.b9;unfold na;rw[N.cT]
 cases c:decide (ms.aJ>h.co)with
 |false=>
  have p:uW ms h=true:=by unfold uW;rw[c];rfl
  rw[p,au];refine d.same (n':=dn _ _ (nN ms h)) ?_ ?_ ?_
  .show sN ms h=_;unfold sN;rw[c];rfl
  .show Di ms h=_;unfold Di;rw[c];rfl
  .show(⟨h.D,h.bl,sP ms h,sM ms h,Dj ms h,(sO ms h).B⟩:fs)=core h;unfold sP sM Dj sO;rw[c];rfl
 |true=>
  have n:=al c;rcases QE g d (rc:=(A2 ms.aJ ms.b4 ms.cb ms.b0 ms.cq ms.bn)) k j (λz=>absurd z (show(3:Int)≠2 by decide)) (show(3:Int)≠1 by decide)with⟨r,t1,t2⟩|⟨r,hZ,W⟩
  .have p:uW ms h=false:=by unfold uW;rw[c,r];rfl
   rw[p,aB];exact d.same t1 t2 rfl
  .have p:uW ms h=true:=by unfold uW;rw[c,r];rfl
   rw[p,au];have⟨a,b,e⟩:=alD hZ.c;have⟨l,q1,m⟩:=ZP L (i:=ms.aJ) (t:=ms.b4) Ω;have f:nf ms.aJ ms.b4 ms.cb ms.b0 ms.cq ms.bn=0:=by
    unfold nf H_;rw[f153 a,f153 b];exact e
   have st:g_ (core h) (A2 ms.aJ ms.b4 ms.cb ms.b0 ms.cq ms.bn)=⟨h.D,h.bl,sP ms h,sM ms h,Dj ms h,(sO ms h).B⟩:=by
    unfold g_ sP sM Dj sO xF V5 xG;rw[c,u3.2 L,f];refine(aW (show¬(3:Int)=1 by decide)).trans ((aW (show¬(3:Int)=2 by decide)).trans ((bg (show ms.aJ>h.b9 by omega)).trans ?_));show(⟨h.D,h.bl,ms.aJ,ms.aJ,ms.b4,if n_ h.e h.lt h.li.B ms.aJ=some ms.b4 then h.li.B.drop (ms.aJ-h.e).toNat else[]⟩:fs)=⟨h.D,h.bl,ms.aJ,pY h.e h.lt h.li ms.aJ ms.b4,uL h.e h.lt h.li ms.aJ ms.b4,(pZ h.e h.lt h.li ms.aJ ms.b4).B⟩;rw[l,q1,m]
   show ja e3 (dn _ _ (nN ms h)).a_ (dn _ _ (nN ms h)).bp (core (dn _ _ (nN ms h)));have t1:sN ms h=(fI (A2 ms.aJ ms.b4 ms.cb ms.b0 ms.cq ms.bn) h).a_:=by unfold sN;rw[c];rfl
   have t2:Di ms h=(fI (A2 ms.aJ ms.b4 ms.cb ms.b0 ms.cq ms.bn) h).bp:=by unfold Di;rw[c];rfl
   show ja e3 (sN ms h) (Di ms h) (⟨h.D,h.bl,sP ms h,sM ms h,Dj ms h,(sO ms h).B⟩:fs);rw[t1,t2,<-st];exact W
def aHj(j:yx e3)(c:iG e3 h)(s:h.e<=h.co)(m:dY h.dx)(l:e6 h.eN):iG e3 (o3 h):=by
 have L:=c.Bo.log;have v:=c.Bo.b9;have u:=L.b;unfold o3;rw[N.cT,N.cT]
 cases g:(h.co==h.e)with
 |true=>exact c
 |false=>
  have w:=ew.1 g;simp only[aB];rcases QE j c (rc:=(A2 h.co (jX h.e h.lt h.li h.co) h.fL h.dx h.fx h.eN)) m l (λz=>absurd z (show(3:Int)≠2 by decide)) (show(3:Int)≠1 by decide)with⟨r,t1,t2⟩|⟨r,hZ,W⟩
  .rw[r,aB];exact c.same t1 t2 rfl
  .rw[r,au];have⟨a,b,q⟩:=alD hZ.c;have⟨e,p⟩:=agL L (i:=h.co) Ω;rw[e]at b;have n:hQ h.e h.li h.co=0/\n_ h.e h.lt h.li.B h.co=some (kD h.e h.lt h.li h.co):=by
    rcases alT L (i:=h.co) Ω with k|⟨k,_⟩
    .exact k
    .exfalso;unfold hQ at k;unfold kD at b
     by_cases K:h.co<h.e
     .omega
     rw[a8 K,g]at k b
     cases f:decide (i64 (h.co-h.e)>(h.li.n:Int))with
     |true=>
      rw[f]at b;have cw:(1:Int)<=0:=b.1;omega
     |false=>
      rw[f]at k;exact k rfl
   have⟨d,q1,o⟩:=ZP L (i:=h.co) (t:=kD h.e h.lt h.li h.co) Ω;have st:g_ (core h) (A2 h.co (jX h.e h.lt h.li h.co) h.fL h.dx h.fx h.eN)=core (Dr h):=by
    unfold g_;rw[e];refine(aW (show¬(3:Int)=1 by decide)).trans ((aW (show¬(3:Int)=2 by decide)).trans ((bg (show h.co>h.b9 by omega)).trans ?_));show(⟨h.D,h.bl,h.co,h.co,kD h.e h.lt h.li h.co,if n_ h.e h.lt h.li.B h.co=some (kD h.e h.lt h.li h.co)then h.li.B.drop (h.co-h.e).toNat else[]⟩:fs)=⟨h.D,h.bl,h.co,ry h.e h.lt h.li h.co,DG h.e h.lt h.li h.co,(sX h.e h.lt h.li h.co).B⟩;rw[<-o];unfold pY uL pZ p0 at*
    rw[e,p,n.1]at d q1 |-;simp only[r9,au]at d q1 |-;rw[d,q1]
   show ja e3 (Dr h).a_ (Dr h).bp (core (Dr h));rw[<-st];exact W
end
def QB:aN (B:I Int):=λ_=>⟨bz (0:Int),(by decide:(0:Int)<=255)⟩
def aGJ{s:I Int}(h:aN s)(n:Int)(b:Bool):aN (gg n s b):=by
 unfold gg;exact ft (P:=aN) QB λi=>h _
def Fx{s:I Int}(h:aN s)(b:Bool):0<=cI s b/\cI s b<=255:=by
 have k:=aGJ h 1 b (toNat 0);unfold cI
 cases decide (0<((gg 1 s b).n:Int))with
 |false=>exact⟨bz _,(by decide:(0:Int)<=255)⟩
 |true=>
  rw[au,E _];exact k
section
variable {α:Type} [Inhabited α]
def B8{L:Nat->Int->I Int->Bool->I α->I Int×Bool×I α}{fv:I Int->Bool->I Int}{fw:I Int->Bool->Bool}{f:I Int->Bool->α}
  (j: ∀v s b a,L 0 v s b a=default) (h: ∀k v s b a,L (k+1) v s b a=bif(cond (decide (v>0)) (!b) false)then L k (i64 (v-1)) (fv s b) (fw s b) (I.app a (I.lit [f s b]))else(s,b,a))
  (m: ∀s b,aN s->aN (fv s b)) {P:α->Prop} (l: ∀s b,aN s->P (f s b)): ∀(d:Nat) (v:Int) (s:I Int) (b:Bool) (a:I α),aN s->0<=v->v<=255->(∀i,i<a.n->P (a.at' i))->
   ((((L d v s b a).2.2.n:Nat):Int)<=(a.n:Int)+v/\ ∀i,i<(L d v s b a).2.2.n->P ((L d v s b a).2.2.at' i))/\aN (L d v s b a).1
 |0,v,s,b,a,_,q,_,_=>by
  rw[j];exact⟨⟨by show(0:Int)<=_;omega,λi n=>absurd n (dJ _)⟩,QB⟩
 |d+1,v,s,b,a,e,r,t,g=>by
  rw[h]
  by_cases c:v>0
  .rw[bm c,au]
   cases b with
   |true=>exact⟨⟨by show(a.n:Int)<=_;omega,g⟩,e⟩
   |false=>
    simp only[Bool.not_false,au];rw[E (v-1)];have⟨⟨u,o⟩,p⟩:=B8 j h m l d (v-1) (fv s false) (fw s false) (I.app a (I.lit [f s false])) (m _ _ e) Ω Ω (acg g (l _ _ e));have:((I.app a (I.lit [f s false])).n:Int)=(a.n:Int)+1:=by show((a.n+1:Nat):Int)=_;omega
    exact⟨⟨Ω,o⟩,p⟩
  .rw[a8 c];exact⟨⟨by show(a.n:Int)<=_;omega,g⟩,e⟩
end
section
variable {ab:I Int}
def aCB(h:aN ab)(b:Bool):(GK ab b (B:I bD)).n<=255/\aN (sB ab b (B:I bD)):=by
 have v:=Fx h b;have k:=B8 (L:=zh) (fv:=CZ) (fw:=Mr) (f:=λab b=>(⟨iN ab b,iN (cH ab b) (cU ab b)⟩:bD)) (λ_ _ _ _=>rfl) (λ_ _ _ _ _=>rfl) (λab b a=>eP (eP a)) (P:=λ_=>True) (λ_ _ _=>trivial) (toNat (cI ab b)+1) (cI ab b) (cc ab b) (cp ab b) B (eW h) v.1 v.2 (λ_ _=>trivial);have c:((GK ab b (B:I bD)).n:Int)<=(0:Int)+cI ab b:=k.1.1;exact⟨Ω,k.2⟩
def aCC(h:aN ab)(b:Bool):(GN ab b (B:I bW)).n<=255/\aN (GM ab b (B:I bW)):=by
 have v:=Fx h b;have k:=B8 (L:=zi) (fv:=C0) (fw:=Ms) (f:=λab b=>(⟨iN ab b,c_ (cH ab b) (cU ab b)⟩:bW)) (λ_ _ _ _=>rfl) (λ_ _ _ _ _=>rfl) (λab b a=>eM (eP a)) (P:=λ_=>True) (λ_ _ _=>trivial) (toNat (cI ab b)+1) (cI ab b) (cc ab b) (cp ab b) B (eW h) v.1 v.2 (λ_ _=>trivial);have c:((GN ab b (B:I bW)).n:Int)<=(0:Int)+cI ab b:=k.1.1;exact⟨Ω,k.2⟩
def Yo(h:aN ab)(b:Bool):(zl ab b).n<=255/\aN (uK ab b):=by
 have v:=Fx h b;have k:=B8 (L:=zj) (fv:=C2) (fw:=Mt) (f:=iN) (λ_ _ _ _=>rfl) (λ_ _ _ _ _=>rfl) (λab b a=>eP a) (P:=λ_=>True) (λ_ _ _=>trivial) (toNat (cI ab b)+1) (cI ab b) (cc ab b) (cp ab b) B (eW h) v.1 v.2 (λ_ _=>trivial);have c:((zl ab b).n:Int)<=(0:Int)+cI ab b:=k.1.1;exact⟨Ω,k.2⟩
def ajH(h:aN ab)(b:Bool):((CL ab b).n<=255/\(CM ab b).n<=255/\(CN ab b).n<=255)/\aN (uJ ab b):=by
 have e:=eM (g:=cU (cc ab b) (cp ab b)) (eP (g:=cp ab b) (eW (g:=b) h));have a:=aCB e (aQ (cH (cc ab b) (cp ab b)) (cU (cc ab b) (cp ab b)));have c:=Yo a.2 (uI (aP (cH (cc ab b) (cp ab b)) (cU (cc ab b) (cp ab b))) (aQ (cH (cc ab b) (cp ab b)) (cU (cc ab b) (cp ab b))) (B:I bD));have d:=aCC c.2 (zm (sB (aP (cH (cc ab b) (cp ab b)) (cU (cc ab b) (cp ab b))) (aQ (cH (cc ab b) (cp ab b)) (cU (cc ab b) (cp ab b))) (B:I bD)) (uI (aP (cH (cc ab b) (cp ab b)) (cU (cc ab b) (cp ab b))) (aQ (cH (cc ab b) (cp ab b)) (cU (cc ab b) (cp ab b))) (B:I bD)));exact⟨⟨a.1,c.1,d.1⟩,d.2⟩
def aCy(h:aN ab)(b:Bool):dY (q7 ab b (B:I ah))/\aN (q6 ab b (B:I ah)):=by
 have v:=Fx h b;have k:=B8 (L:=zg) (fv:=CK) (fw:=Mc) (f:=λu o=>(⟨iN u o,GU (cH u o) (cU u o),GV (cH u o) (cU u o),GX (cH u o) (cU u o),CL (cH u o) (cU u o),CM (cH u o) (cU u o),CN (cH u o) (cU u o),c_ (uJ (cH u o) (cU u o)) (zk (cH u o) (cU u o))⟩:ah)) (λ_ _ _ _=>rfl) (λ_ _ _ _ _=>rfl) (λab b c=>eM (ajH (eP c) _).2) (P:=λx=>x.j.n<=255/\x.m.n<=255/\x.ak.n<=255) (λab b c=>(ajH (eP c) _).1) (toNat (cI ab b)+1) (cI ab b) (cc ab b) (cp ab b) B (eW h) v.1 v.2 (λi a=>absurd a (dJ _));have d:((q7 ab b (B:I ah)).n:Int)<=(0:Int)+cI ab b:=k.1.1;refine⟨⟨Ω,λi a=> ?_⟩,k.2⟩;have q:=k.1.2 i a;exact⟨ec q.1 Δ,ec q.2.1 Δ,ec q.2.2 Δ⟩
def aCz(h:aN ab)(b:Bool):e6 (q8 ab b (B:I ay)):=by
 have v:=Fx h b;have us: ∀(ab:I Int) (b:Bool),aN ab->aN (aP (cH (cc (aP (aP (aP ab b) (aQ ab b)) (aQ (aP ab b) (aQ ab b))) (aQ (aP (aP ab b) (aQ ab b)) (aQ (aP ab b) (aQ ab b)))) (cp (aP (aP (aP ab b) (aQ ab b)) (aQ (aP ab b) (aQ ab b))) (aQ (aP (aP ab b) (aQ ab b)) (aQ (aP ab b) (aQ ab b))))) (cU (cc (aP (aP (aP ab b) (aQ ab b)) (aQ (aP ab b) (aQ ab b))) (aQ (aP (aP ab b) (aQ ab b)) (aQ (aP ab b) (aQ ab b)))) (cp (aP (aP (aP ab b) (aQ ab b)) (aQ (aP ab b) (aQ ab b))) (aQ (aP (aP ab b) (aQ ab b)) (aQ (aP ab b) (aQ ab b)))))):=λab b a=>eM (eP (eW (eM (eM (eM a)))));have k:=B8 (L:=GJ) (fv:=CO) (fw:=Md) (f:=acU) (λ_ _ _ _=>rfl) (λ_ _ _ _ _=>rfl) (λab b a=>(Yo (us ab b a) _).2) (P:=λx=>x.ak.n<=255) (λab b a=>(Yo (us ab b a) _).1) (toNat (cI ab b)+1) (cI ab b) (cc ab b) (cp ab b) B (eW h) v.1 v.2 (λi c=>absurd c (dJ _));have d:((q8 ab b (B:I ay)).n:Int)<=(0:Int)+cI ab b:=k.1.1;exact⟨Ω,λi c=>ec (k.1.2 i c) Δ⟩
def arT(h:aN ab):dY (rA ab)/\e6 (rB ab):=by
 have a:=aCy (eM (g:=false) h) (aQ ab false);have c:=aCz (eM (g:=n2 ab) a.2) (O8 ab);have q1:rA ab=(bif decide ((ab.n:Int)>20000)then B else bif(g2 true (rO ab) (tn ab)!=0)then B else bif(eK (c_ ab false) (dx ab) (c_ (ph ab) (n2 ab)) (qq ab)!=0)then B else dx ab):=rfl;have b:rB ab=(bif decide ((ab.n:Int)>20000)then B else bif(g2 true (rO ab) (tn ab)!=0)then B else bif(eK (c_ ab false) (dx ab) (c_ (ph ab) (n2 ab)) (qq ab)!=0)then B else qq ab):=rfl;rw[q1,b];exact⟨ft (P:=dY) pK (ft (P:=dY) pK (ft (P:=dY) pK a.1)),ft (P:=e6) pJ (ft (P:=e6) pJ (ft (P:=e6) pJ c))⟩
end
def kU(m:ai):Prop:=dY m.b0/\e6 m.bn
def fb(s:I ai):Prop:= ∀j,kU (s.at' j)
def alC:kU default:=⟨pK,pJ⟩
def qu{a b c d e f h p q:Int}{g:Bool}{l:I ax}{x y:Int} :kU (⟨a,b,c,d,e,f,g,h,l,p,q,x,(B:I ah),y,(B:I ay)⟩:ai):=⟨pK,pJ⟩
def Es:fb (B:I ai):=λ_=>alC
def YS{s:I ai}{x:ai}(h:fb s)(a:kU x):fb (I.app s (I.lit [x])):=by
 intro j;show kU (cond (Nat.blt j s.n) (s.at' j) (([x]:List ai).getD (j-s.n) default));refine ft (P:=kU) (h j) ?_
 match j-s.n with
 |0=>exact a
 |_+1=>exact alC
def aki{s:I ai}(h:fb s)(i j:Nat):fb (I.del s i j):=by
 intro t;show kU (cond (Nat.blt t i) (s.at' t) (s.at' (t+(j-i))));exact ft (P:=kU) (h t) (h _)
def akh{n:N}(h:fb n.a1): ∀(k:Nat) (v:Int) (s:I ai),fb s->fb (mB n k v s)
 |0,_,_,_=>by
  rw[mB];exact Es
 |k+1,v,s,a=>by
  rw[mB];refine ft (P:=fb) (akh h k _ _ ?_) a;exact ft (P:=fb) (YS a (h _)) a
structure lA (n:N):Prop where
 m:dY n.dx/\e6 n.eN
 s:dY n.fU/\e6 n.fT
 o:fb n.a1
def lA.st{n m:N}(h:lA n)(a:m.dx=n.dx)(b:m.eN=n.eN)(bo:m.fU=n.fU)(c:m.fT=n.fT)(cO:fb m.a1):lA m:=
 ⟨by rw[a,b];exact h.m,by rw[bo,c];exact h.s,cO⟩
def np{n:N}(a:Int){ms:ai}(h:fb n.a1)(b:kU ms):fb (dn a ms n).a1:=by
 show fb (xn a ms n);exact ft (P:=fb) (YS h b) h
def aDK{ms:ai}{n:N}(h:fb n.a1)(a:kU ms):fb (mz ms n).a1:=by
 have b:fb (zI ms n):=by
  exact ft (P:=fb) (np 0 h a) h
 have c:fb (uX ms n):=by
  exact ft (P:=fb) (np (n:=mA ms n) 1 b a) b
 show fb (HO ms n);exact ft (P:=fb) (np (n:=nb ms n) 2 c a) c
def aDL{n:N}(h:lA n):fb (ri n).a1:=by
 have a:fb (Dp n):=by
  exact ft (P:=fb) h.o (ft (P:=fb) (np 0 h.o h.s) (np 0 h.o qu))
 have b:fb (Dq n):=by
  exact ft (P:=fb) a (ft (P:=fb) (np (n:=p9 n) 1 a h.s) (np (n:=p9 n) 1 a qu))
 show fb (HP n);exact ft (P:=fb) b (ft (P:=fb) (np (n:=rj n) 2 b h.s) (np (n:=rj n) 2 b qu))
def aDJ{ms:ai}{n:N}(h:fb n.a1):fb (rf ms n).a1:=by
 show fb (HE ms n);exact ft (P:=fb) (np _ h qu) (np _ h qu)
section
variable {h:N}
theorem amz(A:Int)(h:N): ∀(k:Nat) (a:Int) (b:I ah) (c:Int) (d:I ay) (e:Int) (f:I bI),dY b->e6 d->dY (nO A h k a b c d e f).2.1/\e6 (nO A h k a b c d e f).2.2.2.1
 |0,_,_,_,_,_,_,_,_=>by
  rw[nO];exact⟨pK,pJ⟩
 |k+1,a,b,c,d,e,f,g,i=>by
  rw[nO]
  cases decide (e<A)with
  |false=>exact⟨g,i⟩
  |true=>
   rw[au];refine amz A h k _ _ _ _ _ _ ?_ ?_
   .exact ft (P:=dY) (arS g) g
   .exact ft (P:=e6) (arR g i) i
theorem ajD(A:Int)(aj:I bI)(a:lA h):lA (mC A h aj):=
 ⟨amz A h _ _ _ _ _ _ _ a.m.1 a.m.2,a.s,a.o⟩
theorem aCq{ms:ai}(a:lA h)(b:kU ms):lA (na ms h):=by
 unfold na;have k:lA (nN ms h):=by
  refine⟨⟨?_,?_⟩,⟨?_,?_⟩,a.o⟩
  .exact ft (P:=dY) b.1 a.m.1
  .exact ft (P:=e6) b.2 a.m.2
  .exact ft (P:=dY) b.1 a.s.1
  .exact ft (P:=e6) b.2 a.s.2
 rw[N.cT]
 cases uW ms h
 .exact a.st rfl rfl rfl rfl a.o
 .exact k.st rfl rfl rfl rfl (np _ k.o qu)
end
section
variable {bc aI6 bh ha a7:Int} {C:N} {L:I ai} {aj:I bI} {an:I aw}
def aq2(C:N)(L:I ai)(aj:I bI)(an:I aw):qd C L aj an=C\/ ∃v,qd C L aj an=mC v C aj:=by
 have b: ∀(k:Nat) (v:Int),(qe C L aj an k v).1=true-> ∃f,I_ (qe C L aj an k v).2=mC f C aj:=by
  intro k
  induction k with
  |zero=>intro v e;rw[qe]at e;cases e
  |succ k a=>
   intro v e;rw[qe]at e |-;generalize decide (v>C.co)=c at e |-
   cases c with
   |false=>cases e
   |true=>
    generalize xo C v=d at e |-
    cases d with
    |true=>exact⟨v,rfl⟩
    |false=>exact a _ e
 unfold qd;rw[N.cT]
 cases q:(rn C L aj an).1 with
 |false=>exact .inl rfl
 |true=>exact .inr (b _ _ q)
def aq0(ms:ai)(C:N)(L:I ai)(aj:I bI)(an:I aw)(a:aN C.a_):m8 ms C L aj an=C\/m8 ms C L aj an=dn ms.r (⟨0,0,6,C.D,C.co,0,false,0,(B:I ax),0,0,0,(B:I ah),0,(B:I ay)⟩:ai) C\/m8 ms C L aj an=mC (gj ms.aA (i64 (ms.j+(ms.i.n:Int)))) (dn ms.r (⟨0,0,6,C.D,i64 (ms.j+(ms.i.n:Int)),0,true,0,(B:I ax),0,0,0,(B:I ah),0,(B:I ay)⟩:ai) (rh ms C L aj an)) aj:=by
 unfold m8;simp only[N.cT]
 cases iP C.e C.lt C.li ms.j ms.m ms.i !=0
 .cases jF C.e C.lt C.li ms.j ms.m ms.i
  .exact .inr (.inl rfl)
  .cases q:la ms C L aj an
   .refine .inl ?_;rcases IX (ms:=ms) (h:=C) (L:=L) (aj:=aj) (an:=an) (toNat (i64 (cr C.e C.lt C.li ms.j ms.m ms.i+((cf C.e C.lt C.li ms.j ms.m ms.i).n:Int))+1- (dQ C.e C.lt C.li ms.j ms.m ms.i))+1) (dQ C.e C.lt C.li ms.j ms.m ms.i) C.a_ C.bp a with⟨r,_⟩|⟨_,r⟩
    .exfalso;have r:(ji ms C L aj an).1=false:=r;unfold la zH at q;rw[r]at q;revert q
     cases decide (dQ C.e C.lt C.li ms.j ms.m ms.i>0)<;>intro q<;>cases q
    .have r:(ji ms C L aj an).2.2.2=yg C L aj an:=r;show I_ (ji ms C L aj an).2.2.2=C;rw[r];rfl
   .exact .inr (.inr rfl)
 .exact .inl rfl
end
def wm(W:Int->Int->Int->Prop)(i _:Int)(e:fs):Prop:=(0<=e.D/\e.D<=1048576)/\(∀t c,W i t c->t<e.D\/(t=e.D/\c=e.bl))/\(0<=e.bl->e.bl≠i->W e.bl e.D e.bl)
def KZ(W:Int->Int->Int->Prop)(i:Int):yx (wm W i):=λl m e f a b k=>by
 unfold wm at*
 rw[<-a,<-b];exact k
def nv(W:Int->Int->Int->Prop)(y:ai):Prop:=(y.G=4->W y.r y.q y.K/\W y.K y.q y.K)/\(y.G=3->W y.r y.q y.r)
def abc(U:Int->Int->Prop)(i:Int)(y:ai):Prop:=y.r=i/\(y.G=4->U y.q y.K)/\(y.G=3->U y.q i)
structure gp (U:Int->Int->Prop) (i:Int) (s:I ai):Prop where
 g: ∀y∈s.B,abc U i y
def RO(W:Int->Int->Int->Prop)(i:Int)(n:N):Prop:=(n.v0=true->i≠0->W 0 n.D i/\W i n.D i)/\(n.v1=true->i≠1->W 1 n.D i/\W i n.D i)/\(n.v2=true->i≠2->W 2 n.D i/\W i n.D i)
structure dM (W:Int->Int->Int->Prop) (U:Int->Int->Prop) (L:List aw) (i:Int) (n:N):Prop where
 aM:n.aM=i
 w:iG (wm W i) n
 z:lA n
 f: ∀t c,W i t c->U t c
 u: ∀t c,U t c->0<=c/\(t<n.D\/(t=n.D/\c=n.bl))
 kA: ∀t c d,U t c->U t d->c=d
 v:0<=n.bl->U n.D n.bl
 x: ∀t c,U t c->c≠i->W c t c
 o:gp U i n.a1
 ct:n.ro=2->U n.D i/\(∀l∈L,l.r=n.D->l.K≠i)/\RO W i n
 pk:n.ro=3-> ∃l∈L,l.r=n.D/\l.K=i
def gZ(W:Int->Int->Int->Prop)(L:List aw)(i:Int)(n:N):Prop:= ∃U,dM W U L i n
section
variable {br:Int->Int->Int->Prop} {bK:Int->Int->Prop} {cM:List aw} {bc:Int} {Q C:N} {L:I ai} {aj:I bI} {an:I aw}
def YG:gp bK bc (B:I ai):=⟨λ_ h=>nomatch h⟩
def aDA{s:I ai}{y:ai}(h:gp bK bc s)(b:abc bK bc y):gp bK bc (I.app s (I.lit ([y]:List ai))):=by
 refine⟨λx a=> ?_⟩;rw[show(I.app s (I.lit ([y]:List ai))).B=s.B++[y] by rw[fH,fQ]]at a;rcases fj.1 a with q|q
 .exact h.g x q
 .rw[List.mem_singleton.1 q];exact b
def Jk(a:Int){ms:ai}(h:gp bK bc Q.a1)(c:Q.aM=bc)(b:(ms.G=4->bK ms.q a)/\(ms.G=3->bK ms.q bc)):gp bK bc (dn a ms Q).a1:=by
 show gp bK bc (xn a ms Q);exact eU (P:=gp bK bc) (aDA h (y:=⟨Q.aM,a,ms.G,ms.q,ms.j,ms.m,ms.ak,ms.aA,ms.i,ms.aJ,ms.b4,ms.cb,ms.b0,ms.cq,ms.bn⟩) ⟨c,b⟩) h
def qG(k:Int):Prop:=k≠4/\k≠3
def AT(a:Int){ms:ai}(h:gp bK bc Q.a1)(c:Q.aM=bc)(b:qG ms.G):gp bK bc (dn a ms Q).a1:=
 Jk a h c ⟨λe=>absurd e b.1,λe=>absurd e b.2⟩
def aDz{ms:ai}(h:gp bK bc Q.a1)(b:Q.aM=bc)(f:ms.G≠4/\(ms.G=3->bK ms.q bc)):gp bK bc (mz ms Q).a1:=by
 have k: ∀a,(ms.G=4->bK ms.q a)/\(ms.G=3->bK ms.q bc):=λa=>⟨λe=>absurd e f.1,f.2⟩;have c:gp bK bc (zI ms Q):=eU (P:=gp bK bc) (Jk 0 h b (k 0)) h;have g:(mA ms Q).aM=bc:=by simp only[mA,dn];exact b
 have i:(nb ms Q).aM=bc:=by simp only[nb,mA,dn];exact b
 have d:gp bK bc (uX ms Q):=eU (P:=gp bK bc) (Jk (Q:=mA ms Q) 1 c g (k 1)) c;exact eU (P:=gp bK bc) (Jk (Q:=nb ms Q) 2 d i (k 2)) d
def dM.st(h:dM br bK cM bc Q){m:N}(e:(m.aM,m.a_,m.bp,core m,m.ro,m.v0,m.v1,m.v2)=(Q.aM,Q.a_,Q.bp,core Q,Q.ro,Q.v0,Q.v1,Q.v2))(z:lA m)(o:gp bK bc Q.a1->gp bK bc m.a1):dM br bK cM bc m:=by
 simp only[od]at e;obtain⟨d,f,bo,b,cO,g,i,j⟩:=e;have a:m.D=Q.D:=congrArg fs.D b;have c:m.bl=Q.bl:=congrArg fs.bl b;exact⟨d.trans h.aM,h.w.same f bo b,z,h.f,by rw[a,c];exact h.u,h.kA,by rw[a,c];exact h.v,h.x,o h.o,by unfold RO;rw[a,cO,g,i,j];exact h.ct,by rw[a,cO];exact h.pk⟩
def dM.fK(h:dM br bK cM bc Q){m:N}(w:iG (wm br bc) m)(e:(m.aM,m.D,m.bl,m.ro,m.v0,m.v1,m.v2)=(Q.aM,Q.D,Q.bl,Q.ro,Q.v0,Q.v1,Q.v2))(z:lA m)(o:gp bK bc Q.a1->gp bK bc m.a1):dM br bK cM bc m:=by
 simp only[od]at e;obtain⟨c,a,b,cO,d,f,g⟩:=e;exact⟨c.trans h.aM,w,z,h.f,by rw[a,b];exact h.u,h.kA,by rw[a,b];exact h.v,h.x,o h.o,by unfold RO;rw[a,cO,d,f,g];exact h.ct,by rw[a,cO];exact h.pk⟩
def Ea{a b:Int}(h:iu a b Q=true):(dt a b Q).bl=b:=by
 unfold iu at h;unfold dt MG
 cases e:gu (A1 a b) Q with
 |true=>rfl
 |false=>rw[e]at h;cases h
def adL(a:Int){ms:ai}(h:dM br bK cM bc Q)(b:qG ms.G)(c:kU ms):dM br bK cM bc (dn a ms Q):=
 h.st rfl (h.z.st rfl rfl rfl rfl (np a h.z.o c)) λo=>AT a o h.aM b
def TD(a:Int)(h:dM br bK cM bc Q):dM br bK cM bc (lW a Q):=adL a h (by show qG 8;exact⟨Δ,Δ⟩) qu
def asv{ms:ai}(h:dM br bK cM bc Q):dM br bK cM bc (rf ms Q):=
 h.st rfl (h.z.st rfl rfl rfl rfl (aDJ h.z.o)) λo=>eU (P:=gp bK bc) (AT _ (ms:=⟨0,0,2,ms.q,0,0,false,0,(B:I ax),0,0,0,(B:I ah),0,(B:I ay)⟩) o h.aM (by show qG 2;exact⟨Δ,Δ⟩)) (AT _ (ms:=⟨0,0,8,Q.D,0,0,false,0,(B:I ax),0,0,0,(B:I ah),0,(B:I ay)⟩) o h.aM (by show qG 8;exact⟨Δ,Δ⟩))
def adH{ms:ai}(h:dM br bK cM bc Q)(a:ms.G≠4/\(ms.G=3->bK ms.q bc))(b:kU ms):dM br bK cM bc (mz ms Q):=
 h.st rfl (h.z.st rfl rfl rfl rfl (aDK h.z.o b)) λo=>aDz o h.aM a
def adJ(h:dM br bK cM bc Q):dM br bK cM bc (ri Q):=by
 refine h.st rfl (h.z.st rfl rfl rfl rfl (aDL h.z)) λo=> ?_;have s: ∀{m:N} {to:Int} {a:Bool} {g i:ai},gp bK bc m.a1->m.aM=bc->qG g.G->qG i.G->gp bK bc (cond a (dn to g m).a1 (dn to i m).a1):=λp q a b=>eU (P:=gp bK bc) (AT _ p q a) (AT _ p q b);have d:qG 7:=⟨Δ,Δ⟩;have c:qG 5:=⟨Δ,Δ⟩;have e:gp bK bc (Dp Q):=eU (P:=gp bK bc) o (s o h.aM d c);have j:(p9 Q).aM=bc:=by simp only[p9];exact h.aM
 have k:(rj Q).aM=bc:=by simp only[rj,p9];exact h.aM
 have f:gp bK bc (Dq Q):=eU (P:=gp bK bc) e (s (m:=p9 Q) e j d c);exact eU (P:=gp bK bc) f (s (m:=rj Q) f k d c)
def ast(A:Int)(aj:I bI)(h:dM br bK cM bc Q):dM br bK cM bc (mC A Q aj):=h.st rfl (ajD A aj h.z) λo=>o
def adF(it:ax)(h:dM br bK cM bc Q):dM br bK cM bc (ki it Q):=h.fK (aHl (KZ br bc) h.w it) rfl (h.z.st rfl rfl rfl rfl h.z.o) λo=>o
def adG(h:dM br bK cM bc Q):dM br bK cM bc (k_ Q):=by
 have r: ∀{k:Int},k≠0->VE Q=k->Q.ro=k:=λ{k} a e=>by
  unfold VE at e
  cases q:Q.ro==2 with
  |true=>rw[q]at e;exact absurd e.symm a
  |false=>rw[q]at e;exact e
 exact⟨h.aM,h.w.same rfl rfl rfl,h.z.st rfl rfl rfl rfl h.z.o,h.f,h.u,h.kA,h.v,h.x,h.o,λe=>h.ct (r Δ e),λe=>h.pk (r Δ e)⟩
def asA{ms:ai}(h:dM br bK cM bc Q):dM br bK cM bc (m8 ms Q L aj an):=by
 have w:=aHh (ms:=ms) (L:=L) (aj:=aj) (an:=an) (KZ br bc) h.w;have a:qG 6:=⟨Δ,Δ⟩;rcases aq0 ms Q L aj an h.w.t.u with q|q|q
 .rw[q];exact h
 .rw[q];exact adL _ h a qu
 .rw[q]at w |-;have z:lA (rh ms Q L aj an):=h.z.st rfl rfl rfl rfl h.z.o;exact h.fK w rfl (ajD _ _ (z.st rfl rfl rfl rfl (np _ z.o qu))) λo=>AT (Q:=rh ms Q L aj an) ms.r o h.aM a
def asB{ms:ai}(h:dM br bK cM bc Q)(b:Q.e<=Q.co)(a:kU ms):dM br bK cM bc (na ms Q):=by
 have w:=aHi (ms:=ms) (KZ br bc) h.w b a.1 a.2;have Z:lA (na ms Q):=aCq h.z a;have c:qG 6:=⟨Δ,Δ⟩;revert w Z;unfold na;rw[N.cT]
 cases uW ms Q
 .exact λw Z=>h.fK w rfl Z λo=>o
 .exact λw Z=>h.fK w rfl Z λo=>AT (Q:=nN ms Q) ms.r o h.aM c
def asC(k:Nat)(ms:ai)(h:dM br bK cM bc Q):dM br bK cM bc (HN k ms Q L aj an):=by
 have a:dM br bK cM bc (xg k ms Q):=by
  unfold xg
  match k with
  |0=>exact h.st rfl (h.z.st rfl rfl rfl rfl h.z.o) λo=>o
  |1=>exact h.st rfl (h.z.st rfl rfl rfl rfl h.z.o) λo=>o
  |_+2=>exact h.st rfl (h.z.st rfl rfl rfl rfl h.z.o) λo=>o
 have b:dM br bK cM bc (VI k ms Q):=by
  unfold VI
  match k with
  |0=>exact h.st rfl (h.z.st rfl rfl rfl rfl h.z.o) λo=>o
  |1=>exact h.st rfl (h.z.st rfl rfl rfl rfl h.z.o) λo=>o
  |_+2=>exact h.st rfl (h.z.st rfl rfl rfl rfl h.z.o) λo=>o
 unfold HN;rw[N.cT]
 cases ms.ak
 .exact b
 .rw[au];rcases aq2 (xg k ms Q) L aj an with q|⟨v,q⟩
  .rw[q];exact a
  .rw[q];exact ast v aj a
def asE(h:dM br bK cM bc Q)(a:Q.e<=Q.co):dM br bK cM bc (o3 Q):=by
 have w:=aHj (KZ br bc) h.w a h.z.m.1 h.z.m.2;revert w;unfold o3;simp only[N.cT]
 cases Q.co==Q.e
 .generalize gu _ Q=z
  cases z
  .exact λw=>h.fK w rfl (h.z.st rfl rfl rfl rfl h.z.o) λo=>o
  .exact λw=>h.fK w rfl ⟨h.z.m,h.z.m,h.z.o⟩ λo=>o
 .exact λ_=>h
def asu(aT:lx)(h:dM br bK cM bc Q):dM br bK cM bc (sF aT Q):=by
 have k:=adF (⟨Q.D,jh Q,false,aT.r,aT.K,aT.G,aT.q,aT.j,aT.m,aT.ak⟩:ax) h;unfold sF;simp only[N.cT]
 cases !Q.up
 .cases Q.ro !=3
  .cases !(sJ (⟨Q.D,jh Q,false,aT.r,aT.K,aT.G,aT.q,aT.j,aT.m,aT.ak⟩:ax) Q)
   .exact k.st rfl (k.z.st rfl rfl rfl rfl k.z.o) λo=>o
   .exact k
  .exact h
 .exact h
def dM.xY(h:dM br bK cM bc Q):(0<=Q.D/\Q.D<=1048576)/\ ∀t c,br bc t c->0<=c/\t<=Q.D:=⟨h.w.top.1,λt c k=>by
 have⟨a,b⟩:=h.u t c (h.f t c k);exact⟨a,Ω⟩⟩
def asG(h:dM br bK cM bc Q){a:Int}(e:Q.D<a)(d:Q.ro=0):dM br bK cM bc (dt a (-1) Q):=by
 have w:iG (wm br bc) (dt a (-1) Q):=QF h.w λb=>⟨⟨by show 0<=a;omega,b.2⟩,λt c k=> .inl (Int.lt_of_le_of_lt (h.xY.2 t c k).2 e),λz=>absurd (show(0:Int)<= -1 from z) Δ⟩
 cases q:iu a (-1) Q with
 |false=>rw[D_ q];exact h
 |true=>
  have f:=x4 q;have g:(dt a (-1) Q).bl= -1:=Ea q;have z:lA (dt a (-1) Q):=h.z.st rfl rfl rfl rfl h.z.o;refine⟨h.aM,w,z,h.f,λt c k=> ?_,h.kA,λz=> ?_,h.x,h.o,λz=> ?_,λz=> ?_⟩
  .obtain⟨a,b⟩:=h.u t c k;rw[f];exact⟨a,.inl Ω⟩
  .rw[g]at z;exact absurd z Δ
  .exact absurd (d.symm.trans z) Δ
  .exact absurd (d.symm.trans z) Δ
def asT(h:dM br bK cM bc Q){x:Int}(r:0<=x):gZ br cM bc (gS x Q):=by
 have⟨w,s,a',b',m,n,o,p⟩:=amk h.w r;have fY:=arT (jn a' b' m n);have M:dY (gS x Q).dx/\e6 (gS x Q).eN:=by rw[o,p];exact fY
 have T:=w.top;refine⟨λt c=>br bc t c\/(t=(gS x Q).D/\c=(gS x Q).bl/\0<=c),h.aM,w,⟨M,M,Es⟩,λt c k=> .inl k,λt c k=> ?_,λt c d k l=> ?_,λz=> .inr ⟨rfl,rfl,z⟩,λt c k q=> ?_,YG,λz=>absurd (show(0:Int)=2 from z) Δ,λz=>absurd (show(0:Int)=3 from z) Δ⟩
 .rcases k with k|⟨f,e,g⟩
  .exact⟨(h.xY.2 t c k).1,T.2.1 t c k⟩
  .exact⟨g,.inr ⟨f,e⟩⟩
 .have i: ∀{c},br bc t c->t=(gS x Q).D->c=(gS x Q).bl:=λ{c} a b=>by
   rcases T.2.1 t c a with q|q
   .have q:t<(gS x Q).D:=q;omega
   .exact q.2
  rcases k with k|⟨f,e,_⟩<;>rcases l with l|⟨iQ,j,_⟩
  .exact h.kA t c d (h.f t c k) (h.f t d l)
  .rw[i k iQ,j]
  .rw[i l f,e]
  .rw[e,j]
 .rcases k with k|⟨f,e,g⟩
  .exact h.x t c (h.f t c k) q
  .have:=T.2.2 (by show 0<=(gS x Q).bl;omega) (by show(gS x Q).bl≠bc;rw[<-e];exact q);rw[f,e];exact this
def asD(h:dM br bK cM bc Q):dM (λj t c=>br j t c\/(j=bc/\bK t c)) bK cM bc (lb Q):=by
 have w:iG (wm (λj t c=>br j t c\/(j=bc/\bK t c)) bc) (lb Q):=amj h.w ⟨h.xY.1,λt c k=> ?_,λa b=> .inl (h.x _ _ (h.v a) b)⟩
 .refine⟨h.aM,w,h.z.st rfl rfl rfl rfl Es,λt c k=> ?_,h.u,h.kA,h.v,λt c k q=> .inl (h.x t c k q),YG,λr=> ?_,h.pk⟩
  .rcases k with k|k
   .exact h.f t c k
   .exact k.2
  .obtain⟨a,b,K,G,d⟩:=h.ct r;exact⟨a,b,λp q=>⟨.inl (K p q).1,.inl (K p q).2⟩,λp q=>⟨.inl (G p q).1,.inl (G p q).2⟩,λp q=>⟨.inl (d p q).1,.inl (d p q).2⟩⟩
 .rcases k with k|k
  .exact(h.u t c (h.f t c k)).2
  .exact(h.u t c k.2).2
end
section
variable {br:Int->Int->Int->Prop} {bK:Int->Int->Prop} {cM:List aw} {bc:Int} {Q C:N} {L:I ai} {aj:I bI} {an:I aw}
def gp.mono{V:Int->Int->Prop}{s:I ai}(h:gp bK bc s)(k: ∀t c,bK t c->V t c):gp V bc s:=⟨λy a=>⟨(h.g y a).1,λe=>k _ _ ((h.g y a).2.1 e),λe=>k _ _ ((h.g y a).2.2 e)⟩⟩
def asR(h:dM br bK cM bc Q)(G:0<=bc)(A: ∀l∈cM,l.K=bc->l.r<=Q.D):gZ br cM bc (kH Q):=by
 rcases aF5 Q with e|e
 .rw[e];exact⟨bK,h⟩
 have F:=h.xY.1;have o:=E (Q.D+1);have m:=h.aM;revert e;unfold kH;rw[N.cT]
 cases q:nM Q with
 |true=>
  intro e;have e:Q.ro=2:=e;unfold nM at q;unfold kI sK xb xc Db
  cases z:Q.D==1048576 with
  |true=>exact⟨bK,h⟩
  |false=>
   rw[z]at q;rw[au,aB,aB,aB,aB];have q:iu (i64 (Q.D+1)) Q.aM Q=false:=by simpa using q
   rw[D_ q];exact⟨bK,h⟩
 |false=>
  intro _;have z:(Q.D==1048576)=false:=by
   unfold nM at q
   cases z:Q.D==1048576 with
   |true=>rw[z]at q;cases q
   |false=>rfl
  have r:iu (Q.D+1) Q.aM Q=true:=by
   unfold nM at q;rw[z,o]at q;simpa using q
  have n:kI Q=dt (Q.D+1) Q.aM Q:=by
   unfold kI sK xb xc Db;rw[z,o];rfl
  have s:(kI Q).D=Q.D+1:=by rw[n];exact x4 r
  have D:(kI Q).bl=bc:=by rw[n];exact(Ea r).trans m
  have w:iG (wm br bc) (kI Q):=by
   rw[n];exact QF h.w λb=>⟨⟨by show 0<=Q.D+1;omega,b.2⟩,λt c k=> .inl (by have:=(h.xY.2 t c k).2;show t<Q.D+1;omega),λ_ z=>absurd m z⟩
  have k:dM br (λt c=>bK t c\/(t=Q.D+1/\c=bc)) cM bc (p8 Q):=by
   have z:lA (p8 Q):=h.z.st rfl rfl rfl rfl h.z.o;have i:(p8 Q).D=Q.D+1:=s;have u:(p8 Q).bl=bc:=D;refine⟨h.aM,w,z,λt c k=> .inl (h.f t c k),λt c k=> ?_,λt c d k l=> ?_,λ_=> ?_,λt c k q=> ?_,h.o.mono λ_ _ k=> .inl k,λ_=>⟨?_,λl B x y=> ?_,?_⟩,λr=>absurd (show(2:Int)=3 from r) Δ⟩
   .rw[i,u];rcases k with k|⟨g,f⟩
    .obtain⟨a,b⟩:=h.u t c k;exact⟨a,.inl Ω⟩
    .exact⟨Ω,.inr ⟨g,f⟩⟩
   .have p: ∀{c},bK t c->t≠Q.D+1:=λ{c} k=>by
     have:=(h.u t c k).2;omega
    rcases k with k|⟨g,f⟩<;>rcases l with l|⟨iQ,C⟩
    .exact h.kA t c d k l
    .exact absurd iQ (p k)
    .exact absurd g (p l)
    .rw[f,C]
   .rw[i,u];exact .inr ⟨rfl,rfl⟩
   .rcases k with k|⟨g,f⟩
    .exact h.x t c k q
    .exact absurd f q
   .rw[i];exact .inr ⟨rfl,rfl⟩
   .rw[i]at x;have:=A l B y;omega
   .have v: ∀{j:Int},(Q.aM==j)=true->bc≠j->False:=λ{j} a b=>b (by rw[<-m];exact eq_of_beq a);exact⟨λa b=>(v a b).elim,λa b=>(v a b).elim,λa b=>(v a b).elim⟩
  rw[aB];exact⟨_,adH k ⟨by show(3:Int)≠4;decide,λ_=> .inr ⟨s,rfl⟩⟩ qu⟩
def asS{ms:ai}(h:dM br bK cM bc Q)(y:0<=ms.r)(p:br ms.r Q.D ms.r):gZ br cM bc (m7 ms Q):=by
 have s: ∀{V:Int->Int->Prop} {m:N} {t:Int},dM br V cM bc m->V t ms.r->gZ br cM bc (dn ms.r (⟨0,0,4,t,0,0,false,0,(B:I ax),0,0,0,(B:I ah),0,(B:I ay)⟩:ai) m):=λk v=>⟨_,k.st rfl (k.z.st rfl rfl rfl rfl (np _ k.z.o qu)) λo=>Jk _ o k.aM ⟨λ_=>v,λe=>absurd (show(4:Int)=3 from e) Δ⟩⟩;have j:gZ br cM bc (lW ms.r Q):=⟨bK,TD _ h⟩;unfold m7 xd HH MJ Dc MK Dd;rw[N.cT]
 cases !(ru Q.e Q.lt Q.li ms.j ms.m)with
 |true=>exact j
 |false=>
 by_cases q:Q.bl<0
 .rw[a8 (show¬Q.bl>=0 by omega),bm q];simp only[aB,au]
  cases r:iu Q.D ms.r Q with
  |false=>rw[D_ r];exact j
  |true=>
   have i:=x4 r;have u:(dt Q.D ms.r Q).bl=ms.r:=Ea r;have w:iG (wm br bc) (dt Q.D ms.r Q):=QF h.w λb=>⟨h.xY.1,λt c k=> .inl (by
    have⟨a,b⟩:=h.u t c (h.f t c k);show t<Q.D;omega),λ_ _=>p⟩
   have z:lA (dt Q.D ms.r Q):=h.z.st rfl rfl rfl rfl h.z.o;have n: ∀{c},¬bK Q.D c:=λ{c} k=>by
    have⟨a,b⟩:=h.u _ c k;omega
   have k:dM br (λt c=>bK t c\/(t=Q.D/\c=ms.r)) cM bc (dt Q.D ms.r Q):=by
    refine⟨h.aM,w,z,λt c k=> .inl (h.f t c k),λt c k=> ?_,λt c d k l=> ?_,λ_=> ?_,λt c k q=> ?_,h.o.mono λ_ _ k=> .inl k,λr=>absurd (h.ct r).1 n,λr=> ?_⟩
    .rw[i,u];rcases k with k|⟨f,g⟩
     .obtain⟨a,b⟩:=h.u t c k;exact⟨a,.inl Ω⟩
     .exact⟨Ω,.inr ⟨f,g⟩⟩
    .rcases k with k|⟨f,g⟩<;>rcases l with l|⟨iQ,x⟩
     .exact h.kA t c d k l
     .rw[iQ]at k;exact absurd k n
     .rw[f]at l;exact absurd l n
     .rw[g,x]
    .rw[i,u];exact .inr ⟨rfl,rfl⟩
    .rcases k with k|⟨f,g⟩
     .exact h.x t c k q
     .rw[f,g];exact p
    .rw[i];exact h.pk r
   exact s k (t:=(dt Q.D ms.r Q).D) (by rw[i];exact .inr ⟨rfl,rfl⟩)
 .rw[bm (show Q.bl>=0 by omega),a8 q];simp only[aB,au]
  cases e:Q.bl !=ms.r with
  |true=>exact j
  |false=>
   have v:=h.v Ω;rw[bP e]at v;exact s h v
def asz(h:dM br bK cM bc Q):dM br bK (cM++[(⟨Q.D,bc⟩:aw)]) bc (zG Q):=by
 have a:dM br bK (cM++[(⟨Q.D,bc⟩:aw)]) bc (o2 Q):=⟨h.aM,h.w.same rfl rfl rfl,h.z.st rfl rfl rfl rfl h.z.o,h.f,h.u,h.kA,h.v,h.x,h.o,λr=>absurd (show(3:Int)=2 from r) Δ,λ_=>⟨_,List.mem_append_right _ (List.mem_singleton.2 rfl),rfl,rfl⟩⟩;exact adJ (adF (⟨Q.D,jh (o2 Q),true,0,0,0,ε,ε,ε,0⟩:ax) a)
def gZ.app(h:gZ br cM bc Q){t c:Int}(f:c≠bc):gZ br (cM++[(⟨t,c⟩:aw)]) bc Q:=by
 obtain⟨bK,h⟩:=h;refine⟨bK,h.aM,h.w,h.z,h.f,h.u,h.kA,h.v,h.x,h.o,λr=> ?_,λr=> ?_⟩
 .obtain⟨a,b,d⟩:=h.ct r;refine⟨a,λl g e=> ?_,d⟩;rcases fj.1 g with q|q
  .exact b l q e
  .rw[List.mem_singleton.1 q];exact f
 .obtain⟨l,a,b⟩:=h.pk r;exact⟨l,List.mem_append_left _ a,b⟩
def gZ.mono{V:Int->Int->Int->Prop}(h:gZ br cM bc Q)(k: ∀j t c,br j t c->V j t c)(e: ∀t c,V bc t c->br bc t c):gZ V cM bc Q:=by
 obtain⟨bK,h⟩:=h;refine⟨bK,h.aM,h.w.mono λ_ _ q=>⟨q.1,λt c z=>q.2.1 t c (e t c z),λa b=>k _ _ _ (q.2.2 a b)⟩,h.z,λt c z=>h.f t c (e t c z),h.u,h.kA,h.v,λt c z q=>k _ _ _ (h.x t c z q),h.o,λr=> ?_,h.pk⟩;have⟨a,b,K,G,d⟩:=h.ct r;exact⟨a,b,λp q=>⟨k _ _ _ (K p q).1,k _ _ _ (K p q).2⟩,λp q=>⟨k _ _ _ (G p q).1,k _ _ _ (G p q).2⟩,λp q=>⟨k _ _ _ (d p q).1,k _ _ _ (d p q).2⟩⟩
def adM(h:dM br bK cM bc Q){k:Nat}(b:k<3)(a:Q.ro=2->br (k:Int) Q.D bc/\br bc Q.D bc):dM br bK cM bc (N.ic k Q):=by
 match k,b with
 |0,_=>exact⟨h.aM,h.w.same rfl rfl rfl,h.z.st rfl rfl rfl rfl h.z.o,h.f,h.u,h.kA,h.v,h.x,h.o,λr=>⟨(h.ct r).1,(h.ct r).2.1,λ_ _=>a r,(h.ct r).2.2.2.1,(h.ct r).2.2.2.2⟩,h.pk⟩
 |1,_=>exact⟨h.aM,h.w.same rfl rfl rfl,h.z.st rfl rfl rfl rfl h.z.o,h.f,h.u,h.kA,h.v,h.x,h.o,λr=>⟨(h.ct r).1,(h.ct r).2.1,(h.ct r).2.2.1,λ_ _=>a r,(h.ct r).2.2.2.2⟩,h.pk⟩
 |2,_=>exact⟨h.aM,h.w.same rfl rfl rfl,h.z.st rfl rfl rfl rfl h.z.o,h.f,h.u,h.kA,h.v,h.x,h.o,λr=>⟨(h.ct r).1,(h.ct r).2.1,(h.ct r).2.2.1,(h.ct r).2.2.2.1,λ_ _=>a r⟩,h.pk⟩
def aB8(bc:Int)(h:hq Q=true):(Q.v0=true/\bc≠0)\/(Q.v1=true/\bc≠1)\/(Q.v2=true/\bc≠2):=by
 unfold hq MI HG HF at h;revert h;have w:i64 1=1:=E _
 by_cases a:bc=0
 .cases Q.v0<;>cases Q.v1<;>cases Q.v2<;>simp [a,w]
 .by_cases b:bc=1
  .cases Q.v0<;>cases Q.v1<;>cases Q.v2<;>simp [a,b,w]
  .cases Q.v0<;>cases Q.v1<;>cases Q.v2<;>simp [a,b,w]
end
def lJ(k:Nat)(ms:ai)(s:N):Bool:=bif ms.G==4 then(bif decide (ms.q<s.D)then false else bif s.ro==2 then hq (N.ic k s)else false)else false
def abm(W:Int->Int->Int->Prop)(L:List aw)(i t:Int):Prop:=(0<=t/\t<=1048576)/\(∀l∈L,l.r=t->l.K≠i)/\W i t i/\ ∃j,(0<=j/\j<3)/\j≠i/\W j t i
section
variable {br:Int->Int->Int->Prop} {bK:Int->Int->Prop} {cM:List aw} {Q dW:N} {L:I ai} {aj:I bI} {an:I aw} {bT bd:Nat} {ms:ai}
def oy{c:Bool}{i:Int}{x y:N}(a:c=true->gZ br cM i x)(b:c=false->gZ br cM i y):gZ br cM i (N.bif c x y):=by
 rw[N.cT]
 cases c
 .exact b rfl
 .exact a rfl
def adX(h:dM br bK cM (bT:Int) dW)(t:bd<3)(A:dW.e<=dW.co)(B:kU ms)(k:ms.G≠1->ms.G≠2->ms.q<=dW.D)(z: ∀l∈cM,l.K=(bT:Int)->l.r<=dW.D)(y:ms.G=4->br (bd:Int) ms.q (bT:Int)/\br (bT:Int) ms.q (bT:Int))(x:ms.G=3->br (bd:Int) ms.q (bd:Int)):
  (lJ bd ms dW=true->abm br cM (bT:Int) dW.D/\gZ br (cM++[(⟨dW.D,(bT:Int)⟩:aw)]) (bT:Int) (kd bT bd ms dW L aj an))/\(lJ bd ms dW=false->gZ br cM (bT:Int) (kd bT bd ms dW L aj an)):=by
 have g:gZ br cM (bT:Int) dW:=⟨bK,h⟩
 by_cases i:ms.G=4
 .have k:=k Ω Ω;unfold lJ kd;rw[i];simp only[N.cT,show((4:Int)==4)=true from rfl,show((4:Int)==1)=false from rfl,show((4:Int)==2)=false from rfl,show((4:Int)==3)=false from rfl,show((4:Int)!=8)=true from rfl,au,aB]
  cases n:decide (ms.q<dW.D)with
  |true=>exact⟨λe=>(nomatch e),λ_=>⟨bK,TD _ h⟩⟩
  |false=>
   have s:ms.q=dW.D:=by have:=dh n;omega
   have w:=y i;rw[s]at w;have f:=adM h t λ_=>w
   cases o:dW.ro==2 with
   |false=>exact⟨λe=>(nomatch e),λ_=>g⟩
   |true=>
    have j:=ES bd dW;have ct:(N.ic bd dW).ro=2:=j.2.1.trans (eq_of_beq o);simp only[au,aB]
    cases m:hq (N.ic bd dW)with
    |false=>exact⟨λe=>(nomatch e),λ_=>⟨bK,f⟩⟩
    |true=>
     refine⟨λ_=> ?_,λe=>nomatch e⟩;have l:=asz f;obtain⟨a,b,r,K,G⟩:=f.ct ct;rw[j.1]at l b r K G;refine⟨⟨h.xY.1,b,w.2,?_⟩,bK,l⟩;rcases aB8 (bT:Int) m with⟨p,q⟩|⟨p,q⟩|⟨p,q⟩
     .exact⟨0,Ω,q.symm,(r p q).1⟩
     .exact⟨1,Ω,q.symm,(K p q).1⟩
     .exact⟨2,Ω,q.symm,(G p q).1⟩
 .have d:lJ bd ms dW=false:=by
   unfold lJ;rw[ew.2 i];rfl
  refine⟨λe=>(by rw[d]at e;cases e),λ_=> ?_⟩;unfold kd;refine oy (λ_=>⟨bK,asv h⟩) λu=>oy (λ_=> ?_) λv=>oy (λ_=>oy (λ_=>⟨bK,TD _ h⟩) λ_=>g) λn=>oy (λbo=> ?_) λ_=>oy (λe=>absurd (eq_of_beq e) i) λ_=>oy (λ_=>⟨bK,asA (adG h)⟩) λ_=>oy (λ_=>⟨bK,asB (ms:=l4 bT bd ms) (adG h) A B⟩) λ_=>oy (λ_=>oy (λ_=>⟨bK,asC _ _ h⟩) λ_=>g) λ_=>g
  .refine oy (λc=> ?_) λ_=>g;have cX:dW.ro=1:=by
    cases q:dW.ro==1 with
    |true=>exact eq_of_beq q
    |false=>rw[q]at c;cases c
   have f:=adM h t λo=>absurd (cX.symm.trans o) Δ;have j:=ES bd dW;exact oy (λ_=>asR f (Int.natCast_nonneg bT) (by rw[j.1];exact z)) λ_=>⟨bK,f⟩
  .have s:ms.q=dW.D:=by
    have:=dh n;have:=k (ew.1 u) (ew.1 v);omega
   have w:=x (eq_of_beq bo);rw[s]at w;exact asS (ms:=l4 bT bd ms) h (Int.natCast_nonneg bd) w
def ni(bd:Nat)(ms:ai)(Q:N):Bool:=bif !Q.up then false else bif mw ms Q then lJ bd ms (de ms Q)else false
def acY(h:bX Q)(a:fE ms)(g:bT<3)(f:bd<3):w8 bT bd ms Q L aj an=bif ni bd ms Q then sL (hS bd ms Q) an else an:=by
 have e:fE (l4 bT bd ms):=⟨(by omega:(0:Int)<=(bd:Int)/\(bd:Int)<3),(by omega:(0:Int)<=(bT:Int)/\(bT:Int)<3),a.j1,a.b9,a.li⟩;have d:bX (de ms Q):=by
  refine⟨h.i.iz _ Ξ ?_ (QG ms Q h.i.ws),h.o⟩;show aN (re ms Q);unfold re
  cases ir ms Q
  .exact h.i.u8
  .exact(OQ h).i.u8
 have cO:De (l4 bT bd ms) (k_ (de ms Q)) L aj an=an:=(ahZ (XE d) e).2.2.2;have c:Dk (l4 bT bd ms) (de ms Q) L aj an=an:=(ah0 d e).2.2.2;unfold l4 at cO c;unfold ni lJ w8;rw[cO,c];show _=bif(bif !Q.up then false else bif mw ms Q then(cond (ms.G==4) (bif decide (ms.q<kG ms Q)then false else bif jC ms Q==2 then hq (hS bd ms Q)else false) false)else false)then _ else _
 cases Q.up<;>simp only[Bool.not_false,Bool.not_true,au,aB,Bool.cond_self]
 cases mw ms Q<;>simp only[au,aB]
 by_cases b:ms.G=4
 .rw[b];simp only[show((4:Int)==4)=true from rfl,show((4:Int)==1)=false from rfl,show((4:Int)==2)=false from rfl,show((4:Int)==3)=false from rfl,au,aB]
  cases decide (ms.q<kG ms Q)<;>simp only[au,aB]
  cases jC ms Q==2<;>rfl
 .rw[ew.2 b];simp only[aB,Bool.cond_self]
def asU(h:gZ br cM (bT:Int) Q)(i:bd<3)(g:Q.e<=Q.co)(j:kU ms)(f: ∀l∈cM,l.K=(bT:Int)->l.r<=Q.D)(d:ms.G=4->br (bd:Int) ms.q (bT:Int)/\br (bT:Int) ms.q (bT:Int))(c:ms.G=3->br (bd:Int) ms.q (bd:Int)):
  (ni bd ms Q=true->abm br cM (bT:Int) (de ms Q).D/\gZ br (cM++[(⟨(de ms Q).D,(bT:Int)⟩:aw)]) (bT:Int) (m5 bT bd ms Q L aj an))/\(ni bd ms Q=false->gZ br cM (bT:Int) (m5 bT bd ms Q L aj an)):=by
 obtain⟨bK,h⟩:=h;rw[KU];unfold ni;rw[N.cT,N.cT]
 cases Q.up with
 |false=>exact⟨λe=>(nomatch e),λ_=>⟨bK,h⟩⟩
 |true=>
 simp only[Bool.not_true,aB]
 cases p:mw ms Q with
 |false=>
  have cX:iu ms.q (-1) Q=false:=by
   unfold mw at p
   cases z:iu ms.q (-1) Q with
   |false=>rfl
   |true=>
    rw[z]at p;revert p
    cases ir ms Q<;>intro p<;>cases p
  rw[D_ cX];exact⟨λe=>(nomatch e),λ_=>⟨bK,h⟩⟩
 |true=>
 simp only[au]
 cases q:ir ms Q with
 |false=>
  have e:de ms Q=Q:=by
   unfold de o1 jC kG zE re HB;rw[q];rfl
  rw[e];refine adX h i g j (λa b=> ?_) f d c;unfold ir zC at q;rw[ew.2 a,ew.2 b]at q;have q:decide (ms.q>Q.D)=false:=q;have:=dh q;omega
 |true=>
  have m:Q.D<ms.q:=by
   have q:=q;unfold ir at q
   cases z:zC ms with
   |false=>rw[z]at q;exact al q
   |true=>rw[z]at q;cases q
  have F:dM br bK cM (bT:Int) {Q with ro:=0,ws:=(B:I hz)} :=⟨h.aM,h.w.same rfl rfl rfl,h.z.st rfl rfl rfl rfl h.z.o,h.f,h.u,h.kA,h.v,h.x,h.o,λr=>absurd (show(0:Int)=2 from r) Δ,λr=>absurd (show(0:Int)=3 from r) Δ⟩;have G:=asG F (a:=ms.q) m rfl;have e:de ms Q=dt ms.q (-1) {Q with ro:=0,ws:=(B:I hz)} :=by
   unfold de o1 jC kG zE re HB;rw[q];rfl
  have cX:iu ms.q (-1) Q=true:=by
   unfold mw at p;rw[q]at p
   cases z:iu ms.q (-1) Q with
   |true=>rfl
   |false=>rw[z]at p;cases p
  have n:(de ms Q).D=ms.q:=by
   show kG ms Q=ms.q;unfold kG;rw[q];exact x4 cX
  rw[<-e]at G;exact adX G i g j (λ_ _=>Int.le_of_eq n.symm) (λl k e=>by have:=f l k e;omega) d c
end
structure ks (W:Int->Int->Int->Prop) (C:aq):Prop where
 n: ∀i:Nat,i<3->gZ W C.aU.B (i:Int) (C.h i)
 a: ∀y∈C.s.B,nv W y
 z:fb C.s
 f: ∀j t c d,W j t c->W j t d->c=d
 l: ∀l∈C.aU.B,((0<=l.r/\l.r<=1048576)/\0<=l.K/\l.K<3)/\W l.K l.r l.K/\ ∃j,(0<=j/\j<3)/\j≠l.K/\W j l.r l.K
 d:(C.aU.B.map (·.r)).Nodup
section
variable {br:Int->Int->Int->Prop} {H:aq}
def ady{V:Int->Int->Int->Prop}(h:ks br H){i:Nat}(s:i<3){n:N}{L:I ai}(aj:I bI)(m:gZ V H.aU.B (i:Int) n)(q: ∀y∈L.B,nv V y)(v:fb L)(k: ∀j t c,br j t c->V j t c)(w: ∀j t c,j≠(i:Int)->V j t c->br j t c)(r: ∀j t c d,V j t c->V j t d->c=d):ks V (H.put i n L aj H.aU):=by
 have⟨p,x,f⟩:=vO H i n L aj H.aU;have o: ∀j:Nat,j<3->j≠i->gZ V H.aU.B (j:Int) (H.h j):=λj g e=>(h.n j g).mono k λt c=>w _ t c Ω;refine⟨?_,by rw[p];exact q,by rw[p];exact v,r,?_,by rw[f];exact h.d⟩
 .rw[f];intro j g
  match i,s,j,g with
  |0,_,0,_=>exact m
  |0,_,1,_=>exact o 1 Δ Δ
  |0,_,2,_=>exact o 2 Δ Δ
  |1,_,0,_=>exact o 0 Δ Δ
  |1,_,1,_=>exact m
  |1,_,2,_=>exact o 2 Δ Δ
  |2,_,0,_=>exact o 0 Δ Δ
  |2,_,1,_=>exact o 1 Δ Δ
  |2,_,2,_=>exact m
 .rw[f];intro l u;have⟨a,b,j,c,d,e⟩:=h.l l u;exact⟨a,k _ _ _ b,j,c,d,k _ _ _ e⟩
def B9(h:ks br H){i:Nat}(a:i<3){n:N}(aj:I bI)(b:gZ br H.aU.B (i:Int) n):ks br (H.put i n H.s aj H.aU):=
 ady h a aj b h.a h.z (λ_ _ _ q=>q) (λ_ _ _ _ q=>q) h.f
def ks.D(h:ks br H){i:Nat}(a:i<3): ∀l∈H.aU.B,l.K=(i:Int)->l.r<=(H.h i).D:=λl b e=>by
 have⟨U,k⟩:=h.n i a;have q:=(h.l l b).2.1;rw[e]at q;exact(k.xY.2 _ _ q).2
def adv(h:ks br H)(x: ∀i,bX (H.h i)){ms:ai}(n:fE ms)(p:nv br ms)(N:kU ms):ks br (jq H ms):=by
 have to:=n.to;have K:=n.kC;have⟨u,F⟩:=tO to.1;have⟨k,D⟩:=tO K.1;unfold jq Ef;unfold nv at p;rw[F,D]at p;rw[F,D,show toNat (u:Int)=u from rfl,show toNat (k:Int)=k from rfl];have d:u<3:=by omega
 have s:k<3:=by omega
 rw[(XC (x u) n d s).a,acY (x u) n d s];have⟨q1,O⟩:=asU (L:=H.s) (aj:=H.told) (an:=H.aU) (h.n u d) s (x u).i.il N (h.D d) p.1 p.2
 cases c:ni k ms (H.h u)with
 |false=>exact B9 h d _ (O c)
 |true=>
  have⟨⟨hD,cX,ct,j,P,Q,g⟩,E⟩:=q1 c;rw[au];have B:(sL (hS k ms (H.h u)) H.aU).B=H.aU.B++[(⟨(de ms (H.h u)).D,(u:Int)⟩:aw)]:=by
   unfold sL;rw[fH,fQ];have I:(hS k ms (H.h u)).D=(de ms (H.h u)).D:=(ES k _).1;have J:(hS k ms (H.h u)).aM=(u:Int):=by
    have⟨U,z⟩:=h.n u d;rw[<-z.aM]
    match k,s with
    |0,_=>rfl
    |1,_=>rfl
    |2,_=>rfl
   rw[I,J]
  generalize sL (hS k ms (H.h u)) H.aU=an at B;generalize (de ms (H.h u)).D=t at B hD cX ct g E;generalize m5 u k ms (H.h u) H.s H.told H.aU=m at E;generalize w9 u k ms (H.h u) H.s H.told H.aU=aj;have⟨A,T,v⟩:=vO H u m H.s aj an;have o: ∀j:Nat,j<3->j≠u->gZ br (H.aU.B++[(⟨t,(u:Int)⟩:aw)]) (j:Int) (H.h j):=λj w e=>(h.n j w).app Ω;refine⟨?_,by rw[A];exact h.a,by rw[A];exact h.z,h.f,?_,?_⟩
  .rw[v,B];intro j w
   match u,d,j,w with
   |0,_,0,_=>exact E
   |0,_,1,_=>exact o 1 Δ Δ
   |0,_,2,_=>exact o 2 Δ Δ
   |1,_,0,_=>exact o 0 Δ Δ
   |1,_,1,_=>exact E
   |1,_,2,_=>exact o 2 Δ Δ
   |2,_,0,_=>exact o 0 Δ Δ
   |2,_,1,_=>exact o 1 Δ Δ
   |2,_,2,_=>exact E
  .rw[v,B];intro l r;rcases fj.1 r with q|q
   .exact h.l l q
   .rw[List.mem_singleton.1 q];exact⟨⟨hD,Int.natCast_nonneg u,by show(u:Int)<3;omega⟩,ct,j,P,Q,g⟩
  .rw[v,B,List.map_append,List.nodup_append];refine⟨h.d,by simp,λa M b C e=> ?_⟩;obtain⟨l,r,rfl⟩:=oc.1 M;rw[Br,List.map_nil,List.mem_singleton]at C;have e:l.r=t:=e.trans C;have y:=cX l r e;have⟨aL,aO,G,R,S,f⟩:=h.l l r;rw[e]at aO f;have cs:j=l.K\/G=(u:Int)\/j=G:=by omega
   rcases cs with z|z|z
   .rw[z]at g;exact y (h.f _ _ _ _ aO g)
   .rw[z]at f;exact y (h.f _ _ _ _ f ct)
   .rw[<-z]at f;exact y (h.f _ _ _ _ f g)
def adw: ∀(l:List ai) {H:aq},ks br H->(∀i,bX (H.h i))->(∀y∈l,fE y/\nv br y/\kU y)->ks br (yK H l)
 |[],_,h,_,_=>h
 |y::l,_,h,b,a=>by
  have⟨c,e,f⟩:=a y (List.mem_cons_self ..);exact adw l (adv h b c e f) (Bl b c).j λx d=>a x (List.mem_cons_of_mem _ d)
def ks.up{D:I ai}(h:ks br H)(a: ∀y∈D.B,nv br y)(z:fb D):ks br (⟨H.a,H.b,H.c,D,H.told,H.aU⟩:aq):=
 ⟨λi b=>by rw[vG H D i];exact h.n i b,a,z,h.f,h.l,h.d⟩
def adE{n:N}(e:n.a1.n<=300)(h: ∀y∈n.a1.B,nv br y): ∀(f:Nat) (v:Int) (s:I ai),(∀y∈s.B,nv br y)->0<=v-> ∀y∈(mB n f v s).B,nv br y
 |0,_,_,_,_=>by
  rw[mB];exact λy a=>nomatch a
 |f+1,v,s,b,g=>by
  rw[mB]
  by_cases c:v<(n.a1.n:Int)
  .rw[bm c,au,E (v+1)];refine adE e h f (v+1) _ ?_ Ω;have d:toNat v<n.a1.B.length:=by rw[bj];omega
   have q:n.a1.at' v.toNat=n.a1.B[toNat v]:=ug (i:=toNat v) (cG d);unfold zJ;rw[q];refine eU (P:=λs:I ai=> ∀y∈s.B,nv br y) (λy a=> ?_) b;rw[fH,fQ]at a;rcases fj.1 a with z|z
   .exact b y z
   .rw[List.mem_singleton.1 z];exact h _ (mb d)
  .rw[a8 c,aB];exact b
def nv.mono{V:Int->Int->Int->Prop}{y:ai}(h:nv br y)(k: ∀j t c,br j t c->V j t c):nv V y:=⟨λe=>⟨k _ _ _ (h.1 e).1,k _ _ _ (h.1 e).2⟩,λe=>k _ _ _ (h.2 e)⟩
def ar6(h:ks br H){i:Nat}(g:i<3)(n:(H.h i).a1.n<=300): ∃V,ks V (H.put i (lb (H.h i)) (sQ (H.h i) H.s) H.told H.aU):=by
 have⟨U,k⟩:=h.n i g;have mono: ∀j t c,br j t c->br j t c\/(j=(i:Int)/\U t c):=λ_ _ _ q=> .inl q;refine⟨_,ady h g H.told ⟨U,asD k⟩ (adE n (λy a=> ?_) _ _ _ (λy a=>(h.a y a).mono mono) (bz _)) (akh k.z.o _ _ _ h.z) mono (λj t c e q=>q.resolve_right λz=>e z.1) λj t c d p q=> ?_⟩
 .obtain⟨b,f,r⟩:=k.o.g y a;refine⟨λe=>⟨.inr ⟨b,f e⟩,?_⟩,λe=> .inr ⟨b,by rw[b];exact r e⟩⟩
  by_cases z:y.K=(i:Int)
  .exact .inr ⟨z,f e⟩
  .exact .inl (k.x _ _ (f e) z)
 .rcases p with p|⟨o,l⟩<;>rcases q with q|⟨q1,m⟩
  .exact h.f j t c d p q
  .rw[q1]at p;exact k.kA t c d (k.f _ _ p) m
  .rw[o]at q;exact k.kA t c d l (k.f _ _ q)
  .exact k.kA t c d l m
def asQ{L:List aw}{i:Int}{n:N}(h:gZ br L i n){ac:aK}(a:ac.r=2):gZ br L i (p7 ac n):=by
 obtain⟨U,h⟩:=h;unfold p7;rw[a];simp only[N.cT];show gZ br L i (cond (sH n) (mz (⟨0,0,1,i64 (n.D+1),b_ (jW n),my (jW n),false,0,(B:I ax),0,0,0,(B:I ah),0,(B:I ay)⟩:ai) (jW n)) n)
 cases sH n with
 |false=>exact⟨U,h⟩
 |true=>
  have k:dM br U L i (jW n):=⟨h.aM,h.w.same rfl rfl rfl,h.z.st rfl rfl rfl rfl h.z.o,h.f,h.u,h.kA,h.v,h.x,h.o,λr=>absurd (show(1:Int)=2 from r) Δ,λr=>absurd (show(1:Int)=3 from r) Δ⟩;exact⟨U,adH k ⟨by show(1:Int)≠4;decide,λe=>absurd (show(1:Int)=3 from e) Δ⟩ qu⟩
def ar8(h:ks br H)(d: ∀i,bX (H.h i)){i:Nat}(b:i<3)(q:Int){ac:aK}(c:q=2\/q=3\/q=9\/q=11)(f:0<=ac.G):ks br (H.put i (k8 q i ac (H.h i)) (jB q i ac (H.h i) H.s) H.told H.aU):=by
 have L:jB q i ac (H.h i) H.s=H.s:=by
  unfold jB sG;rcases c with e|e|e|e<;>rw[e]<;>simp
 rw[L];have a:=h.n i b;refine B9 h b _ ?_;unfold k8;rw[N.cT]
 cases (H.h i).up with
 |false=>exact a
 |true=>
  rw[au];rcases c with e|e|e|e<;>rw[e]
  .exact asQ (ac:=⟨2,(i:Int),ac.G,ac.q,ac.j,ac.m,ac.ak,ac.aA,ac.i,ac.aJ⟩) a rfl
  .obtain⟨U,k⟩:=a;show gZ br H.aU.B (i:Int) (N.bif ((H.h i).ro==3) (ri (H.h i)) (H.h i));exact oy (λ_=>⟨U,adJ k⟩) λ_=>⟨U,k⟩
  .obtain⟨U,k⟩:=a;exact asT k f
  .obtain⟨U,k⟩:=a;exact⟨U,asE k (d i).i.il⟩
def py(C:aq):Prop:= ∃br,ks br C
def nE{c:Bool}{X Y:aq}(a:c=true->py X)(b:c=false->py Y):py (aq.bif c X Y):=by
 rw[aq.cT]
 cases c
 .exact b rfl
 .exact a rfl
def ar7{k:Nat}{ac:aK}(h:py H)(d:fz k H)(m:Bw ac):py (df H ac):=by
 obtain⟨br,h⟩:=h;have p:=Qv (L:=H.s) m.ln;have b:toNat ac.K<3:=by have:=m.h;omega
 have l:=h.n _ b;have same:py H:=⟨br,h⟩;have x: ∀{q:Int},(q=2\/q=3\/q=9\/q=11)->py (H.put (toNat ac.K) (k8 q (toNat ac.K) ac (H.h (toNat ac.K))) (jB q (toNat ac.K) ac (H.h (toNat ac.K)) H.s) H.told H.aU):=λv=>⟨br,ar8 h d.j b _ v m.ln⟩;have mem: ∀{j:Nat},j<H.s.n->H.s.at' j∈H.s.B:=λ{j} n=>by
  have a:j<H.s.B.length:=by rw[bj];exact n
  rw[show H.s.at' j=H.s.B[j]from ug (i:=j) (cG a)];exact mb a
 have r: ∀{j:Nat},j<H.s.n-> ∀y∈(H.s.del j (j+1)).B,nv br y:=λ{j} n y f=>by
  rw[aa3 H.s j n]at f;rcases fj.1 f with z|z
  .exact h.a y (List.mem_of_mem_take z)
  .exact h.a y (Bu z)
 unfold df;refine nE (λ_=> ?_) λ_=>nE (λ_=>x (.inl rfl)) λ_=>nE (λ_=>x (.inr (.inl rfl))) λ_=>nE (λ_=> ?_) λ_=>nE (λ_=> ?_) λ_=>nE (λ_=> ?_) λ_=>nE (λ_=> ?_) λ_=>nE (λ_=> ?_) λ_=>nE (λ_=>x (.inr (.inr (.inl rfl)))) λ_=>nE (λ_=> ?_) λ_=>nE (λ_=>x (.inr (.inr (.inr rfl)))) λ_=> ?_
 .obtain⟨U,k⟩:=l;exact⟨br,B9 h b _ ⟨U,asu ⟨ac.q,ac.j,ac.m,ac.ak,ac.aA,ac.i,ac.aJ⟩ k⟩⟩
 .have q:x7 (toNat ac.K) H ac=H.put (toNat ac.K) (cond (H.h (toNat ac.K)).up (lb (H.h (toNat ac.K))) (H.h (toNat ac.K))) (cond (H.h (toNat ac.K)).up (sQ (H.h (toNat ac.K)) H.s) H.s) H.told H.aU:=by
   unfold x7
   congr 1
   .show N.bif _ _ _=_;rw[N.cT];rfl
  rw[q]
  cases (H.h (toNat ac.K)).up with
  |false=>exact⟨br,B9 h b H.told l⟩
  |true=>exact ar6 h b (d.on _)
 .rw[I6,yd];obtain⟨U,k⟩:=l;exact⟨br,B9 h b _ ⟨U,k.st rfl (k.z.st rfl rfl rfl rfl k.z.o) λo=>o⟩⟩
 .refine nE (λe=> ?_) λ_=>same;have e:=al e;have s:gi ac H.s<(H.s.n:Int):=p;have t:=d.lF;have a:toNat (gi ac H.s)<H.s.n:=by omega
  have e1:toNat (i64 (gi ac H.s+1))=toNat (gi ac H.s)+1:=by
   rw[E _];omega
  have u:=h.up (D:=H.s.del (toNat (gi ac H.s)) (toNat (i64 (gi ac H.s+1)))) (by rw[e1];exact r a) (aki h.z _ _);exact⟨br,adv u (λi=>by rw[vG H _ i];exact d.j i) (d.gd _ a) (h.a _ (mem a)) (h.z _)⟩
 .refine nE (λe=> ?_) λ_=>same;have e:=al e;have s:gQ ac H.s<(H.s.n:Int):=p;have t:=d.lF;have a:toNat (gQ ac H.s)<H.s.n:=by omega
  have e1:toNat (i64 (gQ ac H.s+1))=toNat (gQ ac H.s)+1:=by
   rw[E _];omega
  exact⟨br,h.up (D:=H.s.del (toNat (gQ ac H.s)) (toNat (i64 (gQ ac H.s+1)))) (by rw[e1];exact r a) (aki h.z _ _)⟩
 .refine nE (λc=> ?_) λ_=>same;have s:jA ac H.s<(H.s.n:Int):=p;have K:jA ac H.s>=0:=by
   unfold w7 at c
   cases z:decide (jA ac H.s>=0)with
   |true=>exact al z
   |false=>rw[z]at c;cases c
  have a:toNat (jA ac H.s)<H.s.n:=by omega
  refine⟨br,h.up (D:=I.app H.s (I.lit ([H.s.at' (toNat (jA ac H.s))]:List ai))) (λy f=> ?_) (YS h.z (h.z _))⟩;rw[fH,fQ]at f;rcases fj.1 f with z|z
  .exact h.a y z
  .rw[List.mem_singleton.1 z];exact h.a _ (mem a)
 .rw[I7,yd];obtain⟨U,k⟩:=l;exact⟨br,B9 h b _ ⟨U,k.st rfl (k.z.st rfl rfl rfl rfl k.z.o) λo=>o⟩⟩
 .rw[show sE H.s H=_ from LF d];have u:ks br (v8 H B):=h.up (λ_ q=>nomatch q) Es;refine⟨br,adw H.s.B u (λi=>by rw[show(v8 H B).h i=H.h i from vG H _ i];exact d.j i) λy f=> ?_⟩;have⟨i,b⟩:=l_ f;have a:i<H.s.n:=by
   rw[<-bj H.s];exact(hk.1 b).1
  have g:=h.a y f;rw[fP H.s a]at b;have e:=ij b;rw[<-e]at g |-;exact⟨d.gd i a,g,h.z i⟩
end
def ar5:py uR:=by
 have b: ∀(i:Int) (n:N),n.a_=B->n.bp=0->core n=mV->(n.dx,n.eN,n.fU,n.fT,n.a1)=(B,B,B,B,B)->(n.aM,n.ro)=(i,0)->gZ (λ_ _ _=>False) [] i n:=by
  intro i n aL aO c d f;simp only[od]at d f;obtain⟨cw,a5,k,l,g⟩:=d;obtain⟨m,h⟩:=f;have s:n.bl= -1:=by
   show(core n).bl= -1;rw[c];rfl
  refine⟨λ_ _=>False,m,⟨⟨?_,?_,?_,?_⟩,[],(λr p=>nomatch p),?_,?_,⟨0,bH _,aO⟩,λj e _ a=> ?_⟩,⟨by rw[cw,a5];exact⟨pK,pJ⟩,by rw[k,l];exact⟨pK,pJ⟩,by rw[g];exact Es⟩,λ_ _ q=>q.elim,λ_ _ q=>q.elim,λ_ _ _ q=>q.elim,λq=>by rw[s]at q;exact absurd q Δ,λ_ _ q=>q.elim,by rw[g];exact YG,λr=>by rw[h]at r;exact absurd r Δ,λr=>by rw[h]at r;exact absurd r Δ⟩
  .rw[aL];exact QB
  .rw[aL];exact cd _
  .rw[aO];exact bz _
  .rw[aL,aO];exact bz _
  .rw[aL];rfl
  .rw[c];rfl
  .rw[List.take_nil]at a;have a:mV=e:=a;rw[<-a];exact⟨Δ,λ_ _ q=>q.elim,λq=>absurd (show(0:Int)<= -1 from q) Δ⟩
 refine⟨λ_ _ _=>False,λi o=> ?_,(λ_ q=>nomatch q),Es,λ_ _ _ _ q=>q.elim,(λ_ q=>nomatch q),List.nodup_nil⟩
 match i,o with
 |0,_=>exact b _ _ rfl rfl rfl rfl rfl
 |1,_=>exact b _ _ rfl rfl rfl rfl rfl
 |2,_=>exact b _ _ rfl rfl rfl rfl rfl
def adx{l:List aK}(h: ∀a∈l,fO a)(e:l.length<=3000): ∀m,m<=l.length->py (je (l.take m))
 |0,_=>by
  rw[List.take_zero];exact ar5
 |m+1,g=>by
  have c:m<l.length:=by omega
  rw[List.take_add_one,cG c,Tt];have f:=aj6 (l:=l.take m) (λa d=>h a (List.mem_of_mem_take d)) (by rw[jr];omega);have b:=KY f;rw[fQ]at b;exact ar7 (adx h e m Ω) b (mT (h l[m] (mb c)))
def aHm{rc:bB}{h:N}(c:wB h.a_ h.bp)(d:jv rc)(f:(h.a_.n:Int)+((dB rc).length:Int)<=400000):gu rc h=true:=by
 have⟨i,l,ib⟩:=AW (a:=h.a_) (b:=h.bp) c.s.1 c.s.2 c.n;have⟨e,iQ,k⟩:=Li d;have g:(kh rc.r rc.K rc.G rc.q rc.j rc.m rc.ak rc.aA rc.i rc.aJ rc.b4 rc.cb rc.b0 rc.cq rc.bn rc.c9 rc.fc rc.eH rc.fe rc.eI).n=(fM rc).length:=by rw[<-bj,e]
 have j:=c.n;rw[(y2 d).1]at f;have G:fJ rc.r rc.K rc.G rc.q rc.j rc.m rc.ak rc.aA rc.i rc.aJ rc.b4 rc.cb rc.b0 rc.cq rc.bn rc.c9 rc.fc rc.eH rc.fe rc.eI=0:=d.c;unfold gu xH;rw[ib,i,G,g,E ((h.a_.n:Int)+3),E ((h.a_.n:Int)+3+_),a8 Ω];rfl
def aGY(C:aq){i:Nat}(a:i<3):(views C).at' i=yk (C.h i):=by
 match i,a with
 |0,_=>rfl
 |1,_=>rfl
 |2,_=>rfl
