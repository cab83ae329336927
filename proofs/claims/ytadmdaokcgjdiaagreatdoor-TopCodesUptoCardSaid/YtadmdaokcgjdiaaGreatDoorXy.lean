import Derived.Test.YtadmdaokcgjdiaaGreatDoorXw
import Derived.Test.YtadmdaokcgjdiaaGreatDoorXx
open Go.IntKind (i64 u64 u8)
open Int (toNat)
set_option maxRecDepth 100000
set_option maxHeartbeats 4000000
set_option linter.all false
noncomputable section
namespace Go.Proofs.YtadmdaokcgjdiaaGreatDoor
open Go Go.RowKit Go.af
def OO(C:aA)(D:G aj):aA:={C with ag:=D}
def Rx(C:aA)(l:List aj):aA:=l.foldl lo C
def ab2{L:G aj}(d:L.n<=300): ∀(m a v:Nat) (X:aA),v+m=L.n->m<=a->b8 (tm L (a+1) (v:Int) X)=Rx X (L.B.drop v)
 |0,a,v,X,c,b=>by
  rw[tm,bj (show¬(v:Int)<(L.n:Int) by omega),aX,Ju,List.drop_eq_nil_of_le (by rw[bc];omega)];rfl
 |m+1,a,v,X,c,b=>by
  obtain⟨a,rfl⟩: ∃q,a=q+1:=⟨a-1,Ω⟩;rw[tm,bM (show(v:Int)<(L.n:Int) by omega),aR,E _,O4 Ω];exact ab2 d m a (v+1) _ Ω Ω
def aqH{k:Nat}{C:aA}(h:hA k C):x_ C.ag C=Rx (OO C B) C.ag.B:=by
 have q:=ab2 h.nu C.ag.n (toNat ((C.ag.n:Int)- (0:Int))) 0 (OO C B) Ω Ω;rw[List.drop_zero]at q;exact q
section
def aCl(a:G Int){f:Int}(h:0<=f):(((G.part a 0 f).n:Nat):Int)=f:=by
 show(((f-0).toNat:Nat):Int)=f;omega
def aBv{a:G Int}{b:Int}(c:0<=b)(d:b<=(a.n:Int))(e:a.n<=400000):vk a b=false:=by
 unfold vk;rw[bj Ω,bj Ω,bj Ω];rfl
def zw{a:G Int}{b:Int}(c:0<=b)(d:b<=(a.n:Int))(e:a.n<=400000):bH a b=a/\kk a b=b/\hE a b=true:=by
 have m:=aBv c d e;unfold bH kk hE;rw[m];exact⟨rfl,rfl,rfl⟩
end
structure u5 (d:G Int) (s:Int):Prop where
 u:aK d
 n:d.n<=400000
 s:0<=s/\s<=(d.n:Int)
def xy{r:bm}(h:hK r):(dY r).length=3+(fg r).length/\(8<=(dY r).length/\(dY r).length<=14003):=by
 have n:=(JH h).2;have e:(dY r).length=3+(fg r).length:=by
  unfold dY;simp only[dq,eV,dy,fs]
 exact⟨e,Ω,Ω⟩
def aEV{rc:bm}{d:H}(g:u5 d.a_ d.br)(l:dA rc.ek)(k:eH rc.en):(gn rc d=false/\(fO rc d).a_=d.a_/\(fO rc d).br=d.br)\/(gn rc d=true/\hK rc/\(fO rc d).a_.B=d.a_.B++dY rc/\(fO rc d).br=d.br/\(fO rc d).a_.n<=400000):=by
 show(gn rc d=false/\vK rc d=d.a_/\Gi rc d=d.br)\/(gn rc d=true/\hK rc/\(vK rc d).B=d.a_.B++dY rc/\Gi rc d=d.br/\(vK rc d).n<=400000);obtain⟨i,m,hp⟩:=zw (a:=d.a_) (b:=d.br) g.s.1 g.s.2 g.n;unfold gn vK Gi
 cases c:(vZ d.a_ d.br rc.q rc.F rc.z rc.M rc.w rc.C rc.P rc.aw rc.f rc.aD rc.bX rc.b_ rc.b2 rc.cm rc.bb rc.cO rc.eK rc.ek rc.eL rc.en !=0)with
 |true=>exact .inl ⟨rfl,rfl,rfl⟩
 |false=>
  have c:=bK c;unfold vZ at c;rw[hp,i]at c;simp only[Bool.not_true,aX]at c
  cases z:(fA rc.q rc.F rc.z rc.M rc.w rc.C rc.P rc.aw rc.f rc.aD rc.bX rc.b_ rc.b2 rc.cm rc.bb rc.cO rc.eK rc.ek rc.eL rc.en !=0)with
  |true=>
   rw[z]at c;simp only[aR]at c;rw[c]at z;cases z
  |false=>
   rw[z]at c;simp only[aX]at c;have j:hK rc:=⟨bK z,l,k⟩;obtain⟨e,m_,p⟩:=JH j;obtain⟨f,_⟩:=dv c Δ;have h:(jB rc.q rc.F rc.z rc.M rc.w rc.C rc.P rc.aw rc.f rc.aD rc.bX rc.b_ rc.b2 rc.cm rc.bb rc.cO rc.eK rc.ek rc.eL rc.en).n=(fg rc).length:=by rw[<-bc,e]
   have o:=g.n;rw[h,E ((d.a_.n:Int)+3),E ((d.a_.n:Int)+3+_)]at f;have n:=df f;have B:(yN d.a_ d.br rc.q rc.F rc.z rc.M rc.w rc.C rc.P rc.aw rc.f rc.aD rc.bX rc.b_ rc.b2 rc.cm rc.bb rc.cO rc.eK rc.ek rc.eL rc.en).B=d.a_.B++dY rc:=by
    unfold yN;rw[hp,i,z,h,E ((d.a_.n:Int)+3),E ((d.a_.n:Int)+3+_),f];simp only[Bool.not_true,aX];rw[akq Ω (by show 3<=1000000;decide) Ω,DF,e];rfl
   refine .inr ⟨rfl,j,B,?_,?_⟩
   .show Mh d.a_ d.br rc.q rc.F rc.z rc.M rc.w rc.C rc.P rc.aw rc.f rc.aD rc.bX rc.b_ rc.b2 rc.cm rc.bb rc.cO rc.eK rc.ek rc.eL rc.en=d.br;unfold Mh;rw[hp,i,z,h,E ((d.a_.n:Int)+3),E ((d.a_.n:Int)+3+_),f];exact m
   .show(yN d.a_ d.br rc.q rc.F rc.z rc.M rc.w rc.C rc.P rc.aw rc.f rc.aD rc.bX rc.b_ rc.b2 rc.cm rc.bb rc.cO rc.eK rc.ek rc.eL rc.en).n<=400000;rw[<-bc,B,dq,bc,(xy j).1];omega
def abf: ∀(rs:List bm) (m:Nat),(∀r∈rs,hK r)-> ∃(k:Nat) (j:List Int),k<=rs.length/\(rs.flatMap dY).take m=(rs.take k).flatMap dY++j/\(j=[]\/ ∃r,hK r/\j.length<(dY r).length/\j=(dY r).take j.length)/\((rs.flatMap dY).length<=m->k=rs.length/\j=[])
 |[],m,_=>⟨0,[],bN _,by simp,.inl rfl,λ_=>⟨rfl,rfl⟩⟩
 |r::rs,m,h=>by
  have e:=h r (List.mem_cons_self ..);have n:=xy e
  by_cases c:(dY r).length<=m
  .obtain⟨k,j,o,f,g,i⟩:=abf rs (m- (dY r).length) λx l=>h x (List.mem_cons_of_mem _ l);refine⟨k+1,j,by rw[dy];omega,?_,g,λd=> ?_⟩
   .rw[g0,List.take_append,f,List.take_of_length_le c,List.take_succ_cons,g0,fk]
   .rw[g0,dq]at d;obtain⟨a,b⟩:=i Ω;exact⟨by rw[dy,a],b⟩
  .refine⟨0,(dY r).take m,cp _,?_,.inr ⟨r,e,?_,?_⟩,λd=> ?_⟩
   .rw[g0,List.take_append,show m- (dY r).length=0 by omega];simp
   .rw[iJ];omega
   .rw[iJ,show min m (dY r).length=m by omega]
   .rw[g0,dq]at d;omega
def aCO{a:G Int}{b:Int}(f:u5 a b): ∀(rs:List bm) (c j:List Int) (d:Nat) (o:G bm),(∀r∈rs,hK r)->a.B=c++(rs.flatMap dY++j)->(j=[]\/ ∃r,hK r/\j.length<(dY r).length/\j=(dY r).take j.length)->rs.length<d->
  ∃n,a6 (λr y=>w6 r y/\kK y) rs n/\(nG a b d (c.length:Int) o).1=((c.length+(rs.flatMap dY).length:Nat):Int)/\(nG a b d (c.length:Int) o).2.B=o.B++n:=by
 intro rs
 induction rs with
 |nil=>
  intro c j d o _ g t k;obtain⟨d,rfl⟩: ∃q,d=q+1:=⟨d-1,by rw[fs]at k;omega⟩;obtain⟨u,K,hp⟩:=zw (a:=a) (b:=b) f.s.1 f.s.2 f.n;have z:a.n=c.length+j.length:=by rw[<-bc,g];simp
  have H:=f.n;refine⟨[],trivial,?_⟩;have stop:nG a b (d+1) (c.length:Int) o=((c.length:Int),o):=by
   rw[nG,u,E ((c.length:Int)+3)]
   by_cases w:(c.length:Int)+3<=(a.n:Int)
   .rcases t with rfl|⟨r,m,O,F⟩
    .rw[fs]at z;omega
    .have e:=xy m;have v:eG (G.part a (c.length:Int) (a.n:Int))=((fg r).length:Int):=by
      have B:(G.part a (c.length:Int) (a.n:Int)).B=eV ((fg r).length:Int)++(fg r).take (j.length-3):=by
       rw[uV (a:=c) (l:=j) (by rw[g];rfl) rfl];have A:(eV ((fg r).length:Int)).length=3:=rfl;refine F.trans ?_;unfold dY;rw[List.take_append,A,List.take_of_length_le (by rw[A];omega)]
      exact Dp (s:=G.part a (c.length:Int) (a.n:Int)) (λi=>f.u _) B Ω
     rw[v,bM w,aR,E ((c.length:Int)+3+_),bM Ω,aR]
   .rw[bj w,aX]
  rw[stop];exact⟨by simp,(im _).symm⟩
 |cons r rs J=>
  intro c j d o h g t k;obtain⟨d,rfl⟩: ∃q,d=q+1:=⟨d-1,by rw[dy]at k;omega⟩;rw[dy]at k;obtain⟨u,K,hp⟩:=zw (a:=a) (b:=b) f.s.1 f.s.2 f.n;have m:=h r (List.mem_cons_self ..);have e:=xy m;have H:=f.n;have p:a.B=c++(eV ((fg r).length:Int)++(fg r++(rs.flatMap dY++j))):=by
   rw[g,g0];unfold dY;simp only[fk]
  have z:a.n=c.length+(3+((fg r).length+((rs.flatMap dY).length+j.length))):=by
   rw[<-bc,p];simp only[dq];rfl
  have v:eG (G.part a (c.length:Int) (a.n:Int))=((fg r).length:Int):=Dp (s:=G.part a (c.length:Int) (a.n:Int)) (λi=>f.u _) (uV (a:=c) p rfl) Ω;have f_:(G.part a ((c.length:Int)+3) ((c.length:Int)+3+((fg r).length:Int))).B=fg r:=by
   rw[l0 _ _ _ Ω Ω Ω,p,<-fk c,show((c.length:Int)+3).toNat=(c++eV ((fg r).length:Int)).length by rw[dq];show _=c.length+3;omega,List.drop_left,show((c.length:Int)+3+((fg r).length:Int)- ((c.length:Int)+3)).toNat=(fg r).length by omega,List.take_left]
  obtain⟨C,D,d3⟩:=aCP m (s:=G.part a ((c.length:Int)+3) ((c.length:Int)+3+((fg r).length:Int))) (λi=>f.u _) f_;obtain⟨n,L,M,N⟩:=J (c++dY r) j d (G.app o (G.lit [dec (G.part a ((c.length:Int)+3) ((c.length:Int)+3+((fg r).length:Int)))])) (λx I=>h x (List.mem_cons_of_mem _ I)) (by rw[g,g0];simp only[fk]) t Ω;have step:nG a b (d+1) (c.length:Int) o=nG a b d ((c++dY r).length:Int) (G.app o (G.lit [dec (G.part a ((c.length:Int)+3) ((c.length:Int)+3+((fg r).length:Int)))])):=by
   rw[nG,u,v,E ((c.length:Int)+3),bM Ω,aR,E ((c.length:Int)+3+_),bj Ω,aX,C,E (3+((fg r).length:Int)),E ((c.length:Int)+(3+((fg r).length:Int)))];rw[show(c.length:Int)+(3+((fg r).length:Int))=((c++dY r).length:Int) by rw[dq,e.1];omega];rfl
  rw[step];refine⟨_::n,⟨⟨D,d3⟩,L⟩,?_,?_⟩
  .rw[M,dq,g0,dq,qQ]
  .rw[N,iL,iq,fk];rfl
def nq:Int->Int->List R->Prop
 |_,_,[]=>True
 |t,u,x::l=>mG x/\t<=x.q/\u<=x.F/\nq x.q x.F l
structure iZ (j lt:Int) (l:List R):Prop where
 b:0<=j
 t:0<=lt/\lt<=1048576
 z:j=0↔lt=0
 n:l.length<=200/\j+(l.length:Int)<=1048576
 c:nq lt 0 l
def q3{α:Type}{s:G α}{i:Nat}{x:α}(a:s.B[i]? =some x):s.at' i=x:=by
 have b:i<s.n:=by rw[<-bc s];exact(il.1 a).1
 rw[hz s b]at a;exact jM a
def Wg{s:G R}(l:s.n<=200): ∀(m i d:Nat) (t u:Int),i+m=s.n->m<d->((qc s d t u (i:Int)).1=false↔nq t u (s.B.drop i))/\((qc s d t u (i:Int)).1=true->(qc s d t u (i:Int)).2=13)
 |0,i,d+1,t,u,k,_=>by
  rw[qc,bj Ω,aX,List.drop_eq_nil_of_le (by rw[bc];omega)];exact⟨⟨λ_=>trivial,λ_=>rfl⟩,λh=>by cases h⟩
 |m+1,i,d+1,t,u,k,o=>by
  have f:i<s.B.length:=by rw[bc];omega
  have q:s.at' (toNat (i:Int))=s.B[i]:=q3 (i:=i) (cM f);rw[qc,bM Ω,aR,qR f];have j:vS s t u (i:Int)=false↔mG s.B[i]/\t<=s.B[i].q/\u<=s.B[i].F:=by
   unfold vS;rw[q];constructor
   .intro h;obtain⟨a,h⟩:=c2 h;obtain⟨b,c⟩:=c2 h;have:=df b;have:=df c;exact⟨bK a,Ω,Ω⟩
   .rintro⟨a,b,c⟩
    have a:fc s.B[i].q s.B[i].F s.B[i].z s.B[i].M s.B[i].w s.B[i].C s.B[i].P s.B[i].aw s.B[i].f s.B[i].aD=0:=a;rw[a,bj Ω,bj Ω];rfl
  cases e:vS s t u (i:Int)with
  |true=>
   refine⟨⟨(λh=>by cases h),λh=> ?_⟩,λ_=>rfl⟩;have:=j.2 ⟨h.1,h.2.1,h.2.2.1⟩;rw[e]at this;cases this
  |false=>
   obtain⟨a,b,c⟩:=j.1 e;simp only[aX];rw[q,E ((i:Int)+1),show(i:Int)+1=((i+1:Nat):Int) by omega];obtain⟨g,n⟩:=Wg l m (i+1) d s.B[i].q s.B[i].F Ω Ω;exact⟨⟨λh=>⟨a,b,c,g.1 h⟩,λh=>g.2 h.2.2.2⟩,n⟩
def mY{i f:Int}{s:G R} :cE i f s=0↔iZ i f s.B:=by
 constructor
 .intro h;obtain⟨a,b,c,d⟩:=fb _ _ _ h;unfold cE at h;obtain⟨m,h⟩:=dv h Δ;unfold o8 at m;obtain⟨_,m⟩:=c2 m;obtain⟨p,m⟩:=c2 m;obtain⟨q,m⟩:=c2 m;obtain⟨n,m⟩:=c2 m;have:=df p;have:=df q;have l:=Wg c s.n 0 ((toNat ((s.n:Int)-0))+1) f 0 Ω Ω;refine⟨a.1,⟨Ω,Ω⟩,?_,⟨by rw[bc];exact c,by rw[bc];exact d⟩,?_⟩
  .by_cases g:i=0<;>by_cases j:f=0
   .exact⟨λ_=>j,λ_=>g⟩
   .rw[iK.2 g,fl.2 j]at n;cases n
   .rw[fl.2 g,iK.2 j]at n;cases n
   .exact⟨λx=>absurd x g,λx=>absurd x j⟩
  .cases e:(B7 f s).1 with
   |false=>exact l.1.1 e
   |true=>
    unfold LY at h;rw[e]at h;have k:(B7 f s).2=13:=l.2 e;rw[k]at h;cases h
 .intro h;have o:s.n<=200:=by rw[<-bc];exact h.n.1
  have t:i+(s.n:Int)<=1048576:=by rw[<-bc];exact h.n.2
  have l:=(Wg o s.n 0 ((toNat ((s.n:Int)-0))+1) f 0 Ω Ω).1.2 h.c;have r:=h.b;have u:=h.t;have m:o8 i f s=false:=by
   unfold o8;have z:(!((i==0)==(f==0)))=false:=by
    by_cases g:i=0
    .rw[iK.2 g,iK.2 (h.z.1 g)];rfl
    .rw[fl.2 g,fl.2 λx=>g (h.z.2 x)];rfl
   rw[bj Ω,bj Ω,bj Ω,z,bj Ω,E (1048576- (s.n:Int)),bj Ω];rfl
  unfold cE LY;rw[m,show(B7 f s).1=false from l];rfl
def ao7{t t' u a:Int}(b:t'<=t)(c:a<=u): ∀{l:List R},nq t u l->nq t' a l
 |[],_=>trivial
 |_::_,h=>⟨h.1,by have:=h.2.1;omega,by have:=h.2.2.1;omega,h.2.2.2⟩
def aaT{t u:Int} : ∀{l:List R} (k:Nat),nq t u l->nq t u (l.take k)
 |_,0,_=>by rw[List.take_zero];trivial
 |[],_+1,_=>trivial
 |_::_,k+1,h=>⟨h.1,h.2.1,h.2.2.1,aaT k h.2.2.2⟩
def aaR{t u:Int} : ∀{l:List R} (k:Nat) {x:R},nq t u l->l[k]? =some x->nq x.q x.F (l.drop (k+1))/\mG x/\t<=x.q
 |y::l,0,x,h,d=>by
  rw[List.getElem?_cons_zero]at d;obtain rfl:=jM d;exact⟨h.2.2.2,h.1,h.2.1⟩
 |y::l,k+1,x,h,d=>by
  rw[List.getElem?_cons_succ]at d;obtain⟨a,b,c⟩:=aaR k h.2.2.2 d;exact⟨a,b,Int.le_trans h.2.1 c⟩
structure e2 where
 ao:Int
 b3:Int
 bR:Int
 j:Int
 lt:Int
 li:List R
def kH(a b:Int)(l:List R)(i:Int):Option Int:=if i<a then none else if i=a then some b else(l[(i-a-1).toNat]?).map (·.q)
def fJ(c:e2)(r:bm):e2:=if r.q=1 then {c with ao:=r.F,b3:=r.z} else if r.q=2 then(if r.M<=c.j then c else {c with li:=c.li.take (r.M-c.j-1).toNat++[jH r]})else if r.bb>c.bR then {c with bR:=r.bb,j:=r.bb,lt:=r.cO,li:=if kH c.j c.lt c.li r.bb=some r.cO then c.li.drop (r.bb-c.j).toNat else[]} else c
def u2(c:e2)(r:bm):Prop:=r.q=2->r.M<=c.j\/(r.M<=c.j+(c.li.length:Int)+1/\iZ c.j c.lt (c.li.take (r.M-c.j-1).toNat++[jH r]))
def jt:e2->List bm->e2->Prop
 |c,[],d=>c=d
 |c,r::rs,d=>u2 c r/\jt (fJ c r) rs d
def ai4: ∀{rs:List bm} {c d:e2} {r:bm},jt c rs d->u2 d r->jt c (rs++[r]) (fJ d r)
 |[],c,d,r,h,k=>by
  have h:c=d:=h;subst h;exact⟨k,rfl⟩
 |_::_,_,_,_,h,k=>⟨h.1,ai4 h.2 k⟩
def aja: ∀{rs:List bm} {c d:e2} (k:Nat),jt c rs d-> ∃a,jt c (rs.take k) a
 |[],c,d,_,_=>⟨c,by rw[List.take_nil];rfl⟩
 |_::_,c,_,0,_=>⟨c,by rw[List.take_zero];rfl⟩
 |_::_,_,_,k+1,h=>by
  obtain⟨a,e⟩:=aja k h.2;exact⟨a,h.1,e⟩
def sy(c:e2):Prop:=iZ c.j c.lt c.li
def ajw{c:e2}{r:bm}(h:sy c)(i:kK r)(g:u2 c r):sy (fJ c r):=by
 unfold fJ;rcases uA i with⟨k,a,b,e⟩|⟨k,a,b⟩|⟨k,a,b,e⟩
 .rw[a5 k];exact h
 .rw[aS Ω,a5 k]
  by_cases z:r.M<=c.j
  .rw[a5 z];exact h
  .rw[aS z];exact((g k).resolve_left z).2
 .rw[aS Ω,aS Ω]
  by_cases z:r.bb>c.bR
  .rw[a5 z]
   by_cases t:kH c.j c.lt c.li r.bb=some r.cO
   .show iZ r.bb r.cO (if kH c.j c.lt c.li r.bb=some r.cO then _ else _);rw[a5 t];unfold kH at t;have m:=h.n
    by_cases d:r.bb<c.j
    .rw[a5 d]at t;cases t
    rw[aS d]at t;have n:((c.li.drop (r.bb-c.j).toNat).length:Int)+r.bb<=c.j+(c.li.length:Int)\/(c.li.drop (r.bb-c.j).toNat).length=0:=by rw[pB];omega
    refine⟨Ω,Ω,⟨λq=>by omega,λq=>by omega⟩,⟨by rw[pB];omega,Ω⟩,?_⟩
    by_cases f:r.bb=c.j
    .rw[a5 f]at t;rw[show(r.bb-c.j).toNat=0 by omega,List.drop_zero,<-jM t];exact h.c
    .rw[aS f]at t;obtain⟨x,j,e⟩:=mC.1 t;obtain⟨q1,l,_⟩:=aaR _ h.c j;rw[show(r.bb-c.j-1).toNat+1=(r.bb-c.j).toNat by omega,e]at q1;have:=(zB l).1.2.1;exact ao7 (aZ _) this q1
   .show iZ r.bb r.cO (if kH c.j c.lt c.li r.bb=some r.cO then _ else _);rw[aS t];exact⟨Ω,Ω,⟨λq=>by omega,λq=>by omega⟩,⟨by simp,by simp;omega⟩,trivial⟩
  .rw[aS z];exact h
def Ns{a b:Int}{s:G R}(h:iZ a b s.B):ks a b s=a+(s.n:Int):=by
 have d:=h.n;rw[bc]at d;have e:=h.b;unfold ks pU;rw[mY.2 h]
 by_cases c:(s.n:Int)>0
 .rw[bM c];exact E _
 .rw[bj c];show a=a+(s.n:Int);omega
def ajG{a c:Int}{s:G R}(h:iZ a c s.B){i:Int}(g:0<=i/\i<=1048576):(gx a s i=0/\kH a c s.B i=some (h7 a c s i))\/(gx a s i≠0/\kH a c s.B i=none):=by
 have e:=h.n;rw[bc]at e;have f:=h.b;unfold gx h7 kH
 by_cases b:i<a
 .rw[bM b,a5 b];exact .inr ⟨(by decide:(11:Int)≠0),rfl⟩
 rw[bj b,aS b]
 by_cases z:i=a
 .rw[iK.2 z,a5 z];exact .inl ⟨rfl,rfl⟩
 rw[fl.2 z,aS z,E (i-a),E (i-a-1)]
 by_cases d:i-a>(s.n:Int)
 .rw[bM d,eX (by rw[bc];omega)];exact .inr ⟨(by decide:(5:Int)≠0),rfl⟩
 .rw[bj d,hz s (show(i-a-1).toNat<s.n by omega)];exact .inl ⟨rfl,rfl⟩
def UE{a b:Int}{s:G R}(h:iZ a b s.B){i:Int}(c:0<=i/\i<=1048576):hS a b s i=h7 a b s i/\tC a b s i=gx a s i:=by
 unfold hS tC yJ;rw[mY.2 h,bj Ω,bj Ω];exact⟨rfl,rfl⟩
def Yk{d e:Int}{s:G R}(h:iZ d e s.B){i t:Int}(g:0<=i/\i<=1048576):oV d e s i t=i/\td d e s i t=t/\(oW d e s i t).B=if kH d e s.B i=some t then s.B.drop (i-d).toNat else[]:=by
 obtain⟨j,k⟩:=UE h g;have l:=h.n;rw[bc]at l;have n:=h.b;unfold oV td oW oX;rw[j,k];rcases ajG h g with⟨a,b⟩|⟨a,b⟩
 .rw[a,b]
  by_cases c:h7 d e s i=t
  .rw[a5 (by rw[c])];unfold qe B_ rJ;rw[mY.2 h,a,iK.2 c,c];refine⟨rfl,rfl,?_⟩;have o:d<=i/\i<=d+(s.n:Int):=by
    unfold kH at b
    by_cases f:i<d
    .rw[a5 f]at b;cases b
    rw[aS f]at b
    by_cases z:i=d
    .omega
    rw[aS z]at b;obtain⟨x,m,_⟩:=mC.1 b;have:=(il.1 m).1;rw[bc]at this;omega
   show(G.part s (i64 (i-d)) (s.n:Int)).B=_;rw[E (i-d),l0 _ _ _ Ω Ω Ω,List.take_of_length_le (by rw[pB,bc];omega)]
  .rw[aS (λq=>c (jM q)),fl.2 c];exact⟨rfl,rfl,rfl⟩
 .rw[b,aS (by intro q;cases q),fl.2 a];exact⟨rfl,rfl,rfl⟩
def pk(i j:Nat)(ms:aj):aj:=⟨(j:Int),(i:Int),ms.z,ms.M,ms.w,ms.C,ms.P,ms.aw,ms.f,ms.aD,ms.bX,ms.b_,ms.b2,ms.cm,ms.bb⟩
def RJ(i j:Nat)(ms:aj)(s:H)(L:G aj)(ah:G bF)(au:G aU):H:=
 H.bif (ms.z==1) (vD (pk i j ms) s) (H.bif (ms.z==2) (H.bif (cond (s.ro==1) (ms.M==(i64 (s.ao+1))) false) (H.bif (kq (H.kF j s)) (mg (H.kF j s)) (H.kF j s)) s)
  (H.bif (decide (ms.M<s.ao)) (H.bif (ms.z !=8) (rq (j:Int) s) s) (H.bif (ms.z==3) (p6 (pk i j ms) s) (H.bif (ms.z==4) (H.bif (s.ro==2) (H.bif (kq (H.kF j s)) (tq (H.kF j s)) (H.kF j s)) s)
   (H.bif (ms.z==5) (k4 (pk i j ms) (jX s) L ah au) (H.bif (ms.z==7) (k6 (pk i j ms) (jX s)) (H.bif (ms.z==6) (H.bif (s.ro==3) (vG (pk i j ms) s L ah au) s) s)))))))
section
variable {i j:Nat} {ms:aj} {d s:H} {L:G aj} {ah:G bF} {au:G aU}
def apm:rp i j ms d L ah au=H.bif (!d.up) d (H.bif (tn ms d) (RJ i j ms (fv ms d) L ah au) (ez ms.M (-1) d)):=rfl
def NG{a b:Int}(h:lI a b d=false):ez a b d=d:=by
 unfold lI at h;unfold ez K9 TU
 cases e:gn (⟨1,a,b,0,0,0,false,0,0,0,⟨#[]⟩,⟨#[]⟩,⟨#[]⟩,0,0,0,0,(B:G N),0,(B:G ar)⟩:bm) d with
 |true=>rw[e]at h;cases h
 |false=>
  have f:=e;unfold gn at f;have k: ∀c:Bool,(cond c false true)=false->c=true:=λc=>by cases c<;>simp
  have c:=k _ f;unfold fO vK Gi;simp only[Bool.not_false,aR];rw[c];rfl
def Ww{a b:Int}(h:lI a b d=true):(ez a b d).ao=a:=by
 unfold lI at h;unfold ez K9
 cases e:gn (⟨1,a,b,0,0,0,false,0,0,0,⟨#[]⟩,⟨#[]⟩,⟨#[]⟩,0,0,0,0,(B:G N),0,(B:G ar)⟩:bm) d with
 |true=>rfl
 |false=>rw[e]at h;cases h
def aDU(j:Nat)(n:H):(H.kF j n).ao=n.ao/\(H.kF j n).ro=n.ro/\(H.kF j n).up=n.up/\Dr (H.kF j n)=Dr n/\H.kF j (H.kF j n)=H.kF j n:=by
 match j with
 |0=>exact⟨rfl,rfl,rfl,rfl,rfl⟩
 |1=>exact⟨rfl,rfl,rfl,rfl,rfl⟩
 |_+2=>exact⟨rfl,rfl,rfl,rfl,rfl⟩
def aju(n:H):mg n=n\/(mg n).ro=2:=by
 unfold mg
 cases e:tp n with
 |false=>exact .inr (by rw[H.eY];rfl)
 |true=>
  refine .inl ?_;rw[H.eY,aR];unfold tp at e;unfold mX Le TX F4 TY
  cases c:(n.ao==1048576)with
  |true=>rfl
  |false=>
   rw[c,aX]at e;have m:=NG (d:=n) (a:=i64 (n.ao+1)) (b:=n.bf) (by simpa using e);simp only[aX];rw[m]
end
def aa9(r:G bm)(t:G Int)(s:Int)(d:H):H:={d with bf:=(xY d.bf),up:=TG,ro:=x8,ao:=(FQ (AT r)),b3:=(FR (AU r)),j:=(FT (pO r)),lt:=(FU (xF r)),li:=(FV (ra r)),bR:=(FW (nH r)),eU:=(FD (AV r)),fI:=(FE (xC r)),fi:=(FF (xD r)),gK:=(FG (ED r)),fh:=(FH (xE r)),ep:=(FI (xC r)),dn:=(FJ (xD r)),e1:=(FK (ED r)),er:=(FL (xE r)),co:=(FM (nH r)),v0:=xZ,v1:=x0,v2:=x1,dO:=x2,dD:=x3,dG:=x4,hq:=x5,q1:=x6,fQ:=x7,ws:=(B:G hc),a_:=t,br:=s,bd:=(B:G aj)}
def apw(x:Int)(n:H):hF x n=aa9 (vf (qb n.a_ n.br x) (vR n.a_ n.br x)) (xB (qb n.a_ n.br x) (vR n.a_ n.br x)) (EC (qb n.a_ n.br x) (vR n.a_ n.br x)) n:=rfl
def aBs{l:List a7}(h: ∀a∈l,jN a)(c:l.length<=3000):lZ (G.lit l):=by
 refine⟨c,λq b=>h _ ?_⟩;have b:q<l.length:=b;show l.getD q default∈l;rw[DD,cM b,lY];exact j8 b
def aDM{A:G bm}{i:Int}{c:e2}{r y:bm}{v:G R}(s:A.at' (toNat i)=y)(o:w6 r y)(w:kK y)(u:kK r)(d:v.B=c.li)(n:sy c)(p:u2 c r):
  pP A i c.j c.lt v=true/\Sj A i c.ao=(fJ c r).ao/\Sk A i c.b3=(fJ c r).b3/\EE A i c.bR=(fJ c r).bR/\Sl A i c.bR c.lt=(fJ c r).lt/\vh A i c.bR c.j c.lt v=(fJ c r).j/\AW A i c.bR c.j c.lt v=(fJ c r).lt/\(vg A i c.bR c.j c.lt v).B=(fJ c r).li:=by
 obtain⟨j,H,I,J⟩:=o;have L:iZ c.j c.lt v.B:=by rw[d];exact n
 have m:(fA y.q y.F y.z y.M y.w y.C y.P y.aw y.f y.aD y.bX y.b_ y.b2 y.cm y.bb y.cO y.eK y.ek y.eL y.en !=0)=false:=by rw[show fA y.q y.F y.z y.M y.w y.C y.P y.aw y.f y.aD y.bX y.b_ y.b2 y.cm y.bb y.cO y.eK y.ek y.eL y.en=0 from w];rfl
 unfold pP Sj Sk EE Sl vh AW vg fJ;rw[s,m];rcases uA u with⟨k,a,b,e⟩|⟨k,a,b⟩|⟨k,a,b,e⟩
 .obtain⟨f,h⟩:=H k;rw[a5 k,j,k];exact⟨rfl,f,h,rfl,rfl,rfl,rfl,d⟩
 .obtain⟨f,h⟩:=I k;have it:(⟨y.w,y.C,y.P,y.aw,y.f,y.aD,y.bX,y.b_,y.b2,y.cm⟩:R)=jH r:=h;have q:=L.n;rw[bc]at q;have N:=L.b;rw[aS Ω,a5 k,j,k];have C:EH c.j c.lt v y.M y.w y.C y.P y.aw y.f y.aD y.bX y.b_ y.b2 y.cm=0/\(xG c.j c.lt v y.M y.w y.C y.P y.aw y.f y.aD y.bX y.b_ y.b2 y.cm).B=(if r.M<=c.j then c else {c with li:=c.li.take (r.M-c.j-1).toNat++[jH r]}).li:=by
   unfold EH xG;rw[it,f,Ns L]
   by_cases z:r.M<=c.j
   .rw[bM z,a5 z];exact⟨rfl,d⟩
   .obtain⟨K,M⟩:=(p k).resolve_left z;rw[<-d,bc]at K;have l:(G.app (G.part v 0 (i64 ((i64 (r.M-c.j))-1))) (G.lit ([jH r]:List R))).B=c.li.take (r.M-c.j-1).toNat++[jH r]:=by
     rw[E (r.M-c.j),E (r.M-c.j-1),iL,iq,l0 _ _ _ Ω Ω Ω,<-d];rw[show(r.M-c.j-1-0).toNat=(r.M-c.j-1).toNat by omega];rfl
    have g:cE c.j c.lt (G.app (G.part v 0 (i64 ((i64 (r.M-c.j))-1))) (G.lit ([jH r]:List R)))=0:=mY.2 (by rw[l];exact M);rw[bj z,aS z,g,E (c.j+(v.n:Int)+1),bj Ω];exact⟨rfl,l⟩
  obtain⟨x,B⟩:=C;rw[x];refine⟨rfl,?_,?_,?_,?_,?_,?_,B⟩<;>by_cases z:r.M<=c.j<;>first|rw[a5 z];rfl|rw[aS z];rfl
 .obtain⟨f,h⟩:=J k;obtain⟨D,q1,F⟩:=Yk L (i:=r.bb) (t:=r.cO) Ω;rw[aS Ω,aS Ω,j,k,f,h]
  by_cases z:r.bb>c.bR
  .rw[a5 z,bM z];refine⟨rfl,rfl,rfl,rfl,rfl,D,q1,?_⟩;show(oW c.j c.lt v r.bb r.cO).B=if kH c.j c.lt c.li r.bb=some r.cO then _ else _
   rw[F,d]
  .rw[aS z,bj z];exact⟨rfl,rfl,rfl,rfl,rfl,rfl,rfl,d⟩
def aqL{A:G bm}(P:A.n<=549755813888): ∀(rs:List bm) (i a:Nat) (c d:e2) (h:Int) (j:G N) (k:Int) (l:G ar) (v:G R),i+rs.length=A.n->rs.length<a->a6 (λr y=>w6 r y/\kK y) rs (A.B.drop i)->sy c->v.B=c.li->jt c rs d->(∀r∈rs,kK r)->
  ∃(K:Int) (L:G N) (M:Int) (O:G ar) (w:G R),s3 A a (i:Int) c.ao c.b3 c.bR c.lt h j k l c.j c.lt v=(false,d.ao,d.b3,d.bR,d.lt,K,L,M,O,d.j,d.lt,w,default,default,default,default,default,default,default,default,default,default,default,default)/\w.B=d.li/\sy d:=by
 intro rs
 induction rs with
 |nil=>
  intro i a c d h j k l v m g _ e n b _;obtain⟨a,rfl⟩: ∃q,a=q+1:=⟨a-1,by rw[fs]at g;omega⟩;have b:c=d:=b;subst b;rw[fs]at m;rw[s3,bj Ω];exact⟨h,j,k,l,v,rfl,n,e⟩
 |cons r rs z=>
  intro i a c d h j k l v m g f e n b s;obtain⟨a,rfl⟩: ∃q,a=q+1:=⟨a-1,by rw[dy]at g;omega⟩;rw[dy]at m g;have t:i<A.B.length:=by rw[bc];omega
  rw[qR t]at f;have q:A.at' (toNat (i:Int))=A.B[i]:=q3 (i:=i) (cM t);have o:=s r (List.mem_cons_self ..);obtain⟨p,B,F,H,I,J,C,D⟩:=aDM q f.1.1 f.1.2 o n e b.1;rw[s3,bM Ω,aR,p,aR,E ((i:Int)+1),B,F,H,I,J,C,show(i:Int)+1=((i+1:Nat):Int) by omega];exact z (i+1) a (fJ c r) d _ _ _ _ _ Ω Ω f.2 (ajw e o b.1) D b.2 λx u=>s x (List.mem_cons_of_mem _ u)
def nx:e2:=⟨0,-1,0,0,0,[]⟩
def ahe:sy nx:=⟨aZ _,Δ,⟨λ_=>rfl,λ_=>rfl⟩,Δ,trivial⟩
def core(n:H):e2:=⟨n.ao,n.b3,n.bR,n.j,n.lt,n.li.B⟩
def aqN{A:G bm}(j:A.n<=549755813888){rs:List bm}{d:e2}(g:a6 (λr y=>w6 r y/\kK y) rs A.B)(k:jt nx rs d)(i: ∀r∈rs,kK r):
  AT A=d.ao/\AU A=d.b3/\nH A=d.bR/\AV A=d.lt/\pO A=d.j/\xF A=d.lt/\(ra A).B=d.li/\sy d/\lC A=true:=by
 have l:rs.length=A.n:=by
  have n: ∀(f c:List bm),a6 (λr y=>w6 r y/\kK y) f c->f.length=c.length:=by
   intro f
   induction f with
   |nil=>intro c h;cases c with|nil=>rfl|cons _ _=>exact h.elim
   |cons a f m=>intro c h;cases c with|nil=>exact h.elim|cons b c=>rw[dy,dy,m c h.2]
  rw[n _ _ g,bc]
 obtain⟨o,p,q,s,w,e,b,L⟩:=aqL j rs 0 ((toNat ((A.n:Int)-0))+1) nx d vN vO vP vQ B Ω Ω (by rw[List.drop_zero];exact g) ahe rfl k i;have r:e4 A=(false,d.ao,d.b3,d.bR,d.lt,o,p,q,s,d.j,d.lt,w,default,default,default,default,default,default,default,default,default,default,default,default):=e;unfold AT AU nH AV pO xF ra lC;rw[r];exact⟨rfl,rfl,rfl,rfl,rfl,rfl,b,L,rfl⟩
structure Ad (n:H):Prop where
 t:u5 n.a_ n.br
 r: ∃rs,(∀r∈rs,hK r)/\n.a_.B=rs.flatMap dY/\jt nx rs (core n)
def Ad.log{n:H}(h:Ad n):iZ n.j n.lt n.li.B:=by
 obtain⟨rs,a,i,b⟩:=h.r;have g: ∀(rs:List bm) (c d:e2),(∀r∈rs,hK r)->sy c->jt c rs d->sy d:=by
  intro rs
  induction rs with
  |nil=>intro c d _ L h;have h:c=d:=h;subst h;exact L
  |cons r rs f=>intro c d k L h;exact f _ _ (λx e=>k x (List.mem_cons_of_mem _ e)) (ajw L (k r (List.mem_cons_self ..)).c h.1) h.2
 exact g rs nx (core n) a ahe b
def ag_: ∀{rs:List bm},(∀r∈rs,hK r)->rs.length<=(rs.flatMap dY).length
 |[],_=>cp _
 |r::rs,h=>by
  have n:=xy (h r (List.mem_cons_self ..));have:=ag_ (rs:=rs) λx a=>h x (List.mem_cons_of_mem _ a);rw[g0,dq,dy];omega
def apx{n:H}(iU:u5 n.a_ n.br){rs:List bm}(A: ∀r∈rs,hK r)(Z:n.a_.B=rs.flatMap dY)(fe:jt nx rs (core n)){x:Int}(j0:0<=x): ∃k,(u5 (hF x n).a_ (hF x n).br/\(hF x n).a_.B=(rs.take k).flatMap dY/\jt nx (rs.take k) (core (hF x n)))/\(hF x n).eU=(hF x n).lt/\ ∃a b c d,(hF x n).ep=rN (jE a b c d)/\(hF x n).dn=rO (jE a b c d)/\(hF x n).er=rP (jE a b c d):=by
 obtain⟨wc,fP,aDi,s1⟩:=iU;obtain⟨D,F,hp⟩:=zw (a:=n.a_) (b:=n.br) aDi s1 fP;obtain⟨z,u,aE7,O,P⟩: ∃z:Int,0<=z/\z<=(n.a_.n:Int)/\qb n.a_ n.br x=G.part n.a_ 0 z/\vR n.a_ n.br x=z:=by
  have i:=lP x (i64 ((n.a_.n:Int)-n.br));rw[E ((n.a_.n:Int)-n.br)]at i;refine⟨n.br+ff x ((n.a_.n:Int)-n.br),Ω,Ω,?_,?_⟩
  .unfold qb;rw[D,F,hp,bj Ω,E ((n.a_.n:Int)-n.br),E (n.br+ff x ((n.a_.n:Int)-n.br))];rfl
  .unfold vR;rw[D,F,hp,bj Ω,E ((n.a_.n:Int)-n.br),E (n.br+ff x ((n.a_.n:Int)-n.br))];rfl
 rw[apw,O,P];have hG:z.toNat<=n.a_.n:=by omega
 have fy:(G.part n.a_ 0 z).B=(rs.flatMap dY).take z.toNat:=by
  rw[l0 _ _ _ (aZ _) u aE7,Z,show(z-0).toNat=z.toNat by omega];rfl
 have K:(((G.part n.a_ 0 z).n:Nat):Int)=z:=aCl n.a_ u;have m:aK (G.part n.a_ 0 z):=λi=>wc _;generalize G.part n.a_ 0 z=a at fy K m |-;obtain⟨k,j,hn,s,j1,_⟩:=abf rs z.toNat A;have p: ∀r∈rs.take k,hK r:=λr q=>A r (List.mem_of_mem_take q);have T:u5 a z:=⟨m,Ω,u,Ω⟩;have aFq:((rs.take k).flatMap dY).length+j.length=a.n:=by rw[<-bc,fy,s,dq]
 have aqD:=ag_ p;obtain⟨e,J,g,l⟩:=aCO T (rs.take k) [] j ((toNat ((a.n:Int)-0))+1) B p (by rw[fy,s];rfl) j1 Ω;obtain⟨I,dG,t⟩:=zw (a:=a) (b:=z) T.s.1 T.s.2 T.n;have Q:mR a z=nG a z ((toNat ((a.n:Int)-0))+1) ((([]:List Int).length:Nat):Int) B:=by unfold mR;rw[I];rfl
 rw[<-Q]at g l;have L:vf a z=(mR a z).2:=by unfold vf;rw[t];rfl
 have M:xB a z=G.part a 0 (mR a z).1:=by unfold xB;rw[t,I];rfl
 have N:EC a z=(mR a z).1:=by
  unfold EC;rw[t,dG];have:=lP z (mR a z).1;rw[fs]at g;show ff z (mR a z).1=_;omega
 rw[L,M,N];generalize mR a z=R at g l |-;rw[fs,db]at g;rw[show(B:G bm).B=[]from rfl,qP]at l;obtain⟨v,C⟩:=aja k fe;have aC4:R.2.n<=549755813888:=by
  have key: ∀(f e:List bm),a6 (λr y=>w6 r y/\kK y) f e->f.length=e.length:=by
   intro f
   induction f with
   |nil=>intro e h;cases e with|nil=>rfl|cons _ _=>exact h.elim
   |cons a f om=>intro e h;cases e with|nil=>exact h.elim|cons b e=>rw[dy,dy,om e h.2]
  have:=key _ _ J;rw[<-bc,l,<-this];omega
 obtain⟨S,U,V,Y,W,w,X,_,o⟩:=aqN aC4 (by rw[l];exact J) C λr q=>(p r q).c;have aub:core (aa9 R.2 (G.part a 0 R.1) R.1 n)=v:=by
  show(⟨AT R.2,AU R.2,nH R.2,pO R.2,xF R.2,(ra R.2).B⟩:e2)=v;rw[S,U,V,W,w,X]
 have gp:(G.part a 0 R.1).B=(rs.take k).flatMap dY:=by
  rw[l0 _ _ _ (aZ _) Ω Ω,fy,s,g,show(0:Int).toNat=0 from rfl,List.drop_zero,show((((rs.take k).flatMap dY).length:Nat)- (0:Int)).toNat=((rs.take k).flatMap dY).length by omega,List.take_left]
 have aGV:(G.part a 0 R.1).n=((rs.take k).flatMap dY).length:=by rw[<-bc,gp]
 refine⟨k,⟨⟨λi=>m _,?_,?_,?_⟩,gp,by rw[aub];exact C⟩,?_,?_⟩
 .show(G.part a 0 R.1).n<=400000;omega
 .show 0<=R.1;omega
 .show R.1<=(((G.part a 0 R.1).n:Nat):Int);omega
 .show AV R.2=xF R.2;rw[Y,w]
 .refine⟨(e4 R.2).2.2.2.2.2.1,(e4 R.2).2.2.2.2.2.2.1,(e4 R.2).2.2.2.2.2.2.2.1,(e4 R.2).2.2.2.2.2.2.2.2.1,?_,?_,?_⟩
  .show xC R.2=_;unfold xC;rw[o];rfl
  .show xD R.2=_;unfold xD;rw[o];rfl
  .show xE R.2=_;unfold xE;rw[o];rfl
section
variable {A g:Int} {r:G R} {h o:Int} {c:G R}
def iy(A:Int)(r:G R)(h:Int)(c:G R)(w:Int):G R:=G.app (G.part r 0 (cv A h c-A+w)) (G.part (dC A h c) w (((dC A h c).n:Nat):Int))
def abg{w:Int}(a:0<=cv A h c-A+w)(b:0<=w/\w<=((dC A h c).n:Int)):(((iy A r h c w).n:Nat):Int)=cv A h c-A+((dC A h c).n:Int):=by
 show(((cv A h c-A+w-0).toNat+(((dC A h c).n:Int)-w).toNat:Nat):Int)=_;omega
end
abbrev aiD(a b:Int):bm:=⟨1,a,b,0,0,0,false,0,0,0,⟨#[]⟩,⟨#[]⟩,⟨#[]⟩,0,0,0,0,B,0,B⟩
abbrev wH(v:Int)(x:R):bm:=⟨2,0,0,v,x.q,x.F,x.z,x.M,x.w,x.C,x.P,x.aw,x.f,x.aD,0,0,0,B,0,B⟩
abbrev wI(i t a:Int)(b:G N)(c:Int)(d:G ar):bm:=⟨3,0,0,0,0,0,false,0,0,0,⟨#[]⟩,⟨#[]⟩,⟨#[]⟩,0,i,t,a,b,c,d⟩
def oM:dA (B:G N):=⟨cp _,λi a=>absurd a (eD _)⟩
def oL:eH (B:G ar):=⟨cp _,λi a=>absurd a (eD _)⟩
def ai8: ∀{rs:List bm} {c d:e2},c.bR=c.j->jt c rs d->d.bR=d.j
 |[],c,d,e,h=>by
  have h:c=d:=h;subst h;exact e
 |r::rs,c,d,e,h=>by
  refine ai8 (c:=fJ c r) ?_ h.2;unfold fJ
  by_cases a:r.q=1
  .rw[a5 a];exact e
  rw[aS a]
  by_cases b:r.q=2
  .rw[a5 b]
   by_cases f:r.M<=c.j
   .rw[a5 f];exact e
   .rw[aS f];exact e
  rw[aS b]
  by_cases g:r.bb>c.bR
  .rw[a5 g]
  .rw[aS g];exact e
def Ad.bR{n:H}(h:Ad n):n.bR=n.j:=by
 obtain⟨rs,_,_,a⟩:=h.r;exact ai8 (c:=nx) rfl a
section
variable {A g:Int} {r:G R} {h o:Int} {c:G R}
def ahw(m:0<=A/\A<=1048576)(q:r.n<=200)(o:A<=cv A h c/\cv A h c<=A+(r.n:Int))(n:(dC A h c).n<=200):
  ∀(k:Nat) (v:Int),0<=v->v<=((dC A h c).n:Int)->toNat (((dC A h c).n:Int)-v)<k->cv A h c-A+v<=(r.n:Int)->(m1 A g r h c k v).1=true->(m1 A g r h c k v).2.2.2.2.2.2=0->
   ∃w,v<=w/\w<((dC A h c).n:Int)/\cv A h c-A+w<=(r.n:Int)/\cE A g (iy A r h c w)=0/\(m1 A g r h c k v).2.1=A/\(m1 A g r h c k v).2.2.1=g/\(m1 A g r h c k v).2.2.2.1=iy A r h c w/\(m1 A g r h c k v).2.2.2.2.2.1=cv A h c+w+1
 |0,v,_,_,l,_,_,_=>absurd l (eD _)
 |k+1,v,x,y,t,p,a,b=>by
  rw[m1]at a b |-
  by_cases f:v<((dC A h c).n:Int)
  .rw[bM f]at a b |-;simp only[aR]at a b |-
   cases e:pa A r h c v with
   |true=>
    have u:cv A h c-A+v<(r.n:Int):=by
     unfold pa at e;rw[E (cv A h c-A),E (cv A h c-A+v)]at e
     by_cases d:cv A h c-A+v<(r.n:Int)
     .exact d
     .rw[bj d]at e;cases e
    rw[e]at a b;simp only[aR]at a b |-;rw[E (v+1)]at a b |-;obtain⟨w,s,j⟩:=ahw m q o n k (v+1) Ω Ω Ω Ω a b;exact⟨w,Ω,j⟩
   |false=>
    rw[e]at a b;simp only[aX]at a b |-;rw[E (cv A h c-A),E (cv A h c-A+v),E (cv A h c+v),E (cv A h c+v+1)]at a b |-
    cases i:(cE A g (G.app (G.part r 0 (cv A h c-A+v)) (G.part (dC A h c) v (((dC A h c).n:Nat):Int)))!=0)with
    |true=>
     rw[i]at b;exact absurd b (by decide:(6:Int)≠0)
    |false=>exact⟨v,aZ _,f,p,bK i,rfl,rfl,rfl,rfl⟩
  .rw[bj f]at a
   cases a
def ahz(i:hk A g r h o c=0)(a:dt A g r h o c≠0):
  ∃w,(0<=w/\w<((dC A h c).n:Int))/\(A<=cv A h c/\cv A h c-A+w<=(r.n:Int))/\cE A g (iy A r h c w)=0/\cn A g r h o c=A/\tH A g r h o c=g/\cd A g r h o c=iy A r h c w/\dt A g r h o c=cv A h c+w+1:=by
 unfold hk at i;unfold dt at a |-;unfold cn tH cd
 cases b:(cE A g r !=0)with
 |true=>rw[b]at a;exact absurd rfl a
 |false=>
 cases d:(cE h o c !=0)with
 |true=>rw[b,d]at a;exact absurd rfl a
 |false=>
 cases f:m2 A g r h o c with
 |false=>rw[b,d,f]at a;exact absurd rfl a
 |true=>
 cases e:qf A g r h c with
 |true=>rw[b,d,f,e]at a;exact absurd rfl a
 |false=>
 rw[b,d,f,e]at i;simp only[aX,aR]at i |-;have z:=fb _ _ _ (bK b);have j:=fb _ _ _ (bK d);have k:=f75 A g r h o c f ⟨⟨z.1,z.2.2.1⟩,j.1,j.2.2.1⟩;have t:(pb A g r h c).1=true:=by
  unfold qf at e
  cases q:(pb A g r h c).1 with
  |true=>rfl
  |false=>rw[q]at e;cases e
 obtain⟨w,l,m,n,p,s,u,v,x⟩:=ahw (g:=g) z.1 z.2.2.1 k.1 Ω (toNat (((dC A h c).n:Int)-0)+1) 0 (aZ _) Ω Ω Ω t i;exact⟨w,⟨l,m⟩,⟨k.1.1,n⟩,p,s,u,v,x⟩
def abe{w:Int}(a:0<=w/\w<=((dC A h c).n:Int))(b:A<=cv A h c)(d:cv A h c-A+w<=(r.n:Int)):(iy A r h c w).B=r.B.take (cv A h c-A+w).toNat++(dC A h c).B.drop w.toNat:=by
 unfold iy;rw[iL,l0 _ _ _ Ω Ω Ω,l0 _ _ _ Ω Ω Ω,show(cv A h c-A+w-0).toNat=(cv A h c-A+w).toNat by omega,List.take_of_length_le (l:=(dC A h c).B.drop w.toNat) (by rw[pB,bc];omega)];rfl
end
def iZ.take{a b:Int}{l:List R}(h:iZ a b l)(k:Nat):iZ a b (l.take k):=by
 have c:=h.n;exact⟨h.b,h.t,h.z,⟨by rw[iJ];omega,by rw[iJ];omega⟩,aaT k h.c⟩
def gZ(v:Int):Int:=if 0<=v then 1 else 0
structure DQ (c:e2) (r:bm):Prop where
 m:r.q=1->c.ao<=r.F/\2*c.ao+gZ c.b3<2*r.F+gZ r.z
 l:r.q=2->r.w<=c.ao
 s:r.q=3->c.bR<r.bb/\r.cO<=c.ao
def sD:e2->List bm->Prop
 |_,[]=>True
 |c,r::rs=>DQ c r/\sD (fJ c r) rs
def aiV: ∀{rs:List bm} {c d:e2} {r:bm},jt c rs d->sD c rs->DQ d r->sD c (rs++[r])
 |[],c,d,r,h,_,k=>by
  have h:c=d:=h;subst h;exact⟨k,trivial⟩
 |_::_,_,_,_,h,q,k=>⟨q.1,aiV h.2 q.2 k⟩
def aiW: ∀{rs:List bm} {c:e2} (k:Nat),sD c rs->sD c (rs.take k)
 |_,_,0,_=>by rw[List.take_zero];trivial
 |[],_,_+1,_=>trivial
 |_::_,_,k+1,h=>⟨h.1,aiW k h.2⟩
def gl(r:bm):Int:=if r.q=1 then 0 else if r.q=2 then 127 else 5500
def lz:List bm->Int
 |[]=>0
 |r::rs=>gl r+lz rs
def apF(r:bm):0<=gl r:=by
 unfold gl
 by_cases a:r.q=1
 .rw[a5 a];omega
 .rw[aS a]
  by_cases b:r.q=2
  .rw[a5 b];omega
  .rw[aS b];omega
def abh: ∀rs:List bm,0<=lz rs
 |[]=>aZ _
 |r::rs=>by
  have:=apF r;have:=abh rs;show 0<=gl r+lz rs;omega
def abi: ∀(rs:List bm) (r:bm),lz (rs++[r])=lz rs+gl r
 |[],r=>by show gl r+0=0+gl r;omega
 |x::rs,r=>by
  have:=abi rs r;show gl x+lz (rs++[r])=gl x+lz rs+gl r;omega
def abj: ∀(rs:List bm) (k:Nat),lz (rs.take k)<=lz rs
 |_,0=>by rw[List.take_zero];exact abh _
 |[],_+1=>aZ _
 |x::rs,k+1=>by
  have:=abj rs k;show gl x+lz (rs.take k)<=gl x+lz rs;omega
def w8(c:e2):Prop:=c.lt<=c.ao/\ ∀x∈c.li,x.q<=c.ao
def aEc{c:e2}{r:bm}(h:w8 c)(k:DQ c r)(b:kK r):w8 (fJ c r):=by
 unfold fJ;rcases uA b with⟨e,_⟩|⟨e,_⟩|⟨e,_⟩
 .rw[a5 e];have:=(k.m e).1;exact⟨by have:=h.1;show c.lt<=r.F;omega,λx a=>by have:=h.2 x a;show x.q<=r.F;omega⟩
 .rw[aS Ω,a5 e]
  by_cases z:r.M<=c.j
  .rw[a5 z];exact h
  .rw[aS z];refine⟨h.1,λx a=> ?_⟩;rcases gj.1 a with q|q
   .exact h.2 x (List.mem_of_mem_take q)
   .rw[List.mem_singleton.1 q];exact k.l e
 .rw[aS Ω,aS Ω]
  by_cases z:r.bb>c.bR
  .rw[a5 z];refine⟨(k.s e).2,λx a=> ?_⟩;have a:x∈(if kH c.j c.lt c.li r.bb=some r.cO then c.li.drop (r.bb-c.j).toNat else[]):=a
   by_cases t:kH c.j c.lt c.li r.bb=some r.cO
   .rw[a5 t]at a;exact h.2 x (qS a)
   .rw[aS t]at a
    cases a
  .rw[aS z];exact h
def ajH: ∀{rs:List bm} {c d:e2},w8 c->sD c rs->(∀r∈rs,hK r)->jt c rs d->w8 d
 |[],c,d,h,_,_,k=>by
  have k:c=d:=k;subst k;exact h
 |r::_,_,_,h,q,a,k=>ajH (aEc h q.1 (a r (List.mem_cons_self ..)).c) q.2 (λx b=>a x (List.mem_cons_of_mem _ b)) k.2
structure DO (m:Int) (c:e2):Prop where
 b:c.j<=m
 s:c.bR<=m
 n:c.j+(c.li.length:Int)<=m
def I6(m:Int)(r:bm):Prop:=r.M<=m/\r.bb<=m
def aCk{m:Int}{c:e2}{r:bm}(h:DO m c)(k:u2 c r)(f:kK r)(p:I6 m r):DO m (fJ c r):=by
 have a:=h.b;have b:=h.s;have d:=h.n;unfold fJ;rcases uA f with⟨e,_⟩|⟨e,_⟩|⟨e,_⟩
 .rw[a5 e];exact⟨a,b,d⟩
 .rw[aS Ω,a5 e]
  by_cases z:r.M<=c.j
  .rw[a5 z];exact h
  .rw[aS z];have:=((k e).resolve_left z).1;have:=p.1;refine⟨a,b,?_⟩;show c.j+((c.li.take (r.M-c.j-1).toNat++[jH r]).length:Int)<=m;rw[dq,iJ,List.length_singleton];omega
 .rw[aS Ω,aS Ω]
  by_cases z:r.bb>c.bR
  .rw[a5 z];have:=p.2;refine⟨this,this,?_⟩;show r.bb+((if kH c.j c.lt c.li r.bb=some r.cO then c.li.drop (r.bb-c.j).toNat else[]).length:Int)<=m
   by_cases t:kH c.j c.lt c.li r.bb=some r.cO
   .rw[a5 t,pB];omega
   .rw[aS t,fs];omega
  .rw[aS z];exact h
def aiq{m:Int} : ∀{rs:List bm} {c d:e2},DO m c->(∀r∈rs,hK r)->(∀r∈rs,I6 m r)->jt c rs d->DO m d
 |[],c,d,h,_,_,k=>by
  have k:c=d:=k;subst k;exact h
 |r::_,_,_,h,a,p,k=>aiq (aCk h k.1 (a r (List.mem_cons_self ..)).c (p r (List.mem_cons_self ..))) (λx b=>a x (List.mem_cons_of_mem _ b)) (λx b=>p x (List.mem_cons_of_mem _ b)) k.2
def ab8{r:bm}(h:hK r):((dY r).length:Int)<=(if r.q=1 then 8 else if r.q=2 then 127 else 11000):=by
 rw[(xy h).1];unfold fg;rcases uA h.c with⟨k,_⟩|⟨k,_,b⟩|⟨k,_,_,c⟩
 .rw[a5 k,k];show((3+(1::(eV r.F++[r.z+1])).length:Nat):Int)<=8;simp only[dy,dq,eV,fs];omega
 .rw[aS Ω,a5 k,k];have n:=M8 b;show((3+(2::(eV r.M++mn (jH r))).length:Nat):Int)<=127;simp only[dy,dq,eV,fs];omega
 .rw[aS Ω,aS Ω,k];have n:=(Wu h.z h.y c).2;show((3+(3::(eV r.bb++(eV r.cO++mu r.eK r.ek r.eL r.en))).length:Nat):Int)<=11000;simp only[dy,dq,eV,fs];omega
def ab7: ∀{rs:List bm} {c d:e2},(∀r∈rs,hK r)->sD c rs->jt c rs d->((rs.flatMap dY).length:Int)+8*(2*c.ao+gZ c.b3)+5500*c.bR<=lz rs+8*(2*d.ao+gZ d.b3)+5500*d.bR
 |[],c,d,_,_,k=>by
  have k:c=d:=k;subst k;show((([]:List bm).flatMap dY).length:Int)+8*(2*c.ao+gZ c.b3)+5500*c.bR<=0+8*(2*c.ao+gZ c.b3)+5500*c.bR;rw[List.flatMap_nil,fs];omega
 |r::rs,c,d,a,q,k=>by
  have b:=ab7 (λx i=>a x (List.mem_cons_of_mem _ i)) q.2 k.2;have g:=a r (List.mem_cons_self ..);have f:=ab8 g;have h:=q.1;rw[g0,dq];show _<=gl r+lz rs+_+_;unfold gl;unfold fJ at b;rcases uA g.c with⟨e,_⟩|⟨e,_⟩|⟨e,_⟩
  .have:=(h.m e).2;rw[a5 e]at f b |-;have b:((rs.flatMap dY).length:Int)+8*(2*r.F+gZ r.z)+5500*c.bR<=_:=b;omega
  .rw[aS Ω,a5 e]at f b |-;have b:((rs.flatMap dY).length:Int)+8*(2*c.ao+gZ c.b3)+5500*c.bR<=lz rs+8*(2*d.ao+gZ d.b3)+5500*d.bR:=by
    by_cases z:r.M<=c.j
    .rw[a5 z]at b;exact b
    .rw[aS z]at b;exact b
   omega
  .have:=(h.s e).1;rw[aS Ω,aS Ω,a5 this]at b;rw[aS Ω,aS Ω]at f |-;have b:((rs.flatMap dY).length:Int)+8*(2*c.ao+gZ c.b3)+5500*r.bb<=_:=b;omega
structure iP (P:Prop) (m c:Int) (d:G Int) (s:Int) (k:e2):Prop where
 t:u5 d s
 r: ∃rs,(∀r∈rs,hK r)/\d.B=rs.flatMap dY/\jt nx rs k/\sD nx rs/\(∀r∈rs,I6 m r)/\(P->lz rs<=c)
abbrev h0(P:Prop)(m c:Int)(n:H):Prop:=iP P m c n.a_ n.br (core n)
section
variable {fa:Prop} {ak dX:Int} {sR:G Int} {sq:Int} {kx:e2} {m:H}
def iP.mono(h:iP fa ak dX sR sq kx){m' b:Int}(c:ak<=m')(k:fa->dX<=b):iP fa m' b sR sq kx:=by
 obtain⟨rs,e,f,g,i,a,j⟩:=h.r;exact⟨h.t,rs,e,f,g,i,λr d=>⟨Int.le_trans (a r d).1 c,Int.le_trans (a r d).2 c⟩,λp=>Int.le_trans (j p) (k p)⟩
def h0.nm(h:h0 fa ak dX m):Ad m:=by
 obtain⟨rs,a,b,c,_⟩:=h.r;exact⟨h.t,rs,a,b,c⟩
def iP.D(h:iP fa ak dX sR sq kx):w8 kx:=by
 obtain⟨rs,a,f,b,d,_⟩:=h.r;exact ajH (c:=nx) ⟨Δ,λx e=>nomatch e⟩ d a b
def iP.pl(h:iP fa ak dX sR sq kx)(a:0<=ak):DO ak kx:=by
 obtain⟨rs,b,f,d,g,e,_⟩:=h.r;exact aiq (c:=nx) ⟨a,a,a⟩ b e d
def iP.len(h:iP fa ak dX sR sq kx)(p:fa):(sR.n:Int)<=dX+8*(2*kx.ao+gZ kx.b3)+5500*kx.bR:=by
 obtain⟨rs,a,b,c,d,i,g⟩:=h.r;have f:=ab7 a d c;have:=g p;have e:((rs.flatMap dY).length:Int)+8*(2*0+gZ (-1))+5500*0<=lz rs+8*(2*kx.ao+gZ kx.b3)+5500*kx.bR:=f;have v:gZ (-1)=0:=by decide
 rw[v,<-b,bc]at e;omega
def IF{m':Int}(h:iP fa ak dX m.a_ m.br kx){rc:bm}(s:dA rc.ek)(p:eH rc.en)(u:u2 kx rc)(j:hK rc->DQ kx rc/\I6 m' rc)(i:ak<=m'):(gn rc m=false/\(fO rc m).a_=m.a_/\(fO rc m).br=m.br)\/(gn rc m=true/\hK rc/\iP fa m' (dX+gl rc) (fO rc m).a_ (fO rc m).br (fJ kx rc)):=by
 rcases aEV h.t s p with a|⟨a,b,sR,e,f⟩
 .exact .inl a
 .obtain⟨rs,k,l,d,n,g,o⟩:=h.r;have t:(fO rc m).a_.n=m.a_.n+(dY rc).length:=by rw[<-bc,sR,dq,bc]
  refine .inr ⟨a,b,⟨uL h.t.u,f,?_⟩,rs++[rc],?_,?_,ai4 d u,aiV d n (j b).1,?_,λq=> ?_⟩
  .rw[e,t];have:=h.t.s;omega
  .intro r c;rcases gj.1 c with c|c
   .exact k r c
   .rw[List.mem_singleton.1 c];exact b
  .rw[sR,l,zY,g0,List.flatMap_nil,im]
  .intro r c;rcases gj.1 c with c|c
   .exact⟨Int.le_trans (g r c).1 i,Int.le_trans (g r c).2 i⟩
   .rw[List.mem_singleton.1 c];exact(j b).2
  .rw[abi];have:=o q;omega
def h0.same{n':H}(h:h0 fa ak dX m)(a:n'.a_=m.a_)(b:n'.br=m.br)(bk:core n'=core m):h0 fa ak dX n':=by
 show iP fa ak dX n'.a_ n'.br (core n');rw[a,b,bk];exact h
def aE2(h:h0 fa ak dX m)(c:0<=ak){a b:Int}(d:m.ao<=a/\2*m.ao+gZ m.b3<2*a+gZ b):h0 fa ak dX (ez a b m):=by
 rcases IF h (rc:=(aiD a b)) oM oL (λz=>absurd z (show(1:Int)≠2 by decide)) (λ_=>⟨⟨λ_=>d,λz=>absurd z (show(1:Int)≠2 by decide),λz=>absurd z (show(1:Int)≠3 by decide)⟩,c,c⟩) (aZ _)with⟨r,f,g⟩|⟨r,_,w⟩
 .have e:ez a b m=m:=NG (by unfold lI;rw[r];rfl);rw[e];exact h
 .have q:core (ez a b m)=fJ (core m) (aiD a b):=by
   unfold core ez K9 TU;rw[r];rfl
  show iP fa ak dX (ez a b m).a_ (ez a b m).br (core (ez a b m));rw[q];exact w.mono (aZ _) λ_=>by
   show dX+0<=dX;omega
def aE4(h:h0 fa ak dX m)(i:0<=ak){it:R}(k:it.q<=m.ao):h0 fa (ak+1) (dX+127) (hQ it m):=by
 have a:=(h.pl i).n;rw[show(core m).li=m.li.B from rfl,bc]at a;have a:m.j+(m.li.n:Int)<=ak:=a
 by_cases e:hQ it m=m
 .rw[e];exact h.mono Ω λ_=>by omega
 have L:=h.nm.log;have j:=L.n;rw[bc]at j;have C:=L.b;have p:bP m=m.j+(m.li.n:Int):=Ns L;revert e;unfold hQ vB ad3 vC F3 TT n9
 cases g:(hk m.j m.lt m.li (bP m) (eM m) (G.lit ([it]:List R))!=0)with
 |true=>exact λe=>absurd rfl e
 |false=>
 cases !(hT m.j m.lt m.li (bP m) (eM m) (G.lit ([it]:List R)))with
 |true=>exact λe=>absurd rfl e
 |false=>
 cases bk:(dt m.j m.lt m.li (bP m) (eM m) (G.lit ([it]:List R))==0)with
 |true=>exact λe=>absurd rfl e
 |false=>
 obtain⟨w,⟨D,s⟩,⟨u,v⟩,x,y,A,B,_⟩:=ahz (bK g) (fl.1 bk);have o:cv m.j (bP m) (G.lit ([it]:List R))=m.j+(m.li.n:Int):=by
  unfold cv;rw[p,bj Ω];rfl
 have d:dC m.j (bP m) (G.lit ([it]:List R))=G.lit ([it]:List R):=by
  unfold dC;rw[p,bj Ω];rfl
 obtain rfl:w=0:=by
  rw[d]at s;have:(((G.lit ([it]:List R)).n:Nat):Int)=1:=rfl;omega
 have c:(iy m.j m.li (bP m) (G.lit ([it]:List R)) 0).B=m.li.B++[it]:=by
  rw[abe ⟨aZ _,Ω⟩ u v,o,d,iq,List.take_of_length_le (by rw[bc];omega)];rfl
 have b:iZ m.j m.lt (m.li.B++[it]):=by rw[<-c];exact mY.1 x
 have n:=b.n;rw[dq,bc,dy,fs]at n;have l:i64 (bP m+1)=m.j+(m.li.n:Int)+1:=by rw[p];exact E _
 have f:m.li.B.take (m.j+(m.li.n:Int)+1-m.j-1).toNat=m.li.B:=List.take_of_length_le (by rw[bc];omega);rw[y,A,B,l];have st:fJ (core m) (wH (m.j+(m.li.n:Int)+1) it)={core m with li:=m.li.B++[it]} :=by
  unfold fJ;rw[aS (show¬(2:Int)=1 by decide),a5 rfl];show(if m.j+(m.li.n:Int)+1<=m.j then core m else {core m with li:=m.li.B.take (m.j+(m.li.n:Int)+1-m.j-1).toNat++[it]})=_;rw[aS Ω,f]
 have q:u2 (core m) (wH (m.j+(m.li.n:Int)+1) it):=by
  intro _;right;show m.j+(m.li.n:Int)+1<=m.j+(m.li.B.length:Int)+1/\iZ m.j m.lt (m.li.B.take (m.j+(m.li.n:Int)+1-m.j-1).toNat++[it]);rw[f,bc];exact⟨aZ _,b⟩
 rcases IF h oM oL q (λ_=>⟨⟨λz=>absurd z (show(2:Int)≠1 by decide),λ_=>k,λz=>absurd z (show(2:Int)≠3 by decide)⟩,show m.j+(m.li.n:Int)+1<=ak+1 by omega,show(0:Int)<=ak+1 by omega⟩) (show ak<=ak+1 by omega)with⟨r,t⟩|⟨r,_,W⟩
 .intro e;rw[r,t.1,t.2]at e;exact absurd rfl e
 .intro _;rw[st,<-c]at W;rw[r];exact W
end
section
variable {ms:aj} {d:H} {L:G aj} {ah:G bF} {au:G aU}
def YG{i t A r:Int}{g:G N}{h:G ar}(d:kK (wI i t A g r h)):(1<=i/\i<=1048576)/\(1<=t/\t<=1048576)/\ed A g r h=0:=by
 rcases uA d with⟨k,_⟩|⟨k,_⟩|⟨_,a,b,c⟩
 .exact absurd (show(3:Int)=1 from k) Δ
 .exact absurd (show(3:Int)=2 from k) Δ
 .exact⟨a,b,c⟩
end
section
variable {ms:aj} {d:H} {L:G aj} {ah:G bF} {au:G aU} {fa:Prop} {ak dX:Int}
def azT{A h:Int}{c:G R}(a:0<=A/\A<=1048576)(b:0<=h/\h<=1048576)(d:c.n<=200):cv A h c+((dC A h c).n:Int)<=h+(c.n:Int)/\(dC A h c).n<=c.n:=by
 unfold cv dC
 by_cases dX:h<A
 .have k:=lP (A-h) (c.n:Int);rw[bM dX,E (A-h)];simp only[aR];generalize ff (A-h) (c.n:Int)=q at k |-;rw[E (h+q)];show h+q+((((c.n:Int)-q).toNat:Nat):Int)<=h+(c.n:Int)/\((c.n:Int)-q).toNat<=c.n;omega
 .rw[bj dX];exact⟨aZ _,bN _⟩
def azS{A h:Int}{c:G R}(b:0<=A/\A<=1048576)(d:0<=h/\h<=1048576)(e:c.n<=200){x:R}(a:x∈(dC A h c).B):x∈c.B:=by
 unfold dC at a
 by_cases dX:h<A
 .have k:=lP (A-h) (c.n:Int);rw[bM dX,E (A-h)]at a;simp only[aR]at a;generalize ff (A-h) (c.n:Int)=q at k a;rw[l0 _ _ _ Ω Ω Ω]at a;exact qS (List.mem_of_mem_take a)
 .rw[bj dX]at a;exact a
def aE3(u:0<=ak){lB:Int}{l:G R}(p:cn d.j d.lt d.li ms.w ms.C ms.f=d.j)(s:cd d.j d.lt d.li ms.w ms.C ms.f=l)(e:iZ d.j d.lt l.B)(H:d.j+(l.n:Int)<=ak)(t: ∀x∈l.B,x.q<=d.ao)(J:d.j+1<=lB/\lB<=d.j+(l.n:Int)):
  ∀(k:Nat) (c v:Int) (a:G Int) (b:Int) (li:List R),lB<=v->v<=d.j+(l.n:Int)+1->toNat (d.j+(l.n:Int)+1-v)<k->iP fa ak c a b {core d with li:=li} ->li.take (v-d.j-1).toNat=l.B.take (v-d.j-1).toNat->(v-d.j-1).toNat<=li.length->(lB<v->li=l.B.take (v-d.j-1).toNat)->
   (mh ms d L ah au k v a b).1=true\/((mh ms d L ah au k v a b).1=false/\iP fa ak (c+127*(d.j+(l.n:Int)+1-v)) (mh ms d L ah au k v a b).2.1 (mh ms d L ah au k v a b).2.2.1 {core d with li:=l.B}):=by
 have w:=e.n;rw[bc]at w;have I:=e.b;intro k
 induction k with
 |zero=>intro c v a b li _ _ h;exact absurd h (eD _)
 |succ k A=>
  intro c v a b li D F K W j M y;rw[mh,p,s,E (d.j+(l.n:Int))]
  by_cases dX:v<=d.j+(l.n:Int)
  .have f:(v-d.j-1).toNat<l.B.length:=by rw[bc];omega
   rw[bM dX,aR,E (v-d.j),E (v-d.j-1),show l.at' (toNat (v-d.j-1))=l.B[(v-d.j-1).toNat]from q3 (i:=(v-d.j-1).toNat) (cM f),E (v+1)];generalize n:l.B[(v-d.j-1).toNat]=x;have o:l.B.take (v-d.j-1).toNat++[x]=l.B.take (v+1-d.j-1).toNat:=by
    rw[show(v+1-d.j-1).toNat=(v-d.j-1).toNat+1 by omega,List.take_add_one,cM f,n];rfl
   have st:fJ {core d with li:=li} (wH v x)={core d with li:=l.B.take (v+1-d.j-1).toNat} :=by
    unfold fJ;rw[aS (show¬(2:Int)=1 by decide),a5 rfl];show(if v<=d.j then _ else {core d with li:=li.take (v-d.j-1).toNat++[x]})=_;rw[aS Ω,j,o]
   have B:u2 {core d with li:=li} (wH v x):=by
    intro _;right;show v<=d.j+(li.length:Int)+1/\iZ d.j d.lt (li.take (v-d.j-1).toNat++[x]);rw[j,o];exact⟨Ω,e.take _⟩
   rcases IF (m:=BH d a b) (kx:={core d with li:=li}) W oM oL B (λ_=>⟨⟨λz=>absurd z (show(2:Int)≠1 by decide),λ_=>t x (by rw[<-n];exact j8 f),λz=>absurd z (show(2:Int)≠3 by decide)⟩,show v<=ak by omega,u⟩) (aZ _)with⟨r,_,_⟩|⟨r,_,g⟩
   .rw[r];exact .inl rfl
   .rw[r];rw[st]at g;simp only[Bool.not_true,aX];have q:=A (c+127) (v+1) _ _ _ Ω Ω Ω g (by rw[List.take_take,Nat.min_self]) (by rw[iJ,bc];omega) λ_=>rfl;rw[show c+127+127*(d.j+(l.n:Int)+1- (v+1))=c+127*(d.j+(l.n:Int)+1-v) by omega]at q;exact q
  .rw[bj dX,aX];have C:v=d.j+(l.n:Int)+1:=by omega
   have:li=l.B:=by
    rw[y Ω,List.take_of_length_le (by rw[bc];omega)]
   rw[this]at W;rw[C,show c+127*(d.j+(l.n:Int)+1- (d.j+(l.n:Int)+1))=c by omega];exact .inr ⟨rfl,W⟩
def aEY(b:h0 fa ak dX d)(D:0<=ak)(U:ms.f.n=0\/ms.w+(ms.f.n:Int)<=ak)(o:0<=ms.w/\ms.w<=1048576)(p:ms.f.n<=200)(z: ∀x∈ms.f.B,x.q<=d.ao):h0 fa ak (dX+127*(ms.f.n:Int)) (k4 ms d L ah au):=by
 have Q:0<=(ms.f.n:Int):=Int.natCast_nonneg _;have i:h0 fa ak (dX+127*(ms.f.n:Int)) d:=b.mono (aZ _) λ_=>by omega
 have m:=b.nm.log;have F:=m.n;rw[bc]at F;unfold k4;rw[H.eY,H.eY,H.eY]
 cases y:(hk d.j d.lt d.li ms.w ms.C ms.f !=0)with
 |true=>exact i
 |false=>
 cases T:(!(hT d.j d.lt d.li ms.w ms.C ms.f))with
 |true=>exact i.same rfl rfl rfl
 |false=>
 simp only[aX]
 cases a:decide (dt d.j d.lt d.li ms.w ms.C ms.f>0)with
 |false=>
  have g:kr ms d L ah au=true:=by unfold kr;rw[a];rfl
  rw[g,aR];refine i.same (n':=lK _ (dJ _ _ (p7 ms d L ah au)) ah) ?_ ?_ ?_
  .show vF ms d L ah au=_;unfold vF;rw[a];rfl
  .show BG ms d L ah au=_;unfold BG;rw[a];rfl
  .show(⟨d.ao,d.b3,d.bR,mi ms d,BF ms d,(k5 ms d).B⟩:e2)=core d;unfold mi BF k5;rw[a];rfl
 |true=>
  have S:=an a;obtain⟨w,⟨t,Z⟩,⟨M,N⟩,O,k,P,l,aG_⟩:=ahz (bK y) (show dt d.j d.lt d.li ms.w ms.C ms.f≠0 by omega);have j:iZ d.j d.lt (iy d.j d.li ms.w ms.f w).B:=mY.1 O;have R:=abg (A:=d.j) (r:=d.li) (h:=ms.w) (c:=ms.f) (w:=w) Ω ⟨t,Ω⟩;have Ri:=abe (A:=d.j) (r:=d.li) (h:=ms.w) (c:=ms.f) (w:=w) ⟨t,Ω⟩ M N;have G:=j.n;rw[bc]at G;have V:=j.b;have n:0<=d.j/\d.j<=1048576:=⟨m.b,Ω⟩;obtain⟨X,Y⟩:=azT n o p;have B:d.j+((iy d.j d.li ms.w ms.f w).n:Int)<=ak:=by omega
  have C: ∀x∈(iy d.j d.li ms.w ms.f w).B,x.q<=d.ao:=by
   intro x s;rw[Ri]at s;rcases gj.1 s with q|q
   .exact b.D.2 x (List.mem_of_mem_take q)
   .exact z x (azS n o p (qS q))
  have W:(iB ms d L ah au).1=true\/((iB ms d L ah au).1=false/\iP fa ak (dX+127*(d.j+((iy d.j d.li ms.w ms.f w).n:Int)+1-dt d.j d.lt d.li ms.w ms.C ms.f)) (iB ms d L ah au).2.1 (iB ms d L ah au).2.2.1 {core d with li:=(iy d.j d.li ms.w ms.f w).B}):=aE3 D (lB:=dt d.j d.lt d.li ms.w ms.C ms.f) k l j B C Ω _ _ _ d.a_ d.br d.li.B (aZ _) Ω (by rw[k,l,E (d.j+((iy d.j d.li ms.w ms.f w).n:Int))];omega) b (by
   have e:(dt d.j d.lt d.li ms.w ms.C ms.f-d.j-1).toNat=(cv d.j ms.w ms.f-d.j+w).toNat:=by omega
   rw[Ri,e,List.take_append,List.take_take,Nat.min_self,iJ,bc,show(cv d.j ms.w ms.f-d.j+w).toNat-min (cv d.j ms.w ms.f-d.j+w).toNat d.li.n=0 by omega,List.take_zero,im]) (by rw[bc];omega) λq=>absurd q Ω
  rcases W with W|⟨u,v⟩
  .have g:kr ms d L ah au=false:=by unfold kr yi;rw[a,W];rfl
   have f:_\/((iB ms d L ah au).1=true/\(iB ms d L ah au).2.2.2=wO d L ah au):=Hs _ _ _ _ b.t.u;rcases f with⟨f,_⟩|⟨_,f⟩
   .cases W.symm.trans f
   .rw[g,aX,f];exact i
  .have g:kr ms d L ah au=true:=by unfold kr yi;rw[a,u];rfl
   rw[g,aR];show iP fa ak (dX+127*(ms.f.n:Int)) (lK _ (dJ _ _ (p7 ms d L ah au)) ah).a_ (lK _ (dJ _ _ (p7 ms d L ah au)) ah).br (core (lK _ (dJ _ _ (p7 ms d L ah au)) ah));have I:vF ms d L ah au=(iB ms d L ah au).2.1:=by unfold vF;rw[a];rfl
   have J:BG ms d L ah au=(iB ms d L ah au).2.2.1:=by unfold BG;rw[a];rfl
   have K:(⟨d.ao,d.b3,d.bR,mi ms d,BF ms d,(k5 ms d).B⟩:e2)={core d with li:=(iy d.j d.li ms.w ms.f w).B} :=by
    unfold mi BF k5;rw[a,aR,aR,aR,k,P,l];rfl
   show iP fa ak (dX+127*(ms.f.n:Int)) (vF ms d L ah au) (BG ms d L ah au) (⟨d.ao,d.b3,d.bR,mi ms d,BF ms d,(k5 ms d).B⟩:e2);rw[I,J,K];exact v.mono (aZ _) λ_=>by omega
def aEZ(h:h0 fa ak dX d)(n:0<=ak)(x:d.j<=d.co)(q:dA ms.b2)(o:eH ms.bb)(l:ms.aD<=ak)(m:ms.bX<=d.ao):h0 fa ak (dX+5500) (k6 ms d):=by
 have j:h0 fa ak (dX+5500) d:=h.mono (aZ _) λ_=>by omega
 have L:=h.nm.log;have y:=h.nm.bR;unfold k6;rw[H.eY]
 cases c:decide (ms.aD>d.co)with
 |false=>
  have p:tr ms d=true:=by unfold tr;rw[c];rfl
  rw[p,aR];refine j.same (n':=dJ _ _ (mj ms d)) ?_ ?_ ?_
  .show rv ms d=_;unfold rv;rw[c];rfl
  .show BI ms d=_;unfold BI;rw[c];rfl
  .show(⟨d.ao,d.b3,rz ms d,ru ms d,BJ ms d,(ry ms d).B⟩:e2)=core d;unfold rz ru BJ ry;rw[c];rfl
 |true=>
  have w:=an c;rcases IF h (rc:=(wI ms.aD ms.bX ms.b_ ms.b2 ms.cm ms.bb)) q o (λz=>absurd z (show(3:Int)≠2 by decide)) (λ_=>⟨⟨λz=>absurd z (show(3:Int)≠1 by decide),λz=>absurd z (show(3:Int)≠2 by decide),λ_=>⟨show d.bR<ms.aD by omega,m⟩⟩,n,l⟩) (aZ _)with⟨r,f,g⟩|⟨r,v,W⟩
  .have p:tr ms d=false:=by unfold tr;rw[c,r];rfl
   rw[p,aX];exact j.same f g rfl
  .have p:tr ms d=true:=by unfold tr;rw[c,r];rfl
   rw[p,aR];obtain⟨a,b,e⟩:=YG v.c;obtain⟨s,q1,u⟩:=Yk L (i:=ms.aD) (t:=ms.bX) Ω;have k:mm ms.aD ms.bX ms.b_ ms.b2 ms.cm ms.bb=0:=by
    unfold mm GD;rw[f153 a,f153 b];exact e
   have st:fJ (core d) (wI ms.aD ms.bX ms.b_ ms.b2 ms.cm ms.bb)=⟨d.ao,d.b3,rz ms d,ru ms d,BJ ms d,(ry ms d).B⟩:=by
    unfold fJ rz ru BJ ry vX UI vY;rw[c,mY.2 L,k];refine(aS (show¬(3:Int)=1 by decide)).trans ((aS (show¬(3:Int)=2 by decide)).trans ((a5 (show ms.aD>d.bR by omega)).trans ?_));show(⟨d.ao,d.b3,ms.aD,ms.aD,ms.bX,if kH d.j d.lt d.li.B ms.aD=some ms.bX then d.li.B.drop (ms.aD-d.j).toNat else[]⟩:e2)=⟨d.ao,d.b3,ms.aD,oV d.j d.lt d.li ms.aD ms.bX,td d.j d.lt d.li ms.aD ms.bX,(oW d.j d.lt d.li ms.aD ms.bX).B⟩;rw[s,q1,u]
   show iP fa ak (dX+5500) (dJ _ _ (mj ms d)).a_ (dJ _ _ (mj ms d)).br (core (dJ _ _ (mj ms d)));have f:rv ms d=(fO (wI ms.aD ms.bX ms.b_ ms.b2 ms.cm ms.bb) d).a_:=by unfold rv;rw[c];rfl
   have g:BI ms d=(fO (wI ms.aD ms.bX ms.b_ ms.b2 ms.cm ms.bb) d).br:=by unfold BI;rw[c];rfl
   show iP fa ak (dX+5500) (rv ms d) (BI ms d) (⟨d.ao,d.b3,rz ms d,ru ms d,BJ ms d,(ry ms d).B⟩:e2);rw[f,g,<-st];exact W
def t127{n:H}(L:iZ n.j n.lt n.li.B)(t:w8 (core n)){i:Int}(d:n.j<=i/\i<=n.j+(n.li.n:Int)):h7 n.j n.lt n.li i<=n.ao:=by
 have b:=L.n;rw[bc]at b;have c:=L.b;unfold h7;rw[bj (show¬i<n.j by omega),E (i-n.j),E (i-n.j-1),bj (show¬i-n.j>(n.li.n:Int) by omega)]
 by_cases dX:i=n.j
 .rw[iK.2 dX];exact t.1
 .rw[fl.2 dX];have a:(i-n.j-1).toNat<n.li.B.length:=by rw[bc];omega
  rw[show n.li.at' (toNat (i-n.j-1))=n.li.B[(i-n.j-1).toNat]from q3 (i:=(i-n.j-1).toNat) (cM a)];exact t.2 _ (j8 a)
def aE1(h:h0 fa ak dX d)(o:0<=ak)(u:d.j<=d.co)(w:dA d.dn)(v:eH d.er):h0 fa ak (dX+5500) (lJ d)/\((lJ d).eU=d.eU\/(lJ d).eU<=d.ao):=by
 have n:h0 fa ak (dX+5500) d:=h.mono (aZ _) λ_=>by omega
 have L:=h.nm.log;have G:=h.nm.bR;have g:=(h.pl o).n;rw[show(core d).li=d.li.B from rfl,bc]at g;have g:d.j+(d.li.n:Int)<=ak:=g;have F:=L.b;unfold lJ;rw[H.eY,H.eY]
 cases f:(d.co==d.j)with
 |true=>exact⟨n,.inl rfl⟩
 |false=>
  have I:=fl.1 f;simp only[aX];have l:hK (wI d.co (hS d.j d.lt d.li d.co) d.ep d.dn d.e1 d.er)->hS d.j d.lt d.li d.co<=d.ao/\d.co<=d.j+(d.li.n:Int):=λc=>by
   obtain⟨a,b,_⟩:=YG c.c;rw[(UE L (i:=d.co) Ω).1]at b |-;have p:d.co<=d.j+(d.li.n:Int):=by
    unfold h7 at b;rw[bj (show¬d.co<d.j by omega),f,E (d.co-d.j)]at b
    by_cases e:d.co-d.j>(d.li.n:Int)
    .rw[bM e]at b;have q:(1:Int)<=0:=b.1;omega
    .omega
   exact⟨t127 L h.D ⟨u,p⟩,p⟩
  rcases IF h (rc:=(wI d.co (hS d.j d.lt d.li d.co) d.ep d.dn d.e1 d.er)) w v (λz=>absurd z (show(3:Int)≠2 by decide)) (λc=>⟨⟨λz=>absurd z (show(3:Int)≠1 by decide),λz=>absurd z (show(3:Int)≠2 by decide),λ_=>⟨show d.bR<d.co by omega,(l c).1⟩⟩,o,by have:=(l c).2;show d.co<=ak;omega⟩) (aZ _)with⟨r,A,B⟩|⟨r,c,W⟩
  .rw[r,aX];exact⟨n.same A B rfl,.inl rfl⟩
  .rw[r,aR];obtain⟨a,b,D⟩:=YG c.c;obtain⟨m,C⟩:=UE L (i:=d.co) Ω;rw[m]at b;have x:gx d.j d.li d.co=0/\kH d.j d.lt d.li.B d.co=some (h7 d.j d.lt d.li d.co):=by
    rcases ajG L (i:=d.co) Ω with k|⟨k,_⟩
    .exact k
    .exfalso;unfold gx at k;unfold h7 at b
     by_cases s:d.co<d.j
     .omega
     rw[bj s,f]at k b
     cases e:decide (i64 (d.co-d.j)>(d.li.n:Int))with
     |true=>
      rw[e]at b;have q:(1:Int)<=0:=b.1;omega
     |false=>
      rw[e]at k;exact k rfl
   obtain⟨j,q1,y⟩:=Yk L (i:=d.co) (t:=h7 d.j d.lt d.li d.co) Ω;have st:fJ (core d) (wI d.co (hS d.j d.lt d.li d.co) d.ep d.dn d.e1 d.er)=core (ym d):=by
    unfold fJ;rw[m];refine(aS (show¬(3:Int)=1 by decide)).trans ((aS (show¬(3:Int)=2 by decide)).trans ((a5 (show d.co>d.bR by omega)).trans ?_));show(⟨d.ao,d.b3,d.co,d.co,h7 d.j d.lt d.li d.co,if kH d.j d.lt d.li.B d.co=some (h7 d.j d.lt d.li d.co)then d.li.B.drop (d.co-d.j).toNat else[]⟩:e2)=⟨d.ao,d.b3,d.co,qe d.j d.lt d.li d.co,B_ d.j d.lt d.li d.co,(rJ d.j d.lt d.li d.co).B⟩;rw[<-y];unfold oV td oW oX at*
    rw[m,C,x.1]at j q1 |-;simp only[pA,aR]at j q1 |-;rw[j,q1]
   refine⟨?_,.inr (l c).1⟩;show iP fa ak (dX+5500) (ym d).a_ (ym d).br (core (ym d));rw[<-st];exact W
def aE0(h:h0 fa ak dX d):h0 fa ak dX (rA d):=by
 obtain⟨c,g,hp⟩:=zw (a:=d.a_) (b:=d.br) h.t.s.1 h.t.s.2 h.t.n;have e:(rA d).a_=d.a_:=by
  show BX d.a_ d.br=_;unfold BX;rw[hp,c];rfl
 have f:(rA d).br=(d.a_.n:Int):=by
  show Lp d.a_ d.br=_;unfold Lp;rw[hp,c];rfl
 refine⟨?_,?_⟩
 .rw[e,f];exact⟨h.t.u,h.t.n,Ω,aZ _⟩
 .rw[e];exact h.r
end
def YY:aK (B:G Int):=λ_=>⟨aZ (0:Int),(by decide:(0:Int)<=255)⟩
def aEo{s:G Int}(h:aK s)(n:Int)(b:Bool):aK (fF n s b):=by
 unfold fF;exact e3 (P:=aK) YY λi=>h _
def D1{s:G Int}(h:aK s)(b:Bool):0<=cD s b/\cD s b<=255:=by
 have k:=aEo h 1 b (toNat 0);unfold cD
 cases decide (0<((fF 1 s b).n:Int))with
 |false=>exact⟨aZ _,(by decide:(0:Int)<=255)⟩
 |true=>
  rw[aR,E _];exact k
section
variable {α:Type} [Inhabited α]
def AK{L:Nat->Int->G Int->Bool->G α->G Int×Bool×G α}{fq:G Int->Bool->G Int}{e5:G Int->Bool->Bool}{f:G Int->Bool->α}
  (j: ∀v s b a,L 0 v s b a=default) (h: ∀k v s b a,L (k+1) v s b a=bif(cond (decide (v>0)) (!b) false)then L k (i64 (v-1)) (fq s b) (e5 s b) (G.app a (G.lit [f s b]))else(s,b,a))
  (m: ∀s b,aK s->aK (fq s b)) {P:α->Prop} (l: ∀s b,aK s->P (f s b)): ∀(d:Nat) (v:Int) (s:G Int) (b:Bool) (a:G α),aK s->0<=v->v<=255->(∀i,i<a.n->P (a.at' i))->
   ((((L d v s b a).2.2.n:Nat):Int)<=(a.n:Int)+v/\ ∀i,i<(L d v s b a).2.2.n->P ((L d v s b a).2.2.at' i))/\aK (L d v s b a).1
 |0,v,s,b,a,_,q,_,_=>by
  rw[j];exact⟨⟨by show((0:Nat):Int)<=_;omega,λi n=>absurd n (eD _)⟩,YY⟩
 |d+1,v,s,b,a,e,r,t,g=>by
  rw[h]
  by_cases c:v>0
  .rw[bM c,aR]
   cases b with
   |true=>exact⟨⟨by show(a.n:Int)<=_;omega,g⟩,e⟩
   |false=>
    simp only[Bool.not_false,aR];rw[E (v-1)];obtain⟨⟨u,o⟩,p⟩:=AK j h m l d (v-1) (fq s false) (e5 s false) (G.app a (G.lit [f s false])) (m _ _ e) Ω Ω (Q5 g (l _ _ e));have:((G.app a (G.lit [f s false])).n:Int)=(a.n:Int)+1:=by show((a.n+1:Nat):Int)=_;omega
    exact⟨⟨Ω,o⟩,p⟩
  .rw[bj c];exact⟨⟨by show(a.n:Int)<=_;omega,g⟩,e⟩
end
section
variable {ab:G Int}
def aAu(h:aK ab)(b:Bool):(Fa ab b (B:G bt)).n<=255/\aK (rj ab b (B:G bt)):=by
 have v:=D1 h b;have k:=AK (L:=xO) (fq:=Bs) (e5:=KS) (f:=λab b=>(⟨h8 ab b,h8 (cC ab b) (cN ab b)⟩:bt)) (λ_ _ _ _=>rfl) (λ_ _ _ _ _=>rfl) (λab b a=>eu (eu a)) (P:=λ_=>True) (λ_ _ _=>trivial) ((toNat (cD ab b))+1) (cD ab b) (cc ab b) (cl ab b) B (eB h) v.1 v.2 (λ_ _=>trivial);have c:(((Fa ab b (B:G bt)).n:Nat):Int)<=((0:Nat):Int)+cD ab b:=k.1.1;exact⟨Ω,k.2⟩
def aAv(h:aK ab)(b:Bool):(Ff ab b (B:G bG)).n<=255/\aK (Fe ab b (B:G bG)):=by
 have v:=D1 h b;have k:=AK (L:=xP) (fq:=Bt) (e5:=KT) (f:=λab b=>(⟨h8 ab b,cW (cC ab b) (cN ab b)⟩:bG)) (λ_ _ _ _=>rfl) (λ_ _ _ _ _=>rfl) (λab b a=>d_ (eu a)) (P:=λ_=>True) (λ_ _ _=>trivial) ((toNat (cD ab b))+1) (cD ab b) (cc ab b) (cl ab b) B (eB h) v.1 v.2 (λ_ _=>trivial);have c:(((Ff ab b (B:G bG)).n:Nat):Int)<=((0:Nat):Int)+cD ab b:=k.1.1;exact⟨Ω,k.2⟩
def WC(h:aK ab)(b:Bool):(xS ab b).n<=255/\aK (tc ab b):=by
 have v:=D1 h b;have k:=AK (L:=xQ) (fq:=Bu) (e5:=KU) (f:=h8) (λ_ _ _ _=>rfl) (λ_ _ _ _ _=>rfl) (λab b a=>eu a) (P:=λ_=>True) (λ_ _ _=>trivial) ((toNat (cD ab b))+1) (cD ab b) (cc ab b) (cl ab b) B (eB h) v.1 v.2 (λ_ _=>trivial);have c:(((xS ab b).n:Nat):Int)<=((0:Nat):Int)+cD ab b:=k.1.1;exact⟨Ω,k.2⟩
def ahI(h:aK ab)(b:Bool):((Be ab b).n<=255/\(Bf ab b).n<=255/\(Bg ab b).n<=255)/\aK (tb ab b):=by
 have e:=d_ (g:=cN (cc ab b) (cl ab b)) (eu (g:=cl ab b) (eB (g:=b) h));have a:=aAu e (aM (cC (cc ab b) (cl ab b)) (cN (cc ab b) (cl ab b)));have c:=WC a.2 (ta (aL (cC (cc ab b) (cl ab b)) (cN (cc ab b) (cl ab b))) (aM (cC (cc ab b) (cl ab b)) (cN (cc ab b) (cl ab b))) (B:G bt));have d:=aAv c.2 (xT (rj (aL (cC (cc ab b) (cl ab b)) (cN (cc ab b) (cl ab b))) (aM (cC (cc ab b) (cl ab b)) (cN (cc ab b) (cl ab b))) (B:G bt)) (ta (aL (cC (cc ab b) (cl ab b)) (cN (cc ab b) (cl ab b))) (aM (cC (cc ab b) (cl ab b)) (cN (cc ab b) (cl ab b))) (B:G bt)));exact⟨⟨a.1,c.1,d.1⟩,d.2⟩
def ahH(d:aK ab)(b:Bool):dA (pW ab b (B:G N))/\aK (pV ab b (B:G N)):=by
 have v:=D1 d b;have k:=AK (L:=xN) (fq:=Bd) (e5:=KD) (f:=λr h=>(⟨(h8 r h),(Fj (cC r h) (cN r h)),(Fk (cC r h) (cN r h)),(Fl (cC r h) (cN r h)),(Be (cC r h) (cN r h)),(Bf (cC r h) (cN r h)),(Bg (cC r h) (cN r h)),(cW (tb (cC r h) (cN r h)) (xR (cC r h) (cN r h)))⟩:N)) (λ_ _ _ _=>rfl) (λ_ _ _ _ _=>rfl) (λab b c=>d_ (ahI (eu c) _).2) (P:=λx=>x.w.n<=255/\x.C.n<=255/\x.P.n<=255) (λab b c=>(ahI (eu c) _).1) ((toNat (cD ab b))+1) (cD ab b) (cc ab b) (cl ab b) B (eB d) v.1 v.2 (λi a=>absurd a (eD _));have e:(((pW ab b (B:G N)).n:Nat):Int)<=((0:Nat):Int)+cD ab b:=k.1.1;refine⟨⟨Ω,λi a=> ?_⟩,k.2⟩;have q:=k.1.2 i a;exact⟨dP q.1 Δ,dP q.2.1 Δ,dP q.2.2 Δ⟩
def ahJ(h:aK ab)(b:Bool):eH (pX ab b (B:G ar)):=by
 have v:=D1 h b;have us: ∀(ab:G Int) (b:Bool),aK ab->aK (aL (cC (cc (aL (aL (aL ab b) (aM ab b)) (aM (aL ab b) (aM ab b))) (aM (aL (aL ab b) (aM ab b)) (aM (aL ab b) (aM ab b)))) (cl (aL (aL (aL ab b) (aM ab b)) (aM (aL ab b) (aM ab b))) (aM (aL (aL ab b) (aM ab b)) (aM (aL ab b) (aM ab b))))) (cN (cc (aL (aL (aL ab b) (aM ab b)) (aM (aL ab b) (aM ab b))) (aM (aL (aL ab b) (aM ab b)) (aM (aL ab b) (aM ab b)))) (cl (aL (aL (aL ab b) (aM ab b)) (aM (aL ab b) (aM ab b))) (aM (aL (aL ab b) (aM ab b)) (aM (aL ab b) (aM ab b)))))):=λab b a=>d_ (eu (eB (d_ (d_ (d_ a)))));have k:=AK (L:=E_) (fq:=Bh) (e5:=KE) (f:=aa0) (λ_ _ _ _=>rfl) (λ_ _ _ _ _=>rfl) (λab b a=>(WC (us ab b a) _).2) (P:=λx=>x.P.n<=255) (λab b a=>(WC (us ab b a) _).1) ((toNat (cD ab b))+1) (cD ab b) (cc ab b) (cl ab b) B (eB h) v.1 v.2 (λi c=>absurd c (eD _));have d:(((pX ab b (B:G ar)).n:Nat):Int)<=((0:Nat):Int)+cD ab b:=k.1.1;exact⟨Ω,λi c=>dP (k.1.2 i c) Δ⟩
def apI(h:aK ab):dA (rO ab)/\eH (rP ab):=by
 have a:=ahH (d_ (g:=false) h) (aM ab false);have c:=ahJ (d_ (g:=lQ ab) a.2) (Hw ab);have q1:rO ab=(bif decide ((ab.n:Int)>20000)then B else bif(gm true (pj ab) (qu ab)!=0)then B else bif(ed (cW ab false) (dn ab) (cW (nb ab) (lQ ab)) (ot ab)!=0)then B else dn ab):=rfl;have b:rP ab=(bif decide ((ab.n:Int)>20000)then B else bif(gm true (pj ab) (qu ab)!=0)then B else bif(ed (cW ab false) (dn ab) (cW (nb ab) (lQ ab)) (ot ab)!=0)then B else ot ab):=rfl;rw[q1,b];exact⟨e3 (P:=dA) oM (e3 (P:=dA) oM (e3 (P:=dA) oM a.1)),e3 (P:=eH) oL (e3 (P:=eH) oL (e3 (P:=eH) oL c))⟩
end
def ka(m:aj):Prop:=dA m.b2/\eH m.bb
def eQ(s:G aj):Prop:= ∀j,ka (s.at' j)
def ajs:ka default:=⟨oM,oL⟩
def po{a b c d e f h p q:Int}{g:Bool}{l:G R}{x y:Int} :ka (⟨a,b,c,d,e,f,g,h,l,p,q,x,(B:G N),y,(B:G ar)⟩:aj):=⟨oM,oL⟩
def CY:eQ (B:G aj):=λ_=>ajs
def Xr{s:G aj}{x:aj}(h:eQ s)(a:ka x):eQ (G.app s (G.lit [x])):=by
 intro j;show ka (cond (Nat.blt j s.n) (s.at' j) (([x]:List aj).getD (j-s.n) default));refine e3 (P:=ka) (h j) ?_
 match j-s.n with
 |0=>exact a
 |_+1=>exact ajs
def aid{s:G aj}(h:eQ s)(i j:Nat):eQ (G.del s i j):=by
 intro t;show ka (cond (Nat.blt t i) (s.at' t) (s.at' (t+(j-i))));exact e3 (P:=ka) (h t) (h _)
def aic{n:H}(h:eQ n.bd): ∀(k:Nat) (v:Int) (s:G aj),eQ s->eQ (p9 n k v s)
 |0,_,_,_=>by
  rw[p9];exact CY
 |k+1,v,s,a=>by
  rw[p9];refine e3 (P:=eQ) (aic h k _ _ ?_) a;exact e3 (P:=eQ) (Xr a (h _)) a
structure mH (n:H):Prop where
 m:dA n.dn/\eH n.er
 s:dA n.fi/\eH n.fh
 o:eQ n.bd
def mH.st{n m:H}(h:mH n)(a:m.dn=n.dn)(b:m.er=n.er)(bk:m.fi=n.fi)(c:m.fh=n.fh)(cZ:eQ m.bd):mH m:=
 ⟨by rw[a,b];exact h.m,by rw[bk,c];exact h.s,cZ⟩
def my{n:H}(a:Int){ms:aj}(h:eQ n.bd)(b:ka ms):eQ (dJ a ms n).bd:=by
 show eQ (Gj a ms n);exact e3 (P:=eQ) (Xr h b) h
def aBC{ms:aj}{n:H}(h:eQ n.bd)(a:ka ms):eQ (o4 ms n).bd:=by
 have b:eQ (Gb ms n):=by
  exact e3 (P:=eQ) (my 0 h a) h
 have c:eQ (Gc ms n):=by
  exact e3 (P:=eQ) (my (n:=yj ms n) 1 b a) b
 show eQ (T4 ms n);exact e3 (P:=eQ) (my (n:=yk ms n) 2 c a) c
def aBD{n:H}(h:mH n):eQ (p8 n).bd:=by
 have a:eQ (BL n):=by
  exact e3 (P:=eQ) h.o (e3 (P:=eQ) (my 0 h.o h.s) (my 0 h.o po))
 have b:eQ (BM n):=by
  exact e3 (P:=eQ) a (e3 (P:=eQ) (my (n:=tt n) 1 a h.s) (my (n:=tt n) 1 a po))
 show eQ (yl n);exact e3 (P:=eQ) b (e3 (P:=eQ) (my (n:=tu n) 2 b h.s) (my (n:=tu n) 2 b po))
def aBB{ms:aj}{n:H}(h:eQ n.bd):eQ (vD ms n).bd:=by
 show eQ (ad4 ms n);exact e3 (P:=eQ) (my _ h po) (my _ h po)
section
variable {d:H}
def akh(A:Int)(d:H): ∀(k:Nat) (a:Int) (b:G N) (c:Int) (g:G ar) (e:Int) (f:G bF),dA b->eH g->dA (k7 A d k a b c g e f).2.1/\eH (k7 A d k a b c g e f).2.2.2.1
 |0,_,_,_,_,_,_,_,_=>by
  rw[k7];exact⟨oM,oL⟩
 |k+1,a,b,c,g,e,f,h,i=>by
  rw[k7]
  cases decide (e<A)with
  |false=>exact⟨h,i⟩
  |true=>
   rw[aR];refine akh A d k _ _ _ _ _ _ ?_ ?_
   .exact e3 (P:=dA) (apH h) h
   .exact e3 (P:=eH) (apG h i) i
def ahD(A:Int)(ah:G bF)(h:mH d):mH (lK A d ah):=
 ⟨akh A d _ _ _ _ _ _ _ h.m.1 h.m.2,h.s,h.o⟩
def aAk{ms:aj}(h:mH d)(a:ka ms):mH (k6 ms d):=by
 unfold k6;have k:mH (mj ms d):=by
  refine⟨⟨?_,?_⟩,⟨?_,?_⟩,h.o⟩
  .exact e3 (P:=dA) a.1 h.m.1
  .exact e3 (P:=eH) a.2 h.m.2
  .exact e3 (P:=dA) a.1 h.s.1
  .exact e3 (P:=eH) a.2 h.s.2
 rw[H.eY]
 cases tr ms d
 .exact h.st rfl rfl rfl rfl h.o
 .exact k.st rfl rfl rfl rfl (my _ k.o po)
end
def aCv(C:aA){i:Nat}(a:i<3)(n:H)(L:G aj)(ah:G bF)(au:G aU):(C.put i n L ah au).d i=n:=by
 match i,a with
 |0,_=>rfl
 |1,_=>rfl
 |2,_=>rfl
end Go.Proofs.YtadmdaokcgjdiaaGreatDoor
