import Derived.Test.YtadmdaokcgjdiaaGreatDoorXy
open Go.IntKind (i64 u64 u8)
open Int (toNat)
set_option maxRecDepth 100000
set_option maxHeartbeats 4000000
set_option linter.all false
noncomputable section
namespace Go.Proofs.YtadmdaokcgjdiaaGreatDoor
open Go Go.RowKit Go.af
def fm(x:Int):Prop:=0<=x/\x<=1073741824
def mv:fm 0:=⟨aZ _,Δ⟩
def aAd{ab:G Int}(h:aK ab):fm (rN ab):=by
 have a:=ahH (d_ (g:=false) h) (aM ab false);have c:=ahJ (d_ (g:=lQ ab) a.2) (Hw ab);have b:rN ab=(bif decide ((ab.n:Int)>20000)then 0 else bif(gm true (pj ab) (qu ab)!=0)then 0 else bif(ed (cW ab false) (dn ab) (cW (nb ab) (lQ ab)) (ot ab)!=0)then 0 else cW ab false):=rfl;rw[b];exact dH (P:=fm) mv (dH (P:=fm) mv (Jm (P:=fm) (λ_=>mv) λe=>(g2 _ _ _ _ a.1 c (bK e)).1.1))
def ahx{A:Int}{g:G N}{r h:Int}{o c v:u}{y:Int}(d:fm A):fm (nI A g r h o c v y):=by
 refine dH (P:=fm) mv (Jm (P:=fm) (λ_=>mv) λe=>dH (P:=fm) mv ?_);obtain⟨a,b⟩:=c2 e;have a:=df a;have b:=df b;have:=y5 A r;show fm (imax A r);have f:=d.1;have i:=d.2;exact⟨Ω,Ω⟩
def aAc{A:Int}{g:G N}{r:Int}{h:G ar}{o c v y:Int}{p x ai:u}{bn:Int}(b:fm A):fm (Td A g r h o c v y p x ai bn):=by
 have a:fm (nI A g o 22 ⟨#[]⟩ ⟨#[]⟩ ⟨#[]⟩ 0):=ahx b;exact dH (P:=fm) mv (dH (P:=fm) mv (dH (P:=fm) mv (dH (P:=fm) a (dH (P:=fm) a (dH (P:=fm) a (dH (P:=fm) a (ahx a)))))))
def mk(j a k:Int):Int:=if a=j then(if k=5 then 1016 else if k=7 then 5500 else 0)else 0
def CL(j a k:Int):0<=mk j a k:=by
 unfold mk
 by_cases a=j
 .rw[a5 ‹_›]
  by_cases k=5
  .rw[a5 ‹_›];omega
  .rw[aS ‹_›]
   by_cases k=7
   .rw[a5 ‹_›];omega
   .rw[aS ‹_›];omega
 .rw[aS ‹_›];omega
def aAb(j a:Int){k:Int}(b:k≠5)(c:k≠7):mk j a k=0:=by
 unfold mk;rw[aS b,aS c]
 by_cases a=j
 .rw[a5 ‹_›]
 .rw[aS ‹_›]
def gI(j:Int):List aj->Int
 |[]=>0
 |y::l=>mk j y.F y.z+gI j l
def wB(j:Int): ∀l,0<=gI j l
 |[]=>aZ _
 |y::l=>by
  have:=CL j y.F y.z;have:=wB j l;show 0<=mk j y.F y.z+gI j l;omega
def NP(j:Int): ∀(l k:List aj),gI j (l++k)=gI j l+gI j k
 |[],k=>by show gI j k=0+gI j k;omega
 |y::l,k=>by
  have:=NP j l k;show mk j y.F y.z+gI j (l++k)=mk j y.F y.z+gI j l+gI j k;omega
structure jr (m t:Int) (y:aj):Prop where
 ky:y.f.n=0\/y.w+(y.f.n:Int)<=m
 HD:y.f.n<=8
 D:y.z=1\/y.z=2\/y.M<=t
 it: ∀x∈y.f.B,x.q<=y.M
 s:y.aD<=m/\(0<=y.M/\y.bX<=y.M)/\fm y.b_
def jr.mono{m t m' t':Int}{y:aj}(h:jr m t y)(a:m<=m')(b:t<=t'):jr m' t' y:=
 ⟨h.ky.imp id λq=>by omega,h.HD,h.D.imp id (Or.imp id λq=>by omega),h.it,by have:=h.s.1;omega,h.s.2⟩
def v_{m t a b k u d e p x:Int}{f:Bool}(g:0<=m)(h:k=1\/k=2\/u<=t)(c:0<=u):jr m t ⟨a,b,k,u,d,e,f,p,(B:G R),0,0,0,(B:G N),x,(B:G ar)⟩:=
 ⟨.inl rfl,cp _,h,(λx i=>nomatch i),g,⟨c,c⟩,mv⟩
structure ew (j m t b:Int) (s:G aj):Prop where
 g: ∀y∈s.B,jr m t y
 w:gI j s.B<=b
def CV(j m t:Int):ew j m t 0 (B:G aj):=⟨(λ_ h=>nomatch h),aZ _⟩
def ew.mono{j m t b m' t' b':Int}{s:G aj}(h:ew j m t b s)(c:m<=m')(d:t<=t')(a:b<=b'):ew j m' t' b' s:=⟨λy e=>(h.g y e).mono c d,Int.le_trans h.w a⟩
def WZ{j m t b:Int}{s:G aj}{y:aj}(h:ew j m t b s)(c:jr m t y):ew j m t (b+mk j y.F y.z) (G.app s (G.lit ([y]:List aj))):=by
 have d:=h.w;have e:(G.app s (G.lit ([y]:List aj))).B=s.B++[y]:=by rw[iL,iq]
 refine⟨λx a=> ?_,?_⟩
 .rw[e]at a;rcases gj.1 a with q|q
  .exact h.g x q
  .rw[List.mem_singleton.1 q];exact c
 .rw[e,NP];show gI j s.B+(mk j y.F y.z+0)<=_;omega
section
variable {ax ak aI fp:Int} {m:H}
def WY(a:Int){ms:aj}(h:ew ax ak aI fp m.bd)(b:jr ak aI ms):ew ax ak aI (fp+mk ax a ms.z) (dJ a ms m).bd:=by
 show ew ax ak aI (fp+mk ax a ms.z) (Gj a ms m);have k:=CL ax a ms.z;refine dH (P:=ew ax ak aI (fp+mk ax a ms.z)) ?_ (h.mono (aZ _) (aZ _) Ω);exact WZ h (y:=⟨m.bf,a,ms.z,ms.M,ms.w,ms.C,ms.P,ms.aw,ms.f,ms.aD,ms.bX,ms.b_,ms.b2,ms.cm,ms.bb⟩) ⟨b.ky,b.HD,b.D,b.it,b.s⟩
def ur(a:Int){ms:aj}(h:ew ax ak aI fp m.bd)(d:jr ak aI ms)(b:ms.z≠5)(c:ms.z≠7):ew ax ak aI fp (dJ a ms m).bd:=by
 have k:=WY a h d;rw[aAb ax a b c,Int.add_zero]at k;exact k
def aBr{ms:aj}(h:ew ax ak aI fp m.bd)(c:jr ak aI ms)(a:ms.z≠5)(b:ms.z≠7):ew ax ak aI fp (o4 ms m).bd:=by
 have d:ew ax ak aI fp (Gb ms m):=dH (P:=ew ax ak aI fp) (ur 0 h c a b) h;have e:ew ax ak aI fp (Gc ms m):=dH (P:=ew ax ak aI fp) (ur (m:=yj ms m) 1 d c a b) d;exact dH (P:=ew ax ak aI fp) (ur (m:=yk ms m) 2 e c a b) e
end
def ef(r:Int):Int:=if r=1 then 1 else if r=2 then 1 else 0
def e6(r:Int):Int:=if r=1 then 1 else 0
def nj(r:Int):0<=ef r/\ef r<=1/\0<=e6 r/\e6 r<=1:=by
 unfold ef e6
 by_cases a:r=1
 .rw[a5 a,a5 a];omega
 .rw[aS a,aS a]
  by_cases c:r=2
  .rw[a5 c];omega
  .rw[aS c];omega
structure sz (i m t:Int) (n:H):Prop where
 bf:n.bf=i
 ao:0<=n.ao/\n.ao<=t
 ro:(2<=n.ro->1<=n.ao)/\(n.up=false->n.ro=0)
 bs:fm n.bs/\fm n.ep/\fm n.fI/\n.eU<=n.ao
 gH:0<=m
def sz.mono{i m t m' t':Int}{n:H}(h:sz i m t n)(a:m<=m')(b:t<=t'):sz i m' t' n:=by
 have:=h.ao;have:=h.gH;exact⟨h.bf,Ω,h.ro,h.bs,Ω⟩
def sz.st{i m t:Int}{n a:H}(h:sz i m t n)(e:(a.bf,a.ao,a.ro,a.up,a.bs,a.ep,a.fI,a.eU)=(n.bf,n.ao,n.ro,n.up,n.bs,n.ep,n.fI,n.eU)):sz i m t a:=by
 simp only[pz]at e;obtain⟨c,b,bk,d,cZ,f,g,j⟩:=e;exact⟨by rw[c];exact h.bf,by rw[b];exact h.ao,by rw[b,bk,d];exact h.ro,by rw[b,cZ,f,g,j];exact h.bs,h.gH⟩
structure cb (i j m t B:Int) (n:H):Prop where
 x:sz i m t n
 z:mH n
 w: ∃c b,h0 (i=j) m c n/\ew j m t b n.bd/\c+b+1016*ef n.ro<=B/\0<=c
section
variable {bQ ax ak aI bw:Int} {m:H}
def cb.mono{m' t' B':Int}(h:cb bQ ax ak aI bw m)(a:ak<=m')(b:aI<=t')(d:bw<=B'):cb bQ ax m' t' B' m:=by
 obtain⟨c,fp,w,o,e⟩:=h.w;exact⟨h.x.mono a b,h.z,c,fp,w.mono a λ_=>aZ _,o.mono a b (aZ _),Ω⟩
def cb.nm(h:cb bQ ax ak aI bw m):Ad m:=by
 obtain⟨c,fp,w,_⟩:=h.w;exact w.nm
def cb.D(h:cb bQ ax ak aI bw m):w8 (core m):=by
 obtain⟨c,fp,w,_⟩:=h.w;exact w.D
def cb.pl(h:cb bQ ax ak aI bw m):m.j+(m.li.n:Int)<=ak/\m.j<=ak/\m.bR<=ak:=by
 obtain⟨c,fp,w,_⟩:=h.w;have k:=w.pl h.x.gH;have a:=k.n;rw[show(core m).li=m.li.B from rfl,bc]at a;exact⟨a,k.b,k.s⟩
def cb.last(h:cb bQ ax ak aI bw m):0<=bP m/\bP m=m.j+(m.li.n:Int)/\bP m<=ak:=by
 have e:bP m=m.j+(m.li.n:Int):=Ns h.nm.log;have:=h.pl;have:=h.nm.log.b;exact⟨Ω,e,Ω⟩
def cb.out(h:cb bQ ax ak aI bw m){a:H}{b':Int}(e:(a.a_,a.br,core a,a.ro)=(m.a_,m.br,core m,m.ro))(x:sz bQ ak aI a)(z:mH a)(o: ∀fp,ew ax ak aI fp m.bd->ew ax ak aI (fp+b') a.bd):cb bQ ax ak aI (bw+b') a:=by
 obtain⟨c,fp,w,k,l⟩:=h.w;simp only[pz]at e;obtain⟨b,d,bk,f⟩:=e;exact⟨x,z,c,fp+b',w.same b d bk,o fp k,by rw[f];omega⟩
def cb.st(h:cb bQ ax ak aI bw m){a:H}(e:(a.a_,a.br,core a,a.ro)=(m.a_,m.br,core m,m.ro))(x:sz bQ ak aI a)(z:mH a)(o: ∀fp,ew ax ak aI fp m.bd->ew ax ak aI fp a.bd):cb bQ ax ak aI bw a:=by
 have k:=h.out (b':=0) e x z λfp q=>by rw[Int.add_zero];exact o fp q
 rw[Int.add_zero]at k;exact k
def aeY(a:Int){ms:aj}(h:cb bQ ax ak aI bw m)(d:jr ak aI ms)(e:ka ms)(b:ms.z≠5)(c:ms.z≠7):cb bQ ax ak aI bw (dJ a ms m):=
 h.st rfl (h.x.st rfl) (h.z.st rfl rfl rfl rfl (my a h.z.o e)) λ_ q=>ur a q d b c
def aeT(a:Int)(h:cb bQ ax ak aI bw m):cb bQ ax ak aI bw (rq a m):=by
 have:=h.x.ao;have:=(nj m.ro).2.2.1;exact aeY a h (v_ h.x.gH (.inr (.inr Ω)) h.x.ao.1) po (by show(8:Int)≠5;decide) (by show(8:Int)≠7;decide)
def asI{ms:aj}(h:cb bQ ax ak aI bw m)(a:0<=ms.M):cb bQ ax ak aI bw (vD ms m):=by
 refine h.st rfl (h.x.st rfl) (h.z.st rfl rfl rfl rfl (aBB h.z.o)) λfp q=> ?_;have b:=ur ms.q (ms:=⟨0,0,2,ms.M,0,0,false,0,(B:G R),0,0,0,(B:G N),0,(B:G ar)⟩) q (v_ h.x.gH (.inr (.inl rfl)) a) (by show(2:Int)≠5;decide) (by show(2:Int)≠7;decide);have:=h.x.ao;have:=(nj m.ro).2.2.1;have c:=ur ms.q (ms:=⟨0,0,8,m.ao,0,0,false,0,(B:G R),0,0,0,(B:G N),0,(B:G ar)⟩) q (v_ h.x.gH (.inr (.inr Ω)) h.x.ao.1) (by show(8:Int)≠5;decide) (by show(8:Int)≠7;decide);exact dH (P:=ew ax ak aI fp) b c
def aeV{ms:aj}(h:cb bQ ax ak aI bw m)(c:jr ak aI ms)(d:ka ms)(a:ms.z≠5)(b:ms.z≠7):cb bQ ax ak aI bw (o4 ms m):=
 h.st rfl (h.x.st rfl) (h.z.st rfl rfl rfl rfl (aBC h.z.o d)) λ_ q=>aBr q c a b
def UL(h:cb bQ ax ak aI bw m){a fp:Int}(i:m.ao<=a/\2*m.ao+gZ m.b3<2*a+gZ fp)(j:a<=aI):cb bQ ax ak aI bw (ez a fp m):=by
 obtain⟨c,e,w,o,l⟩:=h.w;have b:(ez a fp m).ao=a\/(ez a fp m).ao=m.ao:=by
  cases q:lI a fp m with
  |true=>exact .inl (Ww q)
  |false=>exact .inr (by rw[NG q])
 have f:=h.x.ao;have g:=h.x.ro.1;have d:=h.x.bs;refine⟨⟨h.x.bf,?_,⟨λr=> ?_,h.x.ro.2⟩,⟨d.1,d.2.1,d.2.2.1,?_⟩,h.x.gH⟩,h.z.st rfl rfl rfl rfl h.z.o,c,e,aE2 w h.x.gH i,o,l⟩
 .rcases b with b|b
  .rw[b];exact⟨Ω,j⟩
  .rw[b];exact f
 .have:=g r;rcases b with b|b<;>rw[b]<;>omega
 .have:=d.2.2.2;show m.eU<=_;rcases b with b|b<;>rw[b]<;>omega
def asT(k:Nat)(h:cb bQ ax ak aI bw m):cb bQ ax ak aI bw (H.kF k m):=by
 match k with
 |0=>exact h.st rfl (h.x.st rfl) (h.z.st rfl rfl rfl rfl h.z.o) λ_ q=>q
 |1=>exact h.st rfl (h.x.st rfl) (h.z.st rfl rfl rfl rfl h.z.o) λ_ q=>q
 |_+2=>exact h.st rfl (h.x.st rfl) (h.z.st rfl rfl rfl rfl h.z.o) λ_ q=>q
end
def aoo{n:H}(L:iZ n.j n.lt n.li.B){p:Int}(d:n.j<=p/\p<=1048577):(kt n.j n.lt n.li p 8).n<=8/\((kt n.j n.lt n.li p 8).n=0\/p+((kt n.j n.lt n.li p 8).n:Int)<=n.j+(n.li.n:Int))/\ ∀x∈(kt n.j n.lt n.li p 8).B,x∈n.li.B:=by
 have b:=L.n;rw[bc]at b;have c:=L.b;have z:(B:G R).n<=8/\((B:G R).n=0\/p+((B:G R).n:Int)<=n.j+(n.li.n:Int))/\ ∀x∈(B:G R).B,x∈n.li.B:=⟨cp _,.inl rfl,λx a=>nomatch a⟩;unfold kt;refine dH (P:=λs:G R=>s.n<=8/\(s.n=0\/p+(s.n:Int)<=n.j+(n.li.n:Int))/\ ∀x∈s.B,x∈n.li.B) z (dH (P:=λs:G R=>s.n<=8/\(s.n=0\/p+(s.n:Int)<=n.j+(n.li.n:Int))/\ ∀x∈s.B,x∈n.li.B) z (Jm (P:=λs:G R=>s.n<=8/\(s.n=0\/p+(s.n:Int)<=n.j+(n.li.n:Int))/\ ∀x∈s.B,x∈n.li.B) (λ_=>z) λe=> ?_));rw[E (p-n.j)];have f:p<=n.j+(n.li.n:Int):=by
  rcases Int.lt_or_le (n.j+(n.li.n:Int)) p with q|q
  .exfalso;unfold gx at e;rw[bj (show¬p<n.j by omega),fl.2 (show p≠n.j by omega),E (p-n.j),bM (show p-n.j>(n.li.n:Int) by omega)]at e;exact absurd e Δ
  .exact q
 have i:=lP (((toNat ((n.li.n:Int)- (p-n.j))):Nat):Int) 8;generalize ff (((toNat ((n.li.n:Int)- (p-n.j))):Nat):Int) 8=u at i |-;refine⟨?_,.inr ?_,λx a=> ?_⟩
 .show(u-0).toNat<=8;omega
 .show p+(((u-0).toNat:Nat):Int)<=_;omega
 .rw[l0 _ _ _ (aZ _) Ω (by show u<=((((n.li.n:Int)- (p-n.j)).toNat:Nat):Int);omega),l0 _ _ _ Ω Ω Ω]at a;exact qS (List.mem_of_mem_take (qS (List.mem_of_mem_take a)))
def aCt(it:R)(n:H):(hQ it n).j=n.j:=by
 show vB it n=_;unfold vB
 cases e:n9 it n with
 |true=>rfl
 |false=>
  unfold n9 at e
  cases a:(hk n.j n.lt n.li (bP n) (eM n) (G.lit ([it]:List R))!=0)with
  |true=>rw[a]at e;cases e
  |false=>
   rw[a]at e
   cases b:(!(hT n.j n.lt n.li (bP n) (eM n) (G.lit ([it]:List R))))with
   |true=>rw[b]at e;cases e
   |false=>exact(zo (bK a) b).1
section
variable {bQ ax ak aI bw:Int} {m:H}
def W_{a:H}{b c to p:Int}(h:cb bQ ax ak aI bw a)(o:ew ax ak aI b m.bd)(w:0<=p/\p<=1048577)(i:p-1<a.j->5500<=c)(t:1016<=c):
  ew ax ak aI (b+if to=ax then c else 0) (cond (decide (i64 (p-1)<a.j)) (dJ to ⟨0,0,7,a.ao,0,0,false,0,B,a.bR,a.eU,a.fI,a.fi,a.gK,a.fh⟩ m).bd (dJ to ⟨0,0,5,a.ao,i64 (p-1),hS a.j a.lt a.li (i64 (p-1)),false,a.co,kt a.j a.lt a.li (i64 (p-1)) 8,0,0,0,B,0,B⟩ m).bd):=by
 have k:=h.x.gH;have d:=h.x.ao;have u:=(nj a.ro).2.2.1;have g:=h.x.bs;have j:=h.pl;have L:=h.nm.log;have v:=L.b;rw[E (p-1)]
 by_cases e:p-1<a.j
 .rw[bM e,aR];have q:=WY to (ms:=⟨0,0,7,a.ao,0,0,false,0,B,a.bR,a.eU,a.fI,a.fi,a.gK,a.fh⟩) o ⟨.inl rfl,cp _,.inr (.inr (by show a.ao<=aI;omega)),(λx f=>nomatch f),j.2.2,⟨d.1,g.2.2.2⟩,g.2.2.1⟩;refine q.mono (aZ _) (aZ _) ?_;show b+mk ax to 7<=_;unfold mk
  by_cases r:to=ax
  .rw[a5 r,a5 r];have:=i e;show b+5500<=b+c;omega
  .rw[aS r,aS r];exact aZ _
 .rw[bj e,aX];obtain⟨l,n,s⟩:=aoo L (p:=p-1) ⟨Ω,Ω⟩;have q:=WY to (ms:=⟨0,0,5,a.ao,p-1,hS a.j a.lt a.li (p-1),false,a.co,kt a.j a.lt a.li (p-1) 8,0,0,0,B,0,B⟩) o ⟨n.imp id λq=>by show p-1+((kt a.j a.lt a.li (p-1) 8).n:Int)<=ak;omega,l,.inr (.inr (by show a.ao<=aI;omega)),λx f=>h.D.2 x (s x f),k,⟨d.1,d.1⟩,mv⟩;refine q.mono (aZ _) (aZ _) ?_;show b+mk ax to 5<=_;unfold mk
  by_cases r:to=ax
  .rw[a5 r,a5 r];show b+1016<=b+c;omega
  .rw[aS r,aS r];exact aZ _
def aeW{c:Int}(h:cb bQ ax ak aI bw m)(g:(0<=m.dO/\m.dO<=1048577)/\(0<=m.dD/\m.dD<=1048577)/\(0<=m.dG/\m.dG<=1048577))(f:(m.dO-1<m.j\/m.dD-1<m.j\/m.dG-1<m.j)->5500<=c)(d:1016<=c):cb bQ ax ak aI (bw+if bQ=ax then 0 else c) (p8 m):=by
 have i:=h.x.bf;refine h.out rfl (h.x.st rfl) (h.z.st rfl rfl rfl rfl (aBD h.z)) λb o=> ?_;have s: ∀{to p:Int} {b:Int} {s:G aj} {X:G aj},ew ax ak aI b s->(ew ax ak aI (b+if to=ax then c else 0) X)->ew ax ak aI (b+if to=ax/\to≠bQ then c else 0) (cond (to==m.bf) s X):=by
  intro to p b s X a k
  by_cases e:to=bQ
  .rw[show(to==m.bf)=true by rw[i,e];exact pA bQ,aS (λq=>q.2 e),Int.add_zero];exact a
  .rw[show(to==m.bf)=false by rw[i];exact fl.2 e]
   by_cases r:to=ax
   .rw[a5 r]at k;rw[a5 ⟨r,e⟩];exact k
   .rw[aS r]at k;rw[aS λq=>r q.1];exact k
 have j:ew ax ak aI _ (BL m):=s (to:=0) (p:=m.dO) o (W_ (m:=m) h o g.1 (λe=>f (.inl e)) d);have hp:ew ax ak aI _ (BM m):=s (to:=1) (p:=m.dD) j (W_ (m:=tt m) h j g.2.1 (λe=>f (.inr (.inl e))) d);have aBq:ew ax ak aI _ (yl m):=s (to:=2) (p:=m.dG) hp (W_ (m:=tu m) h hp g.2.2 (λe=>f (.inr (.inr e))) d);refine ew.mono (s:=yl m) aBq (aZ _) (aZ _) ?_
 by_cases q:bQ=ax
 .rw[a5 q];rw[aS (λr=>r.2 (r.1.trans q.symm)),aS (λr=>r.2 (r.1.trans q.symm)),aS (λr=>r.2 (r.1.trans q.symm))];omega
 .rw[aS q]
  by_cases t:(0:Int)=ax
  .rw[aS (show¬((1:Int)=ax/\(1:Int)≠bQ) by omega),aS (show¬((2:Int)=ax/\(2:Int)≠bQ) by omega)]
   by_cases z:(0:Int)=ax/\(0:Int)≠bQ
   .rw[a5 z];omega
   .rw[aS z];omega
  .rw[aS (show¬((0:Int)=ax/\(0:Int)≠bQ) by omega)]
   by_cases l:(1:Int)=ax/\(1:Int)≠bQ
   .rw[a5 l,aS (show¬((2:Int)=ax/\(2:Int)≠bQ) by omega)];omega
   .rw[aS l]
    by_cases n:(2:Int)=ax/\(2:Int)≠bQ
    .rw[a5 n];omega
    .rw[aS n];omega
def asJ(h:cb bQ ax ak aI bw m)(g:m.ro=1)(x:aI<=1000000):cb bQ ax ak (aI+1) bw (mg m)/\(mg m=m\/(mg m).ro=2):=by
 refine⟨?_,aju m⟩;have t:=h.x.ao;have y:e6 m.ro=1:=by unfold e6;rw[g];rfl
 have i:=h.mono (m':=ak) (t':=aI+1) (B':=bw) (aZ _) Ω (aZ _);rcases aju m with e|e
 .rw[e];exact i
 have n:(m.ao==1048576)=false:=fl.2 Ω;have j:=E (m.ao+1);have A:gZ m.b3<=1:=by
  unfold gZ
  by_cases q:0<=m.b3
  .rw[a5 q];exact aZ _
  .rw[aS q];decide
 have B:0<=gZ m.bf:=by
  unfold gZ
  by_cases q:0<=m.bf
  .rw[a5 q];decide
  .rw[aS q];exact aZ _
 have f:cb bQ ax ak (aI+1) bw (ez (m.ao+1) m.bf m):=UL i ⟨Ω,Ω⟩ Ω;have d:mX m=ez (m.ao+1) m.bf m:=by
  unfold mX Le TX F4 TY;rw[n,j];rfl
 have r:tp m=false->(ez (m.ao+1) m.bf m).ao=m.ao+1:=λq=>by
  unfold tp at q;rw[n,j,aX]at q;exact Ww (by simpa using q)
 unfold mg;rw[H.eY]
 cases q:tp m with
 |true=>rw[aR,d];exact f
 |false=>
  have p:=r q;have a:cb bQ ax ak (aI+1) bw (mX m):=by rw[d];exact f
  have z:(mX m).ao=m.ao+1:=by rw[d];exact p
  have v:=a.x.bs;have k:cb bQ ax ak (aI+1) bw (BE m):=by
   obtain⟨c,b,w,o,l⟩:=a.w;refine⟨⟨a.x.bf,?_,⟨λ_=> ?_,λu=> ?_⟩,a.x.bs,a.x.gH⟩,a.z.st rfl rfl rfl rfl a.z.o,c,b,w.same rfl rfl rfl,o,?_⟩
   .show 0<=(mX m).ao/\(mX m).ao<=aI+1;omega
   .show 1<=(mX m).ao;omega
   .have u:=h.x.ro.2 u;omega
   .have l:c+b+1016*ef m.ro<=bw/\0<=c:=l;have s:ef m.ro=1:=by unfold ef;rw[g];rfl
    show c+b+1016*1<=bw/\0<=c;omega
  rw[aX];refine aeV k (v_ k.x.gH (.inr (.inr ?_)) ?_) po (by show(3:Int)≠5;decide) (by show(3:Int)≠7;decide)
  .show(mX m).ao<=aI+1;omega
  .show 0<=(mX m).ao;omega
def asK{ms:aj}(h:cb bQ ax ak aI bw m)(a:0<=ms.q):cb bQ ax ak aI bw (p6 ms m):=by
 have b:=h.x.ao;have d:=(nj m.ro).2.2.1;have k:cb bQ ax ak aI bw (rr ms m):=by
  have M:m.b3<0->cb bQ ax ak aI bw (ez m.ao ms.q m):=λq=>UL h ⟨aZ _,by
   unfold gZ;rw[aS (show¬0<=m.b3 by omega),a5 a];omega⟩ b.2
  have:rr ms m=m\/(m.b3<0/\rr ms m=ez m.ao ms.q m):=by
   unfold rr TZ ad6 Lf ad7
   by_cases q:m.b3<0
   .rw[bM q]
    cases (!(rI m.j m.lt m.li ms.w ms.C))<;>cases decide (m.b3>=0)<;>cases m.b3 !=ms.q<;>first|exact .inl rfl|exact .inr ⟨q,rfl⟩
   .rw[bj q]
    cases (!(rI m.j m.lt m.li ms.w ms.C))<;>cases decide (m.b3>=0)<;>cases m.b3 !=ms.q<;>exact .inl rfl
  rcases this with e|⟨q,e⟩
  .rw[e];exact h
  .rw[e];exact M q
 have c:=k.x.ao;unfold p6;rw[H.eY]
 cases Lh ms m
 .exact aeY _ k (v_ h.x.gH (.inr (.inr (by show(rr ms m).ao<=aI;omega))) c.1) po (by show(4:Int)≠5;decide) (by show(4:Int)≠7;decide)
 .exact aeT _ k
def aeS{it:R}(h:cb bQ ax ak aI bw m)(f:it.q<=m.ao):cb bQ ax (ak+1) aI (bw+if bQ=ax then 127 else 0) (hQ it m):=by
 have d:=h.x.gH;obtain⟨c,b,w,o,l⟩:=h.w;have x:=h.x.mono (m':=ak+1) (t':=aI) Ω (aZ _);have k:=aE4 w d f;have a:=o.mono (m':=ak+1) (t':=aI) (b':=b) Ω (aZ _) (aZ _);refine⟨x.st rfl,h.z.st rfl rfl rfl rfl h.z.o,?_⟩
 by_cases q:bQ=ax
 .exact⟨c+127,b,k,a,by rw[a5 q];show c+127+b+1016*ef m.ro<=bw+127/\0<=c+127;omega⟩
 .exact⟨c,b,k.mono (aZ _) λe=>absurd e q,a,by rw[aS q];show c+b+1016*ef m.ro<=bw+0/\0<=c;omega⟩
def asL(h:cb bQ ax ak aI bw m)(d:m.ro=2)(s:ak<=900000):cb bQ ax (ak+1) aI bw (tq m)/\(tq m).ro=3:=by
 refine⟨?_,rfl⟩;have k:=h.x.gH;have n:=h.last;have t:=E (bP m+1);have g:cb bQ ax ak aI (bw-1016) (k3 m):=by
  obtain⟨c,b,w,o,l⟩:=h.w;have f:=h.x.ao;have v:e6 m.ro=0:=by unfold e6;rw[d];rfl
  have x:ef m.ro=1:=by unfold ef;rw[d];rfl
  have a:=h.x.ro.1 Ω;refine⟨⟨h.x.bf,f,⟨λ_=>a,λu=>by have u:=h.x.ro.2 u;omega⟩,h.x.bs,k⟩,h.z.st rfl rfl rfl rfl h.z.o,c,b,w.same rfl rfl rfl,o,?_⟩;show c+b+1016*0<=bw-1016/\0<=c;omega
 have a:=aeS (it:=(⟨m.ao,(gV (k3 m)),true,0,0,0,⟨#[]⟩,⟨#[]⟩,⟨#[]⟩,0⟩:R)) g (aZ m.ao);have p:0<=i64 (bP m+1)/\i64 (bP m+1)<=1048577:=by omega
 have i:=aeW (c:=1016) a ⟨p,p,p⟩ (λe=> ?_) (aZ _)
 .have j:cb bQ ax (ak+1) aI _ (tq m):=i;refine j.mono (aZ _) (aZ _) ?_
  by_cases q:bQ=ax
  .rw[a5 q,a5 q];omega
  .rw[aS q,aS q];omega
 .exfalso;have r:(hQ (⟨m.ao,(gV (k3 m)),true,0,0,0,⟨#[]⟩,⟨#[]⟩,⟨#[]⟩,0⟩:R) (k3 m)).j=m.j:=aCt _ _;have e:i64 (bP m+1)-1<(hQ (⟨m.ao,(gV (k3 m)),true,0,0,0,⟨#[]⟩,⟨#[]⟩,⟨#[]⟩,0⟩:R) (k3 m)).j:=by
   rcases e with e|e|e<;>exact e
  rw[r]at e;have:=n.2.1;omega
end
def Wl(A:Int)(d:H): ∀(k:Nat) (a:Int) (b:G N) (c:Int) (h:G ar) (e:Int) (f:G bF),fm a->fm (k7 A d k a b c h e f).1
 |0,_,_,_,_,_,_,_=>by
  rw[k7];exact mv
 |k+1,a,b,c,h,e,f,g=>by
  rw[k7];exact dH (P:=λz:Int×G N×Int×G ar×Int×G bF=>fm z.1) (Wl A d k _ _ _ _ _ _ (dH (P:=fm) (aAc g) g)) g
section
variable {bQ ax ak aI bw:Int} {m:H} {L:G aj} {ah:G bF} {au:G aU}
def aoR(m:H)(L:G aj)(ah:G bF)(au:G aU):o5 m L ah au=m\/ ∃v,o5 m L ah au=lK v m ah:=by
 have b: ∀(k:Nat) (v:Int),(o6 m L ah au k v).1=true-> ∃f,HG (o6 m L ah au k v).2=lK f m ah:=by
  intro k
  induction k with
  |zero=>intro v e;rw[o6]at e;cases e
  |succ k a=>
   intro v e;rw[o6]at e |-;generalize decide (v>m.co)=c at e |-
   cases c with
   |false=>cases e
   |true=>
    generalize vL m v=d at e |-
    cases d with
    |true=>exact⟨v,rfl⟩
    |false=>exact a _ e
 unfold o5;rw[H.eY]
 cases q:(p_ m L ah au).1 with
 |false=>exact .inl rfl
 |true=>exact .inr (b _ _ q)
def aoP(ms:aj)(m:H)(L:G aj)(ah:G bF)(au:G aU)(a:aK m.a_):k4 ms m L ah au=m\/k4 ms m L ah au=dJ ms.q (⟨0,0,6,m.ao,m.co,0,false,0,(B:G R),0,0,0,(B:G N),0,(B:G ar)⟩:aj) m\/k4 ms m L ah au=lK (ff ms.aw (i64 (ms.w+(ms.f.n:Int)))) (dJ ms.q (⟨0,0,6,m.ao,(i64 (ms.w+(ms.f.n:Int))),0,true,0,(B:G R),0,0,0,(B:G N),0,(B:G ar)⟩:aj) (p7 ms m L ah au)) ah:=by
 unfold k4;simp only[H.eY]
 cases hk m.j m.lt m.li ms.w ms.C ms.f !=0
 .cases hT m.j m.lt m.li ms.w ms.C ms.f
  .exact .inr (.inl rfl)
  .cases q:kr ms m L ah au
   .refine .inl ?_;rcases Hs (ms:=ms) (d:=m) (L:=L) (ah:=ah) (au:=au) ((toNat ((i64 ((cn m.j m.lt m.li ms.w ms.C ms.f)+((cd m.j m.lt m.li ms.w ms.C ms.f).n:Int)))+1- (dt m.j m.lt m.li ms.w ms.C ms.f)))+1) (dt m.j m.lt m.li ms.w ms.C ms.f) m.a_ m.br a with⟨r,_⟩|⟨_,r⟩
    .exfalso;have r:(iB ms m L ah au).1=false:=r;unfold kr yi at q;rw[r]at q;revert q
     cases decide (dt m.j m.lt m.li ms.w ms.C ms.f>0)<;>intro q<;>cases q
    .have r:(iB ms m L ah au).2.2.2=wO m L ah au:=r;show HG (iB ms m L ah au).2.2.2=m;rw[r];rfl
   .exact .inr (.inr rfl)
 .exact .inl rfl
def asF(A:Int)(ah:G bF)(h:cb bQ ax ak aI bw m):cb bQ ax ak aI bw (lK A m ah):=
 h.st rfl ⟨h.x.bf,h.x.ao,h.x.ro,⟨h.x.bs.1,Wl A m _ _ _ _ _ _ _ h.x.bs.2.1,h.x.bs.2.2⟩,h.x.gH⟩ (ahD A ah h.z) λ_ o=>o
def afp(m:H):ef (jX m).ro<=ef m.ro/\e6 (jX m).ro=e6 m.ro:=by
 show ef (vE m)<=ef m.ro/\e6 (vE m)=e6 m.ro;unfold vE
 by_cases e:m.ro=2
 .rw[iK.2 e,e]
  decide
 .rw[fl.2 e];exact⟨aZ _,rfl⟩
def asM(h:cb bQ ax ak aI bw m):cb bQ ax ak aI bw (jX m):=by
 have k:=afp m;have a:=h.x.ao;obtain⟨c,b,w,o,l⟩:=h.w;refine⟨⟨h.x.bf,a,⟨λr=>h.x.ro.1 ?_,λu=> ?_⟩,h.x.bs,h.x.gH⟩,h.z.st rfl rfl rfl rfl h.z.o,c,b,w.same rfl rfl rfl,o,Ω⟩
 .have r:2<=vE m:=r;unfold vE at r
  by_cases e:m.ro=2
  .omega
  .rw[fl.2 e]at r;exact r
 .show vE m=0;have u:=h.x.ro.2 u;unfold vE;rw[u];rfl
def asN{ms:aj}(h:cb bQ ax ak aI bw m)(g:jr ak aI ms)(n:0<=ms.w/\ms.w<=1048576)(p:ms.M<=m.ao):cb bQ ax ak aI (bw+if bQ=ax then 1016 else 0) (k4 ms m L ah au)/\(k4 ms m L ah au).ro=m.ro:=by
 have i:=h.x.ao;have t:=g.HD;obtain⟨c,b,w,o,l⟩:=h.w;have W:h0 (bQ=ax) ak (c+if bQ=ax then 1016 else 0) (k4 ms m L ah au):=by
  have q:=aEY (L:=L) (ah:=ah) (au:=au) w h.x.gH g.ky n Ω λx r=>Int.le_trans (g.it x r) p
  by_cases e:bQ=ax
  .rw[a5 e];exact q.mono (aZ _) λ_=>by omega
  .rw[aS e];exact q.mono (aZ _) λz=>absurd z e
 have s:0<=if bQ=ax then(1016:Int)else 0:=by
  by_cases e:bQ=ax
  .rw[a5 e];decide
  .rw[aS e];decide
 generalize (if bQ=ax then(1016:Int)else 0)=e at W s |-;have a: ∀{d:Int} {f:Bool},jr ak aI ⟨0,0,6,m.ao,d,0,f,0,(B:G R),0,0,0,(B:G N),0,(B:G ar)⟩:=λ{d} {f} =>v_ h.x.gH (.inr (.inr i.2)) i.1;have j:(6:Int)≠5:=by decide
 have k:(6:Int)≠7:=by decide
 rcases aoP ms m L ah au w.t.u with q|q|q
 .rw[q]at W |-;exact⟨⟨h.x,h.z,_,b,W,o,Ω⟩,rfl⟩
 .rw[q]at W |-;exact⟨⟨h.x.st rfl,h.z.st rfl rfl rfl rfl (my _ h.z.o po),_,b,W,ur ms.q o a j k,by show c+e+b+1016*ef m.ro<=_/\0<=c+e;omega⟩,rfl⟩
 .rw[q]at W |-;have z:mH (p7 ms m L ah au):=h.z.st rfl rfl rfl rfl h.z.o;exact⟨⟨⟨h.x.bf,h.x.ao,h.x.ro,⟨h.x.bs.1,Wl _ _ _ _ _ _ _ _ _ h.x.bs.2.1,h.x.bs.2.2⟩,h.x.gH⟩,ahD _ _ (z.st rfl rfl rfl rfl (my _ z.o po)),_,b,W,ur (m:=p7 ms m L ah au) ms.q o a j k,by show c+e+b+1016*ef m.ro<=_/\0<=c+e;omega⟩,rfl⟩
def asO{ms:aj}(h:cb bQ ax ak aI bw m)(j:m.j<=m.co)(k:jr ak aI ms)(f:ka ms)(p:ms.M<=m.ao):cb bQ ax ak aI (bw+if bQ=ax then 5500 else 0) (k6 ms m)/\(k6 ms m).ro=m.ro:=by
 have d:=h.x.ao;have g:=k.s;have a:=h.x.bs;have i:ms.bX<=m.ao:=by omega
 obtain⟨c,b,w,o,l⟩:=h.w;have W:h0 (bQ=ax) ak (c+if bQ=ax then 5500 else 0) (k6 ms m):=by
  have q:=aEZ w h.x.gH j f.1 f.2 g.1 i
  by_cases e:bQ=ax
  .rw[a5 e];exact q
  .rw[aS e];exact q.mono (aZ _) λz=>absurd z e
 have n:0<=if bQ=ax then(5500:Int)else 0:=by
  by_cases e:bQ=ax
  .rw[a5 e];decide
  .rw[aS e];decide
 generalize (if bQ=ax then(5500:Int)else 0)=e at W n |-;have Z:mH (k6 ms m):=aAk h.z f;have O:ew ax ak aI b (dJ ms.q (⟨0,0,6,m.ao,ms.aD,0,true,0,(B:G R),0,0,0,(B:G N),0,(B:G ar)⟩:aj) (mj ms m)).bd:=ur (m:=mj ms m) ms.q o (v_ h.x.gH (.inr (.inr d.2)) d.1) (by show(6:Int)≠5;decide) (by show(6:Int)≠7;decide);revert W Z;unfold k6;rw[H.eY]
 cases tr ms m
 .intro W Z;exact⟨⟨h.x.st rfl,Z,_,b,W,o,by show c+e+b+1016*ef m.ro<=_/\0<=c+e;omega⟩,rfl⟩
 .intro W Z;refine⟨⟨⟨h.x.bf,d,h.x.ro,⟨a.1,?_,?_,?_⟩,h.x.gH⟩,Z,_,b,W,O,by show c+e+b+1016*ef m.ro<=_/\0<=c+e;omega⟩,rfl⟩
  .exact dH (P:=fm) g.2.2 a.2.1
  .exact dH (P:=fm) g.2.2 a.2.2.1
  .exact dH (P:=λz=>z<=m.ao) i a.2.2.2
def aeU(k:Nat)(ms:aj)(h:cb bQ ax ak aI bw m):cb bQ ax ak aI bw (BK k ms m L ah au)/\(BK k ms m L ah au).ro=m.ro:=by
 have a:cb bQ ax ak aI bw (ts k ms m)/\(ts k ms m).ro=m.ro:=by
  unfold ts
  match k with
  |0=>exact⟨h.st rfl (h.x.st rfl) (h.z.st rfl rfl rfl rfl h.z.o) λ_ o=>o,rfl⟩
  |1=>exact⟨h.st rfl (h.x.st rfl) (h.z.st rfl rfl rfl rfl h.z.o) λ_ o=>o,rfl⟩
  |_+2=>exact⟨h.st rfl (h.x.st rfl) (h.z.st rfl rfl rfl rfl h.z.o) λ_ o=>o,rfl⟩
 have b:cb bQ ax ak aI bw (Li k ms m)/\(Li k ms m).ro=m.ro:=by
  unfold Li
  match k with
  |0=>exact⟨h.st rfl (h.x.st rfl) (h.z.st rfl rfl rfl rfl h.z.o) λ_ o=>o,rfl⟩
  |1=>exact⟨h.st rfl (h.x.st rfl) (h.z.st rfl rfl rfl rfl h.z.o) λ_ o=>o,rfl⟩
  |_+2=>exact⟨h.st rfl (h.x.st rfl) (h.z.st rfl rfl rfl rfl h.z.o) λ_ o=>o,rfl⟩
 unfold BK;rw[H.eY]
 cases ms.P
 .exact b
 .rw[aR];rcases aoR (ts k ms m) L ah au with q|⟨v,q⟩
  .rw[q];exact a
  .rw[q];exact⟨asF v ah a.1,a.2⟩
end
def ajC{c:e2}{r:bm}(k:DQ c r):c.ao<=(fJ c r).ao:=by
 unfold fJ
 by_cases a:r.q=1
 .rw[a5 a];exact(k.m a).1
 rw[aS a]
 by_cases b:r.q=2
 .rw[a5 b]
  by_cases z:r.M<=c.j
  .rw[a5 z];exact aZ _
  .rw[aS z];exact aZ _
 rw[aS b]
 by_cases z:r.bb>c.bR
 .rw[a5 z];exact aZ _
 .rw[aS z];exact aZ _
def YR: ∀{rs:List bm} {c d sQ:e2} (k:Nat),jt c rs d->sD c rs->jt c (rs.take k) sQ->c.ao<=sQ.ao/\sQ.ao<=d.ao
 |[],c,d,sQ,k,h,_,a=>by
  rw[List.take_nil]at a;have h:c=d:=h;have a:c=sQ:=a;rw[<-h,<-a];exact⟨aZ _,aZ _⟩
 |r::rs,c,d,sQ,0,h,q,a=>by
  rw[List.take_zero]at a;have a:c=sQ:=a;have s:=ajC q.1;have i:=YR (sQ:=fJ c r) 0 h.2 q.2 (by rw[List.take_zero];rfl);rw[<-a];exact⟨aZ _,Int.le_trans s i.2⟩
 |r::rs,c,d,sQ,k+1,h,q,a=>by
  have s:=ajC q.1;have i:=YR k h.2 q.2 a.2;exact⟨Int.le_trans s i.1,i.2⟩
section
variable {bQ ax ak aI bw:Int} {m:H} {L:G aj} {ah:G bF} {au:G aU}
def asQ(h:cb bQ ax ak aI bw m){x:Int}(D:0<=x):cb bQ ax ak aI bw (hF x m):=by
 have C:=h.x.gH;have I:=h.x.ao;have J:=nj m.ro;obtain⟨c,b,w,o,l⟩:=h.w;have H:=Int.le_trans (wB ax m.bd.B) o.w;obtain⟨rs,e,t,f,g,u,v⟩:=w.r;obtain⟨k,⟨T,B,n⟩,E,d,b',i,j,y,z,A⟩:=apx w.t e t f D;have W:h0 (bQ=ax) ak c (hF x m):=⟨T,rs.take k,λr a=>e r (List.mem_of_mem_take a),B,n,aiW k g,λr a=>u r (List.mem_of_mem_take a),λp=>Int.le_trans (abj rs k) (v p)⟩;have fB:=apI (ig d b' i j);have M:dA (hF x m).dn/\eH (hF x m).er:=by rw[z,A];exact fB
 have s:=YR k f g n;have G:0<=(hF x m).ao:=s.1;have K:(hF x m).ao<=m.ao:=s.2;have q:fm (hF x m).ep:=by rw[y];exact aAd (ig d b' i j)
 have F:(hF x m).eU<=(hF x m).ao:=by rw[E];exact W.D.1
 refine⟨⟨h.x.bf,⟨G,Ω⟩,⟨λr=>absurd (show(2:Int)<=0 from r) Δ,λ_=>rfl⟩,⟨h.x.bs.1,q,q,F⟩,C⟩,⟨M,M,CY⟩,c,0,W,CV ax ak aI,?_⟩;show c+0+1016*0<=bw/\0<=c;omega
def asR(h:cb bQ ax ak aI bw m)(f:m.j<=m.co):cb bQ ax ak aI (bw+5500) (lJ m)/\(lJ m).ro=m.ro/\(lJ m).bd=m.bd:=by
 obtain⟨c,b,w,o,l⟩:=h.w;obtain⟨q,d⟩:=aE1 w h.x.gH f h.z.m.1 h.z.m.2;have a:=h.x.bs;revert q d;unfold lJ;simp only[H.eY]
 cases m.co==m.j
 .generalize gn _ m=z
  cases z
  .intro q _;exact⟨⟨h.x.st rfl,h.z.st rfl rfl rfl rfl h.z.o,_,b,q,o,by show c+5500+b+1016*ef m.ro<=_/\0<=c+5500;omega⟩,rfl,rfl⟩
  .intro q d;have s:(ym m).eU<=m.ao:=by
    rcases d with e|e
    .exact Int.le_trans (Int.le_of_eq e) a.2.2.2
    .exact e
   exact⟨⟨⟨h.x.bf,h.x.ao,h.x.ro,⟨a.1,a.2.1,a.2.1,s⟩,h.x.gH⟩,⟨h.z.m,h.z.m,h.z.o⟩,_,b,q,o,by show c+5500+b+1016*ef m.ro<=_/\0<=c+5500;omega⟩,rfl,rfl⟩
 .intro _ _;exact⟨h.mono (aZ _) (aZ _) Ω,rfl,rfl⟩
def asH(aQ:j9)(h:cb bQ ax ak aI bw m):cb bQ ax (ak+1) aI (bw+127) (k2 aQ m)/\(k2 aQ m).ro=m.ro:=by
 have a:cb bQ ax (ak+1) aI (bw+127) m:=h.mono Ω (aZ _) Ω;have k:cb bQ ax (ak+1) aI (bw+127) (hQ (⟨m.ao,(gV m),false,aQ.q,aQ.F,aQ.z,aQ.M,aQ.w,aQ.C,aQ.P⟩:R) m):=(aeS h (aZ m.ao)).mono (aZ _) (aZ _) (by
  by_cases e:bQ=ax
  .rw[a5 e];exact aZ _
  .rw[aS e];omega)
 unfold k2;simp only[H.eY]
 cases !m.up
 .cases m.ro !=3
  .cases !(o3 (⟨m.ao,(gV m),false,aQ.q,aQ.F,aQ.z,aQ.M,aQ.w,aQ.C,aQ.P⟩:R) m)
   .exact⟨k.st rfl (k.x.st rfl) (k.z.st rfl rfl rfl rfl k.z.o) λ_ o=>o,rfl⟩
   .exact⟨k,rfl⟩
  .exact⟨a,rfl⟩
 .exact⟨a,rfl⟩
def l3(bQ ax ak aI bw:Int)(m a:H):Prop:= ∃m' t',ak<=m'/\aI<=t'/\m'+ef a.ro<=ak+ef m.ro/\t'+e6 a.ro<=aI+e6 m.ro/\cb bQ ax m' t' bw a
def UM{a:H}(h:cb bQ ax ak aI bw a)(e:ef a.ro<=ef m.ro/\e6 a.ro<=e6 m.ro):l3 bQ ax ak aI bw m a:=⟨ak,aI,aZ _,aZ _,Ω,Ω,h⟩
def yP{a:H}(h:cb bQ ax ak aI bw a)(e:a.ro=m.ro):l3 bQ ax ak aI bw m a:=UM h (by rw[e];exact⟨aZ _,aZ _⟩)
def l3.le{f:H}{B':Int}(h:l3 bQ ax ak aI bw m f)(g:bw<=B'):l3 bQ ax ak aI B' m f:=by
 obtain⟨m',t',a,b,c,d,e⟩:=h;exact⟨m',t',a,b,c,d,e.mono (aZ _) (aZ _) g⟩
def lM{c:Bool}{x y:H}(a:c=true->l3 bQ ax ak aI bw m x)(b:c=false->l3 bQ ax ak aI bw m y):l3 bQ ax ak aI bw m (H.bif c x y):=by
 rw[H.eY]
 cases c
 .exact b rfl
 .exact a rfl
def aeX{u k:Nat}{ms:aj}(h:cb (u:Int) ax ak aI bw m)(A:ak<=900000/\aI<=900000)(x:m.j<=m.co)(d:jr ak aI ms)(y:ka ms)(w:0<=ms.w/\ms.w<=1048576)(g:ms.z≠1->ms.z≠2->ms.M<=m.ao):l3 (u:Int) ax ak aI (bw+mk ax (u:Int) ms.z) m (RJ u k ms m L ah au):=by
 have z:=CL ax (u:Int) ms.z;have e: ∀{s:H},l3 (u:Int) ax ak aI bw m s->l3 (u:Int) ax ak aI (bw+mk ax (u:Int) ms.z) m s:=λq=>q.le Ω;have n:=asT k h;have o:=(aDU k m).2.1;have r:jr ak aI (pk u k ms):=⟨d.ky,d.HD,d.D,d.it,d.s⟩;have f:l3 (u:Int) ax ak aI bw m m:=yP h rfl;have i:l3 (u:Int) ax ak aI bw m (H.kF k m):=yP n o;unfold RJ;refine lM (λ_=>e (yP (asI (ms:=pk u k ms) h d.s.2.1.1) rfl)) λt=>lM (λ_=>e ?_) λv=>lM (λ_=>e (lM (λ_=>yP (aeT _ h) rfl) λ_=>f)) λ_=>lM (λ_=>e (yP (asK (ms:=pk u k ms) h (Int.natCast_nonneg k)) ?_)) λ_=>lM (λ_=>e ?_) λ_=> ?_
 .refine lM (λc=>lM (λ_=> ?_) λ_=>i) λ_=>f;have j:m.ro=1:=by
   cases q:m.ro==1 with
   |true=>exact eq_of_beq q
   |false=>rw[q]at c;cases c
  obtain⟨a,b⟩:=asJ n (o.trans j) Ω;rcases b with b|b
  .rw[b];exact i
  .refine⟨ak,aI+1,aZ _,Ω,?_,?_,a⟩
   .rw[b,j];exact aZ _
   .rw[b,j];show aI+1+0<=aI+1;omega
 .unfold p6;rw[H.eY]
  cases Lh (pk u k ms) m<;>rfl
 .refine lM (λc=>lM (λ_=> ?_) λ_=>i) λ_=>f;have l:m.ro=2:=eq_of_beq c;obtain⟨a,b⟩:=asL n (o.trans l) Ω;refine⟨ak+1,aI,Ω,aZ _,?_,?_,a⟩
  .rw[b,l];show ak+1+0<=ak+1;omega
  .rw[b,l];exact aZ _
 .have g:=g (fl.1 t) (fl.1 v);have p:=asM h;have B:=afp m;refine lM (λc=> ?_) λ_=>lM (λc=> ?_) λ_=>e (lM (λ_=>lM (λ_=>yP (aeU _ _ h).1 (aeU _ _ h).2) λ_=>f) λ_=>f)
  .rw[eq_of_beq c];have q:=asN (L:=L) (ah:=ah) (au:=au) (ms:=pk u k ms) p r w g;exact UM q.1 (by rw[q.2];omega)
  .rw[eq_of_beq c];have q:=asO (ms:=pk u k ms) p x r y g;exact UM q.1 (by rw[q.2];omega)
def asS{u k:Nat}{ms:aj}(h:cb (u:Int) ax ak aI bw m)(v:ak<=900000/\aI<=900000)(t:m.j<=m.co)(j:jr ak aI ms)(y:ka ms)(s:0<=ms.w/\ms.w<=1048576):l3 (u:Int) ax ak aI (bw+mk ax (u:Int) ms.z) m (rp u k ms m L ah au):=by
 have H:=CL ax (u:Int) ms.z;have A:=h.x.ao;have x:l3 (u:Int) ax ak aI (bw+mk ax (u:Int) ms.z) m m:=(yP h rfl).le Ω;rw[apm];refine lM (λ_=>x) λ_=>lM (λp=> ?_) λp=> ?_
 .cases q:jW ms m with
  |false=>
   have e:fv ms m=m:=by
    unfold fv p4 kp n8 TQ ye TR;rw[q];rfl
   rw[e];refine aeX h v t j y s λa b=> ?_;unfold jW BB at q;rw[fl.2 a,fl.2 b]at q;have q:decide (ms.M>m.ao)=false:=q;have:=df q;omega
  |true=>
   unfold jW at q;have q1:BB ms=false:=by
    cases z:BB ms with
    |false=>rfl
    |true=>rw[z]at q;cases q
   have D:ms.M>m.ao:=by
    rw[q1]at q;exact an q
   have C:ms.M<=aI:=by
    unfold BB at q1;rcases j.D with z|z|z
    .rw[z]at q1;cases q1
    .rw[z]at q1;cases q1
    .exact z
   have g:jW ms m=true:=by
    unfold jW;rw[q1,bM D];rfl
   have I:=nj m.ro;have F:cb (u:Int) ax ak aI bw {m with ro:=0,ws:=(B:G hc)} :=by
    obtain⟨c,b,w,o,l⟩:=h.w;exact⟨⟨h.x.bf,A,⟨λr=>absurd (show(2:Int)<=0 from r) Δ,λ_=>rfl⟩,h.x.bs,h.x.gH⟩,h.z.st rfl rfl rfl rfl h.z.o,c,b,w.same rfl rfl rfl,o,by show c+b+1016*0<=bw/\0<=c;omega⟩
   have J:gZ m.b3<=1:=by
    unfold gZ
    by_cases q:0<=m.b3
    .rw[a5 q];exact aZ _
    .rw[aS q];decide
   have i:cb (u:Int) ax ak aI bw (ez ms.M (-1) {m with ro:=0,ws:=(B:G hc)}):=UL F ⟨by show m.ao<=ms.M;omega,by
    show 2*m.ao+gZ m.b3<2*ms.M+0;omega⟩ C
   have e:fv ms m=ez ms.M (-1) {m with ro:=0,ws:=(B:G hc)} :=by
    unfold fv p4 kp n8 TQ ye TR;rw[g];rfl
   have n:lI ms.M (-1) m=true:=by
    unfold tn at p;rw[g]at p
    cases z:lI ms.M (-1) m with
    |true=>rfl
    |false=>rw[z]at p;cases p
   have E:(fv ms m).ao=ms.M:=by
    show n8 ms m=ms.M;unfold n8;rw[g];exact Ww n
   have ro:(fv ms m).ro=0:=by
    show kp ms m=0;unfold kp;rw[g];rfl
   have i:cb (u:Int) ax ak aI bw (fv ms m):=by rw[e];exact i
   obtain⟨m',t',a,b,c,d,f⟩:=aeX (k:=k) (L:=L) (ah:=ah) (au:=au) i v t j y s λ_ _=>Int.le_of_eq E.symm;rw[ro]at c d;have c:m'+ef _<=ak+0:=c;have d:t'+e6 _<=aI+0:=d;exact⟨m',t',a,b,Ω,Ω,f⟩
 .have n:lI ms.M (-1) m=false:=by
   unfold tn at p
   cases z:lI ms.M (-1) m with
   |false=>rfl
   |true=>
    rw[z]at p;revert p
    cases jW ms m<;>intro p<;>cases p
  rw[NG n];exact x
end
structure jQ (j a s:Int) (C:aA) (m t:Int) (B:Nat->Int) (w:Int):Prop where
 n: ∀i:Nat,i<3->cb (i:Int) j m t (B i) (C.d i)
 o:ew j m t w C.ag
 z:eQ C.ag
 m:0<=m/\m+(ef (C.d 0).ro+ef (C.d 1).ro+ef (C.d 2).ro)<=a
 t:0<=t/\t+(e6 (C.d 0).ro+e6 (C.d 1).ro+e6 (C.d 2).ro)<=a
 b:B 0+B 1+B 2+w<=s
def hY(j a s m t:Int)(C:aA):Prop:= ∃m' t' B w,m<=m'/\t<=t'/\jQ j a s C m' t' B w
section
variable {ax aq sq ak aI fD:Int} {aN:aA} {bw:Nat->Int}
def jQ.le{a c:Int}(h:jQ ax aq sq aN ak aI bw fD)(b:aq<=a)(d:sq<=c):jQ ax a c aN ak aI bw fD:=
 ⟨h.n,h.o,h.z,⟨h.m.1,Int.le_trans h.m.2 b⟩,⟨h.t.1,Int.le_trans h.t.2 b⟩,Int.le_trans h.b d⟩
def jQ.mt(h:jQ ax aq sq aN ak aI bw fD):ak<=aq/\aI<=aq:=by
 have:=h.m;have:=h.t;have:=nj (aN.d 0).ro;have:=nj (aN.d 1).ro;have:=nj (aN.d 2).ro;omega
def UK(h:jQ ax aq sq aN ak aI bw fD){i:Nat}(a:i<3){n:H}{m' t' b' w' fy xq:Int}{L:G aj}(ah:G bF)(au:G aU)(d:cb (i:Int) ax m' t' b' n)(b:ak<=m')(c:aI<=t')(o:ew ax m' t' w' L)(z:eQ L)
  (m:m'+ef n.ro<=ak+ef (aN.d i).ro+fy) (p:t'+e6 n.ro<=aI+e6 (aN.d i).ro+fy) (bk:b'+w'<=bw i+fD+xq):hY ax (aq+fy) (sq+xq) ak aI (aN.put i n L ah au):=by
 have e:=(h.n 0 Δ).mono b c (aZ _);have g:=(h.n 1 Δ).mono b c (aZ _);have j:=(h.n 2 Δ).mono b c (aZ _);have r:=h.m;have s:=h.t;have q:=h.b;have f:=(Od aN i n L ah au).1;refine⟨m',t',λk=>if k=i then b' else bw k,w',b,c,?_,by rw[f];exact o,by rw[f];exact z,?_,?_,?_⟩
 .intro k l
  match i,a,k,l with
  |0,_,0,_=>exact d
  |0,_,1,_=>exact g
  |0,_,2,_=>exact j
  |1,_,0,_=>exact e
  |1,_,1,_=>exact d
  |1,_,2,_=>exact j
  |2,_,0,_=>exact e
  |2,_,1,_=>exact g
  |2,_,2,_=>exact d
 .refine⟨Ω,?_⟩
  match i,a with
  |0,_=>show m'+(ef n.ro+ef (aN.d 1).ro+ef (aN.d 2).ro)<=aq+fy;omega
  |1,_=>show m'+(ef (aN.d 0).ro+ef n.ro+ef (aN.d 2).ro)<=aq+fy;omega
  |2,_=>show m'+(ef (aN.d 0).ro+ef (aN.d 1).ro+ef n.ro)<=aq+fy;omega
 .refine⟨Ω,?_⟩
  match i,a with
  |0,_=>show t'+(e6 n.ro+e6 (aN.d 1).ro+e6 (aN.d 2).ro)<=aq+fy;omega
  |1,_=>show t'+(e6 (aN.d 0).ro+e6 n.ro+e6 (aN.d 2).ro)<=aq+fy;omega
  |2,_=>show t'+(e6 (aN.d 0).ro+e6 (aN.d 1).ro+e6 n.ro)<=aq+fy;omega
 .match i,a with
  |0,_=>show b'+bw 1+bw 2+w'<=sq+xq;omega
  |1,_=>show bw 0+b'+bw 2+w'<=sq+xq;omega
  |2,_=>show bw 0+bw 1+b'+w'<=sq+xq;omega
def jQ.up{D:G aj}{w' s':Int}(h:jQ ax aq sq aN ak aI bw fD)(o:ew ax ak aI w' D)(z:eQ D)(e:w'+sq<=fD+s'):jQ ax aq s' (⟨aN.a,aN.b,aN.c,D,aN.told,aN.bh⟩:aA) ak aI bw w':=by
 have n:=WM aN D;have b:=h.b;exact⟨λi a=>by rw[n i];exact h.n i a,o,z,by rw[n 0,n 1,n 2];exact h.m,by rw[n 0,n 1,n 2];exact h.t,Ω⟩
def aeM(h:jQ ax aq sq aN ak aI bw fD)(p:aq<=900000)(f: ∀i,b7 (aN.d i)){ms:aj}(a:hb ms)(j:jr ak aI ms)(m:ka ms):hY ax aq (sq+mk ax ms.F ms.z) ak aI (lo aN ms):=by
 have to:=a.to;obtain⟨u,l⟩:=wY to.1;have k:=h.mt;unfold lo HC;rw[l,show toNat (u:Int)=u from rfl];have b:u<3:=by omega
 obtain⟨m',t',c,d,n,o,g⟩:=asS (k:=toNat ms.q) (L:=aN.ag) (ah:=aN.told) (au:=aN.bh) (h.n u b) ⟨Ω,Ω⟩ (f u).i.hM j m a.ky;have q:=UK h b (fy:=0) (xq:=mk ax (u:Int) ms.z) (yc u (toNat ms.q) ms (aN.d u) aN.ag aN.told aN.bh) (yb u (toNat ms.q) ms (aN.d u) aN.ag aN.told aN.bh) g c d (h.o.mono c d (aZ _)) h.z Ω Ω Ω;rw[Int.add_zero]at q;have e:ya u (toNat ms.q) ms (aN.d u) aN.ag aN.told aN.bh=aN.ag:=(af4 (f u) a b (by have:=a.lB;omega)).a;rw[e];exact q
def aeN: ∀(l:List aj) {sq ak aI fD:Int} {aN:aA} {bw:Nat->Int},jQ ax aq sq aN ak aI bw fD->aq<=900000->(∀i,b7 (aN.d i))->(∀y∈l,hb y/\jr ak aI y/\ka y)->hY ax aq (sq+gI ax l) ak aI (Rx aN l)
 |[],sq,ak,aI,fD,aN,bw,a,_,_,_=>by
  show hY ax aq (sq+0) ak aI aN;rw[Int.add_zero];exact⟨ak,aI,bw,fD,aZ _,aZ _,a⟩
 |y::l,sq,ak,aI,fD,aN,bw,a,c,j,d=>by
  obtain⟨m,w,z⟩:=d y (List.mem_cons_self ..);obtain⟨m',t',B',w',f,k,o⟩:=aeM a c j m w z;obtain⟨t,u,n,v,p,q,b⟩:=aeN l o c (OQ j m).j λx s=>by
   obtain⟨g,r,h⟩:=d x (List.mem_cons_of_mem _ s);exact⟨g,r.mono f k,h⟩
  refine⟨t,u,n,v,Int.le_trans f p,Int.le_trans k q,?_⟩;have e:sq+mk ax y.F y.z+gI ax l=sq+gI ax (y::l):=by
   show sq+mk ax y.F y.z+gI ax l=sq+(mk ax y.F y.z+gI ax l);omega
  rw[e]at b;exact b
def ahY{n:H}{b:Int}(e:n.bd.n<=300)(h:ew ax ak aI b n.bd): ∀(f v:Nat) (fD:Int) (sq:G aj),ew ax ak aI fD sq->ew ax ak aI (fD+gI ax (n.bd.B.drop v)) (p9 n f (v:Int) sq)
 |0,v,fD,sq,a=>by
  have:=Int.le_trans (wB ax sq.B) a.w;have:=wB ax (n.bd.B.drop v);rw[p9];exact(CV ax ak aI).mono (aZ _) (aZ _) Ω
 |f+1,v,fD,sq,a=>by
  rw[p9]
  by_cases c:(v:Int)<(n.bd.n:Int)
  .rw[bM c,aR];have d:v<n.bd.B.length:=by rw[bc];omega
   have g:n.bd.B[v]∈n.bd.B:=j8 d;have q:n.bd.at' (toNat (v:Int))=n.bd.B[v]:=q3 (i:=v) (cM d);rw[E ((v:Int)+1),show(v:Int)+1=((v+1:Nat):Int) by omega];have k:=CL ax n.bd.B[v].F n.bd.B[v].z;have j:ew ax ak aI (fD+mk ax n.bd.B[v].F n.bd.B[v].z) (BO n (v:Int) sq):=by
    unfold BO;rw[q];exact dH (P:=ew ax ak aI (fD+mk ax n.bd.B[v].F n.bd.B[v].z)) (WZ a (h.g _ g)) (a.mono (aZ _) (aZ _) Ω)
   have r:=ahY e h f (v+1) _ _ j;refine r.mono (aZ _) (aZ _) ?_;rw[qR d];show fD+mk ax n.bd.B[v].F n.bd.B[v].z+gI ax (n.bd.B.drop (v+1))<=fD+(mk ax n.bd.B[v].F n.bd.B[v].z+gI ax (n.bd.B.drop (v+1)));omega
  .rw[bj c,aX];have:=wB ax (n.bd.B.drop v);exact a.mono (aZ _) (aZ _) Ω
def aAj{sq:G aj}{i:Nat}(a:i<sq.n):gI ax (sq.del i (i+1)).B+mk ax (sq.at' i).F (sq.at' i).z=gI ax sq.B:=by
 have b:i<sq.B.length:=by rw[bc];exact a
 have q:sq.at' i=sq.B[i]:=q3 (i:=i) (cM b);rw[Zi sq i a,q,NP];have e:sq.B=sq.B.take i++(sq.B[i]::sq.B.drop (i+1)):=by rw[<-qR b,qL]
 have r:gI ax sq.B=gI ax (sq.B.take i)+gI ax (sq.B[i]::sq.B.drop (i+1)):=by rw[<-NP,<-e]
 rw[r];show _=gI ax (sq.B.take i)+(mk ax sq.B[i].F sq.B[i].z+gI ax (sq.B.drop (i+1)));omega
def W0{sq:G aj}{i:Nat}(a:i<sq.n)(h:ew ax ak aI fD sq):ew ax ak aI (fD-mk ax (sq.at' i).F (sq.at' i).z) (sq.del i (i+1))/\jr ak aI (sq.at' i):=by
 have b:i<sq.B.length:=by rw[bc];exact a
 have q:sq.at' i=sq.B[i]:=q3 (i:=i) (cM b);have d:=aAj (ax:=ax) a;have e:=h.w;refine⟨⟨λy c=> ?_,Ω⟩,by rw[q];exact h.g _ (j8 b)⟩;rw[Zi sq i a]at c;rcases gj.1 c with z|z
 .exact h.g y (List.mem_of_mem_take z)
 .exact h.g y (qS z)
def mN{c:Bool}{X Y:aA}{aq sq:Int}(a:c=true->hY ax aq sq ak aI X)(b:c=false->hY ax aq sq ak aI Y):hY ax aq sq ak aI (aA.bif c X Y):=by
 rw[aA.eY]
 cases c
 .exact b rfl
 .exact a rfl
def fy(k:Int):Int:=if k=1 then 1 else if k=2 then 1 else 0
def nB(k:Int):Int:=if k=3 then 1 else if k=8 then 1 else if k=11 then 1 else 0
def tM(h:jQ ax aq sq aN ak aI bw fD){i:Nat}(g:i<3){n:H}(ah:G bF)(au:G aU){m' t' d e:Int}(j:cb (i:Int) ax m' t' (bw i+e) n)(a:ak<=m')(b:aI<=t')(c:m'+ef n.ro<=ak+ef (aN.d i).ro+d)(f:t'+e6 n.ro<=aI+e6 (aN.d i).ro+d):hY ax (aq+d) (sq+e) ak aI (aN.put i n aN.ag ah au):=
 UK h g ah au j a b (h.o.mono a b (aZ _)) h.z c f Ω
def jQ.x(h:jQ ax aq sq aN ak aI bw fD){a b:Int}(c:aq<=a)(d:sq<=b):hY ax a b ak aI aN:=⟨ak,aI,bw,fD,aZ _,aZ _,h.le c d⟩
def hY.le{a b:Int}(h:hY ax aq sq ak aI aN)(c:aq<=a)(d:sq<=b):hY ax a b ak aI aN:=by
 obtain⟨m',t',B',w',x,y,g⟩:=h;exact⟨m',t',B',w',x,y,g.le c d⟩
def asG{i:Int}{b:Int}{n:H}(h:cb i ax ak aI b n)(f:n.up=true){ac:a7}(d:ac.q=2):cb i ax ak aI (b+1016) (o2 ac n)/\(o2 ac n=n\/(o2 ac n).ro=1):=by
 have a:=h.x.ao;unfold o2;rw[d];simp only[H.eY];show cb i ax ak aI (b+1016) (cond (vA n) (o4 (⟨0,0,1,(i64 (n.ao+1)),(bP (me n)),(p5 (me n)),false,0,(B:G R),0,0,0,(B:G N),0,(B:G ar)⟩:aj) (me n)) n)/\((cond (vA n) (o4 (⟨0,0,1,(i64 (n.ao+1)),(bP (me n)),(p5 (me n)),false,0,(B:G R),0,0,0,(B:G N),0,(B:G ar)⟩:aj) (me n)) n)=n\/(cond (vA n) (o4 (⟨0,0,1,(i64 (n.ao+1)),(bP (me n)),(p5 (me n)),false,0,(B:G R),0,0,0,(B:G N),0,(B:G ar)⟩:aj) (me n)) n).ro=1)
 cases e:vA n with
 |false=>exact⟨h.mono (aZ _) (aZ _) Ω,.inl rfl⟩
 |true=>
  have q:n.ao<1048576:=by
   unfold vA at e
   cases z:n.ro !=3 with
   |false=>rw[z]at e;cases e
   |true=>rw[z]at e;exact an e
  have g:=E (n.ao+1);have k:cb i ax ak aI (b+1016) (me n):=by
   obtain⟨c,b',fD,o,l⟩:=h.w;have j:=nj n.ro;refine⟨⟨h.x.bf,a,⟨λr=>absurd (show(2:Int)<=1 from r) Δ,λu=>by cases f.symm.trans u⟩,h.x.bs,h.x.gH⟩,h.z.st rfl rfl rfl rfl h.z.o,c,b',fD.same rfl rfl rfl,o,?_⟩;show c+b'+1016*1<=b+1016/\0<=c;omega
  exact⟨aeV k (v_ k.x.gH (.inl rfl) (by rw[g];omega)) po (by show(1:Int)≠5;decide) (by show(1:Int)≠7;decide),.inr rfl⟩
def asP{i:Int}{b:Int}{n:H}(h:cb i ax ak aI b n):cb i ax ak aI (b-gI ax n.bd.B) (rA n):=by
 obtain⟨c,b',fD,o,l⟩:=h.w;have:=o.w;exact⟨h.x.st rfl,h.z.st rfl rfl rfl rfl CY,c,0,aE0 fD,CV ax ak aI,by show c+0+1016*ef n.ro<=_/\0<=c;omega⟩
end
section
variable {ax aq sq ak aI fD:Int} {aN:aA} {bw:Nat->Int}
def asz(h:jQ ax aq sq aN ak aI bw fD)(j: ∀i,b7 (aN.d i)){i:Nat}(a:i<3)(q:Int){ac:a7}(f:q=2\/q=3\/q=9\/q=11)(o:ak<=900000)(m:0<=ac.z):hY ax (aq+fy q) (sq+(5500*nB q+1016*fy q)) ak aI (aN.put i (rm q i ac (aN.d i)) (p2 q i ac (aN.d i) aN.ag) aN.told aN.bh):=by
 have L:p2 q i ac (aN.d i) aN.ag=aN.ag:=by
  unfold p2 yf;rcases f with e|e|e|e<;>rw[e]<;>simp
 rw[L];have b:=h.n i a;have p:=nj (aN.d i).ro;have n:cb (i:Int) ax ak aI (bw i+0) (aN.d i):=by rw[Int.add_zero];exact b
 unfold rm;rw[H.eY]
 cases l:(aN.d i).up with
 |false=>
  have k:=tM (d:=0) (e:=0) h a aN.told aN.bh n (aZ _) (aZ _) Ω Ω;refine k.le ?_ ?_<;>rcases f with e|e|e|e<;>rw[e]<;>unfold fy<;>(try unfold nB)<;>simp<;>omega
 |true=>
  rw[aR];rcases f with e|e|e|e
  .obtain⟨g,r⟩:=asG (ac:=⟨q,(i:Int),ac.z,ac.M,ac.w,ac.C,ac.P,ac.aw,ac.f,ac.aD⟩) b l e;rw[e]at g r |-;refine tM (d:=1) (e:=1016) h a aN.told aN.bh g (aZ _) (aZ _) ?_ ?_
   .rcases r with r|r
    .rw[r];omega
    .rw[r];show ak+1<=_;omega
   .rcases r with r|r
    .rw[r];omega
    .rw[r];show aI+1<=_;omega
  .rw[e];show hY ax (aq+0) (sq+5500) ak aI (aN.put i (H.bif ((aN.d i).ro==3) (p8 (aN.d i)) (aN.d i)) aN.ag aN.told aN.bh);have g:cb (i:Int) ax ak aI (bw i+5500) (H.bif ((aN.d i).ro==3) (p8 (aN.d i)) (aN.d i))/\(H.bif ((aN.d i).ro==3) (p8 (aN.d i)) (aN.d i)).ro=(aN.d i).ro:=by
    rw[H.eY]
    cases (aN.d i).ro==3 with
    |false=>exact⟨b.mono (aZ _) (aZ _) Ω,rfl⟩
    |true=>
     refine⟨(aeW (c:=5500) b (j i).i.pp (λ_=>aZ _) Δ).mono (aZ _) (aZ _) ?_,rfl⟩
     by_cases z:(i:Int)=ax
     .rw[a5 z];omega
     .rw[aS z];exact aZ _
   exact tM (d:=0) (e:=5500) h a aN.told aN.bh g.1 (aZ _) (aZ _) (by rw[g.2];omega) (by rw[g.2];omega)
  .rw[e];show hY ax (aq+0) (sq+0) ak aI (aN.put i (hF ac.z (aN.d i)) aN.ag aN.told aN.bh);have g:=asQ b m;have z:ef (hF ac.z (aN.d i)).ro=0/\e6 (hF ac.z (aN.d i)).ro=0:=⟨rfl,rfl⟩;exact tM (d:=0) (e:=0) h a aN.told aN.bh (by rw[Int.add_zero];exact g) (aZ _) (aZ _) (by rw[z.1];omega) (by rw[z.2];omega)
  .rw[e];show hY ax (aq+0) (sq+5500) ak aI (aN.put i (lJ (aN.d i)) aN.ag aN.told aN.bh);have g:=asR b (j i).i.hM;exact tM (d:=0) (e:=5500) h a aN.told aN.bh g.1 (aZ _) (aZ _) (by rw[g.2.1];omega) (by rw[g.2.1];omega)
def asy{k:Nat}{ac:a7}(h:jQ ax aq sq aN ak aI bw fD)(f:hA k aN)(n:DE ac)(w:aq<=900000)(v:ac.q=5->ac.z<=1073741824):hY ax (aq+fy ac.q) (sq+(5500*nB ac.q+1016*fy ac.q)) ak aI (ln aN ac):=by
 have s:=ajD (L:=aN.ag) n.lS;have P:=h.mt;have b:toNat ac.F<3:=by have:=n.d;omega
 have a:=h.n _ b;have U:=nj (aN.d (toNat ac.F)).ro;have M:0<=fy ac.q/\0<=5500*nB ac.q+1016*fy ac.q:=by
  unfold fy nB;refine⟨?_,?_⟩<;>split<;>(try split)<;>(try split)<;>(try split)<;>omega
 have same:hY ax (aq+fy ac.q) (sq+(5500*nB ac.q+1016*fy ac.q)) ak aI aN:=h.x Ω Ω;have x: ∀{q:Int},(ac.q==q)=true->(q=2\/q=3\/q=9\/q=11)->hY ax (aq+fy ac.q) (sq+(5500*nB ac.q+1016*fy ac.q)) ak aI (aN.put (toNat ac.F) (rm q (toNat ac.F) ac (aN.d (toNat ac.F))) (p2 q (toNat ac.F) ac (aN.d (toNat ac.F)) aN.ag) aN.told aN.bh):=λ{q} e J=>by
  rw[eq_of_beq e];exact asz h f.j b q J Ω n.lS
 unfold ln;refine mN (λe=> ?_) λ_=>mN (λe=>x e (.inl rfl)) λ_=>mN (λe=>x e (.inr (.inl rfl))) λ_=>mN (λ_=> ?_) λ_=>mN (λe=> ?_) λ_=>mN (λ_=> ?_) λ_=>mN (λ_=> ?_) λ_=>mN (λe=> ?_) λ_=>mN (λe=>x e (.inr (.inr (.inl rfl)))) λ_=>mN (λ_=> ?_) λ_=>mN (λe=>x e (.inr (.inr (.inr rfl)))) λ_=> ?_
 .rw[eq_of_beq e];obtain⟨g,r⟩:=asH ⟨ac.M,ac.w,ac.C,ac.P,ac.aw,ac.f,ac.aD⟩ a;exact tM (d:=1) (e:=1016) h b _ aN.bh (g.mono (aZ _) (aZ _) Ω) Ω (aZ _) (by show ak+1+ef (k2 _ (aN.d (toNat ac.F))).ro<=_;rw[r];omega) (by show aI+e6 (k2 _ (aN.d (toNat ac.F))).ro<=_;rw[r];omega)
 .refine hY.le (aq:=aq) (sq:=sq) ?_ Ω Ω;have q:WD (toNat ac.F) aN ac=aN.put (toNat ac.F) (cond (aN.d (toNat ac.F)).up (rA (aN.d (toNat ac.F))) (aN.d (toNat ac.F))) (cond (aN.d (toNat ac.F)).up (BN (aN.d (toNat ac.F)) aN.ag) aN.ag) aN.told aN.bh:=by
   unfold WD
   congr 1
   .show H.bif _ _ _=_;rw[H.eY];rfl
  rw[q];have m:=tM (d:=0) (e:=0) h b aN.told aN.bh (by rw[Int.add_zero];exact a) (aZ _) (aZ _) Ω Ω;rw[Int.add_zero,Int.add_zero]at m
  cases (aN.d (toNat ac.F)).up with
  |false=>exact m
  |true=>
   rw[aR,aR];obtain⟨c,b',w',o,l⟩:=a.w;have O:=ahY (f.on _) o ((toNat ((((aN.d (toNat ac.F)).bd.n:Nat):Int)-0))+1) 0 fD aN.ag h.o;rw[List.drop_zero]at O;have k:=UK h b (fy:=0) (xq:=0) aN.told aN.bh (asP a) (aZ _) (aZ _) (L:=BN (aN.d (toNat ac.F)) aN.ag) O (aic a.z.o _ _ _ h.z) (by show ak+ef (aN.d (toNat ac.F)).ro<=_;omega) (by show aI+e6 (aN.d (toNat ac.F)).ro<=_;omega) Ω;rw[Int.add_zero,Int.add_zero]at k;exact k
 .have v:=v (eq_of_beq e);have T:=n.lS;rw[WE,OE];refine hY.le (tM (d:=0) (e:=0) h b aN.told aN.bh ?_ (aZ _) (aZ _) (by show ak+ef (aN.d (toNat ac.F)).ro<=_;omega) (by show aI+e6 (aN.d (toNat ac.F)).ro<=_;omega)) Ω Ω;have p:=a.x.bs;have F:=p.1.1;have z:=p.1.2;have K:=lP (i64 ((aN.d (toNat ac.F)).bs+ac.z)) 1073741824;rw[E ((aN.d (toNat ac.F)).bs+ac.z)]at K;have N:fm (K6 ac (aN.d (toNat ac.F))).bs:=by
   show fm (ff (i64 ((aN.d (toNat ac.F)).bs+ac.z)) 1073741824);rw[E ((aN.d (toNat ac.F)).bs+ac.z)];exact⟨Ω,Ω⟩
  rw[Int.add_zero];exact a.st rfl ⟨a.x.bf,a.x.ao,a.x.ro,⟨N,p.2⟩,a.x.gH⟩ (a.z.st rfl rfl rfl rfl a.z.o) λ_ o=>o
 .refine mN (λe=> ?_) λ_=>same;have e:=an e;have A:hj ac aN.ag<(aN.ag.n:Int):=s;have D:=f.nu;have j:toNat (hj ac aN.ag)<aN.ag.n:=by omega
  have t:toNat (i64 (hj ac aN.ag+1))=toNat (hj ac aN.ag)+1:=by
   rw[E _];omega
  have I:=f.Am _ j;obtain⟨O,G⟩:=W0 j h.o;rw[<-t]at O;have u:=h.up (s':=sq-mk ax (aN.ag.at' (toNat (hj ac aN.ag))).F (aN.ag.at' (toNat (hj ac aN.ag))).z) O (aid h.z _ _) Ω;have k:=aeM u w (λi=>by rw[WM aN _ i];exact f.j i) I G (h.z _);exact hY.le k Ω Ω
 .refine mN (λe=> ?_) λ_=>same;have e:=an e;have A:hP ac aN.ag<(aN.ag.n:Int):=s;have D:=f.nu;have j:toNat (hP ac aN.ag)<aN.ag.n:=by omega
  have t:toNat (i64 (hP ac aN.ag+1))=toNat (hP ac aN.ag)+1:=by
   rw[E _];omega
  obtain⟨O,G⟩:=W0 j h.o;rw[<-t]at O;have Q:=CL ax (aN.ag.at' (toNat (hP ac aN.ag))).F (aN.ag.at' (toNat (hP ac aN.ag))).z;exact(h.up (s':=sq) O (aid h.z _ _) Ω).x Ω Ω
 .refine mN (λc=> ?_) λ_=>same;have A:ko ac aN.ag<(aN.ag.n:Int):=s;have F:ko ac aN.ag>=0:=by
   unfold x9 at c
   cases m:decide (ko ac aN.ag>=0)with
   |true=>exact an m
   |false=>rw[m]at c;cases c
  have j:toNat (ko ac aN.ag)<aN.ag.n:=by omega
  have G:=(W0 j h.o).2;have R:mk ax (aN.ag.at' (toNat (ko ac aN.ag))).F (aN.ag.at' (toNat (ko ac aN.ag))).z<=5500:=by
   unfold mk
   split<;>(try split)<;>(try split)<;>omega
  rw[eq_of_beq e];exact(h.up (s':=sq+5500) (WZ h.o G) (Xr h.z (h.z _)) Ω).x (by show aq<=aq+0;omega) (by show sq+5500<=sq+5500;omega)
 .rw[WG,OE];refine hY.le (tM (d:=0) (e:=0) h b aN.told aN.bh ?_ (aZ _) (aZ _) (by show ak+ef (aN.d (toNat ac.F)).ro<=_;omega) (by show aI+e6 (aN.d (toNat ac.F)).ro<=_;omega)) Ω Ω;rw[Int.add_zero];exact a.st rfl ⟨a.x.bf,a.x.ao,⟨a.x.ro.1,λu=>by cases u⟩,a.x.bs,a.x.gH⟩ (a.z.st rfl rfl rfl rfl a.z.o) λ_ o=>o
 .rw[show x_ aN.ag aN=_ from aqH f];have o:=h.o;have S:=o.w;have u:jQ ax aq (sq-gI ax aN.ag.B) (OO aN B) ak aI bw 0:=h.up (CV ax ak aI) CY Ω;have k:=aeN aN.ag.B u w (λi=>by rw[show(OO aN B).d i=aN.d i from WM aN _ i];exact f.j i) λy C=>by
   obtain⟨i,b⟩:=qN C;have j:i<aN.ag.n:=by
    rw[<-bc aN.ag];exact(il.1 b).1
   have g:=o.g y C;rw[hz aN.ag j]at b;have e:=jM b;rw[<-e]at g |-;exact⟨f.Am i j,g,h.z i⟩
  exact hY.le k Ω Ω
end
def DK(j:Int)(k:Nat)(C:aA):Prop:= ∃a b m t B w,(0<=a/\0<=b/\a+b<=(k:Int))/\jQ j a (5500*b+1016*a) C m t B w
def asD(j:Int):DK j 0 vy:=by
 have d: ∀(i:Int) (n:H),n.a_=B->n.br=0->core n=nx->(n.dn,n.er,n.fi,n.fh,n.bd)=(B,B,B,B,B)->(n.bf,n.ro,n.bs,n.ep,n.fI,n.eU)=(i,0,0,0,0,0)->cb i j 0 0 0 n:=by
  intro i n a e f g h;simp only[pz]at g h;obtain⟨m,o,p,q,k⟩:=g;obtain⟨s,b,d3,t,d5,u⟩:=h;have l:n.ao=0:=by
   show(core n).ao=0;rw[f];rfl
  refine⟨⟨s,by rw[l];decide,⟨λr=>by rw[b]at r;exact absurd r Δ,λ_=>b⟩,by rw[d3,t,d5,u,l];exact⟨mv,mv,mv,aZ _⟩,aZ _⟩,⟨by rw[m,o];exact⟨oM,oL⟩,by rw[p,q];exact⟨oM,oL⟩,by rw[k];exact CY⟩,0,0,⟨⟨?_,?_,?_,?_⟩,[],(λr c=>nomatch c),?_,?_,trivial,(λr c=>nomatch c),λ_=>aZ _⟩,by rw[k];exact CV j 0 0,by rw[b];decide⟩
  .rw[a];exact YY
  .rw[a];exact cp _
  .rw[e];exact aZ _
  .rw[a,e];exact aZ _
  .rw[a];rfl
  .rw[f];rfl
 refine⟨0,0,0,0,λ_=>0,0,⟨aZ _,aZ _,Δ⟩,⟨λi v=> ?_,CV j 0 0,CY,?_,?_,Δ⟩⟩
 .match i,v with
  |0,_=>exact d _ _ rfl rfl rfl rfl rfl
  |1,_=>exact d _ _ rfl rfl rfl rfl rfl
  |2,_=>exact d _ _ rfl rfl rfl rfl rfl
 .exact⟨aZ _,(by decide:(0:Int)+(0+0+0)<=0)⟩
 .exact⟨aZ _,(by decide:(0:Int)+(0+0+0)<=0)⟩
def asE{j:Int}{k q:Nat}{C:aA}{ac:a7}(h:DK j k C)(r:k<3000)(f:hA q C)(i:DE ac)(d:ac.q=5->ac.z<=1073741824):DK j (k+1) (ln C ac):=by
 obtain⟨a,b,m,t,B,w,⟨l,o,n⟩,g⟩:=h;obtain⟨m',t',B',w',_,_,c⟩:=asy g f i Ω d;have p:0<=fy ac.q/\0<=nB ac.q/\fy ac.q+nB ac.q<=1:=by
  unfold fy nB
  split
  .rename_i e;rw[e];decide
  .split
   .rename_i e;rw[e];decide
   .split
    .omega
    .split
     .omega
     .split<;>omega
 refine⟨a+fy ac.q,b+nB ac.q,m',t',B',w',⟨Ω,Ω,Ω⟩,?_⟩;rw[show 5500*(b+nB ac.q)+1016*(a+fy ac.q)=5500*b+1016*a+(5500*nB ac.q+1016*fy ac.q) by omega];exact c
def aeQ(j:Int){l:List a7}(h: ∀a∈l,jN a)(c: ∀a∈l,a.q=5->a.z<=1073741824)(f:l.length<=3000): ∀m,m<=l.length->DK j m (kQ (l.take m))
 |0,_=>by
  rw[List.take_zero];exact asD j
 |m+1,i=>by
  have b:m<l.length:=by omega
  rw[List.take_add_one,cM b,aa_];have g:=aBs (l:=l.take m) (λa e=>h a (List.mem_of_mem_take e)) (by rw[iJ];omega);have d:=aba g;rw[iq]at d;exact asE (aeQ j h c f m Ω) Ω d (QZ (h l[m] (j8 b))) (c l[m] (j8 b))
def aEU{rc:bm}{d:H}(c:u5 d.a_ d.br)(f:hK rc)(g:(d.a_.n:Int)+((dY rc).length:Int)<=400000):gn rc d=true:=by
 obtain⟨i,l,hp⟩:=zw (a:=d.a_) (b:=d.br) c.s.1 c.s.2 c.n;obtain⟨e,m_,k⟩:=JH f;have h:(jB rc.q rc.F rc.z rc.M rc.w rc.C rc.P rc.aw rc.f rc.aD rc.bX rc.b_ rc.b2 rc.cm rc.bb rc.cO rc.eK rc.ek rc.eL rc.en).n=(fg rc).length:=by rw[<-bc,e]
 have j:=c.n;rw[(xy f).1]at g;have z:fA rc.q rc.F rc.z rc.M rc.w rc.C rc.P rc.aw rc.f rc.aD rc.bX rc.b_ rc.b2 rc.cm rc.bb rc.cO rc.eK rc.ek rc.eL rc.en=0:=f.c;unfold gn vZ;rw[hp,i,z,h,E ((d.a_.n:Int)+3),E ((d.a_.n:Int)+3+_),bj Ω];rfl
def aaS{x:R}(m:mG x): ∀{l:List R} {t u:Int},nq t u l->t<=x.q->u<=x.F->(∀y∈l,y.q<=x.q)->(∀y,l.getLast? =some y->y.F<=x.F)->nq t u (l++[x])
 |[],t,u,_,g,i,_,_=>⟨m,g,i,trivial⟩
 |y::l,t,u,h,g,i,j,f=>by
  refine⟨h.1,h.2.1,h.2.2.1,aaS m h.2.2.2 (j y (List.mem_cons_self ..)) ?_ (λz d=>j z (List.mem_cons_of_mem _ d)) λz d=> ?_⟩
  .cases l with
   |nil=>exact f y rfl
   |cons z l=>
    have q: ∀{l:List R} {t u:Int},nq t u l-> ∀w,l.getLast? =some w->u<=w.F:=by
     intro l
     induction l with
     |nil=>intro t u _ w c;cases c
     |cons a l n=>
      intro t u k w c
      cases l with
      |nil=>
       have c:a=w:=jM c;rw[<-c];exact k.2.2.1
      |cons b l=>
       rw[List.getLast?_cons_cons]at c;exact Int.le_trans k.2.2.1 (n k.2.2.2 w c)
    have e: ∃w,(z::l).getLast? =some w:=⟨_,List.getLast?_eq_getLast (List.cons_ne_nil z l)⟩;obtain⟨w,c⟩:=e;exact Int.le_trans (q h.2.2.2 w c) (f w (by rw[List.getLast?_cons_cons];exact c))
  .cases l with
   |nil=>cases d
   |cons a l=>exact f z (by rw[List.getLast?_cons_cons];exact d)
def Ro{x:R} : ∀{l:List R} {t u:Int},nq t u l->x∈l->mG x
 |[],_,_,_,h=>nomatch h
 |_::_,_,_,c,h=>by
  rcases iI.1 h with e|e
  .rw[e];exact c.1
  .exact Ro c.2.2.2 e
def azd{s:G R}(h:0<s.n):s.B.getLast? =some (s.at' (s.n-1)):=by
 rw[List.getLast?_eq_getElem?,bc];exact hz s Ω
section
variable {bQ ax ak aI bw:Int} {m:H}
def aCw(h:cb bQ ax ak aI bw m){it:R}(f:mG it)(r:it.q=m.ao)(J:it.F=gV m)(Z:m.j+(m.li.n:Int)<=199)(gD:(m.a_.n:Int)+127<=400000):o3 it m=true/\(hQ it m).li.n=m.li.n+1:=by
 have L:=h.nm.log;have T:=h.D;have H:=L.n;rw[bc]at H;have F:=L.b;have q:=L.t;have p:bP m=m.j+(m.li.n:Int):=Ns L;have v:=zB f;have Q:eM m=h7 m.j m.lt m.li (m.j+(m.li.n:Int))/\0<=eM m/\eM m<=m.ao/\(m.j+(m.li.n:Int)=0↔eM m=0):=by
  show yI m.j m.lt m.li=_/\0<=yI m.j m.lt m.li/\yI m.j m.lt m.li<=m.ao/\(_↔yI m.j m.lt m.li=0);unfold yI EW h7;rw[mY.2 L,bj (show¬m.j+(m.li.n:Int)<m.j by omega),E (m.j+(m.li.n:Int)-m.j),bj (show¬m.j+(m.li.n:Int)-m.j>(m.li.n:Int) by omega),E ((m.li.n:Int)-1),E (m.j+(m.li.n:Int)-m.j-1),show m.j+(m.li.n:Int)-m.j-1=(m.li.n:Int)-1 by omega]
  by_cases c:(m.li.n:Int)>0
  .rw[bM c,fl.2 (show m.j+(m.li.n:Int)≠m.j by omega)];have I:(m.li.n:Int)-1=((m.li.n-1:Nat):Int):=by omega
   have n:m.li.n-1<m.li.B.length:=by rw[bc];omega
   have e:m.li.at' (toNat ((m.li.n:Int)-1))=m.li.B[m.li.n-1]:=by
    rw[I];exact q3 (i:=m.li.n-1) (cM n)
   have w:=T.2 _ (j8 n);have X:1<=m.li.B[m.li.n-1].q:=(zB (Ro L.c (j8 n))).1.1.1;refine⟨rfl,?_,?_,?_⟩
   .show 0<=(m.li.at' (toNat ((m.li.n:Int)-1))).q;rw[e];omega
   .show(m.li.at' (toNat ((m.li.n:Int)-1))).q<=m.ao;rw[e];exact w
   .show _↔(m.li.at' (toNat ((m.li.n:Int)-1))).q=0;rw[e];exact⟨λz=>by omega,λz=>by omega⟩
  .rw[bj c,iK.2 (show m.j+(m.li.n:Int)=m.j by omega)];have z:=L.z;exact⟨rfl,q.1,T.1,⟨λy=>z.1 Ω,λy=>by have:=z.2 y;omega⟩⟩
 obtain⟨S,U,aG6,V⟩:=Q;have s:0<=it.F:=v.1.2.1;have l:(G.lit ([it]:List R)).n=1:=rfl;have d:cE (bP m) (eM m) (G.lit ([it]:List R))=0:=by
  refine mY.2 ⟨Ω,⟨U,by have:=v.1.1;omega⟩,by rw[p];exact V,⟨by rw[bc,l];decide,by rw[bc,l];omega⟩,?_⟩;rw[iq];exact⟨f,Ω,s,trivial⟩
 have N:Cb m.j m.lt m.li (bP m) (eM m)=false:=by
  unfold Cb;rw[p,S];have k:gx m.j m.li (m.j+(m.li.n:Int))=0:=by
   unfold gx;rw[bj (show¬m.j+(m.li.n:Int)<m.j by omega),E (m.j+(m.li.n:Int)-m.j),bj (show¬m.j+(m.li.n:Int)-m.j>(m.li.n:Int) by omega)]
   cases (m.j+(m.li.n:Int)==m.j)<;>rfl
  rw[k];simp
 have g:m2 m.j m.lt m.li (bP m) (eM m) (G.lit ([it]:List R))=true:=by
  unfold m2;rw[N,p,bj (show¬m.j+(m.li.n:Int)<m.j by omega)];rfl
 have t:cv m.j (bP m) (G.lit ([it]:List R))=m.j+(m.li.n:Int):=by
  unfold cv;rw[p,bj Ω];rfl
 have O:dC m.j (bP m) (G.lit ([it]:List R))=G.lit ([it]:List R):=by
  unfold dC;rw[p,bj Ω];rfl
 have P:pa m.j m.li (bP m) (G.lit ([it]:List R)) 0=false:=by
  unfold pa;rw[t,E (m.j+(m.li.n:Int)-m.j),E (m.j+(m.li.n:Int)-m.j+0),bj Ω];rfl
 have o:(G.app (G.part m.li 0 (m.j+(m.li.n:Int)-m.j+0)) (G.part (G.lit ([it]:List R)) 0 1)).B=m.li.B++[it]:=by
  rw[iL,l0 _ _ _ Ω Ω Ω,l0 _ _ _ Ω Ω (by rw[l];decide),iq,show(m.j+(m.li.n:Int)-m.j+0-0).toNat=m.li.B.length by rw[bc];omega];show(m.li.B.drop 0).take m.li.B.length++[it]=_;rw[List.drop_zero,List.take_length]
 have D:cE m.j m.lt (G.app (G.part m.li 0 (m.j+(m.li.n:Int)-m.j+0)) (G.part (G.lit ([it]:List R)) 0 1))=0:=by
  refine mY.2 ?_;rw[o];refine⟨F,q,L.z,⟨by rw[dq,bc,List.length_singleton];omega,by rw[dq,bc,List.length_singleton];omega⟩,aaS f L.c (by rw[r];exact T.1) s (λy a=>by rw[r];exact T.2 y a) λy a=> ?_⟩
  by_cases c:(m.li.n:Int)>0
  .rw[azd Ω]at a;rw[<-jM a,J];show _<=BD m;unfold BD;rw[bM c,aR,E ((m.li.n:Int)-1),show toNat ((m.li.n:Int)-1)=m.li.n-1 by omega];have:=y5 (imax m.bs m.ep) (m.li.at' (m.li.n-1)).F;omega
  .have z:m.li.B=[]:=OW (by rw[bc];omega);rw[z]at a
   cases a
 have b:pb m.j m.lt m.li (bP m) (G.lit ([it]:List R))=(true,m.j,m.lt,(G.app (G.part m.li 0 (m.j+(m.li.n:Int)-m.j+0)) (G.part (G.lit ([it]:List R)) 0 1)),true,m.j+(m.li.n:Int)+0+1,0):=by
  unfold pb;rw[m1,P,O,t,E (m.j+(m.li.n:Int)-m.j),E (m.j+(m.li.n:Int)-m.j+0),E (m.j+(m.li.n:Int)+0),E (m.j+(m.li.n:Int)+0+1)];show(cond (cE m.j m.lt (G.app (G.part m.li 0 (m.j+(m.li.n:Int)-m.j+0)) (G.part (G.lit ([it]:List R)) 0 1))!=0) _ _)=_;rw[D];rfl
 have j:qf m.j m.lt m.li (bP m) (G.lit ([it]:List R))=false:=by
  unfold qf;rw[b];rfl
 have C:hk m.j m.lt m.li (bP m) (eM m) (G.lit ([it]:List R))=0:=by
  unfold hk;rw[mY.2 L,d,g,j,b];rfl
 have A:hT m.j m.lt m.li (bP m) (eM m) (G.lit ([it]:List R))=true:=by
  unfold hT;rw[mY.2 L,d,g,j,b];rfl
 have B:dt m.j m.lt m.li (bP m) (eM m) (G.lit ([it]:List R))=m.j+(m.li.n:Int)+0+1:=by
  unfold dt;rw[mY.2 L,d,g,j,b];rfl
 have x:cd m.j m.lt m.li (bP m) (eM m) (G.lit ([it]:List R))=G.app (G.part m.li 0 (m.j+(m.li.n:Int)-m.j+0)) (G.part (G.lit ([it]:List R)) 0 1):=by
  unfold cd;rw[mY.2 L,d,g,j,b];rfl
 have K:i64 (bP m+1)=m.j+(m.li.n:Int)+1:=by rw[p];exact E _
 have u:hK (wH (m.j+(m.li.n:Int)+1) it):=by
  refine⟨?_,oM,oL⟩;show(cond (!(n6 (m.j+(m.li.n:Int)+1))) (2:Int) (fc it.q it.F it.z it.M it.w it.C it.P it.aw it.f it.aD))=0;rw[f153 Ω];exact f
 have W:gn (wH (m.j+(m.li.n:Int)+1) it) m=true:=aEU h.nm.t u (by
  have:=ab8 u;have e:(if(wH (m.j+(m.li.n:Int)+1) it).q=1 then(8:Int)else if(wH (m.j+(m.li.n:Int)+1) it).q=2 then 127 else 11000)=127:=rfl;rw[e]at this;omega)
 have M:n9 it m=false:=by
  unfold n9;rw[C,A,B,K,fl.2 (show m.j+(m.li.n:Int)+0+1≠0 by omega),W];rfl
 refine⟨?_,?_⟩
 .unfold o3;rw[M];rfl
 .show(vC it m).n=_;unfold vC;rw[M,aX,x,<-bc,o,dq,bc];rfl
end
def Ds(C:aA){i:Nat}(a:i<3):(views C).at' i=Dr (C.d i):=by
 match i,a with
 |0,_=>rfl
 |1,_=>rfl
 |2,_=>rfl
def ajJ{A:G a7}(b:(b8 (cK A)).told.n<=549755813888): ∀(m a v:Nat) (s:G bF),v+m=(b8 (cK A)).told.n->m<=a->(tj A (a+1) (v:Int) s).B=s.B++(b8 (cK A)).told.B.drop v
 |0,a,v,s,d,c=>by
  rw[tj,bj (show¬(v:Int)<(((b8 (cK A)).told.n:Nat):Int) by omega),aX,List.drop_eq_nil_of_le (by rw[bc];omega),im]
 |m+1,a,v,s,d,c=>by
  obtain⟨a,rfl⟩: ∃q,a=q+1:=⟨a-1,Ω⟩;rw[tj,bM (show(v:Int)<(((b8 (cK A)).told.n:Nat):Int) by omega),aR,E _,show(v:Int)+1=((v+1:Nat):Int) by omega,ajJ b m a (v+1) _ Ω Ω,iL,iq,fk,O4 (i:=v) Ω];rfl
def aDe{A:G a7}(h:lZ A):(hR A).B=(kQ A.B).told.B:=by
 have a:=h.1;have q:=Ip (nc h).1 (nc h).2;have k:=ajJ (A:=A) Ω (b8 (cK A)).told.n (toNat ((((b8 (cK A)).told.n:Nat):Int)-0)) 0 B Ω Ω;show(Bz A).B=_;unfold Bz;rw[(nc h).1,(nc h).2,aX,aR,<-Ox Ω];exact k
def aCu(C:aA){i k:Nat}(a:i<3)(b:k<3)(h:k≠i)(n:H)(L:G aj)(ah:G bF)(au:G aU):(C.put i n L ah au).d k=C.d k:=by
 match i,a,k,b with
 |0,_,0,_=>exact absurd rfl h
 |0,_,1,_=>rfl
 |0,_,2,_=>rfl
 |1,_,0,_=>rfl
 |1,_,1,_=>exact absurd rfl h
 |1,_,2,_=>rfl
 |2,_,0,_=>rfl
 |2,_,1,_=>rfl
 |2,_,2,_=>exact absurd rfl h
abbrev Af(i:Int):a7:=⟨1,i,0,0,0,0,⟨#[]⟩,⟨#[]⟩,⟨#[]⟩,0⟩
abbrev Aw:j9:=⟨0,0,0,⟨#[]⟩,⟨#[]⟩,⟨#[]⟩,0⟩
def an2{i:Int}(a:0<=i/\i<3):jN (Af i):=(L0 a).trans (by simp [g3])
abbrev ajF(n:H)(e:Int):bF:=⟨n.bf,0,0,0,⟨#[]⟩,⟨#[]⟩,⟨#[]⟩,0,e,⟨#[]⟩,0,(B:G u)⟩
structure Zb (C D:aA) (u:Nat):Prop where
 o: ∀k,k<3->k≠u->D.d k=C.d k
 l:(C.d u).ro=3->D.told=C.told/\(D.d u).li.n=(C.d u).li.n+1
 n:(C.d u).ro≠3->D.d u=C.d u/\D.told=G.app C.told (G.lit ([ajF (C.d u) (cond (C.d u).up 12 13)]:List bF))
def aoj{C:aA}{k:Nat}(G:k<=60){u:Nat}(s:u<3)(h:DK (u:Int) k C):Zb C (ln C (Af (u:Int))) u:=by
 obtain⟨a,b,m,t,B,w,⟨U,X,V⟩,g⟩:=h;have e:ln C (Af (u:Int))=C.put u (k2 Aw (C.d u)) C.ag (p3 Aw (C.d u) C.told) C.bh:=aEQ rfl;have f:=Od C u (k2 Aw (C.d u)) C.ag (p3 Aw (C.d u) C.told) C.bh;have p:=aCv C s (k2 Aw (C.d u)) C.ag (p3 Aw (C.d u) C.told) C.bh;rw[e];have j:=g.n u s;have x:=j.x;refine⟨λk G q=>aCu C s G q _ _ _ _,λr=> ?_,λr=> ?_⟩
 .rw[f.2.1,p];have K:(C.d u).up=true:=by
   cases z:(C.d u).up with
   |true=>rfl
   |false=>rw[x.ro.2 z]at r;exact absurd r Δ
  have ao:=x.ro.1 Ω;have mt:=g.mt;have n:=x.bs;have J:fm (gV (C.d u)):=by
   have v:fm (imax (C.d u).bs (C.d u).ep):=by
    have:=y5 (C.d u).bs (C.d u).ep;have A:=n.1.1;have D:=n.1.2;have F:=n.2.1.1;have yQ:=n.2.1.2;exact⟨Ω,Ω⟩
   have L:=j.nm.log;have O:=L.n;rw[bc]at O;show fm (BD (C.d u));unfold BD
   by_cases c:((C.d u).li.n:Int)>0
   .rw[bM c,aR,E (((C.d u).li.n:Int)-1)];have I:(C.d u).li.n-1<(C.d u).li.B.length:=by rw[bc];omega
    have e:(C.d u).li.at' (toNat (((C.d u).li.n:Int)-1))=(C.d u).li.B[(C.d u).li.n-1]:=by
     rw[show toNat (((C.d u).li.n:Int)-1)=(C.d u).li.n-1 by omega];exact q3 (i:=(C.d u).li.n-1) (cM I)
    rw[e];have q:=(zB (Ro L.c (j8 I))).1.2;have:=y5 (imax (C.d u).bs (C.d u).ep) (C.d u).li.B[(C.d u).li.n-1].F;have A:=v.1;have D:=v.2;exact⟨Ω,Ω⟩
   .rw[bj c];exact v
  have it:mG (⟨(C.d u).ao,(gV (C.d u)),false,0,0,0,⟨#[]⟩,⟨#[]⟩,⟨#[]⟩,0⟩:R):=by
   have A:=J.1;have D:=J.2;have F:=x.ao;show fc (C.d u).ao (gV (C.d u)) false 0 0 0 ⟨#[]⟩ ⟨#[]⟩ ⟨#[]⟩ 0=0;unfold fc yF;rw[bj Ω,bj Ω,bj Ω,bj Ω];simp [g3]
  have T:((C.d u).a_.n:Int)+127<=400000:=by
   obtain⟨c,d,W,o,l⟩:=j.w;have q:=W.len rfl;have q:((C.d u).a_.n:Int)<=c+8*(2*(C.d u).ao+gZ (C.d u).b3)+5500*(C.d u).bR:=q;have v0:gZ (C.d u).b3<=1:=by
    unfold gZ
    by_cases q:0<=(C.d u).b3
    .rw[a5 q];exact aZ _
    .rw[aS q];decide
   have pl:=j.pl;have F:=x.ao;have M:=Int.le_trans (wB _ (C.d u).bd.B) o.w;have S:=(nj (C.d u).ro).1;have Y:=g.b;have kI:=Int.le_trans (wB _ C.ag.B) g.o.w;have y: ∀i,i<3->0<=B i:=λi N=>by
    obtain⟨c,d,_,o,l⟩:=(g.n i N).w;have M:=Int.le_trans (wB _ (C.d i).bd.B) o.w;have S:=(nj (C.d i).ro).1;omega
   have wC:=y 0 Δ;have aAl:=y 1 Δ;have NR:=y 2 Δ;have Ri:c<=B 0+B 1+B 2:=by
    have Z:c<=B u:=by omega
    match u,s with
    |0,_=>omega
    |1,_=>omega
    |2,_=>omega
   omega
  obtain⟨P,Q⟩:=aCw j it rfl rfl (by have:=j.pl;omega) T;refine⟨?_,?_⟩
  .unfold p3;rw[K,r,P];rfl
  .unfold k2;simp only[H.eY];rw[K,r,P];exact Q
 .rw[f.2.1,p];have f_:=bne_iff_ne.2 r;refine⟨?_,?_⟩
  .unfold k2;simp only[H.eY];rw[f_]
   cases (C.d u).up<;>rfl
  .unfold p3;rw[f_]
   cases (C.d u).up<;>rfl
section
variable {A:G hZ} {g:Int}
def aa2(h:sw A)(n:kM g):(0<=a8 g 3/\a8 g 3<3)/\(dw A 60).n<=60/\lZ (dw A 60)/\lZ (n_ (dw A 60) (G.lit ([Af (a8 g 3)]:List a7)))/\Zb (kQ (dw A 60).B) (kQ (n_ (dw A 60) (G.lit ([Af (a8 g 3)]:List a7))).B) (toNat (a8 g 3)):=by
 have b:0<=a8 g 3/\a8 g 3<3:=nd n Δ;have k:=an4 (g:=60) h Δ;have p:=an5 (g:=60) h Δ;have j:(dw A 60).n<=60:=by have:=k.1;omega
 have m:lZ (dw A 60):=⟨Ω,k.2⟩;refine⟨b,j,m,aBt m Ω (an2 b),?_⟩;rw[apz];obtain⟨u,o⟩:=wY b.1;rw[o,show toNat (u:Int)=u from rfl];have f: ∀a∈(dw A 60).B,jN a/\a.z<=1073741824:=λa c=>by
  obtain⟨i,b,e⟩:=zj c;rw[<-e];exact⟨k.2 i b,p i b⟩
 have d:=aeQ (u:Int) (l:=(dw A 60).B) (λa c=>(f a c).1) (λa c _=>(f a c).2) (by rw[bc];omega) (dw A 60).B.length (bN _);rw[List.take_length]at d;exact aoj (by rw[bc];exact j) Ω d
end
end Go.Proofs.YtadmdaokcgjdiaaGreatDoor
