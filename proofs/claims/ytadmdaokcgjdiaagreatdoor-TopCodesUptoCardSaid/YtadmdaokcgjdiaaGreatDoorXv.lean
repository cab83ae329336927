import Derived.Test.YtadmdaokcgjdiaaGreatDoorXt
open Go.IntKind (i64 u64 u8)
open Int (toNat)
set_option maxRecDepth 100000
set_option maxHeartbeats 4000000
set_option linter.all false
noncomputable section
namespace Go.Proofs.YtadmdaokcgjdiaaGreatDoor
open Go Go.RowKit Go.af
def Hs{ms:aj}{d:H}{L:G aj}{ah:G bF}{au:G aU} : ∀(k:Nat) (v:Int) (a:G Int) (b:Int),aK a->
  ((mh ms d L ah au k v a b).1=false/\aK (mh ms d L ah au k v a b).2.1)\/((mh ms d L ah au k v a b).1=true/\(mh ms d L ah au k v a b).2.2.2=wO d L ah au)
 |0,_,_,_,_=> .inl ⟨rfl,YW⟩
 |k+1,v,a,b,c=>by
  rw[mh]
  cases decide (v<=i64 (cn d.j d.lt d.li ms.w ms.C ms.f+((cd d.j d.lt d.li ms.w ms.C ms.f).n:Int)))
  .exact .inl ⟨rfl,c⟩
  .simp only[aR];generalize e:gn _ _=q
   cases q
   .exact .inr ⟨rfl,rfl⟩
   .exact Hs k _ _ _ (uL c)
def av1{ms:aj}{d:H}{L:G aj}{ah:G bF}{au:G aU}(h:b7 d)(f:hb ms):b7 (k4 ms d L ah au)/\F5 ms d L ah au=L/\(((F7 ms d L ah au).n:Nat):Int)<=(ah.n:Int)+600000/\F6 ms d L ah au=au:=by
 have a:=h.i;unfold k4 F5 F7 F6;rw[H.eY,H.eY,H.eY]
 cases j:(hk d.j d.lt d.li ms.w ms.C ms.f !=0)
 .cases g:(!(hT d.j d.lt d.li ms.w ms.C ms.f))
  .simp only[aX];have i:=bK j;have k:=zo i g;have e:=Q9 ms d i g;have b:=Hs (ms:=ms) (d:=d) (L:=L) (ah:=ah) (au:=au) ((toNat ((i64 ((cn d.j d.lt d.li ms.w ms.C ms.f)+((cd d.j d.lt d.li ms.w ms.C ms.f).n:Int)))+1- (dt d.j d.lt d.li ms.w ms.C ms.f)))+1) (dt d.j d.lt d.li ms.w ms.C ms.f) d.a_ d.br a.u8;have o:mh ms d L ah au ((toNat ((i64 ((cn d.j d.lt d.li ms.w ms.C ms.f)+((cd d.j d.lt d.li ms.w ms.C ms.f).n:Int)))+1- (dt d.j d.lt d.li ms.w ms.C ms.f)))+1) (dt d.j d.lt d.li ms.w ms.C ms.f) d.a_ d.br=iB ms d L ah au:=rfl;rw[o]at b
   cases cU:kr ms d L ah au
   .simp only[aX];have r:(iB ms d L ah au).2.2.2=wO d L ah au:=by
     rcases b with⟨b,_⟩|⟨_,b⟩
     .unfold kr yi at cU;rw[b]at cU
      cases c:decide (dt d.j d.lt d.li ms.w ms.C ms.f>0)<;>rw[c]at cU<;>cases cU
     .exact b
    rw[r];exact⟨h,(by first|rfl|trivial),by show(ah.n:Int)<=_;omega,(by first|rfl|trivial)⟩
   .simp only[aR];have t:aK (vF ms d L ah au):=by
     unfold vF
     cases c:decide (dt d.j d.lt d.li ms.w ms.C ms.f>0)
     .exact a.u8
     .rcases b with⟨_,b⟩|⟨b,_⟩
      .exact b
      .unfold kr yi at cU;rw[c,b]at cU
       cases cU
    have l:ei (k5 ms d):=by
     unfold k5;exact Hu (k.2.2.2.2.2.2 a.li f.li) a.li
    have n:d.j+((k5 ms d).n:Int)<=1048576:=by
     have v:=Jn (s:=k5 ms d) _ _ _ rfl;have w:=k.2.2.1.1;have x:=a.ee;rw[k.1]at*
     omega
    have p:b7 (p7 ms d L ah au):=by
     refine⟨⟨a.bf,?_,?_,a.co,e.2.2,?_,a.ws,a.pp,l,t,a.bR,a.hr⟩,h.o⟩
     .show 0<=mi ms d;rw[e.1];exact a.j
     .show mi ms d<=d.co;rw[e.1];exact a.hM
     .show mi ms d+((k5 ms d).n:Int)<=1048576;rw[e.1];exact n
    have u:i64 (ms.w+(ms.f.n:Int))=ms.w+(ms.f.n:Int):=wrap64 (by have:=f.ky;omega) (by have:=k.2.2.2.2.2.1;omega);have m:0<=ms.w+(ms.f.n:Int)/\ms.w+(ms.f.n:Int)<=1048576:=by have:=k.2.2.2.2.2.1;omega
    rw[u];have q:=qn (A:=ms.q) (ms:=⟨0,0,6,d.ao,ms.w+(ms.f.n:Int),0,true,0,B,0,0,0,B,0,B⟩) p f.lB (wz m);have c:=af_ (A:=ff ms.aw (ms.w+(ms.f.n:Int))) (ah:=ah) q (by
     show ff ms.aw (ms.w+(ms.f.n:Int))<=mi ms d+((k5 ms d).n:Int);have:=lP ms.aw (ms.w+(ms.f.n:Int));rw[e.1];have:=e.2.1;omega)
    exact⟨c.1,(by first|rfl|trivial),c.2,(by first|rfl|trivial)⟩
  .simp only[aX,aR];exact⟨qn h f.lB (wz ⟨by have:=a.j;have:=a.hM;omega,a.co⟩),(by first|rfl|trivial),Ω,(by first|rfl|trivial)⟩
 .simp only[aR];exact⟨h,(by first|rfl|trivial),Ω,(by first|rfl|trivial)⟩
def VZ{ms:aj}{d a b:H}{L:G aj}{ah:G bF}{au:G aU}(c:b7 a)(e:b7 b):
  b7 (H.bif ms.P (o5 a L ah au) b)/\(cond ms.P (yq a L ah au) L)=L/\(((cond ms.P (ys a L ah au) ah).n:Nat):Int)<=(ah.n:Int)+600000/\(cond ms.P (yr a L ah au) au)=au:=by
 rw[H.eY]
 cases ms.P
 .exact⟨e,rfl,by simp only[aX];omega,rfl⟩
 .exact av7 c
def Ae{p q c:Int}(g:0<=p/\p<=1048577)(h:0<=q/\q<=1048576)(f:0<=c/\c<=1048576):(0<=imax p (i64 (c+1))/\imax p (i64 (c+1))<=1048577)/\(0<=imax q c/\imax q c<=1048576)/\(0<=i64 (imax q c+1)/\i64 (imax q c+1)<=1048577):=by
 have a:=E (c+1);have b:=y5 p (i64 (c+1));have d:=y5 q c;have e:=E (imax q c+1);omega
def av3{ms:aj}{d:H}{L:G aj}{ah:G bF}{au:G aU}(h:b7 d)(f:hb ms):b7 (vG ms d L ah au)/\F9 ms d L ah au=L/\(((Ga ms d L ah au).n:Nat):Int)<=(ah.n:Int)+600000/\F_ ms d L ah au=au:=by
 have a:=h.i;have b:=Ae a.pp.1 a.hr.1 f.ky;have c:=Ae a.pp.2.1 a.hr.2.1 f.ky;have e:=Ae a.pp.2.2 a.hr.2.2 f.ky;unfold vG F9 Ga F_;generalize toNat ms.q=j
 match j with
 |0=>exact VZ (ms:=ms) (d:=d) ⟨⟨a.bf,a.j,a.hM,a.co,a.gG,a.ee,a.ws,⟨b.1,a.pp.2⟩,a.li,a.u8,a.bR,⟨b.2.1,a.hr.2⟩⟩,h.o⟩ ⟨⟨a.bf,a.j,a.hM,a.co,a.gG,a.ee,a.ws,⟨b.2.2,a.pp.2⟩,a.li,a.u8,a.bR,a.hr⟩,h.o⟩
 |1=>exact VZ (ms:=ms) (d:=d) ⟨⟨a.bf,a.j,a.hM,a.co,a.gG,a.ee,a.ws,⟨a.pp.1,c.1,a.pp.2.2⟩,a.li,a.u8,a.bR,⟨a.hr.1,c.2.1,a.hr.2.2⟩⟩,h.o⟩ ⟨⟨a.bf,a.j,a.hM,a.co,a.gG,a.ee,a.ws,⟨a.pp.1,c.2.2,a.pp.2.2⟩,a.li,a.u8,a.bR,a.hr⟩,h.o⟩
 |j+2=>exact VZ (ms:=ms) (d:=d) ⟨⟨a.bf,a.j,a.hM,a.co,a.gG,a.ee,a.ws,⟨a.pp.1,a.pp.2.1,e.1⟩,a.li,a.u8,a.bR,⟨a.hr.1,a.hr.2.1,e.2.1⟩⟩,h.o⟩ ⟨⟨a.bf,a.j,a.hM,a.co,a.gG,a.ee,a.ws,⟨a.pp.1,a.pp.2.1,e.2.2⟩,a.li,a.u8,a.bR,a.hr⟩,h.o⟩
def af5{it:R}{d:H}(h:b7 d)(m:lv it):b7 (hQ it d):=by
 have a:=h.i;have i:aK (F3 it d):=by
  unfold F3
  cases (hk d.j d.lt d.li (bP d) (eM d) (G.lit ([it]:List R))!=0)<;>cases (!(hT d.j d.lt d.li (bP d) (eM d) (G.lit ([it]:List R))))<;>cases (dt d.j d.lt d.li (bP d) (eM d) (G.lit ([it]:List R))==0)<;>first|exact a.u8|exact uL a.u8
 cases e:n9 it d
 .have f:(hk d.j d.lt d.li (bP d) (eM d) (G.lit ([it]:List R))!=0)=false:=by
   unfold n9 at e
   cases f:(hk d.j d.lt d.li (bP d) (eM d) (G.lit ([it]:List R))!=0)
   .rfl
   .rw[f]at e;cases e
  have g:(!(hT d.j d.lt d.li (bP d) (eM d) (G.lit ([it]:List R))))=false:=by
   unfold n9 at e;rw[f]at e
   cases g:(!(hT d.j d.lt d.li (bP d) (eM d) (G.lit ([it]:List R))))
   .rfl
   .rw[g]at e;cases e
  have k:=zo (bK f) g;have l:ei (G.lit ([it]:List R)):=λj=>by
   show lv (([it]:List R).getD j default)
   cases j with
   |zero=>exact m
   |succ j=>exact af3
  have b:(hQ it d).j=d.j:=by
   show vB it d=_;unfold vB;rw[e];exact k.1
  have c:(hQ it d).li=cd d.j d.lt d.li (bP d) (eM d) (G.lit ([it]:List R)):=by
   show vC it d=_;unfold vC;rw[e];rfl
  exact⟨⟨a.bf,by rw[b];exact a.j,by rw[b];exact a.hM,a.co,by rw[c];exact k.2.2.1.2,by rw[b,c];have:=k.2.2.1.1;omega,a.ws,a.pp,by rw[c];exact k.2.2.2.2.2.2 a.li l,i,a.bR,a.hr⟩,h.o⟩
 .have b:(hQ it d).j=d.j:=by
   show vB it d=_;unfold vB;rw[e];rfl
  have c:(hQ it d).li=d.li:=by
   show vC it d=_;unfold vC;rw[e];rfl
  exact⟨⟨a.bf,by rw[b];exact a.j,by rw[b];exact a.hM,a.co,by rw[c];exact a.gG,by rw[b,c];exact a.ee,a.ws,a.pp,by rw[c];exact a.li,i,a.bR,a.hr⟩,h.o⟩
def ake:(0:Int)<=0/\(0:Int)<=1048576:=by decide
def UX{to p:Int}{d:H}(h:b7 d)(a:H)(e:0<=to/\to<3)(f:0<=p/\p<=1048577)(b:jS a):
  fM (cond (decide (i64 (p-1)<a.j)) (dJ to ⟨0,0,7,a.ao,0,0,false,0,B,a.bR,a.eU,a.fI,a.fi,a.gK,a.fh⟩ d).bd (dJ to ⟨0,0,5,a.ao,i64 (p-1),hS a.j a.lt a.li (i64 (p-1)),false,a.co,kt a.j a.lt a.li (i64 (p-1)) 8,0,0,0,B,0,B⟩ d).bd):=by
 by_cases c:i64 (p-1)<a.j
 .rw[bM c];exact(qn h e ⟨ake,b.bR,mr⟩).o
 .rw[bj c];have g:=E (p-1);refine(qn h e ⟨?_,ake,?_⟩).o
  .show 0<=i64 (p-1)/\i64 (p-1)<=1048576;have:=b.j;omega
  .show ei (kt a.j a.lt a.li (i64 (p-1)) 8);unfold kt;exact Hu mr (Hu mr (Hu mr (ze (ze b.li _ _) _ _)))
def af8{d:H}(h:b7 d):b7 (p8 d):=by
 have a:=h.i;have b:b7 (tt d):=by
  refine⟨a.h_ _ Ξ (Eq.mp Ξ a.u8) (Eq.mp Ξ a.ws),?_⟩;show fM (BL d);unfold BL
  cases (0==d.bf)
  .exact UX (to:=0) (p:=d.dO) h d Δ a.pp.1 a
  .exact h.o
 have c:b7 (tu d):=by
  refine⟨a.h_ _ Ξ (Eq.mp Ξ a.u8) (Eq.mp Ξ a.ws),?_⟩;show fM (BM d);unfold BM
  cases (1==d.bf)
  .exact UX (to:=1) (p:=d.dD) b d Δ a.pp.2.1 a
  .exact b.o
 refine⟨a.h_ _ Ξ (Eq.mp Ξ a.u8) (Eq.mp Ξ a.ws),?_⟩;show fM (yl d);unfold yl
 cases (2==d.bf)
 .exact UX (to:=2) (p:=d.dG) c d Δ a.pp.2.2 a
 .exact c.o
def av0{d:H}(h:b7 d):b7 (tq d):=by
 have a:=h.i;have g:=Q_ a;have i:=E (bP d+1);have b:0<=i64 (bP d+1)/\i64 (bP d+1)<=1048577:=by omega
 have z:(0:Int)<=0/\(0:Int)<=1048576:=by decide
 have c:b7 (k3 d):=⟨⟨a.bf,a.j,a.hM,a.co,a.gG,a.ee,a.ws,⟨b,b,b⟩,a.li,a.u8,a.bR,⟨z,z,z⟩⟩,h.o⟩;have e:=af5 (it:=(⟨d.ao,(gV (k3 d)),true,0,0,0,⟨#[]⟩,⟨#[]⟩,⟨#[]⟩,0⟩:R)) c ⟨cp _,cp _,cp _⟩;have f:=af8 e;exact f
def aEr{A:G Int}{g:Int}(h:aK A):aK (BX A g):=by
 unfold BX
 cases (!(hE A g))
 .exact ll h
 .exact IC
def Xo:fM (B:G aj):=⟨cp _,λ_ h=>absurd h (eD _)⟩
def av4{d:H}(h:b7 d):b7 (rA d):=⟨h.i.h_ _ Ξ (aEr h.i.u8) h.i.ws,Xo⟩
def ah7{s:G aj}{x:aj}(h:fM s)(f:s.n<300)(b:hb x):fM (G.app s (G.lit [x])):=by
 refine⟨?_,λj a=> ?_⟩
 .show s.n+1<=300;omega
 .show hb (cond (Nat.blt j s.n) (s.at' j) (([x]:List aj).getD (j-s.n) default))
  cases e:Nat.blt j s.n with
  |true=>exact h.2 j (by rw[iY]at e;exact e)
  |false=>
   have d:j<s.n+1:=a;have: ¬j<s.n:=λhh=>by
    rw[show Nat.blt j s.n=true by rw[iY];exact hh]at e
    cases e
   have c:j-s.n=0:=by omega
   rw[c];exact b
def ag2{d:H}(h:fM d.bd): ∀(k:Nat) (v:Int) (s:G aj),0<=v->v<=(d.bd.n:Int)->toNat ((d.bd.n:Int)-v)<k->fM s->fM (p9 d k v s)
 |0,_,_,_,_,b,_=>absurd b (eD _)
 |k+1,v,s,f,g,b,a=>by
  have i:=h.1;rw[p9]
  by_cases e:v<(d.bd.n:Int)
  .rw[bM e,aR,E (v+1)];refine ag2 h k (v+1) _ Ω Ω Ω ?_;unfold BO
   by_cases c:(s.n:Int)<300
   .rw[bM c];exact ah7 a Ω (h.2 _ Ω)
   .rw[bj c];exact a
  .rw[bj e,aX];exact a
def an0{d:H}{L:G aj}(h:b7 d)(a:fM L):fM (BN d L):=
 ag2 h.o _ 0 L (aZ _) Ω Ω a
def av6{d:H}(h:b7 d):b7 (lJ d):=by
 have a:=h.i;have r:=X_ (g:=d.lt) a.j a.ee a.gG ⟨by have:=a.j;have:=a.hM;omega,a.co⟩ a.li;have b:b7 (ym d):=⟨⟨a.bf,r.1.1,r.1.2,a.co,r.2.1,r.2.2.1,a.ws,a.pp,r.2.2.2,uL a.u8,⟨by have:=a.j;have:=a.hM;show 0<=d.co;omega,a.co⟩,a.hr⟩,h.o⟩;unfold lJ;exact oo (λ_=>h) λ_=>oo (λ_=>b) λ_=>af9 h
def avV{aQ:j9}{d:H}(h:b7 d)(j:d.ws.n<3000)(f:aQ.M.size<=10000000000)(g:aQ.w.size<=10000000000)(i:aQ.C.size<=10000000000):b7 (k2 aQ d)/\(k2 aQ d).ws.n<=d.ws.n+1:=by
 have c:=af5 (it:=(⟨d.ao,(gV d),false,aQ.q,aQ.F,aQ.z,aQ.M,aQ.w,aQ.C,aQ.P⟩:R)) h ⟨f,g,i⟩;have a:=c.i;have e:b7 (ad2 aQ d):=⟨⟨a.bf,a.j,a.hM,a.co,a.gG,a.ee,(by show d.ws.n+1<=3000;omega),a.pp,a.li,a.u8,a.bR,a.hr⟩,c.o⟩;unfold k2;simp only[H.eY]
 cases (!d.up)<;>simp only[aX,aR]
 .cases (d.ro !=3)<;>simp only[aX,aR]
  .generalize (!(o3 (⟨d.ao,(gV d),false,aQ.q,aQ.F,aQ.z,aQ.M,aQ.w,aQ.C,aQ.P⟩:R) d))=b
   cases b<;>simp only[aX,aR]
   .exact⟨e,bN _⟩
   .exact⟨c,Nat.le_succ _⟩
  .exact⟨h,Nat.le_succ _⟩
 .exact⟨h,Nat.le_succ _⟩
def aDY{aQ:j9}{d:H}{ah:G bF} :(p3 aQ d ah).n<=ah.n+1:=by
 unfold p3;generalize (!(o3 (⟨d.ao,(gV d),false,aQ.q,aQ.F,aQ.z,aQ.M,aQ.w,aQ.C,aQ.P⟩:R) d))=b
 cases (!d.up)<;>cases (d.ro !=3)<;>cases b<;>first|exact bN _|exact Nat.le_succ _
def uM{c:Bool}{a b:H}{s:G hc}(d:a.ws=s)(e:b.ws=s):(H.bif c a b).ws=s:=by
 rw[H.eY]
 cases c
 .exact e
 .exact d
def aEE(n:H):(mg n).ws=n.ws:=by
 unfold mg;exact uM Ξ Ξ
def aEG(ms:aj)(n:H):(p6 ms n).ws=n.ws:=by
 unfold p6;exact uM Ξ Ξ
def aEK(ms:aj)(n:H):(k6 ms n).ws=n.ws:=by
 unfold k6;exact uM Ξ Ξ
def aEH(n:H):(tq n).ws=n.ws:=by kernel_rfl
def aED(ms:aj)(n:H):(vD ms n).ws=n.ws:=by kernel_rfl
def aEF(x:Int)(n:H):(rq x n).ws=n.ws:=by kernel_rfl
def aEC(x y:Int)(n:H):(ez x y n).ws=n.ws:=by kernel_rfl
def aEI(n:H):(jX n).ws.n<=n.ws.n:=by
 show(cond (n.ro==2) (B:G hc) n.ws).n<=n.ws.n
 cases (n.ro==2)
 .exact bN _
 .exact cp _
def Y4{d:H}{L:G aj}{ah:G bF}{au:G aU}(h:jS d):(o5 d L ah au).ws=d.ws:=by
 have b:=Jg d ⟨h.j,by have:=h.ee;omega⟩;have a:=Wf (L:=L) (ah:=ah) (au:=au) h (toNat (bP d-d.co)+1) (bP d) b.2;have c:o6 d L ah au (toNat (bP d-d.co)+1) (bP d)=p_ d L ah au:=rfl;rw[c]at a;unfold o5;rw[H.eY];rcases a with e|⟨p,f,e⟩
 .rw[e];rfl
 .rw[e];rfl
def aEL{ms:aj}{d:H}{L:G aj}{ah:G bF}{au:G aU}(h:b7 d)(b:hb ms):(vG ms d L ah au).ws=d.ws:=by
 have a:=h.i;have c:=Ae a.pp.1 a.hr.1 b.ky;have e:=Ae a.pp.2.1 a.hr.2.1 b.ky;have f:=Ae a.pp.2.2 a.hr.2.2 b.ky;unfold vG;generalize toNat ms.q=j
 match j with
 |0=>exact uM (Y4 ⟨a.bf,a.j,a.hM,a.co,a.gG,a.ee,a.ws,⟨c.1,a.pp.2⟩,a.li,a.u8,a.bR,⟨c.2.1,a.hr.2⟩⟩) rfl
 |1=>exact uM (Y4 ⟨a.bf,a.j,a.hM,a.co,a.gG,a.ee,a.ws,⟨a.pp.1,e.1,a.pp.2.2⟩,a.li,a.u8,a.bR,⟨a.hr.1,e.2.1,a.hr.2.2⟩⟩) rfl
 |j+2=>exact uM (Y4 ⟨a.bf,a.j,a.hM,a.co,a.gG,a.ee,a.ws,⟨a.pp.1,a.pp.2.1,f.1⟩,a.li,a.u8,a.bR,⟨a.hr.1,a.hr.2.1,f.2.1⟩⟩) rfl
def aEJ{ms:aj}{d:H}{L:G aj}{ah:G bF}{au:G aU}(h:b7 d):(k4 ms d L ah au).ws=d.ws:=by
 have a:=Hs (ms:=ms) (d:=d) (L:=L) (ah:=ah) (au:=au) ((toNat ((i64 ((cn d.j d.lt d.li ms.w ms.C ms.f)+((cd d.j d.lt d.li ms.w ms.C ms.f).n:Int)))+1- (dt d.j d.lt d.li ms.w ms.C ms.f)))+1) (dt d.j d.lt d.li ms.w ms.C ms.f) d.a_ d.br h.i.u8;have c:mh ms d L ah au ((toNat ((i64 ((cn d.j d.lt d.li ms.w ms.C ms.f)+((cd d.j d.lt d.li ms.w ms.C ms.f).n:Int)))+1- (dt d.j d.lt d.li ms.w ms.C ms.f)))+1) (dt d.j d.lt d.li ms.w ms.C ms.f) d.a_ d.br=iB ms d L ah au:=rfl;rw[c]at a;unfold k4;refine uM rfl (uM Ξ ?_)
 cases cU:kr ms d L ah au
 .refine(show(HG (iB ms d L ah au).2.2.2).ws=d.ws from ?_);have e:(iB ms d L ah au).2.2.2=wO d L ah au:=by
   rcases a with⟨a,_⟩|⟨_,a⟩
   .unfold kr yi at cU;rw[a]at cU
    cases b:decide (dt d.j d.lt d.li ms.w ms.C ms.f>0)<;>rw[b]at cU<;>cases cU
   .exact a
  rw[e];rfl
 .kernel_rfl
end Go.Proofs.YtadmdaokcgjdiaaGreatDoor
