import Derived.Test.YtfmgjpcmcjjoiaaGreatDoorXs
open Go.IntKind (i64 u64 u8)
open Int (toNat)
set_option maxRecDepth 100000
set_option maxHeartbeats 4000000
set_option linter.all false
noncomputable section
namespace Go.Proofs.YtfmgjpcmcjjoiaaGreatDoor
open Go Go.RowKit Go.af
theorem VX{A g h:Int}{r:G aq}(b:0≤A)(d:A+(r.n:Int)≤1048576)(f:r.n≤200)(a:0≤h∧h≤1048576)(c:dS r):
  (0≤o_ A g r h∧o_ A g r h≤h)∧(qv A g r h).n≤200∧o_ A g r h+((qv A g r h).n:Int)≤1048576∧dS (qv A g r h):=by
 unfold o_ qv;have z:((D:G aq).n:Int)=0:=rfl;have i:(D:G aq).n=0:=rfl
 cases (cz A g r !=0)
 ·simp only[aS]
  cases e:(gW A r h !=0)
  ·simp only[aS];have k:=y6 A r h ⟨bB e,⟨b,by omega⟩,by omega,by omega⟩;rw[E (h-A),G.tc];exact⟨⟨a.1,cR _⟩,by omega,by omega,x1 c _ _⟩
  ·simp only[aQ];exact⟨⟨cR _,a.1⟩,by omega,by omega,lF⟩
 ·simp only[aQ];exact⟨⟨cR _,a.1⟩,by omega,by omega,lF⟩
theorem az5{A g h o c y:Int}{r:G aq}{v:G L}{p:G aw}(b:0≤A)(d:A+(r.n:Int)≤1048576)(f:r.n≤200)(a:0≤h∧h≤1048576)(e:dS r):
  (0≤uZ A g r h o c v y p∧uZ A g r h o c v y p≤h)∧(u0 A g r h o c v y p).n≤200∧uZ A g r h o c v y p+((u0 A g r h o c v y p).n:Int)≤1048576∧dS (u0 A g r h o c v y p):=by
 unfold uZ u0;have z:((D:G aq).n:Int)=0:=rfl;have i:(D:G aq).n=0:=rfl
 cases (cz A g r !=0)
 ·simp only[aS]
  cases (lC h o c v y p !=0)
  ·simp only[aS];unfold nR nS
   cases nT A g r h o
   ·simp only[aS];exact⟨⟨a.1,cR _⟩,by omega,by omega,lF⟩
   ·simp only[aQ];exact VX b d f a e
  ·simp only[aQ];exact⟨⟨cR _,a.1⟩,by omega,by omega,lF⟩
 ·simp only[aQ];exact⟨⟨cR _,a.1⟩,by omega,by omega,lF⟩
theorem atu{ms:ah}{d:H}(h:bQ d)(j:gQ ms):bQ (n0 ms d):=by
 have f:=h.i;have s:bQ (o4 ms d):=by
  refine⟨?_,h.o⟩
  by_cases i:ms.aC>d.co
  ·have l:0≤ms.aC∧ms.aC≤1048576:=j.bX;have r:=az5 (g:=d.lt) (o:=ms.bU) (c:=ms.bY) (v:=ms.bN) (y:=ms.cc) (p:=ms.aY) f.j f.dP f.fZ l f.li;have k:(o4 ms d).j=uZ d.j d.lt d.li ms.aC ms.bU ms.bY ms.bN ms.cc ms.aY:=by
    show qi ms d=_;unfold qi;rw[bS i];rfl
   have aZ:(o4 ms d).li=u0 d.j d.lt d.li ms.aC ms.bU ms.bY ms.bN ms.cc ms.aY:=by
    show qk ms d=_;unfold qk;rw[bS i];rfl
   have n:(o4 ms d).bX=ms.aC:=by
    show ql ms d=_;unfold ql;rw[bS i];rfl
   have m:(o4 ms d).co=ms.aC:=by
    show EJ ms d=_;unfold EJ;rw[bS i];rfl
   have Qg:aD (o4 ms d).aX:=by
    show aD (qj ms d);unfold qj;rw[bS i];exact tr f.u8
   exact⟨f.bh,by rw[k];exact r.1.1,by rw[k,m];exact r.1.2,by rw[m];exact l.2,by rw[aZ];exact r.2.1,by rw[k,aZ];exact r.2.2.1,f.ws,f.pp,by rw[aZ];exact r.2.2.2,Qg,by rw[n];exact j.bX,f.g2⟩
  ·have e: ∀{α:Type} (a b:α),(cond (decide (ms.aC>d.co)) a b)=b:=fun a b=>by rw[bp i];rfl
   refine f.hJ _ ?_ ?_ f.ws
   ·show(d.bh,qi ms d,EJ ms d,qk ms d,d.dX,d.dz,d.dF,ql ms d,d.g1,d.q1,d.fh)=_;unfold qi EJ qk ql;simp only[e]
   ·show aD (qj ms d);unfold qj;rw[e];exact f.u8
 unfold n0;have q:0≤ms.q∧ms.q<3:=j.lp;exact nm (fun _=>ph s q (vk j.bX)) fun _=>ad7 h
theorem aeZ(A:Int)(d:H)(i:d.ws.n≤3000)(j:A≤1048576): ∀(k:Nat) (a:Int) (b:G L) (c:Int) (f:G aw) (v:Int) (s:G bF),0≤v→v≤1048576→toNat (A-v)<k→
  v≤(l8 A d k a b c f v s).2.2.2.2.1∧((l8 A d k a b c f v s).2.2.2.2.1=v∨(l8 A d k a b c f v s).2.2.2.2.1≤A)∧(((l8 A d k a b c f v s).2.2.2.2.2.n:Nat):Int)≤(s.n:Int)+3000*((l8 A d k a b c f v s).2.2.2.2.1-v)
 |0,_,_,_,_,_,_,_,_,h=>absurd h (en _)
 |k+1,a,b,c,f,v,s,m,n,h=>by
  rw[l8]
  by_cases e:v<A
  ·rw[bS e,aQ,E (v+1)];have o:=afF d a b c f v s (by omega);have l:=aeZ A d i j k (Sy d a b c f v) (Sz d a b c f v) (SA d a b c f v) (SB d a b c f v) (v+1) (JH d a b c f v s).2.1 (by omega) (by omega) (by omega);obtain⟨p,g,q⟩:=l;refine⟨by omega,?_,?_⟩
   ·rcases g with g|g
    ·exact .inr (by omega)
    ·exact .inr g
   ·omega
  ·rw[bp e,aS];refine⟨cR _,.inl rfl,?_⟩;show(s.n:Int)≤(s.n:Int)+3000*(v-v);omega
theorem ad8{A:Int}{d:H}{O:G bF}(h:bQ d)(m:A≤d.j+(d.li.n:Int)):bQ (o6 A d O)∧(((xb A d O).n:Nat):Int)≤(O.n:Int)+600000:=by
 have a:=h.i;have e:A≤1048576:=by have:=a.dP;omega
 have b:0≤d.co:=by have:=a.j;have:=a.ha;omega
 obtain⟨f,g,i⟩:=aeZ A d a.ws e (toNat (A-d.co)+1) d.e5 d.c6 d.eN d.dW d.co O b a.co (by omega);have c:l8 A d (toNat (A-d.co)+1) d.e5 d.c6 d.eN d.dW d.co O=AE A d O:=rfl;rw[c]at f g i;have l:=a.fZ;have j:=a.ha;have k:=a.co;refine⟨⟨⟨a.bh,a.j,?_,?_,a.fZ,a.dP,a.ws,a.pp,a.li,a.u8,a.bX,a.g2⟩,h.o⟩,?_⟩
 ·show d.j≤(AE A d O).2.2.2.2.1;omega
 ·show(AE A d O).2.2.2.2.1≤1048576;omega
 ·show(((AE A d O).2.2.2.2.2.n:Nat):Int)≤_;omega
theorem Us{d:H}{F:G ah}{O:G bF}{ar:G aM}(a:js d): ∀(k:Nat) (v:Int),v≤d.j+(d.li.n:Int)→
  (k4 d F O ar k v).1=false∨ ∃p,p≤d.j+(d.li.n:Int)∧k4 d F O ar k v=(true,yA (o6 p d O) F (xb p d O) ar)
 |0,_,_=> .inl rfl
 |k+1,v,b=>by
  rw[k4]
  by_cases e:v>d.co
  ·rw[bS e,aQ]
   cases sn d v
   ·rw[aS,wrap64 (x:=v-1) (by have:=a.j;have:=a.ha;omega) (by have:=a.dP;omega)];exact Us a k (v-1) (by omega)
   ·exact .inr ⟨v,b,rfl⟩
  ·rw[bp e,aS];exact .inl rfl
theorem atz{d:H}{F:G ah}{O:G bF}{ar:G aM}(h:bQ d):bQ (m_ d F O ar)∧xc d F O ar=F∧(((xe d F O ar).n:Nat):Int)≤(O.n:Int)+600000∧xd d F O ar=ar:=by
 have c:=HC d ⟨h.i.j,by have:=h.i.dP;omega⟩;have b:=Us (F:=F) (O:=O) (ar:=ar) h.i (toNat (b7 d-d.co)+1) (b7 d) c.2;have g:k4 d F O ar (toNat (b7 d-d.co)+1) (b7 d)=n2 d F O ar:=rfl;rw[g]at b;unfold m_ xc xe xd;rw[H.fx];rcases b with e|⟨p,f,e⟩
 ·rw[e];exact⟨h,rfl,by simp only[aS];omega,rfl⟩
 ·rw[e];have a:=ad8 (O:=O) h f;exact⟨a.1,rfl,a.2,rfl⟩
section
variable(i:Nat)(ac:aJ)(C:ak)(d:H)
def apq(F:G ah):Int:=(cond (decide ((F.n:Int)>0)) (ac.z.tmod (F.n:Int)) (-1))
def R3:H:=(sf (⟨ac.I,ac.w,ac.m,ac.N,ac.ao,ac.i,ac.aC⟩:ke) d)
def R4(O:G bF):G bF:=(Af (⟨ac.I,ac.w,ac.m,ac.N,ac.ao,ac.i,ac.aC⟩:ke) d O)
def NF:c8:=⟨[.p 0,.g [a,a,a,a,a,a,ai,ai,ai,a]],b4,eH,eu,fun(b:Int) (c:Int) (d:Int) (e:Int) (f:Int) (g:Int) h j k (l:Int)=>cA fun C=>⟨⟨some (eO C (⟨b,c,d,e,f,g,h,j,k,l⟩:aJ)),[],ca [10,13,11,14,12,15,16,8,9] 7 (C.put i (R3 (⟨b,c,d,e,f,g,h,j,k,l⟩:aJ) (C.d i)) C.ag (R4 (⟨b,c,d,e,f,g,h,j,k,l⟩:aJ) (C.d i) C.told) C.a8)⟩⟩⟩
def XC:cG:=⟨.eB true [.b 10] [.own (.h 0 99) cw 16,.own (.h 0 29) dd 10,.own (.h 0 62) dd 11,.own (.h 0 95) dd 12,.own (.h 0 32) cw 13,.own (.h 0 65) cw 14,.own (.h 0 98) cw 15] (yw i [10,13,11,14,12,15,16,8,9] 7 [] 0 C) (x0 i [10,13,11,14,12,15,16,8,9]),[],[]++v5 i [10,13,11,14,12,15,16,8,9],⟨[],[]⟩⟩
def aqw:cb (XC i C).b1:=(.ae (.ae (.ae (.j ⟨57,[],[(.t 5,a)],[],.f⟩ .z (.bO ⟨([.ptr 0 0,U,U,.ptr 10 0,.ptr 0 (33*i+0),b (apq ac C.ag)]++(us 135 ([]))),cd aH 1 C [(10,[b 1,b (i:Int),b ac.z,b ac.I,b ac.w,b ac.m,.str ac.N,.str ac.ao,.str ac.i,b ac.aC])]⟩ (.ae (.ae (.c true .z))))))))
def Vh(i:Nat)(ac:aJ)(C:ak):Prop:=(((decide ((C.ag.n:Int)>0))=true→(((C.ag.n:Int):Int)≠0))∧(C.told.n≤549000000000∧ac.N.size≤10000000000∧ac.ao.size≤10000000000∧ac.i.size≤10000000000∧(C.d i).ws.n≤549000000000))
theorem aym(i:Nat)(e:i<3)(ac:aJ)(C:ak)(d:ez C)(f:ac.N.size≤549755813888)(g:ac.ao.size≤549755813888)(h:ac.i.size≤549755813888)(a:eO C ac):Vh i ac C:=by
 have c:=gE d i e;unfold fw at c;unfold Vh;exact have:=nI a i;have:=(nI a i).j;have:=(nI a i).ws;have:=oN a;have:=a.2.yq;have:=a.2.yr;have:=a.2.ys;have:=a.2.lI;(⟨(fun b=>(by have:=al b;omega)),(by omega)⟩)
theorem Uo(i:Nat)(a:i<3)(ac:aJ)(e:ac.N.size≤549755813888)(f:ac.ao.size≤549755813888)(g:ac.i.size≤549755813888)(C:ak)(c:ez C)(d:eO C ac):fm Tryz.prog 31 ((NF i).args ([b 1,b (i:Int),b ac.z,b ac.I,b ac.w,b ac.m,.str ac.N,.str ac.ao,.str ac.i,b ac.aC]++hX C)) ((NF i).c3 (([b 1,b (i:Int),b ac.z,b ac.I,b ac.w,b ac.m,.str ac.N,.str ac.ao,.str ac.i,b ac.aC]++hX C).drop (NF i).dE)) [] (ca [10,13,11,14,12,15,16,8,9] 7 (C.put i (R3 ac (C.d i)) C.ag (R4 ac (C.d i) C.told) C.a8)):=by
 refine ef (XC i C) (aqw i ac C) (Vh i ac C) (bJ 10 aT (aj (avm i a) bI)) Tryz.func31 [] ?_ ?_ (aym i a ac C c e f g d)
 ·rcases bV a with rfl|rfl|rfl<;>kernel_rfl
 ·rcases bV a with rfl|rfl|rfl<;>kernel_rfl
end
section
variable(q:Int)(i:Nat)(ac:aJ)(C:ak)(d:H)(F:G ah)
def apB:Int:=(cond (decide ((F.n:Int)>0)) (ac.z.tmod (F.n:Int)) (-1))
def se:H:=(H.bif d.up (l6 (⟨q,(i:Int),ac.z,ac.I,ac.w,ac.m,ac.N,ac.ao,ac.i,ac.aC⟩:aJ) d) d)
def ux:G ah:=(cond d.up (uy (⟨q,(i:Int),ac.z,ac.I,ac.w,ac.m,ac.N,ac.ao,ac.i,ac.aC⟩:aJ) d F) F)
def NM:c8:=⟨[.p 0,.g [a,a,a,a,a,a,ai,ai,ai,a]],b4,eH,eu,fun(b:Int) (c:Int) (d:Int) (e:Int) (f:Int) (g:Int) h j k (l:Int)=>cA fun C=>⟨⟨some (eO C (⟨b,c,d,e,f,g,h,j,k,l⟩:aJ)),[],ca [10,13,11,14,12,15,16,8,9] 7 (C.put i (se q i (⟨b,c,d,e,f,g,h,j,k,l⟩:aJ) (C.d i)) (ux q i (⟨b,c,d,e,f,g,h,j,k,l⟩:aJ) (C.d i) C.ag) C.told C.a8)⟩⟩⟩
def XJ:cG:=⟨.eB true [.b 10] [.own (.h 0 99) cw 16,.own (.h 0 29) dd 10,.own (.h 0 62) dd 11,.own (.h 0 95) dd 12,.own (.h 0 32) cw 13,.own (.h 0 65) cw 14,.own (.h 0 98) cw 15] (yw i [10,13,11,14,12,15,16,8,9] 7 [] 0 C) (x0 i [10,13,11,14,12,15,16,8,9]),[],[]++v5 i [10,13,11,14,12,15,16,8,9],⟨[],[]⟩⟩
def aqD:cb (XJ i C).b1:=(.ae (.ae (.ae (.j ⟨57,[],[(.t 5,a)],[],.f⟩ .z (.bO ⟨([.ptr 0 0,U,U,.ptr 10 0,.ptr 0 (33*i+0),b (apB ac C.ag)]++(us 135 ([]))),cd aH 1 C [(10,[b q,b (i:Int),b ac.z,b ac.I,b ac.w,b ac.m,.str ac.N,.str ac.ao,.str ac.i,b ac.aC])]⟩ (.ae (.ae (.c false (.ae (.c false (.ae (.c false (.s (.ae (.c false .z)) (.c false (.ae (.c false (.ae (.c false .z))))))))))))))))))
def Vo(i:Nat)(ac:aJ)(C:ak):Prop:=(((decide ((C.ag.n:Int)>0))=true→(((C.ag.n:Int):Int)≠0))∧((C.d i).up=true→(js (C.d i))))
theorem ayt(i:Nat)(e:i<3)(ac:aJ)(C:ak)(d:ez C)(g:ac.N.size≤549755813888)(h:ac.ao.size≤549755813888)(j:ac.i.size≤549755813888)(a:eO C ac):Vo i ac C:=by
 have c:=gE d i e;unfold fw at c;unfold Vo;exact have:=nI a i;have:=(nI a i).j;have:=(nI a i).ws;have:=oN a;have:=a.2.yq;have:=a.2.yr;have:=a.2.ys;have:=a.2.lI;(⟨(fun b=>(by have:=al b;omega)),(fun f=>(by assumption))⟩)
theorem lD(q:Int)(c:q=2∨q=3∨q=4∨q=9∨q=11)(i:Nat)(a:i<3)(ac:aJ)(f:ac.N.size≤549755813888)(g:ac.ao.size≤549755813888)(h:ac.i.size≤549755813888)(C:ak)(d:ez C)(e:eO C ac):fm Tryz.prog 31 ((NM q i).args ([b q,b (i:Int),b ac.z,b ac.I,b ac.w,b ac.m,.str ac.N,.str ac.ao,.str ac.i,b ac.aC]++hX C)) ((NM q i).c3 (([b q,b (i:Int),b ac.z,b ac.I,b ac.w,b ac.m,.str ac.N,.str ac.ao,.str ac.i,b ac.aC]++hX C).drop (NM q i).dE)) [] (ca [10,13,11,14,12,15,16,8,9] 7 (C.put i (se q i ac (C.d i)) (ux q i ac (C.d i) C.ag) C.told C.a8)):=by
 refine ef (XJ i C) (aqD q i ac C) (Vo i ac C) (bJ 10 aT (aj (avn i a) bI)) Tryz.func31 (List.replicate 34 .f++[.l,.l]) ?_ ?_ (ayt i a ac C d f g h e)
 ·rcases bV a with rfl|rfl|rfl<;>rcases c with rfl|rfl|rfl|rfl|rfl<;>kernel_rfl
 ·rcases bV a with rfl|rfl|rfl<;>rcases c with rfl|rfl|rfl|rfl|rfl<;>kernel_rfl
end
theorem ep{α:Type}{P:α→Prop}{c:Bool}{a b:α}(d:P a)(e:P b):P (cond c a b):=by
 cases c
 ·exact e
 ·exact d
theorem aw0{x:aq}(h:kS x):dS (G.lit [x]):=fun j=>by
 show kS (([x]:List aq).getD j default)
 match j with
 |0=>exact h
 |j+1=>exact lF 0
theorem aw1{A:G bo}{c g b t:Int}{s:G aq}(i:lj b t s)(h:dS s)(a:(oQ A c b t s)=true):dS (tZ A c g b t s):=by
 unfold oQ at a;unfold tZ;generalize A.at' (toNat c)=E at*
 cases f:(ff E.q E.C E.z E.I E.w E.m E.N E.ao E.i E.aC E.bU E.bY E.bN E.cc E.aY E.cU E.eI E.ei E.eJ E.ej !=0)with
 |true=>rw[f]at a;cases a
 |false=>
  have l:=V3 (bB f)
  cases m:(E.q==1)
  ·simp only[aS]
   cases d:(E.q==2)
   ·simp only[aS]
    cases aZ:(E.q==3)
    ·exact h
    ·simp only[aQ]
     cases decide (E.aY>g)
     ·exact h
     ·simp only[aQ];have aZ:=eq_of_beq aZ;have r:(1≤E.aY∧E.aY≤1048576)∧(1≤E.cU∧E.cU≤1048576):=by omega
      have k:=eS _ _ _ i;unfold nS
      cases nT b t s E.aY E.cU
      ·exact lF
      ·exact(VX k.1.1 k.2.2.2 k.2.2.1 ⟨by omega,r.1.2⟩ h).2.2.2
   ·simp only[aQ];have d:=eq_of_beq d;have j:e_ E.w E.m E.N E.ao E.i E.aC E.bU E.bY E.bN E.cc=0:=by
     rcases l with⟨e,_⟩|⟨_,_,q⟩|⟨e,_⟩
     ·omega
     ·exact q
     ·omega
    unfold wy;refine ep (P:=dS) h (ep (P:=dS) h ?_);exact ep (P:=dS) h (afc (x1 h _ _) (aw0 (aAL j)))
  ·exact h
def nB(a b t:Int)(s:G aq):Prop:=Oi a b∧lj b t s∧dS s
abbrev alr:=Bool×Int×Int×Int×Int×Int×G L×Int×G aw×Int×Int×G aq×Int×Int×Int×Int×Int×G L×Int×G aw×Int×Int×G aq×Int
def Xv(r:alr):Prop:=(r.1=true∧r.2.2.2.2.2.2.2.2.2.2.2.2.2.2.1=0∧r.2.2.2.2.2.2.2.2.2.2.2.2.2.2.2.2.2.2.2.2.1=0∧r.2.2.2.2.2.2.2.2.2.2.2.2.2.2.2.2.2.2.2.2.2.2.1=D)∨(r.1=false∧nB r.2.2.2.1 r.2.2.2.2.2.2.2.2.2.1 r.2.2.2.2.2.2.2.2.2.2.1 r.2.2.2.2.2.2.2.2.2.2.2.1)
theorem ZM{A:G bo}(u:A.n≤549755813888): ∀(m c:Nat) (a g i d j k:Int) (e:G L) (l:Int) (cs:G aw) (b t:Int) (s:G aq),0≤a→a+(m:Int)=(A.n:Int)→m≤c→nB d b t s→Xv (rV A (c+1) a g i d j k e l cs b t s)
 |0,c,a,g,i,d,j,k,e,l,cs,b,t,s,o,r,p,h=>by
  rw[rV,bp (show¬a<(A.n:Int) by omega)];exact .inr ⟨rfl,h⟩
 |m+1,c,a,g,i,d,j,k,e,l,cs,b,t,s,o,r,p,h=>by
  obtain⟨c,rfl⟩: ∃q,c=q+1:=⟨c-1,by omega⟩;rw[rV,bS (show a<(A.n:Int) by omega)];simp only[aQ]
  cases f:oQ A a b t s with
  |false=>
   simp only[aS];refine .inl ?_;generalize (ff _ _ _ _ _ _ _ _ _ _ _ _ _ _ _ _ _ _ _ _ !=0)=n
   cases n<;>exact⟨rfl,rfl,rfl,rfl⟩
  |true=>
   simp only[aQ];rw[E _];exact ZM u m c (a+1) _ _ _ _ _ _ _ _ _ _ _ (by omega) (by omega) (by omega) ⟨aof h.1 f,qG h.2.1 f,aw1 h.2.1 h.2.2 f⟩
theorem aoB{A:G bo}(h:A.n≤549755813888):(oP A=mL A∧0≤mL A∧mL A≤1048576)∧(p5 A).n≤200∧oP A+((p5 A).n:Int)≤1048576∧dS (p5 A):=by
 have:=ZM h A.n (toNat ((A.n:Int)-0)) 0 EZ E0 xg AH uP uQ uR uS xh xi xf (cR _) (by omega) (by omega) ⟨⟨rfl,by decide,by decide⟩,qF,lF⟩;have:Xv (e7 A):=this;unfold oP mL p5 kY;rcases this with⟨e,b,c,a⟩|⟨e,d,f,g⟩
 ·rw[e];simp only[aQ,aS];rw[b,c,a];exact⟨⟨rfl,by decide,by decide⟩,cf _,by decide,lF⟩
 ·rw[e];simp only[aQ,aS];have k:=eS _ _ _ f;exact⟨d,k.2.2.1,k.2.2.2,g⟩
theorem aeU(A:G Int)(g:Int): ∀(k:Nat) (v:Int) (s:G bo),(mK A g k v s).2.n≤s.n+k
 |0,_,_=>cf _
 |k+1,v,s=>by
  rw[mK];have b:(v,s).2.n≤s.n+(k+1):=pJ _ _;refine ep (P:=fun r:Int×G bo=>r.2.n≤s.n+(k+1)) (ep (P:=fun r:Int×G bo=>r.2.n≤s.n+(k+1)) b (ep (P:=fun r:Int×G bo=>r.2.n≤s.n+(k+1)) b ?_)) b;refine dB (aeU A g k _ _) ?_;show s.n+1+k≤s.n+(k+1);omega
theorem axG{A:G Int}{g:Int} :(tY A g).n≤549755813888:=by
 unfold tY
 cases e:hc A g
 ·exact cf _
 ·have h:=aeU A g ((toNat (((br A g).n:Int)-0))+1) 0 D;have a:=(qH A g e).2;have z:(D:G bo).n=0:=rfl;show(lZ A g).2.n≤_;unfold lZ;omega
theorem aBI{A:G Int}{g:Int}(h:aD A):aD (wu A g):=by
 unfold wu
 cases hc A g
 ·exact GY
 ·exact ld (kK h)
theorem atx{A:Int}{d:H}(h:bQ d):bQ (l7 A d):=by
 have b:=h.i;have k:=aoB (A:=tY (o7 d.aX d.bc A) (uT d.aX d.bc A)) axG;obtain⟨⟨m,f,c⟩,g,i,l⟩:=k;have z:(0:Int)≤0∧(0:Int)≤1048577:=by decide
 have a:(0:Int)≤0∧(0:Int)≤1048576:=by decide
 exact⟨⟨b.bh,by show 0≤oP _;omega,by show oP _≤mL _;omega,c,g,i,cf _,⟨z,z,z⟩,l,aBI (M0 b.u8),⟨f,c⟩,⟨a,a,a⟩⟩,⟨cf _,fun j e=>absurd e (en j)⟩⟩
end Go.Proofs.YtfmgjpcmcjjoiaaGreatDoor
