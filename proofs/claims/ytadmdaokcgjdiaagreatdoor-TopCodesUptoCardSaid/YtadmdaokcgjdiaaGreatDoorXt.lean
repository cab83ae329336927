import Derived.Test.YtadmdaokcgjdiaaGreatDoorXs
open Go.IntKind (i64 u64 u8)
open Int (toNat)
set_option maxRecDepth 100000
set_option maxHeartbeats 4000000
set_option linter.all false
noncomputable section
namespace Go.Proofs.YtadmdaokcgjdiaaGreatDoor
open Go Go.RowKit Go.af
def X_{A g h:Int}{r:G R}(b:0<=A)(d:A+(r.n:Int)<=1048576)(f:r.n<=200)(a:0<=h/\h<=1048576)(c:ei r):
  (0<=qe A g r h/\qe A g r h<=h)/\(rJ A g r h).n<=200/\qe A g r h+((rJ A g r h).n:Int)<=1048576/\ei (rJ A g r h):=by
 unfold qe rJ;have z:((B:G R).n:Int)=0:=rfl;have i:(B:G R).n=0:=rfl
 cases (cE A g r !=0)
 .simp only[aX]
  cases e:(gx A r h !=0)
  .simp only[aX];have k:=As A r h ⟨bK e,⟨b,Ω⟩,Ω,Ω⟩;rw[E (h-A),G.uw];exact⟨⟨a.1,aZ _⟩,Ω,Ω,ze c _ _⟩
  .simp only[aR];exact⟨⟨aZ _,a.1⟩,Ω,Ω,mr⟩
 .simp only[aR];exact⟨⟨aZ _,a.1⟩,Ω,Ω,mr⟩
def aCG{A g h o c y:Int}{r:G R}{v:G N}{p:G ar}(b:0<=A)(d:A+(r.n:Int)<=1048576)(f:r.n<=200)(a:0<=h/\h<=1048576)(e:ei r):
  (0<=vX A g r h o c v y p/\vX A g r h o c v y p<=h)/\(vY A g r h o c v y p).n<=200/\vX A g r h o c v y p+((vY A g r h o c v y p).n:Int)<=1048576/\ei (vY A g r h o c v y p):=by
 unfold vX vY;have z:((B:G R).n:Int)=0:=rfl;have i:(B:G R).n=0:=rfl
 cases (cE A g r !=0)
 .simp only[aX]
  cases (mm h o c v y p !=0)
  .simp only[aX];unfold oV oW
   cases oX A g r h o
   .simp only[aX];exact⟨⟨a.1,aZ _⟩,Ω,Ω,mr⟩
   .simp only[aR];exact X_ b d f a e
  .simp only[aR];exact⟨⟨aZ _,a.1⟩,Ω,Ω,mr⟩
 .simp only[aR];exact⟨⟨aZ _,a.1⟩,Ω,Ω,mr⟩
def av2{ms:aj}{d:H}(h:b7 d)(j:hb ms):b7 (k6 ms d):=by
 have f:=h.i;have s:b7 (mj ms d):=by
  refine⟨?_,h.o⟩
  by_cases i:ms.aD>d.co
  .have l:0<=ms.aD/\ms.aD<=1048576:=j.bR;have r:=aCG (g:=d.lt) (o:=ms.bX) (c:=ms.b_) (v:=ms.b2) (y:=ms.cm) (p:=ms.bb) f.j f.ee f.gG l f.li;have k:(mj ms d).j=vX d.j d.lt d.li ms.aD ms.bX ms.b_ ms.b2 ms.cm ms.bb:=by
    show ru ms d=_;unfold ru;rw[bM i];rfl
   have bk:(mj ms d).li=vY d.j d.lt d.li ms.aD ms.bX ms.b_ ms.b2 ms.cm ms.bb:=by
    show ry ms d=_;unfold ry;rw[bM i];rfl
   have n:(mj ms d).bR=ms.aD:=by
    show rz ms d=_;unfold rz;rw[bM i];rfl
   have m:(mj ms d).co=ms.aD:=by
    show F8 ms d=_;unfold F8;rw[bM i];rfl
   have RL:aK (mj ms d).a_:=by
    show aK (rv ms d);unfold rv;rw[bM i];exact uL f.u8
   exact⟨f.bf,by rw[k];exact r.1.1,by rw[k,m];exact r.1.2,by rw[m];exact l.2,by rw[bk];exact r.2.1,by rw[k,bk];exact r.2.2.1,f.ws,f.pp,by rw[bk];exact r.2.2.2,RL,by rw[n];exact j.bR,f.hr⟩
  .have e: ∀{α:Type} (a b:α),(cond (decide (ms.aD>d.co)) a b)=b:=λa b=>by rw[bj i];rfl
   refine f.h_ _ ?_ ?_ f.ws
   .show(d.bf,ru ms d,F8 ms d,ry ms d,d.dO,d.dD,d.dG,rz ms d,d.hq,d.q1,d.fQ)=_;unfold ru F8 ry rz;simp only[e]
   .show aK (rv ms d);unfold rv;rw[e];exact f.u8
 unfold k6;have q:0<=ms.q/\ms.q<3:=j.lB;exact oo (λ_=>qn s q (wz j.bR)) λ_=>af9 h
def ag3(A:Int)(d:H)(i:d.ws.n<=3000)(j:A<=1048576): ∀(k:Nat) (a:Int) (b:G N) (c:Int) (f:G ar) (v:Int) (s:G bF),0<=v->v<=1048576->toNat (A-v)<k->
  v<=(k7 A d k a b c f v s).2.2.2.2.1/\((k7 A d k a b c f v s).2.2.2.2.1=v\/(k7 A d k a b c f v s).2.2.2.2.1<=A)/\(((k7 A d k a b c f v s).2.2.2.2.2.n:Nat):Int)<=(s.n:Int)+3000*((k7 A d k a b c f v s).2.2.2.2.1-v)
 |0,_,_,_,_,_,_,_,_,h=>absurd h (eD _)
 |k+1,a,b,c,f,v,s,m,n,h=>by
  rw[k7]
  by_cases e:v<A
  .rw[bM e,aR,E (v+1)];have o:=ahL d a b c f v s Ω;have l:=ag3 A d i j k (T8 d a b c f v) (T9 d a b c f v) (T_ d a b c f v) (Um d a b c f v) (v+1) (Lm d a b c f v s).2.1 Ω Ω Ω;obtain⟨p,g,q⟩:=l;refine⟨Ω,?_,?_⟩
   .rcases g with g|g
    .exact .inr Ω
    .exact .inr g
   .omega
  .rw[bj e,aX];refine⟨aZ _,.inl rfl,?_⟩;show(s.n:Int)<=(s.n:Int)+3000*(v-v);omega
def af_{A:Int}{d:H}{ah:G bF}(h:b7 d)(m:A<=d.j+(d.li.n:Int)):b7 (lK A d ah)/\(((yp A d ah).n:Nat):Int)<=(ah.n:Int)+600000:=by
 have a:=h.i;have e:A<=1048576:=by have:=a.ee;omega
 have b:0<=d.co:=by have:=a.j;have:=a.hM;omega
 obtain⟨f,g,i⟩:=ag3 A d a.ws e (toNat (A-d.co)+1) d.ep d.dn d.e1 d.er d.co ah b a.co Ω;have c:k7 A d (toNat (A-d.co)+1) d.ep d.dn d.e1 d.er d.co ah=BU A d ah:=rfl;rw[c]at f g i;have l:=a.gG;have j:=a.hM;have k:=a.co;refine⟨⟨⟨a.bf,a.j,?_,?_,a.gG,a.ee,a.ws,a.pp,a.li,a.u8,a.bR,a.hr⟩,h.o⟩,?_⟩
 .show d.j<=(BU A d ah).2.2.2.2.1;omega
 .show(BU A d ah).2.2.2.2.1<=1048576;omega
 .show(((BU A d ah).2.2.2.2.2.n:Nat):Int)<=_;omega
def Wf{d:H}{L:G aj}{ah:G bF}{au:G aU}(a:jS d): ∀(k:Nat) (v:Int),v<=d.j+(d.li.n:Int)->
  (o6 d L ah au k v).1=false\/ ∃p,p<=d.j+(d.li.n:Int)/\o6 d L ah au k v=(true,wO (lK p d ah) L (yp p d ah) au)
 |0,_,_=> .inl rfl
 |k+1,v,b=>by
  rw[o6]
  by_cases e:v>d.co
  .rw[bM e,aR]
   cases vL d v
   .rw[aX,wrap64 (x:=v-1) (by have:=a.j;have:=a.hM;omega) (by have:=a.ee;omega)];exact Wf a k (v-1) Ω
   .exact .inr ⟨v,b,rfl⟩
  .rw[bj e,aX];exact .inl rfl
def av7{d:H}{L:G aj}{ah:G bF}{au:G aU}(h:b7 d):b7 (o5 d L ah au)/\yq d L ah au=L/\(((ys d L ah au).n:Nat):Int)<=(ah.n:Int)+600000/\yr d L ah au=au:=by
 have c:=Jg d ⟨h.i.j,by have:=h.i.ee;omega⟩;have b:=Wf (L:=L) (ah:=ah) (au:=au) h.i (toNat (bP d-d.co)+1) (bP d) c.2;have g:o6 d L ah au (toNat (bP d-d.co)+1) (bP d)=p_ d L ah au:=rfl;rw[g]at b;unfold o5 yq ys yr;rw[H.eY];rcases b with e|⟨p,f,e⟩
 .rw[e];exact⟨h,rfl,by simp only[aX];omega,rfl⟩
 .rw[e];have a:=af_ (ah:=ah) h f;exact⟨a.1,rfl,a.2,rfl⟩
section
variable(i:Nat)(ac:a7)(C:aA)(d:H)
def arC(L:G aj):Int:=(cond (decide ((L.n:Int)>0)) (ac.z.tmod (L.n:Int)) (-1))
def TH:H:=(k2 (⟨ac.M,ac.w,ac.C,ac.P,ac.aw,ac.f,ac.aD⟩:j9) d)
def TI(ah:G bF):G bF:=(p3 (⟨ac.M,ac.w,ac.C,ac.P,ac.aw,ac.f,ac.aD⟩:j9) d ah)
def Pf:dr:=⟨[.p 0,.g [a,a,a,a,a,a,al,al,al,a]],ck,e0,eN,λ(b:Int) (c:Int) (d:Int) (e:Int) (f:Int) (g:Int) h j k (l:Int)=>cP λC=>⟨⟨some (e7 C (⟨b,c,d,e,f,g,h,j,k,l⟩:a7)),[],cu [10,13,11,14,12,15,16,8,9] 7 (C.put i (TH (⟨b,c,d,e,f,g,h,j,k,l⟩:a7) (C.d i)) C.ag (TI (⟨b,c,d,e,f,g,h,j,k,l⟩:a7) (C.d i) C.told) C.bh)⟩⟩⟩
def ZA:cT:=⟨.eR true [.b 10] [.own (.h 0 99) cJ 16,.own (.h 0 29) du 10,.own (.h 0 62) du 11,.own (.h 0 95) du 12,.own (.h 0 32) cJ 13,.own (.h 0 65) cJ 14,.own (.h 0 98) cJ 15] (zM i [10,13,11,14,12,15,16,8,9] 7 [] 0 C) (zd i [10,13,11,14,12,15,16,8,9]),[],[]++xj i [10,13,11,14,12,15,16,8,9],⟨[],[]⟩⟩
def as2:cw (ZA i C).cg:=(.ae (.ae (.ae (.j ⟨57,[],[(.t 5,a)],[],.f⟩ .z (.bs ⟨([.ptr 0 0,U,U,.ptr 10 0,.ptr 0 (33*i+0),b (arC ac C.ag)]++(us 135 ([]))),cy aO 1 C [(10,[b 1,b (i:Int),b ac.z,b ac.M,b ac.w,b ac.C,.str ac.P,.str ac.aw,.str ac.f,b ac.aD])]⟩ (.ae (.ae (.c true .z))))))))
def Xu(i:Nat)(ac:a7)(C:aA):Prop:=(((decide ((C.ag.n:Int)>0))=true->(((C.ag.n:Int):Int)≠0))/\(C.told.n<=549000000000/\ac.P.size<=10000000000/\ac.aw.size<=10000000000/\ac.f.size<=10000000000/\(C.d i).ws.n<=549000000000))
def aA0(i:Nat)(e:i<3)(ac:a7)(C:aA)(d:eP C)(f:ac.P.size<=549755813888)(g:ac.aw.size<=549755813888)(h:ac.f.size<=549755813888)(a:e7 C ac):Xu i ac C:=by
 have c:=g4 d i e;unfold fS at c;unfold Xu;exact have:=oN a i;have:=(oN a i).j;have:=(oN a i).ws;have:=pM a;have:=a.2.zG;have:=a.2.zH;have:=a.2.zI;have:=a.2.lS;(⟨(λb=>(by have:=an b;omega)),Ω⟩)
def Wb(i:Nat)(a:i<3)(ac:a7)(e:ac.P.size<=549755813888)(f:ac.aw.size<=549755813888)(g:ac.f.size<=549755813888)(C:aA)(c:eP C)(d:e7 C ac):fL Tryz.prog 18 ((Pf i).args ([b 1,b (i:Int),b ac.z,b ac.M,b ac.w,b ac.C,.str ac.P,.str ac.aw,.str ac.f,b ac.aD]++ix C)) ((Pf i).dh (([b 1,b (i:Int),b ac.z,b ac.M,b ac.w,b ac.C,.str ac.P,.str ac.aw,.str ac.f,b ac.aD]++ix C).drop (Pf i).dR)) [] (cu [10,13,11,14,12,15,16,8,9] 7 (C.put i (TH ac (C.d i)) C.ag (TI ac (C.d i) C.told) C.bh)):=by
 refine eC (ZA i C) (as2 i ac C) (Xu i ac C) (b1 10 a2 (ay (axP i a) b0)) Tryz.func18 [] ?_ ?_ (aA0 i a ac C c e f g d)
 .rcases ca a with rfl|rfl|rfl<;>kernel_rfl
 .rcases ca a with rfl|rfl|rfl<;>kernel_rfl
end
section
variable(q:Int)(i:Nat)(ac:a7)(C:aA)(d:H)(L:G aj)
def arP:Int:=(cond (decide ((L.n:Int)>0)) (ac.z.tmod (L.n:Int)) (-1))
def rm:H:=(H.bif d.up (o2 (⟨q,(i:Int),ac.z,ac.M,ac.w,ac.C,ac.P,ac.aw,ac.f,ac.aD⟩:a7) d) d)
def p2:G aj:=(cond d.up (yf (⟨q,(i:Int),ac.z,ac.M,ac.w,ac.C,ac.P,ac.aw,ac.f,ac.aD⟩:a7) d L) L)
def Pq:dr:=⟨[.p 0,.g [a,a,a,a,a,a,al,al,al,a]],ck,e0,eN,λ(b:Int) (c:Int) (d:Int) (e:Int) (f:Int) (g:Int) h j k (l:Int)=>cP λC=>⟨⟨some (e7 C (⟨b,c,d,e,f,g,h,j,k,l⟩:a7)),[],cu [10,13,11,14,12,15,16,8,9] 7 (C.put i (rm q i (⟨b,c,d,e,f,g,h,j,k,l⟩:a7) (C.d i)) (p2 q i (⟨b,c,d,e,f,g,h,j,k,l⟩:a7) (C.d i) C.ag) C.told C.bh)⟩⟩⟩
def ZH:cT:=⟨.eR true [.b 10] [.own (.h 0 99) cJ 16,.own (.h 0 29) du 10,.own (.h 0 62) du 11,.own (.h 0 95) du 12,.own (.h 0 32) cJ 13,.own (.h 0 65) cJ 14,.own (.h 0 98) cJ 15] (zM i [10,13,11,14,12,15,16,8,9] 7 [] 0 C) (zd i [10,13,11,14,12,15,16,8,9]),[],[]++xj i [10,13,11,14,12,15,16,8,9],⟨[],[]⟩⟩
def as9:cw (ZH i C).cg:=(.ae (.ae (.ae (.j ⟨57,[],[(.t 5,a)],[],.f⟩ .z (.bs ⟨([.ptr 0 0,U,U,.ptr 10 0,.ptr 0 (33*i+0),b (arP ac C.ag)]++(us 135 ([]))),cy aO 1 C [(10,[b q,b (i:Int),b ac.z,b ac.M,b ac.w,b ac.C,.str ac.P,.str ac.aw,.str ac.f,b ac.aD])]⟩ (.ae (.ae (.c false (.ae (.c false (.ae (.c false (.s (.ae (.c false .z)) (.c false (.ae (.c false (.ae (.c false .z))))))))))))))))))
def XC(i:Nat)(ac:a7)(C:aA):Prop:=(((decide ((C.ag.n:Int)>0))=true->(((C.ag.n:Int):Int)≠0))/\((C.d i).up=true->(jS (C.d i))))
def aA7(i:Nat)(e:i<3)(ac:a7)(C:aA)(d:eP C)(g:ac.P.size<=549755813888)(h:ac.aw.size<=549755813888)(j:ac.f.size<=549755813888)(a:e7 C ac):XC i ac C:=by
 have c:=g4 d i e;unfold fS at c;unfold XC;exact have:=oN a i;have:=(oN a i).j;have:=(oN a i).ws;have:=pM a;have:=a.2.zG;have:=a.2.zH;have:=a.2.zI;have:=a.2.lS;(⟨(λb=>(by have:=an b;omega)),(λf=>Ψ)⟩)
def mo(q:Int)(c:q=2\/q=3\/q=4\/q=9\/q=11)(i:Nat)(a:i<3)(ac:a7)(f:ac.P.size<=549755813888)(g:ac.aw.size<=549755813888)(h:ac.f.size<=549755813888)(C:aA)(d:eP C)(e:e7 C ac):fL Tryz.prog 18 ((Pq q i).args ([b q,b (i:Int),b ac.z,b ac.M,b ac.w,b ac.C,.str ac.P,.str ac.aw,.str ac.f,b ac.aD]++ix C)) ((Pq q i).dh (([b q,b (i:Int),b ac.z,b ac.M,b ac.w,b ac.C,.str ac.P,.str ac.aw,.str ac.f,b ac.aD]++ix C).drop (Pq q i).dR)) [] (cu [10,13,11,14,12,15,16,8,9] 7 (C.put i (rm q i ac (C.d i)) (p2 q i ac (C.d i) C.ag) C.told C.bh)):=by
 refine eC (ZH i C) (as9 q i ac C) (XC i ac C) (b1 10 a2 (ay (axQ i a) b0)) Tryz.func18 (List.replicate 34 .f++[.l,.l]) ?_ ?_ (aA7 i a ac C d f g h e)
 .rcases ca a with rfl|rfl|rfl<;>rcases c with rfl|rfl|rfl|rfl|rfl<;>kernel_rfl
 .rcases ca a with rfl|rfl|rfl<;>rcases c with rfl|rfl|rfl|rfl|rfl<;>kernel_rfl
end
def e3{α:Type}{P:α->Prop}{c:Bool}{a b:α}(d:P a)(e:P b):P (cond c a b):=by
 cases c
 .exact e
 .exact d
def azz{x:R}(h:lv x):ei (G.lit [x]):=λj=>by
 show lv (([x]:List R).getD j default)
 match j with
 |0=>exact h
 |j+1=>exact mr 0
def azA{A:G bm}{c g b t:Int}{s:G R}(i:l2 b t s)(h:ei s)(a:(pP A c b t s)=true):ei (vg A c g b t s):=by
 unfold pP at a;unfold vg;generalize A.at' (toNat c)=E at*
 cases f:(fA E.q E.F E.z E.M E.w E.C E.P E.aw E.f E.aD E.bX E.b_ E.b2 E.cm E.bb E.cO E.eK E.ek E.eL E.en !=0)with
 |true=>rw[f]at a;cases a
 |false=>
  have l:=Yf (bK f)
  cases m:(E.q==1)
  .simp only[aX]
   cases d:(E.q==2)
   .simp only[aX]
    cases bk:(E.q==3)
    .exact h
    .simp only[aR]
     cases decide (E.bb>g)
     .exact h
     .simp only[aR];have bk:=eq_of_beq bk;have r:(1<=E.bb/\E.bb<=1048576)/\(1<=E.cO/\E.cO<=1048576):=by omega
      have k:=fb _ _ _ i;unfold oW
      cases oX b t s E.bb E.cO
      .exact mr
      .exact(X_ k.1.1 k.2.2.2 k.2.2.1 ⟨Ω,r.1.2⟩ h).2.2.2
   .simp only[aR];have d:=eq_of_beq d;have j:fc E.w E.C E.P E.aw E.f E.aD E.bX E.b_ E.b2 E.cm=0:=by
     rcases l with⟨e,_⟩|⟨_,_,q⟩|⟨e,_⟩
     .omega
     .exact q
     .omega
    unfold xG;refine e3 (P:=ei) h (e3 (P:=ei) h ?_);exact e3 (P:=ei) h (ahf (ze h _ _) (azz (aDn j)))
  .exact h
def oE(a b t:Int)(s:G R):Prop:=PZ a b/\l2 b t s/\ei s
abbrev anD:=Bool×Int×Int×Int×Int×Int×G N×Int×G ar×Int×Int×G R×Int×Int×Int×Int×Int×G N×Int×G ar×Int×Int×G R×Int
def Zu(r:anD):Prop:=(r.1=true/\r.2.2.2.2.2.2.2.2.2.2.2.2.2.2.1=0/\r.2.2.2.2.2.2.2.2.2.2.2.2.2.2.2.2.2.2.2.2.1=0/\r.2.2.2.2.2.2.2.2.2.2.2.2.2.2.2.2.2.2.2.2.2.2.1=B)\/(r.1=false/\oE r.2.2.2.1 r.2.2.2.2.2.2.2.2.2.1 r.2.2.2.2.2.2.2.2.2.2.1 r.2.2.2.2.2.2.2.2.2.2.2.1)
def abP{A:G bm}(u:A.n<=549755813888): ∀(m c:Nat) (a g i d j k:Int) (e:G N) (l:Int) (cs:G ar) (b t:Int) (s:G R),0<=a->a+(m:Int)=(A.n:Int)->m<=c->oE d b t s->Zu (s3 A (c+1) a g i d j k e l cs b t s)
 |0,c,a,g,i,d,j,k,e,l,cs,b,t,s,o,r,p,h=>by
  rw[s3,bj (show¬a<(A.n:Int) by omega)];exact .inr ⟨rfl,h⟩
 |m+1,c,a,g,i,d,j,k,e,l,cs,b,t,s,o,r,p,h=>by
  obtain⟨c,rfl⟩: ∃q,c=q+1:=⟨c-1,Ω⟩;rw[s3,bM (show a<(A.n:Int) by omega)];simp only[aR]
  cases f:pP A a b t s with
  |false=>
   simp only[aX];refine .inl ?_;generalize (fA _ _ _ _ _ _ _ _ _ _ _ _ _ _ _ _ _ _ _ _ !=0)=n
   cases n<;>exact⟨rfl,rfl,rfl,rfl⟩
  |true=>
   simp only[aR];rw[E _];exact abP u m c (a+1) _ _ _ _ _ _ _ _ _ _ _ Ω Ω Ω ⟨aqp h.1 f,rS h.2.1 f,azA h.2.1 h.2.2 f⟩
def aqM{A:G bm}(h:A.n<=549755813888):(pO A=nH A/\0<=nH A/\nH A<=1048576)/\(ra A).n<=200/\pO A+((ra A).n:Int)<=1048576/\ei (ra A):=by
 have:=abP h A.n (toNat ((A.n:Int)-0)) 0 Gm Gn yu Gp vN vO vP vQ yv yw yt (aZ _) Ω Ω ⟨⟨rfl,Δ,Δ⟩,rR,mr⟩;have:Zu (e4 A):=this;unfold pO nH ra lC;rcases this with⟨e,b,c,a⟩|⟨e,d,f,g⟩
 .rw[e];simp only[aR,aX];rw[b,c,a];exact⟨⟨rfl,Δ,Δ⟩,cp _,Δ,mr⟩
 .rw[e];simp only[aR,aX];have k:=fb _ _ _ f;exact⟨d,k.2.2.1,k.2.2.2,g⟩
def agY(A:G Int)(g:Int): ∀(k:Nat) (v:Int) (s:G bm),(nG A g k v s).2.n<=s.n+k
 |0,_,_=>cp _
 |k+1,v,s=>by
  rw[nG];have b:(v,s).2.n<=s.n+(k+1):=qO _ _;refine e3 (P:=λr:Int×G bm=>r.2.n<=s.n+(k+1)) (e3 (P:=λr:Int×G bm=>r.2.n<=s.n+(k+1)) b (e3 (P:=λr:Int×G bm=>r.2.n<=s.n+(k+1)) b ?_)) b;refine dP (agY A g k _ _) ?_;show s.n+1+k<=s.n+(k+1);omega
def aAm{A:G Int}{g:Int} :(vf A g).n<=549755813888:=by
 unfold vf
 cases e:hE A g
 .exact cp _
 .have h:=agY A g ((toNat (((bH A g).n:Int)-0))+1) 0 B;have a:=(rT A g e).2;have z:(B:G bm).n=0:=rfl;show(mR A g).2.n<=_;unfold mR;omega
def aEl{A:G Int}{g:Int}(h:aK A):aK (xB A g):=by
 unfold xB
 cases hE A g
 .exact IC
 .exact lW (ll h)
def av5{A:Int}{d:H}(h:b7 d):b7 (hF A d):=by
 have b:=h.i;have k:=aqM (A:=vf (qb d.a_ d.br A) (vR d.a_ d.br A)) aAm;obtain⟨⟨m,f,c⟩,g,i,l⟩:=k;have z:(0:Int)<=0/\(0:Int)<=1048577:=by decide
 have a:(0:Int)<=0/\(0:Int)<=1048576:=by decide
 exact⟨⟨b.bf,by show 0<=pO _;omega,by show pO _<=nH _;omega,c,g,i,cp _,⟨z,z,z⟩,l,aEl (ON b.u8),⟨f,c⟩,⟨a,a,a⟩⟩,⟨cp _,λj e=>absurd e (eD j)⟩⟩
end Go.Proofs.YtadmdaokcgjdiaaGreatDoor
