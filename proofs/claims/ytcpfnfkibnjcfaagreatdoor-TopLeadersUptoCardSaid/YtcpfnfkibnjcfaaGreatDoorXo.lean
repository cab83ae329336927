import Derived.Test.YtcpfnfkibnjcfaaGreatDoorXk
open Go.IntKind (i64 u64 u8)
open Int (toNat)
set_option maxRecDepth 100000
set_option maxHeartbeats 4000000
set_option linter.all false
noncomputable section
namespace Go.Proofs.YtcpfnfkibnjcfaaGreatDoor
open Go Go.RowKit Go.ag
section
variable(i:Nat)(ms:ai)(h:N)
def sM:Int:=cond (decide (ms.aJ>h.co)) (xF h.e h.lt h.li ms.aJ ms.b4 ms.cb ms.b0 ms.cq ms.bn) h.e
def Dj:Int:=cond (decide (ms.aJ>h.co)) (V5 h.e h.lt h.li ms.aJ ms.b4 ms.cb ms.b0 ms.cq ms.bn) h.lt
def sO:I ax:=cond (decide (ms.aJ>h.co)) (xG h.e h.lt h.li ms.aJ ms.b4 ms.cb ms.b0 ms.cq ms.bn) h.li
def sP:Int:=cond (decide (ms.aJ>h.co)) ms.aJ h.b9
def auC:Int:=cond (decide (ms.aJ>h.co)) ms.b4 h.g9
def auD:Int:=cond (decide (ms.aJ>h.co)) ms.cb h.hE
def auE:I ah:=cond (decide (ms.aJ>h.co)) ms.b0 h.fU
def auF:Int:=cond (decide (ms.aJ>h.co)) ms.cq h.dW
def auG:I ay:=cond (decide (ms.aJ>h.co)) ms.bn h.fT
def auy:Int:=cond (decide (ms.aJ>h.co)) ms.cb h.fL
def auz:I ah:=cond (decide (ms.aJ>h.co)) ms.b0 h.dx
def auA:Int:=cond (decide (ms.aJ>h.co)) ms.cq h.fx
def auB:I ay:=cond (decide (ms.aJ>h.co)) ms.bn h.eN
def HK:Int:=cond (decide (ms.aJ>h.co)) ms.aJ h.co
def sN:I Int:=cond (decide (ms.aJ>h.co)) (fI (A2 ms.aJ ms.b4 ms.cb ms.b0 ms.cq ms.bn) h).a_ h.a_
def Di:Int:=cond (decide (ms.aJ>h.co)) (fI (A2 ms.aJ ms.b4 ms.cb ms.b0 ms.cq ms.bn) h).bp h.bp
def uW:Bool:=cond (decide (ms.aJ>h.co)) (cond (!(gu (A2 ms.aJ ms.b4 ms.cb ms.b0 ms.cq ms.bn) h)) false true) true
def nN:N:={h with e:=(sM ms h),lt:=(Dj ms h),li:=(sO ms h),b9:=(sP ms h),g9:=(auC ms h),hE:=(auD ms h),fU:=(auE ms h),dW:=(auF ms h),fT:=(auG ms h),fL:=(auy ms h),dx:=(auz ms h),fx:=(auA ms h),eN:=(auB ms h),co:=(HK ms h),a_:=(sN ms h),bp:=(Di ms h)}
def na:N:=N.bif (uW ms h) (dn ms.r (⟨0,0,6,h.D,ms.aJ,0,true,0,(B:I ax),0,0,0,(B:I ah),0,(B:I ay)⟩:ai) (nN ms h)) (fI (A2 ms.aJ ms.b4 ms.cb ms.b0 ms.cq ms.bn) h)
def Rr:dv:=⟨[.fZ 0 (33*i),.g [a,a,a,a,a,a,l,a,.ab dT,a,a,a,.ab bx,a,.ab b8]],cn,fp,e9,λ(b c j k m n:Int) o (p:Int) q (r d e:Int) f (g:Int) h=>cW λC=>⟨⟨some ((⟨b,c,j,k,m,n,o,p,q,r,d,e,f,g,h⟩:ai).aJ<=4194304),[],cx aS 0 (C.set i (na (⟨b,c,j,k,m,n,o,p,q,r,d,e,f,g,h⟩:ai) (C.h i)))⟩⟩⟩
def abJ:c2:=⟨.ff true [] [] (g8 i aS 0 [] 0) (g7 i aS),[],[]++gA i aS,⟨[],[]⟩⟩
def avD(C:aq):cz (abJ i).ck:=.ae (.j ⟨9,[],[(.h 0 (33*i+6),a),(.h 0 (33*i+7),a),(.h 0 (33*i+8),.ab dT),(.h 0 (33*i+9),a),(.h 0 (33*i+10),a),(.h 0 (33*i+11),a),(.h 0 (33*i+12),.ab bx),(.h 0 (33*i+13),a),(.h 0 (33*i+14),.ab b8),(.h 0 (33*i+15),a),(.h 0 (33*i+16),.ab bx),(.h 0 (33*i+17),a),(.h 0 (33*i+18),.ab b8),(.h 0 (33*i+19),a),(.h 0 (33*i+30),.ab bs),(.h 0 (33*i+31),a)],[],.f⟩ (.ae (.s (.s (.ae (.b5 ⟨([Ρ i 0,U,U,.ptr 10 0]++us 13 ([.bool (!(gu (A2 ms.aJ ms.b4 ms.cb ms.b0 ms.cq ms.bn) (C.h i)))]++us 42 ([]))),cA aS 1 (C.set i (fI (A2 ms.aJ ms.b4 ms.cb ms.b0 ms.cq ms.bn) (C.h i))) [(10,jw ms)]⟩ .z)) .z) .z)) (.b5 ⟨([Ρ i 0,U,U,.ptr 10 0]++us 56 ([])),cA aS 1 (C.set i (nN ms (C.h i))) [(10,jw ms)]⟩ (.nm [(0,(33*i+4))])))
def Zd(i:Nat)(ms:ai)(C:aq):Prop:=(decide (ms.aJ>(C.h i).co)=true->qK (A2 ms.aJ ms.b4 ms.cb ms.b0 ms.cq ms.bn)/\((!(gu (A2 ms.aJ ms.b4 ms.cb ms.b0 ms.cq ms.bn) (C.h i)))=false->ms.aJ<=9223372036854775807))
theorem aDp(i:Nat)(c:i<3)(ms:ai)(C:aq)(b:fa C)(j:ms.i.n<=549755813888)(g:ms.b0.n<=549755813888)(h:ms.bn.n<=549755813888)(f:ms.aJ<=4194304):Zd i ms C:=by
 have a:=hB b i c;unfold gz at a;unfold Zd;exact(λd=>⟨by apply tA,λe=>Ω⟩)
theorem aA4(i:Nat)(a:i<3)(ms:ai)(f:ms.i.n<=549755813888)(d:ms.b0.n<=549755813888)(e:ms.bn.n<=549755813888):fB Tryz.prog 55 (Rr i) cn [] (cW λC=>⟨⟨some (ms.aJ<=4194304),[],cx aS 0 (C.set i (na ms (C.h i)))⟩⟩) (jw ms):=by
 refine g6 λC b c=>eX (abJ i) (avD i ms C) (Zd i ms C) (bZ 10 (aR aAr ba) (az (IT i a) (az (Ay i a) bY))) Tryz.func55 (List.replicate 31 .f++List.replicate 62 .l++[.f,.f]++List.replicate 7 .l) ?_ ?_ (aDp i a ms C b f d e c)
 .exact Υ
 .exact Υ
theorem aEa(i:Nat)(c:i<3):gW 55 (Rr i):=
 kt (bF:=[a,a,a,a,a,a,l,a,.ab dT,a,a,a,.ab bx,a,.ab b8]) λs b=>Eq.mp Υ (aA4 i c ⟨s.1,s.2.1,s.2.2.1,s.2.2.2.1,s.2.2.2.2.1,s.2.2.2.2.2.1,s.2.2.2.2.2.2.1,s.2.2.2.2.2.2.2.1,s.2.2.2.2.2.2.2.2.1,s.2.2.2.2.2.2.2.2.2.1,s.2.2.2.2.2.2.2.2.2.2.1,s.2.2.2.2.2.2.2.2.2.2.2.1,s.2.2.2.2.2.2.2.2.2.2.2.2.1,s.2.2.2.2.2.2.2.2.2.2.2.2.2.1,s.2.2.2.2.2.2.2.2.2.2.2.2.2.2.1⟩ (b.2.2.2.2.2.2.2.2.1 rfl) (b.2.2.2.2.2.2.2.2.2.2.2.2.1 rfl) (b.2.2.2.2.2.2.2.2.2.2.2.2.2.2.1 rfl))
theorem vy(i:Nat)(a:i<3):gX 55 (Rr i):=hi g4 Tryz.func55 (aEa i a)
end
section
variable(i:Nat)(ms:ai)(C:aq)(h:N)(L:I ai)(aj:I bI)(an:I aw)
def Dh(a:I Int)(b:Int):N:={h with a_:=a,bp:=b}
def m9(ms:ai)(h:N)(L:I ai)(aj:I bI)(an:I aw):Nat->Int->I Int->Int->Bool×I Int×Int×tV
 |0,_,_,_=>default
 |k+1,a,b,c=>cond (decide (a<=i64 (cr h.e h.lt h.li ms.j ms.m ms.i+((cf h.e h.lt h.li ms.j ms.m ms.i).n:Int)))) (cond (!(gu (PO a ((cf h.e h.lt h.li ms.j ms.m ms.i).at' (toNat (i64 (i64 (a- (cr h.e h.lt h.li ms.j ms.m ms.i))-1))))) (Dh h b c))) (true,default,default,yg h L aj an) (m9 ms h L aj an k (i64 (a+1)) (fI (PO a ((cf h.e h.lt h.li ms.j ms.m ms.i).at' (toNat (i64 (i64 (a- (cr h.e h.lt h.li ms.j ms.m ms.i))-1))))) (Dh h b c)).a_ (fI (PO a ((cf h.e h.lt h.li ms.j ms.m ms.i).at' (toNat (i64 (i64 (a- (cr h.e h.lt h.li ms.j ms.m ms.i))-1))))) (Dh h b c)).bp)) (false,b,c,default)
def ji:Bool×I Int×Int×tV:=let a:=dQ h.e h.lt h.li ms.j ms.m ms.i;m9 ms h L aj an (toNat (i64 (cr h.e h.lt h.li ms.j ms.m ms.i+((cf h.e h.lt h.li ms.j ms.m ms.i).n:Int))+1-a)+1) a h.a_ h.bp
def zH:Bool:=cond (ji ms h L aj an).1 false true
def m_:Int:=cond (decide (dQ h.e h.lt h.li ms.j ms.m ms.i>0)) (cr h.e h.lt h.li ms.j ms.m ms.i) h.e
def Df:Int:=cond (decide (dQ h.e h.lt h.li ms.j ms.m ms.i>0)) (va h.e h.lt h.li ms.j ms.m ms.i) h.lt
def lX:I ax:=cond (decide (dQ h.e h.lt h.li ms.j ms.m ms.i>0)) (cf h.e h.lt h.li ms.j ms.m ms.i) h.li
def xe:I Int:=cond (decide (dQ h.e h.lt h.li ms.j ms.m ms.i>0)) (ji ms h L aj an).2.1 h.a_
def Dg:Int:=cond (decide (dQ h.e h.lt h.li ms.j ms.m ms.i>0)) (ji ms h L aj an).2.2.1 h.bp
def la:Bool:=cond (decide (dQ h.e h.lt h.li ms.j ms.m ms.i>0)) (cond (zH ms h L aj an) true false) true
def rh:N:={h with e:=(m_ ms h),lt:=(Df ms h),li:=(lX ms h),a_:=(xe ms h L aj an),bp:=(Dg ms h L aj an)}
def m8:N:=N.bif (iP h.e h.lt h.li ms.j ms.m ms.i !=0) h (N.bif (!(jF h.e h.lt h.li ms.j ms.m ms.i)) (dn ms.r (⟨0,0,6,h.D,h.co,0,false,0,(B:I ax),0,0,0,(B:I ah),0,(B:I ay)⟩:ai) h) (N.bif (la ms h L aj an) (mC (gj ms.aA (i64 (ms.j+(ms.i.n:Int)))) (dn ms.r (⟨0,0,6,h.D,i64 (ms.j+(ms.i.n:Int)),0,true,0,(B:I ax),0,0,0,(B:I ah),0,(B:I ay)⟩:ai) (rh ms h L aj an)) aj) (I_ (ji ms h L aj an).2.2.2)))
def HI:I ai:=cond (iP h.e h.lt h.li ms.j ms.m ms.i !=0) L (cond (!(jF h.e h.lt h.li ms.j ms.m ms.i)) L (cond (la ms h L aj an) L (aiN (ji ms h L aj an).2.2.2)))
def HJ:I bI:=cond (iP h.e h.lt h.li ms.j ms.m ms.i !=0) aj (cond (!(jF h.e h.lt h.li ms.j ms.m ms.i)) aj (cond (la ms h L aj an) (zM (gj ms.aA (i64 (ms.j+(ms.i.n:Int)))) (dn ms.r (⟨0,0,6,h.D,i64 (ms.j+(ms.i.n:Int)),0,true,0,(B:I ax),0,0,0,(B:I ah),0,(B:I ay)⟩:ai) (rh ms h L aj an)) aj) (aiS (ji ms h L aj an).2.2.2)))
def De:I aw:=cond (iP h.e h.lt h.li ms.j ms.m ms.i !=0) an (cond (!(jF h.e h.lt h.li ms.j ms.m ms.i)) an (cond (la ms h L aj an) an (aiQ (ji ms h L aj an).2.2.2)))
theorem SZ(ms:ai)(h:N)(b:iP h.e h.lt h.li ms.j ms.m ms.i=0)(f:(!(jF h.e h.lt h.li ms.j ms.m ms.i))=false):m_ ms h=h.e/\ms.j+(ms.i.n:Int)<=h.e+((lX ms h).n:Int)/\(lX ms h).n<=200:=by
 have a:=ajy b (by simpa using f);have c:=fF _ _ _ a.2.2.1;unfold m_ lX
 by_cases d:dQ h.e h.lt h.li ms.j ms.m ms.i>0
 .rw[bm d];simp only[au];exact⟨a.1,a.2.2.2.1,c.2.2.1⟩
 .rw[a8 d];simp only[aB];rcases a.2.2.2.2.1 with⟨_,e⟩|e
  .rw[e]at a c;exact⟨trivial,a.2.2.2.1,c.2.2.1⟩
  .have:=a.2.1;omega
def Rq:dv:=⟨[.p 0,.fZ 0 (33*i),.g [a,a,a,a,a,a,l,a,.ab dT,a,a,a,.ab bx,a,.ab b8]],cn,fp,e9,λ(c d k m n o:Int) p (q:Int) r (s e f:Int) g (h:Int) j=>cW λC=>let b:=C.h i;⟨⟨some (eE b.li/\eE (⟨c,d,k,m,n,o,p,q,r,s,e,f,g,h,j⟩:ai).i/\C.told.n<=541000000000/\b.ws.n<=3000/\0<=b.e/\b.e<=b.co/\b.co<=4194304),[],cx aS 0 (C.put i (m8 (⟨c,d,k,m,n,o,p,q,r,s,e,f,g,h,j⟩:ai) b C.s C.told C.aU) (HI (⟨c,d,k,m,n,o,p,q,r,s,e,f,g,h,j⟩:ai) b C.s C.told C.aU) (HJ (⟨c,d,k,m,n,o,p,q,r,s,e,f,g,h,j⟩:ai) b C.s C.told C.aU) (De (⟨c,d,k,m,n,o,p,q,r,s,e,f,g,h,j⟩:ai) b C.s C.told C.aU))⟩⟩⟩
def abI:c2:=⟨.ff true [] [] (Be i aS 0 [] 0 C) (AE i aS),[],[]++yO i aS,⟨[],[]⟩⟩
def avC:cz (abI i C).ck:=let o:=i64 (ms.j+(ms.i.n:Int));let d:=C.h i;let p:=rh ms d C.s C.told C.aU;let n:=va d.e d.lt d.li ms.j ms.m ms.i;let j:=dQ d.e d.lt d.li ms.j ms.m ms.i;let g:=cr d.e d.lt d.li ms.j ms.m ms.i;let f:=cf d.e d.lt d.li ms.j ms.m ms.i;let h:=i64 (g+(f.n:Int));(.ae (.ae (.ae (.s (.ae (.s (.s (.nm [(0,(33*i+4)),(0,(33*i+19))]) (.b5 ⟨([.ptr 0 0,Ρ i 0,U,U,U,.ptr 10 0,.ptr 11 0,U,c j]++us 99 ([])),cA aS 2 (C.set i (dn ms.r (⟨0,0,6,d.D,d.co,0,false,0,(B:I ax),0,0,0,(B:I ah),0,(B:I ay)⟩:ai) d)) [(10,jw ms),(11,[c g,c n,aV 10 eJ f])]⟩ .z)) .z)) (.j ⟨35,[.b 11],[(.h 0 (33*i+6),a),(.h 0 (33*i+7),a),(.h 0 (33*i+8),.ab dT),(.h 0 (33*i+30),.ab bs),(.h 0 (33*i+31),a)],[],.f⟩ (.ae (.s (.ae (.j ⟨99,[],[],[],.f⟩ (.ae (.vC ⟨3171,[],[],[(.t 11,a),(.h 0 (33*i+30),.ab bs),(.h 0 (33*i+31),a)],some 0,true,99,[.b 12],[(.h 0 (33*i+30),.ab bs),(.h 0 (33*i+31),a)],λk (s:Int×I Int×Int)=>m9 ms d C.s C.told C.aU k s.1 s.2.1 s.2.2,.f,λ(s:Int×I Int×Int)=>j<=s.1/\(s.1<=h+1\/s.1=j),λ(s:Int×I Int×Int)=>toNat (h+1-s.1),none⟩ (λ(e:Int×I Int×Int)=>let r:=Dh d e.2.1 e.2.2;let m:=i64 (e.1-g);let q:=i64 (m-1);let t:=toNat q;let b:=f.at' t;let l:=gu (PO e.1 b) r;(.ae (.s (.ae (.b5 ⟨([.ptr 0 0,Ρ i 0,U,U,U,.ptr 10 0,.ptr 11 0,U,U,U,.ptr 12 0,c e.1]++us 41 ([c e.1,.ptr 11 0,c g,.ptr 11 2,aV 10 eJ f,c (f.n:Int),c h,.bool (decide (e.1<=h)),U,U,Ρ i 0,c e.1,.ptr 11 2,aV 10 eJ f,c e.1,.ptr 11 0,c g,c m,c q,.ref [c b.r,c b.K,.bool b.G,c b.q,c b.j,c b.m,.str b.ak,.str b.aA,.str b.i,c b.aJ],.agg [c b.r,c b.K,.bool b.G,c b.q,c b.j,c b.m,.str b.ak,.str b.aA,.str b.i,c b.aJ],.agg [c 2,c 0,c 0,c e.1,c b.r,c b.K,.bool b.G,c b.q,c b.j,c b.m,.str b.ak,.str b.aA,.str b.i,c b.aJ,c 0,c 0,c 0,.aH,c 0,.aH],.bool l,.bool (!l)]++us 31 ([]))),cA aS 3 (C.set i (fI (PO e.1 b) r)) [(10,jw ms),(11,[c g,c n,aV 10 eJ f]),(12,[aV 1 cO d.a_,c d.bp])]⟩ .z)) .z))))) .z)) .z)) (.b5 ⟨([.ptr 0 0,Ρ i 0,U,U,U,.ptr 10 0]++us 102 ([])),cA aS 1 (C.set i p) [(10,jw ms)]⟩ (.ae (.s (.nm [(0,(33*i+4))]) (.b5 ⟨([.ptr 0 0,Ρ i 0,U,U,U,.ptr 10 0]++us 6 ([c o]++us 95 ([]))),cA aS 1 (C.set i (dn ms.r (⟨0,0,6,d.D,o,0,true,0,(B:I ax),0,0,0,(B:I ah),0,(B:I ay)⟩:ai) p)) [(10,jw ms)]⟩ .z)))))))))
def Zc(i:Nat)(ms:ai)(C:aq):Prop:=((iP (C.h i).e (C.h i).lt (C.h i).li ms.j ms.m ms.i !=0)=false->(!(jF (C.h i).e (C.h i).lt (C.h i).li ms.j ms.m ms.i))=false->(decide (dQ (C.h i).e (C.h i).lt (C.h i).li ms.j ms.m ms.i>0)=true->(dQ (C.h i).e (C.h i).lt (C.h i).li ms.j ms.m ms.i<=dQ (C.h i).e (C.h i).lt (C.h i).li ms.j ms.m ms.i/\(dQ (C.h i).e (C.h i).lt (C.h i).li ms.j ms.m ms.i<=i64 (cr (C.h i).e (C.h i).lt (C.h i).li ms.j ms.m ms.i+((cf (C.h i).e (C.h i).lt (C.h i).li ms.j ms.m ms.i).n:Int))+1\/dQ (C.h i).e (C.h i).lt (C.h i).li ms.j ms.m ms.i=dQ (C.h i).e (C.h i).lt (C.h i).li ms.j ms.m ms.i))/\∀(a:Int) (b:I Int) (c:Int),dQ (C.h i).e (C.h i).lt (C.h i).li ms.j ms.m ms.i<=a/\(a<=i64 (cr (C.h i).e (C.h i).lt (C.h i).li ms.j ms.m ms.i+((cf (C.h i).e (C.h i).lt (C.h i).li ms.j ms.m ms.i).n:Int))+1\/a=dQ (C.h i).e (C.h i).lt (C.h i).li ms.j ms.m ms.i)->(decide (a<=i64 (cr (C.h i).e (C.h i).lt (C.h i).li ms.j ms.m ms.i+((cf (C.h i).e (C.h i).lt (C.h i).li ms.j ms.m ms.i).n:Int)))=true->((0:Int)<=i64 (i64 (a- (cr (C.h i).e (C.h i).lt (C.h i).li ms.j ms.m ms.i))-1)/\i64 (i64 (a- (cr (C.h i).e (C.h i).lt (C.h i).li ms.j ms.m ms.i))-1)<((cf (C.h i).e (C.h i).lt (C.h i).li ms.j ms.m ms.i).n:Int))/\qK (PO a ((cf (C.h i).e (C.h i).lt (C.h i).li ms.j ms.m ms.i).at' (toNat (i64 (i64 (a- (cr (C.h i).e (C.h i).lt (C.h i).li ms.j ms.m ms.i))-1))))))/\(decide (a<=i64 (cr (C.h i).e (C.h i).lt (C.h i).li ms.j ms.m ms.i+((cf (C.h i).e (C.h i).lt (C.h i).li ms.j ms.m ms.i).n:Int)))=true->(!(gu (PO a ((cf (C.h i).e (C.h i).lt (C.h i).li ms.j ms.m ms.i).at' (toNat (i64 (i64 (a- (cr (C.h i).e (C.h i).lt (C.h i).li ms.j ms.m ms.i))-1))))) (Dh (C.h i) b c)))=false->(dQ (C.h i).e (C.h i).lt (C.h i).li ms.j ms.m ms.i<=i64 (a+1)/\(i64 (a+1)<=i64 (cr (C.h i).e (C.h i).lt (C.h i).li ms.j ms.m ms.i+((cf (C.h i).e (C.h i).lt (C.h i).li ms.j ms.m ms.i).n:Int))+1\/i64 (a+1)=dQ (C.h i).e (C.h i).lt (C.h i).li ms.j ms.m ms.i))/\toNat (i64 (cr (C.h i).e (C.h i).lt (C.h i).li ms.j ms.m ms.i+((cf (C.h i).e (C.h i).lt (C.h i).li ms.j ms.m ms.i).n:Int))+1- (i64 (a+1)))<toNat (i64 (cr (C.h i).e (C.h i).lt (C.h i).li ms.j ms.m ms.i+((cf (C.h i).e (C.h i).lt (C.h i).li ms.j ms.m ms.i).n:Int))+1-a)))/\(la ms (C.h i) C.s C.told C.aU=true->C.told.n<=541000000000/\(C.h i).ws.n<=3000/\0<=m_ ms (C.h i)/\m_ ms (C.h i)<=(C.h i).co/\(C.h i).co<=4194304/\gj ms.aA (i64 (ms.j+(ms.i.n:Int)))<=m_ ms (C.h i)+((lX ms (C.h i)).n:Int)/\(lX ms (C.h i)).n<=200))
theorem aDo(i:Nat)(k:i<3)(ms:ai)(C:aq)(j:fa C)(A:ms.i.n<=549755813888)(y:ms.b0.n<=549755813888)(z:ms.bn.n<=549755813888)(l:eE (C.h i).li/\eE ms.i/\C.told.n<=541000000000/\(C.h i).ws.n<=3000/\0<=(C.h i).e/\(C.h i).e<=(C.h i).co/\(C.h i).co<=4194304):Zc i ms C:=by
 have h:=hB j i k;unfold gz at h;unfold Zc;exact have⟨r,s,t,u,v,w,x⟩:=l;(λa m=>⟨(λd=>⟨Ω,(λc B D q=>⟨(λe=>⟨by have:=bP a;have:=al d;have:=al e;(try have b:=Ee Ψ Ψ);have:=E (cr (C.h i).e (C.h i).lt (C.h i).li ms.j ms.m ms.i+((cf (C.h i).e (C.h i).lt (C.h i).li ms.j ms.m ms.i).n:Int));have:=E (c- (cr (C.h i).e (C.h i).lt (C.h i).li ms.j ms.m ms.i));have:=E (i64 (c- (cr (C.h i).e (C.h i).lt (C.h i).li ms.j ms.m ms.i))-1);omega,(by have:=bP a;have:=al d;have:=al e;have:=trivial;(try have b:=Ee Ψ Ψ);(try have o:=b.2.2.2.2.2.2 Ψ Ψ);(try have g:=SZ _ _ Ψ Ψ);repeat first|assumption|apply uw|apply ux|apply v5|apply ss|apply xX|apply nr|apply th|apply vQ|apply vP|apply tA|apply s7|apply s8|apply jn|apply vY|apply yQ|apply mJ|apply kO|apply pn|apply And.intro)⟩),λf n=>by have:=bP a;have:=al f;(try have b:=Ee Ψ Ψ);have:=E (cr (C.h i).e (C.h i).lt (C.h i).li ms.j ms.m ms.i+((cf (C.h i).e (C.h i).lt (C.h i).li ms.j ms.m ms.i).n:Int));have:=E (c+1);omega⟩)⟩),λp=>by have:=bP a;(try have b:=Ee Ψ Ψ);(try have g:=SZ _ _ Ψ Ψ);have:=qm ms.aA (i64 (ms.j+(ms.i.n:Int)));have:=E (ms.j+(ms.i.n:Int));omega⟩)
theorem aA3(i:Nat)(a:i<3)(ms:ai)(f:ms.i.n<=549755813888)(d:ms.b0.n<=549755813888)(e:ms.bn.n<=549755813888):fB Tryz.prog 54 (Rq i) cn [] (cW λC=>⟨⟨some (eE (C.h i).li/\eE ms.i/\C.told.n<=541000000000/\(C.h i).ws.n<=3000/\0<=(C.h i).e/\(C.h i).e<=(C.h i).co/\(C.h i).co<=4194304),[],cx aS 0 (C.put i (m8 ms (C.h i) C.s C.told C.aU) (HI ms (C.h i) C.s C.told C.aU) (HJ ms (C.h i) C.s C.told C.aU) (De ms (C.h i) C.s C.told C.aU))⟩⟩) (jw ms):=by
 refine g6 λC b c=>eX (abI i C) (avC i ms C) (Zc i ms C) (bZ 10 (aR aiG ba) (az (IT i a) (az (Ay i a) (az (aiA i a) bY)))) Tryz.func54 [] ?_ ?_ (aDo i a ms C b f d e c)
 .exact Υ
 .exact Υ
theorem aD_(i:Nat)(c:i<3):gW 54 (Rq i):=
 kt (bF:=[a,a,a,a,a,a,l,a,.ab dT,a,a,a,.ab bx,a,.ab b8]) λs b=>Eq.mp Υ (aA3 i c ⟨s.1,s.2.1,s.2.2.1,s.2.2.2.1,s.2.2.2.2.1,s.2.2.2.2.2.1,s.2.2.2.2.2.2.1,s.2.2.2.2.2.2.2.1,s.2.2.2.2.2.2.2.2.1,s.2.2.2.2.2.2.2.2.2.1,s.2.2.2.2.2.2.2.2.2.2.1,s.2.2.2.2.2.2.2.2.2.2.2.1,s.2.2.2.2.2.2.2.2.2.2.2.2.1,s.2.2.2.2.2.2.2.2.2.2.2.2.2.1,s.2.2.2.2.2.2.2.2.2.2.2.2.2.2.1⟩ (b.2.2.2.2.2.2.2.2.1 rfl) (b.2.2.2.2.2.2.2.2.2.2.2.2.1 rfl) (b.2.2.2.2.2.2.2.2.2.2.2.2.2.2.1 rfl))
theorem vx(i:Nat)(a:i<3):gX 54 (Rq i):=hi g4 Tryz.func54 (aD_ i a)
end
def al9{l:List Int}(h: ∀x∈l,0<=x/\x<=255):aN (I.lit l):=λi=>by
 show 0<=l.getD i default/\l.getD i default<=255
 by_cases c:i<l.length
 .rw[E7,cG c];exact h _ (mb c)
 .rw[E7,fk Ω];exact QI
def JT(x:Int):aN (iO x):=al9 λy a=>by
 simp only[ih,tQ,or_false]at a;rcases a with rfl|rfl|rfl<;>exact al_ _
def al6{l:List (I Int)}(h: ∀s∈l,aN s):aN (uM (I.lit l)):=by
 unfold uM Mf;refine yi (λ_ _=>rfl) (λ_ _ _=>rfl) (λi t a=>yh a ?_) _ _ _ yj;show aN (l.getD i.toNat default)
 by_cases c:toNat i<l.length
 .rw[E7,cG c];exact h _ (mb c)
 .rw[E7,fk Ω];exact aaG
def aaH(x:Int)(h:0<=x/\x<=255):aN (I.lit [x]):=al9 λy a=>by
 rw[List.mem_singleton]at a;rw[a];exact h
def u64(A g:Int)(u:Bool)(o v d:Int)(y F p:z)(x:Int):aN (rv A g u o v d y F p x):=by
 unfold rv
 cases (fX A g u o v d y F p x !=0)
 .simp only[aB];have h:aN (bw g (bw A (B:I Int))):=ns _ (ns _ yj);unfold Gt
  cases u
  .simp only[aB];have a:=rZ 0 h;unfold G0
   cases decide (o>0)
   .simp only[aB];exact ns _ a
   .simp only[au];unfold G9;exact ns _ (tH _ (tH _ (tH _ (rZ _ (ns _ (ns _ a))))))
  .exact rZ _ h
 .exact yj
def aGI(A g u o v d:Int)(y:Bool)(F p x:Int)(ao bR b6:z)(cl cF dX dH:Int)(dy:I ah)(dI:Int)(dz:I ay):aN (kh A g u o v d y F p x ao bR b6 cl cF dX dH dy dI dz):=by
 unfold kh
 cases (A==1)
 .simp only[aB]
  cases (A==2)
  .simp only[aB];refine al6 λs a=> ?_;simp only[ih,tQ,or_false]at a;rcases a with rfl|rfl|rfl|rfl
   .exact aaH 3 Δ
   .exact JT _
   .exact JT _
   .exact jn _ _ _ _
  .exact yh (yh (aaH 2 Δ) (JT _)) (u64 _ _ _ _ _ _ _ _ _ _)
 .exact yh (yh (aaH 1 Δ) (JT _)) (aaI _)
def aGP{A:I Int}(h:aN A)(g u o v d y F:Int)(p:Bool)(x ao bR:Int)(b6 cl cF:z)(dX dH dy dI:Int)(dz:I ah)(iC:Int)(iD:I ay):aN (z_ A g u o v d y F p x ao bR b6 cl cF dX dH dy dI dz iC iD):=by
 unfold z_
 cases (!(h9 A g))
 .simp only[aB]
  cases (fJ u o v d y F p x ao bR b6 cl cF dX dH dy dI dz iC iD !=0)
  .simp only[aB];generalize decide (i64 (i64 (((bL A g).n:Int)+3)+((kh u o v d y F p x ao bR b6 cl cF dX dH dy dI dz iC iD).n:Int))>400000)=b
   cases b
   .refine al6 λs a=> ?_;simp only[ih,tQ,or_false]at a;rcases a with rfl|rfl|rfl
    .exact l9 h
    .exact JT _
    .exact aGI _ _ _ _ _ _ _ _ _ _ _ _ _ _ _ _ _ _ _ _
   .exact yj
  .exact yj
 .exact yj
def v7{rc:bB}{h:N}(a:aN h.a_):aN (fI rc h).a_:=by
 show aN (xm rc h);unfold xm;generalize (xH h.a_ h.bp rc.r rc.K rc.G rc.q rc.j rc.m rc.ak rc.aA rc.i rc.aJ rc.b4 rc.cb rc.b0 rc.cq rc.bn rc.c9 rc.fc rc.eH rc.fe rc.eI !=0)=b
 cases b
 .exact aGP a _ _ _ _ _ _ _ _ _ _ _ _ _ _ _ _ _ _ _ _ _
 .exact a
section
variable(i:Nat)(ac:aK)(C:aq)(h:N)
def auj(L:I ai):Int:=cond (decide ((L.n:Int)>0)) (ac.G.tmod (L.n:Int)) (-1)
def auk:N:={h with b5:=(gj (i64 (h.b5+ac.G)) 1073741824)}
def MC:N:=auk ac h
def Q2:dv:=⟨[.p 0,.g [a,a,a,a,a,a,ar,ar,ar,a]],cn,fp,e9,λ(b c d e f g:Int) h j k (l:Int)=>cW λC=>⟨⟨some (fA C (⟨b,c,d,e,f,g,h,j,k,l⟩:aK)),[],cx [10,13,11,14,12,15,16,8,9] 7 (C.set i (MC (⟨b,c,d,e,f,g,h,j,k,l⟩:aK) (C.h i)))⟩⟩⟩
def abq:c2:=⟨.ff true [.b 10] [.own (.h 0 99) cR 16,.own (.h 0 29) dF 10,.own (.h 0 62) dF 11,.own (.h 0 95) dF 12,.own (.h 0 32) cR 13,.own (.h 0 65) cR 14,.own (.h 0 98) cR 15] (Be i [10,13,11,14,12,15,16,8,9] 7 [] 0 C) (AE i [10,13,11,14,12,15,16,8,9]),[],[]++yO i [10,13,11,14,12,15,16,8,9],⟨[],[]⟩⟩
def avl:cz (abq i C).ck:=.ae (.ae (.ae (.j ⟨57,[],[(.t 5,a)],[],.f⟩ .z (.b5 ⟨([.ptr 0 0,U,U,.ptr 10 0,Ρ i 0,c (auj ac C.s)]++us 135 ([])),cA aS 1 C [(10,[c 5,c (i:Int),c ac.G,c ac.q,c ac.j,c ac.m,.str ac.ak,.str ac.aA,.str ac.i,c ac.aJ])]⟩ (.ae (.ae (.c false (.ae (.c true .z)))))))))
def YW(i:Nat)(ac:aK)(C:aq):Prop:=(decide ((C.s.n:Int)>0)=true->(C.s.n:Int)≠0)
theorem aC_(i:Nat)(e:i<3)(ac:aK)(C:aq)(d:fa C)(f:ac.ak.size<=549755813888)(g:ac.aA.size<=549755813888)(h:ac.i.size<=549755813888)(a:fA C ac):YW i ac C:=by
 have c:=hB d i e;unfold gz at c;unfold YW;exact have:=pL a i;have:=(pL a i).e;have:=(pL a i).ws;have:=qT a;have:=a.2.A8;have:=a.2.A9;have:=a.2.A_;have:=a.2.ln;(λb=>have:=al b;Ω)
theorem XV(i:Nat)(a:i<3)(ac:aK)(e:ac.ak.size<=549755813888)(f:ac.aA.size<=549755813888)(g:ac.i.size<=549755813888)(C:aq)(b:fa C)(d:fA C ac):gn Tryz.prog 19 ((Q2 i).args ([c 5,c (i:Int),c ac.G,c ac.q,c ac.j,c ac.m,.str ac.ak,.str ac.aA,.str ac.i,c ac.aJ]++jd C)) ((Q2 i).dq (([c 5,c (i:Int),c ac.G,c ac.q,c ac.j,c ac.m,.str ac.ak,.str ac.aA,.str ac.i,c ac.aJ]++jd C).drop (Q2 i).ej)) [] (cx [10,13,11,14,12,15,16,8,9] 7 (C.set i (MC ac (C.h i)))):=by
 refine eX (abq i C) (avl i ac C) (YW i ac C) (bZ 10 ba bY) Tryz.func19 [] ?_ ?_ (aC_ i a ac C b e f g d)
 .exact Υ
 .exact Υ
end
