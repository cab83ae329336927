import Derived.Test.YtcpfnfkibnjcfaaGreatDoorXk
open Go.IntKind (i64 u64 u8)
open Int (toNat)
set_option maxRecDepth 100000
set_option maxHeartbeats 4000000
set_option linter.all false
noncomputable section
namespace Go.Proofs.YtcpfnfkibnjcfaaGreatDoor
open Go Go.RowKit Go.ag
section
variable(i:Nat)(it:ax)(h:N)
def HD:I Int:=cond (iP h.e h.lt h.li (b_ h) (hr h) (I.lit ([it]:List ax))!=0) h.a_ (cond (!(jF h.e h.lt h.li (b_ h) (hr h) (I.lit ([it]:List ax)))) h.a_ (cond (dQ h.e h.lt h.li (b_ h) (hr h) (I.lit ([it]:List ax))==0) h.a_ (fI (⟨2,0,0,i64 (b_ h+1),it.r,it.K,it.G,it.q,it.j,it.m,it.ak,it.aA,it.i,it.aJ,0,0,0,(B:I ah),0,(B:I ay)⟩:bB) h).a_))
def VD:Int:=cond (iP h.e h.lt h.li (b_ h) (hr h) (I.lit ([it]:List ax))!=0) h.bp (cond (!(jF h.e h.lt h.li (b_ h) (hr h) (I.lit ([it]:List ax)))) h.bp (cond (dQ h.e h.lt h.li (b_ h) (hr h) (I.lit ([it]:List ax))==0) h.bp (fI (⟨2,0,0,i64 (b_ h+1),it.r,it.K,it.G,it.q,it.j,it.m,it.ak,it.aA,it.i,it.aJ,0,0,0,(B:I ah),0,(B:I ay)⟩:bB) h).bp))
def uV:Bool:=cond (iP h.e h.lt h.li (b_ h) (hr h) (I.lit ([it]:List ax))!=0) true (cond (!(jF h.e h.lt h.li (b_ h) (hr h) (I.lit ([it]:List ax)))) true (cond (dQ h.e h.lt h.li (b_ h) (hr h) (I.lit ([it]:List ax))==0) true (!(gu (⟨2,0,0,i64 (b_ h+1),it.r,it.K,it.G,it.q,it.j,it.m,it.ak,it.aA,it.i,it.aJ,0,0,0,(B:I ah),0,(B:I ay)⟩:bB) h))))
def auv:N:={(fI (⟨2,0,0,i64 (b_ h+1),it.r,it.K,it.G,it.q,it.j,it.m,it.ak,it.aA,it.i,it.aJ,0,0,0,(B:I ah),0,(B:I ay)⟩:bB) h)with a_:=(HD it h),bp:=(VD it h)}
def sJ:Bool:=cond (uV it h) false true
def C_:Int:=cond (uV it h) h.e (cr h.e h.lt h.li (b_ h) (hr h) (I.lit ([it]:List ax)))
def age:Int:=cond (uV it h) h.lt (va h.e h.lt h.li (b_ h) (hr h) (I.lit ([it]:List ax)))
def Da:I ax:=cond (uV it h) h.li (cf h.e h.lt h.li (b_ h) (hr h) (I.lit ([it]:List ax)))
def ki:N:={h with e:=(C_ it h),lt:=(age it h),li:=(Da it h),a_:=(HD it h),bp:=(VD it h)}
def Rd:dv:=⟨[.fZ 0 (33*i),.g [a,a,l,a,a,a,ar,ar,ar,a]],cn,fp,e9,λ(b c:Int) d (e f g:Int) h j k (m:Int)=>cW λC=>⟨⟨some (mg (⟨b,c,d,e,f,g,h,j,k,m⟩:ax)),[.bool (sJ (⟨b,c,d,e,f,g,h,j,k,m⟩:ax) (C.h i))],cx aS 0 (C.set i (ki (⟨b,c,d,e,f,g,h,j,k,m⟩:ax) (C.h i)))⟩⟩⟩
def abA:c2:=⟨.ff true [] [] (g8 i aS 0 [0] 1) (g7 i aS),[.tmp 4],[(.t 0,l)]++gA i aS,⟨[],[]⟩⟩
def avu(C:aq):cz (abA i).ck:=let e:=I.lit ([it]:List ax);let b:=C.h i;let f:=hr b;let d:=b_ b;let j:=cf b.e b.lt b.li d f e;let h:=va b.e b.lt b.li d f e;let g:=cr b.e b.lt b.li d f e;(.ae (.ae (.b5 ⟨([Ρ i 0,U,U,.ptr 10 0,.lit false,c d]++us 48 ([])),cA aS 1 C [(10,[c it.r,c it.K,.bool it.G,c it.q,c it.j,c it.m,.str it.ak,.str it.aA,.str it.i,c it.aJ])]⟩ (.s (.nm [(0,(33*i+6)),(0,(33*i+7)),(0,(33*i+8))]) (.b5 ⟨([Ρ i 0,U,U,.ptr 10 0,.lit false,c d,U,.ptr 12 0,.bool (jF b.e b.lt b.li d f e),c (dQ b.e b.lt b.li d f e),c (iP b.e b.lt b.li d f e)]++us 43 ([])),cA aS 3 C [(10,[c it.r,c it.K,.bool it.G,c it.q,c it.j,c it.m,.str it.ak,.str it.aA,.str it.i,c it.aJ]),(11,[.ad true 10 1 λq=>eJ (I.at' e q)]),(12,[c g,c h,aV 10 eJ j])]⟩ (.s (.j ⟨562949953421457,[.b 10,.b 11],[(.h 0 (33*i+30),.ab bs),(.h 0 (33*i+31),a),(.t 49,l)],[],.f⟩ .z (.b5 ⟨([Ρ i 0,U,U,U,.lit false,U,U,.ptr 12 0]++us 41 ([.bool (uV it b),U,U,U,U])),cA aS 3 (C.set i (auv it b)) [(12,[c g,c h,aV 10 eJ j])]⟩ .z)) .z))))))
def Y9(i:Nat)(it:ax)(C:aq):Prop:=((iP (C.h i).e (C.h i).lt (C.h i).li (b_ (C.h i)) (hr (C.h i)) (I.lit ([it]:List ax))!=0)=false->(!(jF (C.h i).e (C.h i).lt (C.h i).li (b_ (C.h i)) (hr (C.h i)) (I.lit ([it]:List ax))))=false->(dQ (C.h i).e (C.h i).lt (C.h i).li (b_ (C.h i)) (hr (C.h i)) (I.lit ([it]:List ax))==0)=false->qK (⟨2,0,0,i64 (b_ (C.h i)+1),it.r,it.K,it.G,it.q,it.j,it.m,it.ak,it.aA,it.i,it.aJ,0,0,0,(B:I ah),0,(B:I ay)⟩:bB))
theorem aDj(i:Nat)(c:i<3)(it:ax)(C:aq)(b:fa C)(h:it.ak.size<=549755813888)(j:it.aA.size<=549755813888)(k:it.i.size<=549755813888)(g:mg it):Y9 i it C:=by
 have a:=hB b i c;unfold gz at a;unfold Y9;exact(λd e f=>Γ)
theorem aAR(i:Nat)(a:i<3)(it:ax)(e:it.ak.size<=549755813888)(f:it.aA.size<=549755813888)(g:it.i.size<=549755813888):fB Tryz.prog 42 (Rd i) cn [] (cW λC=>⟨⟨some (mg it),[.bool (sJ it (C.h i))],cx aS 0 (C.set i (ki it (C.h i)))⟩⟩) [c it.r,c it.K,.bool it.G,c it.q,c it.j,c it.m,.str it.ak,.str it.aA,.str it.i,c it.aJ]:=by
 refine g6 λC b d=>eX (abA i) (avu i it C) (Y9 i it C) (bZ 10 (aR aiG ba) (az (Ax i a) (az (az7 i a) (az (IT i a) bY)))) Tryz.func42 ([.f]++List.replicate 6 .l++[.f,.f,.f]++List.replicate 93 .l) ?_ ?_ (aDj i a it C b e f g d)
 .exact Υ
 .exact Υ
theorem aDY(i:Nat)(c:i<3):gW 42 (Rd i):=
 kt (bF:=[a,a,l,a,a,a,ar,ar,ar,a]) λs b=>Eq.mp Υ (aAR i c ⟨s.1,s.2.1,s.2.2.1,s.2.2.2.1,s.2.2.2.2.1,s.2.2.2.2.2.1,s.2.2.2.2.2.2.1,s.2.2.2.2.2.2.2.1,s.2.2.2.2.2.2.2.2.1,s.2.2.2.2.2.2.2.2.2.1⟩ (b.2.2.2.2.2.2.1 rfl) (b.2.2.2.2.2.2.2.1 rfl) (b.2.2.2.2.2.2.2.2.1 rfl))
theorem aiu(i:Nat)(a:i<3):gX 42 (Rd i):=hi g4 Tryz.func42 (aDY i a)
end
section
variable(i:Nat)(C:aq)(h:N)(L:I ai)(aj:I bI)(an:I aw)(b:Int)
def auL:Bool:=cond (0 !=h.aM) true false
def agp:Bool:=cond (0 !=h.aM) (decide (h.hX>=b)) false
def MN:Int:=cond (agp h b) 2 1
def auM:Bool:=cond (1 !=h.aM) true false
def agq:Bool:=cond (1 !=h.aM) (decide (h.q1>=b)) false
def MO:Int:=cond (agq h b) (i64 (MN h b+1)) (MN h b)
def VP:Bool:=cond (2 !=h.aM) true false
def agr:Bool:=cond (2 !=h.aM) (decide (h.gw>=b)) false
def VQ:Int:=cond (agr h b) (i64 (MO h b+1)) (MO h b)
def ago:Bool:=cond (decide (VQ h b>=2)) true false
def xo:Bool:=cond (decide (VQ h b>=2)) (jX h.e h.lt h.li b==h.D) false
def qe(h:N)(L:I ai)(aj:I bI)(an:I aw):Nat->Int->Bool×tV
 |0,_=>default
 |k+1,b=>cond (decide (b>h.co)) (cond (xo h b) (true,yg (mC b h aj) L (zM b h aj) an) (qe h L aj an k (i64 (b-1)))) (false,default)
def rn:Bool×tV:=qe h L aj an (toNat (b_ h-h.co)+1) (b_ h)
def qd:N:=N.bif (rn h L aj an).1 (I_ (rn h L aj an).2) h
def zN:I ai:=cond (rn h L aj an).1 (aiN (rn h L aj an).2) L
def zP:I bI:=cond (rn h L aj an).1 (aiS (rn h L aj an).2) aj
def zO:I aw:=cond (rn h L aj an).1 (aiQ (rn h L aj an).2) an
def RE:dv:=⟨[.p 0,.fZ 0 (33*i)],cn,fp,e9,cW λC=>let a:=C.h i;⟨⟨some (C.told.n<=541000000000/\a.ws.n<=3000/\0<=a.e/\a.e<=a.co/\a.co<=4194304/\a.e+(a.li.n:Int)<=4194304/\a.li.n<=200),[],cx aS 0 (C.put i (qd a C.s C.told C.aU) (zN a C.s C.told C.aU) (zP a C.s C.told C.aU) (zO a C.s C.told C.aU))⟩⟩⟩
def abR:c2:=⟨.ff true [] [] (Be i aS 0 [] 0 C) (AE i aS),[],[]++yO i aS,⟨[],[]⟩⟩
def avL:cz (abR i C).ck:=let b:=C.h i;(.ae (.b5 ⟨([.ptr 0 0,Ρ i 0,U,U,c (b_ b)]++us 65 ([])),cA aS 0 C []⟩ (.ae (.vC ⟨67,[],[],[(.t 6,a)],some 0,true,0,[],[],λk (s:Int)=>qe b C.s C.told C.aU k s,.f,λ(s:Int)=>s<=b.e+(b.li.n:Int),λ(s:Int)=>toNat (s-b.co),none⟩ (λ(d:Int)=>let o:=u5 b.e b.lt b.li d;let h:=agr b d;let f:=decide (d>b.co);let g:=jX b.e b.lt b.li d;let e:=VQ b d;let n:=us 8 ([c d,Ρ i 0,Ρ i 0,Ρ i 19,c b.co,.bool f,U,U,c 0,.bool true,c 0,c 0,Ρ i 0,Ρ i 0,Ρ i 0,c b.aM,.bool (0 !=b.aM),.bool (auL b)]++us 8 ([.bool (agp b d)]++us 26 ([])));let m:=us 8 ([c d,Ρ i 0,Ρ i 0,Ρ i 19,c b.co,.bool f,U,U,c 2,.bool true,c 2,c 2,Ρ i 0,Ρ i 0,Ρ i 0,c b.aM,.bool (2 !=b.aM),.bool (VP b)]++us 8 ([.bool h,U,U,c 2]++us 23 ([])));let j:=us 8 ([c d,Ρ i 0,Ρ i 0,Ρ i 19,c b.co,.bool f,U,U,c 1,.bool true,c 1,c 1,Ρ i 0,Ρ i 0,Ρ i 0,c b.aM,.bool (1 !=b.aM),.bool (auM b)]++us 8 ([.bool (agq b d),U,U,c 1]++us 23 ([])));(.ae (.s (.ae (.s (.ae (.un 3 (.s (.ae (.s (.c true .z) (.j ⟨8830427464131,[],[(.t 7,a)],[],.f⟩ (.ae (.j ⟨8830427464131,[],[(.t 34,l),(.t 43,l)],[],.f⟩ .z (.b5 ⟨([.ptr 0 0,Ρ i 0,U,U,U,U,c d,c 1,c 0]++n),cA aS 0 C []⟩ .z))) (.b5 ⟨([.ptr 0 0,Ρ i 0,U,U,U,U,c d,c (MN b d),c 0]++n),cA aS 0 C []⟩ .z)))) (.s (.ae (.s (.c true .z) (.j ⟨79199171641795,[],[(.t 7,a)],[],.f⟩ (.ae (.j ⟨79199171641795,[],[(.t 34,l),(.t 43,l)],[],.f⟩ .z (.b5 ⟨([.ptr 0 0,Ρ i 0,U,U,U,U,c d,c (MN b d),c 1]++j),cA aS 0 C []⟩ .z))) (.b5 ⟨([.ptr 0 0,Ρ i 0,U,U,U,U,c d,c (MO b d),c 1]++j),cA aS 0 C []⟩ .z)))) (.s (.ae (.s (.c true .z) (.j ⟨79199171641795,[],[(.t 7,a)],[],.f⟩ (.ae (.j ⟨79199171641795,[],[(.t 34,l),(.t 43,l)],[],.f⟩ .z (.b5 ⟨([.ptr 0 0,Ρ i 0,U,U,U,U,c d,c (MO b d),c 2]++m),cA aS 0 C []⟩ .z))) (.b5 ⟨([.ptr 0 0,Ρ i 0,U,U,U,U,c d,c e,c 2]++m),cA aS 0 C []⟩ .z)))) (.ae (.s (.c false .z) .z))))))) (.ae (.j ⟨37460739424662717379,[],[(.t 58,l),(.t 65,l)],[],.f⟩ .z (.b5 ⟨([.ptr 0 0,Ρ i 0,U,U,U,U,c d,c e,c 2,c g]++us 7 ([c d,Ρ i 0,Ρ i 0,Ρ i 19,c b.co,.bool f,U,U,c 3,.bool false,c 2,c 2,Ρ i 0,Ρ i 0,Ρ i 0,c b.aM,.bool (2 !=b.aM),.bool (VP b)]++us 8 ([.bool h,U,U,c 3,U,Ρ i 0,Ρ i 0,Ρ i 6,.agg [c b.e,c b.lt,aV 10 eJ b.li],c d,U,c g,c o,c e,.bool (decide (e>=2)),.bool (ago b d)]++us 6 ([.bool (xo b d),U,U,U,U])))),cA aS 0 C []⟩ (.s (.ae (.b5 ⟨([.ptr 0 0,Ρ i 0,U,U,U,U,c d,c e,c 2,c g]++us 7 ([c d,Ρ i 0,Ρ i 0,Ρ i 19,c b.co,.bool f,U,U,c 3,.bool false,c 2,c 2,Ρ i 0,Ρ i 0,Ρ i 0,c b.aM,.bool (2 !=b.aM),.bool (VP b)]++us 8 ([.bool h,U,U,c 3,U,Ρ i 0,Ρ i 0,Ρ i 6,.agg [c b.e,c b.lt,aV 10 eJ b.li],c d,U,c g,c o,c e,.bool (decide (e>=2)),.bool (ago b d)]++us 6 ([.bool (xo b d),.ptr 0 0,Ρ i 0,c d,U])))),cA aS 0 (C.put i (mC d b C.told) C.s (zM d b C.told) C.aU) []⟩ .z)) .z)))))) .z)))))))
def Zl(i:Nat)(C:aq):Prop:=(b_ (C.h i)<=(C.h i).e+((C.h i).li.n:Int)/\∀(b:Int),b<=(C.h i).e+((C.h i).li.n:Int)->(decide (b>(C.h i).co)=true->xo (C.h i) b=true->C.told.n<=541000000000/\(C.h i).ws.n<=3000/\0<=(C.h i).e/\(C.h i).e<=(C.h i).co/\(C.h i).co<=4194304/\b<=(C.h i).e+((C.h i).li.n:Int)/\(C.h i).li.n<=200)/\(decide (b>(C.h i).co)=true->xo (C.h i) b=false->i64 (b-1)<=(C.h i).e+((C.h i).li.n:Int)/\toNat (i64 (b-1)- (C.h i).co)<toNat (b- (C.h i).co)))
theorem aDy(i:Nat)(f:i<3)(C:aq)(e:fa C)(g:C.told.n<=541000000000/\(C.h i).ws.n<=3000/\0<=(C.h i).e/\(C.h i).e<=(C.h i).co/\(C.h i).co<=4194304/\(C.h i).e+((C.h i).li.n:Int)<=4194304/\(C.h i).li.n<=200):Zl i C:=by
 have d:=hB e i f;unfold gz at d;unfold Zl;exact have⟨l,m,n,o,p,q,r⟩:=g;have:=KK (C.h i) Ω;(⟨Ω,(λb k=>⟨λh j=>Ω,(λa c=>by have:=al a;have:=c;simp [xo]at this;first|omega|(have:=E (b-1);omega))⟩)⟩)
theorem aBe(i:Nat)(a:i<3):fB Tryz.prog 78 (RE i) cn [] (cW λC=>⟨⟨some (C.told.n<=541000000000/\(C.h i).ws.n<=3000/\0<=(C.h i).e/\(C.h i).e<=(C.h i).co/\(C.h i).co<=4194304/\(C.h i).e+((C.h i).li.n:Int)<=4194304/\(C.h i).li.n<=200),[],cx aS 0 (C.put i (qd (C.h i) C.s C.told C.aU) (zN (C.h i) C.s C.told C.aU) (zP (C.h i) C.s C.told C.aU) (zO (C.h i) C.s C.told C.aU))⟩⟩) []:=by
 refine g6 λC b c=>eX (abR i C) (avL i C) (Zl i C) (bZ 10 (aR OX ba) (az (Ax i a) (az (aiA i a) bY))) Tryz.func78 [] ?_ ?_ (aDy i a C b c)
 .exact Υ
 .exact Υ
theorem aEl(i:Nat)(a:i<3):gW 78 (RE i):=
 aBe i a
theorem az8(i:Nat)(a:i<3):gX 78 (RE i):=hi g4 Tryz.func78 (aEl i a)
end
section
variable(i j:Nat)(ms:ai)(h:N)(L:I ai)(aj:I bI)(an:I aw)
def xg:N:=N.aFZ j (imax (N.avc j h) (i64 (ms.j+1))) (imax (N.agS j h) ms.j) h
def VI:N:=N.sp j (i64 (imax (N.agS j h) ms.j+1)) h
def HN:N:=N.bif ms.ak (qd (xg j ms h) L aj an) (VI j ms h)
def VF:I ai:=cond ms.ak (zN (xg j ms h) L aj an) L
def VH:I bI:=cond ms.ak (zP (xg j ms h) L aj an) aj
def VG:I aw:=cond ms.ak (zO (xg j ms h) L aj an) an
def Rt:dv:=⟨[.p 0,.fZ 0 (33*i),.g [a,a,a,a,a,a,l,a,.ab dT,a,a,a,.ab bx,a,.ab b8]],cn,fp,e9,λ(c d m n o p:Int) q (r:Int) s (t e f:Int) g (h:Int) k=>cW λC=>let b:=C.h i;⟨⟨some (C.told.n<=541000000000/\b.ws.n<=3000/\0<=b.e/\b.e<=b.co/\b.co<=4194304/\b.e+(b.li.n:Int)<=4194304/\b.li.n<=200),[],cx aS 0 (C.put i (HN j (⟨c,d,m,n,o,p,q,r,s,t,e,f,g,h,k⟩:ai) b C.s C.told C.aU) (VF j (⟨c,d,m,n,o,p,q,r,s,t,e,f,g,h,k⟩:ai) b C.s C.told C.aU) (VH j (⟨c,d,m,n,o,p,q,r,s,t,e,f,g,h,k⟩:ai) b C.s C.told C.aU) (VG j (⟨c,d,m,n,o,p,q,r,s,t,e,f,g,h,k⟩:ai) b C.s C.told C.aU))⟩⟩⟩
def abK:c2:=⟨.ff true [] [] (g8 i aS 0 [] 0) (g7 i aS),[],[]++gA i aS,⟨[],[]⟩⟩
def avE(C:aq):cz (abK i).ck:=let a:=xg j ms (C.h i);(.ae (.s (.ae (.s (.ae (.ae (.ae (.b5 ⟨([U,Ρ i 0,U,U,U,.ptr 10 0]++us 55 ([])),cA aS 1 (C.put i (qd a C.s C.told C.aU) (zN a C.s C.told C.aU) (zP a C.s C.told C.aU) (zO a C.s C.told C.aU)) [(10,j5 (j:Int) ms.K ms)]⟩ .z)))) .z)) .z))
def Ze(i j:Nat)(ms:ai)(C:aq):Prop:=(ms.ak=true->C.told.n<=541000000000/\(C.h i).ws.n<=3000/\0<=(C.h i).e/\(C.h i).e<=(C.h i).co/\(C.h i).co<=4194304/\(C.h i).e+((C.h i).li.n:Int)<=4194304/\(C.h i).li.n<=200)
theorem aDq(i:Nat)(c:i<3)(j:Nat)(f:j<3)(ms:ai)(C:aq)(b:fa C)(r:ms.i.n<=549755813888)(p:ms.b0.n<=549755813888)(q:ms.bn.n<=549755813888)(d:C.told.n<=541000000000/\(C.h i).ws.n<=3000/\0<=(C.h i).e/\(C.h i).e<=(C.h i).co/\(C.h i).co<=4194304/\(C.h i).e+((C.h i).li.n:Int)<=4194304/\(C.h i).li.n<=200):Ze i j ms C:=by
 have a:=hB b i c;unfold gz at a;unfold Ze;exact have⟨g,h,k,l,m,n,o⟩:=d;(λe=>Ω)
theorem XX(i:Nat)(a:i<3)(j:Nat)(b:j<3)(ms:ai)(g:ms.i.n<=549755813888)(e:ms.b0.n<=549755813888)(f:ms.bn.n<=549755813888)(C:aq)(c:fa C)(d:C.told.n<=541000000000/\(C.h i).ws.n<=3000/\0<=(C.h i).e/\(C.h i).e<=(C.h i).co/\(C.h i).co<=4194304/\(C.h i).e+((C.h i).li.n:Int)<=4194304/\(C.h i).li.n<=200):gn Tryz.prog 56 ((Rt i j).args (j5 (j:Int) ms.K ms++jd C)) ((Rt i j).dq ((j5 (j:Int) ms.K ms++jd C).drop (Rt i j).ej)) [] (cx aS 0 (C.put i (HN j ms (C.h i) C.s C.told C.aU) (VF j ms (C.h i) C.s C.told C.aU) (VH j ms (C.h i) C.s C.told C.aU) (VG j ms (C.h i) C.s C.told C.aU))):=by
 refine eX (abK i) (avE i j ms C) (Ze i j ms C) (bZ 10 ba (az (az8 i a) bY)) Tryz.func56 (List.replicate 31 .f++List.replicate 62 .l++[.f,.f]++List.replicate 4 .l++[.f,.f,.f]) ?_ ?_ (aDq i a j b ms C c g e f d)
 .rcases ca a with rfl|rfl|rfl<;>rcases ca b with rfl|rfl|rfl<;>kernel_rfl
 .rcases ca a with rfl|rfl|rfl<;>rcases ca b with rfl|rfl|rfl<;>kernel_rfl
def xf:N:=HN (toNat ms.r) ms h L aj an
def HL:I ai:=VF (toNat ms.r) ms h L aj an
def HM:I bI:=VH (toNat ms.r) ms h L aj an
def Dk:I aw:=VG (toNat ms.r) ms h L aj an
def Rs:dv:=⟨[.p 0,.fZ 0 (33*i),.g [a,a,a,a,a,a,l,a,.ab dT,a,a,a,.ab bx,a,.ab b8]],cn,fp,e9,λ(c d k m n o:Int) p (q:Int) r (s e f:Int) g (h:Int) j=>cW λC=>let b:=C.h i;⟨⟨some (0<=(⟨c,d,k,m,n,o,p,q,r,s,e,f,g,h,j⟩:ai).r/\(⟨c,d,k,m,n,o,p,q,r,s,e,f,g,h,j⟩:ai).r<3/\C.told.n<=541000000000/\b.ws.n<=3000/\0<=b.e/\b.e<=b.co/\b.co<=4194304/\b.e+(b.li.n:Int)<=4194304/\b.li.n<=200),[],cx aS 0 ((C.put i (xf (⟨c,d,k,m,n,o,p,q,r,s,e,f,g,h,j⟩:ai) b C.s C.told C.aU) (HL (⟨c,d,k,m,n,o,p,q,r,s,e,f,g,h,j⟩:ai) b C.s C.told C.aU) (HM (⟨c,d,k,m,n,o,p,q,r,s,e,f,g,h,j⟩:ai) b C.s C.told C.aU) (Dk (⟨c,d,k,m,n,o,p,q,r,s,e,f,g,h,j⟩:ai) b C.s C.told C.aU)):aq)⟩⟩⟩
theorem aA5(i:Nat)(a:i<3)(ms:ai)(s:ms.i.n<=549755813888)(q:ms.b0.n<=549755813888)(r:ms.bn.n<=549755813888):fB Tryz.prog 56 (Rs i) cn [] (cW λC=>⟨⟨some (0<=ms.r/\ms.r<3/\C.told.n<=541000000000/\(C.h i).ws.n<=3000/\0<=(C.h i).e/\(C.h i).e<=(C.h i).co/\(C.h i).co<=4194304/\(C.h i).e+((C.h i).li.n:Int)<=4194304/\(C.h i).li.n<=200),[],cx aS 0 ((C.put i (xf ms (C.h i) C.s C.told C.aU) (HL ms (C.h i) C.s C.told C.aU) (HM ms (C.h i) C.s C.told C.aU) (Dk ms (C.h i) C.s C.told C.aU)):aq)⟩⟩) (jw ms):=by
 refine g6 λC p b=> ?_;obtain⟨a0,aL,aO,h,j,k,l,m,n,o,c,d,e,f,g⟩:=ms;have t:a0=0\/a0=1\/a0=2:=by
  have u:0<=a0:=b.1;have v:a0<3:=b.2.1;omega
 rcases t with rfl|rfl|rfl
 .exact Eq.mp Υ (XX i a 0 Ω ⟨0,aL,aO,h,j,k,l,m,n,o,c,d,e,f,g⟩ s q r C p b.2.2)
 .exact Eq.mp Υ (XX i a 1 Ω ⟨1,aL,aO,h,j,k,l,m,n,o,c,d,e,f,g⟩ s q r C p b.2.2)
 .exact Eq.mp Υ (XX i a 2 Ω ⟨2,aL,aO,h,j,k,l,m,n,o,c,d,e,f,g⟩ s q r C p b.2.2)
theorem aEb(i:Nat)(c:i<3):gW 56 (Rs i):=
 kt (bF:=[a,a,a,a,a,a,l,a,.ab dT,a,a,a,.ab bx,a,.ab b8]) λs b=>Eq.mp Υ (aA5 i c ⟨s.1,s.2.1,s.2.2.1,s.2.2.2.1,s.2.2.2.2.1,s.2.2.2.2.2.1,s.2.2.2.2.2.2.1,s.2.2.2.2.2.2.2.1,s.2.2.2.2.2.2.2.2.1,s.2.2.2.2.2.2.2.2.2.1,s.2.2.2.2.2.2.2.2.2.2.1,s.2.2.2.2.2.2.2.2.2.2.2.1,s.2.2.2.2.2.2.2.2.2.2.2.2.1,s.2.2.2.2.2.2.2.2.2.2.2.2.2.1,s.2.2.2.2.2.2.2.2.2.2.2.2.2.2.1⟩ (b.2.2.2.2.2.2.2.2.1 rfl) (b.2.2.2.2.2.2.2.2.2.2.2.2.1 rfl) (b.2.2.2.2.2.2.2.2.2.2.2.2.2.2.1 rfl))
theorem vz(i:Nat)(a:i<3):gX 56 (Rs i):=hi g4 Tryz.func56 (aEb i a)
end
section
variable(i:Nat)(ac:aK)(C:aq)(h:N)
def auo(L:I ai):Int:=cond (decide ((L.n:Int)>0)) (ac.G.tmod (L.n:Int)) (-1)
def aup:N:={h with up:=true}
def p5:N:=aup h
def Q6:dv:=⟨[.p 0,.g [a,a,a,a,a,a,ar,ar,ar,a]],cn,fp,e9,λ(b c d e f g:Int) h j k (l:Int)=>cW λC=>⟨⟨some (fA C (⟨b,c,d,e,f,g,h,j,k,l⟩:aK)),[],cx [10,13,11,14,12,15,16,8,9] 7 (C.set i (p5 (C.h i)))⟩⟩⟩
def abv:c2:=⟨.ff true [.b 10] [.own (.h 0 99) cR 16,.own (.h 0 29) dF 10,.own (.h 0 62) dF 11,.own (.h 0 95) dF 12,.own (.h 0 32) cR 13,.own (.h 0 65) cR 14,.own (.h 0 98) cR 15] (Be i [10,13,11,14,12,15,16,8,9] 7 [] 0 C) (AE i [10,13,11,14,12,15,16,8,9]),[],[]++yO i [10,13,11,14,12,15,16,8,9],⟨[],[]⟩⟩
def avp:cz (abv i C).ck:=.ae (.ae (.ae (.j ⟨57,[],[(.t 5,a)],[],.f⟩ .z (.b5 ⟨([.ptr 0 0,U,U,.ptr 10 0,Ρ i 0,c (auo ac C.s)]++us 135 ([])),cA aS 1 C [(10,[c 10,c (i:Int),c ac.G,c ac.q,c ac.j,c ac.m,.str ac.ak,.str ac.aA,.str ac.i,c ac.aJ])]⟩ (.ae (.ae (.c false (.ae (.c false (.ae (.c true .z)))))))))))
def Y3(i:Nat)(ac:aK)(C:aq):Prop:=(decide ((C.s.n:Int)>0)=true->(C.s.n:Int)≠0)
theorem aDd(i:Nat)(e:i<3)(ac:aK)(C:aq)(d:fa C)(f:ac.ak.size<=549755813888)(g:ac.aA.size<=549755813888)(h:ac.i.size<=549755813888)(a:fA C ac):Y3 i ac C:=by
 have c:=hB d i e;unfold gz at c;unfold Y3;exact have:=pL a i;have:=(pL a i).e;have:=(pL a i).ws;have:=qT a;have:=a.2.A8;have:=a.2.A9;have:=a.2.A_;have:=a.2.ln;(λb=>have:=al b;Ω)
theorem XW(i:Nat)(a:i<3)(ac:aK)(e:ac.ak.size<=549755813888)(f:ac.aA.size<=549755813888)(g:ac.i.size<=549755813888)(C:aq)(b:fa C)(d:fA C ac):gn Tryz.prog 19 ((Q6 i).args ([c 10,c (i:Int),c ac.G,c ac.q,c ac.j,c ac.m,.str ac.ak,.str ac.aA,.str ac.i,c ac.aJ]++jd C)) ((Q6 i).dq (([c 10,c (i:Int),c ac.G,c ac.q,c ac.j,c ac.m,.str ac.ak,.str ac.aA,.str ac.i,c ac.aJ]++jd C).drop (Q6 i).ej)) [] (cx [10,13,11,14,12,15,16,8,9] 7 (C.set i (p5 (C.h i)))):=by
 refine eX (abv i C) (avp i ac C) (Y3 i ac C) (bZ 10 ba bY) Tryz.func19 [] ?_ ?_ (aDd i a ac C b e f g d)
 .exact Υ
 .exact Υ
end
