import Derived.Test.YtcpfnfkibnjcfaaGreatDoorXm
import Derived.Test.YtcpfnfkibnjcfaaGreatDoorXn
import Derived.Test.YtcpfnfkibnjcfaaGreatDoorXo
open Go.IntKind (i64 u64 u8)
open Int (toNat)
set_option maxRecDepth 100000
set_option maxHeartbeats 4000000
set_option linter.all false
noncomputable section
namespace Go.Proofs.YtcpfnfkibnjcfaaGreatDoor
open Go Go.RowKit Go.ag
section
variable(i:Nat)(aT:lx)(h:N)
def agd:N:=let a:=ki (⟨h.D,jh h,false,aT.r,aT.K,aT.G,aT.q,aT.j,aT.m,aT.ak⟩:ax) h;{a with ws:=(I.app h.ws (I.lit ([(⟨b_ a,h.D,aT.r,aT.K,aT.G,aT.q,aT.j,aT.m,aT.ak⟩:hz)]:List hz)))}
def sF:N:=N.bif (!h.up) h (N.bif (h.ro !=3) h (N.bif (!(sJ (⟨h.D,jh h,false,aT.r,aT.K,aT.G,aT.q,aT.j,aT.m,aT.ak⟩:ax) h)) (ki (⟨h.D,jh h,false,aT.r,aT.K,aT.G,aT.q,aT.j,aT.m,aT.ak⟩:ax) h) (agd aT h)))
def C8(aj:I bI):I bI:=cond (!h.up) (HC aT 13 h aj) (cond (h.ro !=3) (HC aT 12 h aj) (cond (!(sJ (⟨h.D,jh h,false,aT.r,aT.K,aT.G,aT.q,aT.j,aT.m,aT.ak⟩:ax) h)) (HC aT 6 (ki (⟨h.D,jh h,false,aT.r,aT.K,aT.G,aT.q,aT.j,aT.m,aT.ak⟩:ax) h) aj) aj))
def Q9:dv:=⟨[.p 0,.fZ 0 (33*i),.g [a,a,a,ar,ar,ar,a]],cn,fp,e9,λ(b c d:Int) e f g (h:Int)=>cW λC=>⟨⟨some (C.told.n<=549000000000/\(⟨b,c,d,e,f,g,h⟩:lx).q.size<=10000000000/\(⟨b,c,d,e,f,g,h⟩:lx).j.size<=10000000000/\(⟨b,c,d,e,f,g,h⟩:lx).m.size<=10000000000/\(C.h i).ws.n<=549000000000),[],cx aS 0 (C.put i (sF (⟨b,c,d,e,f,g,h⟩:lx) (C.h i)) C.s (C8 (⟨b,c,d,e,f,g,h⟩:lx) (C.h i) C.told) C.aU)⟩⟩⟩
def aby:c2:=⟨.ff true [] [] (g8 i aS 0 [] 0) (g7 i aS),[],[]++gA i aS,⟨[],[]⟩⟩
def avs(C:aq):cz (aby i).ck:=let a:=C.h i;let b:=ki (⟨a.D,jh a,false,aT.r,aT.K,aT.G,aT.q,aT.j,aT.m,aT.ak⟩:ax) a;(.ae (.ae (.ae (.ae (.b5 ⟨([.ptr 0 0,Ρ i 0,U,U,U,.ptr 10 0]++us 33 ([.bool (a.ro !=3)]++us 25 ([]))),cA aS 1 C [(10,[c aT.r,c aT.K,c aT.G,.str aT.q,.str aT.j,.str aT.m,c aT.ak])]⟩ (.ae (.s (.nm [(0,(33*i+4))]) (.b5 ⟨([.ptr 0 0,Ρ i 0,U,U,U,.ptr 10 0]++us 43 ([.bool (!(sJ (⟨a.D,jh a,false,aT.r,aT.K,aT.G,aT.q,aT.j,aT.m,aT.ak⟩:ax) a))]++us 15 ([]))),cA aS 1 (C.set i b) [(10,[c aT.r,c aT.K,c aT.G,.str aT.q,.str aT.j,.str aT.m,c aT.ak])]⟩ (.ae (.ae (.b5 ⟨([U,Ρ i 0,U,U,U,.ptr 10 0,c (b_ b)]++us 58 ([])),cA aS 1 (C.set i b) [(10,[c aT.r,c aT.K,c aT.G,.str aT.q,.str aT.j,.str aT.m,c aT.ak])]⟩ .z)))))))))))
def Y6(i:Nat)(aT:lx)(C:aq):Prop:=(((!(C.h i).up)=true->C.told.n<=549000000000)/\((!(C.h i).up)=false->(((C.h i).ro !=3)=true->C.told.n<=549000000000)/\(((C.h i).ro !=3)=false->mg (⟨(C.h i).D,jh (C.h i),false,aT.r,aT.K,aT.G,aT.q,aT.j,aT.m,aT.ak⟩:ax)/\((!(sJ (⟨(C.h i).D,jh (C.h i),false,aT.r,aT.K,aT.G,aT.q,aT.j,aT.m,aT.ak⟩:ax) (C.h i)))=true->C.told.n<=549000000000)/\((!(sJ (⟨(C.h i).D,jh (C.h i),false,aT.r,aT.K,aT.G,aT.q,aT.j,aT.m,aT.ak⟩:ax) (C.h i)))=false->(C.h i).ws.n+1<=549755813888))))
theorem aDg(i:Nat)(c:i<3)(aT:lx)(C:aq)(b:fa C)(q:aT.q.size<=549755813888)(r:aT.j.size<=549755813888)(s:aT.m.size<=549755813888)(d:C.told.n<=549000000000/\aT.q.size<=10000000000/\aT.j.size<=10000000000/\aT.m.size<=10000000000/\(C.h i).ws.n<=549000000000):Y6 i aT C:=by
 have a:=hB b i c;unfold gz at a;unfold Y6;exact have⟨l,m,n,o,p⟩:=d;(⟨λe=>Ω,λf=>⟨λg=>Ω,λh=>⟨Γ,⟨λj=>Ω,λk=>Ω⟩⟩⟩⟩)
theorem aAE(i:Nat)(a:i<3)(aT:lx)(e:aT.q.size<=549755813888)(f:aT.j.size<=549755813888)(g:aT.m.size<=549755813888):fB Tryz.prog 30 (Q9 i) cn [] (cW λC=>⟨⟨some (C.told.n<=549000000000/\aT.q.size<=10000000000/\aT.j.size<=10000000000/\aT.m.size<=10000000000/\(C.h i).ws.n<=549000000000),[],cx aS 0 (C.put i (sF aT (C.h i)) C.s (C8 aT (C.h i) C.told) C.aU)⟩⟩) [c aT.r,c aT.K,c aT.G,.str aT.q,.str aT.j,.str aT.m,c aT.ak]:=by
 refine g6 λC b d=>eX (aby i) (avs i aT C) (Y6 i aT C) (bZ 10 ba (az (az2 i a) (az (aiu i a) (az (aiv i a) (az (Ax i a) bY))))) Tryz.func30 (List.replicate 31 .f++List.replicate 62 .l++[.f,.f]++List.replicate 5 .l++[.f]++[.l]) ?_ ?_ (aDg i a aT C b e f g d)
 .exact Υ
 .exact Υ
theorem aDU(i:Nat)(c:i<3):gW 30 (Q9 i):=
 kt (bF:=[a,a,a,ar,ar,ar,a]) λs b=>Eq.mp Υ (aAE i c ⟨s.1,s.2.1,s.2.2.1,s.2.2.2.1,s.2.2.2.2.1,s.2.2.2.2.2.1,s.2.2.2.2.2.2.1⟩ (b.2.2.2.1 rfl) (b.2.2.2.2.1 rfl) (b.2.2.2.2.2.1 rfl))
theorem azZ(i:Nat)(a:i<3):gX 30 (Q9 i):=hi g4 Tryz.func30 (aDU i a)
end
section
variable(i:Nat)(h:N)
def kj:N:={h with ro:=3}
def o2:N:=let a:=i64 (b_ (kj h)+1);{(kj h)with eL:=a,ef:=a,ek:=a,hX:=0,q1:=0,gw:=0}
def sL(an:I aw):I aw:=I.app an (I.lit ([(⟨h.D,h.aM⟩:aw)]:List aw))
def zG:N:=let b:=i64 (b_ (kj h)+1);let a:=ki (⟨h.D,jh (o2 h),true,0,0,0,ε,ε,ε,0⟩:ax) (o2 h);{h with ro:=3,e:=a.e,lt:=a.lt,li:=a.li,eL:=b,ef:=b,ek:=b,hX:=0,q1:=0,gw:=0,a_:=a.a_,bp:=a.bp,a1:=(ri a).a1}
theorem nr:ε.size<=10000000000:=by decide
theorem aqy(h:N)(a:0<=h.e)(b:h.e+(h.li.n:Int)+1<=4194304):0<=i64 (b_ (kj h)+1)/\i64 (b_ (kj h)+1)<=4194304:=by
 have e:0<=b_ (kj h)/\b_ (kj h)<=4194303:=by
  show 0<=lf h.e h.lt h.li/\lf h.e h.lt h.li<=4194303;have c:=E (h.e+(h.li.n:Int));unfold lf
  cases (cV h.e h.lt h.li !=0)with
  |true=>exact⟨bz 0,by show(0:Int)<=4194303;omega⟩
  |false=>
   show 0<=pV h.e h.li/\pV h.e h.li<=4194303;unfold pV
   cases decide ((h.li.n:Int)>0)with
   |true=>rw[au];omega
   |false=>rw[aB];omega
 have d:=E (b_ (kj h)+1);omega
theorem ar0(it:ax)(h:N):(ki it (o2 h)).eL=i64 (b_ (kj h)+1)/\(ki it (o2 h)).ef=i64 (b_ (kj h)+1)/\(ki it (o2 h)).ek=(i64 (b_ (kj h)+1)):=⟨rfl,rfl,rfl⟩
def Ro:dv:=⟨[.p 0,.fZ 0 (33*i)],cn,fp,e9,cW λC=>⟨⟨some (C.aU.n<=549000000000/\0<=(C.h i).e/\(C.h i).e+((C.h i).li.n:Int)+1<=4194304),[],cx aS 0 (C.put i (zG (C.h i)) C.s C.told (sL (C.h i) C.aU))⟩⟩⟩
def abH:c2:=⟨.ff true [] [] (g8 i aS 0 [] 0) (g7 i aS),[],[]++gA i aS,⟨[],[]⟩⟩
def avB(C:aq):cz (abH i).ck:=let a:=C.h i;let b:=I.lit ([(⟨a.D,a.aM⟩:aw)]:List aw);(.ae (.ae (.b5 ⟨([.ptr 0 0,Ρ i 0,U,U,c (b_ (kj a))]++us 55 ([])),cA aS 0 (C.set i (kj a)) []⟩ (.s (.ae (.un 3 (.s (.ae (.s (.c true .z) .z)) (.s (.ae (.s (.c true .z) .z)) (.s (.ae (.s (.c true .z) .z)) (.ae (.s (.c false .z) .z))))))) (.ae (.s (.nm [(0,(33*i+4))]) (.b5 ⟨([U,Ρ i 0]++us 58 ([])),cA aS 1 (C.put i (ki (⟨a.D,jh (o2 a),true,0,0,0,ε,ε,ε,0⟩:ax) (o2 a)) C.s C.told (I.app C.aU b)) [(10,[(aG.ad c3).av b])]⟩ .z)))))))
def Zb(i:Nat)(C:aq):Prop:=(C.aU.n+1<=549755813888/\mg (⟨(C.h i).D,jh (o2 (C.h i)),true,0,0,0,ε,ε,ε,0⟩:ax)/\0<=i64 (b_ (kj (C.h i))+1)/\i64 (b_ (kj (C.h i))+1)<=4194304/\0<=i64 (b_ (kj (C.h i))+1)/\i64 (b_ (kj (C.h i))+1)<=4194304/\0<=i64 (b_ (kj (C.h i))+1)/\i64 (b_ (kj (C.h i))+1)<=4194304)
theorem aDn(i:Nat)(c:i<3)(C:aq)(b:fa C)(d:C.aU.n<=549000000000/\0<=(C.h i).e/\(C.h i).e+((C.h i).li.n:Int)+1<=4194304):Zb i C:=by
 have a:=hB b i c;unfold gz at a;unfold Zb;exact have⟨g,e,f⟩:=d;have:=aqy (C.h i) e f;have:=ar0 (⟨(C.h i).D,jh (o2 (C.h i)),true,0,0,0,ε,ε,ε,0⟩:ax) (C.h i);(⟨Ω,⟨Γ,(by first|omega|(have:=E (b_ (kj (C.h i))+1);omega))⟩⟩)
theorem aA1(i:Nat)(a:i<3):fB Tryz.prog 52 (Ro i) cn [] (cW λC=>⟨⟨some (C.aU.n<=549000000000/\0<=(C.h i).e/\(C.h i).e+((C.h i).li.n:Int)+1<=4194304),[],cx aS 0 (C.put i (zG (C.h i)) C.s C.told (sL (C.h i) C.aU))⟩⟩) []:=by
 refine g6 λC b c=>eX (abH i) (avB i C) (Zb i C) (bZ 10 ba (az (aiu i a) (az (aiv i a) (az (Ax i a) (az (aiy i a) bY))))) Tryz.func52 [] ?_ ?_ (aDn i a C b c)
 .exact Υ
 .exact Υ
theorem aD8(i:Nat)(a:i<3):gW 52 (Ro i):=
 aA1 i a
theorem vv(i:Nat)(a:i<3):gX 52 (Ro i):=hi g4 Tryz.func52 (aD8 i a)
end
section
variable(i:Nat)(ac:aK)(h:N)
def sH:Bool:=cond (h.ro !=3) (decide (h.D<1048576)) false
def jW:N:={h with ro:=1,v0:=(h.aM==0),v1:=(h.aM==1),v2:=(h.aM==2)}
def p7:N:=N.bif (ac.r==2) (N.bif (sH h) (mz (⟨0,0,1,i64 (h.D+1),b_ (jW h),my (jW h),false,0,(B:I ax),0,0,0,(B:I ah),0,(B:I ay)⟩:ai) (jW h)) h) (N.bif (ac.r==3) (N.bif (h.ro==3) (ri h) h) (N.bif (ac.r==4) (lb h) (N.bif (ac.r==9) (gS ac.G h) (N.bif (ac.r==11) (o3 h) h))))
def sG(L:I ai):I ai:=cond (ac.r==2) L (cond (ac.r==3) L (cond (ac.r==4) (sQ h L) L))
def Rb:dv:=⟨[.p 0,.fZ 0 (33*i),.g [a,a,a,a,a,a,ar,ar,ar,a]],cn,fp,e9,λ(b c d e f g:Int) h j k (l:Int)=>cW λC=>⟨⟨some (kv (C.h i)),[],cx ((aS.set (2*i) 10).set (2*i+1) 11) 2 (C.put i (p7 (⟨b,c,d,e,f,g,h,j,k,l⟩:aK) (C.h i)) (sG (⟨b,c,d,e,f,g,h,j,k,l⟩:aK) (C.h i) C.s) C.told C.aU)⟩⟩⟩
def abz:c2:=⟨.ff true [.b 10] [.own (.h 0 (33*i+29)) dF 10,.own (.h 0 (33*i+32)) cR 11] (g8 i ((aS.set (2*i) 10).set (2*i+1) 11) 2 [] 0) (g7 i ((aS.set (2*i) 10).set (2*i+1) 11)),[],[]++gA i ((aS.set (2*i) 10).set (2*i+1) 11),⟨[],[]⟩⟩
def avt(C:aq):cz (abz i).ck:=let a:=jW (C.h i);(.ae (.ae (.ae (.s (.j ⟨8388610,[.b 10],[(.t 23,l)],[],.f⟩ .z (.b5 ⟨([U,Ρ i 0]++us 21 ([.bool (sH (C.h i))]++us 51 ([]))),cA aS 0 C []⟩ (.s (.ae (.ae (.b5 ⟨([U,Ρ i 0,U,U,U,U,c (b_ a),c (my a)]++us 67 ([])),cA aS 0 (C.set i a) []⟩ .z))) .z))) (.ae (.b5 ⟨([.ptr 0 0,Ρ i 0,U,U,U,.ptr 10 0,U,U,U,c ac.r]++us 40 ([.bool (ac.r==3)]++us 24 ([]))),cA aS 1 C [(10,[c ac.r,c ac.K,c ac.G,c ac.q,c ac.j,c ac.m,.str ac.ak,.str ac.aA,.str ac.i,c ac.aJ])]⟩ (.ae (.ae (.b5 ⟨([.ptr 0 0,Ρ i 0,U,U,U,.ptr 10 0,U,U,U,c ac.r]++us 49 ([.bool (ac.r==4)]++us 15 ([]))),cA aS 1 C [(10,[c ac.r,c ac.K,c ac.G,c ac.q,c ac.j,c ac.m,.str ac.ak,.str ac.aA,.str ac.i,c ac.aJ])]⟩ (.ae (.ae (.b5 ⟨([.ptr 0 0,Ρ i 0,U,U,U,.ptr 10 0,U,U,U,c ac.r]++us 54 ([.bool (ac.r==9)]++us 10 ([]))),cA aS 1 C [(10,[c ac.r,c ac.K,c ac.G,c ac.q,c ac.j,c ac.m,.str ac.ak,.str ac.aA,.str ac.i,c ac.aJ])]⟩ (.ae (.ae (.b5 ⟨([U,Ρ i 0]++us 69 ([.bool (ac.r==11),U,U,U])),cA aS 1 C [(10,[c ac.r,c ac.K,c ac.G,c ac.q,c ac.j,c ac.m,.str ac.ak,.str ac.aA,.str ac.i,c ac.aJ])]⟩ .z)))))))))))))))
def Y7(i:Nat)(ac:aK)(C:aq):Prop:=(((ac.r==2)=true->sH (C.h i)=true->(0:Int)<=(C.h i).aM/\((C.h i).aM:Int)<3)/\((ac.r==2)=false->((ac.r==3)=true->((C.h i).ro==3)=true->0<=(C.h i).eL/\(C.h i).eL<=4194304/\0<=(C.h i).ef/\(C.h i).ef<=4194304/\0<=(C.h i).ek/\(C.h i).ek<=4194304)/\((ac.r==3)=false->(ac.r==4)=false->((ac.r==9)=true->aN (C.h i).a_)/\((ac.r==9)=false->(ac.r==11)=true->(C.h i).co<=4194304))))
theorem aDh(i:Nat)(d:i<3)(ac:aK)(C:aq)(c:fa C)(p:ac.ak.size<=549755813888)(q:ac.aA.size<=549755813888)(r:ac.i.size<=549755813888)(a:kv (C.h i)):Y7 i ac C:=by
 have b:=hB c i d;unfold gz at b;unfold Y7;exact have:=a.aM;have:=a.e;have:=a.il;have:=a.co;have:=a.fK;have:=a.eC;have:=a.ws;have:=a.pp;have:=a.li;have:=a.u8;(⟨λe g=>Ω,λh=>⟨λj k=>Ω,λl m=>⟨λn=>Θ,λo f=>Ω⟩⟩⟩)
theorem aAP(i:Nat)(a:i<3)(ac:aK)(e:ac.ak.size<=549755813888)(f:ac.aA.size<=549755813888)(g:ac.i.size<=549755813888):fB Tryz.prog 33 (Rb i) cn [] (cW λC=>⟨⟨some (kv (C.h i)),[],cx ((aS.set (2*i) 10).set (2*i+1) 11) 2 (C.put i (p7 ac (C.h i)) (sG ac (C.h i) C.s) C.told C.aU)⟩⟩) [c ac.r,c ac.K,c ac.G,c ac.q,c ac.j,c ac.m,.str ac.ak,.str ac.aA,.str ac.i,c ac.aJ]:=by
 refine g6 λC b d=>eX (abz i) (avt i ac C) (Y7 i ac C) (bZ 10 (aR aiw ba) (az (Ax i a) (az (aix i a) (az (aiy i a) (az (az3 i a) (az (az4 i a) (az (az5 i a) bY))))))) Tryz.func33 (List.replicate 31 .f++List.replicate 62 .l++[.f,.f]++List.replicate 4 .l++[.b .l (.b .l (.b .f .l))]++[.l,.l]) ?_ ?_ (aDh i a ac C b e f g d)
 .exact Υ
 .exact Υ
theorem aDW(i:Nat)(c:i<3):gW 33 (Rb i):=
 kt (bF:=[a,a,a,a,a,a,ar,ar,ar,a]) λs b=>Eq.mp Υ (aAP i c ⟨s.1,s.2.1,s.2.2.1,s.2.2.2.1,s.2.2.2.2.1,s.2.2.2.2.2.1,s.2.2.2.2.2.2.1,s.2.2.2.2.2.2.2.1,s.2.2.2.2.2.2.2.2.1,s.2.2.2.2.2.2.2.2.2.1⟩ (b.2.2.2.2.2.2.1 rfl) (b.2.2.2.2.2.2.2.1 rfl) (b.2.2.2.2.2.2.2.2.1 rfl))
theorem az0(i:Nat)(a:i<3):gX 33 (Rb i):=hi g4 Tryz.func33 (aDW i a)
end
section
variable(i j:Nat)(ms:ai)(C:aq)(h:N)(L:I ai)(aj:I bI)(an:I aw)
def zC:Bool:=cond (ms.G==1) true (ms.G==2)
def ir:Bool:=cond (!(zC ms)) (decide (ms.q>h.D)) false
def o1:I hz:=cond (ir ms h) (MH (dt ms.q (-1) h)).ws h.ws
def jC:Int:=cond (ir ms h) 0 h.ro
def kG:Int:=cond (ir ms h) (dt ms.q (-1) h).D h.D
def zE:Int:=cond (ir ms h) (dt ms.q (-1) h).bl h.bl
def re:I Int:=cond (ir ms h) (dt ms.q (-1) h).a_ h.a_
def HB:Int:=cond (ir ms h) (dt ms.q (-1) h).bp h.bp
def mw:Bool:=cond (ir ms h) (cond (!(iu ms.q (-1) h)) false true) true
def de:N:={h with ro:=(jC ms h),D:=(kG ms h),bl:=(zE ms h),ws:=(o1 ms h),a_:=(re ms h),bp:=(HB ms h)}
def zD:Bool:=cond (jC ms h==1) (ms.q==i64 (kG ms h+1)) false
def hS:N:=N.ic j (de ms h)
def m5:N:=N.bif (!h.up) h (N.bif (mw ms h) (N.bif (ms.G==1) (rf (⟨(j:Int),(i:Int),ms.G,ms.q,ms.j,ms.m,ms.ak,ms.aA,ms.i,ms.aJ,ms.b4,ms.cb,ms.b0,ms.cq,ms.bn⟩:ai) (de ms h)) (N.bif (ms.G==2) (N.bif (zD ms h) (N.bif (hq (hS j ms h)) (kH (hS j ms h)) (hS j ms h)) (de ms h)) (N.bif (decide (ms.q<kG ms h)) (N.bif (ms.G !=8) (lW (j:Int) (de ms h)) (de ms h)) (N.bif (ms.G==3) (m7 (⟨(j:Int),(i:Int),ms.G,ms.q,ms.j,ms.m,ms.ak,ms.aA,ms.i,ms.aJ,ms.b4,ms.cb,ms.b0,ms.cq,ms.bn⟩:ai) (de ms h)) (N.bif (ms.G==4) (N.bif (jC ms h==2) (N.bif (hq (hS j ms h)) (zG (hS j ms h)) (hS j ms h)) (de ms h)) (N.bif (ms.G==5) (m8 (⟨(j:Int),(i:Int),ms.G,ms.q,ms.j,ms.m,ms.ak,ms.aA,ms.i,ms.aJ,ms.b4,ms.cb,ms.b0,ms.cq,ms.bn⟩:ai) (k_ (de ms h)) L aj an) (N.bif (ms.G==7) (na (⟨(j:Int),(i:Int),ms.G,ms.q,ms.j,ms.m,ms.ak,ms.aA,ms.i,ms.aJ,ms.b4,ms.cb,ms.b0,ms.cq,ms.bn⟩:ai) (k_ (de ms h))) (N.bif (ms.G==6) (N.bif (jC ms h==3) (xf (⟨(j:Int),(i:Int),ms.G,ms.q,ms.j,ms.m,ms.ak,ms.aA,ms.i,ms.aJ,ms.b4,ms.cb,ms.b0,ms.cq,ms.bn⟩:ai) (de ms h) L aj an) (de ms h)) (de ms h))))))))) (dt ms.q (-1) h))
def C9:I ai:=cond (!h.up) L (cond (mw ms h) (cond (ms.G==1) L (cond (ms.G==2) (cond (zD ms h) (cond (hq (hS j ms h)) L L) L) (cond (decide (ms.q<kG ms h)) (cond (ms.G !=8) L L) (cond (ms.G==3) L (cond (ms.G==4) (cond (jC ms h==2) (cond (hq (hS j ms h)) L L) L) (cond (ms.G==5) (HI (⟨(j:Int),(i:Int),ms.G,ms.q,ms.j,ms.m,ms.ak,ms.aA,ms.i,ms.aJ,ms.b4,ms.cb,ms.b0,ms.cq,ms.bn⟩:ai) (k_ (de ms h)) L aj an) (cond (ms.G==7) L (cond (ms.G==6) (cond (jC ms h==3) (HL (⟨(j:Int),(i:Int),ms.G,ms.q,ms.j,ms.m,ms.ak,ms.aA,ms.i,ms.aJ,ms.b4,ms.cb,ms.b0,ms.cq,ms.bn⟩:ai) (de ms h) L aj an) L) L)))))))) L)
def w9:I bI:=cond (!h.up) aj (cond (mw ms h) (cond (ms.G==1) aj (cond (ms.G==2) (cond (zD ms h) (cond (hq (hS j ms h)) aj aj) aj) (cond (decide (ms.q<kG ms h)) (cond (ms.G !=8) aj aj) (cond (ms.G==3) aj (cond (ms.G==4) (cond (jC ms h==2) (cond (hq (hS j ms h)) aj aj) aj) (cond (ms.G==5) (HJ (⟨(j:Int),(i:Int),ms.G,ms.q,ms.j,ms.m,ms.ak,ms.aA,ms.i,ms.aJ,ms.b4,ms.cb,ms.b0,ms.cq,ms.bn⟩:ai) (k_ (de ms h)) L aj an) (cond (ms.G==7) aj (cond (ms.G==6) (cond (jC ms h==3) (HM (⟨(j:Int),(i:Int),ms.G,ms.q,ms.j,ms.m,ms.ak,ms.aA,ms.i,ms.aJ,ms.b4,ms.cb,ms.b0,ms.cq,ms.bn⟩:ai) (de ms h) L aj an) aj) aj)))))))) aj)
def w8:I aw:=cond (!h.up) an (cond (mw ms h) (cond (ms.G==1) an (cond (ms.G==2) (cond (zD ms h) (cond (hq (hS j ms h)) an an) an) (cond (decide (ms.q<kG ms h)) (cond (ms.G !=8) an an) (cond (ms.G==3) an (cond (ms.G==4) (cond (jC ms h==2) (cond (hq (hS j ms h)) (sL (hS j ms h) an) an) an) (cond (ms.G==5) (De (⟨(j:Int),(i:Int),ms.G,ms.q,ms.j,ms.m,ms.ak,ms.aA,ms.i,ms.aJ,ms.b4,ms.cb,ms.b0,ms.cq,ms.bn⟩:ai) (k_ (de ms h)) L aj an) (cond (ms.G==7) an (cond (ms.G==6) (cond (jC ms h==3) (Dk (⟨(j:Int),(i:Int),ms.G,ms.q,ms.j,ms.m,ms.ak,ms.aA,ms.i,ms.aJ,ms.b4,ms.cb,ms.b0,ms.cq,ms.bn⟩:ai) (de ms h) L aj an) an) an)))))))) an)
theorem aHo(ms:ai)(h:N)(b:h.ws.n<=3000):(k_ (de ms h)).ws.n<=3000:=by
 have a:(B:I hz).n<=3000:=cd _;have e:(o1 ms h).n<=3000:=by
  unfold o1
  cases ir ms h
  .exact b
  .exact a
 show(cond ((de ms h).ro==2) (B:I hz) (o1 ms h)).n<=3000
 cases ((de ms h).ro==2)
 .exact e
 .exact a
theorem QG(ms:ai)(h:N)(a:h.ws.n<=3000):(o1 ms h).n<=3000:=by
 have b:(B:I hz).n<=3000:=cd _;unfold o1
 cases ir ms h
 .exact a
 .exact b
def Ra:dv:=⟨[.p 0,.g [a,a,a,a,a,a,l,a,.ab dT,a,a,a,.ab bx,a,.ab b8]],cn,fp,e9,λ(b c k m n o:Int) p (q:Int) r (s d e:Int) f (g:Int) h=>cW λC=>⟨⟨some (kv (C.h i)/\fE (⟨b,c,k,m,n,o,p,q,r,s,d,e,f,g,h⟩:ai)/\C.told.n<=541000000000/\C.aU.n<=549000000000),[],cx [10,2,11,4,12,6,7,8,9] 3 (C.put i (m5 i j (⟨b,c,k,m,n,o,p,q,r,s,d,e,f,g,h⟩:ai) (C.h i) C.s C.told C.aU) (C9 i j (⟨b,c,k,m,n,o,p,q,r,s,d,e,f,g,h⟩:ai) (C.h i) C.s C.told C.aU) (w9 i j (⟨b,c,k,m,n,o,p,q,r,s,d,e,f,g,h⟩:ai) (C.h i) C.s C.told C.aU) (w8 i j (⟨b,c,k,m,n,o,p,q,r,s,d,e,f,g,h⟩:ai) (C.h i) C.s C.told C.aU))⟩⟩⟩
def sh:c2:=⟨.ff true [.b 10] [.own (.h 0 29) dF 10,.own (.h 0 62) dF 11,.own (.h 0 95) dF 12] (Be i [10,2,11,4,12,6,7,8,9] 3 [] 0 C) (AE i [10,2,11,4,12,6,7,8,9]),[],[]++yO i [10,2,11,4,12,6,7,8,9],⟨[],[]⟩⟩
def vg:cz (sh i C).ck:=let d:=C.h i;let f:=de ms d;let e:=hS j ms d;let b:=aS.set (2*i) 45;let c:=C.set i f;(.ae (.ae (.ae (.j ⟨57,[],[(.t 5,l)],[],.f⟩ .z (.b5 ⟨([.ptr 0 0,U,U,.ptr 10 0,Ρ i 0,.bool (zC ms)]++(us 147 ([]))),cA aS 1 C [(10,(j5 (j:Int) (i:Int) ms))]⟩ (.Av ⟨25,[],[(.h 45 0,.ad dF),(.h 0 (33*i+3),a),(.h 0 (33*i+4),a),(.h 0 (33*i+5),a),(.h 0 (33*i+30),.ab bs),(.h 0 (33*i+31),a)],[],.f⟩ [.own (.h 0 (33*i+29)) dF 45] (.j ⟨34359738393,[],[(.t 35,l)],[],.f⟩ .z (.b5 ⟨([.ptr 0 0,U,U,.ptr 10 0,Ρ i 0]++(us 30 (([.bool (ir ms d)]++(us 117 ([])))))),cA aS 1 C [(10,(j5 (j:Int) (i:Int) ms))]⟩ (.s (.s (.ae (.b5 ⟨([.ptr 0 0,U,U,.ptr 10 0,Ρ i 0]++(us 35 (([.bool (!(iu ms.q (-1) d))]++(us 112 ([])))))),cA aS 1 (C.set i (dt ms.q (-1) d)) [(10,(j5 (j:Int) (i:Int) ms))]⟩ .z)) .z) .z))) (.b5 ⟨([.ptr 0 0,U,U,.ptr 10 0,Ρ i 0]++(us 148 ([]))),cA b 36 c [(10,(j5 (j:Int) (i:Int) ms))]⟩ (.ae (.ae (.ae (.b5 ⟨([.ptr 0 0,U,U,.ptr 10 0,Ρ i 0]++(us 45 (([.bool (ms.G==2)]++(us 102 ([])))))),cA b 36 c [(10,(j5 (j:Int) (i:Int) ms))]⟩ (.s (.j ⟨295147905179352825880,[],[(.t 68,l)],[],.f⟩ .z (.b5 ⟨([U,U,U,.ptr 10 0,Ρ i 0]++(us 63 (([.bool (zD ms d)]++(us 84 ([])))))),cA b 36 c [(10,(j5 (j:Int) (i:Int) ms))]⟩ (.s (.ae (.ae (.b5 ⟨([U,U,U,U,Ρ i 0]++(us 71 (([.bool (hq e)]++(us 76 ([])))))),cA b 36 (C.set i e) [(10,(j5 (j:Int) (i:Int) ms))]⟩ .z))) .z))) (.ae (.b5 ⟨([.ptr 0 0,U,U,.ptr 10 0,Ρ i 0]++(us 74 (([.bool (decide (ms.q<(kG ms d)))]++(us 73 ([])))))),cA b 36 c [(10,(j5 (j:Int) (i:Int) ms))]⟩ (.ae (.ae (.b5 ⟨([.ptr 0 0,U,U,.ptr 10 0,Ρ i 0]++(us 89 (([.bool (ms.G==3)]++(us 58 ([])))))),cA b 36 c [(10,(j5 (j:Int) (i:Int) ms))]⟩ (.ae (.ae (.b5 ⟨([.ptr 0 0,U,U,.ptr 10 0,Ρ i 0]++(us 96 (([.bool (ms.G==4)]++(us 51 ([])))))),cA b 36 c [(10,(j5 (j:Int) (i:Int) ms))]⟩ (.s (.ae (.s (.ae (.ae (.b5 ⟨([.ptr 0 0,U,U,U,Ρ i 0]++(us 112 (([.bool (hq e)]++(us 35 ([])))))),cA b 36 (C.set i e) [(10,(j5 (j:Int) (i:Int) ms))]⟩ .z))) .z)) (.ae (.b5 ⟨([.ptr 0 0,U,U,.ptr 10 0,Ρ i 0]++(us 116 (([.bool (ms.G==5)]++(us 31 ([])))))),cA b 36 c [(10,(j5 (j:Int) (i:Int) ms))]⟩ (.s (.ae (.b5 ⟨([.ptr 0 0,U,U,.ptr 10 0,Ρ i 0]++(us 148 ([]))),cA (aS.set (2*i) 78) 69 (C.set i (k_ f)) [(10,(j5 (j:Int) (i:Int) ms)),(45,[dP])]⟩ .z)) (.ae (.b5 ⟨([.ptr 0 0,U,U,.ptr 10 0,Ρ i 0]++(us 126 (([.bool (ms.G==7)]++(us 21 ([])))))),cA b 36 c [(10,(j5 (j:Int) (i:Int) ms))]⟩ (.s (.ae (.b5 ⟨([U,U,U,.ptr 10 0,Ρ i 0]++(us 148 ([]))),cA (aS.set (2*i) 78) 69 (C.set i (k_ f)) [(10,(j5 (j:Int) (i:Int) ms)),(45,[dP])]⟩ .z)) (.ae (.b5 ⟨([.ptr 0 0,U,U,.ptr 10 0,Ρ i 0]++(us 135 (([.bool (ms.G==6)]++(us 12 ([])))))),cA b 36 c [(10,(j5 (j:Int) (i:Int) ms))]⟩ .z)))))))))))))))))))))))))))))
def rR(i j:Nat)(ms:ai)(C:aq):Prop:=((!(C.h i).up)=false->mw ms (C.h i)=true->(ms.G==1)=false->((ms.G==2)=true->zD ms (C.h i)=true->hq (hS j ms (C.h i))=true->0<=(C.h i).aM/\(C.h i).aM<3)/\((ms.G==2)=false->decide (ms.q<kG ms (C.h i))=false->(ms.G==3)=false->((ms.G==4)=true->(jC ms (C.h i)==2)=true->hq (hS j ms (C.h i))=true->C.aU.n<=549000000000/\0<=(C.h i).e/\(C.h i).e+((C.h i).li.n:Int)+1<=4194304)/\((ms.G==4)=false->((ms.G==5)=true->eE (C.h i).li/\eE ms.i/\C.told.n<=541000000000/\(k_ (de ms (C.h i))).ws.n<=3000/\0<=(C.h i).e/\(C.h i).e<=(C.h i).co/\(C.h i).co<=4194304)/\((ms.G==5)=false->((ms.G==7)=true->ms.aJ<=4194304)/\((ms.G==7)=false->(ms.G==6)=true->(jC ms (C.h i)==3)=true->0<=(j:Int)/\(j:Int)<3/\C.told.n<=541000000000/\(o1 ms (C.h i)).n<=3000/\0<=(C.h i).e/\(C.h i).e<=(C.h i).co/\(C.h i).co<=4194304/\(C.h i).e+((C.h i).li.n:Int)<=4194304/\(C.h i).li.n<=200)))))
theorem vJ(i:Nat)(e:i<3)(j:Nat)(B:j<3)(ms:ai)(C:aq)(d:fa C)(H:ms.i.n<=549755813888)(F:ms.b0.n<=549755813888)(G:ms.bn.n<=549755813888)(f:kv (C.h i)/\fE ms/\C.told.n<=541000000000/\C.aU.n<=549000000000):rR i j ms C:=by
 have c:=hB d i e;unfold gz at c;unfold rR;exact have⟨a,b,D,E⟩:=f;have:=a.aM;have:=a.e;have:=a.il;have:=a.co;have:=a.fK;have:=a.eC;have:=a.ws;have:=a.li;have:=b.j1;have:=b.b9;have:=b.li;have:=aHo ms (C.h i) a.ws;have:=QG ms (C.h i) a.ws;(λg t u=>⟨λv w x=>Ω,λy z A=>⟨λh k l=>Ω,λm=>⟨λn=>⟨Ψ,Ψ,Ω⟩,λo=>⟨λp=>Ω,λq r s=>Ω⟩⟩⟩⟩)
def sf(i j:Nat):Prop:= ∀(ms:ai) (e:ms.i.n<=549755813888) (c:ms.b0.n<=549755813888) (d:ms.bn.n<=549755813888) (C:aq) (a:fa C) (b:kv (C.h i)/\fE ms/\C.told.n<=541000000000/\C.aU.n<=549000000000),gn Tryz.prog 32 ((Ra i j).args ((j5 (j:Int) (i:Int) ms)++jd C)) ((Ra i j).dq (((j5 (j:Int) (i:Int) ms)++jd C).drop (Ra i j).ej)) [] (cx [10,2,11,4,12,6,7,8,9] 3 (C.put i (m5 i j ms (C.h i) C.s C.told C.aU) (C9 i j ms (C.h i) C.s C.told C.aU) (w9 i j ms (C.h i) C.s C.told C.aU) (w8 i j ms (C.h i) C.s C.told C.aU)))
theorem aAG:sf 0 0:=by
 intro ms e c d C a b;refine eX (sh 0 C) (vg 0 0 ms C) (rR 0 0 ms C) (bZ 10 ba (az (rJ 0 Ω) (az (tj 0 Ω) (az (vr 0 Ω) (az (vs 0 Ω) (az (vt 0 Ω) (az (rK 0 Ω) (az (vu 0 Ω) (az (vv 0 Ω) (az (vw 0 Ω) (az (vx 0 Ω) (az (vy 0 Ω) (az (vz 0 Ω) bY))))))))))))) Tryz.func32 [] ?_ ?_ (vJ 0 Ω 0 Ω ms C a e c d b)
 .kernel_rfl
 .kernel_rfl
theorem aAH:sf 0 1:=by
 intro ms e c d C a b;refine eX (sh 0 C) (vg 0 1 ms C) (rR 0 1 ms C) (bZ 10 ba (az (rJ 0 Ω) (az (tj 0 Ω) (az (vr 0 Ω) (az (vs 0 Ω) (az (vt 0 Ω) (az (rK 0 Ω) (az (vu 0 Ω) (az (vv 0 Ω) (az (vw 0 Ω) (az (vx 0 Ω) (az (vy 0 Ω) (az (vz 0 Ω) bY))))))))))))) Tryz.func32 [] ?_ ?_ (vJ 0 Ω 1 Ω ms C a e c d b)
 .kernel_rfl
 .kernel_rfl
theorem aAI:sf 0 2:=by
 intro ms e c d C a b;refine eX (sh 0 C) (vg 0 2 ms C) (rR 0 2 ms C) (bZ 10 ba (az (rJ 0 Ω) (az (tj 0 Ω) (az (vr 0 Ω) (az (vs 0 Ω) (az (vt 0 Ω) (az (rK 0 Ω) (az (vu 0 Ω) (az (vv 0 Ω) (az (vw 0 Ω) (az (vx 0 Ω) (az (vy 0 Ω) (az (vz 0 Ω) bY))))))))))))) Tryz.func32 [] ?_ ?_ (vJ 0 Ω 2 Ω ms C a e c d b)
 .kernel_rfl
 .kernel_rfl
theorem aAJ:sf 1 0:=by
 intro ms e c d C a b;refine eX (sh 1 C) (vg 1 0 ms C) (rR 1 0 ms C) (bZ 10 ba (az (rJ 1 Ω) (az (tj 1 Ω) (az (vr 1 Ω) (az (vs 1 Ω) (az (vt 1 Ω) (az (rK 1 Ω) (az (vu 1 Ω) (az (vv 1 Ω) (az (vw 1 Ω) (az (vx 1 Ω) (az (vy 1 Ω) (az (vz 1 Ω) bY))))))))))))) Tryz.func32 [] ?_ ?_ (vJ 1 Ω 0 Ω ms C a e c d b)
 .kernel_rfl
 .kernel_rfl
theorem aAK:sf 1 1:=by
 intro ms e c d C a b;refine eX (sh 1 C) (vg 1 1 ms C) (rR 1 1 ms C) (bZ 10 ba (az (rJ 1 Ω) (az (tj 1 Ω) (az (vr 1 Ω) (az (vs 1 Ω) (az (vt 1 Ω) (az (rK 1 Ω) (az (vu 1 Ω) (az (vv 1 Ω) (az (vw 1 Ω) (az (vx 1 Ω) (az (vy 1 Ω) (az (vz 1 Ω) bY))))))))))))) Tryz.func32 [] ?_ ?_ (vJ 1 Ω 1 Ω ms C a e c d b)
 .kernel_rfl
 .kernel_rfl
theorem aAL:sf 1 2:=by
 intro ms e c d C a b;refine eX (sh 1 C) (vg 1 2 ms C) (rR 1 2 ms C) (bZ 10 ba (az (rJ 1 Ω) (az (tj 1 Ω) (az (vr 1 Ω) (az (vs 1 Ω) (az (vt 1 Ω) (az (rK 1 Ω) (az (vu 1 Ω) (az (vv 1 Ω) (az (vw 1 Ω) (az (vx 1 Ω) (az (vy 1 Ω) (az (vz 1 Ω) bY))))))))))))) Tryz.func32 [] ?_ ?_ (vJ 1 Ω 2 Ω ms C a e c d b)
 .kernel_rfl
 .kernel_rfl
theorem aAM:sf 2 0:=by
 intro ms e c d C a b;refine eX (sh 2 C) (vg 2 0 ms C) (rR 2 0 ms C) (bZ 10 ba (az (rJ 2 Ω) (az (tj 2 Ω) (az (vr 2 Ω) (az (vs 2 Ω) (az (vt 2 Ω) (az (rK 2 Ω) (az (vu 2 Ω) (az (vv 2 Ω) (az (vw 2 Ω) (az (vx 2 Ω) (az (vy 2 Ω) (az (vz 2 Ω) bY))))))))))))) Tryz.func32 [] ?_ ?_ (vJ 2 Ω 0 Ω ms C a e c d b)
 .kernel_rfl
 .kernel_rfl
theorem aAN:sf 2 1:=by
 intro ms e c d C a b;refine eX (sh 2 C) (vg 2 1 ms C) (rR 2 1 ms C) (bZ 10 ba (az (rJ 2 Ω) (az (tj 2 Ω) (az (vr 2 Ω) (az (vs 2 Ω) (az (vt 2 Ω) (az (rK 2 Ω) (az (vu 2 Ω) (az (vv 2 Ω) (az (vw 2 Ω) (az (vx 2 Ω) (az (vy 2 Ω) (az (vz 2 Ω) bY))))))))))))) Tryz.func32 [] ?_ ?_ (vJ 2 Ω 1 Ω ms C a e c d b)
 .kernel_rfl
 .kernel_rfl
theorem aAO:sf 2 2:=by
 intro ms e c d C a b;refine eX (sh 2 C) (vg 2 2 ms C) (rR 2 2 ms C) (bZ 10 ba (az (rJ 2 Ω) (az (tj 2 Ω) (az (vr 2 Ω) (az (vs 2 Ω) (az (vt 2 Ω) (az (rK 2 Ω) (az (vu 2 Ω) (az (vv 2 Ω) (az (vw 2 Ω) (az (vx 2 Ω) (az (vy 2 Ω) (az (vz 2 Ω) bY))))))))))))) Tryz.func32 [] ?_ ?_ (vJ 2 Ω 2 Ω ms C a e c d b)
 .kernel_rfl
 .kernel_rfl
theorem vA(i:Nat)(a:i<3)(j:Nat)(b:j<3):sf i j:=by
 rcases ca a with rfl|rfl|rfl<;>rcases ca b with rfl|rfl|rfl
 .exact aAG
 .exact aAH
 .exact aAI
 .exact aAJ
 .exact aAK
 .exact aAL
 .exact aAM
 .exact aAN
 .exact aAO
end
def gq(s:I ai):Prop:=s.n<=300/\ ∀j,j<s.n->fE (s.at' j)
structure bX (n:N):Prop where
 i:kv n
 o:gq n.a1
structure RL (m:ai):Prop where
 j1:0<=m.j/\m.j<=1048576
 b9:0<=m.aJ/\m.aJ<=1048576
 li:eE m.i
def x5{a b t d e k:Int}{f:Bool}(c:0<=d/\d<=1048576):RL ⟨a,b,k,t,d,e,f,0,B,0,0,0,B,0,B⟩:=⟨c,(by decide:(0:Int)<=0/\(0:Int)<=1048576),nk⟩
def kv.iz{n:N}(h:kv n)(m:N)(e:(m.aM,m.e,m.co,m.li,m.eL,m.ef,m.ek,m.b9,m.hX,m.q1,m.gw)=(n.aM,n.e,n.co,n.li,n.eL,n.ef,n.ek,n.b9,n.hX,n.q1,n.gw))(k:aN m.a_)(l:m.ws.n<=3000):kv m:=by
 simp only[od]at e;obtain⟨c,a,bo,b,cO,i,j,d,f,g,TA⟩:=e;exact⟨by rw[c];exact h.aM,by rw[a];exact h.e,by rw[a,bo];exact h.il,by rw[bo];exact h.co,by rw[b];exact h.fK,by rw[a,b];exact h.eC,l,by rw[cO,i,j];exact h.pp,by rw[b];exact h.li,k,by rw[d];exact h.b9,by rw[f,g,TA];exact h.hY⟩
def pf{c:Bool}{a b:N}(d:c=true->bX a)(e:c=false->bX b):bX (N.bif c a b):=by
 rw[N.cT]
 cases c
 .exact e rfl
 .exact d rfl
def rI{A:Int}{ms:ai}{h:N}(a:bX h)(f:0<=A/\A<3)(b:RL ms):bX (dn A ms h):=by
 refine⟨a.i.iz _ Ξ a.i.u8 a.i.ws,?_⟩;show gq (xn A ms h);unfold xn
 by_cases c:(h.a1.n:Int)<300
 .rw[bm c,au];refine⟨?_,λj d=> ?_⟩
  .show h.a1.n+1<=300;omega
  .show fE (cond (Nat.blt j h.a1.n) (h.a1.at' j) _)
   cases e:Nat.blt j h.a1.n with
   |true=>exact a.o.2 j (by simpa[jL]using e)
   |false=>
    have i:j<h.a1.n+1:=d;have: ¬j<h.a1.n:=λhh=>by
     rw[show Nat.blt j h.a1.n=true by rw[jL];exact hh]at e
     cases e
    have g:j-h.a1.n=0:=by omega
    simp only[aB,g];exact⟨a.i.aM,f,b.j1,b.b9,b.li⟩
 .rw[a8 c,aB];exact a.o
def ah3{rc:bB}{h:N}(a:bX h):bX (fI rc h):=⟨a.i.iz _ Ξ (v7 a.i.u8) a.i.ws,a.o⟩
def OQ{A g:Int}{h:N}(a:bX h):bX (dt A g h):=⟨a.i.iz _ Ξ (v7 a.i.u8) a.i.ws,a.o⟩
def XE{h:N}(a:bX h):bX (k_ h):=⟨a.i.iz _ Ξ a.i.u8 (by
  show(cond (h.ro==2) (B:I hz) h.ws).n<=3000
  cases (h.ro==2)
  .exact a.i.ws
  .exact cd _),a.o⟩
def XD{A:Int}{h:N}(a:bX h)(b:0<=A/\A<3):bX (lW A h):=rI a b (x5 Δ)
def ax9{ms:ai}{h:N}(a:bX h)(b:0<=ms.r/\ms.r<3):bX (rf ms h):=by
 have c:=rI (ms:=⟨0,0,2,ms.q,0,0,false,0,B,0,0,0,B,0,B⟩) a b (x5 Δ);have d:=XD a b;refine⟨a.i.iz _ Ξ a.i.u8 a.i.ws,?_⟩;show gq (cond (zF ms h) _ _)
 cases zF ms h
 .exact d.o
 .exact c.o
def ah1{ms:ai}{h:N}(a:bX h)(c:RL ms):bX (mz ms h):=by
 have b:bX (mA ms h):=by
  refine⟨a.i.iz _ Ξ a.i.u8 a.i.ws,?_⟩;show gq (cond (0 !=h.aM) (dn 0 ms h).a1 h.a1)
  cases (0 !=h.aM)
  .exact a.o
  .exact(rI a Δ c).o
 have d:bX (nb ms h):=by
  refine⟨b.i.iz _ Ξ b.i.u8 b.i.ws,?_⟩;show gq (cond (1 !=h.aM) (dn 1 ms (mA ms h)).a1 (zI ms h))
  cases (1 !=h.aM)
  .exact b.o
  .exact(rI b Δ c).o
 refine⟨a.i.iz _ Ξ a.i.u8 a.i.ws,?_⟩;show gq (cond (2 !=h.aM) (dn 2 ms (nb ms h)).a1 (uX ms h))
 cases (2 !=h.aM)
 .exact d.o
 .exact(rI d Δ c).o
def S0{h:N}(a:kv h):0<=b_ h/\b_ h<=1048576:=by
 have:=KK h ⟨a.e,by have:=a.eC;omega⟩;have:=a.eC;omega
def ax_{h:N}(a:bX h):bX (kH h):=by
 have c:aN (xc h):=by
  unfold xc
  cases (h.D==1048576)
  .exact v7 a.i.u8
  .exact a.i.u8
 have d:bX (kI h):=⟨a.i.iz _ Ξ c a.i.ws,a.o⟩;have b:bX (p8 h):=⟨a.i.iz _ Ξ c a.i.ws,a.o⟩;unfold kH;exact pf (λ_=>d) λ_=>ah1 b (x5 (S0 b.i))
def aya{ms:ai}{h:N}(a:bX h)(c:0<=ms.r/\ms.r<3):bX (m7 ms h):=by
 have d:aN (Dc ms h):=by
  unfold Dc
  cases (!(ru h.e h.lt h.li ms.j ms.m))<;>cases decide (h.bl>=0)<;>cases (h.bl !=ms.r)<;>cases decide (h.bl<0)<;>first|exact a.i.u8|exact v7 a.i.u8
 have b:bX (xd ms h):=⟨a.i.iz _ Ξ d a.i.ws,a.o⟩;unfold m7;exact pf (λ_=>XD b c) λ_=>rI b c (x5 Δ)
def ZD{A g o:Int}{u:I ax}(b:0<=A)(d:A+(u.n:Int)<=1048576)(f:u.n<=200)(a:0<=o/\o<=1048576)(c:eE u):
  (0<=ry A g u o/\ry A g u o<=o)/\(sX A g u o).n<=200/\ry A g u o+((sX A g u o).n:Int)<=1048576/\eE (sX A g u o):=by
 unfold ry sX;have z:((B:I ax).n:Int)=0:=rfl;have h:(B:I ax).n=0:=rfl
 cases (cV A g u !=0)
 .simp only[aB]
  cases e:(hQ A u o !=0)
  .simp only[aB];have k:=BS A u o ⟨bP e,⟨b,Ω⟩,Ω,Ω⟩;rw[E (o-A),I.vM];exact⟨⟨a.1,bz _⟩,Ω,Ω,AF c _ _⟩
  .simp only[au];exact⟨⟨bz _,a.1⟩,Ω,Ω,nk⟩
 .simp only[au];exact⟨⟨bz _,a.1⟩,Ω,Ω,nk⟩
def aEH{A g o v d F:Int}{u:I ax}{y:I ah}{p:I ay}(b:0<=A)(c:A+(u.n:Int)<=1048576)(f:u.n<=200)(a:0<=o/\o<=1048576)(e:eE u):
  (0<=xF A g u o v d y F p/\xF A g u o v d y F p<=o)/\(xG A g u o v d y F p).n<=200/\xF A g u o v d y F p+((xG A g u o v d y F p).n:Int)<=1048576/\eE (xG A g u o v d y F p):=by
 unfold xF xG;have z:((B:I ax).n:Int)=0:=rfl;have h:(B:I ax).n=0:=rfl
 cases (cV A g u !=0)
 .simp only[aB]
  cases (nf o v d y F p !=0)
  .simp only[aB];unfold pY pZ
   cases p0 A g u o v
   .simp only[aB];exact⟨⟨a.1,bz _⟩,Ω,Ω,nk⟩
   .simp only[au];exact ZD b c f a e
  .simp only[au];exact⟨⟨bz _,a.1⟩,Ω,Ω,nk⟩
 .simp only[au];exact⟨⟨bz _,a.1⟩,Ω,Ω,nk⟩
def ayc{ms:ai}{h:N}(k:bX h)(i:fE ms):bX (na ms h):=by
 have f:=k.i;have q:bX (nN ms h):=by
  refine⟨?_,k.o⟩
  by_cases c:ms.aJ>h.co
  .have l:0<=ms.aJ/\ms.aJ<=1048576:=i.b9;have r:=aEH (g:=h.lt) (v:=ms.b4) (d:=ms.cb) (y:=ms.b0) (F:=ms.cq) (p:=ms.bn) f.e f.eC f.fK l f.li;have j:(nN ms h).e=xF h.e h.lt h.li ms.aJ ms.b4 ms.cb ms.b0 ms.cq ms.bn:=by
    show sM ms h=_;unfold sM;rw[bm c];rfl
   have bo:(nN ms h).li=xG h.e h.lt h.li ms.aJ ms.b4 ms.cb ms.b0 ms.cq ms.bn:=by
    show sO ms h=_;unfold sO;rw[bm c];rfl
   have n:(nN ms h).b9=ms.aJ:=by
    show sP ms h=_;unfold sP;rw[bm c];rfl
   have m:(nN ms h).co=ms.aJ:=by
    show HK ms h=_;unfold HK;rw[bm c];rfl
   have TA:aN (nN ms h).a_:=by
    show aN (sN ms h);unfold sN;rw[bm c];exact v7 f.u8
   exact⟨f.aM,by rw[j];exact r.1.1,by rw[j,m];exact r.1.2,by rw[m];exact l.2,by rw[bo];exact r.2.1,by rw[j,bo];exact r.2.2.1,f.ws,f.pp,by rw[bo];exact r.2.2.2,TA,by rw[n];exact i.b9,f.hY⟩
  .have e: ∀{α:Type} (a b:α),cond (decide (ms.aJ>h.co)) a b=b:=λa b=>by rw[a8 c];rfl
   refine f.iz _ ?_ ?_ f.ws
   .show(h.aM,sM ms h,HK ms h,sO ms h,h.eL,h.ef,h.ek,sP ms h,h.hX,h.q1,h.gw)=_;unfold sM HK sO sP;simp only[e]
   .show aN (sN ms h);unfold sN;rw[e];exact f.u8
 unfold na;have o:0<=ms.r/\ms.r<3:=i.kC;exact pf (λ_=>rI q o (x5 i.b9)) λ_=>ah3 k
def aiY(A:Int)(h:N)(i:h.ws.n<=3000)(j:A<=1048576): ∀(k:Nat) (a:Int) (b:I ah) (c:Int) (d:I ay) (v:Int) (s:I bI),0<=v->v<=1048576->toNat (A-v)<k->
  v<=(nO A h k a b c d v s).2.2.2.2.1/\((nO A h k a b c d v s).2.2.2.2.1=v\/(nO A h k a b c d v s).2.2.2.2.1<=A)/\(((nO A h k a b c d v s).2.2.2.2.2.n:Nat):Int)<=(s.n:Int)+3000*((nO A h k a b c d v s).2.2.2.2.1-v)
 |0,_,_,_,_,_,_,_,_,g=>absurd g (dJ _)
 |k+1,a,b,c,d,v,s,m,n,g=>by
  rw[nO]
  by_cases e:v<A
  .rw[bm e,au,E (v+1)];have o:=ajI h a b c d v s Ω;have l:=aiY A h i j k (VL h a b c d v) (VM h a b c d v) (VN h a b c d v) (VO h a b c d v) (v+1) (MM h a b c d v s).2.1 Ω Ω Ω;obtain⟨p,f,q⟩:=l;refine⟨Ω,?_,?_⟩
   .rcases f with f|f
    .exact .inr Ω
    .exact .inr f
   .omega
  .rw[a8 e,aB];refine⟨bz _,.inl rfl,?_⟩;show(s.n:Int)<=(s.n:Int)+3000*(v-v);omega
def ah4{A:Int}{h:N}{aj:I bI}(b:bX h)(m:A<=h.e+(h.li.n:Int)):bX (mC A h aj)/\((zM A h aj).n:Int)<=(aj.n:Int)+600000:=by
 have a:=b.i;have e:A<=1048576:=by have:=a.eC;omega
 have c:0<=h.co:=by have:=a.e;have:=a.il;omega
 have⟨f,g,i⟩:=aiY A h a.ws e (toNat (A-h.co)+1) h.fL h.dx h.fx h.eN h.co aj c a.co Ω;have d:nO A h (toNat (A-h.co)+1) h.fL h.dx h.fx h.eN h.co aj=Dx A h aj:=rfl;rw[d]at f g i;have l:=a.fK;have j:=a.il;have k:=a.co;refine⟨⟨⟨a.aM,a.e,?_,?_,a.fK,a.eC,a.ws,a.pp,a.li,a.u8,a.b9,a.hY⟩,b.o⟩,?_⟩
 .show h.e<=(Dx A h aj).2.2.2.2.1;omega
 .show(Dx A h aj).2.2.2.2.1<=1048576;omega
 .show(((Dx A h aj).2.2.2.2.2.n:Nat):Int)<=_;omega
def XY{h:N}{L:I ai}{aj:I bI}{an:I aw}(a:kv h): ∀(k:Nat) (v:Int),v<=h.e+(h.li.n:Int)->
  (qe h L aj an k v).1=false\/ ∃p,p<=h.e+(h.li.n:Int)/\qe h L aj an k v=(true,yg (mC p h aj) L (zM p h aj) an)
 |0,_,_=> .inl rfl
 |k+1,v,b=>by
  rw[qe]
  by_cases e:v>h.co
  .rw[bm e,au]
   cases xo h v
   .rw[aB,wrap64 (x:=v-1) (have:=a.e;have:=a.il;Ω) (have:=a.eC;Ω)];exact XY a k (v-1) Ω
   .exact .inr ⟨v,b,rfl⟩
  .rw[a8 e,aB];exact .inl rfl
def ayg{h:N}{L:I ai}{aj:I bI}{an:I aw}(a:bX h):bX (qd h L aj an)/\zN h L aj an=L/\((zP h L aj an).n:Int)<=(aj.n:Int)+600000/\zO h L aj an=an:=by
 have d:=KK h ⟨a.i.e,by have:=a.i.eC;omega⟩;have c:=XY (L:=L) (aj:=aj) (an:=an) a.i (toNat (b_ h-h.co)+1) (b_ h) d.2;have g:qe h L aj an (toNat (b_ h-h.co)+1) (b_ h)=rn h L aj an:=rfl;rw[g]at c;unfold qd zN zP zO;rw[N.cT];rcases c with e|⟨p,f,e⟩
 .rw[e];exact⟨a,rfl,by simp only[aB];omega,rfl⟩
 .rw[e];have b:=ah4 (aj:=aj) a f;exact⟨b.1,rfl,b.2,rfl⟩
def IX{ms:ai}{h:N}{L:I ai}{aj:I bI}{an:I aw} : ∀(k:Nat) (v:Int) (a:I Int) (b:Int),aN a->
  ((m9 ms h L aj an k v a b).1=false/\aN (m9 ms h L aj an k v a b).2.1)\/((m9 ms h L aj an k v a b).1=true/\(m9 ms h L aj an k v a b).2.2.2=yg h L aj an)
 |0,_,_,_,_=> .inl ⟨rfl,aaG⟩
 |k+1,v,a,b,c=>by
  rw[m9]
  cases decide (v<=i64 (cr h.e h.lt h.li ms.j ms.m ms.i+((cf h.e h.lt h.li ms.j ms.m ms.i).n:Int)))
  .exact .inl ⟨rfl,c⟩
  .simp only[au];generalize d:gu _ _=q
   cases q
   .exact .inr ⟨rfl,rfl⟩
   .exact IX k _ _ _ (v7 c)
def ahZ{ms:ai}{h:N}{L:I ai}{aj:I bI}{an:I aw}(e:bX h)(f:fE ms):bX (m8 ms h L aj an)/\HI ms h L aj an=L/\((HJ ms h L aj an).n:Int)<=(aj.n:Int)+600000/\De ms h L aj an=an:=by
 have a:=e.i;unfold m8 HI HJ De;rw[N.cT,N.cT,N.cT]
 cases j:(iP h.e h.lt h.li ms.j ms.m ms.i !=0)
 .cases g:(!(jF h.e h.lt h.li ms.j ms.m ms.i))
  .simp only[aB];have i:=bP j;have k:=Ee i g;have d:=SZ ms h i g;have b:=IX (ms:=ms) (h:=h) (L:=L) (aj:=aj) (an:=an) (toNat (i64 (cr h.e h.lt h.li ms.j ms.m ms.i+((cf h.e h.lt h.li ms.j ms.m ms.i).n:Int))+1- (dQ h.e h.lt h.li ms.j ms.m ms.i))+1) (dQ h.e h.lt h.li ms.j ms.m ms.i) h.a_ h.bp a.u8;have o:m9 ms h L aj an (toNat (i64 (cr h.e h.lt h.li ms.j ms.m ms.i+((cf h.e h.lt h.li ms.j ms.m ms.i).n:Int))+1- (dQ h.e h.lt h.li ms.j ms.m ms.i))+1) (dQ h.e h.lt h.li ms.j ms.m ms.i) h.a_ h.bp=ji ms h L aj an:=rfl;rw[o]at b
   cases c5:la ms h L aj an
   .simp only[aB];have r:(ji ms h L aj an).2.2.2=yg h L aj an:=by
     rcases b with⟨b,_⟩|⟨_,b⟩
     .unfold la zH at c5;rw[b]at c5
      cases c:decide (dQ h.e h.lt h.li ms.j ms.m ms.i>0)<;>rw[c]at c5<;>cases c5
     .exact b
    rw[r];exact⟨e,(by first|rfl|trivial),by show(aj.n:Int)<=_;omega,(by first|rfl|trivial)⟩
   .simp only[au];have t:aN (xe ms h L aj an):=by
     unfold xe
     cases c:decide (dQ h.e h.lt h.li ms.j ms.m ms.i>0)
     .exact a.u8
     .rcases b with⟨_,b⟩|⟨b,_⟩
      .exact b
      .unfold la zH at c5;rw[c,b]at c5
       cases c5
    have l:eE (lX ms h):=by
     unfold lX;exact IZ (k.2.2.2.2.2.2 a.li f.li) a.li
    have n:h.e+((lX ms h).n:Int)<=1048576:=by
     have v:=KQ (s:=lX ms h) _ _ _ rfl;have w:=k.2.2.1.1;have x:=a.eC;rw[k.1]at*
     omega
    have p:bX (rh ms h L aj an):=by
     refine⟨⟨a.aM,?_,?_,a.co,d.2.2,?_,a.ws,a.pp,l,t,a.b9,a.hY⟩,e.o⟩
     .show 0<=m_ ms h;rw[d.1];exact a.e
     .show m_ ms h<=h.co;rw[d.1];exact a.il
     .show m_ ms h+((lX ms h).n:Int)<=1048576;rw[d.1];exact n
    have u:i64 (ms.j+(ms.i.n:Int))=ms.j+(ms.i.n:Int):=wrap64 (have:=f.j1;Ω) (have:=k.2.2.2.2.2.1;Ω);have m:0<=ms.j+(ms.i.n:Int)/\ms.j+(ms.i.n:Int)<=1048576:=by have:=k.2.2.2.2.2.1;omega
    rw[u];have q:=rI (A:=ms.r) (ms:=⟨0,0,6,h.D,ms.j+(ms.i.n:Int),0,true,0,B,0,0,0,B,0,B⟩) p f.kC (x5 m);have c:=ah4 (A:=gj ms.aA (ms.j+(ms.i.n:Int))) (aj:=aj) q (by
     show gj ms.aA (ms.j+(ms.i.n:Int))<=m_ ms h+((lX ms h).n:Int);have:=qm ms.aA (ms.j+(ms.i.n:Int));rw[d.1];have:=d.2.1;omega)
    exact⟨c.1,(by first|rfl|trivial),c.2,(by first|rfl|trivial)⟩
  .simp only[aB,au];exact⟨rI e f.kC (x5 ⟨by have:=a.e;have:=a.il;omega,a.co⟩),(by first|rfl|trivial),Ω,(by first|rfl|trivial)⟩
 .simp only[au];exact⟨e,(by first|rfl|trivial),Ω,(by first|rfl|trivial)⟩
def XF{ms:ai}{h a b:N}{L:I ai}{aj:I bI}{an:I aw}(c:bX a)(d:bX b):
  bX (N.bif ms.ak (qd a L aj an) b)/\cond ms.ak (zN a L aj an) L=L/\((cond ms.ak (zP a L aj an) aj).n:Int)<=(aj.n:Int)+600000/\cond ms.ak (zO a L aj an) an=an:=by
 rw[N.cT]
 cases ms.ak
 .exact⟨d,rfl,by simp only[aB];omega,rfl⟩
 .exact ayg c
def BI{p q c:Int}(g:0<=p/\p<=1048577)(h:0<=q/\q<=1048576)(f:0<=c/\c<=1048576):(0<=imax p (i64 (c+1))/\imax p (i64 (c+1))<=1048577)/\(0<=imax q c/\imax q c<=1048576)/\(0<=i64 (imax q c+1)/\i64 (imax q c+1)<=1048577):=by
 have a:=E (c+1);have b:=Xu p (i64 (c+1));have d:=Xu q c;have e:=E (imax q c+1);omega
def ah0{ms:ai}{h:N}{L:I ai}{aj:I bI}{an:I aw}(b:bX h)(c:fE ms):bX (xf ms h L aj an)/\HL ms h L aj an=L/\((HM ms h L aj an).n:Int)<=(aj.n:Int)+600000/\Dk ms h L aj an=an:=by
 have a:=b.i;have a0:=BI a.pp.1 a.hY.1 c.j1;have aL:=BI a.pp.2.1 a.hY.2.1 c.j1;have aO:=BI a.pp.2.2 a.hY.2.2 c.j1;unfold xf HL HM Dk;generalize toNat ms.r=j
 match j with
 |0=>exact XF (ms:=ms) (h:=h) ⟨⟨a.aM,a.e,a.il,a.co,a.fK,a.eC,a.ws,⟨a0.1,a.pp.2⟩,a.li,a.u8,a.b9,⟨a0.2.1,a.hY.2⟩⟩,b.o⟩ ⟨⟨a.aM,a.e,a.il,a.co,a.fK,a.eC,a.ws,⟨a0.2.2,a.pp.2⟩,a.li,a.u8,a.b9,a.hY⟩,b.o⟩
 |1=>exact XF (ms:=ms) (h:=h) ⟨⟨a.aM,a.e,a.il,a.co,a.fK,a.eC,a.ws,⟨a.pp.1,aL.1,a.pp.2.2⟩,a.li,a.u8,a.b9,⟨a.hY.1,aL.2.1,a.hY.2.2⟩⟩,b.o⟩ ⟨⟨a.aM,a.e,a.il,a.co,a.fK,a.eC,a.ws,⟨a.pp.1,aL.2.2,a.pp.2.2⟩,a.li,a.u8,a.b9,a.hY⟩,b.o⟩
 |j+2=>exact XF (ms:=ms) (h:=h) ⟨⟨a.aM,a.e,a.il,a.co,a.fK,a.eC,a.ws,⟨a.pp.1,a.pp.2.1,aO.1⟩,a.li,a.u8,a.b9,⟨a.hY.1,a.hY.2.1,aO.2.1⟩⟩,b.o⟩ ⟨⟨a.aM,a.e,a.il,a.co,a.fK,a.eC,a.ws,⟨a.pp.1,a.pp.2.1,aO.2.2⟩,a.li,a.u8,a.b9,a.hY⟩,b.o⟩
def ahY{it:ax}{h:N}(g:bX h)(m:mg it):bX (ki it h):=by
 have a:=g.i;have i:aN (HD it h):=by
  unfold HD
  cases (iP h.e h.lt h.li (b_ h) (hr h) (I.lit ([it]:List ax))!=0)<;>cases (!(jF h.e h.lt h.li (b_ h) (hr h) (I.lit ([it]:List ax))))<;>cases (dQ h.e h.lt h.li (b_ h) (hr h) (I.lit ([it]:List ax))==0)<;>first|exact a.u8|exact v7 a.u8
 cases e:uV it h
 .have d:(iP h.e h.lt h.li (b_ h) (hr h) (I.lit ([it]:List ax))!=0)=false:=by
   unfold uV at e
   cases d:(iP h.e h.lt h.li (b_ h) (hr h) (I.lit ([it]:List ax))!=0)
   .rfl
   .rw[d]at e;cases e
  have f:(!(jF h.e h.lt h.li (b_ h) (hr h) (I.lit ([it]:List ax))))=false:=by
   unfold uV at e;rw[d]at e
   cases f:(!(jF h.e h.lt h.li (b_ h) (hr h) (I.lit ([it]:List ax))))
   .rfl
   .rw[f]at e;cases e
  have k:=Ee (bP d) f;have l:eE (I.lit ([it]:List ax)):=λj=>by
   show mg (([it]:List ax).getD j default)
   cases j with
   |zero=>exact m
   |succ j=>exact ahW
  have b:(ki it h).e=h.e:=by
   show C_ it h=_;unfold C_;rw[e];exact k.1
  have c:(ki it h).li=cf h.e h.lt h.li (b_ h) (hr h) (I.lit ([it]:List ax)):=by
   show Da it h=_;unfold Da;rw[e];rfl
  exact⟨⟨a.aM,by rw[b];exact a.e,by rw[b];exact a.il,a.co,by rw[c];exact k.2.2.1.2,by rw[b,c];have:=k.2.2.1.1;omega,a.ws,a.pp,by rw[c];exact k.2.2.2.2.2.2 a.li l,i,a.b9,a.hY⟩,g.o⟩
 .have b:(ki it h).e=h.e:=by
   show C_ it h=_;unfold C_;rw[e];rfl
  have c:(ki it h).li=h.li:=by
   show Da it h=_;unfold Da;rw[e];rfl
  exact⟨⟨a.aM,by rw[b];exact a.e,by rw[b];exact a.il,a.co,by rw[c];exact a.fK,by rw[b,c];exact a.eC,a.ws,a.pp,by rw[c];exact a.li,i,a.b9,a.hY⟩,g.o⟩
def amw:(0:Int)<=0/\(0:Int)<=1048576:=by decide
def Wf{to p:Int}{h:N}(d:bX h)(a:N)(e:0<=to/\to<3)(f:0<=p/\p<=1048577)(b:kv a):
  gq (cond (decide (i64 (p-1)<a.e)) (dn to ⟨0,0,7,a.D,0,0,false,0,B,a.b9,a.g9,a.hE,a.fU,a.dW,a.fT⟩ h).a1 (dn to ⟨0,0,5,a.D,i64 (p-1),jX a.e a.lt a.li (i64 (p-1)),false,a.co,sY a.e a.lt a.li (i64 (p-1)) 8,0,0,0,B,0,B⟩ h).a1):=by
 by_cases c:i64 (p-1)<a.e
 .rw[bm c];exact(rI d e ⟨amw,b.b9,nk⟩).o
 .rw[a8 c];have g:=E (p-1);refine(rI d e ⟨?_,amw,?_⟩).o
  .show 0<=i64 (p-1)/\i64 (p-1)<=1048576;have:=b.e;omega
  .show eE (sY a.e a.lt a.li (i64 (p-1)) 8);unfold sY;exact IZ nk (IZ nk (IZ nk (AF (AF b.li _ _) _ _)))
def ah2{h:N}(b:bX h):bX (ri h):=by
 have a:=b.i;have c:bX (p9 h):=by
  refine⟨a.iz _ Ξ (Eq.mp Ξ a.u8) (Eq.mp Ξ a.ws),?_⟩;show gq (Dp h);unfold Dp
  cases (0==h.aM)
  .exact Wf (to:=0) (p:=h.eL) b h Δ a.pp.1 a
  .exact b.o
 have d:bX (rj h):=by
  refine⟨a.iz _ Ξ (Eq.mp Ξ a.u8) (Eq.mp Ξ a.ws),?_⟩;show gq (Dq h);unfold Dq
  cases (1==h.aM)
  .exact Wf (to:=1) (p:=h.ef) c h Δ a.pp.2.1 a
  .exact c.o
 refine⟨a.iz _ Ξ (Eq.mp Ξ a.u8) (Eq.mp Ξ a.ws),?_⟩;show gq (HP h);unfold HP
 cases (2==h.aM)
 .exact Wf (to:=2) (p:=h.ek) d h Δ a.pp.2.2 a
 .exact d.o
def ayb{h:N}(c:bX h):bX (zG h):=by
 have a:=c.i;have g:=S0 a;have i:=E (b_ h+1);have b:0<=i64 (b_ h+1)/\i64 (b_ h+1)<=1048577:=by omega
 have z:(0:Int)<=0/\(0:Int)<=1048576:=by decide
 have d:bX (o2 h):=⟨⟨a.aM,a.e,a.il,a.co,a.fK,a.eC,a.ws,⟨b,b,b⟩,a.li,a.u8,a.b9,⟨z,z,z⟩⟩,c.o⟩;have e:=ahY (it:=(⟨h.D,jh (o2 h),true,0,0,0,ε,ε,ε,0⟩:ax)) d ⟨cd _,cd _,cd _⟩;have f:=ah2 e;exact f
section
variable(i:Nat)(ac:aK)(C:aq)(h:N)
def aug(L:I ai):Int:=cond (decide ((L.n:Int)>0)) (ac.G.tmod (L.n:Int)) (-1)
def MB:N:=sF (⟨ac.q,ac.j,ac.m,ac.ak,ac.aA,ac.i,ac.aJ⟩:lx) h
def Vw(aj:I bI):I bI:=C8 (⟨ac.q,ac.j,ac.m,ac.ak,ac.aA,ac.i,ac.aJ⟩:lx) h aj
def Q1:dv:=⟨[.p 0,.g [a,a,a,a,a,a,ar,ar,ar,a]],cn,fp,e9,λ(b c d e f g:Int) h j k (l:Int)=>cW λC=>⟨⟨some (fA C (⟨b,c,d,e,f,g,h,j,k,l⟩:aK)),[],cx [10,13,11,14,12,15,16,8,9] 7 (C.put i (MB (⟨b,c,d,e,f,g,h,j,k,l⟩:aK) (C.h i)) C.s (Vw (⟨b,c,d,e,f,g,h,j,k,l⟩:aK) (C.h i) C.told) C.aU)⟩⟩⟩
def abp:c2:=⟨.ff true [.b 10] [.own (.h 0 99) cR 16,.own (.h 0 29) dF 10,.own (.h 0 62) dF 11,.own (.h 0 95) dF 12,.own (.h 0 32) cR 13,.own (.h 0 65) cR 14,.own (.h 0 98) cR 15] (Be i [10,13,11,14,12,15,16,8,9] 7 [] 0 C) (AE i [10,13,11,14,12,15,16,8,9]),[],[]++yO i [10,13,11,14,12,15,16,8,9],⟨[],[]⟩⟩
def avk:cz (abp i C).ck:=.ae (.ae (.ae (.j ⟨57,[],[(.t 5,a)],[],.f⟩ .z (.b5 ⟨([.ptr 0 0,U,U,.ptr 10 0,Ρ i 0,c (aug ac C.s)]++us 135 ([])),cA aS 1 C [(10,[c 1,c (i:Int),c ac.G,c ac.q,c ac.j,c ac.m,.str ac.ak,.str ac.aA,.str ac.i,c ac.aJ])]⟩ (.ae (.ae (.c true .z)))))))
def YV(i:Nat)(ac:aK)(C:aq):Prop:=((decide ((C.s.n:Int)>0)=true->(C.s.n:Int)≠0)/\C.told.n<=549000000000/\ac.ak.size<=10000000000/\ac.aA.size<=10000000000/\ac.i.size<=10000000000/\(C.h i).ws.n<=549000000000)
theorem aC9(i:Nat)(e:i<3)(ac:aK)(C:aq)(d:fa C)(f:ac.ak.size<=549755813888)(g:ac.aA.size<=549755813888)(h:ac.i.size<=549755813888)(a:fA C ac):YV i ac C:=by
 have c:=hB d i e;unfold gz at c;unfold YV;exact have:=pL a i;have:=(pL a i).e;have:=(pL a i).ws;have:=qT a;have:=a.2.A8;have:=a.2.A9;have:=a.2.A_;have:=a.2.ln;(⟨λb=>have:=al b;Ω,Ω⟩)
theorem XU(i:Nat)(a:i<3)(ac:aK)(e:ac.ak.size<=549755813888)(f:ac.aA.size<=549755813888)(g:ac.i.size<=549755813888)(C:aq)(b:fa C)(d:fA C ac):gn Tryz.prog 19 ((Q1 i).args ([c 1,c (i:Int),c ac.G,c ac.q,c ac.j,c ac.m,.str ac.ak,.str ac.aA,.str ac.i,c ac.aJ]++jd C)) ((Q1 i).dq (([c 1,c (i:Int),c ac.G,c ac.q,c ac.j,c ac.m,.str ac.ak,.str ac.aA,.str ac.i,c ac.aJ]++jd C).drop (Q1 i).ej)) [] (cx [10,13,11,14,12,15,16,8,9] 7 (C.put i (MB ac (C.h i)) C.s (Vw ac (C.h i) C.told) C.aU)):=by
 refine eX (abp i C) (avk i ac C) (YV i ac C) (bZ 10 ba (az (azZ i a) bY)) Tryz.func19 [] ?_ ?_ (aC9 i a ac C b e f g d)
 .exact Υ
 .exact Υ
end
section
variable(q:Int)(i:Nat)(ac:aK)(C:aq)(h:N)(L:I ai)
def aut:Int:=cond (decide ((L.n:Int)>0)) (ac.G.tmod (L.n:Int)) (-1)
def k8:N:=N.bif h.up (p7 (⟨q,(i:Int),ac.G,ac.q,ac.j,ac.m,ac.ak,ac.aA,ac.i,ac.aJ⟩:aK) h) h
def jB:I ai:=cond h.up (sG (⟨q,(i:Int),ac.G,ac.q,ac.j,ac.m,ac.ak,ac.aA,ac.i,ac.aJ⟩:aK) h L) L
def Q8:dv:=⟨[.p 0,.g [a,a,a,a,a,a,ar,ar,ar,a]],cn,fp,e9,λ(b c d e f g:Int) h j k (l:Int)=>cW λC=>⟨⟨some (fA C (⟨b,c,d,e,f,g,h,j,k,l⟩:aK)),[],cx [10,13,11,14,12,15,16,8,9] 7 (C.put i (k8 q i (⟨b,c,d,e,f,g,h,j,k,l⟩:aK) (C.h i)) (jB q i (⟨b,c,d,e,f,g,h,j,k,l⟩:aK) (C.h i) C.s) C.told C.aU)⟩⟩⟩
def abx:c2:=⟨.ff true [.b 10] [.own (.h 0 99) cR 16,.own (.h 0 29) dF 10,.own (.h 0 62) dF 11,.own (.h 0 95) dF 12,.own (.h 0 32) cR 13,.own (.h 0 65) cR 14,.own (.h 0 98) cR 15] (Be i [10,13,11,14,12,15,16,8,9] 7 [] 0 C) (AE i [10,13,11,14,12,15,16,8,9]),[],[]++yO i [10,13,11,14,12,15,16,8,9],⟨[],[]⟩⟩
def avr:cz (abx i C).ck:=.ae (.ae (.ae (.j ⟨57,[],[(.t 5,a)],[],.f⟩ .z (.b5 ⟨([.ptr 0 0,U,U,.ptr 10 0,Ρ i 0,c (aut ac C.s)]++us 135 ([])),cA aS 1 C [(10,[c q,c (i:Int),c ac.G,c ac.q,c ac.j,c ac.m,.str ac.ak,.str ac.aA,.str ac.i,c ac.aJ])]⟩ (.ae (.ae (.c false (.ae (.c false (.ae (.c false (.s (.ae (.c false .z)) (.c false (.ae (.c false (.ae (.c false .z)))))))))))))))))
def Y5(i:Nat)(ac:aK)(C:aq):Prop:=((decide ((C.s.n:Int)>0)=true->(C.s.n:Int)≠0)/\((C.h i).up=true->kv (C.h i)))
theorem aDf(i:Nat)(e:i<3)(ac:aK)(C:aq)(d:fa C)(g:ac.ak.size<=549755813888)(h:ac.aA.size<=549755813888)(j:ac.i.size<=549755813888)(a:fA C ac):Y5 i ac C:=by
 have c:=hB d i e;unfold gz at c;unfold Y5;exact have:=pL a i;have:=(pL a i).e;have:=(pL a i).ws;have:=qT a;have:=a.2.A8;have:=a.2.A9;have:=a.2.A_;have:=a.2.ln;(⟨λb=>have:=al b;Ω,λf=>Ψ⟩)
theorem nh(q:Int)(b:q=2\/q=3\/q=4\/q=9\/q=11)(i:Nat)(a:i<3)(ac:aK)(f:ac.ak.size<=549755813888)(g:ac.aA.size<=549755813888)(h:ac.i.size<=549755813888)(C:aq)(d:fa C)(e:fA C ac):gn Tryz.prog 19 ((Q8 q i).args ([c q,c (i:Int),c ac.G,c ac.q,c ac.j,c ac.m,.str ac.ak,.str ac.aA,.str ac.i,c ac.aJ]++jd C)) ((Q8 q i).dq (([c q,c (i:Int),c ac.G,c ac.q,c ac.j,c ac.m,.str ac.ak,.str ac.aA,.str ac.i,c ac.aJ]++jd C).drop (Q8 q i).ej)) [] (cx [10,13,11,14,12,15,16,8,9] 7 (C.put i (k8 q i ac (C.h i)) (jB q i ac (C.h i) C.s) C.told C.aU)):=by
 refine eX (abx i C) (avr q i ac C) (Y5 i ac C) (bZ 10 ba (az (az0 i a) bY)) Tryz.func19 (List.replicate 34 .f++[.l,.l]) ?_ ?_ (aDf i a ac C d f g h e)
 .rcases ca a with rfl|rfl|rfl<;>rcases b with rfl|rfl|rfl|rfl|rfl<;>kernel_rfl
 .rcases ca a with rfl|rfl|rfl<;>rcases b with rfl|rfl|rfl|rfl|rfl<;>kernel_rfl
end
def ft{α:Type}{P:α->Prop}{c:Bool}{a b:α}(d:P a)(e:P b):P (cond c a b):=by
 cases c
 .exact e
 .exact d
def aBJ{x:ax}(h:mg x):eE (I.lit [x]):=λj=>by
 show mg (([x]:List ax).getD j default)
 match j with
 |0=>exact h
 |j+1=>exact nk 0
def aBK{A:I bB}{c g b t:Int}{s:I ax}(i:mP b t s)(h:eE s)(a:(qZ A c b t s)=true):eE (wO A c g b t s):=by
 unfold qZ at a;unfold wO;generalize A.at' c.toNat=E at*
 cases f:(fJ E.r E.K E.G E.q E.j E.m E.ak E.aA E.i E.aJ E.b4 E.cb E.b0 E.cq E.bn E.c9 E.fc E.eH E.fe E.eI !=0)with
 |true=>rw[f]at a;cases a
 |false=>
  have l:=ZK (bP f)
  cases m:(E.r==1)
  .simp only[aB]
   cases d:(E.r==2)
   .simp only[aB]
    cases bo:(E.r==3)
    .exact h
    .simp only[au]
     cases decide (E.bn>g)
     .exact h
     .simp only[au];have bo:=eq_of_beq bo;have r:(1<=E.bn/\E.bn<=1048576)/\(1<=E.c9/\E.c9<=1048576):=by omega
      have k:=fF _ _ _ i;unfold pZ
      cases p0 b t s E.bn E.c9
      .exact nk
      .exact(ZD k.1.1 k.2.2.2 k.2.2.1 ⟨Ω,r.1.2⟩ h).2.2.2
   .simp only[au];have d:=eq_of_beq d;have j:fX E.j E.m E.ak E.aA E.i E.aJ E.b4 E.cb E.b0 E.cq=0:=by
     rcases l with⟨e,_⟩|⟨_,_,q⟩|⟨e,_⟩
     .omega
     .exact q
     .omega
    unfold y_;refine ft (P:=eE) h (ft (P:=eE) h ?_);exact ft (P:=eE) h (ajc (AF h _ _) (aBJ (aFw j)))
  .exact h
def pz(a b t:Int)(s:I ax):Prop:=RF a b/\mP b t s/\eE s
abbrev apK:=Bool×Int×Int×Int×Int×Int×I ah×Int×I ay×Int×Int×I ax×Int×Int×Int×Int×Int×I ah×Int×I ay×Int×Int×I ax×Int
def abh(r:apK):Prop:=(r.1=true/\r.2.2.2.2.2.2.2.2.2.2.2.2.2.2.1=0/\r.2.2.2.2.2.2.2.2.2.2.2.2.2.2.2.2.2.2.2.2.1=0/\r.2.2.2.2.2.2.2.2.2.2.2.2.2.2.2.2.2.2.2.2.2.2.1=B)\/(r.1=false/\pz r.2.2.2.1 r.2.2.2.2.2.2.2.2.2.1 r.2.2.2.2.2.2.2.2.2.2.1 r.2.2.2.2.2.2.2.2.2.2.2.1)
def ad5{A:I bB}(r:A.n<=549755813888): ∀(m c:Nat) (a f g d i j:Int) (es:I ah) (k:Int) (cs:I ay) (b t:Int) (s:I ax),0<=a->a+(m:Int)=(A.n:Int)->m<=c->pz d b t s->abh (uA A (c+1) a f g d i j es k cs b t s)
 |0,c,a,f,g,d,i,j,es,k,cs,b,t,s,n,p,o,h=>by
  rw[uA,a8 (show¬a<(A.n:Int) by omega)];exact .inr ⟨rfl,h⟩
 |m+1,c,a,f,g,d,i,j,es,k,cs,b,t,s,n,p,o,h=>by
  obtain⟨c,rfl⟩: ∃q,c=q+1:=⟨c-1,Ω⟩;rw[uA,bm (show a<(A.n:Int) by omega)];simp only[au]
  cases e:qZ A a b t s with
  |false=>
   simp only[aB];refine .inl ?_;generalize (fJ _ _ _ _ _ _ _ _ _ _ _ _ _ _ _ _ _ _ _ _ !=0)=l
   cases l<;>exact⟨rfl,rfl,rfl,rfl⟩
  |true=>
   simp only[au];rw[E _];exact ad5 r m c (a+1) _ _ _ _ _ _ _ _ _ _ _ Ω Ω Ω ⟨as4 h.1 e,s8 h.2.1 e,aBK h.2.1 h.2.2 e⟩
def atp{A:I bB}(h:A.n<=549755813888):(qY A=oD A/\0<=oD A/\oD A<=1048576)/\(sv A).n<=200/\qY A+((sv A).n:Int)<=1048576/\eE (sv A):=by
 have:=ad5 h A.n (toNat ((A.n:Int)-0)) 0 HR HS zR HT xp xq xr xt zS zT zQ (bz _) Ω Ω ⟨⟨rfl,Δ,Δ⟩,s7,nk⟩;have:abh (fu A):=this;unfold qY oD sv mn;rcases this with⟨e,b,c,a⟩|⟨e,d,f,g⟩
 .rw[e];simp only[au,aB];rw[b,c,a];exact⟨⟨rfl,Δ,Δ⟩,cd _,Δ,nk⟩
 .rw[e];simp only[au,aB];have k:=fF _ _ _ f;exact⟨d,k.2.2.1,k.2.2.2,g⟩
def aiT(A:I Int)(g:Int): ∀(k:Nat) (v:Int) (s:I bB),(oC A g k v s).2.n<=s.n+k
 |0,_,_=>cd _
 |k+1,v,s=>by
  rw[oC];have b:(v,s).2.n<=s.n+(k+1):=r5 _ _;refine ft (P:=λr:Int×I bB=>r.2.n<=s.n+(k+1)) (ft (P:=λr:Int×I bB=>r.2.n<=s.n+(k+1)) b (ft (P:=λr:Int×I bB=>r.2.n<=s.n+(k+1)) b ?_)) b;refine ec (aiT A g k _ _) ?_;show s.n+1+k<=s.n+(k+1);omega
def aCr{A:I Int}{g:Int} :(wN A g).n<=549755813888:=by
 unfold wN
 cases e:h9 A g
 .exact cd _
 .have h:=aiT A g (toNat (((bL A g).n:Int)-0)+1) 0 B;have a:=(s9 A g e).2;have z:(B:I bB).n=0:=rfl;show(nG A g).2.n<=_;unfold nG;omega
def aGG{A:I Int}{g:Int}(h:aN A):aN (y5 A g):=by
 unfold y5
 cases h9 A g
 .exact JU
 .exact mK (l9 h)
def aye{A:Int}{h:N}(d:bX h):bX (gS A h):=by
 have b:=d.i;have k:=atp (A:=wN (rq h.a_ h.bp A) (xv h.a_ h.bp A)) aCr;obtain⟨⟨m,f,c⟩,g,i,l⟩:=k;have z:(0:Int)<=0/\(0:Int)<=1048577:=by decide
 have a:(0:Int)<=0/\(0:Int)<=1048576:=by decide
 exact⟨⟨b.aM,by show 0<=qY _;omega,by show qY _<=oD _;omega,c,g,i,cd _,⟨z,z,z⟩,l,aGG (QA b.u8),⟨f,c⟩,⟨a,a,a⟩⟩,⟨cd _,λj e=>absurd e (dJ j)⟩⟩
def aGM{A:I Int}{g:Int}(h:aN A):aN (Dy A g):=by
 unfold Dy
 cases (!(h9 A g))
 .exact l9 h
 .exact JU
def YP:gq (B:I ai):=⟨cd _,λ_ h=>absurd h (dJ _)⟩
def ayd{h:N}(a:bX h):bX (lb h):=⟨a.i.iz _ Ξ (aGM a.i.u8) a.i.ws,YP⟩
def aka{s:I ai}{x:ai}(h:gq s)(f:s.n<300)(b:fE x):gq (I.app s (I.lit [x])):=by
 refine⟨?_,λj a=> ?_⟩
 .show s.n+1<=300;omega
 .show fE (cond (Nat.blt j s.n) (s.at' j) (([x]:List ai).getD (j-s.n) default))
  cases e:Nat.blt j s.n with
  |true=>exact h.2 j (by rw[jL]at e;exact e)
  |false=>
   have d:j<s.n+1:=a;have: ¬j<s.n:=λhh=>by
    rw[show Nat.blt j s.n=true by rw[jL];exact hh]at e
    cases e
   have c:j-s.n=0:=by omega
   rw[c];exact b
def aiX{h:N}(a:gq h.a1): ∀(k:Nat) (v:Int) (s:I ai),0<=v->v<=h.a1.n->toNat ((h.a1.n:Int)-v)<k->gq s->gq (mB h k v s)
 |0,_,_,_,_,d,_=>absurd d (dJ _)
 |k+1,v,s,f,g,d,b=>by
  have i:=a.1;rw[mB]
  by_cases e:v<(h.a1.n:Int)
  .rw[bm e,au,E (v+1)];refine aiX a k (v+1) _ Ω Ω Ω ?_;unfold zJ
   by_cases c:(s.n:Int)<300
   .rw[bm c];exact aka b Ω (a.2 _ Ω)
   .rw[a8 c];exact b
  .rw[a8 e,aB];exact b
def aqa{h:N}{L:I ai}(a:bX h)(b:gq L):gq (sQ h L):=
 aiX a.o _ 0 L (bz _) Ω Ω b
def ayf{h:N}(b:bX h):bX (o3 h):=by
 have a:=b.i;have r:=ZD (g:=h.lt) a.e a.eC a.fK ⟨by have:=a.e;have:=a.il;omega,a.co⟩ a.li;have c:bX (Dr h):=⟨⟨a.aM,r.1.1,r.1.2,a.co,r.2.1,r.2.2.1,a.ws,a.pp,r.2.2.2,v7 a.u8,⟨by have:=a.e;have:=a.il;show 0<=h.co;omega,a.co⟩,a.hY⟩,b.o⟩;unfold o3;exact pf (λ_=>b) λ_=>pf (λ_=>c) λ_=>ah3 b
def ax7{aT:lx}{h:N}(c:bX h)(j:h.ws.n<3000)(f:aT.q.size<=10000000000)(g:aT.j.size<=10000000000)(i:aT.m.size<=10000000000):bX (sF aT h)/\(sF aT h).ws.n<=h.ws.n+1:=by
 have d:=ahY (it:=(⟨h.D,jh h,false,aT.r,aT.K,aT.G,aT.q,aT.j,aT.m,aT.ak⟩:ax)) c ⟨f,g,i⟩;have a:=d.i;have e:bX (agd aT h):=⟨⟨a.aM,a.e,a.il,a.co,a.fK,a.eC,by show h.ws.n+1<=3000;omega,a.pp,a.li,a.u8,a.b9,a.hY⟩,d.o⟩;unfold sF;simp only[N.cT]
 cases (!h.up)<;>simp only[aB,au]
 .cases (h.ro !=3)<;>simp only[aB,au]
  .generalize (!(sJ (⟨h.D,jh h,false,aT.r,aT.K,aT.G,aT.q,aT.j,aT.m,aT.ak⟩:ax) h))=b
   cases b<;>simp only[aB,au]
   .exact⟨e,bH _⟩
   .exact⟨d,Nat.le_succ _⟩
  .exact⟨c,Nat.le_succ _⟩
 .exact⟨c,Nat.le_succ _⟩
def aGj{aT:lx}{h:N}{aj:I bI} :(C8 aT h aj).n<=aj.n+1:=by
 unfold C8;generalize (!(sJ (⟨h.D,jh h,false,aT.r,aT.K,aT.G,aT.q,aT.j,aT.m,aT.ak⟩:ax) h))=b
 cases (!h.up)<;>cases (h.ro !=3)<;>cases b<;>first|exact bH _|exact Nat.le_succ _
def v_{c:Bool}{a b:N}{s:I hz}(d:a.ws=s)(e:b.ws=s):(N.bif c a b).ws=s:=by
 rw[N.cT]
 cases c
 .exact e
 .exact d
def aG3(n:N):(kH n).ws=n.ws:=by
 unfold kH;exact v_ Ξ Ξ
def aG5(ms:ai)(n:N):(m7 ms n).ws=n.ws:=by
 unfold m7;exact v_ Ξ Ξ
def aG9(ms:ai)(n:N):(na ms n).ws=n.ws:=by
 unfold na;exact v_ Ξ Ξ
def aG6(n:N):(zG n).ws=n.ws:=by kernel_rfl
def aG2(ms:ai)(n:N):(rf ms n).ws=n.ws:=by kernel_rfl
def aG4(x:Int)(n:N):(lW x n).ws=n.ws:=by kernel_rfl
def aG1(x y:Int)(n:N):(dt x y n).ws=n.ws:=by kernel_rfl
def aG7(n:N):(k_ n).ws.n<=n.ws.n:=by
 show(cond (n.ro==2) (B:I hz) n.ws).n<=n.ws.n
 cases (n.ro==2)
 .exact bH _
 .exact cd _
def aaN{h:N}{L:I ai}{aj:I bI}{an:I aw}(a:kv h):(qd h L aj an).ws=h.ws:=by
 have c:=KK h ⟨a.e,by have:=a.eC;omega⟩;have b:=XY (L:=L) (aj:=aj) (an:=an) a (toNat (b_ h-h.co)+1) (b_ h) c.2;have d:qe h L aj an (toNat (b_ h-h.co)+1) (b_ h)=rn h L aj an:=rfl;rw[d]at b;unfold qd;rw[N.cT];rcases b with e|⟨p,f,e⟩
 .rw[e];rfl
 .rw[e];rfl
def aG_{ms:ai}{h:N}{L:I ai}{aj:I bI}{an:I aw}(c:bX h)(b:fE ms):(xf ms h L aj an).ws=h.ws:=by
 have a:=c.i;have a0:=BI a.pp.1 a.hY.1 b.j1;have aL:=BI a.pp.2.1 a.hY.2.1 b.j1;have aO:=BI a.pp.2.2 a.hY.2.2 b.j1;unfold xf;generalize toNat ms.r=j
 match j with
 |0=>exact v_ (aaN ⟨a.aM,a.e,a.il,a.co,a.fK,a.eC,a.ws,⟨a0.1,a.pp.2⟩,a.li,a.u8,a.b9,⟨a0.2.1,a.hY.2⟩⟩) rfl
 |1=>exact v_ (aaN ⟨a.aM,a.e,a.il,a.co,a.fK,a.eC,a.ws,⟨a.pp.1,aL.1,a.pp.2.2⟩,a.li,a.u8,a.b9,⟨a.hY.1,aL.2.1,a.hY.2.2⟩⟩) rfl
 |j+2=>exact v_ (aaN ⟨a.aM,a.e,a.il,a.co,a.fK,a.eC,a.ws,⟨a.pp.1,a.pp.2.1,aO.1⟩,a.li,a.u8,a.b9,⟨a.hY.1,a.hY.2.1,aO.2.1⟩⟩) rfl
def aG8{ms:ai}{h:N}{L:I ai}{aj:I bI}{an:I aw}(b:bX h):(m8 ms h L aj an).ws=h.ws:=by
 have a:=IX (ms:=ms) (h:=h) (L:=L) (aj:=aj) (an:=an) (toNat (i64 (cr h.e h.lt h.li ms.j ms.m ms.i+((cf h.e h.lt h.li ms.j ms.m ms.i).n:Int))+1- (dQ h.e h.lt h.li ms.j ms.m ms.i))+1) (dQ h.e h.lt h.li ms.j ms.m ms.i) h.a_ h.bp b.i.u8;have d:m9 ms h L aj an (toNat (i64 (cr h.e h.lt h.li ms.j ms.m ms.i+((cf h.e h.lt h.li ms.j ms.m ms.i).n:Int))+1- (dQ h.e h.lt h.li ms.j ms.m ms.i))+1) (dQ h.e h.lt h.li ms.j ms.m ms.i) h.a_ h.bp=ji ms h L aj an:=rfl;rw[d]at a;unfold m8;refine v_ rfl (v_ Ξ ?_)
 cases c5:la ms h L aj an
 .refine(show(I_ (ji ms h L aj an).2.2.2).ws=h.ws from ?_);have e:(ji ms h L aj an).2.2.2=yg h L aj an:=by
   rcases a with⟨a,_⟩|⟨_,a⟩
   .unfold la zH at c5;rw[a]at c5
    cases c:decide (dQ h.e h.lt h.li ms.j ms.m ms.i>0)<;>rw[c]at c5<;>cases c5
   .exact a
  rw[e];rfl
 .kernel_rfl
