import Derived.Test.YtcpfnfkibnjcfaaGreatDoorXg
open Go.IntKind (i64 u64 u8)
open Int (toNat)
set_option maxRecDepth 100000
set_option maxHeartbeats 4000000
set_option linter.all false
noncomputable section
namespace Go.Proofs.YtcpfnfkibnjcfaaGreatDoor
open Go Go.RowKit Go.ag
section
variable(i:Nat)(A:Int)(ms:ai)(h:N)
def xn:I ai:=cond (decide ((h.a1.n:Int)<300)) (I.app h.a1 (I.lit ([(⟨h.aM,A,ms.G,ms.q,ms.j,ms.m,ms.ak,ms.aA,ms.i,ms.aJ,ms.b4,ms.cb,ms.b0,ms.cq,ms.bn⟩:ai)]:List ai))) h.a1
def dn:N:={h with a1:=(xn A ms h)}
def RC:dv:=⟨[.fZ 0 (33*i),.v a,.g [a,a,a,a,a,a,l,a,.ab dT,a,a,a,.ab bx,a,.ab b8]],cn,fp,e9,λ(A b j k m n o:Int) p (q:Int) r (c d e:Int) f (g:Int) h=>cW λC=>⟨⟨none,[],cx aS 0 (C.set i (dn A (⟨b,j,k,m,n,o,p,q,r,c,d,e,f,g,h⟩:ai) (C.h i)))⟩⟩⟩
def ap0:c2:=⟨.ff true [] [] (g8 i aS 0 [] 0) (g7 i aS),[],[]++gA i aS,⟨[],[]⟩⟩
def akl(i:Nat)(C:aq):Prop:=(decide ((((C.h i).a1.n:Nat):Int)<300)=true->(C.h i).a1.n+1<=549755813888)
theorem aDw(i:Nat)(d:i<3)(C:aq)(c:fa C):akl i C:=by
 have b:=hB c i d;unfold gz at b;exact(λa=>have:=al a;Ω)
theorem aBc(i:Nat)(a:i<3)(A:Int)(ms:ai):fB Tryz.prog 75 (RC i) cn [] (cW λC=>⟨⟨none,[],cx aS 0 (C.set i (dn A ms (C.h i)))⟩⟩) [c A,c ms.r,c ms.K,c ms.G,c ms.q,c ms.j,c ms.m,.bool ms.ak,c ms.aA,aV 10 eJ ms.i,c ms.aJ,c ms.b4,c ms.cb,aV 8 ho ms.b0,c ms.cq,aV 7 hP ms.bn]:=by
 refine g6 λC b=>eX (ap0 i) .z (akl i C) (bZ 10 ba bY) Tryz.func75 (List.replicate 94 .l++[.f]++List.replicate 7 .l) ?_ ?_ (aDw i a C b)
 .exact Υ
 .exact Υ
theorem aEj(i:Nat)(b:i<3):gW 75 (RC i):=
 kt (bF:=[a,a,a,a,a,a,a,l,a,.ab dT,a,a,a,.ab bx,a,.ab b8]) λs c=>Eq.mp Υ (aBc i b s.1 ⟨s.2.1,s.2.2.1,s.2.2.2.1,s.2.2.2.2.1,s.2.2.2.2.2.1,s.2.2.2.2.2.2.1,s.2.2.2.2.2.2.2.1,s.2.2.2.2.2.2.2.2.1,s.2.2.2.2.2.2.2.2.2.1,s.2.2.2.2.2.2.2.2.2.2.1,s.2.2.2.2.2.2.2.2.2.2.2.1,s.2.2.2.2.2.2.2.2.2.2.2.2.1,s.2.2.2.2.2.2.2.2.2.2.2.2.2.1,s.2.2.2.2.2.2.2.2.2.2.2.2.2.2.1,s.2.2.2.2.2.2.2.2.2.2.2.2.2.2.2.1⟩)
theorem Ay(i:Nat)(a:i<3):gX 75 (RC i):=hi g4 Tryz.func75 (aEj i a)
end
section
variable(i:Nat)(C:aq)(h:N)
def MH:N:={h with ro:=0,ws:=(B:I hz)}
def Rh:dv:=⟨[.fZ 0 (33*i)],cn,fp,e9,cW λC=>⟨⟨none,[],cx (aS.set (2*i) 10) 1 (C.set i (MH (C.h i)))⟩⟩⟩
def apV:c2:=⟨.ff true [] [.kill (2*i+1),.own (.h 0 (33*i+29)) dF 10] (g8 i (aS.set (2*i) 10) 1 [] 0) (g7 i (aS.set (2*i) 10)),[],[]++gA i (aS.set (2*i) 10),⟨[],[]⟩⟩
theorem aAV(i:Nat)(a:i<3):fB Tryz.prog 46 (Rh i) cn [] (cW λC=>⟨⟨none,[],cx (aS.set (2*i) 10) 1 (C.set i (MH (C.h i)))⟩⟩) []:=by
 refine g6 λC b=>eX (apV i) .z True (bZ 10 ba bY) Tryz.func46 [] ?_ ?_ trivial
 .exact Υ
 .exact Υ
theorem aD2(i:Nat)(a:i<3):gW 46 (Rh i):=
 aAV i a
theorem tj(i:Nat)(a:i<3):gX 46 (Rh i):=hi g4 Tryz.func46 (aD2 i a)
def lW(A:Int)(h:N):N:={h with a1:=(dn A (⟨0,0,8,h.D,0,0,false,0,(B:I ax),0,0,0,(B:I ah),0,(B:I ay)⟩:ai) h).a1}
def Rl:dv:=⟨[.fZ 0 (33*i),.v a],cn,fp,e9,λ(A:Int)=>cW λC=>⟨⟨none,[],cx aS 0 (C.set i (lW A (C.h i)))⟩⟩⟩
def apW:c2:=⟨.ff true [] [] (g8 i aS 0 [] 0) (g7 i aS),[],[]++gA i aS,⟨[],[]⟩⟩
theorem aAZ(i:Nat)(a:i<3)(A:Int):fB Tryz.prog 50 (Rl i) cn [] (cW λC=>⟨⟨none,[],cx aS 0 (C.set i (lW A (C.h i)))⟩⟩) [c A]:=by
 refine g6 λC b=>eX (apW i) .z True (bZ 10 ba (az (Ay i a) bY)) Tryz.func50 [] ?_ ?_ trivial
 .exact Υ
 .exact Υ
theorem aD6(i:Nat)(b:i<3):gW 50 (Rl i):=
 kt (bF:=[a]) λs c=>Eq.mp Υ (aAZ i b s.1)
theorem rK(i:Nat)(a:i<3):gX 50 (Rl i):=hi g4 Tryz.func50 (aD6 i a)
def HF:Int:=cond h.v0 1 0
def HG:Int:=cond h.v1 (i64 (HF h+1)) (HF h)
def MI:Int:=cond h.v2 (i64 (HG h+1)) (HG h)
def hq:Bool:=decide (MI h>=2)
def Rj:dv:=⟨[.fZ 0 (33*i)],cn,fp,e9,cW λC=>⟨⟨none,[.bool (hq (C.h i))],cx aS 0 C⟩⟩⟩
def abE:c2:=⟨.ff true [] [] (g8 i aS 0 [0] 1) (g7 i aS),[.tmp 2],[(.t 0,l)]++gA i aS,⟨[],[]⟩⟩
def avy:cz (abE i).ck:=let b:=C.h i;(.ae (.ae (.s (.ae (.un 3 (.s (.ae (.s (.c true .z) (.j ⟨15916,[],[(.t 3,a)],[],.f⟩ .z (.b5 ⟨([U,U,.lit false,c (HF b),U,.bool b.v0,U,U,U,.agg [.bool b.v0,.bool b.v1,.bool b.v2],c 0,.bool true,.bool b.v0,.bool b.v0]++us 5 ([])),cA aS 0 C []⟩ .z)))) (.s (.ae (.s (.c true .z) (.j ⟨81452,[],[(.t 3,a)],[],.f⟩ .z (.b5 ⟨[U,U,.lit false,c (HG b),U,.bool b.v1,U,U,U,.agg [.bool b.v0,.bool b.v1,.bool b.v2],c 1,.bool true,.bool b.v1,.bool b.v1,U,U,c 1,U,U],cA aS 0 C []⟩ .z)))) (.s (.ae (.s (.c true .z) (.j ⟨81452,[],[(.t 3,a)],[],.f⟩ .z (.b5 ⟨[U,U,.lit false,c (MI b),U,.bool b.v2,U,U,U,.agg [.bool b.v0,.bool b.v1,.bool b.v2],c 2,.bool true,.bool b.v2,.bool b.v2,U,U,c 2,U,U],cA aS 0 C []⟩ .z)))) (.ae (.s (.c false .z) .z))))))) .z)))
theorem aAX(i:Nat)(a:i<3):fB Tryz.prog 48 (Rj i) cn [] (cW λC=>⟨⟨none,[.bool (hq (C.h i))],cx aS 0 C⟩⟩) []:=by
 refine g6 λC b=>eX (abE i) (avy i C) True (bZ 10 ba bY) Tryz.func48 [] ?_ ?_ trivial
 .exact Υ
 .exact Υ
theorem aD4(i:Nat)(a:i<3):gW 48 (Rj i):=
 aAX i a
theorem vs(i:Nat)(a:i<3):gX 48 (Rj i):=hi g4 Tryz.func48 (aD4 i a)
def agf:Int:=cond (decide ((h.li.n:Int)>0)) (imax (imax h.b5 h.fL) (h.li.at' (toNat (i64 ((h.li.n:Int)-1)))).K) (imax h.b5 h.fL)
def jh:Int:=agf h
def Re:dv:=⟨[.fZ 0 (33*i)],cn,fp,e9,cW λC=>⟨⟨none,[c (jh (C.h i))],cx aS 0 C⟩⟩⟩
def abB:c2:=⟨.ff true [] [] (g8 i aS 0 [0] 1) (g7 i aS),[.tmp 2],[(.t 0,a)]++gA i aS,⟨[],[]⟩⟩
def avv:cz (abB i).ck:=.ae (.ae (.j ⟨12,[],[(.t 3,a)],[],.f⟩ .z (.b5 ⟨([U,U,c 0,c (agf (C.h i))]++us 33 ([])),cA aS 0 C []⟩ .z)))
def akk(i:Nat)(C:aq):Prop:=let a:=i64 (((C.h i).li.n:Int)-1);(decide (((C.h i).li.n:Int)>0)=true->(0:Int)<=a/\a<(((C.h i).li.n:Nat):Int))
theorem aDk(i:Nat)(d:i<3)(C:aq)(c:fa C):akk i C:=by
 have b:=hB c i d;unfold gz at b;exact(λa=>have:=al a;have:=E (((C.h i).li.n:Int)-1);Ω)
theorem aAS(i:Nat)(a:i<3):fB Tryz.prog 43 (Re i) cn [] (cW λC=>⟨⟨none,[c (jh (C.h i))],cx aS 0 C⟩⟩) []:=by
 refine g6 λC b=>eX (abB i) (avv i C) (akk i C) (bZ 10 ba bY) Tryz.func43 [] ?_ ?_ (aDk i a C b)
 .exact Υ
 .exact Υ
theorem aDZ(i:Nat)(a:i<3):gW 43 (Re i):=
 aAS i a
theorem aiv(i:Nat)(a:i<3):gX 43 (Re i):=hi g4 Tryz.func43 (aDZ i a)
def VE:Int:=cond (h.ro==2) 0 h.ro
def auw:I hz:=cond (h.ro==2) (MH h).ws h.ws
def k_:N:={h with ro:=(VE h),ws:=(auw h)}
def Rp:dv:=⟨[.fZ 0 (33*i)],cn,fp,e9,cW λC=>⟨⟨none,[],cx (aS.set (2*i) 10) 1 (C.set i (k_ (C.h i)))⟩⟩⟩
def apX:c2:=⟨.ff true [] [.own (.h 0 (33*i+29)) dF 10] (g8 i (aS.set (2*i) 10) 1 [] 0) (g7 i (aS.set (2*i) 10)),[],[]++gA i (aS.set (2*i) 10),⟨[],[]⟩⟩
theorem aA2(i:Nat)(a:i<3):fB Tryz.prog 53 (Rp i) cn [] (cW λC=>⟨⟨none,[],cx (aS.set (2*i) 10) 1 (C.set i (k_ (C.h i)))⟩⟩) []:=by
 refine g6 λC b=>eX (apX i) .z True (bZ 10 ba (az (tj i a) bY)) Tryz.func53 ([.l,.l,.l]++[.f]++List.replicate 89 .l++[.f]++List.replicate 8 .l) ?_ ?_ trivial
 .exact Υ
 .exact Υ
theorem aD9(i:Nat)(a:i<3):gW 53 (Rp i):=
 aA2 i a
theorem vw(i:Nat)(a:i<3):gX 53 (Rp i):=hi g4 Tryz.func53 (aD9 i a)
end
section
variable(i:Nat)(ms:ai)(h:N)
def zI:I ai:=cond (0 !=h.aM) (dn 0 ms h).a1 h.a1
def mA:N:={(dn 0 ms h)with a1:=(zI ms h)}
def uX:I ai:=cond (1 !=h.aM) (dn 1 ms (mA ms h)).a1 (zI ms h)
def nb:N:={(dn 1 ms (mA ms h))with a1:=(uX ms h)}
def HO:I ai:=cond (2 !=h.aM) (dn 2 ms (nb ms h)).a1 (uX ms h)
def VJ:N:={(dn 2 ms (nb ms h))with a1:=(HO ms h)}
def mz:N:={h with a1:=(HO ms h)}
def Rv:dv:=⟨[.fZ 0 (33*i),.g [a,a,a,a,a,a,l,a,.ab dT,a,a,a,.ab bx,a,.ab b8]],cn,fp,e9,λ(b c j k m n:Int) o (p:Int) q (r d e:Int) f (g:Int) h=>cW λC=>⟨⟨none,[],cx aS 0 (C.set i (mz (⟨b,c,j,k,m,n,o,p,q,r,d,e,f,g,h⟩:ai) (C.h i)))⟩⟩⟩
def abL:c2:=⟨.ff true [] [] (g8 i aS 0 [] 0) (g7 i aS),[],[]++gA i aS,⟨[],[]⟩⟩
def avF(C:aq):cz (abL i).ck:=let a:=C.h i;(.ae (.ae (.un 3 (.s (.ae (.s (.c true .z) (.j ⟨16377,[],[(.h (2*i+2) 0,.ad cR)],[],.f⟩ .z (.b5 ⟨([Ρ i 0,U,U,.ptr 10 0,c 0,c 0,.bool true,c 0,c 0,Ρ i 0,Ρ i 0,Ρ i 0,c a.aM,.bool (0 !=a.aM)]++us 5 ([])),cA aS 1 (C.set i (mA ms a)) [(10,jw ms)]⟩ .z)))) (.s (.ae (.s (.c true .z) (.j ⟨278521,[],[(.h (2*i+2) 0,.ad cR)],[],.f⟩ .z (.b5 ⟨[Ρ i 0,U,U,.ptr 10 0,c 1,c 1,.bool true,c 1,c 1,Ρ i 0,Ρ i 0,Ρ i 0,c a.aM,.bool (1 !=a.aM),U,U,U,U,c 1],cA aS 1 (C.set i (nb ms a)) [(10,jw ms)]⟩ .z)))) (.s (.ae (.s (.c true .z) (.j ⟨278521,[],[(.h (2*i+2) 0,.ad cR)],[],.f⟩ .z (.b5 ⟨[Ρ i 0,U,U,.ptr 10 0,c 2,c 2,.bool true,c 2,c 2,Ρ i 0,Ρ i 0,Ρ i 0,c a.aM,.bool (2 !=a.aM),U,U,U,U,c 2],cA aS 1 (C.set i (VJ ms a)) [(10,jw ms)]⟩ .z)))) (.ae (.s (.c false .z) .z))))))))
theorem aA6(i:Nat)(a:i<3)(ms:ai):fB Tryz.prog 58 (Rv i) cn [] (cW λC=>⟨⟨none,[],cx aS 0 (C.set i (mz ms (C.h i)))⟩⟩) (jw ms):=by
 refine g6 λC b=>eX (abL i) (avF i ms C) True (bZ 10 ba (az (Ay i a) bY)) Tryz.func58 [] ?_ ?_ trivial
 .exact Υ
 .exact Υ
theorem aEc(i:Nat)(b:i<3):gW 58 (Rv i):=
 kt (bF:=[a,a,a,a,a,a,l,a,.ab dT,a,a,a,.ab bx,a,.ab b8]) λs c=>Eq.mp Υ (aA6 i b ⟨s.1,s.2.1,s.2.2.1,s.2.2.2.1,s.2.2.2.2.1,s.2.2.2.2.2.1,s.2.2.2.2.2.2.1,s.2.2.2.2.2.2.2.1,s.2.2.2.2.2.2.2.2.1,s.2.2.2.2.2.2.2.2.2.1,s.2.2.2.2.2.2.2.2.2.2.1,s.2.2.2.2.2.2.2.2.2.2.2.1,s.2.2.2.2.2.2.2.2.2.2.2.2.1,s.2.2.2.2.2.2.2.2.2.2.2.2.2.1,s.2.2.2.2.2.2.2.2.2.2.2.2.2.2.1⟩)
theorem aix(i:Nat)(a:i<3):gX 58 (Rv i):=hi g4 Tryz.func58 (aEc i a)
end
section
variable(i:Nat)(h:N)
def Dp:I ai:=cond (0==h.aM) h.a1 (cond (decide (i64 (h.eL-1)<h.e)) (dn 0 (⟨0,0,7,h.D,0,0,false,0,(B:I ax),h.b9,h.g9,h.hE,h.fU,h.dW,h.fT⟩:ai) h).a1 (dn 0 (⟨0,0,5,h.D,i64 (h.eL-1),jX h.e h.lt h.li (i64 (h.eL-1)),false,h.co,sY h.e h.lt h.li (i64 (h.eL-1)) 8,0,0,0,(B:I ah),0,(B:I ay)⟩:ai) h).a1)
def p9:N:={(dn 0 (⟨0,0,5,h.D,i64 (h.eL-1),jX h.e h.lt h.li (i64 (h.eL-1)),false,h.co,sY h.e h.lt h.li (i64 (h.eL-1)) 8,0,0,0,(B:I ah),0,(B:I ay)⟩:ai) h)with a1:=(Dp h)}
def Dq:I ai:=cond (1==h.aM) (Dp h) (cond (decide (i64 (h.ef-1)<h.e)) (dn 1 (⟨0,0,7,h.D,0,0,false,0,(B:I ax),h.b9,h.g9,h.hE,h.fU,h.dW,h.fT⟩:ai) (p9 h)).a1 (dn 1 (⟨0,0,5,h.D,i64 (h.ef-1),jX h.e h.lt h.li (i64 (h.ef-1)),false,h.co,sY h.e h.lt h.li (i64 (h.ef-1)) 8,0,0,0,(B:I ah),0,(B:I ay)⟩:ai) (p9 h)).a1)
def rj:N:={(dn 1 (⟨0,0,5,h.D,i64 (h.ef-1),jX h.e h.lt h.li (i64 (h.ef-1)),false,h.co,sY h.e h.lt h.li (i64 (h.ef-1)) 8,0,0,0,(B:I ah),0,(B:I ay)⟩:ai) (p9 h))with a1:=(Dq h)}
def HP:I ai:=cond (2==h.aM) (Dq h) (cond (decide (i64 (h.ek-1)<h.e)) (dn 2 (⟨0,0,7,h.D,0,0,false,0,(B:I ax),h.b9,h.g9,h.hE,h.fU,h.dW,h.fT⟩:ai) (rj h)).a1 (dn 2 (⟨0,0,5,h.D,i64 (h.ek-1),jX h.e h.lt h.li (i64 (h.ek-1)),false,h.co,sY h.e h.lt h.li (i64 (h.ek-1)) 8,0,0,0,(B:I ah),0,(B:I ay)⟩:ai) (rj h)).a1)
def auH:N:=let a:=i64 (h.ek-1);{(dn 2 (⟨0,0,5,h.D,a,jX h.e h.lt h.li a,false,h.co,sY h.e h.lt h.li a 8,0,0,0,(B:I ah),0,(B:I ay)⟩:ai) (rj h))with a1:=(HP h)}
def ri:N:={h with a1:=(HP h)}
def Rw:dv:=⟨[.fZ 0 (33*i)],cn,fp,e9,cW λC=>let a:=C.h i;⟨⟨some (0<=a.eL/\a.eL<=4194304/\0<=a.ef/\a.ef<=4194304/\0<=a.ek/\a.ek<=4194304),[],cx aS 0 (C.set i (ri a))⟩⟩⟩
def abM:c2:=⟨.ff true [] [] (g8 i aS 0 [] 0) (g7 i aS),[],[]++gA i aS,⟨[],[]⟩⟩
def avG(C:aq):cz (abM i).ck:=let a:=C.h i;let e:=i64 (a.ek-1);let d:=i64 (a.ef-1);let b:=i64 (a.eL-1);(.ae (.un 3 (.s (.ae (.s (.c true .z) (.j ⟨130821,[],[(.h (2*i+2) 0,.ad cR)],[],.f⟩ (.ae (.ae (.ae (.s (.ae (.s (.s (.nm [(0,(33*i+4)),(0,(33*i+9)),(0,(33*i+10)),(0,(33*i+11)),(0,(33*i+12)),(0,(33*i+13)),(0,(33*i+14))]) (.b5 ⟨([Ρ i 0,U,c 0,c b,U,U,U,U,c 0,.bool true,c 0,c 0,Ρ i 0,Ρ i 0,Ρ i 0,c a.aM,.bool (0==a.aM),Ρ i 0,c 0,Ρ i 0,Ρ i 23,Ρ i 23,c a.eL,c b,c b,Ρ i 0,Ρ i 0,Ρ i 6,Ρ i 6,c a.e,.bool (decide (b<a.e)),Ρ i 0,c 0,Ρ i 0,Ρ i 0,Ρ i 4,c a.D,Ρ i 0,Ρ i 0,Ρ i 9,.agg [c a.b9,c a.g9,c a.hE,aV 8 ho a.fU,c a.dW,aV 7 hP a.fT],.agg [c 0,c 0,c 7,c a.D,c 0,c 0,.bool false,c 0,.aH,c a.b9,c a.g9,c a.hE,aV 8 ho a.fU,c a.dW,aV 7 hP a.fT]]++us 35 ([])),cA aS 0 (C.set i (dn 0 (⟨0,0,7,a.D,0,0,false,0,(B:I ax),a.b9,a.g9,a.hE,a.fU,a.dW,a.fT⟩:ai) a)) []⟩ .z)) .z)) (.ae (.ae (.nm [(0,(33*i+4)),(0,(33*i+19))]))))))) (.b5 ⟨([Ρ i 0,U,c 0]++us 5 ([c 0,.bool true,c 0,c 0,Ρ i 0,Ρ i 0,Ρ i 0,c a.aM,.bool (0==a.aM)]++us 60 ([]))),cA aS 0 (C.set i (p9 a)) []⟩ .z)))) (.s (.ae (.s (.c true .z) (.j ⟨75557863725914323549957,[],[(.h (2*i+2) 0,.ad cR)],[],.f⟩ (.ae (.ae (.ae (.s (.ae (.s (.s (.nm [(0,(33*i+4)),(0,(33*i+9)),(0,(33*i+10)),(0,(33*i+11)),(0,(33*i+12)),(0,(33*i+13)),(0,(33*i+14))]) (.b5 ⟨([Ρ i 0,U,c 1,c d,U,U,U,U,c 1,.bool true,c 1,c 1,Ρ i 0,Ρ i 0,Ρ i 0,c a.aM,.bool (1==a.aM),Ρ i 0,c 1,Ρ i 0,Ρ i 23,Ρ i 24,c a.ef,c d,c d,Ρ i 0,Ρ i 0,Ρ i 6,Ρ i 6,c a.e,.bool (decide (d<a.e)),Ρ i 0,c 1,Ρ i 0,Ρ i 0,Ρ i 4,c a.D,Ρ i 0,Ρ i 0,Ρ i 9,.agg [c a.b9,c a.g9,c a.hE,aV 8 ho a.fU,c a.dW,aV 7 hP a.fT],.agg [c 0,c 0,c 7,c a.D,c 0,c 0,.bool false,c 0,.aH,c a.b9,c a.g9,c a.hE,aV 8 ho a.fU,c a.dW,aV 7 hP a.fT]]++us 34 ([c 1])),cA aS 0 (C.set i (dn 1 (⟨0,0,7,a.D,0,0,false,0,(B:I ax),a.b9,a.g9,a.hE,a.fU,a.dW,a.fT⟩:ai) (p9 a))) []⟩ .z)) .z)) (.ae (.ae (.nm [(0,(33*i+4)),(0,(33*i+19))]))))))) (.b5 ⟨([Ρ i 0,U,c 1]++us 5 ([c 1,.bool true,c 1,c 1,Ρ i 0,Ρ i 0,Ρ i 0,c a.aM,.bool (1==a.aM)]++us 59 ([c 1]))),cA aS 0 (C.set i (rj a)) []⟩ .z)))) (.s (.ae (.s (.c true .z) (.j ⟨75557863725914323549957,[],[(.h (2*i+2) 0,.ad cR)],[],.f⟩ (.ae (.ae (.ae (.s (.ae (.s (.s (.nm [(0,(33*i+4)),(0,(33*i+9)),(0,(33*i+10)),(0,(33*i+11)),(0,(33*i+12)),(0,(33*i+13)),(0,(33*i+14))]) (.b5 ⟨([Ρ i 0,U,c 2,c e,U,U,U,U,c 2,.bool true,c 2,c 2,Ρ i 0,Ρ i 0,Ρ i 0,c a.aM,.bool (2==a.aM),Ρ i 0,c 2,Ρ i 0,Ρ i 23,Ρ i 25,c a.ek,c e,c e,Ρ i 0,Ρ i 0,Ρ i 6,Ρ i 6,c a.e,.bool (decide (e<a.e)),Ρ i 0,c 2,Ρ i 0,Ρ i 0,Ρ i 4,c a.D,Ρ i 0,Ρ i 0,Ρ i 9,.agg [c a.b9,c a.g9,c a.hE,aV 8 ho a.fU,c a.dW,aV 7 hP a.fT],.agg [c 0,c 0,c 7,c a.D,c 0,c 0,.bool false,c 0,.aH,c a.b9,c a.g9,c a.hE,aV 8 ho a.fU,c a.dW,aV 7 hP a.fT]]++us 34 ([c 2])),cA aS 0 (C.set i (dn 2 (⟨0,0,7,a.D,0,0,false,0,(B:I ax),a.b9,a.g9,a.hE,a.fU,a.dW,a.fT⟩:ai) (rj a))) []⟩ .z)) .z)) (.ae (.ae (.nm [(0,(33*i+4)),(0,(33*i+19))]))))))) (.b5 ⟨([Ρ i 0,U,c 2]++us 5 ([c 2,.bool true,c 2,c 2,Ρ i 0,Ρ i 0,Ρ i 0,c a.aM,.bool (2==a.aM)]++us 59 ([c 2]))),cA aS 0 (C.set i (auH a)) []⟩ .z)))) (.ae (.s (.c false .z) .z)))))))
def Zf(i:Nat)(C:aq):Prop:=(((0==(C.h i).aM)=false->decide (i64 ((C.h i).eL-1)<(C.h i).e)=false->i64 ((C.h i).eL-1)<=9223372036854775807/\ -9223372036854775808<=i64 ((C.h i).eL-1)/\(8:Int)<=9223372036854775807/\ -9223372036854775808<=(8:Int))/\((1==(C.h i).aM)=false->decide (i64 ((C.h i).ef-1)<(C.h i).e)=false->i64 ((C.h i).ef-1)<=9223372036854775807/\ -9223372036854775808<=i64 ((C.h i).ef-1)/\(8:Int)<=9223372036854775807/\ -9223372036854775808<=(8:Int))/\((2==(C.h i).aM)=false->decide (i64 ((C.h i).ek-1)<(C.h i).e)=false->i64 ((C.h i).ek-1)<=9223372036854775807/\ -9223372036854775808<=i64 ((C.h i).ek-1)/\(8:Int)<=9223372036854775807/\ -9223372036854775808<=(8:Int)))
theorem aDr(i:Nat)(c:i<3)(C:aq)(b:fa C)(d:0<=(C.h i).eL/\(C.h i).eL<=4194304/\0<=(C.h i).ef/\(C.h i).ef<=4194304/\0<=(C.h i).ek/\(C.h i).ek<=4194304):Zf i C:=by
 have a:=hB b i c;unfold gz at a;unfold Zf;exact have⟨l,m,n,o,p,q⟩:=d;(⟨λe f=>have:=E ((C.h i).eL-1);Ω,⟨λg h=>have:=E ((C.h i).ef-1);Ω,λj k=>have:=E ((C.h i).ek-1);Ω⟩⟩)
theorem aA7(i:Nat)(a:i<3):fB Tryz.prog 59 (Rw i) cn [] (cW λC=>⟨⟨some (0<=(C.h i).eL/\(C.h i).eL<=4194304/\0<=(C.h i).ef/\(C.h i).ef<=4194304/\0<=(C.h i).ek/\(C.h i).ek<=4194304),[],cx aS 0 (C.set i (ri (C.h i)))⟩⟩) []:=by
 refine g6 λC b c=>eX (abM i) (avG i C) (Zf i C) (bZ 10 (aR OX (aR aAp ba)) (az (Ay i a) bY)) Tryz.func59 [] ?_ ?_ (aDr i a C b c)
 .exact Υ
 .exact Υ
theorem aEd(i:Nat)(a:i<3):gW 59 (Rw i):=
 aA7 i a
theorem aiy(i:Nat)(a:i<3):gX 59 (Rw i):=hi g4 Tryz.func59 (aEd i a)
end
def ags:Int:=0
def agt:I ah:=(B:I ah)
def agu:Int:=1
def agv:I ay:=(B:I ay)
def abe:bt:=⟨[],⟨⟨none,.agg [c ags,aV 8 ho agt,c agu,aV 7 hP agv]⟩⟩⟩
def aEm:JY 29 abe:=
 bJ ⟨.pure,[.cell 0 44],[(.c 0 0,a),(.c 0 1,.ab bx),(.c 0 2,a),(.c 0 3,.ab b8)],⟨[.agg (us 4 [])],[]⟩⟩ .z True gb Tryz.func29 trivial
def aAa:bE 29 abe:=bG Tryz.func29 aEm
def HR:Int:=0
def HS:Int:=(-1)
def zR:Int:=0
def HT:Int:=0
def xp:Int:=ags
def xq:I ah:=agt
def xr:Int:=agu
def xt:I ay:=agv
def zS:Int:=0
def zT:Int:=0
def zQ:I ax:=(B:I ax)
def abf:bt:=⟨[],⟨⟨none,.agg [c HR,c HS,c zR,c HT,c xp,aV 8 ho xq,c xr,aV 7 hP xt,c zS,c zT,aV 10 eJ zQ]⟩⟩⟩
def aEn:JY 18 abf:=
 bJ ⟨.pure,[.cell 0 88],[(.c 0 0,a),(.c 0 1,a),(.c 0 2,a),(.c 0 3,a),(.c 0 4,a),(.c 0 5,.ab bx),(.c 0 6,a),(.c 0 7,.ab b8),(.c 0 8,a),(.c 0 9,a),(.c 0 10,.ab dT)],⟨[.agg (us 11 [])],[]⟩⟩ .z True (cK (aR aAa ba)) Tryz.func18 trivial
def aiB:bE 18 abf:=bG Tryz.func18 aEn
def arp{A g:Int}{u:Bool}{o v d:Int}{y F p:z}{x:Int}(h:(u2 A g u o v d y F p x !=0)=false):0<=g:=by
 have h:=bP h;unfold u2 at h
 cases a:zZ A g with
 |true=>rw[a]at h;simp at h
 |false=>
  simp [zZ,uE,k5,Gl]at a;omega
def loops(g:Int)(u:I ax)(y:u.n<=549755813888): ∀(m k:Nat) (i t a:Int),0<=i->i+(m:Int)=u.n->m<=k->(i=0->t=g/\a=0)->(0<i->t=(u.at' (toNat (i-1))).r/\a=(u.at' (toNat (i-1))).K/\g<=t)->
  rr u (k+1) t a i=u4 g u (k+1) i
 |0,k,i,t,a,l,v,x,_,_=>by
  have e:decide (i<u.n)=false:=by simp;omega
  simp only[rr,u4,e,aB]
 |m+1,k,i,t,a,l,v,x,A,z=>by
  obtain⟨k,rfl⟩: ∃B,k=B+1:=⟨k-1,Ω⟩;have e:decide (i<u.n)=true:=by simp;omega
  have e1:i64 (i+1)=i+1:=E _;have fq:i64 (i-1)=i-1:=E _;rw[rr,u4,e];simp only[au];have q:xw u t a i=(cond (nQ g u i) true (o5 u i)):=by
   simp only[xw,nQ,o5,auZ,fq]
   cases s:(u2 (u.at' i.toNat).r (u.at' i.toNat).K (u.at' i.toNat).G (u.at' i.toNat).q (u.at' i.toNat).j (u.at' i.toNat).m (u.at' i.toNat).ak (u.at' i.toNat).aA (u.at' i.toNat).i (u.at' i.toNat).aJ !=0)with
   |true=>rfl
   |false=>
    have C:=arp s;simp only[aB]
    by_cases w:i=0
    .obtain⟨rfl,rfl⟩:=A w;have f:decide (i>0)=false:=by simp;omega
     rw[f];have p: ¬(u.at' i.toNat).K<0:=by omega
     by_cases d:(u.at' i.toNat).r<t<;>simp [d,p]
    .obtain⟨n,o,j⟩:=z Ω;have f:decide (i>0)=true:=by simp;omega
     rw[f,<-n,<-o];simp only[au]
     by_cases d:(u.at' i.toNat).r<t<;>by_cases r:(u.at' i.toNat).r<g<;>simp [d,r]<;>omega
  rw[q]
  cases c:nQ g u i with
  |true=>rfl
  |false=>
   simp only[aB]
   cases D:o5 u i with
   |true=>rfl
   |false=>
    simp only[aB];rw[e1];have j:g<=(u.at' i.toNat).r:=by
     simp only[nQ]at c;generalize (u2 _ _ _ _ _ _ _ _ _ _ !=0)=b at c
     cases b with
     |true=>cases c
     |false=>
      have:=hy c;omega
    refine loops g u y m k (i+1) _ _ Ω Ω Ω (λh=>by omega) λ_=> ?_;rw[show i+1-1=i by omega];exact⟨rfl,rfl,j⟩
def agJ(A g:Int)(u:I ax)(l:u.n<=549755813888)(n: -9223372036854775808<=A/\A<=9223372036854775807):cV A g u=xx A g u:=by
 have m:DD g u=DE g u:=loops g u l u.n _ 0 g 0 (bz _) Ω Ω (λ_=>⟨rfl,rfl⟩) (λh=>by omega);have k:qg A g u=xy A g u:=by
  simp only[qg,xy,k5,Gl]
  by_cases a:A<0
  .have a': ¬0<=A:=by omega
   simp [a,a']
  .have a':0<=A:=by omega
   by_cases b:g<0
   .have b': ¬0<=g:=by omega
    simp [a,a',b,b']
   .have b':0<=g:=by omega
    by_cases c:g>1048576
    .have i: ¬g<=1048576:=by omega
     simp [a,b,c,i,a',b']
    .have i:g<=1048576:=by omega
     by_cases d:(u.n:Int)>200
     .simp [a,a',b,b',c,i,d]
     .rw[E (1048576- (u.n:Int))]
      by_cases e:A<=1048576
      .rw[E (A+(u.n:Int))]
       by_cases f:A>1048576- (u.n:Int)
       .have j:A+(u.n:Int)>1048576:=by omega
        simp [a,a',b,b',c,i,d,e,f,j]
       .have j: ¬A+(u.n:Int)>1048576:=by omega
        simp [a,a',b,b',c,i,d,e,f,j]
      .have f:A>1048576- (u.n:Int):=by omega
       simp [a,a',b,b',c,i,d,e,f]
 simp only[cV,xx,Ns,Nv,k,m]
section
variable(A g u o v d:Int)(y F p:z)(x:Int)
def aeY:Bool:=cond (A==6) (A==6) (cond (A==7) (A==7) (A==8))
def aeZ:Bool:=cond (A==5) (A==5) (A==9)
def nH:Bool:=cond (aeY A) false (cond (aeZ A) true (cond (A==12) false true))
def nI:Bool:=cond (aeY A) true (cond (aeZ A) true false)
def anm:bt:=⟨[.v a],λA=>⟨⟨none,.du [.bool (nH A),.bool (nI A)]⟩⟩⟩
def ayO:bE 28 anm:=bG Tryz.func28
 λ(A:Int)=>bJ (ms:=[.f,.b .f (.b .f .l)]) ⟨.pure,[.tmp 2,.tmp 3],[(.t 0,l),(.t 1,l)],⟨[U,U],[]⟩⟩ (.ae (.s (.ae (.j ⟨60,[],[(.t 5,l)],[],.f⟩ .z (.ae (.j ⟨540,[],[(.t 9,l)],[],.f⟩ .z .z)))) .z)) True gb Tryz.func28 trivial
def HZ:Bool:=cond (decide (A<1)) true (decide (A>12))
def DF:Bool:=cond (nH A) (cond (decide (g<0)) true (cond (decide (g>=3)) true (cond (nI A) (cond (decide (u<0)) true (decide (u>400000))) false))) (cond (nI A) (cond (decide (u<0)) true (decide (u>400000))) false)
def z1:Bool:=cond (!(nH A)) (cond (g !=0) true (cond (!(nI A)) (cond (u !=0) true (cond (A !=1) (!((o==0)&&((v==0)&&((d==0)&&(((y:z).toList==ε.toList)&&(((F:z).toList==ε.toList)&&(((p:z).toList==ε.toList)&&((x==0)&&true)))))))) false)) (cond (A !=1) (!((o==0)&&((v==0)&&((d==0)&&(((y:z).toList==ε.toList)&&(((F:z).toList==ε.toList)&&(((p:z).toList==ε.toList)&&((x==0)&&true)))))))) false))) (cond (!(nI A)) (cond (u !=0) true (cond (A !=1) (!((o==0)&&((v==0)&&((d==0)&&(((y:z).toList==ε.toList)&&(((F:z).toList==ε.toList)&&(((p:z).toList==ε.toList)&&((x==0)&&true)))))))) false)) (cond (A !=1) (!((o==0)&&((v==0)&&((d==0)&&(((y:z).toList==ε.toList)&&(((F:z).toList==ε.toList)&&(((p:z).toList==ε.toList)&&((x==0)&&true)))))))) false))
def qh:Int:=cond (HZ A) 3 (cond (DF A g u) 2 (cond (z1 A g u o v d y F p x) 8 (cond (A==1) (h_ o v d y F p x) 0)))
def apr:bt:=⟨[.g [a,a,a,a,a,a,ar,ar,ar,a]],λA g u o v d y F p x=>⟨⟨none,c (qh A g u o v d y F p x)⟩⟩⟩
def aAn:bE 16 apr:=bG Tryz.func16
 λ(A g u o v d:Int) y _ F _ p _ (x:Int)=>bJ ⟨.pure,[.tmp 2],[(.t 0,a)],⟨[U],[]⟩⟩ (.ae (.s (.j ⟨4102,[],[(.t 12,l)],[],.f⟩ .z .z) (.ae (.s (.j ⟨524318,[],[(.t 19,l)],[],.f⟩ .z (.ae (.j ⟨17592186044422,[],[(.t 44,l)],[],.f⟩ .z .z))) .z)))) True (cK (aR XN (aR ayO ba))) Tryz.func16 trivial
end
section
def zr(A:Int):Int:=A
def Vv:Bool:=false
def Hn:Int:=0
def zB:Int:=0
def Hq(g:Int):Int:=g
def Hr(u:Int):Int:=u
def Hs(x:Int):Int:=x
def Ht(ao:Int):Int:=ao
def Hu(bR:I ax):I ax:=bR
variable(o d:Int)(y:I ah)(F:Int)(p:I ay)
def Hv:Int:=o
def Hd(v:Int):Int:=v
def He:Int:=d
def Hf:I ah:=y
def Hg:Int:=F
def Hh:I ay:=p
def Hi:Int:=d
def Hj:I ah:=y
def Hk:Int:=F
def Hl:I ay:=p
def Hm:Int:=o
def zs:Bool:=false
def zt:Bool:=false
def zu:Bool:=false
def zv:Int:=0
def zw:Int:=0
def zx:Int:=0
def zy:Int:=0
def zz:Int:=0
def zA:Int:=0
def Ho:I Int:=(B:I Int)
def Hp:Int:=0
def aoZ:bt:=⟨[.v a,.g [a,a,a,a,a,.ab bx,a,.ab b8,a,a,.ab dT]],λA g u o v d y F p x ao bR=>⟨⟨none,.agg [c (zr A),.bool Vv,c Hn,c zB,c (Hq g),c (Hr u),c (Hs x),c (Ht ao),aV 10 eJ (Hu bR),c (Hv o),c (Hd v),c (He d),aV 8 ho (Hf y),c (Hg F),aV 7 hP (Hh p),c (Hi d),aV 8 ho (Hj y),c (Hk F),aV 7 hP (Hl p),c (Hm o),.bool zs,.bool zt,.bool zu,c zv,c zw,c zx,c zy,c zz,c zA,.aH,aV 1 cO Ho,c Hp,.aH]⟩⟩⟩
def aiq:bE 17 aoZ:=bG Tryz.func17
 λ(A g u o v d:Int) y _ _ (F:Int) p _ _ (x ao:Int) bR _ _=>bJ ⟨.pure,[.cell 4 82],[(.c 0 0,a),(.c 0 1,l),(.c 0 2,a),(.c 0 3,a),(.c 0 4,a),(.c 0 5,a),(.c 0 6,a),(.c 0 7,a),(.c 0 8,.ab dT),(.c 0 9,a),(.c 0 10,a),(.c 0 11,a),(.c 0 12,.ab bx),(.c 0 13,a),(.c 0 14,.ab b8),(.c 0 15,a),(.c 0 16,.ab bx),(.c 0 17,a),(.c 0 18,.ab b8),(.c 0 19,a),(.c 0 20,l),(.c 0 21,l),(.c 0 22,l),(.c 0 23,a),(.c 0 24,a),(.c 0 25,a),(.c 0 26,a),(.c 0 27,a),(.c 0 28,a),(.c 0 30,.ab bs),(.c 0 31,a)],⟨[.agg [U,U,U,U,U,U,U,U,U,U,U,U,U,U,U,U,U,U,U,U,U,U,U,U,U,U,U,U,U,.aH,U,U,.aH]],[]⟩⟩ .z True gb Tryz.func17 trivial
end
end Go.Proofs.YtcpfnfkibnjcfaaGreatDoor
namespace Go.Proofs.YtcpfnfkibnjcfaaGreatDoor
open Go Go.Proofs Go.RowKit Go.Shelf Go.ag
abbrev ao3:cj:=yS cR
def ais:j9 Tryz.prog 31 ao3.hL:=B2 (E:=cR) (z:=(.agg #[.int .i64 0,.int .i64 0,.int .i64 0,.int .i64 0,.int .i64 0,.int .i64 0,.bool false,.int .i64 0,.slice none 0 0,.int .i64 0,.int .i64 0,.int .i64 0,.slice none 0 0,.int .i64 0,.slice none 0 0])) (B1 (ρ:=B0 31 80 110) (b:=168) mixed ⟨ "slices.Delete[[]rostrum/api.Message,rostrum/api.Message]",Ξ,Ξ⟩ Ξ Ξ) ⟨_,_,Tryz.func31,rfl,Ξ⟩ (tK rfl Ξ)
end Go.Proofs.YtcpfnfkibnjcfaaGreatDoor
namespace Go.Proofs.YtcpfnfkibnjcfaaGreatDoor
open Go Go.RowKit Go.ag
def p6(A u:Int):Int:=i64 (A-u)
def ao1:bt:=⟨[.g [a,a],.g [a,a]],λA _ u _=>⟨⟨none,c (p6 A u)⟩⟩⟩
def air:bE 22 ao1:=bG Tryz.func22
 λ(A g u o:Int)=>bJ ⟨.pure,[.tmp 4],[(.t 0,a)],⟨[U],[]⟩⟩ .z True gb Tryz.func22 trivial
def I.lI{α:Type}{s:I α}{n:Nat}(h:s.n=n):I.cut s n=s:=by subst h;rfl
def half{x:Int}(a:0<=x)(b:x<=4611686018427387904):i64 (u64 (i64 x)/2^(toNat 1))=x/2:=by
 have e:(2:Int)^(toNat 1)=2:=rfl;rw[e,E x];have u:u64 x=x%18446744073709551616:=rfl;rw[u,E (x%18446744073709551616/2)];omega
