import Derived.Test.YtcpfnfkibnjcfaaGreatDoorXj
import Derived.Test.YtcpfnfkibnjcfaaGreatDoorXl
open Go.IntKind (i64 u64 u8)
open Int (toNat)
set_option maxRecDepth 100000
set_option maxHeartbeats 4000000
set_option linter.all false
noncomputable section
namespace Go.Proofs.YtcpfnfkibnjcfaaGreatDoor
open Go Go.RowKit Go.ag
section
variable(i:Nat)(A g:Int)(h:N)
def iu:Bool:=cond (!(gu (A1 A g) h)) false true
def MF:Int:=cond (!(gu (A1 A g) h)) h.D A
def MG:Int:=cond (!(gu (A1 A g) h)) h.bl g
def dt:N:={h with D:=(MF A g h),bl:=(MG A g h),a_:=(fI (A1 A g) h).a_,bp:=(fI (A1 A g) h).bp}
def Rg:dv:=⟨[.fZ 0 (33*i),.v a,.v a],cn,fp,e9,λ(A g:Int)=>cW λC=>⟨⟨none,[.bool (iu A g (C.h i))],cx aS 0 (C.set i (dt A g (C.h i)))⟩⟩⟩
def abC:c2:=⟨.ff true [] [] (g8 i aS 0 [0] 1) (g7 i aS),[.tmp 6],[(.t 0,l)]++gA i aS,⟨[],[]⟩⟩
def avw(C:aq):cz (abC i).ck:=.ae (.s (.ae (.b5 ⟨([Ρ i 0,c A,c g,U,U,U,.lit false]++us 5 ([.bool (!(gu (A1 A g) (C.h i)))]++us 8 ([]))),cA aS 0 (C.set i (fI (A1 A g) (C.h i))) []⟩ .z)) .z)
def Y_(i:Nat)(A g:Int)(C:aq):Prop:=qK (A1 A g)
theorem aDl(i:Nat)(c:i<3)(A g:Int)(C:aq)(b:fa C):Y_ i A g C:=by
 have a:=hB b i c;unfold gz at a;unfold Y_;exact(by apply vQ)
theorem aAU(i:Nat)(a:i<3)(A g:Int):fB Tryz.prog 45 (Rg i) cn [] (cW λC=>⟨⟨none,[.bool (iu A g (C.h i))],cx aS 0 (C.set i (dt A g (C.h i)))⟩⟩) [c A,c g]:=by
 refine g6 λC b=>eX (abC i) (avw i A g C) (Y_ i A g C) (bZ 10 ba (az (IT i a) bY)) Tryz.func45 ([.f]++List.replicate 4 .l++[.f,.f]++List.replicate 96 .l) ?_ ?_ (aDl i a A g C b)
 .exact Υ
 .exact Υ
theorem aD1(i:Nat)(b:i<3):gW 45 (Rg i):=
 kt (bF:=[a,a]) λs c=>Eq.mp Υ (aAU i b s.1 s.2.1)
theorem rJ(i:Nat)(a:i<3):gX 45 (Rg i):=hi g4 Tryz.func45 (aD1 i a)
def HC(aT:lx)(F:Int)(h:N)(aj:I bI):I bI:=I.app aj (I.lit ([(⟨h.aM,aT.r,aT.K,aT.G,aT.q,aT.j,aT.m,aT.ak,F,ε,0,(B:I z)⟩:bI)]:List bI))
def Rc:dv:=⟨[.p 0,.fZ 0 (33*i),.g [a,a,a,ar,ar,ar,a],.v a],cn,fp,e9,λ(b c d:Int) e f g (h F:Int)=>cW λC=>⟨⟨some (C.told.n<=549000000000),[],cx aS 0 (C.put i (C.h i) C.s (HC (⟨b,c,d,e,f,g,h⟩:lx) F (C.h i) C.told) C.aU)⟩⟩⟩
def apT:c2:=⟨.ff true [] [] (g8 i aS 0 [] 0) (g7 i aS),[],[]++gA i aS,⟨[],[]⟩⟩
def Y8(i:Nat)(C:aq):Prop:=C.told.n+1<=549755813888
theorem aDi(i:Nat)(c:i<3)(C:aq)(b:fa C)(d:C.told.n<=549000000000):Y8 i C:=by
 have a:=hB b i c;unfold gz at a;unfold Y8;exact(Ω)
theorem aAQ(i:Nat)(a:i<3)(aT:lx)(F:Int):fB Tryz.prog 41 (Rc i) cn [] (cW λC=>⟨⟨some (C.told.n<=549000000000),[],cx aS 0 (C.put i (C.h i) C.s (HC aT F (C.h i) C.told) C.aU)⟩⟩) [c aT.r,c aT.K,c aT.G,.str aT.q,.str aT.j,.str aT.m,c aT.ak,c F]:=by
 refine g6 λC b d=>eX (apT i) .z (Y8 i C) (bZ 10 ba bY) Tryz.func41 [] ?_ ?_ (aDi i a C b d)
 .exact Υ
 .exact Υ
theorem aDX(i:Nat)(b:i<3):gW 41 (Rc i):=
 kt (bF:=[a,a,a,ar,ar,ar,a,a]) λs c=>Eq.mp Υ (aAQ i b ⟨s.1,s.2.1,s.2.2.1,s.2.2.2.1,s.2.2.2.2.1,s.2.2.2.2.2.1,s.2.2.2.2.2.2.1⟩ s.2.2.2.2.2.2.2.1)
theorem az2(i:Nat)(a:i<3):gX 41 (Rc i):=hi g4 Tryz.func41 (aDX i a)
end
section
variable(i:Nat)(ms:ai)(h:N)
def zF:Bool:=cond (ru h.e h.lt h.li ms.j ms.m) (decide (ms.q>h.D)) false
def HE:I ai:=cond (zF ms h) (dn ms.r (⟨0,0,2,ms.q,0,0,false,0,(B:I ax),0,0,0,(B:I ah),0,(B:I ay)⟩:ai) h).a1 (lW ms.r h).a1
def rf:N:={h with a1:=(HE ms h)}
def Ri:dv:=⟨[.fZ 0 (33*i),.g [a,a,a,a,a,a,l,a,.ab dT,a,a,a,.ab bx,a,.ab b8]],cn,fp,e9,λ(b c j k m n:Int) o (p:Int) q (r d e:Int) f (g:Int) h=>cW λC=>⟨⟨none,[],cx aS 0 (C.set i (rf (⟨b,c,j,k,m,n,o,p,q,r,d,e,f,g,h⟩:ai) (C.h i)))⟩⟩⟩
def abD:c2:=⟨.ff true [] [] (g8 i aS 0 [] 0) (g7 i aS),[],[]++gA i aS,⟨[],[]⟩⟩
def avx(C:aq):cz (abD i).ck:=.ae (.s (.ae (.j ⟨134217737,[],[(.t 27,l)],[],.f⟩ .z (.b5 ⟨([Ρ i 0,U,U,.ptr 10 0]++us 23 ([.bool (zF ms (C.h i))]++us 11 ([]))),cA aS 1 C [(10,jw ms)]⟩ (.s (.ae (.b5 ⟨([Ρ i 0,U,U,.ptr 10 0]++us 35 ([])),cA aS 1 (C.set i (dn ms.r (⟨0,0,2,ms.q,0,0,false,0,(B:I ax),0,0,0,(B:I ah),0,(B:I ay)⟩:ai) (C.h i))) [(10,jw ms)]⟩ .z)) .z)))) .z)
theorem aAW(i:Nat)(a:i<3)(ms:ai):fB Tryz.prog 47 (Ri i) cn [] (cW λC=>⟨⟨none,[],cx aS 0 (C.set i (rf ms (C.h i)))⟩⟩) (jw ms):=by
 refine g6 λC b=>eX (abD i) (avx i ms C) True (bZ 10 (aR XO ba) (az (rK i a) (az (Ay i a) bY))) Tryz.func47 (List.replicate 94 .l++[.f]++List.replicate 7 .l) ?_ ?_ trivial
 .exact Υ
 .exact Υ
theorem aD3(i:Nat)(b:i<3):gW 47 (Ri i):=
 kt (bF:=[a,a,a,a,a,a,l,a,.ab dT,a,a,a,.ab bx,a,.ab b8]) λs c=>Eq.mp Υ (aAW i b ⟨s.1,s.2.1,s.2.2.1,s.2.2.2.1,s.2.2.2.2.1,s.2.2.2.2.2.1,s.2.2.2.2.2.2.1,s.2.2.2.2.2.2.2.1,s.2.2.2.2.2.2.2.2.1,s.2.2.2.2.2.2.2.2.2.1,s.2.2.2.2.2.2.2.2.2.2.1,s.2.2.2.2.2.2.2.2.2.2.2.1,s.2.2.2.2.2.2.2.2.2.2.2.2.1,s.2.2.2.2.2.2.2.2.2.2.2.2.2.1,s.2.2.2.2.2.2.2.2.2.2.2.2.2.2.1⟩)
theorem vr(i:Nat)(a:i<3):gX 47 (Ri i):=hi g4 Tryz.func47 (aD3 i a)
end
section
variable(i:Nat)(h:N)
def sK:Int:=cond (h.D==1048576) h.D (dt (i64 (h.D+1)) h.aM h).D
def xb:Int:=cond (h.D==1048576) h.bl (dt (i64 (h.D+1)) h.aM h).bl
def xc:I Int:=cond (h.D==1048576) h.a_ (dt (i64 (h.D+1)) h.aM h).a_
def Db:Int:=cond (h.D==1048576) h.bp (dt (i64 (h.D+1)) h.aM h).bp
def nM:Bool:=cond (h.D==1048576) true (!(iu (i64 (h.D+1)) h.aM h))
def kI:N:={h with D:=(sK h),bl:=(xb h),a_:=(xc h),bp:=(Db h)}
def p8:N:={(kI h)with ro:=2,v0:=(h.aM==0),v1:=(h.aM==1),v2:=(h.aM==2)}
def kH:N:=N.bif (nM h) (kI h) (mz (⟨0,0,3,sK h,b_ (p8 h),my (p8 h),false,0,(B:I ax),0,0,0,(B:I ah),0,(B:I ay)⟩:ai) (p8 h))
def Rk:dv:=⟨[.fZ 0 (33*i)],cn,fp,e9,cW λC=>⟨⟨some (0<=(C.h i).aM/\(C.h i).aM<3),[],cx aS 0 (C.set i (kH (C.h i)))⟩⟩⟩
def abF:c2:=⟨.ff true [] [] (g8 i aS 0 [] 0) (g7 i aS),[],[]++gA i aS,⟨[],[]⟩⟩
def avz(C:aq):cz (abF i).ck:=let b:=p8 (C.h i);(.s (.j ⟨4194305,[],[(.h 0 (33*i+4),a),(.h 0 (33*i+5),a),(.h 0 (33*i+30),.ab bs),(.h 0 (33*i+31),a),(.t 22,l)],[],.f⟩ (.nm [(0,(33*i+0))]) (.b5 ⟨([Ρ i 0]++us 21 ([.bool (nM (C.h i))]++us 25 ([]))),cA aS 0 (C.set i (kI (C.h i))) []⟩ .z)) (.ae (.ae (.ae (.b5 ⟨([Ρ i 0,U,c (b_ b),c (my b)]++us 44 ([])),cA aS 0 (C.set i b) []⟩ .z)))))
def Za(i:Nat)(C:aq):Prop:=(nM (C.h i)=false->(0:Int)<=(C.h i).aM/\((C.h i).aM:Int)<3)
theorem aDm(i:Nat)(d:i<3)(C:aq)(c:fa C)(e:0<=(C.h i).aM/\(C.h i).aM<3):Za i C:=by
 have b:=hB c i d;unfold gz at b;unfold Za;exact have⟨f,g⟩:=e;(λa=>by have:=a;simp [nM]at this;omega)
theorem aAY(i:Nat)(a:i<3):fB Tryz.prog 49 (Rk i) cn [] (cW λC=>⟨⟨some (0<=(C.h i).aM/\(C.h i).aM<3),[],cx aS 0 (C.set i (kH (C.h i)))⟩⟩) []:=by
 refine g6 λC b c=>eX (abF i) (avz i C) (Za i C) (bZ 10 (aR aiw ba) (az (Ax i a) (az (rJ i a) (az (aix i a) bY)))) Tryz.func49 (List.replicate 31 .f++List.replicate 62 .l++[.f,.f]++List.replicate 7 .l) ?_ ?_ (aDm i a C b c)
 .exact Υ
 .exact Υ
theorem aD5(i:Nat)(a:i<3):gW 49 (Rk i):=
 aAY i a
theorem vt(i:Nat)(a:i<3):gX 49 (Rk i):=hi g4 Tryz.func49 (aD5 i a)
end
def Dr(h:N):N:=let a:=jX h.e h.lt h.li h.co;{(fI (A2 h.co a h.fL h.dx h.fx h.eN) h)with e:=(ry h.e h.lt h.li h.co),lt:=(DG h.e h.lt h.li h.co),li:=(sX h.e h.lt h.li h.co),b9:=h.co,g9:=a,hE:=h.fL,fU:=h.dx,dW:=h.fx,fT:=h.eN}
def o3(h:N):N:=N.bif (h.co==h.e) h (N.bif (gu (A2 h.co (jX h.e h.lt h.li h.co) h.fL h.dx h.fx h.eN) h) (Dr h) (fI (A2 h.co (jX h.e h.lt h.li h.co) h.fL h.dx h.fx h.eN) h))
def Rz(i:Nat):dv:=⟨[.fZ 0 (33*i)],cn,fp,e9,cW λC=>⟨⟨some ((C.h i).co<=4194304),[],cx aS 0 (C.set i (o3 (C.h i)))⟩⟩⟩
def abO(i:Nat):c2:=⟨.ff true [] [] (g8 i aS 0 [] 0) (g7 i aS),[],[]++gA i aS,⟨[],[]⟩⟩
def avI(i:Nat)(C:aq):cz (abO i).ck:=let a:=C.h i;let b:=jX a.e a.lt a.li a.co;(.ae (.ae (.ae (.ae (.b5 ⟨([Ρ i 0,U,U,U,.ptr 10 0]++us 35 ([.bool (gu (A2 a.co b a.fL a.dx a.fx a.eN) a)]++us 19 ([]))),cA aS 1 (C.set i (fI (A2 a.co b a.fL a.dx a.fx a.eN) a)) [(10,[c a.co,c b,c a.fL,aV 8 ho a.dx,c a.fx,aV 7 hP a.eN])]⟩ .z)))))
def Zi(i:Nat)(C:aq):Prop:=(((C.h i).co==(C.h i).e)=false->qK (A2 (C.h i).co (jX (C.h i).e (C.h i).lt (C.h i).li (C.h i).co) (C.h i).fL (C.h i).dx (C.h i).fx (C.h i).eN)/\(gu (A2 (C.h i).co (jX (C.h i).e (C.h i).lt (C.h i).li (C.h i).co) (C.h i).fL (C.h i).dx (C.h i).fx (C.h i).eN) (C.h i)=true->(C.h i).co<=9223372036854775807))
def aDu(i:Nat)(c:i<3)(C:aq)(b:fa C)(f:(C.h i).co<=4194304):Zi i C:=by
 have a:=hB b i c;unfold gz at a;unfold Zi;exact(λd=>⟨by apply tA,λe=>Ω⟩)
def aA_(i:Nat)(a:i<3):fB Tryz.prog 62 (Rz i) cn [] (cW λC=>⟨⟨some ((C.h i).co<=4194304),[],cx aS 0 (C.set i (o3 (C.h i)))⟩⟩) []:=by
 refine g6 λC b c=>eX (abO i) (avI i C) (Zi i C) (bZ 10 (aR OX (aR aiE ba)) (az (IT i a) bY)) Tryz.func62 (List.replicate 31 .f++List.replicate 62 .l++[.f,.f]++List.replicate 7 .l) ?_ ?_ (aDu i a C b c)
 .exact Υ
 .exact Υ
def aEg(i:Nat)(a:i<3):gW 62 (Rz i):=
 aA_ i a
def az5(i:Nat)(a:i<3):gX 62 (Rz i):=hi g4 Tryz.func62 (aEg i a)
section
variable(i:Nat)(ms:ai)(h:N)
def HH:Int:=cond (!(ru h.e h.lt h.li ms.j ms.m)) h.D (cond (decide (h.bl>=0)) (cond (h.bl !=ms.r) h.D (cond (decide (h.bl<0)) (dt h.D ms.r h).D h.D)) (cond (decide (h.bl<0)) (dt h.D ms.r h).D h.D))
def MJ:Int:=cond (!(ru h.e h.lt h.li ms.j ms.m)) h.bl (cond (decide (h.bl>=0)) (cond (h.bl !=ms.r) h.bl (cond (decide (h.bl<0)) (dt h.D ms.r h).bl h.bl)) (cond (decide (h.bl<0)) (dt h.D ms.r h).bl h.bl))
def Dc:I Int:=cond (!(ru h.e h.lt h.li ms.j ms.m)) h.a_ (cond (decide (h.bl>=0)) (cond (h.bl !=ms.r) h.a_ (cond (decide (h.bl<0)) (dt h.D ms.r h).a_ h.a_)) (cond (decide (h.bl<0)) (dt h.D ms.r h).a_ h.a_))
def MK:Int:=cond (!(ru h.e h.lt h.li ms.j ms.m)) h.bp (cond (decide (h.bl>=0)) (cond (h.bl !=ms.r) h.bp (cond (decide (h.bl<0)) (dt h.D ms.r h).bp h.bp)) (cond (decide (h.bl<0)) (dt h.D ms.r h).bp h.bp))
def Dd:Bool:=cond (!(ru h.e h.lt h.li ms.j ms.m)) true (cond (decide (h.bl>=0)) (cond (h.bl !=ms.r) true (cond (decide (h.bl<0)) (!(iu h.D ms.r h)) false)) (cond (decide (h.bl<0)) (!(iu h.D ms.r h)) false))
def xd:N:={h with D:=(HH ms h),bl:=(MJ ms h),a_:=(Dc ms h),bp:=(MK ms h)}
def m7:N:=N.bif (Dd ms h) (lW ms.r (xd ms h)) (dn ms.r (⟨0,0,4,HH ms h,0,0,false,0,(B:I ax),0,0,0,(B:I ah),0,(B:I ay)⟩:ai) (xd ms h))
def Rm:dv:=⟨[.fZ 0 (33*i),.g [a,a,a,a,a,a,l,a,.ab dT,a,a,a,.ab bx,a,.ab b8]],cn,fp,e9,λ(b c j k m n:Int) o (p:Int) q (r d e:Int) f (g:Int) h=>cW λC=>⟨⟨none,[],cx aS 0 (C.set i (m7 (⟨b,c,j,k,m,n,o,p,q,r,d,e,f,g,h⟩:ai) (C.h i)))⟩⟩⟩
def abG:c2:=⟨.ff true [] [] (g8 i aS 0 [] 0) (g7 i aS),[],[]++gA i aS,⟨[],[]⟩⟩
def avA(C:aq):cz (abG i).ck:=.ae (.ae (.s (.j ⟨9007199254741001,[],[(.h 0 (33*i+4),a),(.h 0 (33*i+5),a),(.h 0 (33*i+30),.ab bs),(.h 0 (33*i+31),a),(.t 53,l)],[],.f⟩ .z (.b5 ⟨([Ρ i 0,U,U,.ptr 10 0]++us 49 ([.bool (Dd ms (C.h i))]++us 13 ([]))),cA aS 1 (C.set i (xd ms (C.h i))) [(10,jw ms)]⟩ (.s (.ae (.b5 ⟨([Ρ i 0,U,U,.ptr 10 0]++us 63 ([])),cA aS 1 (C.set i (lW ms.r (xd ms (C.h i)))) [(10,jw ms)]⟩ .z)) .z))) (.nm [(0,(33*i+4))])))
theorem aA0(i:Nat)(a:i<3)(ms:ai):fB Tryz.prog 51 (Rm i) cn [] (cW λC=>⟨⟨none,[],cx aS 0 (C.set i (m7 ms (C.h i)))⟩⟩) (jw ms):=by
 refine g6 λC b=>eX (abG i) (avA i ms C) True (bZ 10 (aR XO ba) (az (rJ i a) (az (rK i a) (az (Ay i a) bY)))) Tryz.func51 (List.replicate 31 .f++List.replicate 62 .l++[.f,.f]++List.replicate 7 .l) ?_ ?_ trivial
 .exact Υ
 .exact Υ
theorem aD7(i:Nat)(b:i<3):gW 51 (Rm i):=
 kt (bF:=[a,a,a,a,a,a,l,a,.ab dT,a,a,a,.ab bx,a,.ab b8]) λs c=>Eq.mp Υ (aA0 i b ⟨s.1,s.2.1,s.2.2.1,s.2.2.2.1,s.2.2.2.2.1,s.2.2.2.2.2.1,s.2.2.2.2.2.2.1,s.2.2.2.2.2.2.2.1,s.2.2.2.2.2.2.2.2.1,s.2.2.2.2.2.2.2.2.2.1,s.2.2.2.2.2.2.2.2.2.2.1,s.2.2.2.2.2.2.2.2.2.2.2.1,s.2.2.2.2.2.2.2.2.2.2.2.2.1,s.2.2.2.2.2.2.2.2.2.2.2.2.2.1,s.2.2.2.2.2.2.2.2.2.2.2.2.2.2.1⟩)
theorem vu(i:Nat)(a:i<3):gX 51 (Rm i):=hi g4 Tryz.func51 (aD7 i a)
end
section
def mx(A:Int):Nat->Int->Int->I aw->Int×Int×I aw
 |0,_,_,_=>default
 |k+1,b,f,bk=>cond (decide (f<=A)) (mx A k f (i64 (f+20)) (I.cut (p_ b f bk) bk.n)) (b,f,bk)
variable(A bC:Int)(j2 g:I aw)
def m6:Int×Int×I aw:=mx A (toNat (A+21-20)+1) 0 20 g
def k9(A bC:Int):Nat->Int->Int->I aw->Int×Int×I aw×Int×Int×Bool
 |0,_,_,_=>default
 |k+1,b,a,c=>cond (decide (a<=A)) (k9 A bC k a (i64 (a+i64 (2*bC))) (I.cut (pA 900001 b (i64 (b+bC)) a c) c.n)) (b,a,c,a,A,decide (a<=A))
def gR:Int×Int×I aw×Int×Int×Bool:=k9 A bC (toNat (A+2*bC+1- (i64 (2*bC)))+1) 0 (i64 (2*bC)) j2
def xa:I aw:=cond (decide (i64 ((gR A bC j2).1+bC)<A)) (I.cut (pA 900001 (gR A bC j2).1 (i64 ((gR A bC j2).1+bC)) A (gR A bC j2).2.2.1) (gR A bC j2).2.2.1.n) (gR A bC j2).2.2.1
def w_(A:Int):Nat->Int->Int->Int->I aw->I aw
 |0,_,_,_,_=>default
 |k+1,bC,_,_,j2=>cond (decide (bC<A)) (w_ A k (i64 (bC*2)) (gR A bC j2).1 (gR A bC j2).2.1 (xa A bC j2)) j2
def VC:I aw:=w_ A (toNat (A-20)+1) 20 (m6 A g).1 (m6 A g).2.1 (I.cut (p_ (m6 A g).1 A (m6 A g).2.2) (m6 A g).2.2.n)
def sI:I aw:=VC A g
def YT(A:Int)(g:A<=900000): ∀(k:Nat) (a b:Int) (s:I aw),0<=a->a<=A->b=a+20->toNat (A+21-b)<k->(0<=(mx A k a b s).1/\(mx A k a b s).1<=A)/\(mx A k a b s).2.2.n=s.n
 |0,_,_,_,_,_,_,c=>absurd c (dJ _)
 |k+1,a,b,s,d,f,h,c=>by
  rw[mx]
  by_cases e:b<=A
  .rw[bm e,au,E (b+20)];exact YT A g k b (b+20) _ Ω e rfl Ω
  .rw[a8 e,aB];exact⟨⟨d,f⟩,rfl⟩
def akj(A v:Int)(h:0<=A/\A<=900000)(g:20<=v/\v<=1800000): ∀(k:Nat) (a b:Int) (s:I aw),0<=a->a<=A->b=a+2*v->toNat (A+2*v+1-b)<k->(0<=(k9 A v k a b s).1/\(k9 A v k a b s).1<=A)/\(k9 A v k a b s).2.2.1.n=s.n
 |0,_,_,_,_,_,_,c=>absurd c (dJ _)
 |k+1,a,b,s,d,f,i,c=>by
  rw[k9,E (2*v)]
  by_cases e:b<=A
  .rw[bm e,au,E (b+2*v)];exact akj A v h g k b (b+2*v) _ Ω e rfl Ω
  .rw[a8 e,aB];exact⟨⟨d,f⟩,rfl⟩
def aGk(A v:Int)(s:I aw):((0<=A/\A<=900000)/\20<=v/\v<=1800000)->(0<=(gR A v s).1/\(gR A v s).1<=A)/\(gR A v s).2.2.1.n=s.n:=λh=>by
 obtain⟨a,b⟩:=h;have c:=E (2*v);unfold gR;rw[c];exact akj A v a b _ 0 (2*v) s (bz _) a.1 Ω Ω
def ajl(A v:Int)(s:I aw)(h:(0<=A/\A<=900000)/\20<=v/\v<=1800000):(xa A v s).n=s.n:=by
 have t:=aGk A v s h;unfold xa;generalize decide (i64 ((gR A v s).1+v)<A)=b
 cases b
 .exact t.2
 .exact t.2
def akm(A:Int)(d:0<=A/\A<=900000): ∀(k:Nat) (v a b:Int) (s:I aw),20<=v->v<=1800000->toNat (A-v)<k->(w_ A k v a b s).n=s.n
 |0,_,_,_,_,_,_,c=>absurd c (dJ _)
 |k+1,v,a,b,s,f,g,c=>by
  rw[w_]
  by_cases e:v<A
  .rw[bm e,au,E (v*2)];exact(akm A d k (v*2) _ _ _ Ω Ω Ω).trans (ajl A v s ⟨d,f,g⟩)
  .rw[a8 e,aB]
def aCL(A:Int)(g:I aw)(b:A=(g.n:Int)/\g.n<=900000):(sI A g).n=g.n:=by
 have a:(m6 A g).2.2.n=g.n:=by
  by_cases e:(20:Int)<=A
  .have:=YT A Ω (toNat (A+21-20)+1) 0 20 g (bz _) Ω rfl Ω;exact this.2
  .have:=YT A Ω (toNat (A+21-20)+1) 0 20 g (bz _) Ω rfl Ω;exact this.2
 exact(akm A ⟨Ω,Ω⟩ _ 20 _ _ _ Δ Δ Ω).trans a
def ao4:cj:=⟨[.o 0,.v a,.kB 22 []],[(.h 0 0,.ad c3)],[[U]],λ(A:Int) g=>⟨⟨some (A=(g.n:Int)/\g.n<=900000),[],[[(aG.ad c3).av (I.cut (sI A g) g.n)]]⟩⟩⟩
def az1:er 34 ao4:=ev Tryz.func34
 λ(A:Int) g W t=>have y:=I.lI (aCL A g t);Ag (rs:=[]) (H':=[[(aG.ad c3).av (sI A g)]]) (ep ⟨.heap,[],[(.h 0 0,.ad c3)],⟨[],[[U]]⟩⟩ (.ae (.ae (.j ⟨455,[],[],[],.f⟩ (.c6 ⟨455,[],[],[(.t 7,a),(.t 8,a),(.h 0 0,.ad c3)],some 0,false,455,[],[(.t 7,a),(.t 8,a),(.h 0 0,.ad c3)],λk (s:Int×Int×I aw)=>mx A k s.1 s.2.1 s.2.2,.f,λ(s:Int×Int×I aw)=>0<=s.1/\s.1<=A/\s.2.1=s.1+20/\(s.2.2.n:Int)=g.n,λ(s:Int×Int×I aw)=>toNat (A+21-s.2.1),some λ(r:Int×Int×I aw)=>0<=r.1/\r.1<=A/\(r.2.2.n:Int)=g.n⟩ .z) (.ae (.vC ⟨455,[],[],[(.t 6,a),(.t 7,a),(.t 8,a),(.h 0 0,.ad c3)],some 2,false,0,[],[(.h 0 0,.ad c3)],λk (s:Int×Int×Int×I aw)=>w_ A k s.1 s.2.1 s.2.2.1 s.2.2.2,.f,λ(s:Int×Int×Int×I aw)=>20<=s.1/\s.1<=1800000/\(s.2.2.2.n:Int)=g.n,λ(s:Int×Int×Int×I aw)=>toNat (A-s.1),some λ(r:I aw)=>(r.n:Int)=g.n⟩ (λ(j:Int×Int×Int×I aw)=>.ae (.ae (.j ⟨68451041735,[],[],[],.f⟩ (.c6 ⟨8321499591,[],[],[(.t 7,a),(.t 8,a),(.h 0 0,.ad c3)],some 4,false,68451041735,[],[(.t 7,a),(.t 8,a),(.h 0 0,.ad c3),(.t 33,a),(.t 34,a),(.t 35,l)],λk (s:Int×Int×I aw)=>k9 A j.1 k s.1 s.2.1 s.2.2,.f,λ(s:Int×Int×I aw)=>0<=s.1/\s.1<=A/\s.2.1=s.1+2*j.1/\(s.2.2.n:Int)=g.n,λ(s:Int×Int×I aw)=>toNat (A+2*j.1+1-s.2.1),some λ(r:Int×Int×I aw×Int×Int×Bool)=>0<=r.1/\r.1<=A/\(r.2.2.1.n:Int)=g.n⟩ .z) (.j ⟨35465915516584903,[],[(.h 0 0,.ad c3)],[],.f⟩ .z .z))))))))) (let h:=m6 A g;((0<=(0:Int)/\(0:Int)<=A/\(20:Int)=(0:Int)+20/\(g.n:Int)=g.n)/\∀(b f:Int) (bk:I aw),let w:=i64 (f+20);let p:=decide (f<=A);(0<=b/\b<=A/\f=b+20/\(bk.n:Int)=g.n)->(p=true->0<=b/\b<=f/\f<=bk.n/\bk.n<=900000)/\(p=true->(0<=f/\f<=A/\w=f+20/\(bk.n:Int)=g.n)/\toNat (A+21-w)<toNat (A+21-f))/\(p=false->0<=b/\b<=A/\(bk.n:Int)=g.n))/\(0<=h.1/\h.1<=A/\(h.2.2.n:Int)=g.n->(0<=h.1/\h.1<=A/\A<=h.2.2.n/\h.2.2.n<=900000)/\((20<=(20:Int)/\(20:Int)<=1800000/\(h.2.2.n:Int)=g.n)/\∀(bC H J:Int) (j2:I aw),let x:=i64 (2*bC);let q:=decide (bC<A);let n:=i64 (bC*2);let e:=gR A bC j2;let m:=i64 (e.1+bC);(20<=bC/\bC<=1800000/\(j2.n:Int)=g.n)->(q=true->((0<=(0:Int)/\(0:Int)<=A/\x=(0:Int)+2*bC/\(j2.n:Int)=g.n)/\∀(d c:Int) (i:I aw),let v:=i64 (d+bC);let o:=decide (c<=A);let u:=i64 (c+x);(0<=d/\d<=A/\c=d+2*bC/\(i.n:Int)=g.n)->(o=true->0<=d/\d<v/\v<c/\c<=i.n/\i.n<=900000/\c-d<(900001:Int))/\(o=true->(0<=c/\c<=A/\u=c+2*bC/\(i.n:Int)=g.n)/\toNat (A+2*bC+1-u)<toNat (A+2*bC+1-c))/\(o=false->0<=d/\d<=A/\(i.n:Int)=g.n))/\(0<=e.1/\e.1<=A/\(e.2.2.1.n:Int)=g.n->decide (m<A)=true->0<=e.1/\e.1<m/\m<A/\A<=e.2.2.1.n/\e.2.2.1.n<=900000/\A-e.1<(900001:Int)))/\(q=true->(20<=n/\n<=1800000/\((xa A bC j2).n:Int)=g.n)/\toNat (A-n)<toNat (A-bC))/\(q=false->(j2.n:Int)=g.n)))) (bZ 1 ba (az az6 (az (aiz 900001) bY))) Tryz.func34 (have⟨T,V⟩:=t;⟨⟨Ω,λb f bk Q=>⟨λD=>have:=al D;Ω,⟨λF=>have:=al F;have:=E (f+20);Ω,λM=>Ω⟩⟩⟩,λP=>⟨Ω,⟨Ω,λbC H J j2 R=>⟨λN=>⟨⟨have:=E (2*bC);Ω,λd c i S=>⟨λG=>have:=al G;have:=E (d+bC);Ω,⟨λz=>have:=al z;have:=E (2*bC);have:=E (c+i64 (2*bC));Ω,λK=>Ω⟩⟩⟩,λO B=>have:=al B;have:=E ((gR A bC j2).1+bC);Ω⟩,⟨λC=>have:=al C;have:=ajl A bC j2;have:=E (bC*2);Ω,λL=>Ω⟩⟩⟩⟩⟩)) rfl (show([[(aG.ad c3).av (sI A g)]]:Heap)=[[(aG.ad c3).av (I.cut (sI A g) g.n)]] by rw[y])
end
def hR(A:I aw):I aw:=I.cut (sI (A.n:Int) A) A.n
def aCJ(A:I aw)(a:A.n<=900000):(hR A).n=A.n:=rfl
def ao0:cj:=⟨[.o 0,.kB 22 []],[(.h 0 0,.ad c3)],[[U]],λA=>⟨⟨some (A.n<=900000),[],[[(aG.ad c3).av (I.cut (hR A) A.n)]]⟩⟩⟩
def azX:er 21 ao0:=ev Tryz.func21
 λA c b=>have a:=I.lI (aCJ A b);Ag (rs:=[]) (H':=[[(aG.ad c3).av (hR A)]]) (ep ⟨.heap,[],[(.h 0 0,.ad c3)],⟨[],[[U]]⟩⟩ .z ((A.n:Int)=(A.n:Int)/\A.n<=900000) (bZ 1 ba (az az1 bY)) Tryz.func21 Ω) rfl (show([[(aG.ad c3).av (hR A)]]:Heap)=[[(aG.ad c3).av (I.cut (hR A) A.n)]] by rw[a])
