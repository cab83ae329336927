import Derived.Test.YtcpfnfkibnjcfaaGreatDoorXi
import Derived.Test.YtcpfnfkibnjcfaaGreatDoorXj
open Go.IntKind (i64 u64 u8)
open Int (toNat)
set_option maxRecDepth 100000
set_option maxHeartbeats 4000000
set_option linter.all false
noncomputable section
namespace Go.Proofs.YtcpfnfkibnjcfaaGreatDoor
open Go Go.RowKit Go.ag
section
variable(i:Nat)(A:Int)(h:N)(aj:I bI)(b:Int)(f:I ah)(bk:Int)(bS:I ay)(c7 hG:Int)
def VL:Int:=let a:=h.li.at' (toNat (i64 (i64 (i64 (c7+1)-h.e)-1)));(cond (!a.G) (afs b f bk bS a.K a.q a.j a.m a.ak a.aA a.i a.aJ) b)
def VM:I ah:=let a:=h.li.at' (toNat (i64 (i64 (i64 (c7+1)-h.e)-1)));(cond (!a.G) (U5 b f bk bS a.K a.q a.j a.m a.ak a.aA a.i a.aJ) f)
def VN:Int:=let a:=h.li.at' (toNat (i64 (i64 (i64 (c7+1)-h.e)-1)));(cond (!a.G) (aft b f bk bS a.K a.q a.j a.m a.ak a.aA a.i a.aJ) bk)
def VO:I ay:=let a:=h.li.at' (toNat (i64 (i64 (i64 (c7+1)-h.e)-1)));(cond (!a.G) (U6 b f bk bS a.K a.q a.j a.m a.ak a.aA a.i a.aJ) bS)
def agk:Int:=let a:=h.li.at' (toNat (i64 (i64 (i64 (c7+1)-h.e)-1)));(cond (!a.G) (afu b f bk bS a.K a.q a.j a.m a.ak a.aA a.i a.aJ) 0)
def agl:z:=let a:=h.li.at' (toNat (i64 (i64 (i64 (c7+1)-h.e)-1)));(cond (!a.G) (afv b f bk bS a.K a.q a.j a.m a.ak a.aA a.i a.aJ) ε)
def agm:Int:=let a:=h.li.at' (toNat (i64 (i64 (i64 (c7+1)-h.e)-1)));(cond (!a.G) (afw b f bk bS a.K a.q a.j a.m a.ak a.aA a.i a.aJ) 0)
def agn:I z:=let a:=h.li.at' (toNat (i64 (i64 (i64 (c7+1)-h.e)-1)));(cond (!a.G) (afx b f bk bS a.K a.q a.j a.m a.ak a.aA a.i a.aJ) (B:I z))
def auK:N:={h with fL:=(VL h b f bk bS c7),dx:=(VM h b f bk bS c7),fx:=(VN h b f bk bS c7),eN:=(VO h b f bk bS c7),co:=(i64 (c7+1))}
def agj:Bool:=let b:=i64 (c7+1);let a:=h.ws.at' hG.toNat;(cond (a.r==b) (a.K==(h.li.at' (toNat (i64 (i64 (b-h.e)-1)))).r) false)
def Dw(c:I bI):I bI:=let a:=h.ws.at' hG.toNat;(cond (agj h c7 hG) (I.app c (I.lit ([(⟨h.aM,a.G,a.q,a.j,a.m,a.ak,a.aA,a.i,agk h b f bk bS c7,agl h b f bk bS c7,agm h b f bk bS c7,agn h b f bk bS c7⟩:bI)]:List bI))) c)
def Dv(h:N)(b:Int)(f:I ah)(bk:Int)(bS:I ay)(c7:Int):Nat->Int->I bI->Int×I bI×Bool
 |0,_,_=>default
 |k+1,hG,a=>let c:=decide (hG<h.ws.n);(cond c (Dv h b f bk bS c7 k (i64 (hG+1)) (Dw h b f bk bS c7 hG a)) (hG,a,c))
def MM(a:I bI):Int×I bI×Bool:=Dv h b f bk bS c7 (toNat ((h.ws.n:Int)-0)+1) 0 a
def nO(A:Int)(h:N):Nat->Int->I ah->Int->I ay->Int->I bI->Int×I ah×Int×I ay×Int×I bI
 |0,_,_,_,_,_,_=>default
 |k+1,b,f,bk,bS,c7,a=>cond (decide (c7<A)) (nO A h k (VL h b f bk bS c7) (VM h b f bk bS c7) (VN h b f bk bS c7) (VO h b f bk bS c7) (i64 (c7+1)) (MM h b f bk bS c7 a).2.1) (b,f,bk,bS,c7,a)
def Dx:Int×I ah×Int×I ay×Int×I bI:=nO A h (toNat (A-h.co)+1) h.fL h.dx h.fx h.eN h.co aj
def zM:I bI:=(Dx A h aj).2.2.2.2.2
def mC:N:=let a:=Dx A h aj;{h with fL:=a.1,dx:=a.2.1,fx:=a.2.2.1,eN:=a.2.2.2.1,co:=a.2.2.2.2.1}
theorem aiW(h:N)(a:Int)(b:I ah)(c:Int)(d:I ay)(e:Int)(j:h.ws.n<=549755813888): ∀(k:Nat) (v:Int) (s:I bI),0<=v->v<=h.ws.n->toNat ((h.ws.n:Int)-v)<k->(((Dv h a b c d e k v s).2.1.n:Nat):Int)<=s.n+((h.ws.n:Int)-v)
 |0,_,_,_,_,g=>absurd g (dJ _)
 |k+1,v,s,l,m,g=>by
  show(((cond (decide (v<h.ws.n)) (Dv h a b c d e k (i64 (v+1)) (Dw h a b c d e v s)) (v,s,decide (v<h.ws.n))).2.1.n:Nat):Int)<=_
  by_cases f:v<(h.ws.n:Int)
  .rw[bm f,au];have n:=E (v+1);have o:=aiW h a b c d e j k (i64 (v+1)) (Dw h a b c d e v s) Ω Ω Ω;have i:=KQ (s:=Dw h a b c d e v s) _ _ _ rfl;simp only[I.qN,I.n1,dE,gx]at i;omega
  .rw[a8 f,aB];show(s.n:Int)<=_;omega
theorem ajI(h:N)(a:Int)(b:I ah)(c:Int)(d:I ay)(e:Int)(s:I bI)(f:h.ws.n<=549755813888):(((MM h a b c d e s).2.1.n:Nat):Int)<=s.n+(h.ws.n:Int):=by
 have g:=aiW h a b c d e f (toNat ((h.ws.n:Int)-0)+1) 0 s Ω Ω Ω;show(((Dv h a b c d e (toNat ((h.ws.n:Int)-0)+1) 0 s).2.1.n:Nat):Int)<=_;omega
def RD:dv:=⟨[.p 0,.fZ 0 (33*i),.v a],cn,fp,e9,λ(A:Int)=>cW λC=>let b:=C.h i;⟨⟨some (C.told.n<=541000000000/\b.ws.n<=3000/\0<=b.e/\b.e<=b.co/\b.co<=4194304/\A<=b.e+(b.li.n:Int)/\b.li.n<=200),[],cx aS 0 (C.put i (mC A b C.told) C.s (zM A b C.told) C.aU)⟩⟩⟩
def abQ:c2:=⟨.ff true [] [] (g8 i aS 0 [] 0) (g7 i aS),[],[]++gA i aS,⟨[],[]⟩⟩
def avK(C:aq):cz (abQ i).ck:=let e:=C.h i;(.vC ⟨7,[],[],[(.h 0 (33*i+15),a),(.h 0 (33*i+16),.ab bx),(.h 0 (33*i+17),a),(.h 0 (33*i+18),.ab b8),(.h 0 (33*i+19),a),(.h 8 0,.ad kT)],some 0,false,0,[],[(.h 0 (33*i+15),a),(.h 0 (33*i+16),.ab bx),(.h 0 (33*i+17),a),(.h 0 (33*i+18),.ab b8),(.h 0 (33*i+19),a),(.h 8 0,.ad kT)],λk (s:Int×I ah×Int×I ay×Int×I bI)=>nO A e k s.1 s.2.1 s.2.2.1 s.2.2.2.1 s.2.2.2.2.1 s.2.2.2.2.2,.f,λ(s:Int×I ah×Int×I ay×Int×I bI)=>(e.co<=s.2.2.2.2.1/\(s.2.2.2.2.1<=A\/s.2.2.2.2.1=e.co))/\(s.2.2.2.2.2.n:Int)<=C.told.n+(s.2.2.2.2.1-e.co)*3000,λ(s:Int×I ah×Int×I ay×Int×I bI)=>toNat (A-s.2.2.2.2.1),some λ(r:Int×I ah×Int×I ay×Int×I bI)=>(r.2.2.2.2.2.n:Int)<=C.told.n+max (A-e.co) 0*3000⟩ (λ(b:Int×I ah×Int×I ay×Int×I bI)=>let f:=i64 (b.2.2.2.2.1+1);let g:=i64 (f-e.e);let h:=i64 (g-1);let j:=toNat h;let d:=e.li.at' j;(.ae (.ae (.ae (.ae (.j ⟨17592186043591,[],[(.h 0 (33*i+15),a),(.h 0 (33*i+16),.ab bx),(.h 0 (33*i+17),a),(.h 0 (33*i+18),.ab b8),(.h 11 0,a),(.h 11 1,ar),(.h 11 2,a),(.h 11 3,.ab b1)],[],.f⟩ .z (.b5 ⟨([.ptr 0 0,Ρ i 0,c A,U,U,U,.ptr 10 0,.ptr 11 0,U,U,Ρ i 0,Ρ i 0,Ρ i 19,c b.2.2.2.2.1,c A,.bool (decide (b.2.2.2.2.1<A)),Ρ i 0,Ρ i 0,Ρ i 19,c b.2.2.2.2.1,c f,Ρ i 0,Ρ i 19,Ρ i 0,Ρ i 0,Ρ i 6,Ρ i 8,aV 10 eJ e.li,Ρ i 0,Ρ i 0,Ρ i 19,c f,Ρ i 0,Ρ i 0,Ρ i 6,Ρ i 6,c e.e,c g,c h,.ref [c d.r,c d.K,.bool d.G,c d.q,c d.j,c d.m,.str d.ak,.str d.aA,.str d.i,c d.aJ],.agg [c d.r,c d.K,.bool d.G,c d.q,c d.j,c d.m,.str d.ak,.str d.aA,.str d.i,c d.aJ],.ptr 10 2,.bool d.G,.bool (!d.G)]++us 57 ([])),cA aS 2 (C.put i (auK e b.1 b.2.1 b.2.2.1 b.2.2.2.1 b.2.2.2.2.1) C.s b.2.2.2.2.2 C.aU) [(10,[c d.r,c d.K,.bool d.G,c d.q,c d.j,c d.m,.str d.ak,.str d.aA,.str d.i,c d.aJ]),(11,[c (agk e b.1 b.2.1 b.2.2.1 b.2.2.2.1 b.2.2.2.2.1),.str (agl e b.1 b.2.1 b.2.2.1 b.2.2.2.1 b.2.2.2.2.1),c (agm e b.1 b.2.1 b.2.2.1 b.2.2.2.1 b.2.2.2.2.1),aV 1 c5 (agn e b.1 b.2.1 b.2.2.1 b.2.2.2.1 b.2.2.2.2.1)])]⟩ (.ae (.c6 ⟨72634072382417403079,[],[],[(.t 65,a),(.h 8 0,.ad kT)],some 2,false,146421048677255609543,[],[(.t 65,a),(.h 8 0,.ad kT),(.t 66,l)],λk (s:Int×I bI)=>Dv e b.1 b.2.1 b.2.2.1 b.2.2.2.1 b.2.2.2.2.1 k s.1 s.2,.f,λ(s:Int×I bI)=>(0<=s.1/\s.1<=(e.ws.n:Int))/\(s.2.n:Int)<=b.2.2.2.2.2.n+(s.1-0),λ(s:Int×I bI)=>toNat ((e.ws.n:Int)-s.1),some λ(r:Int×I bI×Bool)=>(r.2.1.n:Int)<=b.2.2.2.2.2.n+max ((e.ws.n:Int)-0) 0⟩ (.ae (.ae (.j ⟨4986817853006432924860103,[.b 13],[(.h 8 0,.ad kT)],[],.f⟩ (.ae (.j ⟨4986817853006432924860103,[],[(.t 76,l),(.t 82,l)],[],.f⟩ .z .z)) .z)))))))))))))
def Zk(i:Nat)(A:Int)(C:aq):Prop:=((((C.h i).co<=(C.h i).co/\((C.h i).co<=A\/(C.h i).co=(C.h i).co))/\(C.told.n:Int)<=C.told.n+((C.h i).co- (C.h i).co)*3000)/\∀(b:Int) (f:I ah) (bk:Int) (bS:I ay) (c7:Int) (a:I bI),((C.h i).co<=c7/\(c7<=A\/c7=(C.h i).co))/\(a.n:Int)<=C.told.n+(c7- (C.h i).co)*3000->(decide (c7<A)=true->((0:Int)<=i64 (i64 (i64 (c7+1)- (C.h i).e)-1)/\i64 (i64 (i64 (c7+1)- (C.h i).e)-1)<(((C.h i).li.n:Nat):Int))/\(((0<=(0:Int)/\(0:Int)<=(((C.h i).ws.n:Nat):Int))/\(a.n:Int)<=a.n+((0:Int)-0))/\∀(hG:Int) (c:I bI),(0<=hG/\hG<=(((C.h i).ws.n:Nat):Int))/\(c.n:Int)<=a.n+(hG-0)->(decide (hG<(((C.h i).ws.n:Nat):Int))=true->(((0:Int)<=hG/\hG<(((C.h i).ws.n:Nat):Int))/\toNat hG<(C.h i).ws.n)/\(agj (C.h i) c7 hG=true->c.n+1<=549755813888))/\(decide (hG<(((C.h i).ws.n:Nat):Int))=true->((0<=i64 (hG+1)/\i64 (hG+1)<=(((C.h i).ws.n:Nat):Int))/\((Dw (C.h i) b f bk bS c7 hG c).n:Int)<=a.n+(i64 (hG+1)-0))/\toNat ((((C.h i).ws.n:Nat):Int)- (i64 (hG+1)))<toNat ((((C.h i).ws.n:Nat):Int)-hG))/\(decide (hG<(((C.h i).ws.n:Nat):Int))=false->(c.n:Int)<=a.n+max ((((C.h i).ws.n:Nat):Int)-0) 0)))/\(decide (c7<A)=true->(((C.h i).co<=i64 (c7+1)/\(i64 (c7+1)<=A\/i64 (c7+1)=(C.h i).co))/\(((MM (C.h i) b f bk bS c7 a).2.1.n:Nat):Int)<=C.told.n+(i64 (c7+1)- (C.h i).co)*3000)/\toNat (A- (i64 (c7+1)))<toNat (A-c7))/\(decide (c7<A)=false->(a.n:Int)<=C.told.n+max (A- (C.h i).co) 0*3000))
theorem aDx(i:Nat)(k:i<3)(A:Int)(C:aq)(h:fa C)(l:C.told.n<=541000000000/\(C.h i).ws.n<=3000/\0<=(C.h i).e/\(C.h i).e<=(C.h i).co/\(C.h i).co<=4194304/\A<=(C.h i).e+((C.h i).li.n:Int)/\(C.h i).li.n<=200):Zk i A C:=by
 have g:=hB h i k;unfold gz at g;unfold Zk;exact have⟨u,v,w,x,y,z,B⟩:=l;(⟨Ω,λb f bk bS c7 m r=>⟨λc=>⟨have:=al c;have:=E (c7+1);have:=E (i64 (c7+1)- (C.h i).e);have:=E (i64 (i64 (c7+1)- (C.h i).e)-1);Ω,⟨Ω,λhG n t=>⟨λa=>⟨⟨have:=al a;Ω,have:=al a;Ω⟩,λo=>Ω⟩,⟨λd=>by have:=al d;have j:=KQ (s:=(Dw (C.h i) b f bk bS c7 hG n)) _ _ _ rfl;(try simp only[I.qN,I.n1,I.vM,dE,gx]at j);have:=E (hG+1);omega,λp=>Ω⟩⟩⟩⟩,⟨λe=>have:=al e;have:=ajI (C.h i) b f bk bS c7 m Ω;have:=E (c7+1);Ω,λq=>Ω⟩⟩⟩)
theorem aBd(i:Nat)(a:i<3)(A:Int):fB Tryz.prog 76 (RD i) cn [] (cW λC=>⟨⟨some (C.told.n<=541000000000/\(C.h i).ws.n<=3000/\0<=(C.h i).e/\(C.h i).e<=(C.h i).co/\(C.h i).co<=4194304/\A<=(C.h i).e+((C.h i).li.n:Int)/\(C.h i).li.n<=200),[],cx aS 0 (C.put i (mC A (C.h i) C.told) C.s (zM A (C.h i) C.told) C.aU)⟩⟩) [c A]:=by
 refine g6 λC b d=>eX (abQ i) (avK i A C) (Zk i A C) (bZ 10 (aR azp ba) bY) Tryz.func76 [] ?_ ?_ (aDx i a A C b d)
 .exact Υ
 .exact Υ
theorem aEk(i:Nat)(b:i<3):gW 76 (RD i):=
 kt (bF:=[a]) λs c=>Eq.mp Υ (aBd i b s.1)
theorem aiA(i:Nat)(a:i<3):gX 76 (RD i):=hi g4 Tryz.func76 (aEk i a)
end
def N.ic(j:Nat)(n:N):N:=match j with
 |0=>{n with v0:=true}
 |1=>{n with v1:=true}
 |_=>{n with v2:=true}
def N.avc(j:Nat)(n:N):Int:=match j with
 |0=>n.eL
 |1=>n.ef
 |_=>n.ek
def N.agS(j:Nat)(n:N):Int:=match j with
 |0=>n.hX
 |1=>n.q1
 |_=>n.gw
def N.sp(j:Nat)(x:Int)(n:N):N:=match j with
 |0=>{n with eL:=x}
 |1=>{n with ef:=x}
 |_=>{n with ek:=x}
def N.aFZ(j:Nat)(x y:Int)(n:N):N:=match j with
 |0=>{n with eL:=x,hX:=y}
 |1=>{n with ef:=x,q1:=y}
 |_=>{n with ek:=x,gw:=y}
section
variable(b:Int)(bk:Bool)(u:I Int)(o:Bool)(v:I ah)(d:I ay)
def CK:I Int:=aP (uJ (cH u o) (cU u o)) (zk (cH u o) (cU u o))
def Mc:Bool:=aQ (uJ (cH u o) (cU u o)) (zk (cH u o) (cU u o))
def GR:I ah:=let b:=cU u o;let a:=cH u o;(I.app v (I.lit ([(⟨iN u o,GU a b,GV a b,GX a b,CL a b,CM a b,CN a b,c_ (uJ a b) (zk a b)⟩:ah)]:List ah)))
def anW:cj:=⟨[.p 0,.p 1],[(.h 0 0,a),(.h 0 2,a),(.h 2 0,.ab bs),(.h 2 1,l),(.h 3 0,.ad bx),(.h 4 0,.ad b8)],[[U,.own 3 0,U,.own 4 0],[.ptr 2 0],[U,U],[U],[U]],λ(A g:Int) u o v d=>⟨⟨some (aN u/\v.n<=1000),[],[[c A,.own 3 (GR u o v).n,c g,.own 4 (d).n],[.ptr 2 0],[aV 1 cO (CK u o),.bool (Mc u o)],[(aG.ad bx).av (GR u o v)],[(aG.ad b8).av d]]⟩⟩⟩
def ay7:er 122 anW:=ev Tryz.func122
 λ(A g:Int) u h o v i d j b=>ep ⟨.heap,[],[(.h 0 0,a),(.h 0 2,a),(.h 2 0,.ab bs),(.h 2 1,l),(.h 3 0,.ad bx),(.h 4 0,.ad b8)],⟨[],[[U,.own 3 0,U,.own 4 0],[.ptr 2 0],[U,U],[U],[U]]⟩⟩ .z (aN u/\aN (cH u o)/\v.n+1<=549755813888) (bZ 5 ba (az xZ (az Aw (az ay8 bY)))) Tryz.func122 (have⟨e,f⟩:=b;⟨Θ,⟨Θ,Ω⟩⟩)
def hF{u:I Int}{o:Bool}(h:aN u):aN (CK u o):=eM (hc (eP h))
def aBv(u:I Int)(o:Bool)(v:I ah):(GR u o v).n=v.n+1:=rfl
def GI:Bool:=cond (decide (b>0)) (!bk) false
def zg:Nat->Int->I Int->Bool->I ah->I Int×Bool×I ah
 |0,_,_,_,_=>default
 |k+1,b,f,bk,bS=>cond (GI b bk) (zg k (i64 (b-1)) (CK f bk) (Mc f bk) (GR f bk bS)) (f,bk,bS)
def UP:I Int×Bool×I ah:=zg (toNat (cI u o)+1) (cI u o) (cc u o) (cp u o) v
def q6:I Int:=(UP u o v).1
def uH:Bool:=(UP u o v).2.1
def q7:I ah:=(UP u o v).2.2
def anR:cj:=⟨[.p 2,.kB 122 [0,1]],[(.h 0 0,a),(.h 0 2,a),(.h 2 0,.ab bs),(.h 2 1,l),(.h 3 0,.ad bx),(.h 4 0,.ad b8)],[[U,.own 3 0,U,.own 4 0],[.ptr 2 0],[U,U],[U],[U]],λ(A g:Int) u o v d=>let b:=q7 u o v;⟨⟨some (aN u/\v.n<=10),[],[[c A,.own 3 (b).n,c g,.own 4 (d).n],[.ptr 2 0],[aV 1 cO (q6 u o v),.bool (uH u o v)],[(aG.ad bx).av b],[(aG.ad b8).av d]]⟩⟩⟩
def ay2:er 121 anR:=ev Tryz.func121
 λ(A g:Int) u t o v w d x m=>ep ⟨.heap,[],[(.h 0 0,a),(.h 0 2,a),(.h 2 0,.ab bs),(.h 2 1,l),(.h 3 0,.ad bx),(.h 4 0,.ad b8)],⟨[],[[U,.own 3 0,U,.own 4 0],[.ptr 2 0],[U,U],[U],[U]]⟩⟩ (.ae (.c6 ⟨19,[],[],[(.t 4,a),(.h 2 0,.ab bs),(.h 2 1,l),(.h 3 0,.ad bx)],some 0,false,0,[],[(.h 2 0,.ab bs),(.h 2 1,l),(.h 3 0,.ad bx)],λk (s:Int×I Int×Bool×I ah)=>zg k s.1 s.2.1 s.2.2.1 s.2.2.2,.f,λ(s:Int×I Int×Bool×I ah)=>aN s.2.1/\0<=s.1/\s.1<=255/\(s.2.2.2.n:Int)<=(v.n:Int)+255-s.1,λ(s:Int×I Int×Bool×I ah)=>toNat s.1,none⟩ (.s (.j ⟨33683,[],[(.t 9,l),(.t 15,l)],[],.f⟩ .z .z) .z))) ((aN (cc u o)/\0<=cI u o/\cI u o<=255/\(v.n:Int)<=(v.n:Int)+255- (cI u o))/\∀(b:Int) (f:I Int) (bk:Bool) (bS:I ah),let i:=GI b bk;let c:=i64 (b-1);(aN f/\0<=b/\b<=255/\(bS.n:Int)<=(v.n:Int)+255-b)->(i=true->aN f/\bS.n<=1000)/\(i=true->(aN (CK f bk)/\0<=c/\c<=255/\((GR f bk bS).n:Int)<=(v.n:Int)+255-c)/\toNat c<toNat b)) (bZ 5 ba (az ay7 (az ti bY))) Tryz.func121 (have⟨p,q⟩:=m;⟨⟨Θ,have:=EA u o Θ;Ω⟩,λb f bk bS j=>have r:=j.1;⟨λn=>⟨Θ,Ω⟩,λh=>⟨⟨Θ,by have:=h;(try simp [GI]at this);have:=aBv f bk bS;have:=E (b-1);omega⟩,by have:=h;(try simp [GI]at this);have:=E (b-1);omega⟩⟩⟩)
def al2: ∀(m:Nat) (n:Int) (s:I Int) (b:Bool) (l:I ah),aN s->aN (zg m n s b l).1
 |0,_,_,_,_,_=>λi=>by show(0:Int)<=0/\(0:Int)<=255;omega
 |m+1,n,s,b,l,h=>by
  rw[zg]
  cases GI n b
  .exact h
  .exact al2 m _ _ _ _ (hF h)
def h1{u:I Int}{o:Bool}{v:I ah}(h:aN u):aN (q6 u o v):=al2 _ _ _ _ _ (eW h)
def CO:I Int:=let d:=aQ (aP u o) (aQ u o);let c:=aP (aP u o) (aQ u o);let b:=aQ c d;let a:=aP c d;let f:=cU (cc a b) (cp a b);let e:=cH (cc a b) (cp a b);(uK (aP e f) (aQ e f))
def Md:Bool:=let d:=aQ (aP u o) (aQ u o);let c:=aP (aP u o) (aQ u o);let b:=aQ c d;let a:=aP c d;let f:=cU (cc a b) (cp a b);let e:=cH (cc a b) (cp a b);(zm (aP e f) (aQ e f))
def GY:I ay:=let i:=aQ u o;let h:=aP u o;let e:=aQ h i;let c:=aP h i;let b:=aQ c e;let a:=aP c e;let k:=cp a b;let j:=cc a b;let g:=cU j k;let f:=cH j k;(I.app d (I.lit ([(⟨c_ u o,c_ h i,c_ c e,cI a b,iN j k,c_ f g,zl (aP f g) (aQ f g)⟩:ay)]:List ay)))
def anZ:cj:=⟨[.p 0,.p 1],[(.h 1 0,a),(.h 1 2,a),(.h 2 0,.ab bs),(.h 2 1,l),(.h 3 0,.ad bx),(.h 4 0,.ad b8)],[[.ptr 2 0],[U,.own 3 0,U,.own 4 0],[U,U],[U],[U]],λ(A g:Int) u o v d=>⟨⟨some (aN u/\d.n<=1000),[],[[.ptr 2 0],[c A,.own 3 (v).n,c g,.own 4 (GY u o d).n],[aV 1 cO (CO u o),.bool (Md u o)],[(aG.ad bx).av v],[(aG.ad b8).av (GY u o d)]]⟩⟩⟩
def ay9:er 125 anZ:=ev Tryz.func125
 λ(A g:Int) u m o v n d p h=>ep ⟨.heap,[],[(.h 1 0,a),(.h 1 2,a),(.h 2 0,.ab bs),(.h 2 1,l),(.h 3 0,.ad bx),(.h 4 0,.ad b8)],⟨[],[[.ptr 2 0],[U,.own 3 0,U,.own 4 0],[U,U],[U],[U]]⟩⟩ .z (let c:=aQ (aP u o) (aQ u o);let b:=aP (aP u o) (aQ u o);let f:=cp (aP b c) (aQ b c);let e:=cc (aP b c) (aQ b c);(aN e)/\aN (aP (cH e f) (cU e f))/\d.n+1<=549755813888) (bZ 5 ba (az xZ (az Aw (az ti (az aij bY))))) Tryz.func125 (have⟨j,k⟩:=h;⟨Θ,⟨Θ,Ω⟩⟩)
def h2{u:I Int}{o:Bool}(h:aN u):aN (CO u o):=gM (eM (eP (eW (eM (eM (eM h))))))
def aBw(u:I Int)(o:Bool)(d:I ay):(GY u o d).n=d.n+1:=rfl
def Mb:Bool:=cond (decide (b>0)) (!bk) false
def GJ:Nat->Int->I Int->Bool->I ay->I Int×Bool×I ay
 |0,_,_,_,_=>default
 |k+1,b,f,bk,bS=>cond (Mb b bk) (GJ k (i64 (b-1)) (CO f bk) (Md f bk) (GY f bk bS)) (f,bk,bS)
def UQ:I Int×Bool×I ay:=GJ (toNat (cI u o)+1) (cI u o) (cc u o) (cp u o) d
def wV:I Int:=(UQ u o d).1
def wW:Bool:=(UQ u o d).2.1
def q8:I ay:=(UQ u o d).2.2
def anS:cj:=⟨[.p 2,.kB 125 [0,1]],[(.h 1 0,a),(.h 1 2,a),(.h 2 0,.ab bs),(.h 2 1,l),(.h 3 0,.ad bx),(.h 4 0,.ad b8)],[[.ptr 2 0],[U,.own 3 0,U,.own 4 0],[U,U],[U],[U]],λ(A g:Int) u o v d=>let b:=q8 u o d;⟨⟨some (aN u/\d.n<=10),[],[[.ptr 2 0],[c A,.own 3 (v).n,c g,.own 4 (b).n],[aV 1 cO (wV u o d),.bool (wW u o d)],[(aG.ad bx).av v],[(aG.ad b8).av b]]⟩⟩⟩
def ay3:er 121 anS:=ev Tryz.func121
 λ(A g:Int) u t o v w d x m=>ep ⟨.heap,[],[(.h 1 0,a),(.h 1 2,a),(.h 2 0,.ab bs),(.h 2 1,l),(.h 3 0,.ad bx),(.h 4 0,.ad b8)],⟨[],[[.ptr 2 0],[U,.own 3 0,U,.own 4 0],[U,U],[U],[U]]⟩⟩ (.ae (.c6 ⟨19,[],[],[(.t 4,a),(.h 2 0,.ab bs),(.h 2 1,l),(.h 4 0,.ad b8)],some 0,false,0,[],[(.h 2 0,.ab bs),(.h 2 1,l),(.h 4 0,.ad b8)],λk (s:Int×I Int×Bool×I ay)=>GJ k s.1 s.2.1 s.2.2.1 s.2.2.2,.f,λ(s:Int×I Int×Bool×I ay)=>aN s.2.1/\0<=s.1/\s.1<=255/\(s.2.2.2.n:Int)<=(d.n:Int)+255-s.1,λ(s:Int×I Int×Bool×I ay)=>toNat s.1,none⟩ (.s (.j ⟨33683,[],[(.t 9,l),(.t 15,l)],[],.f⟩ .z .z) .z))) ((aN (cc u o)/\0<=cI u o/\cI u o<=255/\(d.n:Int)<=(d.n:Int)+255- (cI u o))/\∀(b:Int) (f:I Int) (bk:Bool) (bS:I ay),let i:=Mb b bk;let c:=i64 (b-1);(aN f/\0<=b/\b<=255/\(bS.n:Int)<=(d.n:Int)+255-b)->(i=true->aN f/\bS.n<=1000)/\(i=true->(aN (CO f bk)/\0<=c/\c<=255/\((GY f bk bS).n:Int)<=(d.n:Int)+255-c)/\toNat c<toNat b)) (bZ 5 ba (az ay9 (az ti bY))) Tryz.func121 (have⟨p,q⟩:=m;⟨⟨Θ,have:=EA u o Θ;Ω⟩,λb f bk bS j=>have r:=j.1;⟨λn=>⟨Θ,Ω⟩,λh=>⟨⟨Θ,by have:=h;(try simp [Mb]at this);have:=aBw f bk bS;have:=E (b-1);omega⟩,by have:=h;(try simp [Mb]at this);have:=E (b-1);omega⟩⟩⟩)
end
section
variable(A:I Int)
def xE:Int:=let d:=aQ A false;let c:=aP A false;let b:=uH c d (B:I ah);let a:=q6 c d (B:I ah);let f:=aQ a b;let e:=aP a b;(cond (decide ((A.n:Int)>20000)) 0 (cond (g2 true (wV e f (B:I ay)) (wW e f (B:I ay))!=0) 0 (cond (eK (c_ A false) (q7 c d (B:I ah)) (c_ a b) (q8 e f (B:I ay))!=0) 0 (c_ A false))))
def rA:I ah:=let d:=aQ A false;let c:=aP A false;let g:=q7 c d (B:I ah);let b:=uH c d (B:I ah);let a:=q6 c d (B:I ah);let f:=aQ a b;let e:=aP a b;(cond (decide ((A.n:Int)>20000)) (B:I ah) (cond (g2 true (wV e f (B:I ay)) (wW e f (B:I ay))!=0) (B:I ah) (cond (eK (c_ A false) g (c_ a b) (q8 e f (B:I ay))!=0) (B:I ah) g)))
def z7:Int:=let d:=aQ A false;let c:=aP A false;let b:=uH c d (B:I ah);let a:=q6 c d (B:I ah);let f:=aQ a b;let e:=aP a b;(cond (decide ((A.n:Int)>20000)) 0 (cond (g2 true (wV e f (B:I ay)) (wW e f (B:I ay))!=0) 0 (cond (eK (c_ A false) (q7 c d (B:I ah)) (c_ a b) (q8 e f (B:I ay))!=0) 0 (c_ a b))))
def rB:I ay:=let d:=aQ A false;let c:=aP A false;let b:=uH c d (B:I ah);let a:=q6 c d (B:I ah);let f:=aQ a b;let e:=aP a b;let g:=q8 e f (B:I ay);(cond (decide ((A.n:Int)>20000)) (B:I ay) (cond (g2 true (wV e f (B:I ay)) (wW e f (B:I ay))!=0) (B:I ay) (cond (eK (c_ A false) (q7 c d (B:I ah)) (c_ a b) g !=0) (B:I ay) g)))
def NV:Int:=let d:=aQ A false;let c:=aP A false;let b:=uH c d (B:I ah);let a:=q6 c d (B:I ah);let f:=aQ a b;let e:=aP a b;let h:=g2 true (wV e f (B:I ay)) (wW e f (B:I ay));let g:=eK (c_ A false) (q7 c d (B:I ah)) (c_ a b) (q8 e f (B:I ay));(cond (decide ((A.n:Int)>20000)) 1 (cond (h !=0) h (cond (g !=0) g 0)))
def apG:bt:=⟨[.v (.ab bs)],λA=>⟨⟨some (aN A),.du [.agg [c (xE A),aV 8 ho (rA A),c (z7 A),aV 7 hP (rB A)],c (NV A)]⟩⟩⟩
def aiL:bE 99 apG:=bG Tryz.func99
 λA f _ e=>bJ ⟨.pure,[.cell 2 44,.tmp 3],[(.c 0 0,a),(.c 0 1,.ab bx),(.c 0 2,a),(.c 0 3,.ab b8),(.t 1,a)],⟨[.agg (us 4 []),U],[]⟩⟩ (.ae (.ae (.ae (.ae (.s (.jP [(.h 2 0,bs)]) (.s (.jP [(.h 4 1,bx),(.h 4 3,b8)]) .z)))))) (let b:=aP A false;(decide ((A.n:Int)>20000))=false->(aN b/\0<=10)/\aN (aP (q6 b (aQ A false) (B:I ah)) (uH b (aQ A false) (B:I ah)))/\0<=10) (bZ 0 (aR OZ (aR aii ba)) (az aie (az xZ (az ay2 (az ay3 bY))))) Tryz.func99 (λd=>⟨⟨Θ,Ω⟩,⟨Θ,Ω⟩⟩)
end
section
variable(A:I Int)
def e4:Bool:=cond ((A.n:Int)==5) (A.at' (toNat 0)==1) false
def fW:Bool:=cond (decide ((A.n:Int)>4)) (A.at' (toNat 0)==2) false
def uB:Bool:=cond (decide ((A.n:Int)>7)) (A.at' (toNat 0)==3) false
def oT:Int:=cond (e4 A) 1 (cond (fW A) 2 3)
def oU:Int:=cond (e4 A) (e0 (I.part A 1 (A.n:Int))) 0
def oV:Int:=cond (e4 A) (i64 (i64 (A.at' (toNat 4))-1)) 0
def oW:Int:=cond (e4 A) 0 (cond (fW A) (e0 (I.part A 1 (A.n:Int))) 0)
def oX:Int:=cond (e4 A) 0 (cond (fW A) (NJ (I.part A 4 (A.n:Int))) 0)
def oY:Int:=cond (e4 A) 0 (cond (fW A) (NK (I.part A 4 (A.n:Int))) 0)
def oF:Bool:=cond (e4 A) false (cond (fW A) (NL (I.part A 4 (A.n:Int))) false)
def oG:Int:=cond (e4 A) 0 (cond (fW A) (NM (I.part A 4 (A.n:Int))) 0)
def oH:Int:=cond (e4 A) 0 (cond (fW A) (NN (I.part A 4 (A.n:Int))) 0)
def oI:Int:=cond (e4 A) 0 (cond (fW A) (NO (I.part A 4 (A.n:Int))) 0)
def oJ:z:=cond (e4 A) ε (cond (fW A) (NP (I.part A 4 (A.n:Int))) ε)
def oK:z:=cond (e4 A) ε (cond (fW A) (NQ (I.part A 4 (A.n:Int))) ε)
def oL:z:=cond (e4 A) ε (cond (fW A) (NR (I.part A 4 (A.n:Int))) ε)
def oM:Int:=cond (e4 A) 0 (cond (fW A) (NS (I.part A 4 (A.n:Int))) 0)
def oN:Int:=cond (e4 A) 0 (cond (fW A) 0 (e0 (I.part A 1 (A.n:Int))))
def oO:Int:=cond (e4 A) 0 (cond (fW A) 0 (e0 (I.part A 4 (A.n:Int))))
def oP:Int:=cond (e4 A) 0 (cond (fW A) 0 (xE (I.part A 7 (A.n:Int))))
def oQ:I ah:=cond (e4 A) (B:I ah) (cond (fW A) (B:I ah) (rA (I.part A 7 (A.n:Int))))
def oR:Int:=cond (e4 A) 0 (cond (fW A) 0 (z7 (I.part A 7 (A.n:Int))))
def oS:I ay:=cond (e4 A) (B:I ay) (cond (fW A) (B:I ay) (rB (I.part A 7 (A.n:Int))))
def Gc:Int:=cond (e4 A) 0 (cond (fW A) (NT (I.part A 4 (A.n:Int))) (NV (I.part A 7 (A.n:Int))))
def iq:Bool:=cond (e4 A) true (cond (fW A) true (cond (uB A) true false))
def aeL:Bool:=cond (Gc A==0) (fJ (oT A) (oU A) (oV A) (oW A) (oX A) (oY A) (oF A) (oG A) (oH A) (oI A) (oJ A) (oK A) (oL A) (oM A) (oN A) (oO A) (oP A) (oQ A) (oR A) (oS A)==0) false
def LK:Int:=cond (iq A) (oT A) 0
def LL:Int:=cond (iq A) (oU A) 0
def LX:Int:=cond (iq A) (oV A) 0
def LY:Int:=cond (iq A) (oW A) 0
def LZ:Int:=cond (iq A) (oX A) 0
def L0:Int:=cond (iq A) (oY A) 0
def L1:Bool:=cond (iq A) (oF A) false
def L2:Int:=cond (iq A) (oG A) 0
def L3:Int:=cond (iq A) (oH A) 0
def L4:Int:=cond (iq A) (oI A) 0
def LM:z:=cond (iq A) (oJ A) ε
def LN:z:=cond (iq A) (oK A) ε
def LO:z:=cond (iq A) (oL A) ε
def LP:Int:=cond (iq A) (oM A) 0
def LQ:Int:=cond (iq A) (oN A) 0
def LR:Int:=cond (iq A) (oO A) 0
def LS:Int:=cond (iq A) (oP A) 0
def LU:I ah:=cond (iq A) (oQ A) (B:I ah)
def LV:Int:=cond (iq A) (oR A) 0
def LW:I ay:=cond (iq A) (oS A) (B:I ay)
def Ct:Bool:=cond (iq A) (aeL A) false
def amZ:bt:=⟨[.v (.ab bs)],λA=>⟨⟨some (aN A),.du [.agg [c (LK A),c (LL A),c (LX A),c (LY A),c (LZ A),c (L0 A),.bool (L1 A),c (L2 A),c (L3 A),c (L4 A),.str (LM A),.str (LN A),.str (LO A),c (LP A),c (LQ A),c (LR A),c (LS A),aV 8 ho (LU A),c (LV A),aV 7 hP (LW A)],.bool (Ct A)]⟩⟩⟩
def ayw:bE 95 amZ:=bG Tryz.func95
 λA p _ o=>bJ ⟨.pure,[.cell 2 155,.tmp 3],[(.c 0 0,a),(.c 0 1,a),(.c 0 2,a),(.c 0 3,a),(.c 0 4,a),(.c 0 5,a),(.c 0 6,l),(.c 0 7,a),(.c 0 8,a),(.c 0 9,a),(.c 0 10,ar),(.c 0 11,ar),(.c 0 12,ar),(.c 0 13,a),(.c 0 14,a),(.c 0 15,a),(.c 0 16,a),(.c 0 17,.ab bx),(.c 0 18,a),(.c 0 19,.ab b8),(.t 1,l)],⟨[.agg (us 20 []),U],[]⟩⟩ (.ae (.ae (.ae (.j ⟨60,[],[(.h 1 0,a),(.h 1 1,a),(.h 1 2,a),(.h 1 3,a),(.h 1 4,a),(.h 1 5,a),(.h 1 6,l),(.h 1 7,a),(.h 1 8,a),(.h 1 9,a),(.h 1 10,ar),(.h 1 11,ar),(.h 1 12,ar),(.h 1 13,a),(.h 1 14,a),(.h 1 15,a),(.h 1 16,a),(.h 1 17,.ab bx),(.h 1 18,a),(.h 1 19,.ab b8),(.t 5,a)],[.f,.b .f .l,.b .f .l,.f,.f,.f,.f,.f,.f,.f,.f,.f,.f,.f,.f,.f,.f,.f,.f,.f,.f],.f⟩ (.j ⟨189,[],[(.t 7,l)],[],.f⟩ .z (.ae (.j ⟨67108925,[],[(.t 26,l)],[],.f⟩ .z (.ae (.j ⟨140737488355389,[],[(.t 47,l)],[],.f⟩ .z .z))))) (.j ⟨12,[.b 1],[(.t 3,l)],[],.f⟩ .z .z))))) (let j:=I.part A 4 (A.n:Int);let i:=I.part A 1 (A.n:Int);let h:=toNat ((A.n:Int)-1);(((A.n:Int)==5)=true->(0:Int)<=0/\0<(A.n:Int))/\(e4 A=true->((0:Int)<=1/\(1:Int)<=(A.n:Int)/\(A.n:Int)<=(A.n:Int)/\(A.n:Int)<=(A.n:Int))/\(aN i/\3<=h)/\(0:Int)<=4/\4<(A.n:Int))/\(e4 A=false->(decide ((A.n:Int)>4)=true->(0:Int)<=0/\0<(A.n:Int))/\(fW A=true->(((0:Int)<=1/\(1:Int)<=(A.n:Int)/\(A.n:Int)<=(A.n:Int)/\(A.n:Int)<=(A.n:Int))/\aN i/\3<=h)/\((0:Int)<=4/\(4:Int)<=(A.n:Int)/\(A.n:Int)<=(A.n:Int)/\(A.n:Int)<=(A.n:Int))/\aN j)/\(fW A=false->(decide ((A.n:Int)>7)=true->(0:Int)<=0/\0<(A.n:Int))/\(uB A=true->(((0:Int)<=1/\(1:Int)<=(A.n:Int)/\(A.n:Int)<=(A.n:Int)/\(A.n:Int)<=(A.n:Int))/\(aN i/\3<=h)/\((0:Int)<=4/\(4:Int)<=(A.n:Int)/\(A.n:Int)<=(A.n:Int)/\(A.n:Int)<=(A.n:Int))/\aN j/\3<=toNat ((A.n:Int)-4))/\((0:Int)<=7/\(7:Int)<=(A.n:Int)/\(A.n:Int)<=(A.n:Int)/\(A.n:Int)<=(A.n:Int))/\aN (I.part A 7 (A.n:Int)))))) (cK (aR aAq (aR aiL (aR XQ (aR ah8 ba))))) Tryz.func95 (⟨λk=>have:=eq_of_beq k;Ω,⟨λf=>⟨by have:=f;(try simp [e4]at this);omega,⟨⟨Θ,by have:=f;(try simp [e4]at this);omega⟩,by have:=f;(try simp [e4]at this);omega⟩⟩,λb=>⟨λm=>by have:=b;simp [e4]at this;have:=al m;omega,⟨λg=>⟨⟨by have:=b;simp [e4]at this;have:=g;(try simp [fW]at this);omega,⟨Θ,by have:=b;simp [e4]at this;have:=g;(try simp [fW]at this);omega⟩⟩,⟨by have:=b;simp [e4]at this;have:=g;(try simp [fW]at this);omega,Θ⟩⟩,λc=>⟨λn=>by have:=b;simp [e4]at this;have:=c;simp [fW]at this;have:=al n;omega,λd=>⟨⟨by have:=b;simp [e4]at this;have:=c;simp [fW]at this;have:=d;(try simp [uB]at this);omega,⟨⟨Θ,by have:=b;simp [e4]at this;have:=c;simp [fW]at this;have:=d;(try simp [uB]at this);omega⟩,⟨by have:=b;simp [e4]at this;have:=c;simp [fW]at this;have:=d;(try simp [uB]at this);omega,⟨Θ,by have:=b;simp [e4]at this;have:=c;simp [fW]at this;have:=d;(try simp [uB]at this);omega⟩⟩⟩⟩,⟨by have:=b;simp [e4]at this;have:=c;simp [fW]at this;have:=d;(try simp [uB]at this);omega,Θ⟩⟩⟩⟩⟩⟩⟩)
end
section
def oC(A:I Int)(g:Int):Nat->Int->I bB->Int×I bB
 |0,_,_=>default
 |k+1,aI,cY=>cond (decide (i64 (aI+3)<=((bL A g).n:Int))) (cond (decide (i64 (i64 (aI+3)+e0 (I.part (bL A g) aI ((bL A g).n:Int)))>((bL A g).n:Int))) (aI,cY) (cond (!(Ct (I.part (bL A g) (i64 (aI+3)) (i64 (i64 (aI+3)+e0 (I.part (bL A g) aI ((bL A g).n:Int))))))) (aI,cY) (oC A g k (i64 (aI+i64 (3+e0 (I.part (bL A g) aI ((bL A g).n:Int))))) (I.app cY (I.lit ([(⟨LK (I.part (bL A g) (i64 (aI+3)) (i64 (i64 (aI+3)+e0 (I.part (bL A g) aI ((bL A g).n:Int))))),LL (I.part (bL A g) (i64 (aI+3)) (i64 (i64 (aI+3)+e0 (I.part (bL A g) aI ((bL A g).n:Int))))),LX (I.part (bL A g) (i64 (aI+3)) (i64 (i64 (aI+3)+e0 (I.part (bL A g) aI ((bL A g).n:Int))))),LY (I.part (bL A g) (i64 (aI+3)) (i64 (i64 (aI+3)+e0 (I.part (bL A g) aI ((bL A g).n:Int))))),LZ (I.part (bL A g) (i64 (aI+3)) (i64 (i64 (aI+3)+e0 (I.part (bL A g) aI ((bL A g).n:Int))))),L0 (I.part (bL A g) (i64 (aI+3)) (i64 (i64 (aI+3)+e0 (I.part (bL A g) aI ((bL A g).n:Int))))),L1 (I.part (bL A g) (i64 (aI+3)) (i64 (i64 (aI+3)+e0 (I.part (bL A g) aI ((bL A g).n:Int))))),L2 (I.part (bL A g) (i64 (aI+3)) (i64 (i64 (aI+3)+e0 (I.part (bL A g) aI ((bL A g).n:Int))))),L3 (I.part (bL A g) (i64 (aI+3)) (i64 (i64 (aI+3)+e0 (I.part (bL A g) aI ((bL A g).n:Int))))),L4 (I.part (bL A g) (i64 (aI+3)) (i64 (i64 (aI+3)+e0 (I.part (bL A g) aI ((bL A g).n:Int))))),LM (I.part (bL A g) (i64 (aI+3)) (i64 (i64 (aI+3)+e0 (I.part (bL A g) aI ((bL A g).n:Int))))),LN (I.part (bL A g) (i64 (aI+3)) (i64 (i64 (aI+3)+e0 (I.part (bL A g) aI ((bL A g).n:Int))))),LO (I.part (bL A g) (i64 (aI+3)) (i64 (i64 (aI+3)+e0 (I.part (bL A g) aI ((bL A g).n:Int))))),LP (I.part (bL A g) (i64 (aI+3)) (i64 (i64 (aI+3)+e0 (I.part (bL A g) aI ((bL A g).n:Int))))),LQ (I.part (bL A g) (i64 (aI+3)) (i64 (i64 (aI+3)+e0 (I.part (bL A g) aI ((bL A g).n:Int))))),LR (I.part (bL A g) (i64 (aI+3)) (i64 (i64 (aI+3)+e0 (I.part (bL A g) aI ((bL A g).n:Int))))),LS (I.part (bL A g) (i64 (aI+3)) (i64 (i64 (aI+3)+e0 (I.part (bL A g) aI ((bL A g).n:Int))))),LU (I.part (bL A g) (i64 (aI+3)) (i64 (i64 (aI+3)+e0 (I.part (bL A g) aI ((bL A g).n:Int))))),LV (I.part (bL A g) (i64 (aI+3)) (i64 (i64 (aI+3)+e0 (I.part (bL A g) aI ((bL A g).n:Int))))),LW (I.part (bL A g) (i64 (aI+3)) (i64 (i64 (aI+3)+e0 (I.part (bL A g) aI ((bL A g).n:Int)))))⟩:bB)]:List bB)))))) (aI,cY)
variable(A:I Int)(g:Int)
def nG:Int×I bB:=oC A g (toNat (((bL A g).n:Int)-0)+1) 0 (B:I bB)
def wN:I bB:=cond (!(h9 A g)) (B:I bB) (nG A g).2
def y5:I Int:=cond (!(h9 A g)) (B:I Int) (I.part (bL A g) 0 (nG A g).1)
def F9:Int:=cond (!(h9 A g)) 0 (gj (k4 A g) (nG A g).1)
def atx:Int:=cond (!(h9 A g)) 13 0
def amU:bt:=⟨[.g [.ab bs,a]],λA (g:Int)=>⟨⟨some (aN A),.du [aV 20 Tz (wN A g),.agg [aV 1 cO (y5 A g),c (F9 A g)],c (atx A g)]⟩⟩⟩
def ays:bE 83 amU:=bG Tryz.func83
 λA D _ (g:Int) C=>bJ ⟨.pure,[.tmp 2,.cell 3 79,.tmp 4],[(.t 0,.ab BA),(.c 1 0,.ab bs),(.c 1 1,a),(.t 2,a)],⟨[U,.agg (us 2 []),U],[]⟩⟩ (.ae (.ae (.ae (.ae (.ae (.j ⟨444,[],[],[],.f⟩ (.c6 ⟨444,[.b 0],[(.t 7,BA)],[(.t 8,a),(.h 3 0,.ad BA)],some 0,false,444,[],[(.t 8,a),(.h 3 0,.ad BA)],λk (s:Int×I bB)=>oC A g k s.1 s.2,.f,λ(s:Int×I bB)=>0<=s.1/\s.1<=((bL A g).n:Int)/\(s.2.n:Int)<=s.1,λ(s:Int×I bB)=>toNat (((bL A g).n:Int)-s.1),some λ(r:Int×I bB)=>0<=r.1/\r.1<=((bL A g).n:Int)/\(r.2.n:Int)<=400000⟩ .z) .z)))))) (let e:=nG A g;let b:=bL A g;(!(h9 A g))=false->((0<=(0:Int)/\(0:Int)<=(b.n:Int)/\(0:Int)<=(0:Int))/\∀(aI:Int) (cY:I bB),let j:=I.part b aI (b.n:Int);let f:=i64 (aI+3);let l:=decide (f<=b.n);let h:=i64 (aI+i64 (3+e0 j));let d:=i64 (f+e0 j);let n:=Ct (I.part b f d);let m:=decide (d>b.n);(0<=aI/\aI<=b.n/\(cY.n:Int)<=aI)->(l=true->(((0:Int)<=aI/\(aI:Int)<=(b.n:Int)/\(b.n:Int)<=(b.n:Int)/\(b.n:Int)<=(b.n:Int))/\aN j/\3<=toNat ((b.n:Int)-aI))/\(m=false->(((0:Int)<=f/\(f:Int)<=d/\(d:Int)<=d/\(d:Int)<=(b.n:Int))/\aN (I.part b f d))/\((!n)=false->cY.n+1<=549755813888)))/\(l=true->(m=true->0<=aI/\aI<=b.n/\(cY.n:Int)<=400000)/\(m=false->((!n)=true->0<=aI/\aI<=b.n/\(cY.n:Int)<=400000)/\((!n)=false->(0<=h/\h<=b.n/\(((cY.n+1):Nat):Int)<=h)/\toNat ((b.n:Int)-h)<toNat ((b.n:Int)-aI))))/\(l=false->0<=aI/\aI<=b.n/\(cY.n:Int)<=400000))/\(0<=e.1/\e.1<=(b.n:Int)/\(e.2.n:Int)<=400000->(0:Int)<=0/\(0:Int)<=e.1/\(e.1:Int)<=e.1/\(e.1:Int)<=(b.n:Int))) (cK (aR OR (aR ah8 (aR ayw ba)))) Tryz.func83 (λc=>⟨⟨Ω,λaI cY B=>⟨λo=>⟨⟨Ω,⟨Θ,have:=s9 _ _ (by simpa using c);have:=aBT o Ω Ω;Ω⟩⟩,λp=>⟨⟨have:=s9 _ _ (by simpa using c);have:=ajj p Ω Ω;have:=akE (I.part (bL A g) aI ((bL A g).n:Int)) Θ;have:=E (aI+3);have:=E (i64 (aI+3)+e0 (I.part (bL A g) aI ((bL A g).n:Int)));Ω,Θ⟩,λv=>have:=s9 _ _ (by simpa using c);Ω⟩⟩,⟨λw=>⟨λx=>have:=s9 _ _ (by simpa using c);Ω,λq=>⟨λy=>have:=s9 _ _ (by simpa using c);Ω,λt=>have:=s9 _ _ (by simpa using c);have:=ajj q Ω Ω;have:=akE (I.part (bL A g) aI ((bL A g).n:Int)) Θ;have:=E (3+e0 (I.part (bL A g) aI ((bL A g).n:Int)));have:=E (aI+i64 (3+e0 (I.part (bL A g) aI ((bL A g).n:Int))));Ω⟩⟩,λu=>have:=s9 _ _ (by simpa using c);Ω⟩⟩⟩,λz=>Ω⟩)
end
def OP(e:ax):Int:=u2 e.r e.K e.G e.q e.j e.m e.ak e.aA e.i e.aJ
structure wx (b t:Int) (s:I ax):Prop where
 ch:0<=b/\b<=1048576
 t0:0<=t/\t<=1048576
 z:b=0↔t=0
 n:s.n<=200
 top:b+(s.n:Int)<=1048576
 ok: ∀i,i<s.n->OP (s.at' i)=0/\t<=(s.at' i).r
 EH: ∀i,i+1<s.n->(s.at' i).r<=(s.at' (i+1)).r/\(s.at' i).K<=(s.at' (i+1)).K
def aBV{b t:Int}{s:I ax}(h:xx b t s=0):wx b t s:=by
 have m:=arq b t s h;obtain⟨j,p,o,u⟩:=m;unfold xx at h;have⟨d,h⟩:=dG h Δ;have n:DE t s=scan (λi=>nQ t s i||o5 s i) (λ_=>13) s.n 0:=ps (u4 t s) s.n _ _ Ω λk i=>by
  show(cond (decide (i<s.n)) (cond (nQ t s i) (true,13) (cond (o5 s i) (true,13) (u4 t s k (i64 (i+1))))) (false,default))=_;rw[FA]
 unfold Nv at h;rw[Lq n]at h;have⟨hh,_⟩:=dG h Δ;have q: ∀i,i<s.n->nQ t s (i:Int)=false/\o5 s (i:Int)=false:=λi f=>by
  have:=tb hh i f;simpa only[E5]using this
 refine⟨j,p,?_,o,u,λi f=> ?_,λi f=> ?_⟩
 .unfold xy at d;have⟨_,d⟩:=c8 d;have⟨_,d⟩:=c8 d;have⟨d,_⟩:=c8 d;have d:((b==0)==(t==0))=true:=by simpa using d
  have e:(b==0)=(t==0):=eq_of_beq d;constructor
  .intro l;rw[l]at e;have e:(t==0)=true:=e.symm;exact eq_of_beq e
  .intro r;rw[r]at e;have e:(b==0)=true:=e;exact eq_of_beq e
 .have q1:=(q i f).1;unfold nQ at q1;rw[gN]at q1;have⟨a,c⟩:=c8 q1;have c:=dh c;exact⟨bP a,Ω⟩
 .have g:=(q (i+1) f).2;unfold o5 at g;rw[bm (show((i+1:Nat):Int)>0 by omega),gN,show i64 (((i+1:Nat):Int)-1)=(i:Int) by rw[E _];omega,gN]at g;have⟨a,c⟩:=c8 g;have a:=dh a;have c:=dh c;exact⟨Ω,Ω⟩
def aBX{b t:Int}{s:I ax}(h:wx b t s):xx b t s=0:=by
 have q:=h.n;have r:=h.top;have⟨ch,cw⟩:=h.ch;have⟨t0,t1⟩:=h.t0;have o:xy b t s=false:=by
  unfold xy;rw[uD,uD,bm (show b>=0 from ch),bm cw,bm (show t>=0 from t0),bm t1,a8 (show¬(s.n:Int)>200 by omega),E _,a8 (show¬b+(s.n:Int)>1048576 by omega)];have e:((b==0)==(t==0))=true:=by
   by_cases a:b=0
   .have c:=h.z.1 a;subst a;subst c;rfl
   .have c:t≠0:=λe=>a (h.z.2 e);rw[ew.2 a,ew.2 c];rfl
  rw[e];rfl
 have m:DE t s=scan (λi=>nQ t s i||o5 s i) (λ_=>13) s.n 0:=ps (u4 t s) s.n _ _ Ω λk i=>by
  show(cond (decide (i<s.n)) (cond (nQ t s i) (true,13) (cond (o5 s i) (true,13) (u4 t s k (i64 (i+1))))) (false,default))=_;rw[FA]
 have l:DE t s=(false,default):=by
  rw[m];refine alr s.n 0 λj g p=> ?_;obtain⟨i,rfl⟩:=tO g;have d:i<s.n:=by omega
  have⟨f,u⟩:=h.ok i d;show(nQ t s (i:Int)||o5 s (i:Int))=false;have bo:nQ t s (i:Int)=false:=by
   unfold nQ;rw[gN];unfold OP at f;rw[f];show decide _=false;exact a8 Ω
  have cO:o5 s (i:Int)=false:=by
   unfold o5
   by_cases n:i=0
   .subst n;rfl
   .obtain⟨k,rfl⟩: ∃k,i=k+1:=⟨i-1,Ω⟩;have⟨cX,ct⟩:=h.EH k d;rw[bm (show((k+1:Nat):Int)>0 by omega),gN,show i64 (((k+1:Nat):Int)-1)=(k:Int) by rw[E _];omega,gN,a8 Ω,a8 Ω];rfl
  rw[bo,cO];rfl
 unfold xx Nv;rw[o,l];rfl
def aBU{b t:Int}{s:I ax}(h:cV b t s=0):wx b t s:=by
 have a:=fF b t s h;rw[agJ b t s Ω Ω]at h;exact aBV h
def Yc{b t:Int}{s:I ax}(h:wx b t s):cV b t s=0:=by
 have:=h.n;have:=h.ch;rw[agJ b t s Ω Ω];exact aBX h
def aBY{b t:Int}{s:I ax}(h:wx b t s){p:Int}(u:b<=p)(v:p<=b+(s.n:Int))(y:1<=p):wx p (kD b t s p) (I.part s (i64 (p-b)) (s.n:Int)):=by
 have B:=h.n;have z:=h.ch;have D:=h.t0;have F:=h.top;have w:i64 (p-b)=p-b:=E _;rw[w];obtain⟨k,f⟩: ∃k:Nat,p-b=(k:Int):=⟨(p-b).toNat,Ω⟩;have C:(I.part s (p-b) (s.n:Int)).n=s.n-k:=by
  rw[I.vM,f];omega
 have d: ∀i,(I.part s (p-b) (s.n:Int)).at' i=s.at' (k+i):=λi=>by
  show s.at' (toNat (p-b)+i)=_;rw[f,gN]
 have e:kD b t s p=if k=0 then t else(s.at' (k-1)).r:=by
  unfold kD;rw[a8 (show¬p<b by omega)]
  by_cases c:k=0
  .rw[show p=b by omega,bg c];simp
  .rw[ew.2 (show p≠b by omega),w,a8 (show¬p-b>(s.n:Int) by omega),aW c,E _,show toNat (p-b-1)=k-1 by omega];rfl
 have G:0<k->t<=(s.at' (k-1)).r:=λc=>(h.ok (k-1) Ω).2;have n: ∀x:ax,OP x=0->1<=x.r/\x.r<=1048576:=λx g=>by
  unfold OP u2 at g;have⟨a,_⟩:=dG g Δ;unfold zZ at a;have⟨a,_⟩:=c8 a;have a:uE x.r=true:=by simpa using a
  unfold uE at a;rw[uD,b2]at a;exact⟨al a.1,al a.2⟩
 have l:0<=kD b t s p/\kD b t s p<=1048576/\1<=kD b t s p:=by
  rw[e]
  by_cases c:k=0
  .rw[bg c];have:t≠0:=λe=>by have:=h.z.2 e;omega
   omega
  .rw[aW c];have:=n _ (h.ok (k-1) Ω).1;omega
 refine⟨Ω,⟨l.1,l.2.1⟩,⟨λe=>by omega,λe=>by omega⟩,Ω,Ω,λi m=> ?_,λi m=> ?_⟩
 .rw[d];refine⟨(h.ok (k+i) Ω).1,?_⟩;rw[e]
  by_cases c:k=0
  .rw[bg c];exact(h.ok (k+i) Ω).2
  .rw[aW c];have q: ∀j,k-1+j<s.n->(s.at' (k-1)).r<=(s.at' (k-1+j)).r:=by
    intro j
    induction j with
    |zero=>intro _;exact bz _
    |succ j o=>
     intro A;have:=o Ω;have r:=(h.EH (k-1+j) Ω).1;rw[show k-1+(j+1)=k-1+j+1 by omega];omega
   have:=q (i+1) Ω;rwa [show k-1+(i+1)=k+i by omega]at this
 .rw[d,d,show k+(i+1)=k+i+1 by omega];exact h.EH (k+i) Ω
def aBW{b t:Int}{s:I ax}(h:wx b t s){p u:Int}(f:1<=p/\p<=1048576)(n:1<=u/\u<=1048576):wx (pY b t s p u) (uL b t s p u) (pZ b t s p u):=by
 have k:=h.n;have j:=h.ch;have l:=h.top;unfold pY uL pZ
 cases m:p0 b t s p u with
 |false=>
  exact⟨by simp only[aB];omega,by simp only[aB];omega,⟨λe=>by simp only[aB]at e;omega,λe=>by simp only[aB]at e;omega⟩,cd _,by show p+0<=_;omega,λi a=>absurd a (dJ i),λi a=>absurd a (dJ _)⟩
 |true=>
  simp only[au];unfold p0 at m;have z:=Yc h
  cases c:(u5 b t s p==0)with
  |false=>rw[c]at m;cases m
  |true=>
   have c:=eq_of_beq c;unfold u5 at c;rw[z]at c;have c:(cond (z2 p) 2 (hQ b s p))=0:=c;have⟨_,c⟩:=dG c Δ;have d:b<=p/\p<=b+(s.n:Int):=by
    unfold hQ at c;have⟨K,c⟩:=dG c Δ;have K:=dh K
    by_cases g:p=b
    .omega
    .rw[ew.2 g]at c;simp only[aB]at c;have⟨G,_⟩:=dG c Δ;rw[E _]at G;have G:=dh G;omega
   unfold ry DG sX;rw[z,c];exact aBY h d.1 d.2 f.1
def mP(b t:Int)(s:I ax):Prop:=cV b t s=0
def ZH{s:I bB}{i:Nat}(h:(fJ (s.at' i).r (s.at' i).K (s.at' i).G (s.at' i).q (s.at' i).j (s.at' i).m (s.at' i).ak (s.at' i).aA (s.at' i).i (s.at' i).aJ (s.at' i).b4 (s.at' i).cb (s.at' i).b0 (s.at' i).cq (s.at' i).bn (s.at' i).c9 (s.at' i).fc (s.at' i).eH (s.at' i).fe (s.at' i).eI !=0)=false):
  ((s.at' i).r=3/\(1<=(s.at' i).bn/\(s.at' i).bn<=1048576)/\1<=(s.at' i).c9/\(s.at' i).c9<=1048576)\/((s.at' i).r=2/\1<=(s.at' i).q/\(s.at' i).q<=1048576)\/(s.at' i).r=1:=by
 rcases ZK (bP h)with⟨e,_⟩|⟨e,q,_⟩|⟨e,q,r,_⟩
 .exact .inr (.inr e)
 .exact .inr (.inl ⟨e,q⟩)
 .exact .inl ⟨e,q,r⟩
section
variable(A g:Int)(u:I ax)(o v d:Int)(y:Bool)(F p x:Int)(ao bR b6:z)(cl:Int)
def L5:Int:=A
def L6:Int:=g
def y_:I ax:=cond (decide (o<=A)) u (cond (decide (o>(i64 (lf A g u+1)))) u (cond (cV A g (I.app (I.part u 0 (i64 (i64 (o-A)-1))) (I.lit ([(⟨v,d,y,F,p,x,ao,bR,b6,cl⟩:ax)]:List ax)))!=0) u (I.app (I.part u 0 (i64 (i64 (o-A)-1))) (I.lit ([(⟨v,d,y,F,p,x,ao,bR,b6,cl⟩:ax)]:List ax)))))
def Gd:Int:=cond (decide (o<=A)) 0 (cond (decide (o>(i64 (lf A g u+1)))) 10 (cond (cV A g (I.app (I.part u 0 (i64 (i64 (o-A)-1))) (I.lit ([(⟨v,d,y,F,p,x,ao,bR,b6,cl⟩:ax)]:List ax)))!=0) 10 0))
def ai0(A g:Int)(u:I ax)(h:mP A g u):lf A g u=A+(u.n:Int):=by
 have a:=fF A g u h;unfold mP at h;unfold lf pV;rw[h];show(cond (decide ((u.n:Int)>0)) _ A)=_
 by_cases e:(u.n:Int)>0
 .rw[bm e];simp only[au];exact E _
 .rw[a8 e];simp only[aB];omega
def am0:bt:=⟨[.g [a,a,.ab dT],.v a,.g [a,a,l,a,a,a,ar,ar,ar,a]],λ(A g:Int) u (o v d:Int) y (F p x:Int) ao bR b6 (cl:Int)=>⟨⟨some (mP A g u),.du [.agg [c (L5 A),c (L6 g),aV 10 eJ (y_ A g u o v d y F p x ao bR b6 cl)],c (Gd A g u o v d y F p x ao bR b6 cl)]⟩⟩⟩
def ayx:bE 97 am0:=bG Tryz.func97
 λ(A g:Int) u k _ (o v d:Int) y (F p x:Int) ao h bR i b6 j (cl:Int) c=>bJ (ms:=[.l,.l,.f,.f]) ⟨.pure,[.cell 6 38,.tmp 7],[(.c 0 0,a),(.c 0 1,a),(.c 0 2,.ab dT),(.t 1,a)],⟨[.agg (us 3 []),U],[]⟩⟩ .z (let b:=i64 (i64 (o-A)-1);(decide (o<=A))=false->decide (o>(i64 (lf A g u+1)))=false->((0:Int)<=0/\(0:Int)<=b/\(b:Int)<=b/\(b:Int)<=(u.n:Int))/\toNat (b-0)+1<=549755813888) (cK (aR x0 (aR aiD (aR DZ ba)))) Tryz.func97 (λe f=>⟨have:=hy e;have:=hy f;have:=fF A g u c;have:=ai0 A g u c;have:=E (lf A g u+1);have:=E (o-A);have:=E (i64 (o-A)-1);Ω,have:=hy e;have:=hy f;have:=fF A g u c;have:=ai0 A g u c;have:=E (lf A g u+1);have:=E (o-A);have:=E (i64 (o-A)-1);Ω⟩)
end
section
variable(A:I bB)(b bS iW iV:Int)(jo:I ax)
def Ud(f:Int):Int:=cond ((A.at' b.toNat).r==1) (A.at' b.toNat).K f
def Ue(bk:Int):Int:=cond ((A.at' b.toNat).r==1) (A.at' b.toNat).G bk
def Ga:Int:=cond ((A.at' b.toNat).r==1) bS (cond ((A.at' b.toNat).r==2) bS (cond ((A.at' b.toNat).r==3) (cond (decide ((A.at' b.toNat).bn>bS)) (A.at' b.toNat).bn bS) bS))
def Ug(c7:Int):Int:=cond ((A.at' b.toNat).r==1) c7 (cond ((A.at' b.toNat).r==2) c7 (cond ((A.at' b.toNat).r==3) (cond (decide ((A.at' b.toNat).bn>bS)) (A.at' b.toNat).c9 c7) c7))
def atz(c:Int):Int:=let a:=A.at' b.toNat;(cond (a.r==1) c (cond (a.r==2) c (cond (a.r==3) (cond (decide (a.bn>bS)) a.fc c) c)))
def atA(c:I ah):I ah:=let a:=A.at' b.toNat;(cond (a.r==1) c (cond (a.r==2) c (cond (a.r==3) (cond (decide (a.bn>bS)) a.eH c) c)))
def atB(c:Int):Int:=let a:=A.at' b.toNat;(cond (a.r==1) c (cond (a.r==2) c (cond (a.r==3) (cond (decide (a.bn>bS)) a.fe c) c)))
def atC(c:I ay):I ay:=let a:=A.at' b.toNat;(cond (a.r==1) c (cond (a.r==2) c (cond (a.r==3) (cond (decide (a.bn>bS)) a.eI c) c)))
def wP:Int:=cond ((A.at' b.toNat).r==1) iW (cond ((A.at' b.toNat).r==2) (L5 iW) (cond ((A.at' b.toNat).r==3) (cond (decide ((A.at' b.toNat).bn>bS)) (pY iW iV jo (A.at' b.toNat).bn (A.at' b.toNat).c9) iW) iW))
def Cp:Int:=cond ((A.at' b.toNat).r==1) iV (cond ((A.at' b.toNat).r==2) (L6 iV) (cond ((A.at' b.toNat).r==3) (cond (decide ((A.at' b.toNat).bn>bS)) (uL iW iV jo (A.at' b.toNat).bn (A.at' b.toNat).c9) iV) iV))
def wO:I ax:=cond ((A.at' b.toNat).r==1) jo (cond ((A.at' b.toNat).r==2) (y_ iW iV jo (A.at' b.toNat).q (A.at' b.toNat).j (A.at' b.toNat).m (A.at' b.toNat).ak (A.at' b.toNat).aA (A.at' b.toNat).i (A.at' b.toNat).aJ (A.at' b.toNat).b4 (A.at' b.toNat).cb (A.at' b.toNat).b0 (A.at' b.toNat).cq) (cond ((A.at' b.toNat).r==3) (cond (decide ((A.at' b.toNat).bn>bS)) (pZ iW iV jo (A.at' b.toNat).bn (A.at' b.toNat).c9) jo) jo))
def qZ:Bool:=cond (fJ (A.at' b.toNat).r (A.at' b.toNat).K (A.at' b.toNat).G (A.at' b.toNat).q (A.at' b.toNat).j (A.at' b.toNat).m (A.at' b.toNat).ak (A.at' b.toNat).aA (A.at' b.toNat).i (A.at' b.toNat).aJ (A.at' b.toNat).b4 (A.at' b.toNat).cb (A.at' b.toNat).b0 (A.at' b.toNat).cq (A.at' b.toNat).bn (A.at' b.toNat).c9 (A.at' b.toNat).fc (A.at' b.toNat).eH (A.at' b.toNat).fe (A.at' b.toNat).eI !=0) false (cond ((A.at' b.toNat).r==1) true (cond ((A.at' b.toNat).r==2) (cond (Gd iW iV jo (A.at' b.toNat).q (A.at' b.toNat).j (A.at' b.toNat).m (A.at' b.toNat).ak (A.at' b.toNat).aA (A.at' b.toNat).i (A.at' b.toNat).aJ (A.at' b.toNat).b4 (A.at' b.toNat).cb (A.at' b.toNat).b0 (A.at' b.toNat).cq !=0) false true) true))
def uA(A:I bB):Nat->Int->Int->Int->Int->Int->Int->I ah->Int->I ay->Int->Int->I ax->Bool×Int×Int×Int×Int×Int×I ah×Int×I ay×Int×Int×I ax×Int×Int×Int×Int×Int×I ah×Int×I ay×Int×Int×I ax×Int
 |0,_,_,_,_,_,_,_,_,_,_,_,_=>default
 |k+1,b,f,bk,bS,c7,a,c,d,e,iW,iV,jo=>cond (decide (b<A.n)) (cond (qZ A b iW iV jo) (uA A k (i64 (b+1)) (Ud A b f) (Ue A b bk) (Ga A b bS) (Ug A b bS c7) (atz A b bS a) (atA A b bS c) (atB A b bS d) (atC A b bS e) (wP A b bS iW iV jo) (Cp A b bS iW iV jo) (wO A b bS iW iV jo)) (cond (fJ (A.at' b.toNat).r (A.at' b.toNat).K (A.at' b.toNat).G (A.at' b.toNat).q (A.at' b.toNat).j (A.at' b.toNat).m (A.at' b.toNat).ak (A.at' b.toNat).aA (A.at' b.toNat).i (A.at' b.toNat).aJ (A.at' b.toNat).b4 (A.at' b.toNat).cb (A.at' b.toNat).b0 (A.at' b.toNat).cq (A.at' b.toNat).bn (A.at' b.toNat).c9 (A.at' b.toNat).fc (A.at' b.toNat).eH (A.at' b.toNat).fe (A.at' b.toNat).eI !=0) (true,default,default,default,default,default,default,default,default,default,default,default,0,0,0,0,0,(B:I ah),0,(B:I ay),0,0,(B:I ax),fJ (A.at' b.toNat).r (A.at' b.toNat).K (A.at' b.toNat).G (A.at' b.toNat).q (A.at' b.toNat).j (A.at' b.toNat).m (A.at' b.toNat).ak (A.at' b.toNat).aA (A.at' b.toNat).i (A.at' b.toNat).aJ (A.at' b.toNat).b4 (A.at' b.toNat).cb (A.at' b.toNat).b0 (A.at' b.toNat).cq (A.at' b.toNat).bn (A.at' b.toNat).c9 (A.at' b.toNat).fc (A.at' b.toNat).eH (A.at' b.toNat).fe (A.at' b.toNat).eI) (true,default,default,default,default,default,default,default,default,default,default,default,0,0,0,0,0,(B:I ah),0,(B:I ay),0,0,(B:I ax),Gd iW iV jo (A.at' b.toNat).q (A.at' b.toNat).j (A.at' b.toNat).m (A.at' b.toNat).ak (A.at' b.toNat).aA (A.at' b.toNat).i (A.at' b.toNat).aJ (A.at' b.toNat).b4 (A.at' b.toNat).cb (A.at' b.toNat).b0 (A.at' b.toNat).cq))) (false,f,bk,bS,c7,a,c,d,e,iW,iV,jo,default,default,default,default,default,default,default,default,default,default,default,default)
def fu:Bool×Int×Int×Int×Int×Int×I ah×Int×I ay×Int×Int×I ax×Int×Int×Int×Int×Int×I ah×Int×I ay×Int×Int×I ax×Int:=uA A (toNat ((A.n:Int)-0)+1) 0 HR HS zR HT xp xq xr xt zS zT zQ
def mn:Bool:=cond (fu A).1 false true
def Cm:Int:=cond (mn A) (fu A).2.1 (fu A).2.2.2.2.2.2.2.2.2.2.2.2.1
def Cn:Int:=cond (mn A) (fu A).2.2.1 (fu A).2.2.2.2.2.2.2.2.2.2.2.2.2.1
def oD:Int:=cond (mn A) (fu A).2.2.2.1 (fu A).2.2.2.2.2.2.2.2.2.2.2.2.2.2.1
def Co:Int:=cond (mn A) (fu A).2.2.2.2.1 (fu A).2.2.2.2.2.2.2.2.2.2.2.2.2.2.2.1
def y6:Int:=cond (mn A) (xE (jG (fu A).2.2.2.2.2.1 (fu A).2.2.2.2.2.2.1 (fu A).2.2.2.2.2.2.2.1 (fu A).2.2.2.2.2.2.2.2.1)) (fu A).2.2.2.2.2.2.2.2.2.2.2.2.2.2.2.2.1
def y7:I ah:=cond (mn A) (rA (jG (fu A).2.2.2.2.2.1 (fu A).2.2.2.2.2.2.1 (fu A).2.2.2.2.2.2.2.1 (fu A).2.2.2.2.2.2.2.2.1)) (fu A).2.2.2.2.2.2.2.2.2.2.2.2.2.2.2.2.2.1
def F_:Int:=let a:=fu A;(cond (mn A) (z7 (jG a.2.2.2.2.2.1 a.2.2.2.2.2.2.1 a.2.2.2.2.2.2.2.1 a.2.2.2.2.2.2.2.2.1)) a.2.2.2.2.2.2.2.2.2.2.2.2.2.2.2.2.2.2.1)
def y8:I ay:=cond (mn A) (rB (jG (fu A).2.2.2.2.2.1 (fu A).2.2.2.2.2.2.1 (fu A).2.2.2.2.2.2.2.1 (fu A).2.2.2.2.2.2.2.2.1)) (fu A).2.2.2.2.2.2.2.2.2.2.2.2.2.2.2.2.2.2.2.1
def qY:Int:=cond (mn A) (fu A).2.2.2.2.2.2.2.2.2.1 (fu A).2.2.2.2.2.2.2.2.2.2.2.2.2.2.2.2.2.2.2.2.1
def y9:Int:=cond (mn A) (fu A).2.2.2.2.2.2.2.2.2.2.1 (fu A).2.2.2.2.2.2.2.2.2.2.2.2.2.2.2.2.2.2.2.2.2.1
def sv:I ax:=cond (mn A) (fu A).2.2.2.2.2.2.2.2.2.2.2.1 (fu A).2.2.2.2.2.2.2.2.2.2.2.2.2.2.2.2.2.2.2.2.2.2.1
def aty:Int:=cond (mn A) 0 (fu A).2.2.2.2.2.2.2.2.2.2.2.2.2.2.2.2.2.2.2.2.2.2.2
def s7:mP zS zT zQ:=Yc ⟨Δ,Δ,⟨λ_=>rfl,λ_=>rfl⟩,cd _,Δ,λi a=>absurd a (dJ i),λi a=>absurd a (dJ _)⟩
def avb{A g:Int}{u:I ax}{o v d:Int}{y:Bool}{F p x:Int}{ao bR b6:z}{cl:Int}(h:mP A g u):mP (L5 A) (L6 g) (y_ A g u o v d y F p x ao bR b6 cl):=by
 unfold L5 L6 y_
 cases decide (o<=A)
 .cases decide (o>(i64 (lf A g u+1)))
  .simp only[aB]
   cases e:(cV A g (I.app (I.part u 0 (i64 (i64 (o-A)-1))) (I.lit ([(⟨v,d,y,F,p,x,ao,bR,b6,cl⟩:ax)]:List ax)))!=0)
   .exact bP e
   .exact h
  .exact h
 .exact h
def s8{A:I bB}{a c b t:Int}{s:I ax}(h:mP b t s)(d:(qZ A a b t s)=true):mP (wP A a c b t s) (Cp A a c b t s) (wO A a c b t s):=by
 unfold qZ at d;have f:=ZH (s:=A) (i:=toNat a);unfold wP Cp wO;generalize A.at' a.toNat=E at*
 cases e:(fJ E.r E.K E.G E.q E.j E.m E.ak E.aA E.i E.aJ E.b4 E.cb E.b0 E.cq E.bn E.c9 E.fc E.eH E.fe E.eI !=0)with
 |true=>rw[e]at d;cases d
 |false=>
  have f:=f e
  cases g:(E.r==1)
  .simp only[aB]
   cases j:(E.r==2)
   .simp only[aB]
    cases bo:(E.r==3)
    .exact h
    .simp only[au]
     cases decide (E.bn>c)
     .exact h
     .have bo:=eq_of_beq bo;have r:(1<=E.bn/\E.bn<=1048576)/\(1<=E.c9/\E.c9<=1048576):=by omega
      exact Yc (aBW (aBU h) r.1 r.2)
   .exact avb h
  .exact h
def amW:bt:=⟨[.v (.ab BA)],λA=>⟨⟨none,.du [.agg [c (Cm A),c (Cn A),c (oD A),c (Co A),c (y6 A),aV 8 ho (y7 A),c (F_ A),aV 7 hP (y8 A),c (qY A),c (y9 A),aV 10 eJ (sv A)],c (aty A)]⟩⟩⟩
def ayu:bE 84 amW:=bG Tryz.func84
 λA z _=>bJ ⟨.pure,[.cell 2 88,.tmp 3],[(.c 0 0,a),(.c 0 1,a),(.c 0 2,a),(.c 0 3,a),(.c 0 4,a),(.c 0 5,.ab bx),(.c 0 6,a),(.c 0 7,.ab b8),(.c 0 8,a),(.c 0 9,a),(.c 0 10,.ab dT),(.t 1,a)],⟨[.agg (us 11 []),U],[]⟩⟩ (.ae (.ae (.j ⟨28,[],[],[],.f⟩ (.ae (.c6 ⟨57372,[],[],[(.t 15,a),(.h 1 0,a),(.h 1 1,a),(.h 1 2,a),(.h 1 3,a),(.h 1 4,a),(.h 1 5,.ab bx),(.h 1 6,a),(.h 1 7,.ab b8),(.h 1 8,a),(.h 1 9,a),(.h 1 10,.ab dT)],some 0,true,28,[],[(.h 1 0,a),(.h 1 1,a),(.h 1 2,a),(.h 1 3,a),(.h 1 4,a),(.h 1 5,.ab bx),(.h 1 6,a),(.h 1 7,.ab b8),(.h 1 8,a),(.h 1 9,a),(.h 1 10,.ab dT)],λk (s:Int×Int×Int×Int×Int×Int×I ah×Int×I ay×Int×Int×I ax)=>uA A k s.1 s.2.1 s.2.2.1 s.2.2.2.1 s.2.2.2.2.1 s.2.2.2.2.2.1 s.2.2.2.2.2.2.1 s.2.2.2.2.2.2.2.1 s.2.2.2.2.2.2.2.2.1 s.2.2.2.2.2.2.2.2.2.1 s.2.2.2.2.2.2.2.2.2.2.1 s.2.2.2.2.2.2.2.2.2.2.2,.f,λ(s:Int×Int×Int×Int×Int×Int×I ah×Int×I ay×Int×Int×I ax)=>mP s.2.2.2.2.2.2.2.2.2.1 s.2.2.2.2.2.2.2.2.2.2.1 s.2.2.2.2.2.2.2.2.2.2.2/\0<=s.1/\s.1<=(A.n:Int),λ(s:Int×Int×Int×Int×Int×Int×I ah×Int×I ay×Int×Int×I ax)=>toNat ((A.n:Int)-s.1),none⟩ (.ae (.ae (.j ⟨511697116,[],[(.h 1 0,a),(.h 1 1,a),(.h 1 2,a),(.h 1 3,a),(.h 1 4,a),(.h 1 5,.ab bx),(.h 1 6,a),(.h 1 7,.ab b8),(.h 1 8,a),(.h 1 9,a),(.h 1 10,.ab dT)],[.b .f .l,.b .f .l,.f,.f,.f,.f,.f,.f,.f,.f,.f],.b .f (.b .f (.b .f .l))⟩ .z .z))))) .z))) (let d:=fu A;((mP zS zT zQ/\0<=(0:Int)/\(0:Int)<=(A.n:Int))/\∀(b f bk bS c7 o:Int) (p:I ah) (q:Int) (r:I ay) (iW iV:Int) (jo:I ax),let h:=decide (b<A.n);let e:=i64 (b+1);let c:=A.at' b.toNat;(mP iW iV jo/\0<=b/\b<=A.n)->(h=true->((0:Int)<=b/\b<A.n)/\((fJ c.r c.K c.G c.q c.j c.m c.ak c.aA c.i c.aJ c.b4 c.cb c.b0 c.cq c.bn c.c9 c.fc c.eH c.fe c.eI !=0)=false->(c.r==1)=false->((c.r==2)=true->mP iW iV jo)/\((c.r==2)=false->(c.r==3)=true->decide (c.bn>bS)=true->c.bn<=9223372036854775807)))/\(h=true->qZ A b iW iV jo=true->(mP (wP A b bS iW iV jo) (Cp A b bS iW iV jo) (wO A b bS iW iV jo)/\0<=e/\e<=A.n)/\toNat ((A.n:Int)-e)<toNat ((A.n:Int)-b)))/\(mn A=true->aN (jG d.2.2.2.2.2.1 d.2.2.2.2.2.2.1 d.2.2.2.2.2.2.2.1 d.2.2.2.2.2.2.2.2.1))) (cK (aR aiB (aR aiK (aR aiL (aR XQ (aR DZ (aR aik (aR ayx ba)))))))) Tryz.func84 (⟨⟨⟨by apply s7,Ω⟩,λb f bk bS c7 o p q r iW iV jo n=>have y:=n.1;⟨λi=>⟨have:=al i;Ω,λj l=>⟨λv=>Ψ,λm w x=>have:=ZH j;have:=dk l;have:=dk m;Ω⟩⟩,λg t=>⟨⟨Γ,have:=al g;have:=E (b+1);Ω⟩,have:=al g;have:=E (b+1);Ω⟩⟩⟩,λu=>Θ⟩)
end
def JU:aN (B:I Int):=λ_=>⟨bz 0,(by decide:(0:Int)<=255)⟩
def QA{A:I Int}{g u:Int}(h:aN A):aN (rq A g u):=by
 unfold rq
 cases (!(h9 A g))
 .cases decide (u<0)
  .exact mK (l9 h)
  .exact JU
 .exact JU
def gS(A:Int)(h:N):N:=let c:=xv h.a_ h.bp A;let b:=rq h.a_ h.bp A;let a:=wN b c;{h with aM:=(zr h.aM),up:=Vv,ro:=zB,D:=(Hq (Cm a)),bl:=(Hr (Cn a)),e:=(Hs (qY a)),lt:=(Ht (y9 a)),li:=(Hu (sv a)),b9:=(Hv (oD a)),g9:=(Hd (Co a)),hE:=(He (y6 a)),fU:=(Hf (y7 a)),dW:=(Hg (F_ a)),fT:=(Hh (y8 a)),fL:=(Hi (y6 a)),dx:=(Hj (y7 a)),fx:=(Hk (F_ a)),eN:=(Hl (y8 a)),co:=(Hm (oD a)),v0:=zs,v1:=zt,v2:=zu,eL:=zv,ef:=zw,ek:=zx,hX:=zy,q1:=zz,gw:=zA,ws:=(B:I hz),a_:=(y5 b c),bp:=(F9 b c),a1:=(B:I ai)}
def Ry(i:Nat):dv:=⟨[.p 0,.fZ 0 (33*i),.v a],cn,fp,e9,λ(A:Int)=>cW λC=>⟨⟨some (aN (C.h i).a_),[],cx ((aS.set (2*i) 10).set (2*i+1) 11) 2 (C.set i (gS A (C.h i)))⟩⟩⟩
def apY(i:Nat):c2:=⟨.ff true [.b 10,.b 11] [.kill (2*i+1),.kill (2*i+2),.own (.h 0 (33*i+29)) dF 10,.own (.h 0 (33*i+32)) cR 11] (g8 i ((aS.set (2*i) 10).set (2*i+1) 11) 2 [] 0) (g7 i ((aS.set (2*i) 10).set (2*i+1) 11)),[],[]++gA i ((aS.set (2*i) 10).set (2*i+1) 11),⟨[],[]⟩⟩
def Zh(i:Nat)(A:Int)(C:aq):Prop:=aN (rq (C.h i).a_ (C.h i).bp A)
def aDt(i:Nat)(c:i<3)(A:Int)(C:aq)(b:fa C)(d:aN (C.h i).a_):Zh i A C:=by
 have a:=hB b i c;unfold gz at a;unfold Zh;exact(Θ)
def aA9(i:Nat)(a:i<3)(A:Int):fB Tryz.prog 61 (Ry i) cn [] (cW λC=>⟨⟨some (aN (C.h i).a_),[],cx ((aS.set (2*i) 10).set (2*i+1) 11) 2 (C.set i (gS A (C.h i)))⟩⟩) [c A]:=by
 refine g6 λC b d=>eX (apY i) .z (Zh i A C) (bZ 10 (aR aAm (aR ays (aR ayu (aR aiq ba)))) bY) Tryz.func61 [] ?_ ?_ (aDt i a A C b d)
 .exact Υ
 .exact Υ
def aEf(i:Nat)(b:i<3):gW 61 (Ry i):=
 kt (bF:=[a]) λs c=>Eq.mp Υ (aA9 i b s.1)
def az4(i:Nat)(a:i<3):gX 61 (Ry i):=hi g4 Tryz.func61 (aEf i a)
def eE(s:I ax):Prop:= ∀j,mg (s.at' j)
def ajc{s t:I ax}(a:eE s)(b:eE t):eE (s.app t):=λj=>by
 show mg (cond (Nat.blt j s.n) (s.at' j) (t.at' (j-s.n)))
 cases Nat.blt j s.n
 .exact b _
 .exact a _
def AF{s:I ax}(c:eE s)(a b:Int):eE (s.part a b):=λj=>c (a.toNat+j)
def ahW:mg default:=⟨cd _,cd _,cd _⟩
def nk:eE (B:I ax):=λ_=>ahW
def IZ{c:Bool}{a b:I ax}(d:eE a)(e:eE b):eE (cond c a b):=by
 cases c
 .exact e
 .exact d
def xX{s:I ax}(h:eE s)(j:Nat):mg (s.at' j):=h j
section
variable {A g:Int} {u:I ax} {o:Int} {d:I ax}
def aBI(a:eE d):eE (eB A o d):=by
 unfold eB;exact IZ (AF a _ _) a
def ap8(A g:Int)(u:I ax)(o:Int)(d:I ax)(r:Bool×Int×Int×I ax×Bool×Int×Int):Prop:=
 (r.1=false/\cJ A o d-A+((eB A o d).n:Int)<=(u.n:Int))\/(r.1=true/\r.2.2.2.2.2.2≠0/\r.2.2.2.2.1=false)\/
  (r.1=true/\r.2.1=A/\r.2.2.1=g/\cV A g r.2.2.2.1=0/\(r.2.2.2.1.n:Int)=cJ A o d-A+((eB A o d).n:Int)/\A+1<=r.2.2.2.2.2.1/\r.2.2.2.2.2.1<=cJ A o d+((eB A o d).n:Int)/\(eE u->eE d->eE r.2.2.2.1))
def ajw(f:0<=A/\A<=1048576)(n:u.n<=200)(m:A<=cJ A o d/\cJ A o d<=A+(u.n:Int))(l:(eB A o d).n<=200):
  ∀(k:Nat) (v:Int),0<=v->v<=((eB A o d).n:Int)->toNat (((eB A o d).n:Int)-v)<k->cJ A o d-A+v<=(u.n:Int)->ap8 A g u o d (o6 A g u o d k v)
 |0,v,_,_,h,_=>absurd h (dJ _)
 |k+1,v,r,s,p,t=>by
  rw[o6]
  by_cases c:v<((eB A o d).n:Int)
  .rw[bm c];simp only[au]
   cases a:s3 A u o d v with
   |true=>
    have q:cJ A o d-A+v<(u.n:Int):=by
     unfold s3 at a;rw[E (cJ A o d-A),E (cJ A o d-A+v)]at a
     by_cases b:cJ A o d-A+v<(u.n:Int)
     .exact b
     .rw[a8 b]at a;cases a
    simp only[au];rw[E (v+1)];exact ajw f n m l k (v+1) Ω Ω Ω Ω
   |false=>
    simp only[aB];rw[E (cJ A o d-A),E (cJ A o d-A+v),E (cJ A o d+v),E (cJ A o d+v+1)]
    cases e:(cV A g (I.app (I.part u 0 (cJ A o d-A+v)) (I.part (eB A o d) v (((eB A o d).n:Nat):Int)))!=0)with
    |true=>exact .inr (.inl ⟨rfl,(by decide:(6:Int)≠0),rfl⟩)
    |false=>
     refine .inr (.inr ⟨rfl,rfl,rfl,bP e,?_,?_,?_,λi j=>ajc (AF i _ _) (AF (aBI j) _ _)⟩)
     .show(((I.part u 0 (cJ A o d-A+v)).n+(I.part (eB A o d) v (((eB A o d).n:Nat):Int)).n:Nat):Int)=_;simp only[I.vM];omega
     .show A+1<=cJ A o d+v+1;omega
     .show cJ A o d+v+1<=_;omega
  .rw[a8 c];exact .inl ⟨rfl,Ω⟩
def ajy{v:Int}(a:iP A g u o v d=0)(b:jF A g u o v d=true):
  cr A g u o v d=A/\0<=A/\cV A (va A g u o v d) (cf A g u o v d)=0/\o+(d.n:Int)<=A+((cf A g u o v d).n:Int)/\((dQ A g u o v d=0/\cf A g u o v d=u)\/(A+1<=dQ A g u o v d/\dQ A g u o v d<=o+(d.n:Int)))/\(0<=o/\o+(d.n:Int)<=1048576)/\(eE u->eE d->eE (cf A g u o v d)):=by
 unfold iP at a;unfold jF at b;unfold cr va cf dQ
 cases i:(cV A g u !=0)with
 |true=>rw[i]at a;exact absurd a (by simpa using i)
 |false=>
 cases l:(cV o v d !=0)with
 |true=>rw[i,l]at a;cases a
 |false=>
 rw[i,l]at a b;simp only[aB]at a b |-;have G:=fF _ _ _ (bP i);have f:=fF _ _ _ (bP l)
 cases e:qj A g u o v d with
 |false=>
  rw[e]at a b;simp only[aB]at a b |-;refine⟨by first|rfl|trivial,G.1.1,bP i,?_,.inl (by first|exact⟨rfl,rfl⟩|simp),⟨f.1.1,f.2.2.2⟩,λh _=>h⟩
  by_cases c:o<A
  .unfold qj at e;rw[bm c]at e;simp only[au]at e;have k:=qm (i64 (A-o)) (d.n:Int);rw[E (A-o)]at e k;generalize gj (A-o) (d.n:Int)=q at*
   rw[E (o+q)]at e
   by_cases p:o+q<A
   .omega
   .rw[a8 p]at e;cases e
  .rw[a8 c]at b;cases b
 |true=>
  rw[e]at a b;simp only[au]at a b |-;have r:=f75 A g u o v d e ⟨⟨G.1,G.2.2.1⟩,f.1,f.2.2.1⟩;have z:cJ A o d+((eB A o d).n:Int)=o+(d.n:Int):=by
   unfold cJ eB
   by_cases c:o<A
   .rw[bm c];simp only[au];have k:=qm (i64 (A-o)) (d.n:Int);rw[E (A-o)]at k |-;generalize gj (A-o) (d.n:Int)=q at*
    rw[E (o+q),I.vM];omega
   .rw[a8 c];rfl
  have n:=ajw (g:=g) G.1 G.2.2.1 r.1 Ω (toNat (((eB A o d).n:Int)-0)+1) 0 (bz _) Ω Ω Ω;have s:o6 A g u o d (toNat (((eB A o d).n:Int)-0)+1) 0=s4 A g u o d:=rfl;rw[s]at n;unfold vb at a b |-;rcases n with⟨q1,j⟩|⟨q1,j,m⟩|⟨q1,j,x,m,B,t,C,w⟩
  .rw[q1]at a b |-;simp only[aB,au]at a b |-;exact⟨by first|rfl|trivial,G.1.1,bP i,Ω,.inl (by first|exact⟨rfl,rfl⟩|simp),⟨f.1.1,f.2.2.2⟩,λh _=>h⟩
  .rw[q1]at a;simp only[aB,au]at a;exact absurd a j
  .have y:=fF _ _ _ m;rw[q1]at a b |-;simp only[aB,au]at a b |-;exact⟨j,G.1.1,by rw[x];exact m,Ω,.inr ⟨t,Ω⟩,⟨f.1.1,f.2.2.2⟩,w⟩
def Ee{v:Int}(a:iP A g u o v d=0)(b:(!(jF A g u o v d))=false):
  cr A g u o v d=A/\0<=A/\(A+((cf A g u o v d).n:Int)<=1048576/\(cf A g u o v d).n<=200)/\o+(d.n:Int)<=A+((cf A g u o v d).n:Int)/\(dQ A g u o v d=0\/(A+1<=dQ A g u o v d/\dQ A g u o v d<=o+(d.n:Int)))/\(0<=o/\o+(d.n:Int)<=1048576)/\(eE u->eE d->eE (cf A g u o v d)):=by
 have h:=ajy a (by simpa using b);have c:=fF _ _ _ h.2.2.1;exact⟨h.1,h.2.1,⟨c.2.2.2,c.2.2.1⟩,h.2.2.2.1,h.2.2.2.2.1.imp And.left id,h.2.2.2.2.2⟩
end
structure kv (n:N):Prop where
 aM:0<=n.aM/\n.aM<3
 e:0<=n.e
 il:n.e<=n.co
 co:n.co<=1048576
 fK:n.li.n<=200
 eC:n.e+(n.li.n:Int)<=1048576
 ws:n.ws.n<=3000
 pp:(0<=n.eL/\n.eL<=1048577)/\(0<=n.ef/\n.ef<=1048577)/\(0<=n.ek/\n.ek<=1048577)
 li:eE n.li
 u8:aN n.a_
 b9:0<=n.b9/\n.b9<=1048576
 hY:(0<=n.hX/\n.hX<=1048576)/\(0<=n.q1/\n.q1<=1048576)/\(0<=n.gw/\n.gw<=1048576)
structure fE (m:ai):Prop where
 kC:0<=m.r/\m.r<3
 to:0<=m.K/\m.K<3
 j1:0<=m.j/\m.j<=1048576
 b9:0<=m.aJ/\m.aJ<=1048576
 li:eE m.i
def KK(h:N)(a:0<=h.e/\h.e+(h.li.n:Int)<=4194304):0<=b_ h/\b_ h<=h.e+(h.li.n:Int):=by
 show 0<=lf h.e h.lt h.li/\lf h.e h.lt h.li<=h.e+(h.li.n:Int);have b:=E (h.e+(h.li.n:Int));unfold lf
 cases (cV h.e h.lt h.li !=0)with
 |true=>exact⟨bz 0,by show(0:Int)<=h.e+(h.li.n:Int);omega⟩
 |false=>
  show 0<=pV h.e h.li/\pV h.e h.li<=h.e+(h.li.n:Int);unfold pV
  cases decide ((h.li.n:Int)>0)with
  |true=>rw[au];omega
  |false=>rw[aB];omega
def wq(C:aq)(m:ai):Prop:=0<=m.r/\m.r<3/\0<=m.K/\m.K<3/\kv (C.h (toNat m.K))/\fE m/\C.told.n<=541000000000/\C.aU.n<=549000000000
structure Bw (a:aK):Prop where
 ck:1<=a.r/\a.r<=12
 h:0<=a.K/\a.K<3
 ln:0<=a.G
 Px:a.r=6\/a.r=7\/a.r=8\/a.r=12->a.K=0
 A8:a.ak.size<=10000000000
 A9:a.aA.size<=10000000000
 A_:a.i.size<=10000000000
structure fz (k:Nat) (C:aq):Prop where
 h: ∀i,kv (C.h i)
 wn: ∀i,(C.h i).ws.n<=k
 gd: ∀j,j<C.s.n->fE (C.s.at' j)
 lF:C.s.n<=300
 a1: ∀i j,j<(C.h i).a1.n->fE ((C.h i).a1.at' j)
 on: ∀i,(C.h i).a1.n<=300
 tG:C.told.n<=180001000*k
 fK:C.aU.n<=300*k
def fA(C:aq)(a:aK):Prop:=(∃k,k<3000/\fz k C)/\Bw a
def pL{C:aq}{a:aK}(h:fA C a)(i:Nat):kv (C.h i):=by
 obtain⟨⟨k,_,b⟩,_⟩:=h;exact b.h i
def qT{C:aq}{a:aK}(h:fA C a):C.told.n<=540000000000/\C.aU.n<=900000/\C.s.n<=300:=by
 obtain⟨⟨k,e,b⟩,_⟩:=h;have c:=b.tG;have d:=b.fK;exact⟨Ω,Ω,b.lF⟩
def adi{C X:aq}{a:aK}(h:fA C a){j:Nat}(d:j<C.s.n)(f: ∀i,kv (X.h i))(g:X.told.n<=541000000000)(e:X.aU.n<=549000000000):wq X (C.s.at' j):=by
 obtain⟨⟨k,l,c⟩,_⟩:=h;have b:=c.gd j d;exact⟨b.kC.1,b.kC.2,b.to.1,b.to.2,f _,b,g,e⟩
def aqw{A g o v:Int}{u:I ax} :pY A g u o v=o:=by
 unfold pY
 cases e:p0 A g u o v
 .rfl
 .simp only[au];unfold p0 at e
  cases b:(u5 A g u o==0)
  .rw[b]at e;cases e
  .have h:=eq_of_beq b;unfold u5 at h;unfold ry
   cases a:(cV A g u !=0)
   .rw[a]at h;simp only[aB]at h |-
    cases bo:z2 o
    .rw[bo]at h;simp only[aB]at h;rw[show(hQ A u o !=0)=false by rw[h];rfl];rfl
    .rw[bo,au]at h;exact absurd h (by decide: ¬(2:Int)=0)
   .rw[a]at h;simp only[au]at h;exact absurd h (bne_iff_ne.1 a)
def RF(a b:Int):Prop:=b=a/\0<=a/\a<=1048576
def as4{A:I bB}{a c b t:Int}{s:I ax}(h:RF c b)(d:(qZ A a b t s)=true):RF (Ga A a c) (wP A a c b t s):=by
 unfold qZ at d;have f:=ZH (s:=A) (i:=toNat a);unfold Ga wP;generalize A.at' a.toNat=E at*
 cases e:(fJ E.r E.K E.G E.q E.j E.m E.ak E.aA E.i E.aJ E.b4 E.cb E.b0 E.cq E.bn E.c9 E.fc E.eH E.fe E.eI !=0)with
 |true=>rw[e]at d;cases d
 |false=>
  have f:=f e
  cases g:(E.r==1)
  .simp only[aB]
   cases j:(E.r==2)
   .simp only[aB]
    cases bo:(E.r==3)
    .exact h
    .simp only[au]
     cases decide (E.bn>c)
     .exact h
     .simp only[au];have bo:=eq_of_beq bo;have r:(1<=E.bn/\E.bn<=1048576)/\(1<=E.c9/\E.c9<=1048576):=by omega
      exact⟨aqw,Ω,Ω⟩
   .exact h
  .exact h
def BN{x:z}(h:x.toList=ε.toList):x.size=0:=by
 rw[acr (x:=x) (by rw[h];simp)];rfl
def ass{b c:Bool}{iQ a d e f g:List UInt8}(h:(!(b&&((iQ==e)&&((a==f)&&((d==g)&&(c&&true))))))=false):iQ=e/\a=f/\d=g:=by
 simp at h;exact⟨h.2.1,h.2.2.1,h.2.2.2.1⟩
def aFv{A:Int}{g u o:z}{v:Int}(h:fS A g u o v=0):g.size<=20/\u.size<=20/\o.size<=20:=by
 unfold fS at h;have⟨_,h⟩:=dG h Δ;have⟨e,h⟩:=dG h Δ;have⟨m,h⟩:=dG h Δ;have⟨f,i,_⟩:=ass e;have k:A≠22->lM g=true:=λa=>by
  cases q:lM g
  .simp [sW,a,q]at m
  .rfl
 have l:4<=A->A<=6->lM u=true:=λa b=>by
  cases q:lM u
  .simp [sW,a,b,q]at m
  .rfl
 have n:kf o=true:=by
  cases q:kf o
  .exfalso
   by_cases a:A=22
   .subst a;simp [sW,q]at m
   .by_cases b:A>=4
    .by_cases c:A<=6
     .simp [sW,b,c,q]at m
     .simp [sW,b,c,q]at m
    .simp [sW,b,q]at m
  .rfl
 have j: ∀y:z,lM y=true->y.size<=20:=λy d=>by
  unfold lM Gq at d
  by_cases a:(y.size:Int)>=1
  .simp [a]at d;omega
  .simp [a]at d
 refine⟨?_,?_,?_⟩
 .by_cases a:A=22
  .subst a;rw[show HV 22 g=ε from rfl]at f;rw[BN f];omega
  .exact j _ (k a)
 .by_cases a:4<=A/\A<=6
  .exact j _ (l a.1 a.2)
  .have p:(A==4)=false:=by simp;omega
   have r:(A==5)=false:=by simp;omega
   have s:(A==6)=false:=by simp;omega
   have:DB A u=ε:=by
    unfold DB zY;rw[p,r,s]
    cases zW A<;>cases zX A<;>rfl
   rw[this]at i;rw[BN i];omega
 .have:=al n;omega
def TC{a b c d:Bool}{x y e:z}(h:(!(a&&(b&&(c&&((x.toList==ε.toList)&&((y.toList==ε.toList)&&((e.toList==ε.toList)&&(d&&true))))))))=false):x.size<=20/\y.size<=20/\e.size<=20:=by
 simp only[Bool.not_eq_false',b2,gy]at h;rw[BN h.2.2.2.1,BN h.2.2.2.2.1,BN h.2.2.2.2.2.1];omega
def Z0{A g u:Int}{o v d:z}{y:Int}(h:h_ A g u o v d y=0):o.size<=20/\v.size<=20/\d.size<=20:=by
 unfold h_ at h
 cases a:(A==0)
 .rw[a,aB]at h;have⟨_,h⟩:=dG h Δ;exact aFv h
 .rw[a,au]at h;exact TC (dG h Δ).1
def aFw{A g:Int}{u:Bool}{o v d:Int}{y F p:z}{x:Int}(h:fX A g u o v d y F p x=0):mg ⟨A,g,u,o,v,d,y,F,p,x⟩:=by
 have k:y.size<=20/\F.size<=20/\p.size<=20:=by
  unfold fX at h;have⟨_,h⟩:=dG h Δ
  cases u
  .exact Z0 h
  .simp only[au]at h;exact TC (dG h Δ).1
 exact⟨ec k.1 Δ,ec k.2.1 Δ,ec k.2.2 Δ⟩
def aFx{a:aK}(h:qh a.r a.K a.G a.q a.j a.m a.ak a.aA a.i a.aJ=0):(1<=a.r/\a.r<=12)/\(0<=a.K/\a.K<3)/\0<=a.G/\(a.r=6\/a.r=7\/a.r=8\/a.r=12->a.K=0)/\a.ak.size<=20/\a.aA.size<=20/\a.i.size<=20:=by
 unfold qh at h;have⟨j,h⟩:=dG h Δ;have⟨g,h⟩:=dG h Δ;have⟨f,h⟩:=dG h Δ;have m:1<=a.r/\a.r<=12:=by
  unfold HZ at j
  by_cases p:a.r<1
  .simp [p]at j
  .simp [p]at j;omega
 have o:nH a.r=true->0<=a.K/\a.K<3:=λe=>by
  unfold DF at g;rw[e,au]at g
  by_cases p:a.K<0
  .simp [p]at g
  .by_cases q:a.K>=3
   .simp [p,q]at g
   .omega
 have k:nH a.r=false->a.K=0:=λe=>by
  unfold z1 at f;rw[e]at f
  cases q:(a.K !=0)
  .exact bP q
  .rw[q]at f;exact absurd f Χ
 have s:nI a.r=true->0<=a.G:=λe=>by
  unfold DF at g;rw[e]at g
  by_cases p:a.G<0
  .exfalso
   cases i:nH a.r<;>rw[i]at g
   .simp [p]at g
   .by_cases q:a.K<0
    .simp [q]at g
    .by_cases r:a.K>=3
     .simp [q,r]at g
     .simp [p,q,r]at g
  .omega
 have t:nI a.r=false->a.G=0:=λe=>by
  unfold z1 at f;rw[e]at f
  cases q:(a.G !=0)
  .exact bP q
  .rw[q]at f;exfalso
   cases i:nH a.r<;>rw[i]at f<;>cases y:(a.K !=0)<;>rw[y]at f<;>simp at f
 have n:a.ak.size<=20/\a.aA.size<=20/\a.i.size<=20:=by
  cases q:(a.r==1)
  .have u:(a.r !=1)=true:=by rw[bne,q];rfl
   unfold z1 at f;rw[u]at f;refine TC (a:=(a.q==0)) (b:=(a.j==0)) (c:=(a.m==0)) (d:=(a.aJ==0)) ?_;revert f;generalize (!((a.q==0)&&((a.j==0)&&((a.m==0)&&((a.ak.toList==ε.toList)&&((a.aA.toList==ε.toList)&&((a.i.toList==ε.toList)&&((a.aJ==0)&&true))))))))=i;intro f
   cases i
   .rfl
   .exfalso
    cases i:nH a.r<;>rw[i]at f<;>cases y:(a.K !=0)<;>rw[y]at f<;>cases x:nI a.r<;>rw[x]at f<;>cases w:(a.G !=0)<;>rw[w]at f<;>simp at f
  .rw[q]at h;exact Z0 h
 refine⟨m,?_,?_,?_,n⟩
 .cases e:nH a.r
  .rw[k e];decide
  .exact o e
 .cases e:nI a.r
  .rw[t e];decide
  .exact s e
 .intro l;apply k;rcases l with e|e|e|e<;>rw[e]<;>rfl
