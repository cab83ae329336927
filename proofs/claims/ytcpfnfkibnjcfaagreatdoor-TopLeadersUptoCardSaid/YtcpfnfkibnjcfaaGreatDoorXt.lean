import Derived.Test.YtcpfnfkibnjcfaaGreatDoorXs
open Go.IntKind (i64 u64 u8)
open Int (toNat)
set_option maxRecDepth 100000
set_option maxHeartbeats 4000000
set_option linter.all false
noncomputable section
namespace Go.Proofs.YtcpfnfkibnjcfaaGreatDoor
open Go Go.RowKit Go.ag
def VT:Nat->Int->I aK->Int×I aK×Int×Bool
 |0,_,_=>default
 |k+1,dS,a=>cond (decide (dS<3)) (VT k (i64 (dS+1)) (I.app a (I.lit ([(⟨3,dS,0,0,0,0,ε,ε,ε,0⟩:aK),(⟨4,dS,0,0,0,0,ε,ε,ε,0⟩:aK)]:List aK)))) (dS,a,dS,decide (dS<3))
def HU(f:I aK):Int×I aK×Int×Bool:=VT (toNat (3-0)+1) 0 f
def Dz(A:Int):Nat->Int->I aK->I aK
 |0,_,_=>default
 |k+1,b,f=>cond (decide (b<A)) (Dz A k (i64 (b+1)) (I.app (HU f).2.1 (I.lit ([(⟨12,0,0,0,0,0,ε,ε,ε,0⟩:aK)]:List aK)))) f
def auS(A:Int):I aK:=Dz A (toNat (A-0)+1) 0 (B:I aK)
def xu(A:Int):I aK:=auS A
def ajX(s:I aK):(HU s).2.1.n=s.n+6:=by kernel_rfl
def apc:bt:=⟨[.v a],λ(A:Int)=>⟨⟨some (0<=A/\A<=100),(aG.ad gY).av (xu A)⟩⟩⟩
def aAf:bE 9 apc:=bG Tryz.func9
 λ(A:Int) q=>bJ ⟨.own gY,[.tmp 2],[(.h 0 0,.ad gY)],⟨[],[]⟩⟩ (.ae (.ae (.j ⟨12,[],[],[],.f⟩ (.ae (.vC ⟨29,[],[(.t 3,gY)],[(.t 4,a),(.h 0 0,.ad gY)],some 0,false,12,[],[(.h 0 0,.ad gY)],λk (s:Int×I aK)=>Dz A k s.1 s.2,.f,λ(s:Int×I aK)=>0<=s.1/\s.1<=A/\(s.2.n:Int)=7*s.1,λ(s:Int×I aK)=>toNat (A-s.1),none⟩ (λ(j:Int×I aK)=>.ae (.s (.j ⟨6653,[],[],[],.f⟩ (.ae (.c6 ⟨509,[],[],[(.t 5,a),(.h 0 0,.ad gY)],some 2,false,6653,[],[(.t 5,a),(.h 0 0,.ad gY),(.t 11,a),(.t 12,l)],λk (s:Int×I aK)=>VT k s.1 s.2,.f,λ(s:Int×I aK)=>0<=s.1/\s.1<=3/\(s.2.n:Int)=(j.2.n:Int)+2*s.1,λ(s:Int×I aK)=>toNat (3-s.1),some λ(r:Int×I aK×Int×Bool)=>(r.2.1.n:Int)=(j.2.n:Int)+6⟩ .z)) .z) .z)))) .z))) ((0<=(0:Int)/\(0:Int)<=A/\(0:Int)=7*(0:Int))/\∀(b:Int) (f:I aK),let i:=HU f;let g:=i64 (b+1);(0<=b/\b<=A/\(f.n:Int)=7*b)->(decide (b<A)=true->((0<=(0:Int)/\(0:Int)<=3/\(f.n:Int)=(f.n:Int)+2*(0:Int))/\∀(dS:Int) (d:I aK),let h:=decide (dS<3);let e:=i64 (dS+1);(0<=dS/\dS<=3/\(d.n:Int)=(f.n:Int)+2*dS)->(h=true->d.n+2<=549755813888)/\(h=true->(0<=e/\e<=3/\(((d.n+2):Nat):Int)=(f.n:Int)+2*e)/\toNat (3-e)<toNat (3-dS))/\(h=false->(d.n:Int)=(f.n:Int)+6))/\((i.2.1.n:Int)=(f.n:Int)+6->i.2.1.n+1<=549755813888))/\(decide (b<A)=true->(0<=g/\g<=A/\(((i.2.1.n+1):Nat):Int)=7*g)/\toNat (A-g)<toNat (A-b))) gb Tryz.func9 (have⟨w,x⟩:=q;⟨Ω,(λb f u=>⟨(λc=>⟨⟨have:=al c;Ω,(λdS d v=>⟨λm=>have:=al c;have:=al m;Ω,⟨(λn=>by have:=al c;have:=al n;first|omega|(have:=E (dS+1);omega)),λo=>have:=al c;have:=hy o;Ω⟩⟩)⟩,λt=>have:=al c;have:=ajX f;Ω⟩),(λp=>by have:=al p;have:=ajX f;first|omega|(have:=E (b+1);omega))⟩)⟩)
def dA(k i:Int):aK:=⟨k,i,0,0,0,0,ε,ε,ε,0⟩
def A7:List aK:=[dA 3 0,dA 4 0,dA 3 1,dA 4 1,dA 3 2,dA 4 2,dA 12 0]
def qt:Nat->List aK
 |0=>[]
 |k+1=>A7++qt k
def ZT: ∀k,(qt k).length=7*k
 |0=>rfl
 |k+1=>by
  show(A7++qt k).length=_;rw[db,ZT k];show 7+7*k=_;omega
def aEF(s:I aK):(HU s).2.1.B=s.B++[dA 3 0,dA 4 0,dA 3 1,dA 4 1,dA 3 2,dA 4 2]:=by
 have e:(HU s).2.1=I.app (I.app (I.app s (I.lit ([dA 3 0,dA 4 0]:List aK))) (I.lit ([dA 3 1,dA 4 1]:List aK))) (I.lit ([dA 3 2,dA 4 2]:List aK)):=by kernel_rfl
 rw[e,fH,fH,fH,fQ,fQ,fQ,e5,e5];rfl
def aiZ(A:Int)(b:A<=1000): ∀(m f:Nat) (v:Int) (s:I aK),v+(m:Int)=A->0<=v->m<=f->(Dz A (f+1) v s).B=s.B++qt m
 |0,f,v,s,a,_,_=>by
  rw[Dz,a8 Ω,aB];exact(iE _).symm
 |m+1,f,v,s,a,c,d=>by
  obtain⟨f,rfl⟩: ∃g,f=g+1:=⟨f-1,Ω⟩;rw[Dz,bm Ω,au,E (v+1),aiZ A b m f (v+1) _ Ω Ω Ω,fH,fQ,aEF];show _=s.B++(A7++qt m);rw[e5,e5];rfl
def aa1{A:Int}(h:0<=A/\A<=100):(xu A).B=qt A.toNat:=by
 have k:=aiZ A Ω A.toNat (toNat (A-0)) 0 B Ω (bz _) Ω;exact k
def ajJ(A:Int):(0<=A/\A<=100/\((xu A).n:Int)=7*A)\/A<0\/100<A:=by
 by_cases h:0<=A/\A<=100
 .refine .inl ⟨h.1,h.2,?_⟩;rw[<-bj,aa1 h,ZT];omega
 .omega
def V3:Nat->Int->I aK->I aK
 |0,_,_=>default
 |k+1,b,f=>cond (decide (b<3)) (V3 k (i64 (b+1)) (I.app f (I.lit ([(⟨10,b,0,0,0,0,ε,ε,ε,0⟩:aK)]:List aK)))) f
def H2:I aK:=V3 (toNat (3-0)+1) 0 (B:I aK)
def xB:Nat->Int->I aK->I aK
 |0,_,_=>default
 |k+1,eu,a=>cond (decide (eu<9)) (xB k (i64 (eu+1)) (I.app (I.app a (I.lit ([(⟨2,eu.tmod 3,0,0,0,0,ε,ε,ε,0⟩:aK)]:List aK))) (xu 8))) a
def au1:I aK:=xB (toNat (9-0)+1) 0 H2
def e8:I aK:=au1
def abg:bt:=⟨[],⟨⟨none,(aG.ad gY).av e8⟩⟩⟩
def aEp:JY 8 abg:=
 bJ ⟨.own gY,[.tmp 0],[(.h 0 0,.ad gY)],⟨[],[]⟩⟩ (.ae (.ae (.j ⟨3,[],[],[],.f⟩ (.ae (.c6 ⟨7,[],[(.t 1,gY)],[(.t 2,a),(.h 0 0,.ad gY)],some 0,false,3,[],[(.h 0 0,.ad gY)],λk (s:Int×I aK)=>V3 k s.1 s.2,.f,λ(s:Int×I aK)=>0<=s.1/\s.1<=3/\(s.2.n:Int)=s.1,λ(s:Int×I aK)=>toNat (3-s.1),some λ(r:I aK)=>(r.n:Int)=3⟩ .z)) (.j ⟨3,[],[],[],.f⟩ (.ae (.c6 ⟨11,[],[],[(.t 3,a),(.h 0 0,.ad gY)],some 2,false,3,[],[(.h 0 0,.ad gY)],λk (s:Int×I aK)=>xB k s.1 s.2,.f,λ(s:Int×I aK)=>0<=s.1/\s.1<=9/\(s.2.n:Int)=3+57*s.1,λ(s:Int×I aK)=>toNat (9-s.1),none⟩ .z)) .z)))) (((0<=(0:Int)/\(0:Int)<=3/\(0:Int)=(0:Int))/\∀(b:Int) (f:I aK),let h:=decide (b<3);let e:=i64 (b+1);(0<=b/\b<=3/\(f.n:Int)=b)->(h=true->f.n+1<=549755813888)/\(h=true->(0<=e/\e<=3/\(((f.n+1):Nat):Int)=e)/\toNat (3-e)<toNat (3-b))/\(h=false->(f.n:Int)=3))/\((H2.n:Int)=3->(0<=(0:Int)/\(0:Int)<=9/\(H2.n:Int)=3+57*(0:Int))/\∀(eu:Int) (c:I aK),let g:=i64 (eu+1);(0<=eu/\eu<=9/\(c.n:Int)=3+57*eu)->(decide (eu<9)=true->(3:Int)≠0/\c.n+1<=549755813888/\(0<=(8:Int)/\(8:Int)<=100)/\(c.n+1)+(xu 8).n<=549755813888)/\(decide (eu<9)=true->(0<=g/\g<=9/\((((c.n+1)+(xu 8).n):Nat):Int)=3+57*g)/\toNat (9-g)<toNat (9-eu)))) (cK (aR aAf ba)) Tryz.func8 (⟨⟨Ω,(λb f o=>⟨λi=>have:=al i;Ω,⟨(λj=>by have:=al j;first|omega|(have:=E (b+1);omega)),λl=>have:=hy l;Ω⟩⟩)⟩,(λn=>⟨Ω,(λeu c p=>⟨λd=>⟨have:=al d;Ω,⟨have:=al d;Ω,⟨have:=al d;Ω,have:=al d;have:=ajJ 8;Ω⟩⟩⟩,(λm=>by have:=al m;have:=ajJ 8;first|omega|(have:=E (eu+1);omega))⟩)⟩)⟩)
def aAo:bE 8 abg:=bG Tryz.func8 aEp
def abV(B l:Int)(e:fs):Prop:=l<=8*(4*e.D+e.bl+1)/\(0<=e.D/\e.D<=B)/\(-1<=e.bl/\e.bl<=2)/\e.b9=0/\e.e=0/\e.lt=0/\e.li=[]
def eF(B:Int)(y:ai):Prop:=(y.G=1\/y.G=2\/y.G=3\/y.G=4\/y.G=8)/\(y.q<=B/\(y.G=3->1<=y.q))/\y.j=0/\y.m=0
structure dO (B i:Int) (n:N):Prop where
 aM:n.aM=i
 w:iG (abV B) n
 r:0<=n.ro/\n.ro<=2
 co:n.co=0
 o: ∀y∈n.a1.B,eF B y
section
variable {a7 bc:Int} {C:N}
def eF.mono{B:Int}{y:ai}(h:eF a7 y)(k:a7<=B):eF B y:=⟨h.1,⟨Int.le_trans h.2.1.1 k,h.2.1.2⟩,h.2.2⟩
def dO.mono{B:Int}(h:dO a7 bc C)(k:a7<=B):dO B bc C:=
 ⟨h.aM,h.w.mono λ_ _ q=>⟨q.1,⟨q.2.1.1,Int.le_trans q.2.1.2 k⟩,q.2.2⟩,h.r,h.co,λy a=>(h.o y a).mono k⟩
def dO.x(h:dO a7 bc C):(C.a_.n:Int)<=8*(4*C.D+C.bl+1)/\(0<=C.D/\C.D<=a7)/\(-1<=C.bl/\C.bl<=2)/\C.e=0/\C.lt=0/\C.li.n=0:=by
 have⟨a,b,c,d,e,f,g⟩:=h.w.top;refine⟨a,b,c,e,f,?_⟩;have g:C.li.B=[]:=g;rw[<-bj,g];rfl
def dO.st(h:dO a7 bc C){m:N}(e:(m.aM,m.a_,m.bp,core m,m.co)=(C.aM,C.a_,C.bp,core C,C.co))(r:0<=m.ro/\m.ro<=2)(o: ∀y∈m.a1.B,eF a7 y):dO a7 bc m:=by
 simp only[od]at e;obtain⟨a,b,bo,c,cO⟩:=e;exact⟨a.trans h.aM,h.w.same b bo c,r,cO.trans h.co,o⟩
def dO.Ps(h:dO a7 bc C):C.ro≠3:=by have:=h.r;omega
def dO.j1(h:dO a7 bc C):b_ C=0/\my C=0/\ ∀p t,p=0->t=0->ru C.e C.lt C.li p t=true:=by
 have⟨_,_,_,v,d,y⟩:=h.x;have L:=h.w.Bo.log;have a:decide ((C.li.n:Int)>0)=false:=a8 Ω;refine⟨?_,?_,λp t b c=> ?_⟩
 .have p:b_ C=C.e+(C.li.n:Int):=X2 L;rw[p,v,y];rfl
 .unfold my VZ CF;rw[u3.2 L,a];exact d
 .unfold ru agK CF pV;rw[u3.2 L,a,v,d,b,c];rfl
def I2{B:Int}(a:Int){ms:ai}(h: ∀y∈C.a1.B,eF B y)(c:eF B ms): ∀y∈(dn a ms C).a1.B,eF B y:=by
 show∀y∈(xn a ms C).B,eF B y;refine eU (P:=λs:I ai=> ∀y∈s.B,eF B y) (λy b=> ?_) h;rw[fH,fQ]at b;rcases fj.1 b with q|q
 .exact h y q
 .rw[List.mem_singleton.1 q];exact c
def ajt{B:Int}{ms:ai}(h: ∀y∈C.a1.B,eF B y)(a:eF B ms): ∀y∈(mz ms C).a1.B,eF B y:=by
 have b: ∀y∈(zI ms C).B,eF B y:=eU (P:=λs:I ai=> ∀y∈s.B,eF B y) (I2 0 h a) h;have c: ∀y∈(uX ms C).B,eF B y:=eU (P:=λs:I ai=> ∀y∈s.B,eF B y) (I2 (C:=mA ms C) 1 b a) b;exact eU (P:=λs:I ai=> ∀y∈s.B,eF B y) (I2 (C:=nb ms C) 2 c a) c
def aal(a:Int){ms:ai}(h:dO a7 bc C)(b:eF a7 ms):dO a7 bc (dn a ms C):=h.st rfl h.r (I2 a h.o b)
def aCk(t:Int)(h:t<=a7):eF a7 (⟨0,0,8,t,0,0,false,0,(B:I ax),0,0,0,(B:I ah),0,(B:I ay)⟩:ai):=⟨.inr (.inr (.inr (.inr rfl))),⟨h,λe=>absurd (show(8:Int)=3 from e) Δ⟩,rfl,rfl⟩
def aam(a:Int)(h:dO a7 bc C):dO a7 bc (lW a C):=aal a h (aCk C.D h.x.2.1.2)
def aEL{a b:Int}(c:1<=a/\a<=1048576)(d: -1<=b/\b<=2):jv (A1 a b):=by
 refine⟨?_,pK,pJ⟩;show fJ 1 a b 0 0 0 false 0 0 0 ε ε ε 0 0 0 0 (B:I ah) 0 (B:I ay)=0;unfold fJ;rw[show NW 1=false from rfl,show NY 1 a b 0 0 0 false 0 0 0 ε ε ε 0 0 0 0 (B:I ah) 0 (B:I ay)=false by kernel_rfl,show((1:Int)==1)=true from rfl];unfold z8;rw[f153 c,a8 (show¬b< -1 by omega),a8 (show¬b>=3 by omega)];rfl
def JL(h:dO a7 bc C)(l:a7<=10000){a b:Int}(c:1<=a/\a<=a7)(e: -1<=b/\b<=2)(m:4*C.D+C.bl<4*a+b):iu a b C=true/\dO a7 bc (dt a b C):=by
 have⟨g,u,o,v,d,y⟩:=h.x;have W:=aHm (rc:=A1 a b) h.w.t (aEL ⟨c.1,Ω⟩ e) (by rw[aem];omega);refine⟨by unfold iu;rw[W];rfl,h.aM,?_,h.r,h.co,h.o⟩;refine QF h.w λ_=> ?_;have⟨_,_,_,f,i,j,k⟩:=h.w.top;exact⟨by show(C.a_.n:Int)+8<=8*(4*a+b+1);omega,⟨by show 0<=a;omega,c.2⟩,e,f,i,j,k⟩
def aFT(h:dO a7 bc C):dO a7 bc (lb C):=⟨h.aM,amj h.w h.w.top,h.r,h.co,λ_ q=>nomatch q⟩
def aFU(h:dO a7 bc C){x:Int}(a:0<=x):dO a7 bc (gS x C):=by
 have w:=(amk h.w a).1;exact⟨h.aM,w,⟨bz _,by show(0:Int)<=2;decide⟩,w.top.2.2.2.1,λ_ q=>nomatch q⟩
def ajv(t:Int)(h:1<=t/\t<=a7){m:N}(a:b_ m=0/\my m=0)(k:Int)(b:k=1\/k=3):eF a7 (⟨0,0,k,t,b_ m,my m,false,0,(B:I ax),0,0,0,(B:I ah),0,(B:I ay)⟩:ai):=by
 refine⟨?_,⟨h.2,λ_=>h.1⟩,a.1,a.2⟩;rcases b with e|e
 .exact .inl e
 .exact .inr (.inr (.inl e))
def aFQ{ac:aK}(h:dO a7 bc C)(b:C.D+1<=a7)(c:a7<=10000)(a:ac.r=2):dO a7 bc (p7 ac C):=by
 have⟨g,u,_⟩:=h.x;unfold p7;rw[a];simp only[N.cT];show dO a7 bc (cond (sH C) (mz (⟨0,0,1,i64 (C.D+1),b_ (jW C),my (jW C),false,0,(B:I ax),0,0,0,(B:I ah),0,(B:I ay)⟩:ai) (jW C)) C)
 cases sH C with
 |false=>exact h
 |true=>
  rw[au,E (C.D+1)];have k:dO a7 bc (jW C):=h.st rfl ⟨by show(0:Int)<=1;decide,by show(1:Int)<=2;decide⟩ h.o;exact k.st rfl k.r (ajt k.o (ajv _ ⟨Ω,b⟩ ⟨h.j1.1,h.j1.2.1⟩ 1 (.inl rfl)))
def alB(h:dO a7 bc C)(m:0<=bc/\bc<=2)(i:C.D+1<=a7)(j:a7<=10000):nM C=false/\dO a7 bc (kH C):=by
 have⟨g,u,o,_⟩:=h.x;have z:(C.D==1048576)=false:=ew.2 Ω;have d:=E (C.D+1);have n:=h.aM;have⟨r,k⟩:=JL h j (a:=C.D+1) (b:=C.aM) Ω Ω Ω;have e:nM C=false:=by
  unfold nM;rw[z,d,r];rfl
 refine⟨e,?_⟩;have f:kI C=dt (C.D+1) C.aM C:=by
  unfold kI sK xb xc Db;rw[z,d];rfl
 have l:sK C=C.D+1:=by
  have:(kI C).D=C.D+1:=by rw[f];exact x4 r
  exact this
 have c:dO a7 bc (p8 C):=by
  have q:dO a7 bc (kI C):=by rw[f];exact k
  exact q.st rfl ⟨by show(0:Int)<=2;decide,by show(2:Int)<=2;decide⟩ q.o
 unfold kH;rw[e,N.cT,aB,l];exact c.st rfl c.r (ajt c.o (ajv _ ⟨Ω,i⟩ ⟨c.j1.1,c.j1.2.1⟩ 3 (.inr rfl)))
def aFR{ms:ai}(h:dO a7 bc C)(a:eF a7 ms):dO a7 bc (rf ms C):=by
 refine h.st rfl h.r ?_;show∀y∈(HE ms C).B,eF a7 y;exact eU (P:=λs:I ai=> ∀y∈s.B,eF a7 y) (I2 _ h.o ⟨.inr (.inl rfl),⟨a.2.1.1,λe=>absurd (show(2:Int)=3 from e) Δ⟩,rfl,rfl⟩) (aam ms.r h).o
def aFS{ms:ai}(h:dO a7 bc C)(d:a7<=10000)(c:eF a7 ms)(l:0<=ms.r/\ms.r<=2)(j:1<=C.D):dO a7 bc (m7 ms C):=by
 have i:=h.j1.2.2 ms.j ms.m c.2.2.1 c.2.2.2;have⟨g,u,o,_⟩:=h.x;have f:dO a7 bc (lW ms.r C):=aam _ h;unfold m7 xd HH MJ Dc MK Dd;rw[N.cT,i];simp only[Bool.not_true,aB]
 by_cases q:C.bl<0
 .obtain⟨r,k⟩:=JL h d (a:=C.D) (b:=ms.r) Ω Ω Ω;rw[a8 (show¬C.bl>=0 by omega),bm q,r];simp only[aB,au,Bool.not_true];exact aal (C:=dt C.D ms.r C) _ k ⟨.inr (.inr (.inr (.inl rfl))),⟨k.x.2.1.2,λe=>absurd (show(4:Int)=3 from e) Δ⟩,rfl,rfl⟩
 .rw[bm (show C.bl>=0 by omega),a8 q];simp only[aB,au]
  cases e:C.bl !=ms.r with
  |true=>exact f
  |false=>exact aal (C:=C) _ h ⟨.inr (.inr (.inr (.inl rfl))),⟨u.2,λe=>absurd (show(4:Int)=3 from e) Δ⟩,rfl,rfl⟩
def aan(h:dO a7 bc C)(k:Nat):dO a7 bc (N.ic k C):=by
 match k with
 |0=>exact h.st rfl h.r h.o
 |1=>exact h.st rfl h.r h.o
 |_+2=>exact h.st rfl h.r h.o
end
structure fm (B:Int) (C:aq):Prop where
 n: ∀i:Nat,i<3->dO B (i:Int) (C.h i)
 a: ∀y∈C.s.B,eF B y
def dN(C:aq):Prop:=0<C.aU.n
section
variable {a7:Int} {H:aq} {bT bd:Nat} {bh:ai} {C:N} {L:I ai} {aj:I bI} {an:I aw}
def fm.mono{B:Int}(h:fm a7 H)(k:a7<=B):fm B H:=⟨λi a=>(h.n i a).mono k,λy b=>(h.a y b).mono k⟩
def aFW(h:dO a7 (bT:Int) C)(m:bT<3)(l:bd<3)(f:a7<=10000)(a:eF a7 bh)(c:bh.G≠1->bh.G≠2->bh.q<=C.D)(b:lJ bd bh C=false):dO a7 (bT:Int) (kd bT bd bh C L aj an):=by
 have⟨g,u,o,_⟩:=h.x;have i:dO a7 (bT:Int) (lW (bd:Int) C):=aam _ h;rcases a.1 with e|e|e|e|e
 .unfold kd;rw[e];exact aFR (ms:=l4 bT bd bh) h a
 .unfold kd;rw[e];simp only[N.cT,show((2:Int)==1)=false from rfl,show((2:Int)==2)=true from rfl,au,aB];have j:=aan h bd;have k:=ES bd C
  cases r:C.ro==1 with
  |false=>exact h
  |true=>
   rw[au,E (C.D+1)]
   cases q:bh.q==C.D+1 with
   |false=>exact h
   |true=>
    have q:=eq_of_beq q;rw[au]
    cases hq (N.ic bd C)with
    |false=>exact j
    |true=>exact(alB j ⟨Ω,Ω⟩ (by rw[k.1,<-q];exact a.2.1.1) f).2
 .have c:=c Ω Ω;unfold kd;rw[e];simp only[N.cT,show((3:Int)==1)=false from rfl,show((3:Int)==2)=false from rfl,show((3:Int)==3)=true from rfl,show((3:Int)!=8)=true from rfl,au,aB]
  cases d:decide (bh.q<C.D)with
  |true=>exact i
  |false=>
   have:=dh d;have:=a.2.1.2 e;exact aFS (ms:=l4 bT bd bh) h f ⟨a.1,a.2.1,a.2.2⟩ ⟨by show 0<=(bd:Int);omega,by show(bd:Int)<=2;omega⟩ Ω
 .have c:=c Ω Ω;unfold lJ at b;rw[e]at b;unfold kd;rw[e];simp only[N.cT,show((4:Int)==4)=true from rfl,show((4:Int)==1)=false from rfl,show((4:Int)==2)=false from rfl,show((4:Int)==3)=false from rfl,show((4:Int)!=8)=true from rfl,au,aB]at b |-
  cases d:decide (bh.q<C.D)with
  |true=>exact i
  |false=>
   rw[d,aB]at b
   cases r:C.ro==2 with
   |false=>exact h
   |true=>
    rw[r,au]at b;rw[b];exact aan h bd
 .unfold kd;rw[e];simp only[N.cT,show((8:Int)==1)=false from rfl,show((8:Int)==2)=false from rfl,show((8:Int)==3)=false from rfl,show((8:Int)==4)=false from rfl,show((8:Int)==5)=false from rfl,show((8:Int)==6)=false from rfl,show((8:Int)==7)=false from rfl,show((8:Int)!=8)=false from rfl,aB,Bool.cond_self];exact h
def aaK(h:dO a7 (bT:Int) C)(d:a7<=10000)(f:eF a7 bh):mw bh C=true/\dO a7 (bT:Int) (de bh C)/\(bh.G≠1->bh.G≠2->bh.q<=(de bh C).D)/\((ir bh C=false/\de bh C=C)\/(ir bh C=true/\(de bh C).D=bh.q/\(de bh C).bl= -1/\(de bh C).ro=0)):=by
 have⟨g,u,o,_⟩:=h.x
 cases q:ir bh C with
 |false=>
  have e:de bh C=C:=by
   unfold de o1 jC kG zE re HB;rw[q];rfl
  rw[e];refine⟨by unfold mw;rw[q];rfl,h,λa b=> ?_,.inl ⟨rfl,rfl⟩⟩;unfold ir zC at q;rw[ew.2 a,ew.2 b]at q;have q:decide (bh.q>C.D)=false:=q;have:=dh q;omega
 |true=>
  have j:C.D<bh.q:=by
   have q:=q;unfold ir at q
   cases z:zC bh with
   |false=>rw[z]at q;exact al q
   |true=>rw[z]at q;cases q
  have F:dO a7 (bT:Int) {C with ro:=0,ws:=(B:I hz)} :=h.st rfl ⟨bz _,by show(0:Int)<=2;decide⟩ h.o;have⟨r,G⟩:=JL F d (a:=bh.q) (b:= -1) ⟨Ω,f.2.1.1⟩ Δ (by show 4*C.D+C.bl<_;omega);have r:iu bh.q (-1) C=true:=r;have e:de bh C=dt bh.q (-1) {C with ro:=0,ws:=(B:I hz)} :=by
   unfold de o1 jC kG zE re HB;rw[q];rfl
  have c:(de bh C).D=bh.q:=by
   show kG bh C=bh.q;unfold kG;rw[q];exact x4 r
  have i:(de bh C).bl= -1:=by
   show zE bh C= -1;unfold zE;rw[q];exact Ea r
  have ro:(de bh C).ro=0:=by
   show jC bh C=0;unfold jC;rw[q];rfl
  refine⟨by unfold mw;rw[q,r];rfl,by rw[e];exact G,λ_ _=>Int.le_of_eq c.symm,.inr ⟨rfl,c,i,ro⟩⟩
def aFV(h:dO a7 (bT:Int) C)(e:bT<3)(d:bd<3)(b:a7<=10000)(c:eF a7 bh)(a:ni bd bh C=false):dO a7 (bT:Int) (m5 bT bd bh C L aj an):=by
 rw[KU];unfold ni at a;rw[N.cT,N.cT]
 cases f:C.up with
 |false=>exact h
 |true=>
  have⟨p,s,i,_⟩:=aaK h b c;rw[f,p]at a;simp only[Bool.not_true,aB,au]at a;rw[p];simp only[Bool.not_true,aB,au];exact aFW s e d b c i a
def Ba(h:fm a7 H){i:Nat}(c:i<3){n:N}(aj:I bI)(an:I aw)(a:dO a7 (i:Int) n){L:I ai}(b: ∀y∈L.B,eF a7 y):fm a7 (H.put i n L aj an):=by
 refine⟨λj d=> ?_,by rw[(vO H i n L aj an).1];exact b⟩
 match i,c,j,d with
 |0,_,0,_=>exact a
 |0,_,1,_=>exact h.n 1 Δ
 |0,_,2,_=>exact h.n 2 Δ
 |1,_,0,_=>exact h.n 0 Δ
 |1,_,1,_=>exact a
 |1,_,2,_=>exact h.n 2 Δ
 |2,_,0,_=>exact h.n 0 Δ
 |2,_,1,_=>exact h.n 1 Δ
 |2,_,2,_=>exact a
def XR:0<(sL C an).n:=by
 rw[<-bj];unfold sL;rw[fH,fQ,db,List.length_singleton];omega
def Tn(a:fE bh): ∃u k:Nat,(u<3/\k<3)/\bh.K=(u:Int)/\bh.r=(k:Int):=by
 have⟨u,c⟩:=tO a.to.1;have⟨k,b⟩:=tO a.kC.1;have:=a.to;have:=a.kC;exact⟨u,k,⟨Ω,Ω⟩,c,b⟩
def aaM{u k:Nat}(b: ∀i,bX (H.h i))(a:fE bh)(d:bh.K=(u:Int))(c:bh.r=(k:Int)):jq H bh=H.put u (m5 u k bh (H.h u) H.s H.told H.aU) H.s (w9 u k bh (H.h u) H.s H.told H.aU) (cond (ni k bh (H.h u)) (sL (hS k bh (H.h u)) H.aU) H.aU):=by
 have:=a.to;have:=a.kC;unfold jq Ef;rw[d,c,show toNat (u:Int)=u from rfl,show toNat (k:Int)=k from rfl,(XC (b u) a Ω Ω).a,acY (b u) a Ω Ω]
def X5(c: ∀i,bX (H.h i))(a:fE bh)(h:dN H):dN (jq H bh):=by
 have⟨u,k,_,d,b⟩:=Tn a;rw[aaM c a d b];unfold dN;rw[(vO ..).2.2]
 cases ni k bh (H.h u)
 .exact h
 .exact XR
def Z_(h:fm a7 H)(d:a7<=10000)(g: ∀i,bX (H.h i))(b:fE bh)(f:eF a7 bh):dN (jq H bh)\/fm a7 (jq H bh):=by
 have⟨u,k,⟨a,l⟩,j,e⟩:=Tn b;rw[aaM g b j e]
 cases c:ni k bh (H.h u)with
 |true=>
  left;unfold dN;rw[(vO ..).2.2];exact XR
 |false=>exact .inr (Ba h a _ _ (aFV (h.n u a) a l d f c) h.a)
def X6: ∀(l:List ai) {H:aq},(∀i,bX (H.h i))->(∀y∈l,fE y)->dN H->dN (yK H l)
 |[],_,_,_,h=>h
 |y::l,_,b,a,h=>X6 l (Bl b (a y (List.mem_cons_self ..))).j (λx c=>a x (List.mem_cons_of_mem _ c)) (X5 b (a y (List.mem_cons_self ..)) h)
def alk(b:a7<=10000): ∀(l:List ai) {H:aq},fm a7 H->(∀i,bX (H.h i))->(∀y∈l,fE y/\eF a7 y)->dN (yK H l)\/fm a7 (yK H l)
 |[],_,h,_,_=> .inr h
 |y::l,_,h,d,c=>by
  have⟨e,f⟩:=c y (List.mem_cons_self ..);have j:=(Bl d e).j;have r: ∀x∈l,fE x/\eF a7 x:=λx a=>c x (List.mem_cons_of_mem _ a);rcases Z_ h b d e f with q|q
  .exact .inl (X6 l j (λx a=>(r x a).1) q)
  .exact alk b l q j r
def fm.up{D:I ai}(h:fm a7 H)(a: ∀y∈D.B,eF a7 y):fm a7 (⟨H.a,H.b,H.c,D,H.told,H.aU⟩:aq):=
 ⟨λi b=>by rw[vG H D i];exact h.n i b,a⟩
def aju{n:N}(e:n.a1.n<=300)(h: ∀y∈n.a1.B,eF a7 y): ∀(f:Nat) (v:Int) (s:I ai),(∀y∈s.B,eF a7 y)->0<=v-> ∀y∈(mB n f v s).B,eF a7 y
 |0,_,_,_,_=>by
  rw[mB];exact λy a=>nomatch a
 |f+1,v,s,b,g=>by
  rw[mB]
  by_cases c:v<(n.a1.n:Int)
  .rw[bm c,au,E (v+1)];refine aju e h f (v+1) _ ?_ Ω;have d:toNat v<n.a1.B.length:=by rw[bj];omega
   have q:n.a1.at' v.toNat=n.a1.B[toNat v]:=ug (i:=toNat v) (cG d);unfold zJ;rw[q];refine eU (P:=λs:I ai=> ∀y∈s.B,eF a7 y) (λy a=> ?_) b;rw[fH,fQ]at a;rcases fj.1 a with z|z
   .exact b y z
   .rw[List.mem_singleton.1 z];exact h _ (mb d)
  .rw[a8 c,aB];exact b
def aFz(h:fm a7 H){i:Nat}(c:i<3)(q:Int){ac:aK}(f:a7<=10000)(d:q=2\/q=3\/q=9\/q=11)(g:0<=ac.G)(b:q=2->(H.h i).D+1<=a7):fm a7 (H.put i (k8 q i ac (H.h i)) (jB q i ac (H.h i) H.s) H.told H.aU):=by
 have L:jB q i ac (H.h i) H.s=H.s:=by
  unfold jB sG;rcases d with e|e|e|e<;>rw[e]<;>simp
 rw[L];have a:=h.n i c;have j:((H.h i).ro==3)=false:=ew.2 a.Ps;refine Ba h c _ _ ?_ h.a;unfold k8;rw[N.cT]
 cases (H.h i).up with
 |false=>exact a
 |true=>
  rw[au];rcases d with e|e|e|e
  .have b:=b e;rw[e];exact aFQ (ac:=⟨2,(i:Int),ac.G,ac.q,ac.j,ac.m,ac.ak,ac.aA,ac.i,ac.aJ⟩) a b f rfl
  .rw[e];show dO a7 (i:Int) (N.bif ((H.h i).ro==3) (ri (H.h i)) (H.h i));rw[j];exact a
  .rw[e];exact aFU a g
  .rw[e];show dO a7 (i:Int) (o3 (H.h i));unfold o3;rw[N.cT,show((H.h i).co==(H.h i).e)=true by rw[a.co,a.x.2.2.2.1];rfl];exact a
def AD{k:Nat}{ac:aK}(a:fz k H)(d:Bw ac)(h:dN H):dN (df H ac):=by
 have g:=Qv (L:=H.s) d.ln;have p: ∀(i:Nat) (n:N) (L:I ai) (aj:I bI),dN (H.put i n L aj H.aU):=λi n L aj=>by
  unfold dN;rw[(vO ..).2.2];exact h
 unfold df;refine e7 (P:=dN) (λ_=>p _ _ _ _) λ_=>e7 (P:=dN) (λ_=>p _ _ _ _) λ_=>e7 (P:=dN) (λ_=>p _ _ _ _) λ_=>e7 (P:=dN) (λ_=>p _ _ _ _) λ_=>e7 (P:=dN) (λ_=> ?_) λ_=>e7 (P:=dN) (λ_=> ?_) λ_=>e7 (P:=dN) (λ_=> ?_) λ_=>e7 (P:=dN) (λ_=> ?_) λ_=>e7 (P:=dN) (λ_=>p _ _ _ _) λ_=>e7 (P:=dN) (λ_=> ?_) λ_=>e7 (P:=dN) (λ_=>p _ _ _ _) λ_=> ?_
 .rw[I6,yd];exact p _ _ _ _
 .refine e7 (P:=dN) (λe=> ?_) λ_=>h;have e:=al e;have j:gi ac H.s<(H.s.n:Int):=g;refine X5 (H:=MD ac H.s H) (λi=> ?_) (a.gd _ Ω) h;show bX ((⟨H.a,H.b,H.c,_,H.told,H.aU⟩:aq).h i);rw[vG H _ i];exact a.j i
 .exact e7 (P:=dN) (λ_=>h) λ_=>h
 .exact e7 (P:=dN) (λ_=>h) λ_=>h
 .rw[I7,yd];exact p _ _ _ _
 .rw[show sE H.s H=_ from LF a];refine X6 H.s.B (λi=>by rw[show(v8 H B).h i=H.h i from vG H _ i];exact a.j i) (λy f=> ?_) h;have⟨i,b⟩:=l_ f;have c:i<H.s.n:=by
   rw[<-bj H.s];exact(hk.1 b).1
  rw[fP H.s c]at b;rw[<-ij b];exact a.gd i c
def JG{k:Nat}{ac:aK}(h:fm a7 H)(f:fz k H)(o:Bw ac)(n:a7<=10000)(w:ac.r=2->(H.h (toNat ac.K)).D+1<=a7):dN (df H ac)\/fm a7 (df H ac):=by
 have r:=Qv (L:=H.s) o.ln;have b:toNat ac.K<3:=by have:=o.h;omega
 have d:=h.n _ b;have x: ∀{q:Int},(ac.r==q)=true->(q=2\/q=3\/q=9\/q=11)->dN (H.put (toNat ac.K) (k8 q (toNat ac.K) ac (H.h (toNat ac.K))) (jB q (toNat ac.K) ac (H.h (toNat ac.K)) H.s) H.told H.aU)\/fm a7 (H.put (toNat ac.K) (k8 q (toNat ac.K) ac (H.h (toNat ac.K))) (jB q (toNat ac.K) ac (H.h (toNat ac.K)) H.s) H.told H.aU):=λe A=> .inr (aFz h b _ n A o.ln λz=>w ((eq_of_beq e).trans z));have mem: ∀{j:Nat},j<H.s.n->H.s.at' j∈H.s.B:=λ{j} p=>by
  have a:j<H.s.B.length:=by rw[bj];exact p
  rw[show H.s.at' j=H.s.B[j]from ug (i:=j) (cG a)];exact mb a
 have s: ∀{j:Nat},j<H.s.n-> ∀y∈(H.s.del j (j+1)).B,eF a7 y:=λ{j} p y l=>by
  rw[aa3 H.s j p]at l;rcases fj.1 l with z|z
  .exact h.a y (List.mem_of_mem_take z)
  .exact h.a y (Bu z)
 unfold df;refine e7 (P:=λX=>dN X\/fm a7 X) (λ_=> ?_) λ_=>e7 (P:=λX=>dN X\/fm a7 X) (λe=>x e (.inl rfl)) λ_=>e7 (P:=λX=>dN X\/fm a7 X) (λe=>x e (.inr (.inl rfl))) λ_=>e7 (P:=λX=>dN X\/fm a7 X) (λ_=> ?_) λ_=>e7 (P:=λX=>dN X\/fm a7 X) (λ_=> ?_) λ_=>e7 (P:=λX=>dN X\/fm a7 X) (λ_=> ?_) λ_=>e7 (P:=λX=>dN X\/fm a7 X) (λ_=> ?_) λ_=>e7 (P:=λX=>dN X\/fm a7 X) (λ_=> ?_) λ_=>e7 (P:=λX=>dN X\/fm a7 X) (λe=>x e (.inr (.inr (.inl rfl)))) λ_=>e7 (P:=λX=>dN X\/fm a7 X) (λ_=> ?_) λ_=>e7 (P:=λX=>dN X\/fm a7 X) (λe=>x e (.inr (.inr (.inr rfl)))) λ_=> ?_
 .refine .inr (Ba h b _ _ ?_ h.a);unfold MB sF;rw[N.cT,N.cT,show((H.h (toNat ac.K)).ro !=3)=true from bne_iff_ne.2 d.Ps,au,Bool.cond_self];exact d
 .right;have q:x7 (toNat ac.K) H ac=H.put (toNat ac.K) (cond (H.h (toNat ac.K)).up (lb (H.h (toNat ac.K))) (H.h (toNat ac.K))) (cond (H.h (toNat ac.K)).up (sQ (H.h (toNat ac.K)) H.s) H.s) H.told H.aU:=by
   unfold x7
   congr 1
   .show N.bif _ _ _=_;rw[N.cT];rfl
  rw[q]
  cases (H.h (toNat ac.K)).up with
  |false=>exact Ba h b _ _ d h.a
  |true=>exact Ba h b _ _ (aFT d) (aju (f.on _) d.o _ _ _ h.a (bz _))
 .rw[I6,yd];exact .inr (Ba h b _ _ (d.st (m:=MC ac (H.h (toNat ac.K))) rfl d.r d.o) h.a)
 .refine e7 (P:=λX=>dN X\/fm a7 X) (λe=> ?_) λ_=> .inr h;have e:=al e;have t:gi ac H.s<(H.s.n:Int):=r;have v:=f.lF;have a:toNat (gi ac H.s)<H.s.n:=by omega
  have e1:toNat (i64 (gi ac H.s+1))=toNat (gi ac H.s)+1:=by
   rw[E _];omega
  have u:=h.up (D:=H.s.del (toNat (gi ac H.s)) (toNat (i64 (gi ac H.s+1)))) (by rw[e1];exact s a);have z:=Z_ u n (λi=>by rw[vG H _ i];exact f.j i) (f.gd _ a) (h.a _ (mem a));exact z
 .refine e7 (P:=λX=>dN X\/fm a7 X) (λe=> ?_) λ_=> .inr h;have e:=al e;have t:gQ ac H.s<(H.s.n:Int):=r;have v:=f.lF;have a:toNat (gQ ac H.s)<H.s.n:=by omega
  have e1:toNat (i64 (gQ ac H.s+1))=toNat (gQ ac H.s)+1:=by
   rw[E _];omega
  exact .inr (h.up (D:=H.s.del (toNat (gQ ac H.s)) (toNat (i64 (gQ ac H.s+1)))) (by rw[e1];exact s a))
 .refine e7 (P:=λX=>dN X\/fm a7 X) (λc=> ?_) λ_=> .inr h;have t:jA ac H.s<(H.s.n:Int):=r;have K:jA ac H.s>=0:=by
   unfold w7 at c
   cases z:decide (jA ac H.s>=0)with
   |true=>exact al z
   |false=>rw[z]at c;cases c
  have a:toNat (jA ac H.s)<H.s.n:=by omega
  refine .inr (h.up (D:=I.app H.s (I.lit ([H.s.at' (toNat (jA ac H.s))]:List ai))) (λy l=> ?_));rw[fH,fQ]at l;rcases fj.1 l with z|z
  .exact h.a y z
  .rw[List.mem_singleton.1 z];exact h.a _ (mem a)
 .rw[I7,yd];exact .inr (Ba h b _ _ (d.st (m:=p5 (H.h (toNat ac.K))) rfl d.r d.o) h.a)
 .rw[show sE H.s H=_ from LF f];have u:fm a7 (v8 H B):=h.up (λ_ q=>nomatch q);refine alk n H.s.B u (λi=>by rw[show(v8 H B).h i=H.h i from vG H _ i];exact f.j i) λy l=> ?_;have⟨i,b⟩:=l_ l;have a:i<H.s.n:=by
   rw[<-bj H.s];exact(hk.1 b).1
  have g:=h.a y l;rw[fP H.s a]at b;have e:=ij b;rw[<-e]at g |-;exact⟨f.gd i a,g⟩
end
def aFy:fm 0 uR:=by
 have b: ∀(i:Int) (n:N),n.a_=B->n.bp=0->core n=mV->(n.aM,n.ro,n.co,n.a1)=(i,0,0,B)->dO 0 i n:=by
  intro i n aL aO d c;simp only[od]at c;obtain⟨f,g,d3,h⟩:=c;have k: ∀l:Int,l<=0->abV 0 l mV:=λl p=>⟨by show l<=8*(4*0+ -1+1);omega,⟨Δ,Δ⟩,⟨Δ,Δ⟩,rfl,rfl,rfl,rfl⟩;refine⟨f,⟨⟨?_,?_,?_,?_⟩,[],(λr o=>nomatch o),?_,?_,⟨0,bH _,aO⟩,λj e _ a=> ?_⟩,by rw[g];decide,d3,by rw[h];exact λ_ q=>nomatch q⟩
  .rw[aL];exact QB
  .rw[aL];exact cd _
  .rw[aO];exact bz _
  .rw[aL,aO];exact bz _
  .rw[aL];rfl
  .rw[d];rfl
  .rw[List.take_nil]at a |-;have a:mV=e:=a;rw[<-a];exact k _ (bz _)
 refine⟨λi m=> ?_,λ_ q=>nomatch q⟩
 match i,m with
 |0,_=>exact b _ _ rfl rfl rfl rfl
 |1,_=>exact b _ _ rfl rfl rfl rfl
 |2,_=>exact b _ _ rfl rfl rfl rfl
def alm{l:List aK}(h: ∀a∈l,fO a)(e:l.length<=3000): ∀m,m<=l.length->dN (je (l.take m))\/fm (m:Int) (je (l.take m))
 |0,_=>by
  rw[List.take_zero];exact .inr aFy
 |m+1,g=>by
  have c:m<l.length:=by omega
  rw[List.take_add_one,cG c,Tt];have f:=aj6 (l:=l.take m) (λa d=>h a (List.mem_of_mem_take d)) (by rw[jr];omega);have b:=KY f;rw[fQ]at b;have ac:=mT (h l[m] (mb c));rcases alm h e m Ω with q|q
  .exact .inl (AD b ac q)
  .refine JG (q.mono (show(m:Int)<=((m+1:Nat):Int) by omega)) b ac Ω λ_=> ?_;have:=(q.n (toNat (l[m]).K) (have:=ac.h;Ω)).x.2.1.2;omega
end Go.Proofs.YtcpfnfkibnjcfaaGreatDoor
namespace Go.Proofs.YtcpfnfkibnjcfaaGreatDoor
open Go Go.ag
abbrev ly:=Int×Int×Int×Int
structure e2 where
 D:Int
 bl:Int
 ro:Int
 v0:Bool
 v1:Bool
 v2:Bool
 a1:List ly
structure c0 where
 a:e2
 b:e2
 c:e2
 gd:List ly
 f:Bool
def c0.h(E:c0)(i:Nat):e2:=match i with
 |0=>E.a
 |1=>E.b
 |_=>E.c
def c0.put(E:c0)(i:Nat)(n:e2):c0:=match i with
 |0=>⟨n,E.b,E.c,E.gd,E.f⟩
 |1=>⟨E.a,n,E.c,E.gd,E.f⟩
 |_=>⟨E.a,E.b,n,E.gd,E.f⟩
def gf(u to k t:Int)(n:e2):e2:=if n.a1.length<300 then⟨n.D,n.bl,n.ro,n.v0,n.v1,n.v2,n.a1++[(u,to,k,t)]⟩else n
def k2(u to k t:Int)(n:e2):e2:=if to=u then n else gf u to k t n
def pO(u k t:Int)(n:e2):e2:=k2 u 2 k t (k2 u 1 k t (k2 u 0 k t n))
def qV(u r t v:Int)(n:e2):e2:=⟨t,v,r,decide (u=0),decide (u=1),decide (u=2),n.a1⟩
def qW(u:Int)(n:e2):e2:=pO u 3 (n.D+1) (qV u 2 (n.D+1) u n)
def wJ(u:Int)(n:e2):e2:=pO u 1 (n.D+1) (qV u 1 n.D n.bl n)
def qU(n:e2):Bool:=(n.v0&&n.v1)||(n.v0&&n.v2)||(n.v1&&n.v2)
def jR(k:Nat)(n:e2):e2:=match k with
 |0=>⟨n.D,n.bl,n.ro,true,n.v1,n.v2,n.a1⟩
 |1=>⟨n.D,n.bl,n.ro,n.v0,true,n.v2,n.a1⟩
 |_=>⟨n.D,n.bl,n.ro,n.v0,n.v1,true,n.a1⟩
def mm(d t:Int)(n:e2):e2:=if d≠1/\d≠2/\n.D<t then⟨t,-1,0,n.v0,n.v1,n.v2,n.a1⟩else n
def sr(k:Nat)(d t:Int)(n:e2):Bool:=decide (d=4/\ ¬t<n.D/\n.ro=2)&&qU (jR k n)
def pM(u k:Nat)(d t:Int)(n:e2):e2:=
 if d=1 then(if n.D<t then gf u k 2 t n else gf u k 8 n.D n)
 else if d=2 then(if n.ro=1/\t=n.D+1 then(if qU (jR k n)=true then qW u (jR k n)else jR k n)else n)
 else if t<n.D then(if d=8 then n else gf u k 8 n.D n)
 else if d=3 then(if 0<=n.bl/\n.bl≠(k:Int)then gf u k 8 n.D n else gf u k 4 n.D ⟨n.D,k,n.ro,n.v0,n.v1,n.v2,n.a1⟩)
 else if d=4 then(if n.ro=2 then jR k n else n)
 else n
def lK(u k:Nat)(d t:Int)(E:c0):c0:=if sr k d t (mm d t (E.h u))=true then⟨E.a,E.b,E.c,E.gd,true⟩else E.put u (pM u k d t (mm d t (E.h u)))
def ml(E:c0)(m:ly):c0:=lK m.2.1.toNat m.1.toNat m.2.2.1 m.2.2.2 E
def wK(E:c0):c0:=E.gd.foldl ml ⟨E.a,E.b,E.c,[],E.f⟩
def ox(s:List ly)(m:ly):List ly:=if s.length<300 then s++[m]else s
def pN(n:e2):e2:=⟨n.D,n.bl,n.ro,n.v0,n.v1,n.v2,[]⟩
def k1(i:Nat)(E:c0):c0:=⟨(E.put i (pN (E.h i))).a,(E.put i (pN (E.h i))).b,(E.put i (pN (E.h i))).c,(E.h i).a1.foldl ox E.gd,E.f⟩
def nC(E:c0):c0:=wK (k1 2 (k1 1 (k1 0 E)))
def jQ(i:Nat)(E:c0):c0:=E.put i (wJ i (E.h i))
def hp:Nat->c0->c0
 |0,E=>E
 |k+1,E=>hp k (nC E)
def jx(i:Nat)(E:c0):c0:=hp 8 (jQ i E)
def hZ(k:Int):Nat:=if k=1 then 5 else if k=2 then 4 else if k=3 then 3 else if k=4 then 2 else 1
def BF(k:Int):Prop:=k=1\/k=2\/k=3\/k=4\/k=8
def iF(r:Nat)(M:Int)(l:List ly):Prop:= ∀m∈l,hZ m.2.2.1<=r/\BF m.2.2.1/\m.2.2.2<=M
def EB(r:Nat)(M:Int):iF r M []:=λ_ h=>nomatch h
def iF.mono{r c:Nat}{M b:Int}{l:List ly}(h:iF r M l)(k:r<=c)(q:M<=b):iF c b l:=λm a=>⟨ec (h m a).1 k,(h m a).2.1,Int.le_trans (h m a).2.2 q⟩
def iF.app{r:Nat}{M:Int}{l k:List ly}(h:iF r M l)(q:iF r M k):iF r M (l++k):=λm a=>(fj.1 a).elim (h m) (q m)
def PZ{r:Nat}{M:Int}{l:List ly}(h:iF 0 M l):iF r M l/\l=[]:=by
 cases l with
 |nil=>exact⟨EB r M,rfl⟩
 |cons m l=>
  have:=(h m (List.mem_cons_self ..)).1;unfold hZ at this;exfalso;revert this
  (repeat' split)<;>omega
structure fl (r:Nat) (M:Int) (n:e2):Prop where
 o:iF r M n.a1
 t:n.D<=M
structure jM (r:Nat) (M:Int) (E:c0):Prop where
 a:fl r M E.a
 b:fl r M E.b
 c:fl r M E.c
def jM.n{r:Nat}{M:Int}{E:c0}(h:jM r M E)(i:Nat):fl r M (E.h i):=by
 match i with
 |0=>exact h.a
 |1=>exact h.b
 |_+2=>exact h.c
def adt{r:Nat}{M:Int}{E:c0}(h:jM r M E)(i:Nat){n:e2}(k:fl r M n):jM r M (E.put i n):=by
 match i with
 |0=>exact⟨k,h.b,h.c⟩
 |1=>exact⟨h.a,k,h.c⟩
 |_+2=>exact⟨h.a,h.b,k⟩
section
variable {f_:Nat} {hK:Int} {Q:e2} {cg:c0} {bT bd:Nat} {kz ha:Int}
theorem Eh{bT to bd ha:Int}(h:fl f_ hK Q)(a:hZ bd<=f_)(b:BF bd)(c:ha<=hK):fl f_ hK (gf bT to bd ha Q):=by
 unfold gf
 split
 .refine⟨h.o.app λm d=> ?_,h.t⟩;rw[List.mem_singleton.1 d];exact⟨a,b,c⟩
 .exact h
theorem Yt{bT to bd ha:Int}(h:fl f_ hK Q)(a:hZ bd<=f_)(b:BF bd)(c:ha<=hK):fl f_ hK (k2 bT to bd ha Q):=by
 unfold k2
 split
 .exact h
 .exact Eh h a b c
theorem ajM{bT bd ha:Int}(h:fl f_ hK Q)(a:hZ bd<=f_)(b:BF bd)(c:ha<=hK):fl f_ hK (pO bT bd ha Q):=
 Yt (Yt (Yt h a b c) a b c) a b c
theorem ajL(h:fl f_ hK Q)(bd:Nat):fl f_ hK (jR bd Q):=by
 match bd with
 |0=>exact⟨h.o,h.t⟩
 |1=>exact⟨h.o,h.t⟩
 |_+2=>exact⟨h.o,h.t⟩
theorem alM(bd:Nat)(Q:e2):(jR bd Q).D=Q.D:=by
 match bd with
 |0=>rfl
 |1=>rfl
 |_+2=>rfl
theorem aCS(h:fl f_ hK Q)(a:ha<=hK):fl f_ hK (mm kz ha Q):=by
 unfold mm
 split
 .exact⟨h.o,a⟩
 .exact h
theorem aCR(h:fl f_ hK Q)(d:BF kz)(a:hZ kz<=f_+1)(f:ha<=hK):fl f_ hK (pM bT bd kz ha Q):=by
 have T:=h.t;rcases d with e|e|e|e|e<;>subst e
 .have a:5<=f_+1:=a;show fl f_ hK (if Q.D<ha then _ else _)
  split
  .exact Eh h (by show 4<=f_;omega) (.inr (.inl rfl)) f
  .exact Eh h (by show 1<=f_;omega) (.inr (.inr (.inr (.inr rfl)))) T
 .have a:4<=f_+1:=a;show fl f_ hK (if Q.ro=1/\ha=Q.D+1 then _ else _)
  split
  .have c:=ajL h bd
   split
   .unfold qW qV;rw[alM];exact ajM ⟨c.o,by show Q.D+1<=hK;omega⟩ (by show 3<=f_;omega) (.inr (.inr (.inl rfl))) Ω
   .exact c
  .exact h
 .have a:3<=f_+1:=a;have b:fl f_ hK (gf bT bd 8 Q.D Q):=Eh h (by show 1<=f_;omega) (.inr (.inr (.inr (.inr rfl)))) T;show fl f_ hK (if ha<Q.D then gf bT bd 8 Q.D Q else if 0<=Q.bl/\Q.bl≠(bd:Int)then gf bT bd 8 Q.D Q else gf bT bd 4 Q.D ⟨Q.D,bd,Q.ro,Q.v0,Q.v1,Q.v2,Q.a1⟩)
  split
  .exact b
  .split
   .exact b
   .exact Eh ⟨h.o,T⟩ (by show 2<=f_;omega) (.inr (.inr (.inr (.inl rfl)))) T
 .have a:2<=f_+1:=a;show fl f_ hK (if ha<Q.D then gf bT bd 8 Q.D Q else if Q.ro=2 then jR bd Q else Q)
  split
  .exact Eh h (by show 1<=f_;omega) (.inr (.inr (.inr (.inr rfl)))) T
  .split
   .exact ajL h bd
   .exact h
 .show fl f_ hK (if ha<Q.D then Q else Q)
  split<;>exact h
theorem ar4(h:jM f_ hK cg)(b:BF kz)(c:hZ kz<=f_+1)(a:ha<=hK):jM f_ hK (lK bT bd kz ha cg):=by
 unfold lK
 split
 .exact⟨h.a,h.b,h.c⟩
 .exact adt h bT (aCR (aCS (h.n bT) a) b c a)
theorem aqu:(lK bT bd kz ha cg).gd=cg.gd:=by
 unfold lK
 split
 .rfl
 .match bT with
  |0=>rfl
  |1=>rfl
  |_+2=>rfl
def j8(cg F:c0):Prop:=(cg.f=true->F.f=true)/\cg.a.D<=F.a.D/\cg.b.D<=F.b.D/\cg.c.D<=F.c.D
theorem j8.refl(cg:c0):j8 cg cg:=⟨id,bz _,bz _,bz _⟩
theorem j8.trans{cg F G:c0}(h:j8 cg F)(bd:j8 F G):j8 cg G:=⟨λe=>bd.1 (h.1 e),Int.le_trans h.2.1 bd.2.1,Int.le_trans h.2.2.1 bd.2.2.1,Int.le_trans h.2.2.2 bd.2.2.2⟩
theorem j8.at{cg F:c0}(h:j8 cg F)(i:Nat):(cg.h i).D<=(F.h i).D:=by
 match i with
 |0=>exact h.2.1
 |1=>exact h.2.2.1
 |_+2=>exact h.2.2.2
theorem alX(cg:c0)(i:Nat){Q:e2}(h:(cg.h i).D<=Q.D):j8 cg (cg.put i Q):=by
 match i with
 |0=>exact⟨id,h,bz _,bz _⟩
 |1=>exact⟨id,bz _,h,bz _⟩
 |_+2=>exact⟨id,bz _,bz _,h⟩
theorem als(bT to bd ha:Int)(Q:e2):(gf bT to bd ha Q).D=Q.D:=by
 unfold gf
 split<;>rfl
theorem alR(bT bd ha:Int)(Q:e2):(pO bT bd ha Q).D=Q.D:=by
 have e: ∀(to:Int) (Q:e2),(k2 bT to bd ha Q).D=Q.D:=λto Q=>by
  unfold k2
  split
  .rfl
  .exact als ..
 unfold pO;rw[e,e,e]
theorem arZ:Q.D<=(pM bT bd kz ha Q).D:=by
 have s:=λ(a b c e:Int) (Q:e2)=>Int.le_of_eq (als a b c e Q).symm;have v:=Int.le_of_eq (alM bd Q).symm;unfold pM
 split
 .split
  .exact s ..
  .exact s ..
 .split
  .split
   .split
    .unfold qW;rw[alR];show Q.D<=(jR bd Q).D+1;omega
    .exact v
   .exact bz _
  .split
   .split
    .exact bz _
    .exact s ..
   .split
    .split
     .exact s ..
     .exact s (bT:Int) (bd:Int) 4 Q.D ⟨Q.D,bd,Q.ro,Q.v0,Q.v1,Q.v2,Q.a1⟩
    .split
     .split
      .exact v
      .exact bz _
     .exact bz _
theorem aGT:Q.D<=(mm kz ha Q).D:=by
 unfold mm
 split
 .next h=>exact Int.le_of_lt h.2.2
 .exact bz _
theorem alW:j8 cg (lK bT bd kz ha cg):=by
 unfold lK
 split
 .exact⟨λ_=>rfl,bz _,bz _,bz _⟩
 .exact alX cg bT (Int.le_trans aGT arZ)
end
def ads{r:Nat}{M:Int} : ∀(l:List ly) {E:c0},jM r M E->iF (r+1) M l->jM r M (l.foldl ml E)/\(l.foldl ml E).gd=E.gd/\j8 E (l.foldl ml E)
 |[],E,h,_=>⟨h,rfl,j8.refl E⟩
 |m::l,E,h,e=>by
  have d:=e m (List.mem_cons_self ..);have⟨a,b,c⟩:=ads l (E:=ml E m) (ar4 h d.2.1 d.1 d.2.2) λx f=>e x (List.mem_cons_of_mem _ f);exact⟨a,b.trans aqu,(alW).trans c⟩
def akc: ∀(l s:List ly) (m:ly),m∈l.foldl ox s->m∈s\/m∈l
 |[],_,_,h=> .inl h
 |x::l,s,m,h=>by
  rcases akc l _ m h with q|q
  .unfold ox at q
   split at q
   .rcases fj.1 q with z|z
    .exact .inl z
    .exact .inr (by rw[List.mem_singleton.1 z];exact List.mem_cons_self ..)
   .exact .inl q
  .exact .inr (List.mem_cons_of_mem _ q)
def ZE{r:Nat}{M:Int}{l s:List ly}(h:iF r M s)(k:iF r M l):iF r M (l.foldl ox s):=λm a=>(akc l s m a).elim (h m) (k m)
def adu{r:Nat}{M:Int}{E:c0}(h:jM (r+1) M E)(a:iF (r+1) M E.gd):jM r M (nC E)/\(nC E).gd=[]/\j8 E (nC E):=by
 have w:iF (r+1) M (k1 2 (k1 1 (k1 0 E))).gd:=ZE (ZE (ZE a h.a.o) h.b.o) h.c.o;have b:jM r M (⟨pN E.a,pN E.b,pN E.c,[],E.f⟩:c0):=⟨⟨EB r M,h.a.t⟩,⟨EB r M,h.b.t⟩,⟨EB r M,h.c.t⟩⟩;exact ads (k1 2 (k1 1 (k1 0 E))).gd b w
def yV{M:Int} : ∀(k r:Nat) {E:c0},jM (r+k) M E->E.gd=[]->jM r M (hp k E)/\(hp k E).gd=[]/\j8 E (hp k E)
 |0,_,E,h,g=>⟨h,g,j8.refl E⟩
 |k+1,r,E,h,g=>by
  have⟨a,b,c⟩:=adu (r:=r+k) h (by rw[g];exact EB _ _);have⟨d,e,f⟩:=yV k r a b;exact⟨d,e,c.trans f⟩
def jM.mono{r b:Nat}{M a:Int}{E:c0}(h:jM r M E)(k:r<=b)(q:M<=a):jM b a E:=
 ⟨⟨h.a.o.mono k q,Int.le_trans h.a.t q⟩,⟨h.b.o.mono k q,Int.le_trans h.b.t q⟩,⟨h.c.o.mono k q,Int.le_trans h.c.t q⟩⟩
def Lf{M:Int}{E:c0}(h:jM 5 M E)(i:Nat)(b:(E.h i).D+1<=M):jM 5 M (jQ i E)/\(jQ i E).gd=E.gd/\j8 E (jQ i E):=by
 have a:=h.n i;refine⟨adt h i (ajM ⟨a.o,a.t⟩ (bH 5) (.inl rfl) b),?_,alX E i ?_⟩
 .match i with
  |0=>rfl
  |1=>rfl
  |_+2=>rfl
 .unfold wJ;rw[alR];exact bz _
def tW(M:Int)(E:c0):Prop:=jM 0 M E/\E.gd=[]
def aEC{M:Int}{E:c0}(h:tW M E)(i:Nat)(g:(E.h i).D+1<=M):tW M (jx i E)/\j8 E (jx i E):=by
 have⟨a,b,c⟩:=Lf (h.1.mono (cd 5) (bz _)) i g;have⟨d,e,f⟩:=yV 8 0 (a.mono (show 5<=0+8 by omega) (bz _)) (b.trans h.2);exact⟨⟨d,e⟩,c.trans f⟩
def aEB{M:Int}{E:c0}(h:jM 5 M E)(g:iF 5 M E.gd)(i:Nat):tW (M+1) (jx i E):=by
 have j:=(h.n i).t;have⟨a,b,_⟩:=Lf (M:=M+1) (h.mono (bH _) Ω) i Ω;have⟨c,d,_⟩:=adu (r:=4) a (by rw[b];exact g.mono (bH _) Ω);have⟨e,f,_⟩:=yV 7 0 (c.mono (show 4<=0+7 by omega) (bz _)) d;exact⟨e,f⟩
section
variable {t0 t1 t2 fy e1 fq hD cX ct:Int} {a0 aL aO ch cw a5 r K G Cg:Bool} {cg mR:c0}
def aBo(c:cg=⟨⟨t0,fy,hD,a0,aL,aO,[]⟩,⟨t1,e1,cX,ch,cw,a5,[]⟩,⟨t2,fq,ct,r,K,G,[]⟩,[],Cg⟩)(d:mR=hp 4 (jQ 0 cg))(a:t1<t0+1)(b:t2<t0+1):mR.f=true:=by
 subst c;subst d;simp [hp,nC,wK,k1,jQ,wJ,pO,k2,gf,qV,c0.h,c0.put,pN,ox,ml,lK,mm,sr,pM,jR,qU,qW,a,b,Int.lt_succ t0]
def aBg(c:cg=⟨⟨t0,fy,hD,a0,aL,aO,[]⟩,⟨t1,e1,cX,ch,cw,a5,[]⟩,⟨t2,fq,ct,r,K,G,[]⟩,[],Cg⟩)(d:mR=hp 2 (jQ 0 cg))(e:t1<=t0->t0<t2):t1<=(mR.h 0).D/\t2<=(mR.h 0).D:=by
 subst c;subst d;have a:t0<t1↔ ¬t1<t0+1:=by omega
 have b:t0<t2↔ ¬t2<t0+1:=by omega
 by_cases x:t1<t0+1<;>by_cases y:t2<t0+1<;>by_cases u:t0+1<t1<;>by_cases v:t0+1<t2<;>by_cases w:t1<t2<;>first|(exfalso;omega)|(simp [hp,nC,wK,k1,jQ,wJ,pO,k2,gf,qV,c0.h,c0.put,pN,ox,ml,lK,mm,sr,pM,jR,qU,qW,a,b,x,y,u,v,w,Int.lt_succ t0]<;>omega)
def aBp(c:cg=⟨⟨t0,fy,hD,a0,aL,aO,[]⟩,⟨t1,e1,cX,ch,cw,a5,[]⟩,⟨t2,fq,ct,r,K,G,[]⟩,[],Cg⟩)(d:mR=hp 4 (jQ 1 cg))(a:t0<t1+1)(b:t2<t1+1):mR.f=true:=by
 subst c;subst d;simp [hp,nC,wK,k1,jQ,wJ,pO,k2,gf,qV,c0.h,c0.put,pN,ox,ml,lK,mm,sr,pM,jR,qU,qW,a,b,Int.lt_succ t1]
def aBh(c:cg=⟨⟨t0,fy,hD,a0,aL,aO,[]⟩,⟨t1,e1,cX,ch,cw,a5,[]⟩,⟨t2,fq,ct,r,K,G,[]⟩,[],Cg⟩)(d:mR=hp 2 (jQ 1 cg))(e:t0<=t1->t1<t2):t0<=(mR.h 1).D/\t2<=(mR.h 1).D:=by
 subst c;subst d;have a:t1<t0↔ ¬t0<t1+1:=by omega
 have b:t1<t2↔ ¬t2<t1+1:=by omega
 by_cases x:t0<t1+1<;>by_cases y:t2<t1+1<;>by_cases u:t1+1<t0<;>by_cases v:t1+1<t2<;>by_cases w:t0<t2<;>first|(exfalso;omega)|(simp [hp,nC,wK,k1,jQ,wJ,pO,k2,gf,qV,c0.h,c0.put,pN,ox,ml,lK,mm,sr,pM,jR,qU,qW,a,b,x,y,u,v,w,Int.lt_succ t1]<;>omega)
def aBq(c:cg=⟨⟨t0,fy,hD,a0,aL,aO,[]⟩,⟨t1,e1,cX,ch,cw,a5,[]⟩,⟨t2,fq,ct,r,K,G,[]⟩,[],Cg⟩)(d:mR=hp 4 (jQ 2 cg))(a:t0<t2+1)(b:t1<t2+1):mR.f=true:=by
 subst c;subst d;simp [hp,nC,wK,k1,jQ,wJ,pO,k2,gf,qV,c0.h,c0.put,pN,ox,ml,lK,mm,sr,pM,jR,qU,qW,a,b,Int.lt_succ t2]
def aBi(c:cg=⟨⟨t0,fy,hD,a0,aL,aO,[]⟩,⟨t1,e1,cX,ch,cw,a5,[]⟩,⟨t2,fq,ct,r,K,G,[]⟩,[],Cg⟩)(d:mR=hp 2 (jQ 2 cg))(e:t0<=t2->t2<t1):t0<=(mR.h 2).D/\t1<=(mR.h 2).D:=by
 subst c;subst d;have a:t2<t0↔ ¬t0<t2+1:=by omega
 have b:t2<t1↔ ¬t1<t2+1:=by omega
 by_cases x:t0<t2+1<;>by_cases y:t1<t2+1<;>by_cases u:t2+1<t0<;>by_cases v:t2+1<t1<;>by_cases w:t0<t1<;>first|(exfalso;omega)|(simp [hp,nC,wK,k1,jQ,wJ,pO,k2,gf,qV,c0.h,c0.put,pN,ox,ml,lK,mm,sr,pM,jR,qU,qW,a,b,x,y,u,v,w,Int.lt_succ t2]<;>omega)
end
def TR{n:e2}(h:n.a1=[]):n=⟨n.D,n.bl,n.ro,n.v0,n.v1,n.v2,[]⟩:=by
 rw[<-h]
def B_{M:Int}{E:c0}(h:tW M E):E=⟨⟨E.a.D,E.a.bl,E.a.ro,E.a.v0,E.a.v1,E.a.v2,[]⟩,⟨E.b.D,E.b.bl,E.b.ro,E.b.v0,E.b.v1,E.b.v2,[]⟩,⟨E.c.D,E.c.bl,E.c.ro,E.c.v0,E.c.v1,E.c.v2,[]⟩,[],E.f⟩:=by
 rw[<-TR (PZ (r:=0) h.1.a.o).2,<-TR (PZ (r:=0) h.1.b.o).2,<-TR (PZ (r:=0) h.1.c.o).2,<-h.2]
def ak1: ∀(k j:Nat) (E:c0),hp (k+j) E=hp j (hp k E)
 |0,j,E=>by rw[dj];rfl
 |k+1,j,E=>by
  rw[show k+1+j=(k+j)+1 by omega];exact ak1 k j (nC E)
def ahX{a b i:Nat}{E X:c0}(h:8=a+b)(c:X=hp a (jQ i E)):jx i E=hp b X:=by
 unfold jx;rw[h,ak1,c]
def PN{M:Int}{E:c0}(h:tW M E){i:Nat}(o:i<3)(c:(E.h i).D=M):(jx i E).f=true:=by
 have l:=h.1.a.t;have m:=h.1.b.t;have n:=h.1.c.t;obtain⟨X,d⟩: ∃X,X=hp 4 (jQ i E):=⟨_,rfl⟩;have p:j8 X (hp 4 X):=by
  have⟨q1,k,_⟩:=Lf (M:=M+1) (h.1.mono (cd 5) Ω) i Ω;have⟨f,g,_⟩:=yV 4 1 (q1.mono (show 5<=1+4 by omega) (bz _)) (k.trans h.2);rw[<-d]at f g;exact(yV 4 0 (f.mono (show 1<=0+4 by omega) (bz _)) g).2.2
 rw[ahX (a:=4) (b:=4) rfl d];refine p.1 ?_;have j:i=0\/i=1\/i=2:=by omega
 rcases j with e|e|e
 .rw[e]at d c;have c:E.a.D=M:=c;exact aBo (B_ h) d Ω Ω
 .rw[e]at d c;have c:E.b.D=M:=c;exact aBp (B_ h) d Ω Ω
 .rw[e]at d c;have c:E.c.D=M:=c;exact aBq (B_ h) d Ω Ω
def ZA{M:Int}{E:c0}(h:tW M E){i:Nat}(v:i<3)(c:(E.h i).D<M)(n: ∃j,(E.h j).D=M):tW M (jx i E)/\j8 E (jx i E)/\((jx i E).h i).D=M:=by
 have s:=h.1.a.t;have t:=h.1.b.t;have u:=h.1.c.t;have⟨g,o⟩:=aEC h i Ω;refine⟨g,o,?_⟩;have y:=(g.1.n i).t;obtain⟨X,d⟩: ∃X,X=hp 2 (jQ i E):=⟨_,rfl⟩;have p:j8 X (hp 6 X):=by
  have⟨q1,q,_⟩:=Lf (h.1.mono (cd 5) (bz _)) i (show(E.h i).D+1<=M by omega);have⟨k,l,_⟩:=yV 2 3 (q1.mono (show 5<=3+2 by omega) (bz _)) (q.trans h.2);rw[<-d]at k l;exact(yV 6 0 (k.mono (show 3<=0+6 by omega) (bz _)) l).2.2
 rw[<-ahX (a:=2) (b:=6) rfl d]at p;have x:=p.at i;have r:E.a.D=M\/E.b.D=M\/E.c.D=M:=by
  obtain⟨j,f⟩:=n
  match j with
  |0=>exact .inl f
  |1=>exact .inr (.inl f)
  |_+2=>exact .inr (.inr f)
 have w:M<=(X.h i).D:=by
  have m:i=0\/i=1\/i=2:=by omega
  rcases m with e|e|e
  .rw[e]at d c |-;have c:E.a.D<M:=c;have z:=aBg (B_ h) d Ω;omega
  .rw[e]at d c |-;have c:E.b.D<M:=c;have z:=aBh (B_ h) d Ω;omega
  .rw[e]at d c |-;have c:E.c.D<M:=c;have z:=aBi (B_ h) d Ω;omega
 omega
def as2{u k:Nat}{d t:Int}{E:c0}(h:E.f=true):(lK u k d t E).f=true:=alW.1 h
def ad3: ∀(l:List ly) {E:c0},E.f=true->(l.foldl ml E).f=true
 |[],_,h=>h
 |m::l,E,h=>ad3 l (E:=ml E m) (as2 h)
def ad4: ∀(k:Nat) {E:c0},E.f=true->(hp k E).f=true
 |0,_,h=>h
 |k+1,E,h=>ad4 k (E:=nC E) (ad3 _ h)
def Cc{E:c0}(h:E.f=true)(i:Nat):(jx i E).f=true:=ad4 8 (by
 match i with
 |0=>exact h
 |1=>exact h
 |_+2=>exact h)
def live{M:Int}{E:c0}(h:jM 5 M E)(m:iF 5 M E.gd):(jx 1 (jx 0 (jx 2 (jx 1 (jx 0 E))))).f=true:=by
 have d:=aEB h m 0;generalize jx 0 E=F at d;obtain⟨N,q1,j,n⟩: ∃N,tW N F/\ ∃j,(F.h j).D=N:=by
  have o:=d.1;have r:=λ{l:List ly} {N:Int} (z:iF 0 (M+1) l)=>(show iF 0 N l from by rw[(PZ (r:=0) z).2];exact EB 0 N);have mk: ∀N,F.a.D<=N->F.b.D<=N->F.c.D<=N->tW N F:=λN x y z=>⟨⟨⟨r o.a.o,x⟩,⟨r o.b.o,y⟩,⟨r o.c.o,z⟩⟩,d.2⟩
  by_cases x:F.a.D<=F.b.D
  .by_cases y:F.b.D<=F.c.D
   .exact⟨F.c.D,mk _ Ω y (bz _),2,rfl⟩
   .exact⟨F.b.D,mk _ x (bz _) Ω,1,rfl⟩
  .by_cases y:F.a.D<=F.c.D
   .exact⟨F.c.D,mk _ y Ω (bz _),2,rfl⟩
   .exact⟨F.a.D,mk _ (bz _) Ω Ω,0,rfl⟩
 by_cases K:(F.h 1).D=N
 .exact Cc (Cc (Cc (PN q1 Δ K) 2) 0) 1
 have s:=(q1.1.n 1).t;have⟨b,p,e⟩:=ZA q1 (i:=1) Δ Ω ⟨j,n⟩;generalize jx 1 F=c at b p e
 by_cases G:(c.h 2).D=N
 .exact Cc (Cc (PN b Δ G) 0) 1
 have t:=(b.1.n 2).t;have⟨a,q,_⟩:=ZA b (i:=2) Δ Ω ⟨1,e⟩;have bo:((jx 2 c).h 1).D=N:=by
  have:=q.at 1;have:=(a.1.n 1).t;omega
 generalize jx 2 c=H at a bo
 by_cases g:(H.h 0).D=N
 .exact Cc (PN a Δ g) 1
 have d3:=(a.1.n 0).t;have⟨f,aGN,_⟩:=ZA a (i:=0) Δ Ω ⟨1,bo⟩;have k:((jx 0 H).h 1).D=N:=by
  have:=aGN.at 1;have:=(f.1.n 1).t;omega
 exact PN f Δ k
end Go.Proofs.YtcpfnfkibnjcfaaGreatDoor
namespace Go.Proofs.YtcpfnfkibnjcfaaGreatDoor
open Go Go.RowKit Go.ag
def em(y:ai):ly:=(y.r,y.K,y.G,y.q)
def cy(n:N):e2:=⟨n.D,n.bl,n.ro,n.v0,n.v1,n.v2,n.a1.B.map em⟩
def es(C:aq):c0:=⟨cy C.a,cy C.b,cy C.c,C.s.B.map em,false⟩
section
variable {a7:Int} {H:aq} {cg:c0} {bT bd:Nat} {bh:ai} {C:N} {L:I ai} {aj:I bI} {an:I aw}
def Lo(C:aq)(i:Nat):(es C).h i=cy (C.h i):=by
 match i with
 |0=>rfl
 |1=>rfl
 |_+2=>rfl
def TQ(C:aq)(i:Nat)(n:N)(aj:I bI)(an:I aw):es (C.put i n C.s aj an)=(es C).put i (cy n):=by
 match i with
 |0=>rfl
 |1=>rfl
 |_+2=>rfl
def asL(E:c0)(i:Nat):E.put i (E.h i)=E:=by
 match i with
 |0=>rfl
 |1=>rfl
 |_+2=>rfl
def FV(a:Int)(ms:ai):cy (dn a ms C)=gf C.aM a ms.G ms.q (cy C):=by
 unfold gf;have l:(cy C).a1.length=C.a1.n:=by
  show(C.a1.B.map em).length=C.a1.n;rw[List.length_map,bj]
 have e:cy (dn a ms C)=⟨C.D,C.bl,C.ro,C.v0,C.v1,C.v2,(xn a ms C).B.map em⟩:=rfl;rw[l,e];unfold xn
 by_cases c:C.a1.n<300
 .rw[bm (show(C.a1.n:Int)<300 by omega),bg c,au,fH,fQ,List.map_append];rfl
 .rw[a8 (show¬(C.a1.n:Int)<300 by omega),aW c,aB];rfl
def TE(a:Int):cy (lW a C)=gf C.aM a 8 C.D (cy C):=FV a (⟨0,0,8,C.D,0,0,false,0,(B:I ax),0,0,0,(B:I ah),0,(B:I ay)⟩:ai)
def TG(a:Int)(ms:ai)(n:N)(b:Bool)(d:b=(a !=n.aM))(m:I ai)(e:m=bif b then(dn a ms n).a1 else n.a1):cy {(dn a ms n)with a1:=m} =k2 n.aM a ms.G ms.q (cy n):=by
 rw[e,d];unfold k2
 by_cases c:a=n.aM
 .rw[bg c,bne_eq_false_iff_eq.2 c];rfl
 .rw[aW c,bne_iff_ne.2 c,au,<-FV]
def adI(ms:ai):cy (mz ms C)=pO C.aM ms.G ms.q (cy C):=by
 have aL:cy (mA ms C)=k2 C.aM 0 ms.G ms.q (cy C):=TG 0 ms C _ rfl _ rfl;have a:(mA ms C).aM=C.aM:=rfl;have b:(nb ms C).aM=C.aM:=by kernel_rfl
 have c:(mA ms C).a1=zI ms C:=rfl;have tr:(nb ms C).a1=uX ms C:=by kernel_rfl
 have cw:cy (nb ms C)=k2 C.aM 1 ms.G ms.q (cy (mA ms C)):=by
  have e:=TG 1 ms (mA ms C) (1 !=C.aM) (by rw[a]) (uX ms C) (by unfold uX;rw[c]);rw[a]at e;exact e
 have K:cy (VJ ms C)=k2 C.aM 2 ms.G ms.q (cy (nb ms C)):=by
  have e:=TG 2 ms (nb ms C) (2 !=C.aM) (by rw[b]) (HO ms C) (by unfold HO;rw[tr]);rw[b]at e;exact e
 have e:cy (mz ms C)=cy (VJ ms C):=by kernel_rfl
 rw[e,K,cw,aL];rfl
def TF(k:Nat):cy (N.ic k C)=jR k (cy C):=by
 match k with
 |0=>rfl
 |1=>rfl
 |_+2=>rfl
def adK:hq C=qU (cy C):=by
 have w:i64 1=1:=E _;have fq:i64 2=2:=E _;have a:i64 3=3:=E _;show hq C=((C.v0&&C.v1)||(C.v0&&C.v2)||(C.v1&&C.v2));unfold hq MI HG HF
 cases C.v0<;>cases C.v1<;>cases C.v2<;>simp [w,fq,a]
def Ec(b:C.aM=(bT:Int))(a:Int):(C.aM==a)=decide ((bT:Int)=a):=by
 rw[b];rfl
def asx(h:dO a7 (bT:Int) C)(p:bT<3)(j:C.D+1<=a7)(d:a7<=10000):cy (kH C)=qW (bT:Int) (cy C):=by
 have⟨g,u,o,_⟩:=h.x;have z:(C.D==1048576)=false:=ew.2 Ω;have l:=E (C.D+1);have c:=h.aM;have⟨r,k⟩:=JL h d (a:=C.D+1) (b:=C.aM) Ω Ω Ω;have f:kI C=dt (C.D+1) C.aM C:=by
  unfold kI sK xb xc Db;rw[z,l];rfl
 have e:sK C=C.D+1:=by
  have:(kI C).D=C.D+1:=by rw[f];exact x4 r
  exact this
 have m:xb C=(bT:Int):=by
  have:(kI C).bl=C.aM:=by rw[f];exact Ea r
  exact this.trans c
 have i:cy (p8 C)=qV (bT:Int) 2 (C.D+1) (bT:Int) (cy C):=by
  show(⟨sK C,xb C,2,C.aM==0,C.aM==1,C.aM==2,C.a1.B.map em⟩:e2)=_;rw[e,m,Ec c,Ec c,Ec c];rfl
 have n:(p8 C).aM=(bT:Int):=c;unfold kH;rw[(alB h ⟨Ω,Ω⟩ j d).1,N.cT,aB,adI,i,n,e];rfl
def asw{ms:ai}(h:dO a7 (bT:Int) C)(a:eF a7 ms):cy (rf ms C)=if C.D<ms.q then gf (bT:Int) ms.r 2 ms.q (cy C)else gf (bT:Int) ms.r 8 C.D (cy C):=by
 have b:=h.j1.2.2 ms.j ms.m a.2.2.1 a.2.2.2;have e:cy (rf ms C)=bif zF ms C then cy (dn ms.r (⟨0,0,2,ms.q,0,0,false,0,(B:I ax),0,0,0,(B:I ah),0,(B:I ay)⟩:ai) C)else cy (lW ms.r C):=by
  show(⟨C.D,C.bl,C.ro,C.v0,C.v1,C.v2,(HE ms C).B.map em⟩:e2)=_;unfold HE
  cases zF ms C<;>rfl
 rw[e,FV,TE,h.aM];unfold zF;rw[b,au]
 by_cases c:C.D<ms.q
 .rw[bg c,bm (show ms.q>C.D from c)];rfl
 .rw[aW c,a8 (show¬ms.q>C.D from c)];rfl
def asy{ms:ai}(h:dO a7 (bT:Int) C)(f:a7<=10000)(d:eF a7 ms)(l:0<=ms.r/\ms.r<=2)(j:1<=C.D):cy (m7 ms C)=if 0<=C.bl/\C.bl≠ms.r then gf (bT:Int) ms.r 8 C.D (cy C)else gf (bT:Int) ms.r 4 C.D ⟨C.D,ms.r,C.ro,C.v0,C.v1,C.v2,C.a1.B.map em⟩:=by
 have i:=h.j1.2.2 ms.j ms.m d.2.2.1 d.2.2.2;have⟨g,u,o,_⟩:=h.x;have c:=h.aM;unfold m7 xd HH MJ Dc MK Dd;rw[N.cT,i];simp only[Bool.not_true,aB]
 by_cases q:C.bl<0
 .obtain⟨r,k⟩:=JL h f (a:=C.D) (b:=ms.r) Ω Ω Ω;rw[a8 (show¬C.bl>=0 by omega),bm q,r,aW Ω];simp only[aB,au,Bool.not_true];have D:=x4 r;have bl:=Ea r;rw[FV (C:={C with D:=(dt C.D ms.r C).D,bl:=(dt C.D ms.r C).bl,a_:=(dt C.D ms.r C).a_,bp:=(dt C.D ms.r C).bp})];show gf C.aM ms.r 4 (dt C.D ms.r C).D ⟨(dt C.D ms.r C).D,(dt C.D ms.r C).bl,C.ro,C.v0,C.v1,C.v2,C.a1.B.map em⟩=_;rw[D,bl,c]
 .rw[bm (show C.bl>=0 by omega),a8 q];simp only[aB,au]
  cases e:C.bl !=ms.r with
  |true=>
   rw[bg ⟨Ω,bne_iff_ne.1 e⟩,<-c];exact TE (C:=C) ms.r
  |false=>
   have e:=bP e;rw[aW (λz=>z.2 e),<-c,<-e];exact FV (C:=C) C.bl _
def arV:lJ bd bh C=sr bd bh.G bh.q (cy C):=by
 unfold lJ sr;show _=(decide (bh.G=4/\ ¬bh.q<C.D/\C.ro=2)&&qU (jR bd (cy C)));rw[<-TF,<-adK]
 by_cases a:bh.G=4
 .by_cases b:bh.q<C.D
  .rw[a8 (show¬(bh.G=4/\ ¬bh.q<C.D/\C.ro=2)from λz=>z.2.1 b),bm b,gy.2 a];rfl
  .by_cases c:C.ro=2
   .rw[bm (show bh.G=4/\ ¬bh.q<C.D/\C.ro=2 from⟨a,b,c⟩),a8 b,gy.2 a,gy.2 c];rfl
   .rw[a8 (show¬(bh.G=4/\ ¬bh.q<C.D/\C.ro=2)from λz=>c z.2.2),a8 b,gy.2 a,ew.2 c];rfl
 .rw[a8 (show¬(bh.G=4/\ ¬bh.q<C.D/\C.ro=2)from λz=>a z.1),ew.2 a];rfl
def asF(h:dO a7 (bT:Int) C)(j:bT<3)(m:bd<3)(f:a7<=10000)(b:eF a7 bh)(d:bh.G≠1->bh.G≠2->bh.q<=C.D)(c:lJ bd bh C=false):cy (kd bT bd bh C L aj an)=pM bT bd bh.G bh.q (cy C):=by
 obtain⟨g,u,o,_⟩:=h.x;have i:cy (lW (bd:Int) C)=gf (bT:Int) (bd:Int) 8 C.D (cy C):=by rw[TE,h.aM]
 rcases b.1 with e|e|e|e|e
 .unfold kd;rw[e];exact asw (ms:=l4 bT bd bh) h b
 .unfold kd;rw[e];simp only[N.cT,show((2:Int)==1)=false from rfl,show((2:Int)==2)=true from rfl,au,aB];have k:=aan h bd;have l:=ES bd C;show _=(if C.ro=1/\bh.q=C.D+1 then(if qU (jR bd (cy C))=true then qW bT (jR bd (cy C))else jR bd (cy C))else cy C);rw[<-TF,<-adK,E (C.D+1)]
  by_cases r:C.ro=1
  .by_cases q:bh.q=C.D+1
   .rw[bg ⟨r,q⟩,gy.2 r,gy.2 q,au,au]
    cases hq (N.ic bd C)with
    |false=>rfl
    |true=>exact asx k j (by rw[l.1,<-q];exact b.2.1.1) f
   .rw[aW λz=>q z.2,gy.2 r,ew.2 q];rfl
  .rw[aW λz=>r z.1,ew.2 r];rfl
 .have d:=d Ω Ω;unfold kd;rw[e];simp only[N.cT,show((3:Int)==1)=false from rfl,show((3:Int)==2)=false from rfl,show((3:Int)==3)=true from rfl,show((3:Int)!=8)=true from rfl,au,aB];show _=(if bh.q<C.D then gf (bT:Int) (bd:Int) 8 C.D (cy C)else if 0<=C.bl/\C.bl≠(bd:Int)then gf (bT:Int) (bd:Int) 8 C.D (cy C)else gf (bT:Int) (bd:Int) 4 C.D ⟨C.D,bd,C.ro,C.v0,C.v1,C.v2,C.a1.B.map em⟩)
  by_cases a:bh.q<C.D
  .rw[bg a,bm a,au];exact i
  .rw[aW a,a8 a,aB];have:=b.2.1.2 e;exact asy (ms:=l4 bT bd bh) h f ⟨b.1,b.2.1,b.2.2⟩ ⟨by show 0<=(bd:Int);omega,by show(bd:Int)<=2;omega⟩ Ω
 .have d:=d Ω Ω;unfold lJ at c;rw[e]at c;unfold kd;rw[e];simp only[N.cT,show((4:Int)==4)=true from rfl,show((4:Int)==1)=false from rfl,show((4:Int)==2)=false from rfl,show((4:Int)==3)=false from rfl,show((4:Int)!=8)=true from rfl,au,aB]at c |-;show _=(if bh.q<C.D then gf (bT:Int) (bd:Int) 8 C.D (cy C)else if C.ro=2 then jR bd (cy C)else cy C)
  by_cases a:bh.q<C.D
  .rw[bg a,bm a,au];exact i
  .rw[aW a,a8 a,aB];rw[a8 a,aB]at c
   by_cases r:C.ro=2
   .rw[gy.2 r,au]at c;rw[bg r,gy.2 r,au,c,aB];exact TF bd
   .rw[aW r,ew.2 r];rfl
 .unfold kd;rw[e];simp only[N.cT,show((8:Int)==1)=false from rfl,show((8:Int)==2)=false from rfl,show((8:Int)==3)=false from rfl,show((8:Int)==4)=false from rfl,show((8:Int)==5)=false from rfl,show((8:Int)==6)=false from rfl,show((8:Int)==7)=false from rfl,show((8:Int)!=8)=false from rfl,aB,Bool.cond_self];show _=(if bh.q<C.D then cy C else cy C);rw[ite_self]
def adN(h:dO a7 (bT:Int) C)(f:a7<=10000)(g:eF a7 bh):cy (de bh C)=mm bh.G bh.q (cy C):=by
 have q:ir bh C=decide (bh.G≠1/\bh.G≠2/\C.D<bh.q):=by
  unfold ir zC
  by_cases a:bh.G=1
  .rw[gy.2 a,a8 (show¬(bh.G≠1/\bh.G≠2/\C.D<bh.q)from λz=>z.1 a)];rfl
  .by_cases b:bh.G=2
   .rw[ew.2 a,gy.2 b,a8 (show¬(bh.G≠1/\bh.G≠2/\C.D<bh.q)from λz=>z.2.1 b)];rfl
   .rw[ew.2 a,ew.2 b]
    by_cases c:C.D<bh.q
    .rw[bm (show bh.G≠1/\bh.G≠2/\C.D<bh.q from⟨a,b,c⟩)];exact bm c
    .rw[a8 (show¬(bh.G≠1/\bh.G≠2/\C.D<bh.q)from λz=>c z.2.2)];exact a8 c
 unfold mm;show _=if bh.G≠1/\bh.G≠2/\C.D<bh.q then(⟨bh.q,-1,0,C.v0,C.v1,C.v2,C.a1.B.map em⟩:e2)else cy C
 have⟨_,_,_,o⟩:=aaK h f g;rcases o with⟨d,e⟩|⟨d,e,ib,tr⟩
 .rw[q]at d;rw[e,aW (hy d)]
 .rw[q]at d;rw[bg (al d)];show(⟨(de bh C).D,(de bh C).bl,(de bh C).ro,C.v0,C.v1,C.v2,C.a1.B.map em⟩:e2)=_;rw[e,ib,tr]
def aGU(d:eF a7 bh)(a:lJ bd bh C=false):(kd bT bd bh C L aj an).up=C.up:=by
 have b:(N.ic bd C).up=C.up:=(ES bd C).2.2.1;unfold kd;simp only[N.cT];rcases d.1 with e|e|e|e|e
 .rw[e];rfl
 .rw[e];simp only[show((2:Int)==1)=false from rfl,show((2:Int)==2)=true from rfl,au,aB]
  cases (cond (C.ro==1) (bh.q==i64 (C.D+1)) false)
  .rfl
  .cases hq (N.ic bd C)
   .exact b
   .exact(aF6 _).trans b
 .rw[e];simp only[show((3:Int)==1)=false from rfl,show((3:Int)==2)=false from rfl,show((3:Int)==3)=true from rfl,show((3:Int)!=8)=true from rfl,au,aB]
  cases decide (bh.q<C.D)
  .rw[aB];unfold m7;rw[N.cT]
   cases Dd (l4 bT bd bh) C<;>rfl
  .rfl
 .unfold lJ at a;rw[e]at a |-;simp only[show((4:Int)==4)=true from rfl,show((4:Int)==1)=false from rfl,show((4:Int)==2)=false from rfl,show((4:Int)==3)=false from rfl,show((4:Int)!=8)=true from rfl,au,aB]at a |-
  cases c:decide (bh.q<C.D)
  .rw[c,aB]at a
   cases r:C.ro==2
   .rfl
   .rw[r,au]at a;rw[aB,au,a];exact b
  .rfl
 .rw[e];simp only[show((8:Int)==1)=false from rfl,show((8:Int)==2)=false from rfl,show((8:Int)==3)=false from rfl,show((8:Int)==4)=false from rfl,show((8:Int)==5)=false from rfl,show((8:Int)==6)=false from rfl,show((8:Int)==7)=false from rfl,show((8:Int)!=8)=false from rfl,aB,Bool.cond_self]
def Kz(C:aq):Prop:= ∀i,(C.h i).up=true
def oi(B:Int)(C:aq)(E:c0):Prop:=dN C\/(fm B C/\Kz C/\es C=E)
def QC(h:Kz H){i:Nat}{n:N}{L:I ai}{aj:I bI}{an:I aw}(a:n.up=true):Kz (H.put i n L aj an):=λj=>by
 rcases aEz H i n L aj an j with e|⟨e,_⟩
 .rw[e];exact h j
 .rw[e];exact a
def aFc(h:oi a7 H cg)(f:a7<=10000)(j: ∀i,bX (H.h i))(g:fE bh)(a:eF a7 bh):oi a7 (jq H bh) (ml cg (em bh)):=by
 rcases h with h|⟨h,b,e⟩
 .exact .inl (X5 j g h)
 rcases Z_ h f j g a with q|q
 .exact .inl q
 have⟨u,k,⟨r,x⟩,o,n⟩:=Tn g;have w:=aaM j g o n;have m:=h.n u r;have⟨p,s,i,_⟩:=aaK m f a;have l:ni k bh (H.h u)=sr k bh.G bh.q (mm bh.G bh.q (cy (H.h u))):=by
  unfold ni;rw[b u,p];show lJ k bh (de bh (H.h u))=_;rw[arV,adN m f a]
 have t:ml cg (em bh)=lK u k bh.G bh.q cg:=by
  show lK bh.K.toNat bh.r.toNat bh.G bh.q cg=_;rw[o,n];rfl
 rw[t];unfold lK;rw[<-e,Lo,<-l]
 cases c:ni k bh (H.h u)with
 |true=>
  left;rw[w,c];unfold dN;rw[(vO ..).2.2];exact XR
 |false=>
  right;have d:lJ k bh (de bh (H.h u))=false:=by
   unfold ni at c;rw[b u,p]at c;exact c
  have v:cy (m5 u k bh (H.h u) H.s H.told H.aU)=pM u k bh.G bh.q (mm bh.G bh.q (cy (H.h u))):=by
   rw[KU,N.cT,N.cT,b u,p];show cy (kd u k bh (de bh (H.h u)) H.s H.told H.aU)=_;rw[asF s r x f a i d,adN m f a]
  refine⟨q,?_,?_⟩
  .rw[w];refine QC b ?_;rw[KU,N.cT,N.cT,b u,p];exact(aGU (C:=de bh (H.h u)) a d).trans (b u)
  .rw[w,TQ,v];rfl
end
def SN{i:Int}(a:0<=i/\i<3):fO (dA 2 i):=jD (k:=2) (n:=i) (p:=0) Δ (λ_=>a) (λz=>by cases z) (λz=>by cases z) (λ_=>rfl)
def Fk{i:Int}(a:0<=i/\i<3):fO (dA 3 i):=jD (k:=3) (n:=i) (p:=0) Δ (λ_=>a) (λz=>by cases z) (λz=>by cases z) (λ_=>rfl)
def Fl{i:Int}(a:0<=i/\i<3):fO (dA 4 i):=aqc a
def SL{i:Int}(a:0<=i/\i<3):fO (dA 10 i):=jD (k:=10) (n:=i) (p:=0) Δ (λ_=>a) (λz=>by cases z) (λz=>by cases z) (λ_=>rfl)
def SM:fO (dA 12 0):=aqb
section
variable {a7:Int} {H:aq} {cg:c0} {bd:Nat} {C:N}
def asO(C:aq)(i:Nat)(n:N)(L:I ai)(aj:I bI)(an:I aw):es (C.put i n L aj an)=⟨((es C).put i (cy n)).a,((es C).put i (cy n)).b,((es C).put i (cy n)).c,L.B.map em,false⟩:=by
 match i with
 |0=>rfl
 |1=>rfl
 |_+2=>rfl
def adR{n:N}(b:n.a1.n<=300): ∀(f v:Nat) (s:I ai),v<=n.a1.n->n.a1.n-v<f->(mB n f (v:Int) s).B.map em=((n.a1.B.drop v).map em).foldl ox (s.B.map em)
 |0,_,_,_,h=>absurd h (dJ _)
 |f+1,v,s,g,e=>by
  rw[mB]
  by_cases c:v<n.a1.n
  .have a:v<n.a1.B.length:=by rw[bj];exact c
   have q:n.a1.at' (toNat (v:Int))=n.a1.B[v]:=ug (i:=v) (cG a);rw[bm (show(v:Int)<(n.a1.n:Int) by omega),au,E ((v:Int)+1),show(v:Int)+1=((v+1:Nat):Int) by omega,adR b f (v+1) _ Ω Ω,r8 a,Br,Bq]
   congr 1
   unfold zJ ox;rw[q,List.length_map,bj]
   by_cases d:s.n<300
   .rw[bm (show(s.n:Int)<300 by omega),au,bg d,fH,fQ,List.map_append];rfl
   .rw[a8 (show¬(s.n:Int)<300 by omega),aB,aW d]
  .rw[a8 (show¬(v:Int)<(n.a1.n:Int) by omega),aB,List.drop_eq_nil_of_le (by rw[bj];omega)];rfl
def akW(a:a7<=10000): ∀(l:List ai) {C:aq} {E:c0},oi a7 C E->(∀i,bX (C.h i))->(∀y∈l,fE y/\eF a7 y)->oi a7 (yK C l) ((l.map em).foldl ml E)
 |[],_,_,h,_,_=>h
 |y::l,_,_,h,c,b=>by
  have⟨d,f⟩:=b y (List.mem_cons_self ..);exact akW a l (aFc h a c d f) (Bl c d).j λx e=>b x (List.mem_cons_of_mem _ e)
def aE9(h:oi a7 H cg)(a:fz bd H)(j:a7<=10000):oi a7 (df H (dA 12 0)) (wK cg):=by
 rcases h with h|⟨h,k,e⟩
 .exact .inl (AD a (mT SM) h)
 have w:df H (dA 12 0)=sE H.s H:=by
  unfold df;simp only[aq.cT];rfl
 rw[w,LF a,<-e];have d: ∀i,(v8 H B).h i=H.h i:=λi=>vG H _ i;refine akW j H.s.B (C:=v8 H B) (E:=⟨cy H.a,cy H.b,cy H.c,[],false⟩) (.inr ⟨h.up (λ_ q=>nomatch q),λi=>by rw[d];exact k i,rfl⟩) (λi=>by rw[d];exact a.j i) λy f=> ?_;have⟨i,b⟩:=l_ f;have c:i<H.s.n:=by
  rw[<-bj H.s];exact(hk.1 b).1
 have g:=h.a y f;rw[fP H.s c]at b;have e:=ij b;rw[<-e]at g |-;exact⟨a.gd i c,g⟩
def aFb(h:oi a7 H cg)(a:fz bd H)(c:a7<=10000){i:Nat}(d:i<3):oi a7 (df H (dA 4 (i:Int))) (k1 i cg):=by
 have ac:=mT (Fl (i:=(i:Int)) Ω);rcases h with h|⟨h,b,e⟩
 .exact .inl (AD a ac h)
 rcases JG h a ac c (λz=>absurd (show(4:Int)=2 from z) Δ)with q|q
 .exact .inl q
 have w:df H (dA 4 (i:Int))=H.put i (lb (H.h i)) (sQ (H.h i) H.s) H.told H.aU:=by
  have fy:df H (dA 4 (i:Int))=x7 i H (dA 4 (i:Int)):=by
   unfold df;simp only[aq.cT];rfl
  rw[fy];have z:x7 i H (dA 4 (i:Int))=H.put i (cond (H.h i).up (lb (H.h i)) (H.h i)) (cond (H.h i).up (sQ (H.h i) H.s) H.s) H.told H.aU:=by
   unfold x7
   congr 1
   .show N.bif _ _ _=_;rw[N.cT];rfl
  rw[z,b i];rfl
 refine .inr ⟨q,?_,?_⟩
 .rw[w];exact QC b (b i)
 .rw[w,asO,<-e];have k:=adR (a.on i) (toNat ((((H.h i).a1.n:Nat):Int)-0)+1) 0 H.s (cd _) Ω;unfold k1;rw[Lo];have k:(sQ (H.h i) H.s).B.map em=(cy (H.h i)).a1.foldl ox (es H).gd:=k;rw[k];rfl
def aFa(h:oi a7 H cg)(b:fz bd H)(c:a7<=10000){i:Nat}(d:i<3):oi a7 (df H (dA 3 (i:Int))) cg:=by
 have ac:=mT (Fk (i:=(i:Int)) Ω);rcases h with h|⟨h,a,e⟩
 .exact .inl (AD b ac h)
 rcases JG h b ac c (λz=>absurd (show(3:Int)=2 from z) Δ)with q|q
 .exact .inl q
 have f:=h.n i d;have w:df H (dA 3 (i:Int))=H.put i (H.h i) H.s H.told H.aU:=by
  have fy:df H (dA 3 (i:Int))=H.put i (k8 3 i (dA 3 (i:Int)) (H.h i)) (jB 3 i (dA 3 (i:Int)) (H.h i) H.s) H.told H.aU:=by
   unfold df;simp only[aq.cT];rfl
  have L:jB 3 i (dA 3 (i:Int)) (H.h i) H.s=H.s:=by
   unfold jB sG;simp
  rw[fy,L]
  congr 1
  unfold k8;rw[N.cT,a i,au];show N.bif ((H.h i).ro==3) (ri (H.h i)) (H.h i)=H.h i;rw[ew.2 f.Ps];rfl
 refine .inr ⟨q,?_,?_⟩
 .rw[w];exact QC a (a i)
 .rw[w,TQ,<-e,<-Lo,asL]
def aE_(h:oi a7 H cg)(c:fz bd H)(f:a7+1<=10000){i:Nat}(g:i<3):oi (a7+1) (df H (dA 2 (i:Int))) (jQ i cg):=by
 have ac:=mT (SN (i:=(i:Int)) Ω);rcases h with h|⟨h,b,e⟩
 .exact .inl (AD c ac h)
 have a:=h.n i g;have⟨_,u,_⟩:=a.x;rcases JG (h.mono (show a7<=a7+1 by omega)) c ac f (λ_=>by show(H.h (toNat (i:Int))).D+1<=a7+1;rw[show toNat (i:Int)=i from rfl];omega)with q|q
 .exact .inl q
 have j:sH (H.h i)=true:=by
  unfold sH;rw[bne_iff_ne.2 a.Ps,au];exact bm Ω
 have w:df H (dA 2 (i:Int))=H.put i (mz (⟨0,0,1,(H.h i).D+1,b_ (jW (H.h i)),my (jW (H.h i)),false,0,(B:I ax),0,0,0,(B:I ah),0,(B:I ay)⟩:ai) (jW (H.h i))) H.s H.told H.aU:=by
  have fy:df H (dA 2 (i:Int))=H.put i (k8 2 i (dA 2 (i:Int)) (H.h i)) (jB 2 i (dA 2 (i:Int)) (H.h i) H.s) H.told H.aU:=by
   unfold df;simp only[aq.cT];rfl
  have L:jB 2 i (dA 2 (i:Int)) (H.h i) H.s=H.s:=by
   unfold jB sG;simp
  rw[fy,L]
  congr 1
  unfold k8;rw[N.cT,b i,au];show N.bif (sH (H.h i)) (mz (⟨0,0,1,i64 ((H.h i).D+1),b_ (jW (H.h i)),my (jW (H.h i)),false,0,(B:I ax),0,0,0,(B:I ah),0,(B:I ay)⟩:ai) (jW (H.h i))) (H.h i)=_;rw[j,E ((H.h i).D+1)];rfl
 have k:(jW (H.h i)).aM=(i:Int):=a.aM;have d:cy (jW (H.h i))=qV (i:Int) 1 (H.h i).D (H.h i).bl (cy (H.h i)):=by
  show(⟨(H.h i).D,(H.h i).bl,1,(H.h i).aM==0,(H.h i).aM==1,(H.h i).aM==2,(H.h i).a1.B.map em⟩:e2)=_;rw[Ec a.aM,Ec a.aM,Ec a.aM];rfl
 refine .inr ⟨q,?_,?_⟩
 .rw[w];exact QC b (b i)
 .rw[w,TQ,adI,d,k,<-e];unfold jQ;rw[Lo];rfl
def sk(k:Nat)(B:Int)(C:aq)(E:c0):Prop:=fz k C/\oi B C E
def aE8(h:sk bd a7 H cg)(f:bd+7<=3000)(b:a7<=10000):sk (bd+7) a7 (A7.foldl df H) (nC cg):=by
 have c: ∀{k:Nat} {C:aq} {E:c0} (i:Nat),i<3->k+1<3000->sk k a7 C E->sk (k+2) a7 (df (df C (dA 3 (i:Int))) (dA 4 (i:Int))) (k1 i E):=λi e f h=>by
  have d:=wG Ω h.1 (mT (Fk (i:=(i:Int)) Ω));exact⟨wG f d (mT (Fl (i:=(i:Int)) Ω)),aFb (aFa h.2 h.1 b e) d b e⟩
 have g:=c 0 Δ Ω h;have j:=c 1 Δ Ω g;have a:=c 2 Δ Ω j;exact⟨wG Ω a.1 (mT SM),aE9 a.2 a.1 b⟩
def akU(a:a7<=10000): ∀(m:Nat) {k:Nat} {C:aq} {E:c0},sk k a7 C E->k+7*m<=3000->sk (k+7*m) a7 ((qt m).foldl df C) (hp m E)
 |0,_,_,_,h,_=>h
 |m+1,k,C,E,h,b=>by
  have q:=akU a m (aE8 h Ω a) Ω;show sk (k+7*(m+1)) a7 ((A7++qt m).foldl df C) (hp m (nC E));rw[List.foldl_append,show k+7*(m+1)=k+7+7*m by omega];exact q
def gv(i:Nat):List aK:=dA 2 (i:Int)::qt 8
def JD(h:sk bd a7 H cg)(d:bd+57<=3000)(b:a7+1<=10000){i:Nat}(c:i<3):sk (bd+57) (a7+1) ((gv i).foldl df H) (jx i cg):=by
 have a:=wG Ω h.1 (mT (SN (i:=(i:Int)) Ω));have q:=akU b 8 (k:=bd+1) ⟨a,aE_ h.2 h.1 b c⟩ Ω;unfold gv jx;rw[show bd+57=bd+1+7*8 by omega,Bq];exact q
def X7: ∀(l:List aK) {k:Nat} {C:aq},dN C->fz k C->(∀a∈l,fO a)->k+l.length<=3000->dN (l.foldl df C)
 |[],_,_,h,_,_,_=>h
 |a::l,k,C,h,b,c,d=>by
  have ac:=mT (c a (List.mem_cons_self ..));rw[dE]at d;exact X7 l (AD b ac h) (wG Ω b ac) (λx e=>c x (List.mem_cons_of_mem _ e)) Ω
def ac1: ∀(l:List aK) {k:Nat} {C:aq},fz k C->(∀a∈l,fO a)->k+l.length<=3000->fz (k+l.length) (l.foldl df C)
 |[],_,_,h,_,_=>h
 |a::l,k,C,c,b,d=>by
  have ac:=mT (b a (List.mem_cons_self ..));rw[dE]at d |-;rw[show k+(l.length+1)=k+1+l.length by omega];exact ac1 l (wG Ω c ac) (λx e=>b x (List.mem_cons_of_mem _ e)) Ω
def ab1: ∀m,∀a∈qt m,fO a
 |0=>λ_ h=>nomatch h
 |m+1=>λa h=>by
  rcases fj.1 (show a∈A7++qt m from h)with q|q
  .simp only[A7,ih,tQ,or_false]at q;rcases q with rfl|rfl|rfl|rfl|rfl|rfl|rfl
   .exact Fk Δ
   .exact Fl Δ
   .exact Fk Δ
   .exact Fl Δ
   .exact Fk Δ
   .exact Fl Δ
   .exact SM
  .exact ab1 m a q
def BH{i:Nat}(b:i<3): ∀a∈gv i,fO a:=λa h=>by
 rcases ih.1 h with e|e
 .rw[e];exact SN Ω
 .exact ab1 8 a e
def pt:List aK:=[dA 10 0,dA 10 1,dA 10 2]
def ui:List aK:=pt++(gv 0++(gv 1++(gv 2++(gv 0++(gv 1++(gv 2++(gv 0++(gv 1++gv 2))))))))
def SO: ∀a∈pt,fO a:=λa q=>by
 simp only[pt,ih,tQ,or_false]at q;rcases q with rfl|rfl|rfl
 .exact SL Δ
 .exact SL Δ
 .exact SL Δ
def lE{l m:List aK}(h: ∀a∈l,fO a)(k: ∀a∈m,fO a): ∀a∈l++m,fO a:=λa q=>(fj.1 q).elim (h a) (k a)
def aqd: ∀a∈ui,fO a:=by
 have b:=BH (i:=0) Δ;have c:=BH (i:=1) Δ;have d:=BH (i:=2) Δ;exact lE SO (lE b (lE c (lE d (lE b (lE c (lE d (lE b (lE c d))))))))
def XA(i:Nat):(gv i).length=57:=by
 show(qt 8).length+1=57;rw[ZT]
def ard:ui.length=516:=by
 unfold ui;simp only[db,XA];rfl
def aa2:e8.B=ui:=by
 have c:H2=I.app (I.app (I.app B (I.lit ([dA 10 0]:List aK))) (I.lit ([dA 10 1]:List aK))) (I.lit ([dA 10 2]:List aK)):=by kernel_rfl
 have a: ∀(f v:Nat) (s:I aK),v<9->(xB (f+1) (v:Int) s)=xB f (((v+1:Nat)):Int) (I.app (I.app s (I.lit ([dA 2 ((v:Int).tmod 3)]:List aK))) (xu 8)):=λf v s d=>by
  rw[xB,bm (show(v:Int)<9 by omega),au,E ((v:Int)+1)];rfl
 have b: ∀(v i:Nat) (s:I aK),(v:Int).tmod 3=(i:Int)->(I.app (I.app s (I.lit ([dA 2 ((v:Int).tmod 3)]:List aK))) (xu 8)).B=s.B++gv i:=λv i s h=>by
  rw[fH,fH,fQ,h,aa1 Δ,e5];rfl
 have e:e8=xB 10 ((0:Nat):Int) H2:=rfl;rw[e,a _ 0 _ Δ,a _ 1 _ Δ,a _ 2 _ Δ,a _ 3 _ Δ,a _ 4 _ Δ,a _ 5 _ Δ,a _ 6 _ Δ,a _ 7 _ Δ,a _ 8 _ Δ,xB,a8 Δ,aB,b 8 2 _ Δ,b 7 1 _ Δ,b 6 0 _ Δ,b 5 2 _ Δ,b 4 1 _ Δ,b 3 0 _ Δ,b 2 2 _ Δ,b 1 1 _ Δ,b 0 0 _ Δ,c,fH,fH,fH,fQ,fQ,fQ];unfold ui pt;simp only[e5];rfl
def aF4(C:aq):Kz (pt.foldl df C):=by
 have w: ∀(C:aq) (i:Nat),df C (dA 10 (i:Int))=C.set i (p5 (C.h i)):=λC i=>by
  unfold df;simp only[aq.cT];rfl
 have e:pt.foldl df C=((C.set 0 (p5 (C.h 0))).set 1 (p5 ((C.set 0 (p5 (C.h 0))).h 1))).set 2 (p5 (((C.set 0 (p5 (C.h 0))).set 1 (p5 ((C.set 0 (p5 (C.h 0))).h 1))).h 2)):=by
  show df (df (df C (dA 10 ((0:Nat):Int))) (dA 10 ((1:Nat):Int))) (dA 10 ((2:Nat):Int))=_;rw[w,w,w]
 rw[e];intro i
 match i with
 |0=>rfl
 |1=>rfl
 |_+2=>rfl
def alF(h:dN H\/fm a7 H)(c:a7<=10000): ∀(l:List aK) {k:Nat} {C:aq},dN C\/fm a7 C->fz k C->(∀a∈l,fO a/\a.r≠2)->k+l.length<=3000->dN (l.foldl df C)\/fm a7 (l.foldl df C)
 |[],_,_,h,_,_,_=>h
 |a::l,k,C,h,b,d,e=>by
  have⟨aL,aO⟩:=d a (List.mem_cons_self ..);have ac:=mT aL;rw[dE]at e;refine alF ‹_› c l ?_ (wG Ω b ac) (λx f=>d x (List.mem_cons_of_mem _ f)) Ω;rcases h with h|h
  .exact .inl (AD b ac h)
  .exact JG h b ac c λz=>absurd z aO
def arc(l:fz bd H)(G:bd<=60)(h:dN H\/fm a7 H)(C:a7<=60):dN (ui.foldl df H):=by
 have b:=ac1 pt l SO (by show bd+3<=3000;omega);have c:=BH (i:=0) Δ;have d:=BH (i:=1) Δ;have e:=BH (i:=2) Δ;unfold ui;rw[List.foldl_append];have f:dN (pt.foldl df H)\/fm a7 (pt.foldl df H):=alF h Ω pt h l (λa q=>⟨SO a q,by
  simp only[pt,ih,tQ,or_false]at q;rcases q with rfl|rfl|rfl<;>show(10:Int)≠2<;>decide⟩) (by show bd+3<=3000;omega)
 have b:fz (bd+3) (pt.foldl df H):=b;have p:=aF4 H;generalize pt.foldl df H=D at f b p;have R:sk (bd+3) a7 D (es D):=⟨b,f.imp id λs=>⟨s,p,rfl⟩⟩;have qI:=JD R Ω Ω (i:=0) Δ;have r:=JD qI Ω Ω (i:=1) Δ;have t:=JD r Ω Ω (i:=2) Δ;have u:=JD t Ω Ω (i:=0) Δ;have k:=JD u Ω Ω (i:=1) Δ;rw[List.foldl_append,List.foldl_append,List.foldl_append,List.foldl_append,List.foldl_append];have j:dN ((gv 1).foldl df ((gv 0).foldl df ((gv 2).foldl df ((gv 1).foldl df ((gv 0).foldl df D))))):=by
  rcases k.2 with q|⟨_,_,q⟩
  .exact q
  .rcases f with s|s
   .have z:=X7 (gv 0++(gv 1++(gv 2++(gv 0++gv 1)))) s b (lE c (lE d (lE e (lE c d)))) (by simp only[db,XA];omega);rw[List.foldl_append,List.foldl_append,List.foldl_append,List.foldl_append]at z;exact z
   .have gI: ∀{s:I ai},(∀y∈s.B,eF a7 y)->iF 5 a7 (s.B.map em):=λ{s} w m v=>by
     obtain⟨y,x,rfl⟩:=oc.1 v;have⟨A,B,_⟩:=w y x;refine⟨?_,A,B.1⟩;show hZ y.G<=5;unfold hZ
     (repeat' split)<;>omega
    have aD: ∀i:Nat,i<3->fl 5 a7 (cy (D.h i)):=λi n=>⟨gI (s.n i n).o,(s.n i n).x.2.1.2⟩;have o:=live (M:=a7) (E:=es D) ⟨aD 0 Δ,aD 1 Δ,aD 2 Δ⟩ (gI s.a);rw[<-q]at o
    cases o
 have g:=k.1;generalize (gv 1).foldl df ((gv 0).foldl df ((gv 2).foldl df ((gv 1).foldl df ((gv 0).foldl df D))))=F at j g;exact X7 (gv 2++(gv 0++(gv 1++gv 2))) j g (lE e (lE c (lE d e))) (by simp only[db,XA];omega)
end
def swp(s:I aw)(i j:Nat):I aw:=I.cC (I.cC s i (s.at' j)) j (s.at' i)
def alO{s:I aw}{i j:Nat}(a:i<s.n)(b:j<s.n):(swp s i j).n=s.n/\(swp s i j).B.Perm s.B:=by
 refine⟨rfl,?_⟩;unfold swp;have c:i<s.B.length:=by rw[bj];exact a
 have d:j<s.B.length:=by rw[bj];exact b
 have e:s.at' i=s.B[i]:=by
  have:=fP s a;rw[cG c]at this;exact(ij this).symm
 have f:s.at' j=s.B[j]:=by
  have:=fP s b;rw[cG d]at this;exact(ij this).symm
 rw[J_,J_,e,f];exact List.set_set_perm c d
def Bh(s:I aw)(i j k:Nat):(swp s i j).at' k=if k=j then s.at' i else if k=i then s.at' j else s.at' k:=by
 show(bif Nat.beq k j then s.at' i else bif Nat.beq k i then s.at' j else s.at' k)=_;have b: ∀a c:Nat,Nat.beq a c=decide (a=c):=λa c=>by
  by_cases e:a=c
  .rw[e,bm rfl];exact ob c
  .rw[a8 e]
   cases q:Nat.beq a c with
   |false=>rfl
   |true=>exact absurd (ey q) e
 rw[b,b]
 by_cases e:k=j
 .rw[bm e,bg e];rfl
 .rw[a8 e,aW e]
  by_cases d:k=i
  .rw[bm d,bg d];rfl
  .rw[a8 d,aW d];rfl
def mQ(a s:I aw):Prop:=a.n=s.n/\a.B.Perm s.B
def mQ.refl(s:I aw):mQ s s:=⟨rfl,List.Perm.refl _⟩
def mQ.trans{a b c:I aw}(h:mQ a b)(k:mQ b c):mQ a c:=⟨h.1.trans k.1,h.2.trans k.2⟩
def alh(A g u:Int): ∀(k:Nat) (v:Int) (s:I aw),0<=A->0<=v->v<=u->A+u<=g->g+u<=s.n->s.n<=900000->toNat (u-v)<k->
  mQ (u0 A g u k v s) s/\ ∀i:Int,0<=i->(u0 A g u k v s).at' i.toNat=if A+v<=i/\i<A+u then s.at' (i+g-A).toNat else if g+v<=i/\i<g+u then s.at' (i+A-g).toNat else s.at' i.toNat
 |0,_,_,_,_,_,_,_,_,h=>absurd h (dJ _)
 |k+1,v,s,j,q,r,l,m,n,p=>by
  rw[u0]
  by_cases e:v<u
  .rw[bm e,au,E (v+1),E (A+v),E (g+v)];have a:(A+v).toNat<s.n:=by omega
   have b:(g+v).toNat<s.n:=by omega
   have w:=alO a b;have f:=alh A g u k (v+1) (swp s (A+v).toNat (g+v).toNat) j Ω Ω l (by rw[w.1];exact m) (by rw[w.1];exact n) Ω;refine⟨f.1.trans w,λi o=> ?_⟩;show(u0 A g u k (v+1) (swp s (A+v).toNat (g+v).toNat)).at' i.toNat=_;rw[f.2 i o]
   by_cases K:A+(v+1)<=i/\i<A+u
   .rw[bg K,bg Ω,Bh,aW Ω,aW Ω]
   .rw[aW K]
    by_cases G:g+(v+1)<=i/\i<g+u
    .rw[bg G,aW Ω,bg Ω,Bh,aW Ω,aW Ω]
    .rw[aW G,Bh]
     by_cases c:i.toNat=(g+v).toNat
     .rw[bg c,aW Ω,bg Ω,show(i+A-g).toNat=(A+v).toNat by omega]
     .rw[aW c]
      by_cases d:i.toNat=(A+v).toNat
      .rw[bg d,bg Ω,show(i+g-A).toNat=(g+v).toNat by omega]
      .rw[aW d,aW Ω,aW Ω]
  .rw[a8 e,aB];exact⟨mQ.refl s,λi _=>by rw[aW Ω,aW Ω]⟩
def ZC{A g u:Int}{s:I aw}(a:0<=A)(c:0<=u)(b:A+u<=g)(d:g+u<=s.n)(e:s.n<=900000):mQ (ld A g u s) s/\I.cut (ld A g u s) s.n=ld A g u s/\ ∀i:Int,0<=i->(ld A g u s).at' i.toNat=if A<=i/\i<A+u then s.at' (i+g-A).toNat else if g<=i/\i<g+u then s.at' (i+A-g).toNat else s.at' i.toNat:=by
 have k:=alh A g u (toNat (u-0)+1) 0 s a (bz _) c b d e Ω;rw[Int.add_zero,Int.add_zero]at k;exact⟨k.1,I.lI k.1.1,k.2⟩
def rot(a m b:Int)(s:I aw)(i:Int):aw:=if a<=i/\i<a+b-m then s.at' (i+m-a).toNat else if a+b-m<=i/\i<b then s.at' (i+m-b).toNat else s.at' i.toNat
def XZ(g:Int): ∀(k:Nat) (i:Int) (s:I aw) (j:Int),1<=i->i<=g->1<=j->g+j<=s.n->s.n<=900000->toNat (i+j)<k->
  mQ (I.cut (ld (i64 (g- (nc g k i s j).1)) g (nc g k i s j).1 (nc g k i s j).2) (nc g k i s j).2.n) s/\ ∀t:Int,0<=t->(I.cut (ld (i64 (g- (nc g k i s j).1)) g (nc g k i s j).1 (nc g k i s j).2) (nc g k i s j).2.n).at' t.toNat=rot (g-i) g (g+j) s t
 |0,_,_,_,_,_,_,_,_,h=>absurd h (dJ _)
 |k+1,i,s,j,l,m,n,d,b,o=>by
  rw[nc]
  by_cases e:i=j
  .subst e;rw[show(i !=i)=false by simp,aB];have q:=ZC (A:=g-i) (g:=g) (u:=i) (s:=s) Ω Ω Ω d b;show mQ (I.cut (ld (i64 (g-i)) g i s) s.n) s/\ ∀t:Int,0<=t->(I.cut (ld (i64 (g-i)) g i s) s.n).at' t.toNat=_;rw[E (g-i),q.2.1];refine⟨q.1,λt a=> ?_⟩;rw[q.2.2 t a];unfold rot
   (repeat' split)<;>first|rfl|(congr 1;omega)|(exfalso;omega)
  .rw[show(i !=j)=true by simp [e],au]
   by_cases f:i>j
   .rw[bm f,au,E (g-i),E (i-j)];have q:=ZC (A:=g-i) (g:=g) (u:=j) (s:=s) Ω Ω Ω d b;rw[q.2.1];have c:=XZ g k (i-j) (ld (g-i) g j s) j Ω Ω n (by rw[q.1.1];exact d) (by rw[q.1.1];exact b) Ω;refine⟨c.1.trans q.1,λt a=> ?_⟩;rw[c.2 t a];unfold rot
    split
    .rw[q.2.2 _ Ω]
     (repeat' split)<;>first|rfl|(congr 1;omega)|(exfalso;omega)
    .split
     .rw[q.2.2 _ Ω]
      (repeat' split)<;>first|rfl|(congr 1;omega)|(exfalso;omega)
     .rw[q.2.2 _ a]
      (repeat' split)<;>first|rfl|(congr 1;omega)|(exfalso;omega)
   .rw[a8 f,aB,E (g-i),E (g+j),E (g+j-i),E (j-i)];have q:=ZC (A:=g-i) (g:=g+j-i) (u:=i) (s:=s) Ω Ω Ω Ω b;rw[q.2.1];have c:=XZ g k i (ld (g-i) (g+j-i) i s) (j-i) l m Ω (by rw[q.1.1];omega) (by rw[q.1.1];exact b) Ω;refine⟨c.1.trans q.1,λt a=> ?_⟩;rw[c.2 t a];unfold rot
    split
    .rw[q.2.2 _ Ω]
     (repeat' split)<;>first|rfl|(congr 1;omega)|(exfalso;omega)
    .split
     .rw[q.2.2 _ Ω]
      (repeat' split)<;>first|rfl|(congr 1;omega)|(exfalso;omega)
     .rw[q.2.2 _ a]
      (repeat' split)<;>first|rfl|(congr 1;omega)|(exfalso;omega)
def aEE{A g u:Int}{s:I aw}(h:0<=A/\A<g/\g<u)(b:u<=s.n)(a:s.n<=900000):mQ (uY A g u s) s/\ ∀t:Int,0<=t->(uY A g u s).at' t.toNat=rot A g u s t:=by
 have e1:=E (g-A);have fq:=E (u-g);have k:=XZ g (toNat ((g-A)+(u-g))+1) (g-A) s (u-g) Ω Ω Ω Ω a Ω;unfold uY uZ;rw[e1,fq];rw[show g- (g-A)=A by omega,show g+(u-g)=u by omega]at k;exact k
def kV(s:I aw):Prop:= ∀i,i<s.n->0<=(s.at' i).r/\(s.at' i).r<=1048576
structure eR (a b:Int) (dR s:I aw):Prop where
 p:mQ dR s
 o: ∀i:Int,0<=i->i<a\/b<=i->dR.at' i.toNat=s.at' i.toNat
 a: ∀P:aw->Prop,(∀i:Int,a<=i->i<b->P (s.at' i.toNat))-> ∀i:Int,a<=i->i<b->P (dR.at' i.toNat)
def eR.refl(a b:Int)(s:I aw):eR a b s s:=⟨mQ.refl s,λ_ _ _=>rfl,λ_ h=>h⟩
def eR.trans{a b:Int}{x y z:I aw}(h:eR a b x y)(k:eR a b y z):eR a b x z:=
 ⟨h.p.trans k.p,λi c q=>(h.o i c q).trans (k.o i c q),λP q=>h.a P (k.a P q)⟩
def eR.mono{a b a' b':Int}{x y:I aw}(h:eR a b x y)(g:0<=a'/\a'<=a)(k:b<=b'):eR a' b' x y:=
 ⟨h.p,λi d q=>h.o i d Ω,λP q i e f=>by
  by_cases c:a<=i/\i<b
  .exact h.a P (λj l m=>q j Ω Ω) i c.1 c.2
  .rw[h.o i Ω Ω];exact q i e f⟩
def Zp{a b i j:Int}{s:I aw}(h:0<=a)(c:a<=i/\i<b)(d:a<=j/\j<b)(l:b<=s.n):eR a b (swp s i.toNat j.toNat) s:=by
 refine⟨alO Ω Ω,λk g q=> ?_,λP q k e f=> ?_⟩
 .rw[Bh,aW Ω,aW Ω]
 .rw[Bh]
  split
  .exact q i c.1 c.2
  .split
   .exact q j d.1 d.2
   .exact q k e f
def kV.p{a s:I aw}(h:kV s)(k:mQ a s):kV a:=by
 intro i d;have m:a.at' i∈a.B:=by
  have e:=fP a d;exact fr e
 have⟨j,b⟩:=l_ (k.2.mem_iff.1 m);have c:j<s.n:=by
  rw[<-bj s];exact(hk.1 b).1
 rw[fP s c]at b;rw[<-ij b];exact h j c
def O7{s:I aw}(h:kV s){i j:Int}(d:0<=i/\i<s.n)(e:0<=j/\j<s.n):decide (p6 (s.at' i.toNat).r (s.at' j.toNat).r<0)=decide ((s.at' i.toNat).r<(s.at' j.toNat).r):=by
 have a:=h i.toNat Ω;have b:=h j.toNat Ω;unfold p6;rw[E _]
 by_cases c:(s.at' i.toNat).r<(s.at' j.toNat).r
 .rw[bm c,bm Ω]
 .rw[a8 c,a8 Ω]
def h5(a b:Int)(s:I aw):Prop:= ∀i j:Int,a<=i->i<j->j<b->(s.at' i.toNat).r<=(s.at' j.toNat).r
def ahQ(a e:Int)(u:0<=a): ∀(k:Nat) (v:Int) (s:I aw),a<=v->v<e->e<=s.n->s.n<=900000->kV s->toNat (v-a)<k->(∀i j:Int,a<=i->i<j->j<e->i≠v->j≠v->(s.at' i.toNat).r<=(s.at' j.toNat).r)->(∀j:Int,v<j->j<e->(s.at' v.toNat).r<=(s.at' j.toNat).r)->
  eR a e (xi a k v s).2.1 s/\h5 a e (xi a k v s).2.1
 |0,_,_,_,_,_,_,_,h,_,_=>absurd h (dJ _)
 |k+1,v,s,D,F,r,z,t,H,g,w=>by
  rw[xi];have C:rk a v s=decide (v>a/\(s.at' v.toNat).r<(s.at' (v-1).toNat).r):=by
   unfold rk
   by_cases c:v>a
   .rw[bm c,au,E (v-1),O7 t Ω Ω]
    by_cases d:(s.at' v.toNat).r<(s.at' (v-1).toNat).r
    .rw[bm d,bm ⟨c,d⟩]
    .rw[a8 d,a8 (show¬(v>a/\(s.at' v.toNat).r<(s.at' (v-1).toNat).r)from λq=>d q.2)]
   .rw[a8 c,a8 (show¬(v>a/\(s.at' v.toNat).r<(s.at' (v-1).toNat).r)from λq=>c q.1)];rfl
  rw[C]
  by_cases c:v>a/\(s.at' v.toNat).r<(s.at' (v-1).toNat).r
  .rw[bm c,au,E (v-1)];have P:=Zp (s:=s) (a:=a) (b:=e) u (i:=v) (j:=v-1) ⟨Ω,Ω⟩ ⟨Ω,Ω⟩ r;have n: ∀i:Int,0<=i->(swp s v.toNat (v-1).toNat).at' i.toNat=if i=v-1 then s.at' v.toNat else if i=v then s.at' (v-1).toNat else s.at' i.toNat:=λi G=>by
    rw[Bh]
    (repeat' split)<;>first|rfl|(exfalso;omega)
   have y:=ahQ a e u k (v-1) (swp s v.toNat (v-1).toNat) Ω Ω (by rw[P.p.1];exact r) (by rw[P.p.1];exact z) (t.p P.p) Ω (λi j l o m x A=>by
    rw[n i Ω,n j Ω,aW x,aW A]
    by_cases d:i=v
    .subst d;rw[bg rfl,aW Ω];exact g _ j Ω Ω m Ω Ω
    .rw[aW d]
     by_cases f:j=v
     .subst f;rw[bg rfl]
      by_cases p:i=j-1
      .exact absurd p x
      .exact g i _ l Ω Ω d Ω
     .rw[aW f];exact g i j l o m d f) λj J B=>by
    rw[n (v-1) Ω,bg rfl,n j Ω,aW Ω]
    by_cases d:j=v
    .rw[bg d];omega
    .rw[aW d];exact w j Ω B
   exact⟨y.1.trans P,y.2⟩
  .rw[a8 c,aB];refine⟨eR.refl a e s,λi j l o m=> ?_⟩
   by_cases d:i=v
   .subst d;exact w j o m
   .by_cases f:j=v
    .subst f;have q:(s.at' (j-1).toNat).r<=(s.at' j.toNat).r:=by omega
     by_cases p:i=j-1
     .rw[p];exact q
     .exact Int.le_trans (g i (j-1) l Ω Ω d Ω) q
    .exact g i j l o m d f
def aj0(a b:Int)(d:0<=a): ∀(k:Nat) (v:Int) (s:I aw),a<v->v<=b\/v=a+1->b<=s.n->s.n<=900000->kV s->toNat (b-v)<k->h5 a v s->a<=b->eR a b (xh a b k v s) s/\h5 a b (xh a b k v s)
 |0,_,_,_,_,_,_,_,h,_,_=>absurd h (dJ _)
 |k+1,v,s,u,w,o,g,l,x,m,p=>by
  rw[xh]
  by_cases c:v<b
  .rw[bm c,au,E (v+1)];have q:=ahQ a (v+1) d (toNat (v-a)+1) v s Ω Ω Ω g l Ω (λi j e f r y z=>m i j e f Ω) λj t A=>absurd t Ω;have P:=q.1.mono (a':=a) (b':=b) ⟨d,bz _⟩ Ω;have n:=aj0 a b d k (v+1) (Ds a v s).2.1 Ω (.inl Ω) (by rw[show(Ds a v s).2.1.n=s.n from q.1.p.1];exact o) (by rw[show(Ds a v s).2.1.n=s.n from q.1.p.1];exact g) (l.p q.1.p) Ω q.2 p;exact⟨n.1.trans P,n.2⟩
  .rw[a8 c,aB];exact⟨eR.refl a b s,λi j e f r=>m i j e f Ω⟩
def alg{a b:Int}{s:I aw}(d:0<=a)(e:a<=b)(f:b<=s.n)(g:s.n<=900000)(c:kV s):eR a b (p_ a b s) s/\h5 a b (p_ a b s):=by
 unfold p_ ML;rw[E (a+1)];exact aj0 a b d _ (a+1) s Ω (.inr rfl) f g c Ω (λi j k l h=>absurd h Ω) e
def alN{s:I aw}{v w:Int}(b:0<=v)(c:0<=w)(i:Int)(a:0<=i):(swp s v.toNat w.toNat).at' i.toNat=if i=w then s.at' v.toNat else if i=v then s.at' w.toNat else s.at' i.toNat:=by
 rw[Bh]
 (repeat' split)<;>first|rfl|(exfalso;omega)
def al7{a b g:Int}{o:I aw}(y:0<=a){r:Int}(u:r=kJ a g b o)(B:a<r/\r<=b)(A:b<=900000): ∀(k:Nat) (v:Int) (s:I aw),a<=v->v<r->b<=s.n->toNat (b-v)<k->
  (∀i j:Int,a<=i->i<j->j<b->i≠v->j≠v->(s.at' i.toNat).r<=(s.at' j.toNat).r)->(∀i:Int,a<=i->i<v->(s.at' i.toNat).r<=(s.at' v.toNat).r)->(∀t:Int,v<t->t<r->(s.at' t.toNat).r<=(s.at' v.toNat).r)->(∀t:Int,r<=t->t<b->(s.at' v.toNat).r<=(s.at' t.toNat).r)->
  eR a b (xl a g b o k v s) s/\h5 a b (xl a g b o k v s)
 |0,_,_,_,_,_,h,_,_,_,_=>absurd h (dJ _)
 |k+1,v,s,F,H,x,J,K,G,p,q=>by
  rw[xl,<-u,E (r-1)]
  by_cases e:v<r-1
  .rw[bm e,au,E (v+1)];have P:=Zp (s:=s) (a:=a) (b:=b) y (i:=v) (j:=v+1) ⟨Ω,Ω⟩ ⟨Ω,Ω⟩ x;have c:=alN (s:=s) (v:=v) (w:=v+1) Ω Ω;have z:=al7 y u B A k (v+1) (swp s v.toNat (v+1).toNat) Ω Ω (by rw[P.p.1];exact x) Ω (λi j f n m C D=>by
    rw[c i Ω,c j Ω,aW C,aW D]
    by_cases d:i=v
    .rw[bg d,aW Ω];exact K _ j Ω Ω m Ω Ω
    .rw[aW d]
     by_cases l:j=v
     .rw[bg l];exact K i _ f Ω Ω d Ω
     .rw[aW l];exact K i j f n m d l) (λi f n=>by
    rw[c (v+1) Ω,bg rfl,c i Ω,aW Ω]
    by_cases d:i=v
    .rw[bg d];exact p _ Ω Ω
    .rw[aW d];exact G i f Ω) (λt t1 t2=>by
    rw[c (v+1) Ω,bg rfl,c t Ω,aW Ω,aW Ω];exact p t Ω t2) λt t1 t2=>by
    rw[c (v+1) Ω,bg rfl,c t Ω,aW Ω,aW Ω];exact q t t1 t2
   exact⟨z.1.trans P,z.2⟩
  .rw[a8 e,aB];refine⟨eR.refl a b s,λi j f n m=> ?_⟩
   by_cases d:i=v
   .rw[d];exact q j Ω m
   .by_cases l:j=v
    .rw[l];exact G i f Ω
    .exact K i j f n m d l
def adm{a b g:Int}{o:I aw}(y:0<=a){r:Int}(u:r=Du a g o)(B:a<=r)(A:b<=900000): ∀(k:Nat) (v:Int) (s:I aw),r<=v->v<b->b<=s.n->toNat (v-a)<k->
  (∀i j:Int,a<=i->i<j->j<b->i≠v->j≠v->(s.at' i.toNat).r<=(s.at' j.toNat).r)->(∀t:Int,v<t->t<b->(s.at' v.toNat).r<=(s.at' t.toNat).r)->(∀t:Int,r<=t->t<v->(s.at' v.toNat).r<=(s.at' t.toNat).r)->(∀i:Int,a<=i->i<r->(s.at' i.toNat).r<=(s.at' v.toNat).r)->
  eR a b (xk a g o k v s) s/\h5 a b (xk a g o k v s)
 |0,_,_,_,_,_,h,_,_,_,_=>absurd h (dJ _)
 |k+1,v,s,F,H,x,J,K,G,p,q=>by
  rw[xk,<-u]
  by_cases e:v>r
  .rw[bm e,au,E (v-1)];have P:=Zp (s:=s) (a:=a) (b:=b) y (i:=v) (j:=v-1) ⟨Ω,Ω⟩ ⟨Ω,Ω⟩ x;have c:=alN (s:=s) (v:=v) (w:=v-1) Ω Ω;have z:=adm y u B A k (v-1) (swp s v.toNat (v-1).toNat) Ω Ω (by rw[P.p.1];exact x) Ω (λi j f m n C D=>by
    rw[c i Ω,c j Ω,aW C,aW D]
    by_cases d:i=v
    .rw[bg d,aW Ω];exact K _ j Ω Ω n Ω Ω
    .rw[aW d]
     by_cases l:j=v
     .rw[bg l];exact K i _ f Ω Ω d Ω
     .rw[aW l];exact K i j f m n d l) (λt t1 t2=>by
    rw[c (v-1) Ω,bg rfl,c t Ω,aW Ω]
    by_cases d:t=v
    .rw[bg d];exact p _ Ω Ω
    .rw[aW d];exact G t Ω t2) (λt t1 t2=>by
    rw[c (v-1) Ω,bg rfl,c t Ω,aW Ω,aW Ω];exact p t t1 Ω) λi f m=>by
    rw[c (v-1) Ω,bg rfl,c i Ω,aW Ω,aW Ω];exact q i f m
   exact⟨z.1.trans P,z.2⟩
  .rw[a8 e,aB];refine⟨eR.refl a b s,λi j f m n=> ?_⟩
   by_cases d:i=v
   .rw[d];exact G j Ω n
   .by_cases l:j=v
    .rw[l];exact q i f Ω
    .exact K i j f m n d l
def TU{m b a:Int}{s:I aw}(g:kV s)(q:0<=m)(l:0<=a/\a<s.n)(o:b<=s.n/\s.n<=900000)(f:h5 m b s): ∀(k:Nat) (i j:Int),m<=i->i<=j->j<=b->toNat (j-i)<k->(∀t,m<=t->t<i->(s.at' t.toNat).r<=(s.at' a.toNat).r)->(∀t,j<=t->t<b->(s.at' a.toNat).r<=(s.at' t.toNat).r)->
  (m<=o4 a s k i j/\o4 a s k i j<=b)/\(∀t,m<=t->t<o4 a s k i j->(s.at' t.toNat).r<=(s.at' a.toNat).r)/\(∀t,o4 a s k i j<=t->t<b->(s.at' a.toNat).r<=(s.at' t.toNat).r)
 |0,_,_,_,_,_,h,_,_=>absurd h (dJ _)
 |k+1,i,j,n,u,r,v,p,hh=>by
  rw[o4,half (x:=i+j) Ω Ω]
  by_cases e:i<j
  .rw[bm e,au,E ((i+j)/2+1),O7 g (i:=(i+j)/2) (j:=a) Ω l]
   by_cases c:(s.at' ((i+j)/2).toNat).r<(s.at' a.toNat).r
   .rw[bm c,au];refine TU g q l o f k ((i+j)/2+1) j Ω Ω r Ω (λt t1 t2=> ?_) hh
    by_cases d:t=(i+j)/2
    .rw[d];omega
    .have:=f t ((i+j)/2) t1 Ω Ω;omega
   .rw[a8 c,aB];refine TU g q l o f k i ((i+j)/2) n Ω Ω Ω p λt t1 t2=> ?_
    by_cases d:t=(i+j)/2
    .rw[d];omega
    .have:=f ((i+j)/2) t Ω Ω t2;omega
  .rw[a8 e,aB];exact⟨⟨n,Ω⟩,p,λt t1 t2=>hh t Ω t2⟩
def TT{a m:Int}{s:I aw}(f:kV s)(l:0<=a)(o:m<s.n/\s.n<=900000)(b:h5 a m s): ∀(k:Nat) (i j:Int),a<=i->i<=j->j<=m->toNat (j-i)<k->(∀t,a<=t->t<i->(s.at' t.toNat).r<=(s.at' m.toNat).r)->(∀t,j<=t->t<m->(s.at' m.toNat).r<=(s.at' t.toNat).r)->
  (a<=qa m s k i j/\qa m s k i j<=m)/\(∀t,a<=t->t<qa m s k i j->(s.at' t.toNat).r<=(s.at' m.toNat).r)/\(∀t,qa m s k i j<=t->t<m->(s.at' m.toNat).r<=(s.at' t.toNat).r)
 |0,_,_,_,_,_,h,_,_=>absurd h (dJ _)
 |k+1,i,j,g,q,p,r,n,hh=>by
  rw[qa,half (x:=i+j) Ω Ω]
  by_cases e:i<j
  .rw[bm e,au,E ((i+j)/2+1),O7 f (i:=m) (j:=(i+j)/2) Ω Ω]
   by_cases c:(s.at' m.toNat).r<(s.at' ((i+j)/2).toNat).r
   .rw[bm c,Bool.not_true,aB];refine TT f l o b k i ((i+j)/2) g Ω Ω Ω n λt t1 t2=> ?_
    by_cases d:t=(i+j)/2
    .rw[d];omega
    .have:=b ((i+j)/2) t Ω Ω t2;omega
   .rw[a8 c,Bool.not_false,au];refine TT f l o b k ((i+j)/2+1) j Ω Ω p Ω (λt t1 t2=> ?_) hh
    by_cases d:t=(i+j)/2
    .rw[d];omega
    .have:=b t ((i+j)/2) t1 Ω Ω;omega
  .rw[a8 e,aB];exact⟨⟨g,Ω⟩,n,λt t1 t2=>hh t Ω t2⟩
def TV{a m b x2 g5:Int}{s:I aw}(g:kV s)(h:0<=a/\a<m/\m<b)(w:b<=s.n/\s.n<=900000)(l:h5 a m s)(n:h5 m b s)(z:0<=x2)(f: ∀c,x2<=c->c<g5->(a<=c/\c<m)/\m<=(a+b)/2+m-1-c/\(a+b)/2+m-1-c<b): ∀(k:Nat) (i j:Int),x2<=i->i<=j->j<=g5->g5<=m->toNat (j-i)<k->(∀t,x2<=t->t<i->(s.at' t.toNat).r<=(s.at' ((a+b)/2+m-1-t).toNat).r)->(∀t,j<=t->t<g5->(s.at' ((a+b)/2+m-1-t).toNat).r<=(s.at' t.toNat).r)->
  (x2<=sR a m b s k i j/\sR a m b s k i j<=g5)/\(∀t,x2<=t->t<sR a m b s k i j->(s.at' t.toNat).r<=(s.at' ((a+b)/2+m-1-t).toNat).r)/\(∀t,sR a m b s k i j<=t->t<g5->(s.at' ((a+b)/2+m-1-t).toNat).r<=(s.at' t.toNat).r)
 |0,_,_,_,_,_,_,h,_,_=>absurd h (dJ _)
 |k+1,i,j,o,C,B,v,D,A,y=>by
  have e1:=half (x:=a+b) Ω Ω;rw[sR,half (x:=i+j) Ω Ω,e1,E ((a+b)/2+m),E ((a+b)/2+m-1)]
  by_cases e:i<j
  .have q:=f ((i+j)/2) Ω Ω;rw[bm e,au,E ((i+j)/2+1),E ((a+b)/2+m-1- (i+j)/2),O7 g (i:=(a+b)/2+m-1- (i+j)/2) (j:=(i+j)/2) Ω Ω];have mono: ∀t u,x2<=t->t<u->u<g5->(s.at' t.toNat).r<=(s.at' u.toNat).r/\(s.at' ((a+b)/2+m-1-u).toNat).r<=(s.at' ((a+b)/2+m-1-t).toNat).r:=λt u t0 t1 t2=>by
    have p:=f t t0 Ω;have r:=f u Ω t2;exact⟨l t u Ω t1 Ω,n _ _ Ω Ω Ω⟩
   by_cases c:(s.at' ((a+b)/2+m-1- (i+j)/2).toNat).r<(s.at' ((i+j)/2).toNat).r
   .rw[bm c,Bool.not_true,aB];refine TV g h w l n z f k i ((i+j)/2) o Ω Ω v Ω A λt t1 t2=> ?_
    by_cases d:t=(i+j)/2
    .rw[d];omega
    .have:=mono ((i+j)/2) t Ω Ω t2;omega
   .rw[a8 c,Bool.not_false,au];refine TV g h w l n z f k ((i+j)/2+1) j Ω Ω B v Ω (λt t1 t2=> ?_) y
    by_cases d:t=(i+j)/2
    .rw[d];omega
    .have:=mono t ((i+j)/2) t1 Ω Ω;omega
  .rw[a8 e,aB];exact⟨⟨o,Ω⟩,A,λt t1 t2=>y t Ω t2⟩
def RN(N:Nat)(f:Int->Int->Int->I aw->I aw):Prop:= ∀(a m b:Int) (s:I aw),0<=a/\a<m/\m<b->b<=s.n->s.n<=900000->b-a<(N:Int)->kV s->h5 a m s->h5 m b s->eR a b (f a m b s) s/\h5 a b (f a m b s)
def eR.n{a b:Int}{c s:I aw}(h:eR a b c s):c.n=s.n:=h.p.1
def aGf{aO:Nat}{f:Int->Int->Int->I aw->I aw}(xO:RN aO f):RN (aO+1) (xj f):=by
 intro a m b s h W O Ig hV S T;have e1:=E (m-a);have fq:=E (b-m);have aaL:=half (x:=a+b) Ω Ω;have amg:=E ((a+b)/2+m);unfold xj;rw[e1,fq]
 by_cases K:m-a=1
 .rw[K,show((1:Int)==1)=true from rfl,au];have q:=TU hV (m:=m) (b:=b) (a:=a) Ω Ω ⟨W,O⟩ T (toNat (b-m)+1) m b (bz _) Ω (bz _) Ω (λt t1 t2=>absurd t1 Ω) λt t1 t2=>absurd t1 Ω;refine al7 (r:=kJ a m b s) Ω rfl ⟨?_,q.1.2⟩ Ω (toNat (b-a)+1) a s (bz _) ?_ W Ω (λi j d e l i4 i5=>T i j Ω e l) (λi d e=>absurd d Ω) (λt t1 t2=>q.2.1 t Ω t2) λt t1 t2=>q.2.2 t t1 t2
  .have:m<=kJ a m b s:=q.1.1;omega
  .have:m<=kJ a m b s:=q.1.1;omega
 .rw[show(m-a==1)=false from ew.2 K,aB]
  by_cases G:b-m=1
  .rw[G,show((1:Int)==1)=true from rfl,au];have q:=TT hV (a:=a) (m:=m) Ω ⟨Ω,O⟩ S (toNat (m-a)+1) a m (bz _) Ω (bz _) Ω (λt t1 t2=>absurd t1 Ω) λt t1 t2=>absurd t1 Ω;exact adm (r:=Du a m s) Ω rfl q.1.1 Ω (toNat (m-a)+1) m s q.1.2 Ω W Ω (λi j d e l i4 i5=>S i j d e Ω) (λi d e=>absurd d Ω) (λt t1 t2=>q.2.2 t t1 t2) λt t1 t2=>q.2.1 t t1 t2
  .rw[show(b-m==1)=false from ew.2 G,aB];have B:=qO a m b ⟨h.1,h.2.1,h.2.2,Ω⟩;obtain⟨M,Oo⟩: ∃M,M=rl a m b:=⟨_,rfl⟩;obtain⟨L,Ok⟩: ∃L,L=rm a m b:=⟨_,rfl⟩;rw[<-Oo,<-Ok]at B;have q:=TV hV h ⟨W,O⟩ S T (x2:=M) (g5:=L) Ω (λjb x y=>by omega) (toNat (L-M)+1) M L (bz _) Ω (bz _) Ω Ω (λt t1 t2=>absurd t1 Ω) λt t1 t2=>absurd t1 Ω;have aEG:gE a m b s=sR a m b s (toNat (L-M)+1) M L:=by rw[Oo,Ok];rfl
   rw[<-aEG]at q;obtain⟨st,td⟩: ∃st,st=gE a m b s:=⟨_,rfl⟩;obtain⟨c,N⟩: ∃c,c=(a+b)/2:=⟨_,rfl⟩;rw[<-td,<-N]at q;have amh:=E (c+m-st);have aHP:(a<=st/\st<=m)/\st<=c/\m<=c+m-st/\c+m-st<=b/\a<c/\c<b:=by omega
   have R:eR a b (qc a m b s) s/\ ∀t:Int,0<=t->(qc a m b s).at' t.toNat=rot st m (c+m-st) s t:=by
    have id: ¬(st<m/\m<c+m-st)-> ∀t:Int,0<=t->s.at' t.toNat=rot st m (c+m-st) s t:=λjb t jI=>by
     unfold rot
     (repeat' split)<;>first|rfl|(congr 1;omega)|(exfalso;omega)
    unfold qc zL;rw[aaL,<-td,<-N,show i64 (c+m)=c+m by rw[N];exact amg,amh]
    by_cases n:st<m
    .by_cases p:m<c+m-st
     .rw[bm n,bm p];simp only[au];have k:=aEE (A:=st) (g:=m) (u:=c+m-st) (s:=s) ⟨Ω,n,p⟩ Ω O;rw[I.lI k.1.1];refine⟨⟨k.1,λi fv z=> ?_,λP z i d e=> ?_⟩,k.2⟩
      .rw[k.2 i fv];unfold rot;rw[aW Ω,aW Ω]
      .rw[k.2 i Ω];unfold rot
       split
       .exact z _ Ω Ω
       .split
        .exact z _ Ω Ω
        .exact z _ Ω Ω
     .rw[bm n,a8 p];exact⟨eR.refl a b s,id λz=>p z.2⟩
    .rw[a8 n];exact⟨eR.refl a b s,id λz=>n z.1⟩
   obtain⟨H,U⟩:=R;generalize axh:qc a m b s=w at H U;have SW: ∀t:Int,a<=t->t<st->w.at' t.toNat=s.at' t.toNat:=λt x y=>by
    rw[U t Ω];unfold rot;rw[aW Ω,aW Ω]
   have SX: ∀t:Int,st<=t->t<c->w.at' t.toNat=s.at' (t+m-st).toNat:=λt x y=>by
    rw[U t Ω];unfold rot;rw[bg Ω]
   have Z: ∀t:Int,c<=t->t<c+m-st->w.at' t.toNat=s.at' (t+st-c).toNat:=λt x y=>by
    rw[U t Ω];unfold rot;rw[aW Ω,bg Ω];congr 1;omega
   have KJ: ∀t:Int,c+m-st<=t->t<b->w.at' t.toNat=s.at' t.toNat:=λt x y=>by
    rw[U t Ω];unfold rot;rw[aW Ω,aW Ω]
   have qL:h5 a st w:=λi j d e l=>by rw[SW i d Ω,SW j Ω l];exact S i j d e Ω
   have abS:h5 st c w:=λi j d e l=>by rw[SX i d Ω,SX j Ω l];exact T _ _ Ω Ω Ω
   have ap2:h5 c (c+m-st) w:=λi j d e l=>by rw[Z i d Ω,Z j Ω l];exact S _ _ Ω Ω Ω
   have ap3:h5 (c+m-st) b w:=λi j d e l=>by rw[KJ i d Ω,KJ j Ω l];exact T i j Ω e l
   have X3: ∀t C:Int,a<=t->t<m->t<=C->C<m->(s.at' t.toNat).r<=(s.at' C.toNat).r:=λt C g u o v=>by
    by_cases aL:t=C
    .rw[aL];omega
    .exact S t C g Ω v
   have X4: ∀t C:Int,m<=t->t<=C->C<b->(s.at' t.toNat).r<=(s.at' C.toNat).r:=λt C g o v=>by
    by_cases aL:t=C
    .rw[aL];omega
    .exact T t C g Ω v
   have apO: ∀i j:Int,a<=i->i<c->c<=j->j<b->(w.at' i.toNat).r<=(w.at' j.toNat).r:=λi j d e X Q=>by
    by_cases n:i<st
    .rw[SW i d n]
     by_cases p:j<c+m-st
     .rw[Z j X p];exact X3 _ _ d Ω Ω Ω
     .rw[KJ j Ω Q];have ix:(s.at' (st-1).toNat).r<=(s.at' (c+m-1- (st-1)).toNat).r:=q.2.1 (st-1) Ω Ω;have gF:=X3 i (st-1) d Ω Ω Ω;have j0:=X4 (c+m-1- (st-1)) j Ω Ω Q;omega
    .rw[SX i Ω e]
     by_cases p:j<c+m-st
     .rw[Z j X p];have ix:(s.at' (c+m-1-st).toNat).r<=(s.at' st.toNat).r:=q.2.2 st (bz _) Ω;have gF:=X4 (i+m-st) (c+m-1-st) Ω Ω Ω;have j0:=X3 st (j+st-c) Ω Ω Ω Ω;omega
     .rw[KJ j Ω Q];exact X4 _ _ Ω Ω Q
   have abW:kV w:=hV.p H.p;have hA:eR a c (qb f a m b s) w/\h5 a c (qb f a m b s):=by
    unfold qb zK;rw[aaL,<-td,<-N,axh]
    by_cases n:a<st
    .by_cases p:st<c
     .rw[bm n,bm p];simp only[au];have k:=xO a st c w ⟨Ω,n,p⟩ (by rw[H.n];omega) (by rw[H.n];exact O) Ω abW qL abS;rw[I.lI k.1.n];exact k
     .rw[bm n,a8 p];refine⟨eR.refl a c w,λi j d e l=>qL i j d e Ω⟩
    .rw[a8 n];refine⟨eR.refl a c w,λi j d e l=>abS i j Ω e l⟩
   obtain⟨J,abl⟩:=hA;generalize qb f a m b s=D at J abl;have tY:kV D:=abW.p J.p;have Y: ∀t:Int,c<=t->D.at' t.toNat=w.at' t.toNat:=λt x=>J.o t Ω (.inr x);have abT:h5 c (c+m-st) D:=λi j d e l=>by rw[Y i d,Y j Ω];exact ap2 i j d e l
   have abU:h5 (c+m-st) b D:=λi j d e l=>by rw[Y i Ω,Y j Ω];exact ap3 i j d e l
   have apP: ∀i j:Int,a<=i->i<c->c<=j->j<b->(D.at' i.toNat).r<=(D.at' j.toNat).r:=λi j d e X Q=>by
    rw[Y j X];exact J.a (λx=>x.r<=(w.at' j.toNat).r) (λt t1 t2=>apO t j t1 t2 X Q) i d e
   have F: ∀z:I aw,eR c b z D->h5 c b z->eR a b z s/\h5 a b z:=λz V ap5=>by
    refine⟨(V.mono (a':=a) (b':=b) ⟨h.1,Ω⟩ (bz _)).trans ((J.mono (a':=a) (b':=b) ⟨h.1,bz _⟩ Ω).trans H),λi j d e l=> ?_⟩
    by_cases n:j<c
    .rw[V.o i Ω (.inl Ω),V.o j Ω (.inl n)];exact abl i j d e n
    .by_cases p:i<c
     .rw[V.o i Ω (.inl p)];exact V.a (λx=>(D.at' i.toNat).r<=x.r) (λt t1 t2=>apP i t d p t1 t2) j Ω l
     .exact ap5 i j Ω e l
   unfold Dt;rw[aaL,<-td,<-N,show i64 (c+m)=c+m by rw[N];exact amg,amh]
   by_cases n:c<c+m-st
   .by_cases p:c+m-st<b
    .rw[bm n,bm p];simp only[au];have k:=xO c (c+m-st) b D ⟨Ω,n,p⟩ (by rw[J.n,H.n];exact W) (by rw[J.n,H.n];exact O) Ω tY abT abU;rw[I.lI k.1.n];exact F _ k.1 k.2
    .rw[bm n,a8 p];exact F _ (eR.refl c b D) λi j d e l=>abT i j d e Ω
   .rw[a8 n];exact F _ (eR.refl c b D) λi j d e l=>abU i j Ω e l
def aaz: ∀N,RN N (pA N)
 |0=>λa m b s h _ _ q=>absurd q Ω
 |N+1=>aGf (aaz N)
def B4{w c a:Int}(e:w ∣ c)(d:w ∣ a)(h:c<a):c+w<=a:=by
 have:=Int.le_of_dvd (a:=w) (b:=a-c) Ω (Int.dvd_sub d e);omega
def qD(w n:Int)(p:Int->Prop)(s:I aw):Prop:= ∀c:Int,0<=c->w ∣ c->p c-> ∀i j:Int,c<=i->i<j->j<c+w->j<n->(s.at' i.toNat).r<=(s.at' j.toNat).r
def FB{w n a b:Int}{p:Int->Prop}{d s:I aw}(h:qD w n p s)(k:eR a b d s)(e: ∀c,p c->w ∣ c->0<=c->c+w<=a\/b<=c):qD w n p d:=λc r K G i j f g l m=>by
 have q:=e c G K r;rw[k.o i Ω Ω,k.o j Ω Ω];exact h c r K G i j f g l m
def ad1(n:Int)(v:0<=n/\n<=900000): ∀(k:Nat) (a b:Int) (s:I aw),0<=a->a<=n->b=a+20->(20:Int) ∣ a->n=(s.n:Int)->kV s->toNat (n+21-b)<k->qD 20 n (· <a) s->
  eR 0 n (mx n k a b s).2.2 s/\0<=(mx n k a b s).1/\(mx n k a b s).1<=n/\(20:Int) ∣ (mx n k a b s).1/\n<(mx n k a b s).1+20/\qD 20 n (· <(mx n k a b s).1) (mx n k a b s).2.2
 |0,_,_,_,_,_,_,_,_,_,m,_=>absurd m (dJ _)
 |k+1,a,b,s,f,t,C,g,u,l,m,h=>by
  rw[mx]
  by_cases e:b<=n
  .have q:=alg (a:=a) (b:=b) (s:=s) f Ω Ω Ω l;rw[bm e,au,E (b+20),I.lI q.1.n];have p:=ad1 n v k b (b+20) (p_ a b s) Ω e rfl Ω (by rw[q.1.n];exact u) (l.p q.1.p) Ω (λc r K G i j w o A B=>by
    by_cases d:c<a
    .exact FB h q.1 (λc x y z=> .inl (B4 y g x)) c r K d i j w o A B
    .have:=B4 g K;have:c=a:=by omega
     exact q.2 i j Ω o Ω)
   exact⟨p.1.trans (q.1.mono (a':=0) (b':=n) ⟨bz _,f⟩ e),p.2⟩
  .rw[a8 e,aB];exact⟨eR.refl 0 n s,f,t,g,by show n<a+20;omega,h⟩
def ad0(n v:Int)(J:0<=n/\n<=900000)(H:20<=v/\v<=1800000): ∀(k:Nat) (a b:Int) (s:I aw),0<=a->a<=n->b=a+2*v->(2*v) ∣ a->n=(s.n:Int)->kV s->toNat (n+2*v+1-b)<k->qD (2*v) n (· <a) s->qD v n (a<= ·) s->
  eR 0 n (k9 n v k a b s).2.2.1 s/\0<=(k9 n v k a b s).1/\(k9 n v k a b s).1<=n/\(2*v) ∣ (k9 n v k a b s).1/\n<(k9 n v k a b s).1+2*v/\qD (2*v) n (· <(k9 n v k a b s).1) (k9 n v k a b s).2.2.1/\qD v n ((k9 n v k a b s).1<= ·) (k9 n v k a b s).2.2.1
 |0,_,_,_,_,_,_,_,_,_,w,_,_=>absurd w (dJ _)
 |k+1,a,b,s,o,C,D,g,F,u,w,t,l=>by
  have B:v ∣ 2*v:=Int.dvd_mul_left ..;have qS:v ∣ a:=Int.dvd_trans B g;rw[k9,E (2*v)]
  by_cases e:b<=n
  .have q:=aaz 900001 a (a+v) b s Ω Ω Ω Ω u (λi j h f m=>l a o qS (bz _) i j h f m Ω) λi j h f m=>l (a+v) Ω (Int.dvd_add qS (Int.dvd_refl v)) Ω i j h f Ω Ω;rw[bm e,au,E (b+2*v),E (a+v),I.lI q.1.n];have arU:(2*v) ∣ b:=by rw[D];exact Int.dvd_add g (Int.dvd_refl _)
   have A:=ad0 n v J H k b (b+2*v) (pA 900001 a (a+v) b s) Ω e rfl arU (by rw[q.1.n];exact F) (u.p q.1.p) Ω (λc r K G i j h f m L=>by
    by_cases d:c<a
    .exact FB t q.1 (λc x y z=> .inl (B4 y g x)) c r K d i j h f m L
    .have:c=a:=by
      by_cases z:a<c
      .have:=B4 g K z;have G:c<b:=G;omega
      .omega
     exact q.2 i j Ω f Ω) (FB (p:=(b<= ·)) (λc r K G=>l c r K (by have G:b<=c:=G;show a<=c;omega)) q.1 λc x _ _=> .inr x)
   exact⟨A.1.trans (q.1.mono (a':=0) (b':=n) ⟨bz _,o⟩ e),A.2⟩
  .rw[a8 e,aB];exact⟨eR.refl 0 n s,o,C,g,by show n<a+2*v;omega,t,l⟩
def ad2(n:Int)(o:0<=n/\n<=900000): ∀(k:Nat) (v a b:Int) (s:I aw),20<=v->v<=1800000->n=(s.n:Int)->kV s->toNat (n-v)<k->qD v n (λ_=>True) s->eR 0 n (w_ n k v a b s) s/\h5 0 n (w_ n k v a b s)
 |0,_,_,_,_,_,_,_,_,A,_=>absurd A (dJ _)
 |k+1,v,a,b,s,M,N,B,m,A,w=>by
  rw[w_]
  by_cases e:v<n
  .rw[bm e,au,E (v*2)];have q:=ad0 n v o ⟨M,N⟩ (toNat (n+2*v+1-2*v)+1) 0 (2*v) s (bz _) o.1 Ω ⟨0,Ω⟩ B m Ω (λc r _ G=>absurd G (by show¬c<0;omega)) λc r K _=>w c r K trivial;have ct:gR n v s=k9 n v (toNat (n+2*v+1-2*v)+1) 0 (2*v) s:=by
    unfold gR;rw[E (2*v)]
   rw[<-ct]at q;obtain⟨q1,p,P,H,Q,O,t⟩:=q;have l:eR 0 n (xa n v s) s/\qD (v*2) n (λ_=>True) (xa n v s):=by
    have L:v ∣ 2*v:=Int.dvd_mul_left ..;have F: ∀z:I aw,eR (gR n v s).1 n z (gR n v s).2.2.1->h5 (gR n v s).1 n z->eR 0 n z s/\qD (v*2) n (λ_=>True) z:=λz u J=>by
     refine⟨(u.mono (a':=0) (b':=n) ⟨bz _,p⟩ (bz _)).trans q1,λc r K _ i j g f h C=> ?_⟩;have K:2*v ∣ c:=by rw[Int.mul_comm];exact K
     by_cases d:c<(gR n v s).1
     .exact FB O u (λc x y z=> .inl (B4 y H x)) c r K d i j g f Ω C
     .exact J i j Ω f C
    unfold xa;rw[E ((gR n v s).1+v)];have qS:v ∣ (gR n v s).1:=Int.dvd_trans L H
    by_cases c:(gR n v s).1+v<n
    .have k:=aaz 900001 (gR n v s).1 ((gR n v s).1+v) n (gR n v s).2.2.1 Ω (by rw[q1.n];omega) (by rw[q1.n];omega) Ω (m.p q1.p) (λi j g f h=>t _ p qS (bz _) i j g f h Ω) λi j g f h=>t _ Ω (Int.dvd_add qS (Int.dvd_refl v)) (by show(gR n v s).1<=(gR n v s).1+v;omega) i j g f Ω h;rw[bm c,au,I.lI k.1.n];exact F _ k.1 k.2
    .rw[a8 c,aB];exact F _ (eR.refl _ n _) λi j g f h=>t _ p qS (bz _) i j g f Ω h
   have D:=ad2 n o k (v*2) (gR n v s).1 (gR n v s).2.1 (xa n v s) Ω Ω (by rw[l.1.n];exact B) (m.p l.1.p) Ω l.2;exact⟨D.1.trans l.1,D.2⟩
  .rw[a8 e,aB];exact⟨eR.refl 0 n s,λi j g f h=>w 0 (bz _) ⟨0,Ω⟩ trivial i j g f Ω h⟩
def aFu{s:I aw}(m:s.n<=900000)(e:kV s):eR 0 (s.n:Int) (hR s) s/\h5 0 (s.n:Int) (hR s):=by
 have q:=ad1 (s.n:Int) ⟨Ω,Ω⟩ (toNat ((s.n:Int)+21-20)+1) 0 20 s (bz _) Ω rfl ⟨0,rfl⟩ rfl e Ω λc r _ G=>absurd G (by show¬c<0;omega);have cX:m6 (s.n:Int) s=mx (s.n:Int) (toNat ((s.n:Int)+21-20)+1) 0 20 s:=rfl;rw[<-cX]at q;obtain⟨q1,l,p,t,v,u⟩:=q;have k:=alg (a:=(m6 (s.n:Int) s).1) (b:=(s.n:Int)) (s:=(m6 (s.n:Int) s).2.2) l p (by rw[q1.n];omega) (by rw[q1.n];exact m) (e.p q1.p);have h:=ad2 (s.n:Int) ⟨Ω,Ω⟩ (toNat ((s.n:Int)-20)+1) 20 (m6 (s.n:Int) s).1 (m6 (s.n:Int) s).2.1 (p_ (m6 (s.n:Int) s).1 (s.n:Int) (m6 (s.n:Int) s).2.2) Δ Δ (by rw[k.1.n,q1.n]) ((e.p q1.p).p k.1.p) Ω (λc r K _ i j n f o g=>by
  by_cases d:c<(m6 (s.n:Int) s).1
  .exact FB u k.1 (λc x y z=> .inl (B4 y t x)) c r K d i j n f o g
  .exact k.2 i j Ω f g)
 have P:eR 0 (s.n:Int) (sI (s.n:Int) s) s:=by
  unfold sI VC;rw[I.lI k.1.n];exact h.1.trans ((k.1.mono (a':=0) (b':=(s.n:Int)) ⟨bz _,l⟩ (bz _)).trans q1)
 have S:h5 0 (s.n:Int) (sI (s.n:Int) s):=by
  unfold sI VC;rw[I.lI k.1.n];exact h.2
 unfold hR;rw[I.lI P.n];exact⟨P,S⟩
def aDB{A:I aK}(b:A.n<=3000)(h: ∀a∈A.B,fO a):og A:=⟨b,λ_ c=>h _ (fr (fP A c))⟩
def aa5{A:I aK}(h:og A): ∀a∈A.B,fO a:=λa d=>by
 have⟨i,b⟩:=l_ d;have c:i<A.n:=by
  rw[<-bj A];exact(hk.1 b).1
 rw[fP A c]at b;rw[<-ij b];exact h.2 i c
abbrev ei(A:I h6):I aK:=hT (ee A 60) e8
def ak8{A:I aK}(h:og A):Hc A=I.cut (hR (je A.B).aU) (je A.B).aU.n:=by
 have a:=h.1;unfold Hc;rw[(ya h).1,(ya h).2,ZX Ω];rfl
def aBt{C:aq}(a:py C)(g:C.aU.n<=900000):I.cut (hR C.aU) C.aU.n=hR C.aU/\(hR C.aU).n=C.aU.n/\(hR C.aU).B.Perm C.aU.B/\ ∀i:Nat,i+1<C.aU.n->((hR C.aU).at' i).r<((hR C.aU).at' (i+1)).r:=by
 obtain⟨W,a⟩:=a;have f:kV C.aU:=λi c=>(a.l _ (fr (fP C.aU c))).1.1;have⟨P,S⟩:=aFu g f;refine⟨I.lI P.n,P.n,P.p.2,λi c=> ?_⟩;have k:=S (i:Int) ((i+1:Nat):Int) Ω Ω Ω;have k:((hR C.aU).at' i).r<=((hR C.aU).at' (i+1)).r:=k;have h:((hR C.aU).B.map (·.r)).Nodup:=(P.p.2.map _).nodup_iff.2 a.d;have iQ:i<(hR C.aU).n:=by rw[P.n];omega
 have d:i+1<(hR C.aU).n:=by rw[P.n];omega
 have q:=(List.pairwise_iff_getElem.1 h) i (i+1) (by rw[List.length_map,bj];exact iQ) (by rw[List.length_map,bj];exact d) Ω;rw[List.getElem_map,List.getElem_map]at q;have e: ∀{j:Nat} (b:j<(hR C.aU).n),(hR C.aU).B[j]'(by rw[bj];exact b)=(hR C.aU).at' j:=λ{j} b=>by
  have z:=fP (hR C.aU) b;rw[cG (by rw[bj];exact b)]at z;exact ij z
 rw[e iQ,e d]at q;omega
def aBs{C:aq}(h:py C){i:Nat}(a:i<3)(r:(C.h i).ro=3): ∃l∈C.aU.B,l.r=(C.h i).D/\l.K=(i:Int):=by
 obtain⟨W,h⟩:=h;have⟨U,k⟩:=h.n i a;exact k.pk r
section
variable {A:I h6}
def ai2(h:yw A):(ee A 60).n<=60/\e8.n=516/\og (ei A)/\dN (je (ei A).B)/\py (je (ei A).B)/\(je (ei A).B).aU.n<=900000:=by
 have k:=aqf (g:=60) h Δ;have e:(ee A 60).n<=60:=by have:=k.1;omega
 have i:og (ee A 60):=⟨Ω,k.2⟩;have f:e8.n=516:=by rw[<-bj,aa2,ard]
 have c:(ei A).B=(ee A 60).B++ui:=by
  show(I.app (ee A 60) e8).B=_;rw[fH,aa2]
 have p:(ei A).n=(ee A 60).n+516:=by rw[<-f];rfl
 have b:=aa5 i;have a:og (ei A):=aDB Ω (by rw[c];exact lE b aqd);have J:=KY i;have o:(ee A 60).B.length=(ee A 60).n:=bj _;have j:=alm b Ω (ee A 60).B.length (bH _);rw[List.take_length]at j;have aT:=arc J e j Ω;have m:je (ei A).B=ui.foldl df (je (ee A 60).B):=by rw[c,Tt]
 rw[<-m]at aT;have d:=adx (l:=(ei A).B) (aa5 a) (by rw[bj];omega) (ei A).B.length (bH _);rw[List.take_length]at d;have n:=(KY a).fK;exact⟨e,f,a,aT,d,Ω⟩
def qn(h:yw A):(ee A 60).n<=60/\e8.n=516/\(rp (hT (ee A 60) e8)).n=3/\(eg (hT (ee A 60) e8)).n<=900000:=by
 have⟨a,b,c,_,e,f⟩:=ai2 h;refine⟨a,b,by rw[akF c];rfl,?_⟩;show(Hc (ei A)).n<=900000;rw[ak8 c];exact f
end
