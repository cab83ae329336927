import Derived.Test.YtcpfnfkibnjcfaaGreatDoorXk
open Go.IntKind (i64 u64 u8)
open Int (toNat)
set_option maxRecDepth 100000
set_option maxHeartbeats 4000000
set_option linter.all false
noncomputable section
namespace Go.Proofs.YtcpfnfkibnjcfaaGreatDoor
open Go Go.RowKit Go.ag
def g0(s:I Int)(b:Bool)(l:List Int):Prop:=b=false/\s.B=l
def ZJ{s:I Int}{b:Bool}{a l:List Int}(h:g0 s b (a++l)){n:Int}(d:n=(a.length:Int)):(gg n s b).B=a/\g0 (wY n s b) (CY n s b) l:=by
 obtain⟨rfl,h⟩:=h;have c:s.n=a.length+l.length:=by rw[<-bj,h,db]
 have m:ra n s false=false:=by unfold ra;rw[aB];exact a8 Ω
 unfold gg wY CY;rw[m];simp only[aB];have t:n.toNat=a.length:=by omega
 refine⟨?_,rfl,?_⟩
 .rw[sc _ _ _ Ω Ω Ω,h,show(n-0).toNat=a.length by omega];simp
 .rw[sc _ _ _ Ω Ω Ω,h,t,List.drop_left,List.take_of_length_le Ω]
def num(x:Int):List Int:=[gU x 56,gU x 48,gU x 40,gU x 32,gU x 24,gU x 16,gU x 8,gU x 0]
def val(v:Int)(l:List Int):Int:=l.foldl (λv c=>v*256+c) v
def aDE(v b:Nat)(d:v<72057594037927936)(f:b<256):bits .or .u64 (u64 ((v:Int)*2^(toNat 8))) (u64 (b:Int))=((v*256+b:Nat):Int):=by
 have e:=Nat.shiftLeft_add_eq_or_of_lt (show b<2^8 by omega) v;rw[Nat.shiftLeft_eq]at e;have e1:u64 ((v:Int)*2^(toNat 8))=((v*256:Nat):Int):=by
  rw[IntKind.wrap_u64];show((v:Int)*256)%18446744073709551616=_;omega
 have fq:u64 (b:Int)=(b:Int):=by rw[IntKind.wrap_u64];omega
 rw[e1,fq];unfold bits;simp only[BitVec.toNat_or,BitVec.toNat_ofInt];have a:((((v*256:Nat):Int))%((2^u64.bits:Nat):Int)).toNat=v*256:=by
  show((((v*256:Nat):Int))%18446744073709551616).toNat=v*256;omega
 have c:((b:Int)%((2^u64.bits:Nat):Int)).toNat=b:=by
  show((b:Int)%18446744073709551616).toNat=b;omega
 rw[a,c,show v*256=v*2^8 by omega,<-e,IntKind.wrap_u64];omega
def amc(v c:Int)(l:List Int):val v (c::l)=val (v*256+c) l:=rfl
def akV{s:I Int}{b:Bool}{a:List Int}(h:(gg 8 s b).B=a)(f:a.length=8)(g: ∀c∈a,0<=c/\c<=255): ∀(m i d:Nat) (v:Nat),i+m=8->m<d->v<256^i->CJ s b d (v:Int) (i:Int)=val (v:Int) (a.drop i)
 |0,i,d+1,v,k,_,_=>by
  have l:(gg 8 s b).n=8:=by rw[<-bj,h,f]
  rw[CJ,a8 Ω,aB,List.drop_eq_nil_of_le Ω];rfl
 |m+1,i,d+1,v,k,t,n=>by
  have l:(gg 8 s b).n=8:=by rw[<-bj,h,f]
  have e:i<a.length:=by omega
  have q:(gg 8 s b).at' (toNat (i:Int))=a[i]:=by
   have:=fP (gg 8 s b) (i:=i) Ω;rw[h,cG e]at this;exact(ij this).symm
  obtain⟨r,K⟩:=g a[i] (mb e);obtain⟨c,j⟩:=tO r;have o:v<72057594037927936:=hj n (ec (Nat.pow_le_pow_right Δ (show i<=7 by omega)) Δ);rw[CJ,bm Ω,au,q,j,aDE v c o Ω,E ((i:Int)+1)];have p:=akV h f g m (i+1) d (v*256+c) Ω Ω (by rw[Nat.pow_succ];omega);rw[show((i:Int)+1)=((i+1:Nat):Int) by omega,p,r8 e,amc,j];rfl
def akq(x:Int)(a: -4611686018427387904<=x)(b:x<4611686018427387904)(k:Nat):gU x k=(x+4611686018427387904)/2^k%256:=by
 unfold gU;rw[E (x+4611686018427387904),IntKind.wrap_u64,IntKind.wrap_u8];rw[show(x+4611686018427387904)%18446744073709551616=x+4611686018427387904 by omega]
def aC6(x:Int)(b: -4611686018427387904<=x)(d:x<4611686018427387904): ∀c∈num x,0<=c/\c<=255:=by
 intro c a;have e:=akq x b d;unfold num at a;simp only[e,ih,tQ,or_false]at a;rcases a with rfl|rfl|rfl|rfl|rfl|rfl|rfl|rfl<;>omega
def aC7(x:Int)(a: -4611686018427387904<=x)(b:x<4611686018427387904):val 0 (num x)=x+4611686018427387904:=by
 have e:=akq x a b;unfold num;simp only[e,amc];show _=_;generalize f:x+4611686018427387904=u;have c:0<=u:=by omega
 have d:u<9223372036854775808:=by omega
 simp only[val,List.foldl_nil];rw[show(2:Int)^56=72057594037927936 by decide,show(2:Int)^48=281474976710656 by decide,show(2:Int)^40=1099511627776 by decide,show(2:Int)^32=4294967296 by decide,show(2:Int)^24=16777216 by decide,show(2:Int)^16=65536 by decide,show(2:Int)^8=256 by decide,show(2:Int)^0=1 by decide];omega
def n7{s:I Int}{b:Bool}{l:List Int}{x:Int}(h:g0 s b (num x++l))(a: -4611686018427387904<=x)(c:x<4611686018427387904):c_ s b=x/\g0 (aP s b) (aQ s b) l:=by
 have⟨t,r⟩:=ZJ h (n:=8) rfl;refine⟨?_,r⟩;have d:(gg 8 s b).n=8:=by rw[<-bj,t];rfl
 have v:=akV t rfl (aC6 x a c) 8 0 (toNat (((gg 8 s b).n:Int)-0)+1) 0 rfl Ω Δ;have e:UO s b=x+4611686018427387904:=by
  unfold UO;rw[<-aC7 x a c];exact v
 unfold c_;rw[e,IntKind.wrap_u64,IntKind.wrap_i64];omega
def rU{s:I Int}{b:Bool}{l:List Int}{c:Int}(h:g0 s b (c::l))(e:0<=c/\c<=255):cI s b=c/\g0 (cc s b) (cp s b) l:=by
 have⟨t,r⟩:=ZJ (a:=[c]) h (n:=1) rfl;refine⟨?_,r⟩;have d:(gg 1 s b).n=1:=by rw[<-bj,t];rfl
 have q:(gg 1 s b).at' 0=c:=by
  have:=fP (gg 1 s b) (i:=0) Ω;rw[t]at this;exact(ij this).symm
 unfold cI;rw[d,show toNat 0=0 from rfl,q,bm Δ,au,E _]
def jm(x:z):List Int:=(x.size:Int)::(I.ofStr x).B
def aGc(x:z):Qt (I.ofStr x).B=x:=by
 have e:((I.ofStr x).B.map λb=>UInt8.ofNat b.toNat)=x.data.toList:=by
  apply yt;intro i;rw[hJ]
  by_cases h:i<x.size
  .rw[fP _ (show i<(I.ofStr x).n from h)];have a:i<x.data.toList.length:=by rw[Array.length_toList];exact h
   show some (UInt8.ofNat (toNat ((x.data.toList.getD i 0).toNat:Int)))=_;rw[E7,cG a];simp
  .rw[fk (by rw[bj];exact Nat.le_of_not_lt h),fk (by rw[Array.length_toList];exact Nat.le_of_not_lt h)];rfl
 unfold Qt;rw[e]
def tC{s:I Int}{b:Bool}{l:List Int}{x:z}(h:g0 s b (jm x++l))(d:x.size<=255):iN s b=x/\g0 (cH s b) (cU s b) l:=by
 have⟨e,r⟩:=rU (c:=(x.size:Int)) h Ω;have k:=ZJ (a:=(I.ofStr x).B) r (n:=cI s b) (by rw[e,bj];rfl);refine⟨?_,k.2⟩;unfold iN;rw[aGA,k.1,aGc]
def px(x:Int)(s:I Int)(h:0<=x/\x<=255):(cP x s).B=s.B++[x]:=by
 unfold cP;rw[fH,fQ,IntKind.wrap_u8,show x%256=x by omega]
def sb(x:z)(s:I Int)(h:x.size<=255):(dd x s).B=s.B++jm x:=by
 unfold dd;rw[fH,px _ _ Ω,e5];rfl
def kq(x:Int)(s:I Int):(bw x s).B=s.B++num x:=aaX x s
def aEO{s:I Int}{b:Bool}{l:List Int}{k n:Int}{g u o:z}(h:g0 s b (k::(jm g++(jm u++(jm o++(num n++l))))))(j:0<=k/\k<=255)(e:g.size<=255)(f:u.size<=255)(i:o.size<=255)(m: -4611686018427387904<=n)(p:n<4611686018427387904):
  Vk s b=k/\Vl s b=g/\Vm s b=u/\Vn s b=o/\Vo s b=n/\g0 (Vp s b) (Vq s b) l:=by
 have⟨a,r⟩:=rU h j;have⟨aL,cX⟩:=tC r e;have⟨aO,ct⟩:=tC cX f;have⟨c,q⟩:=tC ct i;have⟨d,t⟩:=n7 q m p;exact⟨a,aL,aO,c,d,t⟩
def FI(x:ax):List Int:=bif decide (x.q>0)then num x.j++(x.m::(jm x.ak++(jm x.aA++(jm x.i++num x.aJ))))else[]
def n0(x:ax):List Int:=num x.r++(num x.K++cond x.G [1] (0::(num x.q++FI x)))
def se(x:ax):Prop:=fX x.r x.K x.G x.q x.j x.m x.ak x.aA x.i x.aJ=0
def S1{x:z}(h:(x.toList==ε.toList)=true):x=ε:=by
 have a:=BN (eq_of_beq h)
 cases x with
 |mk d=>
  have:d= #[]:=Array.eq_empty_of_size_eq_zero a;rw[this]
def amy{A g u:Int}{o v d:z}{y:Int}(h:((A==0)&&((g==0)&&((u==0)&&((o.toList==ε.toList)&&((v.toList==ε.toList)&&((d.toList==ε.toList)&&((y==0)&&true)))))))=true):A=0/\g=0/\u=0/\o=ε/\v=ε/\d=ε/\y=0:=by
 simp only[b2]at h;obtain⟨a,b,c,i,e,f,j,_⟩:=h;exact⟨eq_of_beq a,eq_of_beq b,eq_of_beq c,S1 i,S1 e,S1 f,eq_of_beq j⟩
def aAu{A:Int}{g u o:z}{v:Int}(h:fS A g u o v=0):1<=A/\A<=22:=by
 unfold fS at h
 cases m:zV A with
 |true=>rw[m]at h;cases h
 |false=>
  unfold zV at m
  by_cases a:A<1
  .rw[bm a]at m;cases m
  by_cases c:A>22
  .rw[a8 a,bm c]at m;cases m
  omega
def aEA{A g u:Int}{o v d:z}{y:Int}(h:h_ A g u o v d y=0):(A=0/\g=0/\u=0/\o=ε/\v=ε/\d=ε/\y=0)\/((1<=A/\A<=1048576)/\(1<=g/\g<=1048576)/\(1<=u/\u<=22)/\(o.size<=20/\v.size<=20/\d.size<=20)/\ -1099511627776<=y/\y<=1099511627776):=by
 have b:=Z0 h;have t:=t49 _ _ _ _ _ _ _ h;unfold h_ at h
 by_cases a:A=0
 .left;rw[show(A==0)=true from gy.2 a]at h;simp only[au]at h
  cases e:((A==0)&&((g==0)&&((u==0)&&((o.toList==ε.toList)&&((v.toList==ε.toList)&&((d.toList==ε.toList)&&((y==0)&&true)))))))with
  |true=>exact amy e
  |false=>
   rw[show(A==0)=true from gy.2 a]at e;rw[e]at h
   cases h
 .right;obtain t|t:=t
  .exact absurd t a
  rw[ew.2 a]at h;simp only[aB]at h
  cases m:HY A g with
  |true=>rw[m]at h;cases h
  |false=>
   rw[m]at h;exact⟨t.1,t.2.1,aAu h,b,t.2.2⟩
def PM{x:ax}(h:se x):((1<=x.r/\x.r<=1048576)/\0<=x.K/\x.K<=1073741824)/\((x.q=0/\x.j=0/\x.m=0/\x.ak=ε/\x.aA=ε/\x.i=ε/\x.aJ=0)\/(x.G=false/\(1<=x.q/\x.q<=1048576)/\(1<=x.j/\x.j<=1048576)/\(1<=x.m/\x.m<=22)/\(x.ak.size<=20/\x.aA.size<=20/\x.i.size<=20)/\ -1099511627776<=x.aJ/\x.aJ<=1099511627776)):=by
 have t:=t51 _ _ _ _ _ _ _ _ _ _ h;refine⟨t.1,?_⟩
 cases a:x.G with
 |false=>
  have q:=aEA (t.2 a);rcases q with q|q
  .exact .inl q
  .exact .inr ⟨rfl,q⟩
 |true=>
  left;unfold se fX at h
  cases m:DC x.r x.K with
  |true=>rw[m]at h;cases h
  |false=>
   rw[m,a]at h;simp only[aB,au]at h
   cases e:((x.q==0)&&((x.j==0)&&((x.m==0)&&((x.ak.toList==ε.toList)&&((x.aA.toList==ε.toList)&&((x.i.toList==ε.toList)&&((x.aJ==0)&&true)))))))with
   |true=>exact amy e
   |false=>rw[e]at h;cases h
def ax6{x:ax}(h:se x):(rv x.r x.K x.G x.q x.j x.m x.ak x.aA x.i x.aJ).B=n0 x:=by
 have⟨⟨ch,cw⟩,q⟩:=PM h;have e:(fX x.r x.K x.G x.q x.j x.m x.ak x.aA x.i x.aJ !=0)=false:=by rw[show fX x.r x.K x.G x.q x.j x.m x.ak x.aA x.i x.aJ=0 from h];rfl
 unfold rv Gt G0 n0 FI;rw[e,aB]
 cases a:x.G with
 |true=>simp only[au];rw[px _ _ Δ,kq,kq,yv];simp
 |false=>
  simp only[aB]
  cases bo:decide (x.q>0)with
  |false=>simp only[aB];rw[kq,px _ _ Δ,kq,kq,yv];simp
  |true=>
   have:=al bo;rcases q with q|⟨_,b,c,d,f,g⟩
   .omega
   simp only[au];unfold G9;rw[kq,sb _ _ Ω,sb _ _ Ω,sb _ _ Ω,px _ _ Ω,kq,kq,px _ _ Δ,kq,kq,yv];simp
def x8(x:Int):(num x).length=8:=rfl
def x9(x:z):(jm x).length=x.size+1:=by
 show((I.ofStr x).B).length+1=_;rw[bj];rfl
def Xz{x:ax}(h:se x):(n0 x).length<=120/\17<=(n0 x).length:=by
 have⟨_,q⟩:=PM h;unfold n0 FI
 cases x.G with
 |true=>simp only[au,db,x8,dE,gx];omega
 |false=>
  cases bo:decide (x.q>0)with
  |false=>simp only[aB,db,x8,dE,gx];omega
  |true=>
   have:=al bo;rcases q with q|⟨_,a,b,c,d,e⟩
   .omega
   simp only[aB,au,db,x8,x9,dE];omega
def ax5{x:ax}(h:se x){s:I Int}(n:s.B=n0 x):(mq s false=x.r/\mr s false=x.K/\lN s false=x.G/\lO s false=x.q/\lP s false=x.j/\lQ s false=x.m/\lR s false=x.ak/\lS s false=x.aA/\lT s false=x.i/\lU s false=x.aJ)/\mu s false=true/\g0 (lV s false) (mv s false) []:=by
 have⟨⟨ch,cw⟩,q⟩:=PM h;have hD:g0 s false (num x.r++(num x.K++cond x.G [1] (0::(num x.q++FI x)))):=⟨rfl,n⟩;have⟨a0,cX⟩:=n7 hD Ω Ω;have⟨aL,ct⟩:=n7 cX Ω Ω;unfold lN lO lP lQ lR lS lT lU mu lV mv
 cases b:x.G with
 |true=>
  rw[b,au]at ct;have⟨aO,c⟩:=rU (l:=[]) ct Δ;obtain q|⟨q,_⟩:=q
  .have p:m2 s false=true:=by unfold m2;rw[aO];rfl
   unfold UE UF UG UH UI UJ UK UC UB UD;rw[p,aO];exact⟨⟨a0,aL,rfl,q.1.symm,q.2.1.symm,q.2.2.1.symm,q.2.2.2.1.symm,q.2.2.2.2.1.symm,q.2.2.2.2.2.1.symm,q.2.2.2.2.2.2.symm⟩,rfl,c⟩
  .rw[b]at q;cases q
 |false=>
  rw[b,aB]at ct;have⟨aO,c⟩:=rU ct Δ;have p:m2 s false=true:=by unfold m2;rw[aO];rfl
  have⟨e,a⟩:=n7 c Ω Ω;unfold UE UF UG UH UI UJ UK UC UB UD;rw[p,aO];unfold FI at a;unfold Va Vb Vc Vd Ve Vf Vg Vh Vi afE afF afG afH afI afJ afK afL;rw[e];obtain q|⟨_,r,t,u,v,w⟩:=q
  .rw[a8 (show¬x.q>0 by omega),aB]at a;rw[q.1];exact⟨⟨a0,aL,rfl,rfl,q.2.1.symm,q.2.2.1.symm,q.2.2.2.1.symm,q.2.2.2.2.1.symm,q.2.2.2.2.2.1.symm,q.2.2.2.2.2.2.symm⟩,rfl,a⟩
  .rw[bm (show x.q>0 by omega),au]at a;have⟨f,d⟩:=n7 a Ω Ω;rw[<-iE (num x.aJ)]at d;have⟨g,i,j,k,m,o⟩:=aEO d Ω Ω Ω Ω Ω Ω;rw[show(x.q !=0)=true from bne_iff_ne.2 Ω];exact⟨⟨a0,aL,rfl,rfl,f,g,i,j,k,m⟩,rfl,o⟩
def ax4{x:ax}(h:se x){s:I Int}(m:s.B=n0 x):(NJ s=x.r/\NK s=x.K/\NL s=x.G/\NM s=x.q/\NN s=x.j/\NO s=x.m/\NP s=x.ak/\NQ s=x.aA/\NR s=x.i/\NS s=x.aJ)/\NT s=0:=by
 have⟨⟨a0,aL,aO,b,d,f,g,i,j,k⟩,a,cX,ct⟩:=ax5 h m;have n:=Xz h;have l:s.n<=120:=by rw[<-bj,m];omega
 have e:g2 (mu s false) (lV s false) (mv s false)=0:=by
  have z:(lV s false).n=0:=by rw[<-bj,ct];rfl
  unfold g2 UL;rw[a,cX,z];rfl
 have c:(fX (mq s false) (mr s false) (lN s false) (lO s false) (lP s false) (lQ s false) (lR s false) (lS s false) (lT s false) (lU s false))=0:=by
  rw[a0,aL,aO,b,d,f,g,i,j,k];exact h
 unfold NJ NK NL NM NN NO NP NQ NR NS NT;rw[a8 (show¬(s.n:Int)>20000 by omega),e,c];exact⟨⟨a0,aL,aO,b,d,f,g,i,j,k⟩,rfl⟩
section
variable {α:Type} [Inhabited α]
def B7{L:Nat->Int->I Int->Bool->I α->I Int×Bool×I α}{fv:I Int->Bool->I Int}{fw:I Int->Bool->Bool}{f:I Int->Bool->α}
  (g: ∀k v s b a,L (k+1) v s b a=bif(cond (decide (v>0)) (!b) false)then L k (i64 (v-1)) (fv s b) (fw s b) (I.app a (I.lit [f s b]))else(s,b,a))
  {enc:α->List Int} {R:α->α->Prop} : ∀(c:List α) (d:Nat) (s:I Int) (b:Bool) (a:I α) (l:List Int),c.length<d->c.length<=255->g0 s b (c.flatMap enc++l)->(∀x∈c,∀s b l,g0 s b (enc x++l)->R x (f s b)/\g0 (fv s b) (fw s b) l)->
   ∃e,bb R c e/\(L d (c.length:Int) s b a).2.2.B=a.B++e/\g0 (L d (c.length:Int) s b a).1 (L d (c.length:Int) s b a).2.1 l
 |[],d+1,s,b,a,l,_,_,h,_=>by
  rw[g,a8 (show¬((([]:List α).length:Int)>0) by rw[gx];omega)];exact⟨[],trivial,(iE _).symm,h⟩
 |x::c,d+1,s,b,a,l,o,p,h,j=>by
  rw[dE]at o p;rw[gO,e5]at h;have⟨r,k⟩:=j x (List.mem_cons_self ..) s b _ h;have m:=h.1;have⟨e,n,i,bo⟩:=B7 g c d (fv s b) (fw s b) (I.app a (I.lit [f s b])) l Ω Ω k λy q=>j y (List.mem_cons_of_mem _ q);rw[g,bm (by rw[dE];omega),au,m];rw[show i64 (((x::c).length:Int)-1)=(c.length:Int) by rw[dE,E _];omega];rw[m]at i bo r;refine⟨f s false::e,⟨r,n⟩,?_,bo⟩;show(L d _ _ _ _).2.2.B=_;rw[i,fH,fQ,e5];rfl
def EY{L:Nat->Int->I Int->I Int}{t:I α}{W:α->I Int->I Int}{enc:α->List Int}
  (b: ∀k v s,L (k+1) v s=bif decide (v<t.n)then L k (i64 (v+1)) (W (t.at' v.toNat) s)else s) (f:t.n<=549755813888) (d: ∀x∈t.B,∀s,(W x s).B=s.B++enc x):
  ∀(m i a:Nat) (s:I Int),i+m=t.n->m<a->(L a (i:Int) s).B=s.B++(t.B.drop i).flatMap enc
 |0,i,a+1,s,e,_=>by
  rw[b,a8 Ω,aB,List.drop_eq_nil_of_le (by rw[bj];omega)];simp
 |m+1,i,a+1,s,e,g=>by
  have c:i<t.B.length:=by rw[bj];omega
  have q:t.at' i=t.B[i]:=by
   have:=fP t (i:=i) Ω;rw[cG c]at this;exact(ij this).symm
  rw[b,bm Ω,au,E ((i:Int)+1),show toNat (i:Int)=i by omega,q,show(i:Int)+1=((i+1:Nat):Int) by omega];rw[EY b f d m (i+1) a _ Ω Ω,d _ (mb c),r8 c,gO,e5]
end
def AY(p:bD):List Int:=jm p.r++jm p.K
def Bb(p:bW):List Int:=jm p.r++num p.K
def lk{α:Type}(enc:α->List Int)(s:I α):List Int:=(s.n:Int)::s.B.flatMap enc
def EW(x:ah):List Int:=x.K::(jm x.G++(num x.q++(lk AY x.j++(lk jm x.m++lk Bb x.ak))))
def uo(x:ah):List Int:=jm x.r++(EW x++num x.aA)
def sn(x:ay):List Int:=num x.r++(num x.K++(num x.G++(x.q::(jm x.j++(num x.m++lk jm x.ak)))))
def n3(A:Int)(g:I ah)(u:Int)(o:I ay):List Int:=num A++(lk uo g++(num u++lk sn o))
def sg(x:Int):Prop:= -4611686018427387904<=x/\x<4611686018427387904
structure RP (x:ah):Prop where
 k:0<=x.K/\x.K<=255
 t:x.G.size<=255
 c:sg x.q
 p:x.j.n<=255/\ ∀y∈x.j.B,y.r.size<=255/\y.K.size<=255
 i:x.m.n<=255/\ ∀y∈x.m.B,y.size<=255
 s:x.ak.n<=255/\ ∀y∈x.ak.B,y.r.size<=255/\sg y.K
structure Ko (x:ah):Prop where
 k:x.r.size<=255
 v:RP x
 u:sg x.aA
structure Km (x:ay):Prop where
 a:sg x.r
 b:sg x.K
 c:sg x.G
 d:0<=x.q/\x.q<=255
 t:x.j.size<=255
 n:sg x.m
 l:x.ak.n<=255/\ ∀y∈x.ak.B,y.size<=255
structure RK (A:Int) (g:I ah) (u:Int) (o:I ay):Prop where
 a:sg A
 b:g.n<=255/\ ∀y∈g.B,Ko y
 c:sg u
 d:o.n<=255/\ ∀y∈o.B,Km y
structure Fa (x y:ah):Prop where
 a:x.r=y.r
 b:x.K=y.K
 c:x.G=y.G
 d:x.q=y.q
 e:x.j.B=y.j.B
 f:x.m.B=y.m.B
 g:x.ak.B=y.ak.B
 h:x.aA=y.aA
structure Kk (x y:ay):Prop where
 a:x.r=y.r
 b:x.K=y.K
 c:x.G=y.G
 d:x.q=y.q
 e:x.j=y.j
 f:x.m=y.m
 g:x.ak.B=y.ak.B
def KE{α:Type} : ∀{a b:List α},bb Eq a b->a=b
 |[],[],_=>rfl
 |_::_,_::_,h=>by rw[h.1,KE h.2]
section
variable {ab:I Int} {dg:Bool} {eC:List Int}
def akL{t:I z}(h:g0 ab dg (lk jm t++eC))(d:t.n<=255)(e: ∀y∈t.B,y.size<=255):(zl ab dg).B=t.B/\g0 (uK ab dg) (zm ab dg) eC:=by
 have⟨c,r⟩:=rU (c:=(t.n:Int)) h Ω;have⟨i,b,a,bo⟩:=B7 (L:=zj) (fv:=C2) (fw:=Mt) (f:=iN) (enc:=jm) (R:=Eq) (λ_ _ _ _ _=>rfl) t.B (toNat (cI ab dg)+1) (cc ab dg) (cp ab dg) B eC (by rw[bj,c];omega) (by rw[bj];exact d) r λx g ab dg eC k=>by
  have⟨p,q⟩:=tC k (e x g);exact⟨p.symm,q⟩
 rw[bj,<-c]at a bo;refine⟨?_,bo⟩;rw[KE b];exact a
def aEQ{t:I bD}(h:g0 ab dg (lk AY t++eC))(g:t.n<=255)(b: ∀y∈t.B,y.r.size<=255/\y.K.size<=255):(GK ab dg B).B=t.B/\g0 (sB ab dg B) (uI ab dg B) eC:=by
 have⟨c,r⟩:=rU (c:=(t.n:Int)) h Ω;have⟨l,e,a,bo⟩:=B7 (L:=zh) (fv:=CZ) (fw:=Mr) (f:=λab dg=>(⟨iN ab dg,iN (cH ab dg) (cU ab dg)⟩:bD)) (enc:=AY) (R:=Eq) (λ_ _ _ _ _=>rfl) t.B (toNat (cI ab dg)+1) (cc ab dg) (cp ab dg) B eC (by rw[bj,c];omega) (by rw[bj];exact g) r λx d ab dg eC k=>by
  unfold AY at k;rw[e5]at k;have⟨p,q⟩:=tC k (b x d).1;have⟨i,j⟩:=tC q (b x d).2;exact⟨by rw[p,i],j⟩
 rw[bj,<-c]at a bo;refine⟨?_,bo⟩;rw[KE e];exact a
def aER{t:I bW}(h:g0 ab dg (lk Bb t++eC))(g:t.n<=255)(a: ∀y∈t.B,y.r.size<=255/\sg y.K):(GN ab dg B).B=t.B/\g0 (GM ab dg B) (US ab dg B) eC:=by
 have⟨c,r⟩:=rU (c:=(t.n:Int)) h Ω;have⟨l,e,d,bo⟩:=B7 (L:=zi) (fv:=C0) (fw:=Ms) (f:=λab dg=>(⟨iN ab dg,c_ (cH ab dg) (cU ab dg)⟩:bW)) (enc:=Bb) (R:=Eq) (λ_ _ _ _ _=>rfl) t.B (toNat (cI ab dg)+1) (cc ab dg) (cp ab dg) B eC (by rw[bj,c];omega) (by rw[bj];exact g) r λx b ab dg eC k=>by
  unfold Bb at k;rw[e5]at k;have⟨p,q⟩:=tC k (a x b).1;have⟨i,j⟩:=n7 q (a x b).2.1 (a x b).2.2;exact⟨by rw[p,i],j⟩
 rw[bj,<-c]at d bo;refine⟨?_,bo⟩;rw[KE e];exact d
def rd_val{x:ah}(a:RP x)(h:g0 ab dg (EW x++eC)):(x.K=GU ab dg/\x.G=GV ab dg/\x.q=GX ab dg/\x.j.B=(CL ab dg).B/\x.m.B=(CM ab dg).B/\x.ak.B=(CN ab dg).B)/\g0 (uJ ab dg) (zk ab dg) eC:=by
 unfold EW at h;simp only[yu,e5]at h;have⟨a0,hD⟩:=rU h a.k;have⟨aL,cX⟩:=tC hD a.t;have⟨aO,ct⟩:=n7 cX a.c.1 a.c.2;have⟨b,e⟩:=aEQ ct a.p.1 a.p.2;have⟨c,f⟩:=akL e a.i.1 a.i.2;have⟨d,g⟩:=aER f a.s.1 a.s.2;exact⟨⟨a0.symm,aL.symm,aO.symm,b.symm,c.symm,d.symm⟩,g⟩
def aEP{t:I ah}(h:g0 ab dg (lk uo t++eC))(j:t.n<=255)(l: ∀y∈t.B,Ko y):bb Fa t.B (q7 ab dg B).B/\g0 (q6 ab dg B) (uH ab dg B) eC:=by
 have⟨c,r⟩:=rU (c:=(t.n:Int)) h Ω;have⟨s,i,b,bo⟩:=B7 (L:=zg) (fv:=CK) (fw:=Mc) (f:=λu o=>(⟨iN u o,GU (cH u o) (cU u o),GV (cH u o) (cU u o),GX (cH u o) (cU u o),CL (cH u o) (cU u o),CM (cH u o) (cU u o),CN (cH u o) (cU u o),c_ (uJ (cH u o) (cU u o)) (zk (cH u o) (cU u o))⟩:ah)) (enc:=uo) (R:=Fa) (λ_ _ _ _ _=>rfl) t.B (toNat (cI ab dg)+1) (cc ab dg) (cp ab dg) B eC (by rw[bj,c];omega) (by rw[bj];exact j) r λx a ab dg eC k=>by
  have a:=l x a;unfold uo at k;simp only[e5]at k;have⟨p,q⟩:=tC k a.k;have⟨⟨a0,aL,aO,d,e,g⟩,q1⟩:=rd_val a.v q;have⟨m,n⟩:=n7 q1 a.u.1 a.u.2;exact⟨⟨p.symm,a0,aL,aO,d,e,g,m.symm⟩,n⟩
 rw[bj,<-c]at b bo;exact⟨by rw[show(q7 ab dg B).B=s from b];exact i,bo⟩
def acU(ab:I Int)(dg:Bool):ay:=
 let d:=aP ab dg;let cw:=aQ ab dg;let e:=aP d cw;let a5:=aQ d cw;let f:=aP e a5;let a:=aQ e a5;let g:=cc f a;let b:=cp f a;let h:=cH g b;let c:=cU g b;let j:=aP h c;let i:=aQ h c
 ⟨c_ ab dg,c_ d cw,c_ e a5,cI f a,iN g b,c_ h c,zl j i⟩
def aEN{t:I ay}(h:g0 ab dg (lk sn t++eC))(l:t.n<=255)(m: ∀y∈t.B,Km y):bb Kk t.B (q8 ab dg B).B/\g0 (wV ab dg B) (wW ab dg B) eC:=by
 have⟨c,r⟩:=rU (c:=(t.n:Int)) h Ω;have⟨s,j,b,bo⟩:=B7 (L:=GJ) (fv:=CO) (fw:=Md) (f:=acU) (enc:=sn) (R:=Kk) (λ_ _ _ _ _=>rfl) t.B (toNat (cI ab dg)+1) (cc ab dg) (cp ab dg) B eC (by rw[bj,c];omega) (by rw[bj];exact l) r λx a ab dg eC k=>by
  have a:=m x a;unfold sn at k;simp only[e5,yu]at k;have⟨a0,hD⟩:=n7 k a.a.1 a.a.2;have⟨aL,cX⟩:=n7 hD a.b.1 a.b.2;have⟨aO,ct⟩:=n7 cX a.c.1 a.c.2;have⟨d,n⟩:=rU ct a.d;have⟨e,o⟩:=tC n a.t;have⟨g,p⟩:=n7 o a.n.1 a.n.2;have⟨i,q⟩:=akL p a.l.1 a.l.2;exact⟨⟨a0.symm,aL.symm,aO.symm,d.symm,e.symm,g.symm,i.symm⟩,q⟩
 rw[bj,<-c]at b bo;exact⟨by rw[show(q8 ab dg B).B=s from b];exact j,bo⟩
def aa9{t:I z}(c:t.n<=255)(a: ∀y∈t.B,y.size<=255)(ab:I Int):(kg t ab).B=ab.B++lk jm t:=by
 unfold kg UN;have w:=EY (L:=zf t) (t:=t) (W:=dd) (enc:=jm) (λ_ _ _=>rfl) Ω (λx b ab=>sb x ab (a x b)) t.n 0 ((toNat ((t.n:Int)-0))+1) (cP (t.n:Int) ab) Ω Ω;rw[show zf t ((toNat ((t.n:Int)-0))+1) 0 (cP (t.n:Int) ab)=zf t ((toNat ((t.n:Int)-0))+1) ((0:Nat):Int) (cP (t.n:Int) ab)from rfl,w,px _ _ Ω,e5];rfl
def amR{x:ah}(a:RP x)(ab:I Int):(pX x.K x.G x.q x.j x.m x.ak ab).B=ab.B++EW x:=by
 unfold pX GH sA;have c:=a.p.1;have d:=a.s.1;have e1:=EY (L:=ze x.j) (t:=x.j) (W:=λy ab=>dd y.K (dd y.r ab)) (enc:=AY) (λ_ _ _=>rfl) Ω (λy b ab=>by rw[sb _ _ (a.p.2 y b).2,sb _ _ (a.p.2 y b).1,e5];rfl) x.j.n 0 ((toNat ((x.j.n:Int)-0))+1) (cP (x.j.n:Int) (bw x.q (dd x.G (cP x.K ab)))) Ω Ω;have fq:=EY (L:=CI x.ak) (t:=x.ak) (W:=λy ab=>bw y.K (dd y.r ab)) (enc:=Bb) (λ_ _ _=>rfl) Ω (λy b ab=>by rw[kq,sb _ _ (a.s.2 y b).1,e5];rfl) x.ak.n 0 ((toNat ((x.ak.n:Int)-0))+1) (cP (x.ak.n:Int) (kg x.m (ze x.j ((toNat ((x.j.n:Int)-0))+1) ((0:Nat):Int) (cP (x.j.n:Int) (bw x.q (dd x.G (cP x.K ab))))))) Ω Ω;show(CI x.ak ((toNat ((x.ak.n:Int)-0))+1) ((0:Nat):Int) (cP (x.ak.n:Int) (kg x.m (ze x.j ((toNat ((x.j.n:Int)-0))+1) ((0:Nat):Int) (cP (x.j.n:Int) (bw x.q (dd x.G (cP x.K ab)))))))).B=_;rw[fq,px _ _ Ω,aa9 a.i.1 a.i.2,e1,px _ _ Ω,kq,sb _ _ a.t,px _ _ a.k];unfold EW lk;simp
def aB3{A:Int}{g:I ah}{u:Int}{o:I ay}(W:RK A g u o):(xD A g u o).B=n3 A g u o:=by
 unfold xD s5;have b:=W.b.1;have d:=W.d.1;have e1:=EY (L:=z6 g) (t:=g) (W:=λy ab=>bw y.aA (pX y.K y.G y.q y.j y.m y.ak (dd y.r ab))) (enc:=uo) (λ_ _ _=>rfl) Ω (λy a ab=>by rw[kq,amR (W.b.2 y a).v,sb _ _ (W.b.2 y a).k,e5,e5];rfl) g.n 0 ((toNat ((g.n:Int)-0))+1) (cP (g.n:Int) (bw A B)) Ω Ω;have fq:=EY (L:=DI o) (t:=o) (W:=λy ab=>kg y.ak (bw y.m (dd y.j (cP y.q (bw y.G (bw y.K (bw y.r ab))))))) (enc:=sn) (λ_ _ _=>rfl) Ω (λy a ab=>by
  have c:=W.d.2 y a;rw[aa9 c.l.1 c.l.2,kq,sb _ _ c.t,px _ _ c.d,kq,kq,kq];unfold sn;simp) o.n 0 ((toNat ((o.n:Int)-0))+1) (cP (o.n:Int) (bw u (z6 g ((toNat ((g.n:Int)-0))+1) ((0:Nat):Int) (cP (g.n:Int) (bw A B))))) Ω Ω
 show(DI o ((toNat ((o.n:Int)-0))+1) ((0:Nat):Int) (cP (o.n:Int) (bw u (z6 g ((toNat ((g.n:Int)-0))+1) ((0:Nat):Int) (cP (g.n:Int) (bw A B)))))).B=_;rw[fq,px _ _ Ω,kq,e1,px _ _ Ω,kq,yv];unfold n3 lk;simp
abbrev Ye(ab:I Int):=aP ab false
abbrev Yf(ab:I Int):=aQ ab false
abbrev dx(ab:I Int):=q7 (Ye ab) (Yf ab) (B:I ah)
abbrev ph(ab:I Int):=q6 (Ye ab) (Yf ab) (B:I ah)
abbrev n2(ab:I Int):=uH (Ye ab) (Yf ab) (B:I ah)
abbrev Yg(ab:I Int):=aP (ph ab) (n2 ab)
abbrev O8(ab:I Int):=aQ (ph ab) (n2 ab)
abbrev qq(ab:I Int):=q8 (Yg ab) (O8 ab) (B:I ay)
abbrev rO(ab:I Int):=wV (Yg ab) (O8 ab) (B:I ay)
abbrev tn(ab:I Int):=wW (Yg ab) (O8 ab) (B:I ay)
def au7(ab:I Int):NV ab=(bif decide ((ab.n:Int)>20000)then 1 else bif(g2 true (rO ab) (tn ab)!=0)then g2 true (rO ab) (tn ab)else bif(eK (c_ ab false) (dx ab) (c_ (ph ab) (n2 ab)) (qq ab)!=0)then eK (c_ ab false) (dx ab) (c_ (ph ab) (n2 ab)) (qq ab)else 0):=rfl
def aB2{A:Int}{g:I ah}{u:Int}{o:I ay}(W:RK A g u o){ab:I Int}(h:ab.B=n3 A g u o):c_ ab false=A/\bb Fa g.B (dx ab).B/\c_ (ph ab) (n2 ab)=u/\bb Kk o.B (qq ab).B/\g0 (rO ab) (tn ab) []:=by
 have r:g0 ab false (num A++(lk uo g++(num u++(lk sn o++[])))):=⟨rfl,by rw[iE];exact h⟩;have⟨a0,hD⟩:=n7 r W.a.1 W.a.2;have⟨aL,cX⟩:=aEP hD W.b.1 W.b.2;have⟨aO,ct⟩:=n7 cX W.c.1 W.c.2;have⟨a,b⟩:=aEN ct W.d.1 W.d.2;exact⟨a0,aL,aO,a,b⟩
end
section
variable {α:Type}
def ik(s t:I α):Prop:=s.n=t.n/\ ∀i,i<s.n->s.at' i=t.at' i
def ik.of{s t:I α}(h:s.B=t.B):ik s t:=by
 have b:s.n=t.n:=by rw[<-bj s,<-bj t,h]
 refine⟨b,λi a=> ?_⟩;have:=fP s a;rw[h,fP t Ω]at this;exact(ij this).symm
def ik.get{s t:I α}(h:ik s t){v:Int}(a:0<=v)(b:v<s.n):s.at' v.toNat=t.at' v.toNat:=h.2 _ Ω
def ik.part{s t:I α}(h:ik s t){v:Int}(b:v<=s.n):ik (I.part s 0 v) (I.part t 0 v):=⟨rfl,λi a=>h.2 _ (by
 have a:i<(v-0).toNat:=a;show(0:Int).toNat+i<s.n;omega)⟩
def ab_{R:α->α->Prop}{s t:I α}(h:bb R s.B t.B):s.n=t.n/\ ∀i,i<s.n->R (s.at' i) (t.at' i):=by
 have m: ∀(d c:List α),bb R d c->d.length=c.length/\ ∀(i:Nat) (x y:α),d[i]? =some x->c[i]? =some y->R x y:=by
  intro d
  induction d with
  |nil=>
   intro c h
   cases c with
   |nil=>exact⟨rfl,λi x y h=>by simp at h⟩
   |cons _ _=>exact h.elim
  |cons a d j=>
   intro c h
   cases c with
   |nil=>exact h.elim
   |cons b c=>
    have⟨l,k⟩:=j c h.2;refine⟨by rw[dE,dE,l],λi x y e f=> ?_⟩
    cases i with
    |zero=>
     simp only[List.getElem?_cons_zero,hI]at e f;rw[<-e,<-f];exact h.1
    |succ i=>
     simp only[List.getElem?_cons_succ]at e f;exact k i x y e f
 have⟨l,k⟩:=m _ _ h;rw[bj,bj]at l;exact⟨l,λi g=>k i _ _ (fP s g) (fP t Ω)⟩
end
def Ir{P Q:Int->Bool}{m:Nat}{i:Int}(h: ∀j,i<=j->j<i+m->P j=Q j):jY P m i=jY Q m i:=by
 rw[<-JH P (λ_=>(0:Int)),<-JH Q (λ_=>(0:Int)),EL m i h λ_ _ _=>rfl]
section
variable {hx iS:I z} {hC lo:I bD} {fi fV:I bW}
def aqR(e:ik hx iS)(a:hx.n<=549755813888):Gk hx=Gk iS:=by
 rw[RR hx a,RR iS (by rw[<-e.1];exact a),<-e.1];exact Ir λj b c=>by rw[e.get b Ω]
def aqS(e:ik hx iS)(a:hx.n<=549755813888):Gj hx=Gj iS:=by
 rw[RS hx a,RS iS (by rw[<-e.1];exact a),<-e.1];exact Ir λj b c=>by rw[e.get b Ω]
def aqT(e:ik hC lo)(a:hC.n<=549755813888):CG hC=CG lo:=by
 rw[KB hC a,KB lo (by rw[<-e.1];exact a),<-e.1];exact Ir λj b c=>by rw[e.get b Ω]
def aqU(e:ik fi fV)(a:fi.n<=549755813888):CH fi=CH fV:=by
 rw[RT fi a,RT fV (by rw[<-e.1];exact a),<-e.1];exact Ir λj b c=>by rw[e.get b Ω]
def aqV(e:ik fi fV)(a:fi.n<=549755813888):Gu fi=Gu fV:=by
 rw[RU fi a,RU fV (by rw[<-e.1];exact a),<-e.1];exact Ir λj b c=>by rw[e.get b Ω]
def aqW(e:ik hC lo)(a:hC.n<=549755813888):Gv hC=Gv lo:=by
 have k:Gx hC=Gx lo:=by
  unfold Gx;rw[EK (Gw hC) hC.n (λi=>decide (uF (hC.at' (toNat (i64 (i-1)))).r (hC.at' i.toNat).r>=0)) (λ_=>false) a (λ_ _=>rfl),EK (Gw lo) lo.n (λi=>decide (uF (lo.at' (toNat (i64 (i-1)))).r (lo.at' i.toNat).r>=0)) (λ_=>false) (by rw[<-e.1];exact a) (λ_ _=>rfl),<-e.1];refine EL _ _ (λj b c=> ?_) λ_ _ _=>rfl;rw[E (j-1),e.get (v:=j) Ω Ω,e.get (v:=j-1) Ω Ω]
 unfold Gv ae0;rw[k]
def aqX(e:ik fi fV)(a:fi.n<=549755813888):Gy fi=Gy fV:=by
 have k:GC fi=GC fV:=by
  unfold GC;rw[EK (Gz fi) fi.n (λi=>decide (uG (fi.at' (toNat (i64 (i-1)))).r (fi.at' (toNat (i64 (i-1)))).K (fi.at' i.toNat).r (fi.at' i.toNat).K>=0)) (λ_=>false) a (λ_ _=>rfl),EK (Gz fV) fV.n (λi=>decide (uG (fV.at' (toNat (i64 (i-1)))).r (fV.at' (toNat (i64 (i-1)))).K (fV.at' i.toNat).r (fV.at' i.toNat).K>=0)) (λ_=>false) (by rw[<-e.1];exact a) (λ_ _=>rfl),<-e.1];refine EL _ _ (λj b c=> ?_) λ_ _ _=>rfl;rw[E (j-1),e.get (v:=j) Ω Ω,e.get (v:=j-1) Ω Ω]
 unfold Gy ae1;rw[k]
def aqY(e:ik hx iS)(a:hx.n<=549755813888):GD hx=GD iS:=by
 have k:GG hx=GG iS:=by
  unfold GG;rw[EK (GF hx) hx.n (λi=>decide (wU (hx.at' (toNat (i64 (i-1)))) (hx.at' i.toNat)>=0)) (λ_=>false) a (λ_ _=>rfl),EK (GF iS) iS.n (λi=>decide (wU (iS.at' (toNat (i64 (i-1)))) (iS.at' i.toNat)>=0)) (λ_=>false) (by rw[<-e.1];exact a) (λ_ _=>rfl),<-e.1];refine EL _ _ (λj b c=> ?_) λ_ _ _=>rfl;rw[E (j-1),e.get (v:=j) Ω Ω,e.get (v:=j-1) Ω Ω]
 unfold GD ae2;rw[k]
def aqZ(e:ik fi fV)(a:fi.n<=549755813888)(c:z):kE fi c=kE fV c:=by
 have k:CV fi c=CV fV c:=by
  unfold CV;rw[ps (CU fi c) fi.n (λi=>zo (fi.at' i.toNat).r c) (λi=>i) a (λ_ _=>rfl),ps (CU fV c) fV.n (λi=>zo (fV.at' i.toNat).r c) (λi=>i) (by rw[<-e.1];exact a) (λ_ _=>rfl),<-e.1];refine EL _ _ (λj b d=> ?_) λ_ _ _=>rfl;rw[e.get b Ω]
 unfold kE Ml U3;rw[k]
def acF(e:ik fi fV)(f:fi.n<=549755813888): ∀(k:Nat) (b:Bool) (i:Int),0<=i->i<=fi.n->z5 fi k b i=z5 fV k b i
 |0,_,_,_,_=>rfl
 |k+1,b,i,a,d=>by
  rw[z5,z5,<-e.1]
  by_cases c:i<(fi.n:Int)
  .have m:NF fi b i=NF fV b i:=by
    unfold NF;rw[e.get a c,aqZ (e.part d) (by show(i-0).toNat<=_;omega)]
   rw[bm c,au,au,m,E (i+1)];exact acF e f k _ _ Ω Ω
  .rw[a8 c];rfl
def aq4(es:ik hx iS)(e:ik hC lo)(d:ik fi fV)(k:hx.n<=549755813888)(j:hC.n<=549755813888)(f:fi.n<=549755813888)(A:Int)(g:z)(u:Int):jE A g u hC hx fi=jE A g u lo iS fV:=by
 have i: ∀(a a':I bD) (b b':I z) (c h:I bW),a.n=a'.n->b.n=b'.n->c.n=h.n->k6 a b c=k6 a' b' h:=λa a' b b' c h l m n=>by unfold k6;rw[l,m,n]
 have q:nR A g u hC hx fi=nR A g u lo iS fV:=by
  unfold nR;rw[i (u7 A hC) (u7 A lo) (u9 A hx) (u9 A iS) (u_ A fi) (u_ A fV)]
  .unfold u7;cases A==1<;>cases A==2<;>cases A==3<;>first|exact e.1|rfl
  .unfold u9;cases A==1<;>cases A==2<;>cases A==3<;>cases A==6<;>first|exact es.1|rfl
  .unfold u_;cases A==1<;>cases A==2<;>cases A==3<;>cases A==6<;>first|exact d.1|rfl
 have r:qi A hC hx fi=qi A lo iS fV:=by unfold qi;rw[i hC lo hx iS fi fV e.1 es.1 d.1]
 have s:s0 g hx=s0 g iS:=by unfold s0;rw[aqR es k]
 have o:sZ u fi=sZ u fV:=by unfold sZ;rw[aqV d f]
 have p:ND A hC hx fi=ND A lo iS fV:=by unfold ND;rw[aqW e j,aqX d f,aqY es k]
 have t:NG A hC hx fi=NG A lo iS fV:=by unfold NG;rw[p,<-d.1];exact acF d f _ _ _ (bz _) Ω
 unfold jE;rw[q,r,s,o,t,aqT e j,aqU d f]
def aq3(e:ik hx iS)(a:hx.n<=549755813888)(A:Int)(g:z)(u:Int):sV A g u hx=sV A g u iS:=by
 unfold sV VW;rw[aqS e a,e.1]
end
def aq5{A:Int}{x y:I ah}(f:dY x)(h:bb Fa x.B y.B):iv A x=iv A y:=by
 have⟨n,e⟩:=ab_ h;have r: ∀v:Int,0<=v->v<x.n->nS x v=nS y v/\o7 A x v=o7 A y v:=by
  intro v d g;have a:=e v.toNat Ω;have⟨e1,fq,j⟩:=f.2 v.toNat Ω;have b:=f.1;unfold nS o7;rw[aq4 (ik.of a.f) (ik.of a.e) (ik.of a.g) fq e1 j,a.a,a.b,a.c,a.d,a.h];refine⟨?_,rfl⟩
  by_cases z:v>0
  .have a':=e (v-1).toNat Ω;rw[E (v-1),a'.a]
  .rw[a8 z];rfl
 have l: ∀(k:Nat) (v:Int),0<=v->v<=x.n->rz A x k v=rz A y k v:=by
  intro k
  induction k with
  |zero=>intro _ _ _;rfl
  |succ k i=>
   intro v d g;have b:=f.1;rw[rz,rz,<-n]
   by_cases c:v<(x.n:Int)
   .rw[(r v d c).1,(r v d c).2,E (v+1),i (v+1) Ω Ω]
   .rw[a8 c];rfl
 unfold iv NI H4 xC;rw[<-n,l _ _ (bz _) Ω]
def aq6{A u:Int}{g j:I ah}{o d:I ay}(p:dY g)(i:e6 o)(h:bb Fa g.B j.B)(m:bb Kk o.B d.B):eK A g u o=eK A j u d:=by
 have⟨n,e⟩:=ab_ m;have r: ∀v:Int,0<=v->v<o.n->vf u o v=vf u d v/\ve A o v=ve A d v:=by
  intro v f h;have a:=e v.toNat Ω;have w:=i.2 v.toNat Ω;have b:=i.1;unfold vf ve;rw[aq3 (ik.of a.g) w,a.a,a.b,a.c,a.d,a.e,a.f];refine⟨?_,rfl⟩
  by_cases z:v>0
  .have a':=e (v-1).toNat Ω;rw[E (v-1),a'.a]
  .rw[a8 z];rfl
 have l: ∀(k:Nat) (v:Int),0<=v->v<=o.n->vc A u o k v=vc A u d k v:=by
  intro k
  induction k with
  |zero=>intro _ _ _;rfl
  |succ k q=>
   intro v f h;have b:=i.1;rw[vc,vc,<-n]
   by_cases c:v<(o.n:Int)
   .rw[(r v f c).1,(r v f c).2,E (v+1),q (v+1) Ω Ω]
   .rw[a8 c];rfl
 unfold eK V4 NU vd;rw[<-n,l _ _ (bz _) Ω,aq5 p h]
def aGe{A:Int}{g:z}{u:Int}{e:I bD}{f:I z}{i:I bW}(b:e.n<=549755813888)(c:f.n<=549755813888)(d:i.n<=549755813888)(h:jE A g u e f i=0):(1<=A/\A<=6)/\e.n+f.n+i.n<=20:=by
 unfold jE at h;have⟨aL,h⟩:=dG h Δ;have⟨aO,h⟩:=dG h Δ;have⟨a,h⟩:=dG h Δ;unfold u6 at aL;have⟨cw,a5⟩:=c8 aL;have K:=dh cw;have G:=dh a5;refine⟨Ω,?_⟩
 by_cases j:A=1
 .subst j;unfold nR u7 u9 u_ at aO;simp only[r9,au]at aO;have⟨_,aO⟩:=c8 aO;have⟨_,aO⟩:=c8 aO;rw[ER _ _ _ b c d]at aO;have:=dh aO;omega
 .by_cases k:A=2
  .subst k;unfold nR u7 u9 u_ at aO;simp only[r9,Int.reduceBEq,au,aB]at aO;have⟨_,aO⟩:=c8 aO;have⟨_,aO⟩:=c8 aO;rw[ER _ _ _ b c d]at aO;have:=dh aO;omega
  .unfold qi at a;rw[bm (show A>=3 by omega)]at a;simp only[au]at a;have⟨_,a⟩:=c8 a;rw[ER _ _ _ b c d]at a;have:=dh a;omega
def atj{A:Int}{g:z}{u:Int}{b:I bD}{d:I z}{e:I bW}(f:b.n<=549755813888)(h:jE A g u b d e=0): ∀i,i<b.n->(b.at' i).r.size<=12:=by
 unfold jE at h;have⟨_,h⟩:=dG h Δ;have⟨_,h⟩:=dG h Δ;have⟨_,h⟩:=dG h Δ;have⟨_,h⟩:=dG h Δ;have⟨a,_⟩:=dG h Δ;intro i c;rw[KB _ Ω]at a;have:=tb a i c;simp only[gN,zd,Uy]at this;exact ale (c8 this).1
def Ed{α:Type}{s:I α}{x:α}(h:x∈s.B): ∃i,i<s.n/\s.at' i=x:=by
 have⟨i,a⟩:=l_ h;have b:i<s.n:=by rw[<-bj s];exact(hk.1 a).1
 rw[fP s b]at a;exact⟨i,b,ij a⟩
def aei{α:Type}{enc:α->List Int}{m:Nat} : ∀{l:List α},(∀x∈l,(enc x).length<=m)->(l.flatMap enc).length<=l.length*m
 |[],_=>cd _
 |x::l,h=>by
  rw[gO,db,dE,jK];have:=h x (List.mem_cons_self ..);have:=aei (l:=l) λy a=>h y (List.mem_cons_of_mem _ a);omega
def D4{α:Type}{enc:α->List Int}{m:Nat}{s:I α}(h: ∀x∈s.B,(enc x).length<=m):(lk enc s).length<=s.n*m+1:=by
 show(s.B.flatMap enc).length+1<=_;have:=aei h;rw[bj]at this;omega
def asH{x:ah}(w:x.j.n<=549755813888/\x.m.n<=549755813888/\x.ak.n<=549755813888)(h:Kn x)(g:jE x.K x.G x.q x.j x.m x.ak=0):Ko x/\(uo x).length<=742:=by
 obtain⟨k,⟨u,v,f,j,l⟩,r,t⟩:=h;have⟨n,q⟩:=aGe w.1 w.2.1 w.2.2 g;have c: ∀y∈x.j.B,y.r.size<=12/\y.K.size<=20:=λy a=>by obtain⟨i,b,rfl⟩:=Ed a;exact⟨atj w.1 g i b,(f i b).2⟩
 have d: ∀y∈x.m.B,y.size<=20:=λy a=>by obtain⟨i,b,rfl⟩:=Ed a;exact j i b
 have e: ∀y∈x.ak.B,y.r.size<=20/\ -1099511627776<=y.K/\y.K<=1099511627776:=λy a=>by obtain⟨i,b,rfl⟩:=Ed a;exact l i b
 refine⟨⟨Ω,⟨Ω,Ω,⟨Ω,Ω⟩,⟨Ω,λy a=> ?_⟩,⟨Ω,λy a=> ?_⟩,⟨Ω,λy a=> ?_⟩⟩,⟨Ω,Ω⟩⟩,?_⟩
 .have:=c y a;omega
 .have:=d y a;omega
 .have:=e y a;exact⟨Ω,Ω,Ω⟩
 .have iQ:=D4 (enc:=AY) (m:=34) (s:=x.j) λy a=>by
   have:=c y a;unfold AY;rw[db,x9,x9];omega
  have o:=D4 (enc:=jm) (m:=34) (s:=x.m) λy a=>by
   have:=d y a;rw[x9];omega
  have p:=D4 (enc:=Bb) (m:=34) (s:=x.ak) λy a=>by
   have:=e y a;unfold Bb;rw[db,x9,x8];omega
  unfold uo EW;simp only[db,dE,x9,x8];omega
def arw{x:ay}(h:RI x):Km x/\(sn x).length<=475:=by
 obtain⟨⟨a,b,c⟩,⟨d,t,n⟩,iQ,g⟩:=h;have p: ∀y∈x.ak.B,y.size<=20:=λy e=>by obtain⟨i,f,rfl⟩:=Ed e;exact g i f
 refine⟨⟨⟨Ω,Ω⟩,⟨Ω,Ω⟩,⟨Ω,Ω⟩,Ω,Ω,⟨Ω,Ω⟩,Ω,λy e=>by have:=p y e;omega⟩,?_⟩;have l:=D4 (enc:=jm) (m:=21) (s:=x.ak) λy e=>by
  have:=p y e;rw[x9];omega
 unfold sn;simp only[db,dE,x9,x8];omega
def ajm{A:Int}{g:I ah}{u:Int}{o:I ay}(l:dY g)(t:e6 o)(h:eK A g u o=0):RK A g u o/\(n3 A g u o).length<=10900:=by
 have⟨⟨a,b,c,d⟩,e,k⟩:=hO A g u o l t h;have r:iv A g=0:=by
  unfold eK at h;have⟨m,_⟩:=dG h Δ;unfold vd at m;exact bP (c8 m).1
 have q:=dm l r;have n: ∀y∈g.B,Ko y/\(uo y).length<=742:=λy f=>by obtain⟨i,j,rfl⟩:=Ed f;exact asH (l.2 i j) (e i j) (q.ok _ f)
 have p: ∀y∈o.B,Km y/\(sn y).length<=475:=λy f=>by obtain⟨i,j,rfl⟩:=Ed f;exact arw (k i j)
 refine⟨⟨⟨Ω,Ω⟩,⟨Ω,λy f=>(n y f).1⟩,⟨Ω,Ω⟩,⟨Ω,λy f=>(p y f).1⟩⟩,?_⟩;have iQ:=D4 (s:=g) λy f=>(n y f).2;have v:=D4 (s:=o) λy f=>(p y f).2;unfold n3;simp only[db,x8];omega
def aB1{A:Int}{g:I ah}{u:Int}{o:I ay}(f:dY g)(i:e6 o)(h:eK A g u o=0){s:I Int}(j:s.B=n3 A g u o):NV s=0/\eK (xE s) (rA s) (z7 s) (rB s)=0:=by
 have⟨W,n⟩:=ajm f i h;have⟨a,b,c,d,cX,ct⟩:=aB2 W j;have l:s.n<=10900:=by rw[<-bj,j];exact n
 have e:g2 true (rO s) (tn s)=0:=by
  have z:(rO s).n=0:=by rw[<-bj,ct];rfl
  unfold g2 UL;rw[cX,z];rfl
 have k:eK (c_ s false) (dx s) (c_ (ph s) (n2 s)) (qq s)=0:=by rw[a,c,<-aq6 f i b d];exact h
 have m:xE s=(bif decide ((s.n:Int)>20000)then 0 else bif(g2 true (rO s) (tn s)!=0)then 0 else bif(eK (c_ s false) (dx s) (c_ (ph s) (n2 s)) (qq s)!=0)then 0 else c_ s false):=rfl;have q1:rA s=(bif decide ((s.n:Int)>20000)then B else bif(g2 true (rO s) (tn s)!=0)then B else bif(eK (c_ s false) (dx s) (c_ (ph s) (n2 s)) (qq s)!=0)then B else dx s):=rfl;have p:z7 s=(bif decide ((s.n:Int)>20000)then 0 else bif(g2 true (rO s) (tn s)!=0)then 0 else bif(eK (c_ s false) (dx s) (c_ (ph s) (n2 s)) (qq s)!=0)then 0 else c_ (ph s) (n2 s)):=rfl;have q:rB s=(bif decide ((s.n:Int)>20000)then B else bif(g2 true (rO s) (tn s)!=0)then B else bif(eK (c_ s false) (dx s) (c_ (ph s) (n2 s)) (qq s)!=0)then B else qq s):=rfl;rw[m,q1,p,q,au7,e,k,a8 (show¬(s.n:Int)>20000 by omega)];exact⟨rfl,k⟩
def gl(n:Int):List Int:=[n/65536%256,n/256%256,n%256]
def E8(n:Int):(iO n).B=gl n:=by
 unfold iO;rw[fQ,IntKind.wrap_u8,IntKind.wrap_u8,IntKind.wrap_u8];rfl
def wC{s:I Int}{l:List Int}(h:s.B=l){i:Nat}{x:Int}(a:l[i]? =some x):s.at' i=x:=by
 have b:i<s.n:=by rw[<-bj s,h];exact(hk.1 a).1
 have:=fP s b;rw[h,a]at this;exact(ij this).symm
def EV{s:I Int}(a:aN s){v:Int}{l:List Int}(h:s.B=gl v++l)(b:0<=v/\v<16777216):e0 s=v:=by
 rw[adn s a,wC h (i:=0) rfl,wC h (i:=1) rfl,wC h (i:=2) rfl];omega
def wk{s:I Int}{a l:List Int}(h:s.B=a++l){n:Int}(c:n=(a.length:Int)):(I.part s n (s.n:Int)).B=l:=by
 have b:s.n=a.length+l.length:=by rw[<-bj,h,db]
 rw[sc _ _ _ Ω Ω Ω,h,show n.toNat=a.length by omega,List.drop_left,List.take_of_length_le Ω]
def mO(r:bB):Prop:=fJ r.r r.K r.G r.q r.j r.m r.ak r.aA r.i r.aJ r.b4 r.cb r.b0 r.cq r.bn r.c9 r.fc r.eH r.fe r.eI=0
structure jv (r:bB):Prop where
 c:mO r
 z:dY r.eH
 y:e6 r.eI
def lj(r:bB):ax:=⟨r.j,r.m,r.ak,r.aA,r.i,r.aJ,r.b4,r.cb,r.b0,r.cq⟩
def fM(r:bB):List Int:=bif r.r==1 then 1::(gl r.K++[r.G+1])else bif r.r==2 then 2::(gl r.q++n0 (lj r))else 3::(gl r.bn++(gl r.c9++n3 r.fc r.eH r.fe r.eI))
def i153{x:Int}(h:(!(pW x))=false):1<=x/\x<=1048576:=by
 unfold pW Ma at h
 by_cases a:x>=1
 .by_cases b:x<=1048576
  .omega
  .rw[bm a,a8 b]at h;cases h
 .rw[a8 a]at h;cases h
def f153{x:Int}(h:1<=x/\x<=1048576):(!(pW x))=false:=by
 unfold pW Ma;rw[bm h.1,bm h.2];rfl
def ED{r:bB}(h:mO r):(r.r=1/\(1<=r.K/\r.K<=1048576)/\ -1<=r.G/\r.G<3)\/(r.r=2/\(1<=r.q/\r.q<=1048576)/\se (lj r))\/(r.r=3/\(1<=r.bn/\r.bn<=1048576)/\(1<=r.c9/\r.c9<=1048576)/\eK r.fc r.eH r.fe r.eI=0):=by
 unfold mO fJ at h;have⟨aL,h⟩:=dG h Δ;have⟨aO,h⟩:=dG h Δ;unfold NW at aL;have⟨cw,a5⟩:=c8 aL;have:=dh cw;have:=dh a5
 by_cases b:r.r=1
 .rw[show(r.r==1)=true from gy.2 b,au]at h;have⟨m,_⟩:=dG h Δ;unfold z8 at m;have⟨d,a⟩:=c8 m;have⟨a,e⟩:=c8 a;have:=dh a;have:=dh e;exact .inl ⟨b,i153 d,Ω,Ω⟩
 rw[ew.2 b,aB]at h
 by_cases c:r.r=2
 .rw[show(r.r==2)=true from gy.2 c,au]at h;have⟨m,h⟩:=dG h Δ;exact .inr (.inl ⟨c,i153 m,h⟩)
 rw[ew.2 c,aB]at h;unfold nf at h;have⟨m,h⟩:=dG h Δ;unfold H_ at m;have⟨d,a⟩:=c8 m;exact .inr (.inr ⟨Ω,i153 d,i153 a,h⟩)
def Li{r:bB}(h:jv r):(kh r.r r.K r.G r.q r.j r.m r.ak r.aA r.i r.aJ r.b4 r.cb r.b0 r.cq r.bn r.c9 r.fc r.eH r.fe r.eI).B=fM r/\(5<=(fM r).length/\(fM r).length<=14000):=by
 unfold fM kh;rcases ED h.c with⟨k,a,b,c⟩|⟨k,a,b⟩|⟨k,a,b,c⟩
 .rw[k];refine⟨?_,(by decide:5<=5),(by decide:5<=14000)⟩;show(I.app (I.app (I.lit ([1]:List Int)) (iO r.K)) (I.lit ([u8 (i64 (r.G+1))]:List Int))).B=1::(gl r.K++[r.G+1]);rw[fH,fH,fQ,fQ,E8,E (r.G+1),IntKind.wrap_u8,show(r.G+1)%256=r.G+1 by omega];rfl
 .rw[k];have n:=Xz b;refine⟨?_,?_⟩
  .show(I.app (I.app (I.lit ([2]:List Int)) (iO r.q)) (rv r.j r.m r.ak r.aA r.i r.aJ r.b4 r.cb r.b0 r.cq)).B=2::(gl r.q++n0 (lj r));rw[fH,fH,fQ,E8,show(rv r.j r.m r.ak r.aA r.i r.aJ r.b4 r.cb r.b0 r.cq).B=n0 (lj r)from ax6 b];rfl
  .show 5<=(2::(gl r.q++n0 (lj r))).length/\(2::(gl r.q++n0 (lj r))).length<=14000;simp only[dE,db,gl,gx];omega
 .rw[k];obtain⟨W,n⟩:=ajm h.z h.y c;have e:jG r.fc r.eH r.fe r.eI=xD r.fc r.eH r.fe r.eI:=by unfold jG;rw[c];rfl
  have m:=aB3 W;have d:(jG r.fc r.eH r.fe r.eI).n<=10900:=by rw[e,<-bj,m];exact n
  refine⟨?_,?_⟩
  .show(uM (I.lit ([I.lit ([3]:List Int),iO r.bn,iO r.c9,jG r.fc r.eH r.fe r.eI]:List (I Int)))).B=3::(gl r.bn++(gl r.c9++n3 r.fc r.eH r.fe r.eI));rw[aa0 (by show 1<=1000000;decide) (by show 3<=1000000;decide) (by show 3<=1000000;decide) Ω,fQ,E8,E8,e,m];rfl
  .show 5<=(3::(gl r.bn++(gl r.c9++n3 r.fc r.eH r.fe r.eI))).length/\(3::(gl r.bn++(gl r.c9++n3 r.fc r.eH r.fe r.eI))).length<=14000;simp only[dE,db,gl,gx];omega
def dB(r:bB):List Int:=gl ((fM r).length:Int)++fM r
def dec(s:I Int):bB:=⟨LK s,LL s,LX s,LY s,LZ s,L0 s,L1 s,L2 s,L3 s,L4 s,LM s,LN s,LO s,LP s,LQ s,LR s,LS s,LU s,LV s,LW s⟩
def yB(r y:bB):Prop:=y.r=r.r/\(r.r=1->y.K=r.K/\y.G=r.G)/\(r.r=2->y.q=r.q/\lj y=lj r)/\(r.r=3->y.bn=r.bn/\y.c9=r.c9)
def aET{r:bB}(h:jv r){s:I Int}(xN:aN s)(f:s.B=fM r):Ct s=true/\yB r (dec s)/\mO (dec s):=by
 have p:s.n=(fM r).length:=by rw[<-bj,f]
 have U: ∀l h,aN (I.part s l h):=λl h=>mK xN;have V:iq s=true->Gc s=0->fJ (oT s) (oU s) (oV s) (oW s) (oX s) (oY s) (oF s) (oG s) (oH s) (oI s) (oJ s) (oK s) (oL s) (oM s) (oN s) (oO s) (oP s) (oQ s) (oR s) (oS s)=0->Ct s=true/\dec s=⟨oT s,oU s,oV s,oW s,oX s,oY s,oF s,oG s,oH s,oI s,oJ s,oK s,oL s,oM s,oN s,oO s,oP s,oQ s,oR s,oS s⟩:=by
  intro a b c;refine⟨?_,?_⟩
  .unfold Ct aeL;rw[a,b,c];rfl
  .unfold dec LK LL LX LY LZ L0 L1 L2 L3 L4 LM LN LO LP LQ LR LS LU LV LW;rw[a];rfl
 have fK:=(Li h).2;rcases ED h.c with⟨k,a,b,c⟩|⟨k,a,b⟩|⟨k,a,b,c⟩
 .have e:fM r=1::(gl r.K++[r.G+1]):=by unfold fM;rw[k];rfl
  rw[e]at f p;have d:e4 s=true:=by
   unfold e4;rw[wC f (i:=toNat 0) rfl,p];rfl
  have u:e0 (I.part s 1 (s.n:Int))=r.K:=EV (U _ _) (wk (a:=[1]) f rfl) Ω;have v2:i64 (i64 (s.at' (toNat 4))-1)=r.G:=by
   rw[wC f (i:=toNat 4) rfl,E (r.G+1),E _];omega
  have m:fJ 1 r.K r.G 0 0 0 false 0 0 0 ε ε ε 0 0 0 0 B 0 B=0:=by
   have W:z8 r.K r.G=false:=by
    unfold z8;rw[f153 a,a8 Ω,a8 Ω];rfl
   unfold fJ NY;rw[r9 ε.toList];show(cond (z8 r.K r.G) (2:Int) 0)=0;rw[W];rfl
  have j:oT s=1:=by unfold oT;rw[d];rfl
  have Jy:oU s=r.K:=by unfold oU;rw[d];exact u
  have Jz:oV s=r.G:=by unfold oV;rw[d];exact v2
  have v:oW s=0/\oX s=0/\oY s=0/\oF s=false/\oG s=0/\oH s=0/\oI s=0/\oJ s=ε/\oK s=ε/\oL s=ε/\oM s=0/\oN s=0/\oO s=0/\oP s=0/\oQ s=B/\oR s=0/\oS s=B:=by
   unfold oW oX oY oF oG oH oI oJ oK oL oM oN oO oP oQ oR oS;rw[d];exact⟨rfl,rfl,rfl,rfl,rfl,rfl,rfl,rfl,rfl,rfl,rfl,rfl,rfl,rfl,rfl,rfl,rfl⟩
  obtain⟨R,S,T,w,y,A,C,D,F,G,H,J,K,L,M,N,O⟩:=v;have⟨t,o⟩:=V (by unfold iq;rw[d];rfl) (by unfold Gc;rw[d];rfl) (by rw[j,Jy,Jz,R,S,T,w,y,A,C,D,F,G,H,J,K,L,M,N,O];exact m);refine⟨t,?_,?_⟩
  .rw[o];exact⟨by rw[k];exact j,λ_=>⟨Jy,Jz⟩,λx=>absurd (k.symm.trans x) Δ,λx=>absurd (k.symm.trans x) Δ⟩
  .rw[o];show fJ (oT s) (oU s) (oV s) (oW s) (oX s) (oY s) (oF s) (oG s) (oH s) (oI s) (oJ s) (oK s) (oL s) (oM s) (oN s) (oO s) (oP s) (oQ s) (oR s) (oS s)=0;rw[j,Jy,Jz,R,S,T,w,y,A,C,D,F,G,H,J,K,L,M,N,O];exact m
 .have e:fM r=2::(gl r.q++n0 (lj r)):=by unfold fM;rw[k];rfl
  have n:=Xz b;rw[e]at f p;have Iu:s.n=4+(n0 (lj r)).length:=by rw[p];simp only[dE,db,gl,gx];omega
  have d:e4 s=false:=by
   unfold e4;rw[ew.2 Ω];rfl
  have g:fW s=true:=by
   unfold fW;rw[wC f (i:=toNat 0) rfl,bm Ω];rfl
  have u:e0 (I.part s 1 (s.n:Int))=r.q:=EV (U _ _) (wk (a:=[2]) f rfl) Ω;have⟨⟨i0,i1,i2,i3,i4,i5,i6,i7,i8,i9⟩,i10⟩:=ax4 b (s:=I.part s 4 (s.n:Int)) (wk (a:=2::gl r.q) f rfl);have m:fJ 2 0 0 r.q r.j r.m r.ak r.aA r.i r.aJ r.b4 r.cb r.b0 r.cq 0 0 0 B 0 B=0:=by
   show(cond (!(pW r.q)) (2:Int) (fX r.j r.m r.ak r.aA r.i r.aJ r.b4 r.cb r.b0 r.cq))=0;rw[f153 a];exact b
  have j:oT s=2:=by unfold oT;rw[d,g];rfl
  have q:oW s=r.q/\oX s=r.j/\oY s=r.m/\oF s=r.ak/\oG s=r.aA/\oH s=r.i/\oI s=r.aJ/\oJ s=r.b4/\oK s=r.cb/\oL s=r.b0/\oM s=r.cq:=by
   unfold oW oX oY oF oG oH oI oJ oK oL oM;rw[d,g];exact⟨u,i0,i1,i2,i3,i4,i5,i6,i7,i8,i9⟩
  have v:oU s=0/\oV s=0/\oN s=0/\oO s=0/\oP s=0/\oQ s=B/\oR s=0/\oS s=B:=by
   unfold oU oV oN oO oP oQ oR oS;rw[d,g];exact⟨rfl,rfl,rfl,rfl,rfl,rfl,rfl,rfl⟩
  obtain⟨JA,JB,Zz,X,Y,Z,Zr,Zs,Zt,Zu,Zv⟩:=q;obtain⟨P,Q,J,K,L,M,N,O⟩:=v;have⟨t,o⟩:=V (by unfold iq;rw[d,g];rfl) (by unfold Gc;rw[d,g];exact i10) (by rw[j,P,Q,JA,JB,Zz,X,Y,Z,Zr,Zs,Zt,Zu,Zv,J,K,L,M,N,O];exact m);refine⟨t,?_,?_⟩
  .rw[o];refine⟨by rw[k];exact j,λx=>absurd (k.symm.trans x) Δ,λ_=>⟨JA,?_⟩,λx=>absurd (k.symm.trans x) Δ⟩;unfold lj;rw[JB,Zz,X,Y,Z,Zr,Zs,Zt,Zu,Zv]
  .rw[o];show fJ (oT s) (oU s) (oV s) (oW s) (oX s) (oY s) (oF s) (oG s) (oH s) (oI s) (oJ s) (oK s) (oL s) (oM s) (oN s) (oO s) (oP s) (oQ s) (oR s) (oS s)=0;rw[j,P,Q,JA,JB,Zz,X,Y,Z,Zr,Zs,Zt,Zu,Zv,J,K,L,M,N,O];exact m
 .have e:fM r=3::(gl r.bn++(gl r.c9++n3 r.fc r.eH r.fe r.eI)):=by unfold fM;rw[k];rfl
  rw[e]at f p;have aJe:18<=(n3 r.fc r.eH r.fe r.eI).length:=by
   unfold n3 lk;simp only[db,dE,x8];omega
  have Iu:s.n=7+(n3 r.fc r.eH r.fe r.eI).length:=by rw[p];simp only[dE,db,gl,gx];omega
  have d:e4 s=false:=by
   unfold e4;rw[ew.2 Ω];rfl
  have g:fW s=false:=by
   unfold fW;rw[wC f (i:=toNat 0) rfl,bm Ω];rfl
  have W:uB s=true:=by
   unfold uB;rw[wC f (i:=toNat 0) rfl,bm Ω];rfl
  have u:e0 (I.part s 1 (s.n:Int))=r.bn:=EV (U _ _) (wk (a:=[3]) f rfl) Ω;have v2:e0 (I.part s 4 (s.n:Int))=r.c9:=EV (U _ _) (wk (a:=3::gl r.bn) f rfl) Ω;have⟨d1,d2⟩:=aB1 h.z h.y c (s:=I.part s 7 (s.n:Int)) (wk (a:=3::(gl r.bn++gl r.c9)) (by rw[f];simp) rfl);have m:fJ 3 0 0 0 0 0 false 0 0 0 ε ε ε 0 r.bn r.c9 (xE (I.part s 7 (s.n:Int))) (rA (I.part s 7 (s.n:Int))) (z7 (I.part s 7 (s.n:Int))) (rB (I.part s 7 (s.n:Int)))=0:=by
   unfold fJ NY;rw[r9 ε.toList];show nf r.bn r.c9 _ _ _ _=0;unfold nf H_;rw[f153 a,f153 b];exact d2
  have j:oT s=3:=by unfold oT;rw[d,g];rfl
  have q:oN s=r.bn/\oO s=r.c9/\oP s=xE (I.part s 7 (s.n:Int))/\oQ s=rA (I.part s 7 (s.n:Int))/\oR s=z7 (I.part s 7 (s.n:Int))/\oS s=rB (I.part s 7 (s.n:Int)):=by
   unfold oN oO oP oQ oR oS;rw[d,g];exact⟨u,v2,rfl,rfl,rfl,rfl⟩
  have v:oU s=0/\oV s=0/\oW s=0/\oX s=0/\oY s=0/\oF s=false/\oG s=0/\oH s=0/\oI s=0/\oJ s=ε/\oK s=ε/\oL s=ε/\oM s=0:=by
   unfold oU oV oW oX oY oF oG oH oI oJ oK oL oM;rw[d,g];exact⟨rfl,rfl,rfl,rfl,rfl,rfl,rfl,rfl,rfl,rfl,rfl,rfl,rfl⟩
  obtain⟨Zw,Zx,akz,akA,akB,akC⟩:=q;obtain⟨P,Q,R,S,T,w,y,A,C,D,F,G,H⟩:=v;have⟨t,o⟩:=V (by unfold iq;rw[d,g,W];rfl) (by unfold Gc;rw[d,g];exact d1) (by rw[j,P,Q,R,S,T,w,y,A,C,D,F,G,H,Zw,Zx,akz,akA,akB,akC];exact m);refine⟨t,?_,?_⟩
  .rw[o];exact⟨by rw[k];exact j,λx=>absurd (k.symm.trans x) Δ,λx=>absurd (k.symm.trans x) Δ,λ_=>⟨Zw,Zx⟩⟩
  .rw[o];show fJ (oT s) (oU s) (oV s) (oW s) (oX s) (oY s) (oF s) (oG s) (oH s) (oI s) (oJ s) (oK s) (oL s) (oM s) (oN s) (oO s) (oP s) (oQ s) (oR s) (oS s)=0;rw[j,P,Q,R,S,T,w,y,A,C,D,F,G,H,Zw,Zx,akz,akA,akB,akC];exact m
def eU{α:Type}{P:α->Prop}{c:Bool}{a b:α}(d:P a)(e:P b):P (cond c a b):=by
 cases c
 .exact e
 .exact d
def aqA{α:Type}{P:α->Prop}{c:Bool}{a b:α}(d:c=true->P a)(e:c=false->P b):P (cond c a b):=by
 cases c
 .exact e rfl
 .exact d rfl
def jt(k:Nat)(e:ah):Prop:=e.j.n<=k/\e.m.n<=k/\e.ak.n<=k
def Ku(k:Nat)(e:ay):Prop:=e.ak.n<=k
section
variable {α:Type} [Inhabited α] {Pa:α->Prop} {ab:I α} {r0:α}
def ab9(h: ∀i,Pa (ab.at' i))(b:Pa r0)(a:Pa default): ∀i,Pa ((I.app ab (I.lit [r0])).at' i):=by
 intro i;show Pa (cond (Nat.blt i ab.n) (ab.at' i) (([r0]:List α).getD (i-ab.n) default));refine eU (h i) ?_
 match i-ab.n with
 |0=>exact b
 |_+1=>exact a
def pF(h: ∀i,Pa (ab.at' i))(a:Pa r0)(j:Nat): ∀i,Pa ((ab.cC j r0).at' i):=λi=>eU (h i|>λ_=>a) (h i)
def aqi(h: ∀i,Pa (ab.at' i))(a:Pa r0)(j:Nat): ∀i,Pa ((ab.ins j r0).at' i):=λi=>eU (h i) (eU a (h _))
def SQ(h: ∀i,Pa (ab.at' i))(j k:Nat): ∀i,Pa ((ab.del j k).at' i):=λi=>eU (h i) (h _)
def Fu{L:Nat->Int->I α->I α}{n:Nat}{f:Int->α}(e: ∀v a,L 0 v a=default)(d: ∀k v a,L (k+1) v a=bif decide (v<(n:Int))then L k (i64 (v+1)) (I.app a (I.lit [f v]))else a)(l:n<=549755813888)(b:Pa default)(h: ∀v:Int,0<=v->v<(n:Int)->Pa (f v)):
  ∀(k:Nat) (v:Int) (a:I α),0<=v->v<=(n:Int)->(∀i,Pa (a.at' i))->(∀i,Pa ((L k v a).at' i))/\(L k v a).n<=a.n+k
 |0,v,a,_,_,_=>by
  rw[e];exact⟨λ_=>b,cd _⟩
 |k+1,v,a,j,m,g=>by
  rw[d]
  by_cases c:v<(n:Int)
  .rw[bm c,au,E (v+1)];have⟨q1,o⟩:=Fu e d l b h k (v+1) _ Ω Ω (ab9 g (h v j c) b);refine⟨q1,?_⟩;have:(I.app a (I.lit [f v])).n=a.n+1:=rfl;omega
  .rw[a8 c];exact⟨g,r5 _ _⟩
end
def SR{L:Nat->Int->I z->I z}{n:Nat}{f:Int->z}(c: ∀v a,L 0 v a=default)(b: ∀k v a,L (k+1) v a=bif decide (v<(n:Int))then L k (i64 (v+1)) (I.app a (I.lit [f v]))else a)(d:n<=549755813888)(a:I z):(L (toNat ((n:Int)-0)+1) 0 a).n<=a.n+n+1:=by
 have k:=(Fu (Pa:=λ_=>True) c b d trivial (λ_ _ _=>trivial) (toNat ((n:Int)-0)+1) 0 a (bz _) Ω λ_=>trivial).2;omega
section
variable {A:Int} {g u o:z} {v now:Int} {ab:I ah} {fY:Nat}
def FY:jt fY default:=⟨cd _,cd _,cd _⟩
def bV{α:Type}{c:Bool}{a b:I α}{m:Nat}(d:a.n<=m)(e:b.n<=m):(cond c a b).n<=m:=eU (P:=λab:I α=>ab.n<=m) d e
def aHx{A:Int}{g:z}{u:Int}{o:I bD}{v:I z}{d:I bW}{y:Int}{F p x:z}{ao:Int}(r:o.n<=1048576)(k:v.n<=1048576)(q:d.n<=1048576):
  (Ul A g u o v d y F p x ao).n<=1048577/\(Um A g u o v d y F p x ao).n<=1048577/\(Un A g u o v d y F p x ao).n<=1048577/\(Uo A g u o v d y F p x ao).n<=4000000:=by
 have a: ∀{α:Type} [Inhabited α] {m:Nat},(B:I α).n<=m:=cd _;have h: ∀{α:Type} (ab:I α) (i j:Nat),(ab.del i j).n<=ab.n:=λab i j=>Nat.sub_le _ _;have c:o.n<=1048577:=by omega
 have b:v.n<=1048577:=by omega
 have e:d.n<=1048577:=by omega
 have n: ∀w,(C5 w d).n<=1048576:=λw=>bV (ec (h _ _ _) q) q;have s:(afW y v).n<=1048577:=by
  refine bV ?_ ?_
  .show(i64 ((v.n:Int)-1)-0).toNat<=_;rw[E _];omega
  .show((v.n:Int)-1).toNat<=_;omega
 refine⟨bV a (bV a (bV a (bV (bV c (bV a ?_)) c))),bV a (bV a (bV a (bV (bV b (bV a ?_)) b))),bV a (bV a (bV a (bV (bV e (bV a ?_)) e))),bV a (bV a (bV a (bV ?_ a)))⟩
 .exact bV a (bV c (bV c (bV c (bV c (bV (bV (bV (ec (h _ _ _) c) c) (bV c (bV c (bV (Nat.succ_le_succ r) c)))) c)))))
 .exact bV a (bV b (bV b (bV b (bV b (bV b (bV (bV s (bV b (bV (Nat.succ_le_succ k) (Nat.succ_le_succ k)))) (bV (bV (bV (ec (h _ _ _) b) b) (bV b (bV (Nat.succ_le_succ k) b))) b)))))))
 .exact bV a (bV e (bV e (bV e (bV e (bV e (bV e (bV e (bV e (bV e (bV e (bV (ec (n _) Δ) (Nat.succ_le_succ (n _)))))))))))))
 .refine bV a (bV a (bV (bV a a) (bV a (bV ?_ (bV (bV a (bV a (bV a (bV a (bV a a))))) (bV (bV a (bV a a)) (bV (bV a (bV a a)) (bV a (bV a (bV a a))))))))));have cX:(C4 o v).n<=v.n+o.n+1:=SR (L:=Mu o) (f:=λl=>(o.at' l.toNat).r) (λ_ _=>rfl) (λ_ _ _=>rfl) Ω v;have ct:(Vj o v d).n<=(C4 o v).n+d.n+1:=SR (L:=Mv d) (f:=λl=>(d.at' l.toNat).r) (λ_ _=>rfl) (λ_ _ _=>rfl) Ω _;omega
def aHw(e: ∀i,jt 1048576 (ab.at' i))(l:ab.n<=12):(∀i,jt 1048577 ((wR A g u o v now ab).at' i))/\(wR A g u o v now ab).n<=13/\(Uq A g u o v ab).n<=4000000:=by
 have h: ∀i,jt 1048577 (ab.at' i):=λi=>⟨qB (e i).1,qB (e i).2.1,qB (e i).2.2⟩;have z: ∀{α:Type} [Inhabited α] {m:Nat},(B:I α).n<=m:=cd _;have V:=aHx (A:=sx g ab) (g:=sy g ab) (u:=sz g ab) (o:=q2 g ab) (v:=q3 g ab) (d:=q4 g ab) (y:=A) (F:=g) (p:=u) (x:=o) (ao:=v) (bV (e _).1 z) (bV (e _).2.1 z) (bV (e _).2.2 z);have j: ∀a i f,∀t,jt 1048577 ((CD a i f ab).at' t):=λa i f=>eU (P:=λab:I ah=> ∀t,jt 1048577 (ab.at' t)) (aqi h ⟨z,z,z⟩ _) h;have bo:(aeQ ab).n<=0+ab.n+1:=SR (L:=L7 ab) (f:=λr=>(ab.at' r.toNat).r) (λ_ _=>rfl) (λ_ _ _=>rfl) Ω B;have Q: ∀{c:Bool} {a b:I ah},(∀t,jt 1048577 (a.at' t))->(∀t,jt 1048577 (b.at' t))-> ∀t,jt 1048577 ((cond c a b).at' t):=λ{c a b} n q=>eU (P:=λab:I ah=> ∀t,jt 1048577 (ab.at' t)) n q;refine⟨Q h (Q (Q h (SQ h _ _)) (Q (Q h (Q h (Q h (pF h ?_ _)))) (Q (Q h (Q (SQ h _ _) (Q (Q ?_ ?_) h))) h))),?_,bV Ω (bV z (bV z (bV V.2.2.2 z)))⟩
 .exact⟨(h _).1,(h _).2.1,(h _).2.2⟩
 .refine pF (pF (j _ _ _) ?_ _) ?_ _
  .exact⟨V.1,V.2.1,V.2.2.1⟩
  .exact⟨(pF (Pa:=jt 1048577) (j _ _ _) ⟨V.1,V.2.1,V.2.2.1⟩ _ _).1,(pF (Pa:=jt 1048577) (j _ _ _) ⟨V.1,V.2.1,V.2.2.1⟩ _ _).2.1,(pF (Pa:=jt 1048577) (j _ _ _) ⟨V.1,V.2.1,V.2.2.1⟩ _ _).2.2⟩
 .refine pF (j _ _ _) ?_ _;exact⟨V.1,V.2.1,V.2.2.1⟩
 .have k: ∀i,(Gi i ab).n<=13:=λi=>ec (Nat.sub_le _ _) (qB l);have e:ab.n<=13:=by omega
  have j: ∀fY i f,(CD fY i f ab).n<=13:=λfY i f=>bV (Nat.succ_le_succ l) e;exact bV e (bV (bV e (k _)) (bV (bV e (bV e (bV e e))) (bV (bV e (bV (k _) (bV (bV (j _ _ _) (j _ _ _)) e))) e)))
end
def QK{A:Int}{g:I ah}{u o:Int}{v d y:z}{F:Int}(p:dY g):dY (pS A g u o v d y F)/\(Cq A g u o v d y F).n<=4000000:=by
 have l:dY (B:I ah):=⟨cd _,λi r=>absurd r (dJ i)⟩
 by_cases j:iv A g=0
 .have c:=dm p j;have m:=c.n;have K: ∀i,jt 1048576 ((jz g).at' i):=(Fu (L:=Cu g) (f:=λe=>g.at' e.toNat) (λ_ _=>rfl) (λ_ _ _=>rfl) Ω FY (λe E H=>c.af _ (by
   simp only[I.B,oc,wg];exact⟨e.toNat,Ω,rfl⟩)) _ 0 B (bz _) Ω λ_=>FY).1
  have G: ∀t,(∀i,jt 1048576 ((mo t 0 false (jz g)).at' i))/\(mo t 0 false (jz g)).n<=12:=by
   intro t;refine⟨eU (P:=λs:I ah=> ∀i,jt 1048576 (s.at' i)) K λi=>eU (P:=jt 1048576) ?_ ⟨cd _,cd _,cd _⟩,ec (ajF t 0 false _ (by rw[I5 g Ω];omega)) (by rw[I5 g Ω];exact m)⟩;have D: ∀(k:Nat) (a b:Int) (s:I ah),(∀i,jt 1048576 (s.at' i))-> ∀i,jt 1048576 ((wQ t k a b s).2.at' i):=by
    intro k
    induction k with
    |zero=>intro a b s h i;exact FY
    |succ k C=>
     intro a b s h;rw[wQ]
     cases decide (b<s.n)with
     |false=>exact h
     |true=>exact C _ _ _ (eU (P:=λs:I ah=> ∀i,jt 1048576 (s.at' i)) (pF h (h _) _) h)
   exact D _ _ _ _ K i
  have q:=aHw (A:=o) (g:=v) (u:=d) (o:=y) (v:=F) (now:=imax (jT A) u) (G (imax (jT A) u)).1 (G _).2;generalize x:mo (imax (jT A) u) 0 false (jz g)=s at q;have n:=I5 (wR o v d y F (imax (jT A) u) s) Ω;have w: ∀i,jt 1048577 ((jz (wR o v d y F (imax (jT A) u) s)).at' i):=(Fu (Pa:=jt 1048577) (L:=Cu (wR o v d y F (imax (jT A) u) s)) (f:=λe=>(wR o v d y F (imax (jT A) u) s).at' e.toNat) (λ_ _=>rfl) (λ_ _ _=>rfl) Ω FY (λe _ _=>q.1 _) _ 0 B (bz _) Ω λ_=>FY).1;unfold pS Cq;rw[x];refine⟨eU (P:=dY) l (eU (P:=dY) l (eU (P:=dY) l ⟨Ω,λi _=> ?_⟩)),bV (cd _) (bV (cd _) (bV (cd _) q.2.2))⟩;have:=w i;exact⟨ec this.1 Δ,ec this.2.1 Δ,ec this.2.2 Δ⟩
 .have j:(iv A g !=0)=true:=bne_iff_ne.2 j;unfold pS Cq;rw[j];exact⟨l,cd _⟩
section
variable {A:Int} {g:I ah} {u:Int} {o:I ay} {v d y F:Int} {p x ao:z} {bR:Int}
def arS(b:dY g):dY (U5 A g u o v d y F p x ao bR):=by
 have z:dY (B:I ah):=⟨cd _,λi c=>absurd c (dJ i)⟩;have a:=(QK (A:=A) (u:=v) (o:=22) (v:=ε) (d:=ε) (y:=ε) (F:=0) b).1;exact eU (P:=dY) z (eU (P:=dY) z (eU (P:=dY) z (eU (P:=dY) a (eU (P:=dY) a (eU (P:=dY) a (eU (P:=dY) a (QK a).1))))))
def arR(j:dY g)(e:e6 o):e6 (U6 A g u o v d y F p x ao bR):=by
 have z:e6 (B:I ay):=⟨cd _,λi q=>absurd q (dJ i)⟩;refine aqA (P:=e6) (λ_=>z) λk=>eU (P:=e6) z (eU (P:=e6) z ?_);have C:o.n<=4:=(hO A g u o j e (bP k)).1.2.2.2;have t:(g3 o).n=o.n:=vB o e.1;have c: ∀i,Ku 549755813888 ((g3 o).at' i):=(Fu (L:=zn o) (n:=o.n) (λ_ _=>rfl) (λ_ _ _=>rfl) Ω (cd _) (λr w h=>e.2 r.toNat Ω) _ 0 B (bz _) Ω λ_=>cd _).1;have h:=(QK (A:=A) (u:=v) (o:=22) (v:=ε) (d:=ε) (y:=ε) (F:=0) j).1;have l:=(QK (A:=q0 A g v 22 ε ε ε 0) (u:=v) (o:=F) (v:=p) (d:=x) (y:=ao) (F:=bR) h).2;have G:e6 (g3 o):=⟨Ω,λi _=>c i⟩;have f: ∀m:I ay,m.n<=5->(∀i,Ku 549755813888 (m.at' i))->e6 m:=λm a b=>⟨Ω,λi _=>b i⟩;refine eU (P:=e6) (eU (P:=e6) G (f _ ?_ (ab9 ?_ (cd _) (cd _)))) (eU (P:=e6) G (eU (P:=e6) G (eU (P:=e6) G (f _ (by show(g3 o).n<=5;omega) (pF (pF (pF c ?_ _) ?_ _) ?_ _)))))
 .show(CX (g3 o)).n+1<=5;have:(CX (g3 o)).n<=4:=bV (ec (Nat.sub_le _ _) Ω) Ω;omega
 .exact eU (P:=λs:I ay=> ∀i,Ku 549755813888 (s.at' i)) (SQ c _ _) c
 .show((g3 o).at' _).ak.n<=_;exact c _
 .show((I.cC (g3 o) _ _).at' _).ak.n<=_;refine pF (Pa:=Ku 549755813888) c ?_ _ _;show((g3 o).at' _).ak.n<=_;exact c _
 .exact ec l (by decide:4000000<=549755813888)
end
