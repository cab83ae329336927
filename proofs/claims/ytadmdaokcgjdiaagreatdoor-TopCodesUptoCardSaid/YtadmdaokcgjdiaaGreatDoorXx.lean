import Derived.Test.YtadmdaokcgjdiaaGreatDoorXn
open Go.IntKind (i64 u64 u8)
open Int (toNat)
set_option maxRecDepth 100000
set_option maxHeartbeats 4000000
set_option linter.all false
noncomputable section
namespace Go.Proofs.YtadmdaokcgjdiaaGreatDoor
open Go Go.RowKit Go.af
def gv(s:G Int)(b:Bool)(l:List Int):Prop:=b=false/\s.B=l
def Ye{s:G Int}{b:Bool}{a l:List Int}(h:gv s b (a++l)){n:Int}(d:n=(a.length:Int)):(fF n s b).B=a/\gv (vq n s b) (Br n s b) l:=by
 obtain⟨rfl,h⟩:=h;have c:s.n=a.length+l.length:=by rw[<-bc,h,dq]
 have m:p0 n s false=false:=by unfold p0;rw[aX];exact bj Ω
 unfold fF vq Br;rw[m];simp only[aX];have t:n.toNat=a.length:=by omega
 refine⟨?_,rfl,?_⟩
 .rw[l0 _ _ _ Ω Ω Ω,h,show(n-0).toNat=a.length by omega];simp
 .rw[l0 _ _ _ Ω Ω Ω,h,t,List.drop_left,List.take_of_length_le Ω]
def num(x:Int):List Int:=[gp x 56,gp x 48,gp x 40,gp x 32,gp x 24,gp x 16,gp x 8,gp x 0]
def val(v:Int)(l:List Int):Int:=l.foldl (λv c=>v*256+c) v
def aBw(v b:Nat)(g:v<72057594037927936)(h:b<256):bits .or .u64 (u64 ((v:Int)*2^(toNat 8))) (u64 (b:Int))=((v*256+b:Nat):Int):=by
 have e:=Nat.shiftLeft_add_eq_or_of_lt (show b<2^8 by omega) v;rw[Nat.shiftLeft_eq]at e;have d:u64 ((v:Int)*2^(toNat 8))=((v*256:Nat):Int):=by
  rw[IntKind.wrap_u64];show((v:Int)*256)%18446744073709551616=_;omega
 have f:u64 (b:Int)=(b:Int):=by rw[IntKind.wrap_u64];omega
 rw[d,f];unfold bits;simp only[BitVec.toNat_or,BitVec.toNat_ofInt];have a:((((v*256:Nat):Int))%((2^u64.bits:Nat):Int)).toNat=v*256:=by
  show((((v*256:Nat):Int))%18446744073709551616).toNat=v*256;omega
 have c:((b:Int)%((2^u64.bits:Nat):Int)).toNat=b:=by
  show((b:Int)%18446744073709551616).toNat=b;omega
 rw[a,c,show v*256=v*2^8 by omega,<-e,IntKind.wrap_u64];omega
def aj0(v c:Int)(l:List Int):val v (c::l)=val (v*256+c) l:=rfl
def aiT{s:G Int}{b:Bool}{a:List Int}(h:(fF 8 s b).B=a)(f:a.length=8)(g: ∀c∈a,0<=c/\c<=255): ∀(m i d:Nat) (v:Nat),i+m=8->m<d->v<256^i->Bc s b d (v:Int) (i:Int)=val (v:Int) (a.drop i)
 |0,i,d+1,v,n,_,_=>by
  have l:(fF 8 s b).n=8:=by rw[<-bc,h,f]
  rw[Bc,bj Ω,aX,List.drop_eq_nil_of_le Ω];rfl
 |m+1,i,d+1,v,n,u,o=>by
  have l:(fF 8 s b).n=8:=by rw[<-bc,h,f]
  have e:i<a.length:=by omega
  have q:(fF 8 s b).at' (toNat (i:Int))=a[i]:=by
   have:=hz (fF 8 s b) (i:=i) Ω;rw[h,cM e]at this;exact(jM this).symm
  obtain⟨k,t⟩:=g a[i] (j8 e);obtain⟨c,j⟩:=wY k;have p:v<72057594037927936:=gR o (dP (Nat.pow_le_pow_right Δ (show i<=7 by omega)) Δ);rw[Bc,bM Ω,aR,q,j,aBw v c p Ω,E ((i:Int)+1)];have r:=aiT h f g m (i+1) d (v*256+c) Ω Ω (by rw[Nat.pow_succ];omega);rw[show((i:Int)+1)=((i+1:Nat):Int) by omega,r,qR e,aj0,j];rfl
def aim(x:Int)(a: -4611686018427387904<=x)(b:x<4611686018427387904)(k:Nat):gp x k=(x+4611686018427387904)/2^k%256:=by
 unfold gp;rw[E (x+4611686018427387904),IntKind.wrap_u64,IntKind.wrap_u8];rw[show(x+4611686018427387904)%18446744073709551616=x+4611686018427387904 by omega]
def aAX(x:Int)(b: -4611686018427387904<=x)(d:x<4611686018427387904): ∀c∈num x,0<=c/\c<=255:=by
 intro c a;have e:=aim x b d;unfold num at a;simp only[e,iI,zZ,or_false]at a;rcases a with rfl|rfl|rfl|rfl|rfl|rfl|rfl|rfl<;>omega
def aAY(x:Int)(a: -4611686018427387904<=x)(b:x<4611686018427387904):val 0 (num x)=x+4611686018427387904:=by
 have e:=aim x a b;unfold num;simp only[e,aj0];show _=_;generalize f:x+4611686018427387904=u;have c:0<=u:=by omega
 have d:u<9223372036854775808:=by omega
 simp only[val,List.foldl_nil];rw[show(2:Int)^56=72057594037927936 by decide,show(2:Int)^48=281474976710656 by decide,show(2:Int)^40=1099511627776 by decide,show(2:Int)^32=4294967296 by decide,show(2:Int)^24=16777216 by decide,show(2:Int)^16=65536 by decide,show(2:Int)^8=256 by decide,show(2:Int)^0=1 by decide];omega
def nh{s:G Int}{b:Bool}{l:List Int}{x:Int}(h:gv s b (num x++l))(a: -4611686018427387904<=x)(c:x<4611686018427387904):cW s b=x/\gv (aL s b) (aM s b) l:=by
 obtain⟨t,r⟩:=Ye h (n:=8) rfl;refine⟨?_,r⟩;have d:(fF 8 s b).n=8:=by rw[<-bc,t];rfl
 have v:=aiT t rfl (aAX x a c) 8 0 ((toNat (((fF 8 s b).n:Int)-0))+1) 0 rfl Ω Δ;have e:SU s b=x+4611686018427387904:=by
  unfold SU;rw[<-aAY x a c];exact v
 unfold cW;rw[e,IntKind.wrap_u64,IntKind.wrap_i64];omega
def qA{s:G Int}{b:Bool}{l:List Int}{c:Int}(h:gv s b (c::l))(e:0<=c/\c<=255):cD s b=c/\gv (cc s b) (cl s b) l:=by
 obtain⟨t,r⟩:=Ye (a:=[c]) h (n:=1) rfl;refine⟨?_,r⟩;have d:(fF 1 s b).n=1:=by rw[<-bc,t];rfl
 have q:(fF 1 s b).at' 0=c:=by
  have:=hz (fF 1 s b) (i:=0) Ω;rw[t]at this;exact(jM this).symm
 unfold cD;rw[d,show toNat 0=0 from rfl,q,bM Δ,aR,E _]
def iG(x:u):List Int:=(x.size:Int)::(G.ofStr x).B
def aDR(x:u):OH (G.ofStr x).B=x:=by
 have e:((G.ofStr x).B.map λz=>UInt8.ofNat z.toNat)=x.data.toList:=by
  apply w0;intro i;rw[g_]
  by_cases h:i<x.size
  .rw[hz _ (show i<(G.ofStr x).n from h)];have a:i<x.data.toList.length:=by rw[Array.length_toList];exact h
   show some (UInt8.ofNat (toNat ((x.data.toList.getD i 0).toNat:Int)))=_;rw[DD,cM a];simp
  .rw[eX (by rw[bc];exact Nat.le_of_not_lt h),eX (by rw[Array.length_toList];exact Nat.le_of_not_lt h)];rfl
 unfold OH;rw[e]
def sf{s:G Int}{b:Bool}{l:List Int}{x:u}(h:gv s b (iG x++l))(d:x.size<=255):h8 s b=x/\gv (cC s b) (cN s b) l:=by
 obtain⟨e,r⟩:=qA (c:=(x.size:Int)) h Ω;have k:=Ye (a:=(G.ofStr x).B) r (n:=cD s b) (by rw[e,bc];rfl);refine⟨?_,k.2⟩;unfold h8;rw[aEf,k.1,aDR]
def oD(x:Int)(s:G Int)(h:0<=x/\x<=255):(cH x s).B=s.B++[x]:=by
 unfold cH;rw[iL,iq,IntKind.wrap_u8,show x%256=x by omega]
def qT(x:u)(s:G Int)(h:x.size<=255):(c7 x s).B=s.B++iG x:=by
 unfold c7;rw[iL,oD _ _ Ω,fk];rfl
def jO(x:Int)(s:G Int):(bu x s).B=s.B++num x:=Ze x s
def aCK{s:G Int}{b:Bool}{l:List Int}{k n:Int}{g r h:u}(i:gv s b (k::(iG g++(iG r++(iG h++(num n++l))))))(p:0<=k/\k<=255)(j:g.size<=255)(m:r.size<=255)(o:h.size<=255)(q: -4611686018427387904<=n)(t:n<4611686018427387904):
  Tv s b=k/\Tw s b=g/\Tx s b=r/\Ty s b=h/\Tz s b=n/\gv (TA s b) (TB s b) l:=by
 obtain⟨a,v⟩:=qA i p;obtain⟨c,w⟩:=sf v j;obtain⟨d,x⟩:=sf w m;obtain⟨e,y⟩:=sf x o;obtain⟨f,z⟩:=nh y q t;exact⟨a,c,d,e,f,z⟩
def Ea(x:R):List Int:=bif decide (x.M>0)then num x.w++(x.C::(iG x.P++(iG x.aw++(iG x.f++num x.aD))))else[]
def mn(x:R):List Int:=num x.q++(num x.F++(cond x.z [1] (0::(num x.M++Ea x))))
def mG(x:R):Prop:=fc x.q x.F x.z x.M x.w x.C x.P x.aw x.f x.aD=0
def Ra{x:u}(h:(x.toList==(⟨#[]⟩:u).toList)=true):x=⟨#[]⟩:=by
 have z:=An (eq_of_beq h)
 cases x with
 |mk d=>
  have:d= #[]:=Array.eq_empty_of_size_eq_zero z;rw[this]
def akg{A g r:Int}{h o c:u}{v:Int}(i:((A==0)&&((g==0)&&((r==0)&&((h.toList==(⟨#[]⟩:u).toList)&&((o.toList==(⟨#[]⟩:u).toList)&&((c.toList==(⟨#[]⟩:u).toList)&&((v==0)&&true)))))))=true):A=0/\g=0/\r=0/\h=⟨#[]⟩/\o=⟨#[]⟩/\c=⟨#[]⟩/\v=0:=by
 simp only[b4]at i;obtain⟨a,b,j,d,e,f,k,_⟩:=i;exact⟨eq_of_beq a,eq_of_beq b,eq_of_beq j,Ra d,Ra e,Ra f,eq_of_beq k⟩
def ayp{A:Int}{g r h:u}{o:Int}(b:fw A g r h o=0):1<=A/\A<=22:=by
 unfold fw at b
 cases m:yB A with
 |true=>rw[m]at b;cases b
 |false=>
  unfold yB at m
  by_cases a:A<1
  .rw[bM a]at m;cases m
  by_cases c:A>22
  .rw[bj a,bM c]at m;cases m
  omega
def aCx{A g r:Int}{h o c:u}{v:Int}(b:g3 A g r h o c v=0):(A=0/\g=0/\r=0/\h=⟨#[]⟩/\o=⟨#[]⟩/\c=⟨#[]⟩/\v=0)\/((1<=A/\A<=1048576)/\(1<=g/\g<=1048576)/\(1<=r/\r<=22)/\(h.size<=20/\o.size<=20/\c.size<=20)/\ -1099511627776<=v/\v<=1099511627776):=by
 have d:=Yq b;have t:=t49 _ _ _ _ _ _ _ b;unfold g3 at b
 by_cases a:A=0
 .left;rw[show(A==0)=true from iK.2 a]at b;simp only[aR]at b
  cases e:((A==0)&&((g==0)&&((r==0)&&((h.toList==(⟨#[]⟩:u).toList)&&((o.toList==(⟨#[]⟩:u).toList)&&((c.toList==(⟨#[]⟩:u).toList)&&((v==0)&&true)))))))with
  |true=>exact akg e
  |false=>
   rw[show(A==0)=true from iK.2 a]at e;rw[e]at b
   cases b
 .right;obtain t|t:=t
  .exact absurd t a
  rw[fl.2 a]at b;simp only[aX]at b
  cases m:Gy A g with
  |true=>rw[m]at b;cases b
  |false=>
   rw[m]at b;exact⟨t.1,t.2.1,ayp b,d,t.2.2⟩
def zB{x:R}(h:mG x):((1<=x.q/\x.q<=1048576)/\0<=x.F/\x.F<=1073741824)/\((x.M=0/\x.w=0/\x.C=0/\x.P=⟨#[]⟩/\x.aw=⟨#[]⟩/\x.f=⟨#[]⟩/\x.aD=0)\/(x.z=false/\(1<=x.M/\x.M<=1048576)/\(1<=x.w/\x.w<=1048576)/\(1<=x.C/\x.C<=22)/\(x.P.size<=20/\x.aw.size<=20/\x.f.size<=20)/\ -1099511627776<=x.aD/\x.aD<=1099511627776)):=by
 have t:=t51 _ _ _ _ _ _ _ _ _ _ h;refine⟨t.1,?_⟩
 cases a:x.z with
 |false=>
  have q:=aCx (t.2 a);rcases q with q|q
  .exact .inl q
  .exact .inr ⟨rfl,q⟩
 |true=>
  left;unfold mG fc at h
  cases m:yF x.q x.F with
  |true=>rw[m]at h;cases h
  |false=>
   rw[m,a]at h;simp only[aX,aR]at h
   cases e:((x.M==0)&&((x.w==0)&&((x.C==0)&&((x.P.toList==(⟨#[]⟩:u).toList)&&((x.aw.toList==(⟨#[]⟩:u).toList)&&((x.f.toList==(⟨#[]⟩:u).toList)&&((x.aD==0)&&true)))))))with
   |true=>exact akg e
   |false=>rw[e]at h;cases h
def avT{x:R}(h:mG x):(qd x.q x.F x.z x.M x.w x.C x.P x.aw x.f x.aD).B=mn x:=by
 obtain⟨⟨a,b⟩,q⟩:=zB h;have e:(fc x.q x.F x.z x.M x.w x.C x.P x.aw x.f x.aD !=0)=false:=by rw[show fc x.q x.F x.z x.M x.w x.C x.P x.aw x.f x.aD=0 from h];rfl
 unfold qd EX Fp mn Ea;rw[e,aX]
 cases c:x.z with
 |true=>simp only[aR];rw[oD _ _ Δ,jO,jO,w2];simp
 |false=>
  simp only[aX]
  cases bk:decide (x.M>0)with
  |false=>simp only[aX];rw[jO,oD _ _ Δ,jO,jO,w2];simp
  |true=>
   have:=an bk;rcases q with q|⟨_,d,f,g,i,j⟩
   .omega
   simp only[aR];unfold Fz;rw[jO,qT _ _ Ω,qT _ _ Ω,qT _ _ Ω,oD _ _ Ω,jO,jO,oD _ _ Δ,jO,jO,w2];simp
def wD(x:Int):(num x).length=8:=rfl
def wE(x:u):(iG x).length=x.size+1:=by
 show((G.ofStr x).B).length+1=_;rw[bc];rfl
def M8{x:R}(h:mG x):(mn x).length<=120/\17<=(mn x).length:=by
 obtain⟨_,q⟩:=zB h;unfold mn Ea
 cases x.z with
 |true=>simp only[aR,dq,wD,dy,fs];omega
 |false=>
  cases bk:decide (x.M>0)with
  |false=>simp only[aX,dq,wD,dy,fs];omega
  |true=>
   have:=an bk;rcases q with q|⟨_,a,b,c,d,e⟩
   .omega
   simp only[aX,aR,dq,wD,wE,dy];omega
def avS{x:R}(h:mG x){s:G Int}(u:s.B=mn x):(lE s false=x.q/\lF s false=x.F/\kT s false=x.z/\kU s false=x.M/\kV s false=x.w/\kW s false=x.C/\kX s false=x.P/\kY s false=x.aw/\kZ s false=x.f/\k0 s false=x.aD)/\lG s false=true/\gv (k1 s false) (lH s false) []:=by
 obtain⟨⟨z,A⟩,q⟩:=zB h;have v:gv s false (num x.q++(num x.F++(cond x.z [1] (0::(num x.M++Ea x))))):=⟨rfl,u⟩;obtain⟨d,w⟩:=nh v Ω Ω;obtain⟨e,c⟩:=nh w Ω Ω;unfold kT kU kV kW kX kY kZ k0 lG k1 lH
 cases f:x.z with
 |true=>
  rw[f,aR]at c;obtain⟨a,g⟩:=qA (l:=[]) c Δ;obtain q|⟨q,_⟩:=q
  .have p:ma s false=true:=by unfold ma;rw[a];rfl
   unfold SJ SK SL SM SN SO SP SH SG SI;rw[p,a];exact⟨⟨d,e,rfl,q.1.symm,q.2.1.symm,q.2.2.1.symm,q.2.2.2.1.symm,q.2.2.2.2.1.symm,q.2.2.2.2.2.1.symm,q.2.2.2.2.2.2.symm⟩,rfl,g⟩
  .rw[f]at q;cases q
 |false=>
  rw[f,aX]at c;obtain⟨a,g⟩:=qA c Δ;have p:ma s false=true:=by unfold ma;rw[a];rfl
  obtain⟨j,b⟩:=nh g Ω Ω;unfold SJ SK SL SM SN SO SP SH SG SI;rw[p,a];unfold Ea at b;unfold Tk Tm Tn To Tp Tq Tr Ts Tt adt adu adv adw adx ady adz adA;rw[j];obtain q|⟨_,B,C,D,E,F⟩:=q
  .rw[bj (show¬x.M>0 by omega),aX]at b;rw[q.1];exact⟨⟨d,e,rfl,rfl,q.2.1.symm,q.2.2.1.symm,q.2.2.2.1.symm,q.2.2.2.2.1.symm,q.2.2.2.2.2.1.symm,q.2.2.2.2.2.2.symm⟩,rfl,b⟩
  .rw[bM (show x.M>0 by omega),aR]at b;obtain⟨k,i⟩:=nh b Ω Ω;rw[<-im (num x.aD)]at i;obtain⟨m,n,o,r,t,y⟩:=aCK i Ω Ω Ω Ω Ω Ω;rw[show(x.M !=0)=true from bne_iff_ne.2 Ω];exact⟨⟨d,e,rfl,rfl,k,m,n,o,r,t⟩,rfl,y⟩
def avR{x:R}(h:mG x){s:G Int}(q:s.B=mn x):(L5 s=x.q/\L6 s=x.F/\L7 s=x.z/\L8 s=x.M/\L9 s=x.w/\L_ s=x.C/\Ma s=x.P/\Mb s=x.aw/\Mc s=x.f/\Md s=x.aD)/\Me s=0:=by
 obtain⟨⟨b,d,f,g,i,j,k,m,o,p⟩,a,r,t⟩:=avS h q;have n:=M8 h;have l:s.n<=120:=by rw[<-bc,q];omega
 have e:gm (lG s false) (k1 s false) (lH s false)=0:=by
  have z:(k1 s false).n=0:=by rw[<-bc,t];rfl
  unfold gm SQ;rw[a,r,z];rfl
 have c:(fc (lE s false) (lF s false) (kT s false) (kU s false) (kV s false) (kW s false) (kX s false) (kY s false) (kZ s false) (k0 s false))=0:=by
  rw[b,d,f,g,i,j,k,m,o,p];exact h
 unfold L5 L6 L7 L8 L9 L_ Ma Mb Mc Md Me;rw[bj (show¬(s.n:Int)>20000 by omega),e,c];exact⟨⟨b,d,f,g,i,j,k,m,o,p⟩,rfl⟩
section
variable {α:Type} [Inhabited α]
def AJ{L:Nat->Int->G Int->Bool->G α->G Int×Bool×G α}{fq:G Int->Bool->G Int}{e5:G Int->Bool->Bool}{f:G Int->Bool->α}
  (g: ∀k v s b a,L (k+1) v s b a=bif(cond (decide (v>0)) (!b) false)then L k (i64 (v-1)) (fq s b) (e5 s b) (G.app a (G.lit [f s b]))else(s,b,a))
  {enc:α->List Int} {R:α->α->Prop} : ∀(c:List α) (d:Nat) (s:G Int) (b:Bool) (a:G α) (l:List Int),c.length<d->c.length<=255->gv s b (c.flatMap enc++l)->(∀x∈c,∀s b l,gv s b (enc x++l)->R x (f s b)/\gv (fq s b) (e5 s b) l)->
   ∃e,a6 R c e/\(L d (c.length:Int) s b a).2.2.B=a.B++e/\gv (L d (c.length:Int) s b a).1 (L d (c.length:Int) s b a).2.1 l
 |[],d+1,s,b,a,l,_,_,h,_=>by
  rw[g,bj (show¬((([]:List α).length:Int)>0) by rw[fs];omega)];exact⟨[],trivial,(im _).symm,h⟩
 |x::c,d+1,s,b,a,l,o,p,h,j=>by
  rw[dy]at o p;rw[g0,fk]at h;obtain⟨r,k⟩:=j x (List.mem_cons_self ..) s b _ h;have m:=h.1;obtain⟨e,n,i,bk⟩:=AJ g c d (fq s b) (e5 s b) (G.app a (G.lit [f s b])) l Ω Ω k λy q=>j y (List.mem_cons_of_mem _ q);rw[g,bM (by rw[dy];omega),aR,m];rw[show i64 (((x::c).length:Int)-1)=(c.length:Int) by rw[dy,E _];omega];rw[m]at i bk r;refine⟨f s false::e,⟨r,n⟩,?_,bk⟩;show(L d _ _ _ _).2.2.B=_;rw[i,iL,iq,fk];rfl
def Du{L:Nat->Int->G Int->G Int}{t:G α}{W:α->G Int->G Int}{enc:α->List Int}
  (b: ∀k v s,L (k+1) v s=bif decide (v<(t.n:Int))then L k (i64 (v+1)) (W (t.at' (toNat v)) s)else s) (f:t.n<=549755813888) (d: ∀x∈t.B,∀s,(W x s).B=s.B++enc x):
  ∀(m i a:Nat) (s:G Int),i+m=t.n->m<a->(L a (i:Int) s).B=s.B++(t.B.drop i).flatMap enc
 |0,i,a+1,s,e,_=>by
  rw[b,bj Ω,aX,List.drop_eq_nil_of_le (by rw[bc];omega)];simp
 |m+1,i,a+1,s,e,g=>by
  have c:i<t.B.length:=by rw[bc];omega
  have q:t.at' i=t.B[i]:=by
   have:=hz t (i:=i) Ω;rw[cM c]at this;exact(jM this).symm
  rw[b,bM Ω,aR,E ((i:Int)+1),show toNat (i:Int)=i by omega,q,show(i:Int)+1=((i+1:Nat):Int) by omega];rw[Du b f d m (i+1) a _ Ω Ω,d _ (j8 c),qR c,g0,fk]
end
def zy(p:bt):List Int:=iG p.q++iG p.F
def zJ(p:bG):List Int:=iG p.q++num p.F
def kz{α:Type}(enc:α->List Int)(s:G α):List Int:=(s.n:Int)::s.B.flatMap enc
def Dq(x:N):List Int:=x.F::(iG x.z++(num x.M++(kz zy x.w++(kz iG x.C++kz zJ x.P))))
def sS(x:N):List Int:=iG x.q++(Dq x++num x.aw)
def q6(x:ar):List Int:=num x.q++(num x.F++(num x.z++(x.M::(iG x.w++(num x.C++kz iG x.P)))))
def mu(A:Int)(g:G N)(r:Int)(h:G ar):List Int:=num A++(kz sS g++(num r++kz q6 h))
def qX(x:Int):Prop:= -4611686018427387904<=x/\x<4611686018427387904
structure P9 (x:N):Prop where
 k:0<=x.F/\x.F<=255
 t:x.z.size<=255
 c:qX x.M
 p:x.w.n<=255/\ ∀y∈x.w.B,y.q.size<=255/\y.F.size<=255
 i:x.C.n<=255/\ ∀y∈x.C.B,y.size<=255
 s:x.P.n<=255/\ ∀y∈x.P.B,y.q.size<=255/\qX y.F
structure IY (x:N):Prop where
 k:x.q.size<=255
 v:P9 x
 u:qX x.aw
structure IW (x:ar):Prop where
 a:qX x.q
 b:qX x.F
 c:qX x.z
 d:0<=x.M/\x.M<=255
 t:x.w.size<=255
 n:qX x.C
 l:x.P.n<=255/\ ∀y∈x.P.B,y.size<=255
structure P6 (A:Int) (g:G N) (r:Int) (h:G ar):Prop where
 a:qX A
 b:g.n<=255/\ ∀y∈g.B,IY y
 c:qX r
 d:h.n<=255/\ ∀y∈h.B,IW y
structure DI (x y:N):Prop where
 a:x.q=y.q
 b:x.F=y.F
 c:x.z=y.z
 d:x.M=y.M
 e:x.w.B=y.w.B
 f:x.C.B=y.C.B
 g:x.P.B=y.P.B
 h:x.aw=y.aw
structure IV (x y:ar):Prop where
 a:x.q=y.q
 b:x.F=y.F
 c:x.z=y.z
 d:x.M=y.M
 e:x.w=y.w
 f:x.C=y.C
 g:x.P.B=y.P.B
def Jb{α:Type} : ∀{a b:List α},a6 Eq a b->a=b
 |[],[],_=>rfl
 |_::_,_::_,h=>by rw[h.1,Jb h.2]
section
variable {ab:G Int} {c_:Bool} {ee:List Int}
def aiK{t:G u}(h:gv ab c_ (kz iG t++ee))(d:t.n<=255)(e: ∀y∈t.B,y.size<=255):(xS ab c_).B=t.B/\gv (tc ab c_) (xT ab c_) ee:=by
 obtain⟨c,r⟩:=qA (c:=(t.n:Int)) h Ω;obtain⟨i,b,a,bk⟩:=AJ (L:=xQ) (fq:=Bu) (e5:=KU) (f:=h8) (enc:=iG) (R:=Eq) (λ_ _ _ _ _=>rfl) t.B ((toNat (cD ab c_))+1) (cc ab c_) (cl ab c_) B ee (by rw[bc,c];omega) (by rw[bc];exact d) r λx g ab c_ ee k=>by
  obtain⟨p,q⟩:=sf k (e x g);exact⟨p.symm,q⟩
 rw[bc,<-c]at a bk;refine⟨?_,bk⟩;rw[Jb b];exact a
def aCM{t:G bt}(h:gv ab c_ (kz zy t++ee))(g:t.n<=255)(b: ∀y∈t.B,y.q.size<=255/\y.F.size<=255):(Fa ab c_ B).B=t.B/\gv (rj ab c_ B) (ta ab c_ B) ee:=by
 obtain⟨c,r⟩:=qA (c:=(t.n:Int)) h Ω;obtain⟨l,e,a,bk⟩:=AJ (L:=xO) (fq:=Bs) (e5:=KS) (f:=λab c_=>(⟨h8 ab c_,h8 (cC ab c_) (cN ab c_)⟩:bt)) (enc:=zy) (R:=Eq) (λ_ _ _ _ _=>rfl) t.B ((toNat (cD ab c_))+1) (cc ab c_) (cl ab c_) B ee (by rw[bc,c];omega) (by rw[bc];exact g) r λx d ab c_ ee k=>by
  unfold zy at k;rw[fk]at k;obtain⟨p,q⟩:=sf k (b x d).1;obtain⟨i,j⟩:=sf q (b x d).2;exact⟨by rw[p,i],j⟩
 rw[bc,<-c]at a bk;refine⟨?_,bk⟩;rw[Jb e];exact a
def aCN{t:G bG}(h:gv ab c_ (kz zJ t++ee))(g:t.n<=255)(a: ∀y∈t.B,y.q.size<=255/\qX y.F):(Ff ab c_ B).B=t.B/\gv (Fe ab c_ B) (SY ab c_ B) ee:=by
 obtain⟨c,r⟩:=qA (c:=(t.n:Int)) h Ω;obtain⟨l,e,d,bk⟩:=AJ (L:=xP) (fq:=Bt) (e5:=KT) (f:=λab c_=>(⟨h8 ab c_,cW (cC ab c_) (cN ab c_)⟩:bG)) (enc:=zJ) (R:=Eq) (λ_ _ _ _ _=>rfl) t.B ((toNat (cD ab c_))+1) (cc ab c_) (cl ab c_) B ee (by rw[bc,c];omega) (by rw[bc];exact g) r λx b ab c_ ee k=>by
  unfold zJ at k;rw[fk]at k;obtain⟨p,q⟩:=sf k (a x b).1;obtain⟨i,j⟩:=nh q (a x b).2.1 (a x b).2.2;exact⟨by rw[p,i],j⟩
 rw[bc,<-c]at d bk;refine⟨?_,bk⟩;rw[Jb e];exact d
def rd_val{x:N}(a:P9 x)(h:gv ab c_ (Dq x++ee)):(x.F=Fj ab c_/\x.z=Fk ab c_/\x.M=Fl ab c_/\x.w.B=(Be ab c_).B/\x.C.B=(Bf ab c_).B/\x.P.B=(Bg ab c_).B)/\gv (tb ab c_) (xR ab c_) ee:=by
 unfold Dq at h;simp only[w1,fk]at h;obtain⟨b,i⟩:=qA h a.k;obtain⟨c,j⟩:=sf i a.t;obtain⟨d,k⟩:=nh j a.c.1 a.c.2;obtain⟨e,l⟩:=aCM k a.p.1 a.p.2;obtain⟨f,m⟩:=aiK l a.i.1 a.i.2;obtain⟨g,n⟩:=aCN m a.s.1 a.s.2;exact⟨⟨b.symm,c.symm,d.symm,e.symm,f.symm,g.symm⟩,n⟩
def aCL{t:G N}(n:gv ab c_ (kz sS t++ee))(o:t.n<=255)(s: ∀y∈t.B,IY y):a6 DI t.B (pW ab c_ B).B/\gv (pV ab c_ B) (s_ ab c_ B) ee:=by
 obtain⟨c,w⟩:=qA (c:=(t.n:Int)) n Ω;obtain⟨z,m,b,bk⟩:=AJ (L:=xN) (fq:=Bd) (e5:=KD) (f:=λr h=>(⟨(h8 r h),(Fj (cC r h) (cN r h)),(Fk (cC r h) (cN r h)),(Fl (cC r h) (cN r h)),(Be (cC r h) (cN r h)),(Bf (cC r h) (cN r h)),(Bg (cC r h) (cN r h)),(cW (tb (cC r h) (cN r h)) (xR (cC r h) (cN r h)))⟩:N)) (enc:=sS) (R:=DI) (λ_ _ _ _ _=>rfl) t.B ((toNat (cD ab c_))+1) (cc ab c_) (cl ab c_) B ee (by rw[bc,c];omega) (by rw[bc];exact o) w λx a ab c_ ee k=>by
  have a:=s x a;unfold sS at k;simp only[fk]at k;obtain⟨p,q⟩:=sf k a.k;obtain⟨⟨d,e,g,i,j,l⟩,q1⟩:=rd_val a.v q;obtain⟨u,v⟩:=nh q1 a.u.1 a.u.2;exact⟨⟨p.symm,d,e,g,i,j,l,u.symm⟩,v⟩
 rw[bc,<-c]at b bk;exact⟨by rw[show(pW ab c_ B).B=z from b];exact m,bk⟩
def aa0(ab:G Int)(c_:Bool):ar:=
 let f:=aL ab c_;let a:=aM ab c_;let g:=aL f a;let b:=aM f a;let h:=aL g b;let c:=aM g b;let i:=cc h c;let d:=cl h c;let j:=cC i d;let e:=cN i d;let l:=aL j e;let k:=aM j e
 ⟨cW ab c_,cW f a,cW g b,cD h c,h8 i d,cW j e,xS l k⟩
def aCJ{t:G ar}(h:gv ab c_ (kz q6 t++ee))(o:t.n<=255)(p: ∀y∈t.B,IW y):a6 IV t.B (pX ab c_ B).B/\gv (vn ab c_ B) (vo ab c_ B) ee:=by
 obtain⟨c,r⟩:=qA (c:=(t.n:Int)) h Ω;obtain⟨C,n,b,bk⟩:=AJ (L:=E_) (fq:=Bh) (e5:=KE) (f:=aa0) (enc:=q6) (R:=IV) (λ_ _ _ _ _=>rfl) t.B ((toNat (cD ab c_))+1) (cc ab c_) (cl ab c_) B ee (by rw[bc,c];omega) (by rw[bc];exact o) r λx a ab c_ ee k=>by
  have a:=p x a;unfold q6 at k;simp only[fk,w1]at k;obtain⟨d,q⟩:=nh k a.a.1 a.a.2;obtain⟨e,s⟩:=nh q a.b.1 a.b.2;obtain⟨g,u⟩:=nh s a.c.1 a.c.2;obtain⟨i,v⟩:=qA u a.d;obtain⟨j,w⟩:=sf v a.t;obtain⟨l,z⟩:=nh w a.n.1 a.n.2;obtain⟨m,A⟩:=aiK z a.l.1 a.l.2;exact⟨⟨d.symm,e.symm,g.symm,i.symm,j.symm,l.symm,m.symm⟩,A⟩
 rw[bc,<-c]at b bk;exact⟨by rw[show(pX ab c_ B).B=C from b];exact n,bk⟩
def Zn{t:G u}(c:t.n<=255)(a: ∀y∈t.B,y.size<=255)(ab:G Int):(jA t ab).B=ab.B++kz iG t:=by
 unfold jA SS;have w:=Du (L:=xM t) (t:=t) (W:=c7) (enc:=iG) (λ_ _ _=>rfl) Ω (λx b ab=>qT x ab (a x b)) t.n 0 ((toNat ((t.n:Int)-0))+1) (cH (t.n:Int) ab) Ω Ω;rw[show xM t ((toNat ((t.n:Int)-0))+1) 0 (cH (t.n:Int) ab)=xM t ((toNat ((t.n:Int)-0))+1) ((0:Nat):Int) (cH (t.n:Int) ab)from rfl,w,oD _ _ Ω,fk];rfl
def akA{x:N}(a:P9 x)(ab:G Int):(oU x.F x.z x.M x.w x.C x.P ab).B=ab.B++Dq x:=by
 unfold oU E8 ri;have e:=a.p.1;have f:=a.s.1;have c:=Du (L:=xL x.w) (t:=x.w) (W:=λy ab=>c7 y.F (c7 y.q ab)) (enc:=zy) (λ_ _ _=>rfl) Ω (λy b ab=>by rw[qT _ _ (a.p.2 y b).2,qT _ _ (a.p.2 y b).1,fk];rfl) x.w.n 0 ((toNat ((x.w.n:Int)-0))+1) (cH (x.w.n:Int) (bu x.M (c7 x.z (cH x.F ab)))) Ω Ω;have d:=Du (L:=Bb x.P) (t:=x.P) (W:=λy ab=>bu y.F (c7 y.q ab)) (enc:=zJ) (λ_ _ _=>rfl) Ω (λy b ab=>by rw[jO,qT _ _ (a.s.2 y b).1,fk];rfl) x.P.n 0 ((toNat ((x.P.n:Int)-0))+1) (cH (x.P.n:Int) (jA x.C (xL x.w ((toNat ((x.w.n:Int)-0))+1) ((0:Nat):Int) (cH (x.w.n:Int) (bu x.M (c7 x.z (cH x.F ab))))))) Ω Ω;show(Bb x.P ((toNat ((x.P.n:Int)-0))+1) ((0:Nat):Int) (cH (x.P.n:Int) (jA x.C (xL x.w ((toNat ((x.w.n:Int)-0))+1) ((0:Nat):Int) (cH (x.w.n:Int) (bu x.M (c7 x.z (cH x.F ab)))))))).B=_;rw[d,oD _ _ Ω,Zn a.i.1 a.i.2,c,oD _ _ Ω,jO,qT _ _ a.t,oD _ _ a.k];unfold Dq kz;simp
def azW{A:Int}{g:G N}{r:Int}{h:G ar}(W:P6 A g r h):(vW A g r h).B=mu A g r h:=by
 unfold vW rM;have e:=W.b.1;have f:=W.d.1;have b:=Du (L:=yL g) (t:=g) (W:=λy ab=>bu y.aw (oU y.F y.z y.M y.w y.C y.P (c7 y.q ab))) (enc:=sS) (λ_ _ _=>rfl) Ω (λy a ab=>by rw[jO,akA (W.b.2 y a).v,qT _ _ (W.b.2 y a).k,fk,fk];rfl) g.n 0 ((toNat ((g.n:Int)-0))+1) (cH (g.n:Int) (bu A B)) Ω Ω;have d:=Du (L:=Cc h) (t:=h) (W:=λy ab=>jA y.P (bu y.C (c7 y.w (cH y.M (bu y.z (bu y.F (bu y.q ab))))))) (enc:=q6) (λ_ _ _=>rfl) Ω (λy a ab=>by
  have c:=W.d.2 y a;rw[Zn c.l.1 c.l.2,jO,qT _ _ c.t,oD _ _ c.d,jO,jO,jO];unfold q6;simp) h.n 0 ((toNat ((h.n:Int)-0))+1) (cH (h.n:Int) (bu r (yL g ((toNat ((g.n:Int)-0))+1) ((0:Nat):Int) (cH (g.n:Int) (bu A B))))) Ω Ω
 show(Cc h ((toNat ((h.n:Int)-0))+1) ((0:Nat):Int) (cH (h.n:Int) (bu r (yL g ((toNat ((g.n:Int)-0))+1) ((0:Nat):Int) (cH (g.n:Int) (bu A B)))))).B=_;rw[d,oD _ _ Ω,jO,b,oD _ _ Ω,jO,w2];unfold mu kz;simp
abbrev Wq(ab:G Int):=aL ab false
abbrev Ws(ab:G Int):=aM ab false
abbrev dn(ab:G Int):=pW (Wq ab) (Ws ab) (B:G N)
abbrev nb(ab:G Int):=pV (Wq ab) (Ws ab) (B:G N)
abbrev lQ(ab:G Int):=s_ (Wq ab) (Ws ab) (B:G N)
abbrev Wt(ab:G Int):=aL (nb ab) (lQ ab)
abbrev Hw(ab:G Int):=aM (nb ab) (lQ ab)
abbrev ot(ab:G Int):=pX (Wt ab) (Hw ab) (B:G ar)
abbrev pj(ab:G Int):=vn (Wt ab) (Hw ab) (B:G ar)
abbrev qu(ab:G Int):=vo (Wt ab) (Hw ab) (B:G ar)
def asv(ab:G Int):Mg ab=(bif decide ((ab.n:Int)>20000)then 1 else bif(gm true (pj ab) (qu ab)!=0)then gm true (pj ab) (qu ab)else bif(ed (cW ab false) (dn ab) (cW (nb ab) (lQ ab)) (ot ab)!=0)then ed (cW ab false) (dn ab) (cW (nb ab) (lQ ab)) (ot ab)else 0):=rfl
def azV{A:Int}{g:G N}{r:Int}{h:G ar}(W:P6 A g r h){ab:G Int}(e:ab.B=mu A g r h):cW ab false=A/\a6 DI g.B (dn ab).B/\cW (nb ab) (lQ ab)=r/\a6 IV h.B (ot ab).B/\gv (pj ab) (qu ab) []:=by
 have f:gv ab false (num A++(kz sS g++(num r++(kz q6 h++[])))):=⟨rfl,by rw[im];exact e⟩;obtain⟨a,i⟩:=nh f W.a.1 W.a.2;obtain⟨b,j⟩:=aCL i W.b.1 W.b.2;obtain⟨c,k⟩:=nh j W.c.1 W.c.2;obtain⟨d,l⟩:=aCJ k W.d.1 W.d.2;exact⟨a,b,c,d,l⟩
end
section
variable {α:Type}
def hJ(s t:G α):Prop:=s.n=t.n/\ ∀i,i<s.n->s.at' i=t.at' i
def hJ.of{s t:G α}(h:s.B=t.B):hJ s t:=by
 have b:s.n=t.n:=by rw[<-bc s,<-bc t,h]
 refine⟨b,λi a=> ?_⟩;have:=hz s a;rw[h,hz t Ω]at this;exact(jM this).symm
def hJ.get{s t:G α}(h:hJ s t){v:Int}(a:0<=v)(b:v<(s.n:Int)):s.at' (toNat v)=t.at' (toNat v):=h.2 _ Ω
def hJ.part{s t:G α}(h:hJ s t){v:Int}(b:v<=(s.n:Int)):hJ (G.part s 0 v) (G.part t 0 v):=⟨rfl,λi a=>h.2 _ (by
 have a:i<(v-0).toNat:=a;show(0:Int).toNat+i<s.n;omega)⟩
def aai{R:α->α->Prop}{s t:G α}(h:a6 R s.B t.B):s.n=t.n/\ ∀i,i<s.n->R (s.at' i) (t.at' i):=by
 have m: ∀(d c:List α),a6 R d c->d.length=c.length/\ ∀(i:Nat) (x y:α),d[i]? =some x->c[i]? =some y->R x y:=by
  intro d
  induction d with
  |nil=>
   intro c h
   cases c with
   |nil=>exact⟨rfl,λi x y h=>by simp at h⟩
   |cons _ _=>exact h.elim
  |cons a d j=>
   intro c h
   cases c with
   |nil=>exact h.elim
   |cons b c=>
    obtain⟨l,k⟩:=j c h.2;refine⟨by rw[dy,dy,l],λi x y e f=> ?_⟩
    cases i with
    |zero=>
     simp only[List.getElem?_cons_zero,g9]at e f;rw[<-e,<-f];exact h.1
    |succ i=>
     simp only[List.getElem?_cons_succ]at e f;exact k i x y e f
 obtain⟨l,k⟩:=m _ _ h;rw[bc,bc]at l;exact⟨l,λi g=>k i _ _ (hz s g) (hz t Ω)⟩
end
def GR{P Q:Int->Bool}{m:Nat}{i:Int}(h: ∀j,i<=j->j<i+m->P j=Q j):jj P m i=jj Q m i:=by
 rw[<-Iq P (λ_=>(0:Int)),<-Iq Q (λ_=>(0:Int)),Dd m i h λ_ _ _=>rfl]
section
variable {gY ib:G u} {g5 kB:G bt} {eW fR:G bG}
def aoG(e:hJ gY ib)(a:gY.n<=549755813888):EO gY=EO ib:=by
 rw[P_ gY a,P_ ib (by rw[<-e.1];exact a),<-e.1];exact GR λj b c=>by rw[e.get b Ω]
def aoH(e:hJ gY ib)(a:gY.n<=549755813888):EN gY=EN ib:=by
 rw[Qa gY a,Qa ib (by rw[<-e.1];exact a),<-e.1];exact GR λj b c=>by rw[e.get b Ω]
def aoI(e:hJ g5 kB)(a:g5.n<=549755813888):A_ g5=A_ kB:=by
 rw[I_ g5 a,I_ kB (by rw[<-e.1];exact a),<-e.1];exact GR λj b c=>by rw[e.get b Ω]
def aoJ(e:hJ eW fR)(a:eW.n<=549755813888):Ba eW=Ba fR:=by
 rw[Qb eW a,Qb fR (by rw[<-e.1];exact a),<-e.1];exact GR λj b c=>by rw[e.get b Ω]
def aoK(e:hJ eW fR)(a:eW.n<=549755813888):EY eW=EY fR:=by
 rw[Qc eW a,Qc fR (by rw[<-e.1];exact a),<-e.1];exact GR λj b c=>by rw[e.get b Ω]
def aoL(e:hJ g5 kB)(a:g5.n<=549755813888):EZ g5=EZ kB:=by
 have k:E1 g5=E1 kB:=by
  unfold E1;rw[Dc (E0 g5) g5.n (λi=>decide ((s8 (g5.at' (toNat (i64 (i-1)))).q (g5.at' (toNat i)).q)>=0)) (λ_=>false) a (λ_ _=>rfl),Dc (E0 kB) kB.n (λi=>decide ((s8 (kB.at' (toNat (i64 (i-1)))).q (kB.at' (toNat i)).q)>=0)) (λ_=>false) (by rw[<-e.1];exact a) (λ_ _=>rfl),<-e.1];refine Dd _ _ (λj b c=> ?_) λ_ _ _=>rfl;rw[E (j-1),e.get (v:=j) Ω Ω,e.get (v:=j-1) Ω Ω]
 unfold EZ acO;rw[k]
def aoM(e:hJ eW fR)(a:eW.n<=549755813888):E2 eW=E2 fR:=by
 have k:E4 eW=E4 fR:=by
  unfold E4;rw[Dc (E3 eW) eW.n (λi=>decide ((s9 (eW.at' (toNat (i64 (i-1)))).q (eW.at' (toNat (i64 (i-1)))).F (eW.at' (toNat i)).q (eW.at' (toNat i)).F)>=0)) (λ_=>false) a (λ_ _=>rfl),Dc (E3 fR) fR.n (λi=>decide ((s9 (fR.at' (toNat (i64 (i-1)))).q (fR.at' (toNat (i64 (i-1)))).F (fR.at' (toNat i)).q (fR.at' (toNat i)).F)>=0)) (λ_=>false) (by rw[<-e.1];exact a) (λ_ _=>rfl),<-e.1];refine Dd _ _ (λj b c=> ?_) λ_ _ _=>rfl;rw[E (j-1),e.get (v:=j) Ω Ω,e.get (v:=j-1) Ω Ω]
 unfold E2 acP;rw[k]
def aoN(e:hJ gY ib)(a:gY.n<=549755813888):E5 gY=E5 ib:=by
 have k:E7 gY=E7 ib:=by
  unfold E7;rw[Dc (E6 gY) gY.n (λi=>decide ((vm (gY.at' (toNat (i64 (i-1)))) (gY.at' (toNat i)))>=0)) (λ_=>false) a (λ_ _=>rfl),Dc (E6 ib) ib.n (λi=>decide ((vm (ib.at' (toNat (i64 (i-1)))) (ib.at' (toNat i)))>=0)) (λ_=>false) (by rw[<-e.1];exact a) (λ_ _=>rfl),<-e.1];refine Dd _ _ (λj b c=> ?_) λ_ _ _=>rfl;rw[E (j-1),e.get (v:=j) Ω Ω,e.get (v:=j-1) Ω Ω]
 unfold E5 acQ;rw[k]
def aoO(e:hJ eW fR)(a:eW.n<=549755813888)(c:u):jV eW c=jV fR c:=by
 have k:Bo eW c=Bo fR c:=by
  unfold Bo;rw[oz (Bn eW c) eW.n (λi=>xV (eW.at' (toNat i)).q c) (λi=>i) a (λ_ _=>rfl),oz (Bn fR c) fR.n (λi=>xV (fR.at' (toNat i)).q c) (λi=>i) (by rw[<-e.1];exact a) (λ_ _=>rfl),<-e.1];refine Dd _ _ (λj b d=> ?_) λ_ _ _=>rfl;rw[e.get b Ω]
 unfold jV KM Tb;rw[k]
def aaJ(e:hJ eW fR)(f:eW.n<=549755813888): ∀(k:Nat) (b:Bool) (i:Int),0<=i->i<=(eW.n:Int)->yK eW k b i=yK fR k b i
 |0,_,_,_,_=>rfl
 |k+1,b,i,a,d=>by
  rw[yK,yK,<-e.1]
  by_cases c:i<(eW.n:Int)
  .have m:L2 eW b i=L2 fR b i:=by
    unfold L2;rw[e.get a c,aoO (e.part d) (by show(i-0).toNat<=_;omega)]
   rw[bM c,aR,aR,m,E (i+1)];exact aaJ e f k _ _ Ω Ω
  .rw[bj c];rfl
def aoT(f:hJ gY ib)(e:hJ g5 kB)(d:hJ eW fR)(m:gY.n<=549755813888)(l:g5.n<=549755813888)(h:eW.n<=549755813888)(A:Int)(g:u)(r:Int):iT A g r g5 gY eW=iT A g r kB ib fR:=by
 have k: ∀(a i:G bt) (b b':G u) (c j:G bG),a.n=i.n->b.n=b'.n->c.n=j.n->km a b c=km i b' j:=λa i b b' c j n o p=>by unfold km;rw[n,o,p]
 have t:m0 A g r g5 gY eW=m0 A g r kB ib fR:=by
  unfold m0;rw[k (tE A g5) (tE A kB) (tF A gY) (tF A ib) (tG A eW) (tG A fR)]
  .unfold tE;cases A==1<;>cases A==2<;>cases A==3<;>first|exact e.1|rfl
  .unfold tF;cases A==1<;>cases A==2<;>cases A==3<;>cases A==6<;>first|exact f.1|rfl
  .unfold tG;cases A==1<;>cases A==2<;>cases A==3<;>cases A==6<;>first|exact d.1|rfl
 have v:o_ A g5 gY eW=o_ A kB ib fR:=by unfold o_;rw[k g5 kB gY ib eW fR e.1 f.1 d.1]
 have w:rL g gY=rL g ib:=by unfold rL;rw[aoG f m]
 have q:rK r eW=rK r fR:=by unfold rK;rw[aoK d h]
 have s:L1 A g5 gY eW=L1 A kB ib fR:=by unfold L1;rw[aoL e l,aoM d h,aoN f m]
 have x:L3 A g5 gY eW=L3 A kB ib fR:=by unfold L3;rw[s,<-d.1];exact aaJ d h _ _ _ (aZ _) Ω
 unfold iT;rw[t,v,w,q,x,aoI e l,aoJ d h]
def aoS(e:hJ gY ib)(a:gY.n<=549755813888)(A:Int)(g:u)(r:Int):rG A g r gY=rG A g r ib:=by
 unfold rG UB;rw[aoH e a,e.1]
end
def aoU{A:Int}{x y:G N}(f:dA x)(h:a6 DI x.B y.B):hU A x=hU A y:=by
 obtain⟨n,e⟩:=aai h;have r: ∀v:Int,0<=v->v<(x.n:Int)->m3 x v=m3 y v/\ob A x v=ob A y v:=by
  intro v d i;have a:=e v.toNat Ω;obtain⟨m,o,p⟩:=f.2 v.toNat Ω;have b:=f.1;unfold m3 ob;rw[aoT (hJ.of a.f) (hJ.of a.e) (hJ.of a.g) o m p,a.a,a.b,a.c,a.d,a.h];refine⟨?_,rfl⟩
  by_cases z:v>0
  .have g:=e (v-1).toNat Ω;rw[E (v-1),g.a]
  .rw[bj z];rfl
 have l: ∀(k:Nat) (v:Int),0<=v->v<=(x.n:Int)->qg A x k v=qg A y k v:=by
  intro k
  induction k with
  |zero=>intro _ _ _;rfl
  |succ k j=>
   intro v d i;have b:=f.1;rw[qg,qg,<-n]
   by_cases c:v<(x.n:Int)
   .rw[(r v d c).1,(r v d c).2,E (v+1),j (v+1) Ω Ω]
   .rw[bj c];rfl
 unfold hU L4 GC vV;rw[<-n,l _ _ (aZ _) Ω]
def aoV{A r:Int}{g o:G N}{h d:G ar}(s:dA g)(j:eH h)(i:a6 DI g.B o.B)(q:a6 IV h.B d.B):ed A g r h=ed A o r d:=by
 obtain⟨n,e⟩:=aai q;have m: ∀v:Int,0<=v->v<(h.n:Int)->tL r h v=tL r d v/\tK A h v=tK A d v:=by
  intro v f i;have a:=e v.toNat Ω;have w:=j.2 v.toNat Ω;have b:=j.1;unfold tL tK;rw[aoS (hJ.of a.g) w,a.a,a.b,a.c,a.d,a.e,a.f];refine⟨?_,rfl⟩
  by_cases z:v>0
  .have p:=e (v-1).toNat Ω;rw[E (v-1),p.a]
  .rw[bj z];rfl
 have l: ∀(k:Nat) (v:Int),0<=v->v<=(h.n:Int)->tI A r h k v=tI A r d k v:=by
  intro k
  induction k with
  |zero=>intro _ _ _;rfl
  |succ k t=>
   intro v f i;have b:=j.1;rw[tI,tI,<-n]
   by_cases c:v<(h.n:Int)
   .rw[(m v f c).1,(m v f c).2,E (v+1),t (v+1) Ω Ω]
   .rw[bj c];rfl
 unfold ed UF Mf tJ;rw[<-n,l _ _ (aZ _) Ω,aoU s i]
def aDT{A:Int}{g:u}{r:Int}{f:G bt}{i:G u}{j:G bG}(c:f.n<=549755813888)(d:i.n<=549755813888)(e:j.n<=549755813888)(h:iT A g r f i j=0):(1<=A/\A<=6)/\f.n+i.n+j.n<=20:=by
 unfold iT at h;obtain⟨k,h⟩:=dv h Δ;obtain⟨a,h⟩:=dv h Δ;obtain⟨b,h⟩:=dv h Δ;unfold tD at k;obtain⟨l,m⟩:=c2 k;have p:=df l;have z:=df m;refine⟨Ω,?_⟩
 by_cases n:A=1
 .subst n;unfold m0 tE tF tG at a;simp only[pA,aR]at a;obtain⟨_,a⟩:=c2 a;obtain⟨_,a⟩:=c2 a;rw[Di _ _ _ c d e]at a;have:=df a;omega
 .by_cases o:A=2
  .subst o;unfold m0 tE tF tG at a;simp only[pA,Int.reduceBEq,aR,aX]at a;obtain⟨_,a⟩:=c2 a;obtain⟨_,a⟩:=c2 a;rw[Di _ _ _ c d e]at a;have:=df a;omega
  .unfold o_ at b;rw[bM (show A>=3 by omega)]at b;simp only[aR]at b;obtain⟨_,b⟩:=c2 b;rw[Di _ _ _ c d e]at b;have:=df b;omega
def aqF{A:Int}{g:u}{r:Int}{b:G bt}{d:G u}{e:G bG}(f:b.n<=549755813888)(h:iT A g r b d e=0): ∀i,i<b.n->(b.at' i).q.size<=12:=by
 unfold iT at h;obtain⟨_,h⟩:=dv h Δ;obtain⟨_,h⟩:=dv h Δ;obtain⟨_,h⟩:=dv h Δ;obtain⟨_,h⟩:=dv h Δ;obtain⟨a,_⟩:=dv h Δ;intro i c;rw[I_ _ Ω]at a;have:=rW a i c;simp only[gi,xK,SD]at this;exact ajc (c2 this).1
def zj{α:Type}{s:G α}{x:α}(h:x∈s.B): ∃i,i<s.n/\s.at' i=x:=by
 obtain⟨i,a⟩:=qN h;have b:i<s.n:=by rw[<-bc s];exact(il.1 a).1
 rw[hz s b]at a;exact⟨i,b,jM a⟩
def ab3{α:Type}{enc:α->List Int}{m:Nat} : ∀{l:List α},(∀x∈l,(enc x).length<=m)->(l.flatMap enc).length<=l.length*m
 |[],_=>cp _
 |x::l,h=>by
  rw[g0,dq,dy,iX];have:=h x (List.mem_cons_self ..);have:=ab3 (l:=l) λy a=>h y (List.mem_cons_of_mem _ a);omega
def CE{α:Type}{enc:α->List Int}{m:Nat}{s:G α}(h: ∀x∈s.B,(enc x).length<=m):(kz enc s).length<=s.n*m+1:=by
 show(s.B.flatMap enc).length+1<=_;have:=ab3 h;rw[bc]at this;omega
def aqa{x:N}(w:x.w.n<=549755813888/\x.C.n<=549755813888/\x.P.n<=549755813888)(h:IX x)(g:iT x.F x.z x.M x.w x.C x.P=0):IY x/\(sS x).length<=742:=by
 obtain⟨k,⟨u,v,f,j,l⟩,r,t⟩:=h;obtain⟨n,q⟩:=aDT w.1 w.2.1 w.2.2 g;have c: ∀y∈x.w.B,y.q.size<=12/\y.F.size<=20:=λy a=>by obtain⟨i,b,rfl⟩:=zj a;exact⟨aqF w.1 g i b,(f i b).2⟩
 have d: ∀y∈x.C.B,y.size<=20:=λy a=>by obtain⟨i,b,rfl⟩:=zj a;exact j i b
 have e: ∀y∈x.P.B,y.q.size<=20/\ -1099511627776<=y.F/\y.F<=1099511627776:=λy a=>by obtain⟨i,b,rfl⟩:=zj a;exact l i b
 refine⟨⟨Ω,⟨Ω,Ω,⟨Ω,Ω⟩,⟨Ω,λy a=> ?_⟩,⟨Ω,λy a=> ?_⟩,⟨Ω,λy a=> ?_⟩⟩,⟨Ω,Ω⟩⟩,?_⟩
 .have:=c y a;omega
 .have:=d y a;omega
 .have:=e y a;exact⟨Ω,Ω,Ω⟩
 .have m_:=CE (enc:=zy) (m:=34) (s:=x.w) λy a=>by
   have:=c y a;unfold zy;rw[dq,wE,wE];omega
  have o:=CE (enc:=iG) (m:=34) (s:=x.C) λy a=>by
   have:=d y a;rw[wE];omega
  have p:=CE (enc:=zJ) (m:=34) (s:=x.P) λy a=>by
   have:=e y a;unfold zJ;rw[dq,wE,wD];omega
  unfold sS Dq;simp only[dq,dy,wE,wD];omega
def apf{x:ar}(h:P3 x):IW x/\(q6 x).length<=475:=by
 obtain⟨⟨a,b,c⟩,⟨d,t,n⟩,m_,g⟩:=h;have p: ∀y∈x.P.B,y.size<=20:=λy e=>by obtain⟨i,f,rfl⟩:=zj e;exact g i f
 refine⟨⟨⟨Ω,Ω⟩,⟨Ω,Ω⟩,⟨Ω,Ω⟩,Ω,Ω,⟨Ω,Ω⟩,Ω,λy e=>by have:=p y e;omega⟩,?_⟩;have l:=CE (enc:=iG) (m:=21) (s:=x.P) λy e=>by
  have:=p y e;rw[wE];omega
 unfold q6;simp only[dq,dy,wE,wD];omega
def Wu{A:Int}{g:G N}{r:Int}{h:G ar}(n:dA g)(u:eH h)(l:ed A g r h=0):P6 A g r h/\(mu A g r h).length<=10900:=by
 obtain⟨⟨a,b,c,d⟩,e,k⟩:=g2 A g r h n u l;have t:hU A g=0:=by
  unfold ed at l;obtain⟨m,_⟩:=dv l Δ;unfold tJ at m;exact bK (c2 m).1
 have q:=de n t;have o: ∀y∈g.B,IY y/\(sS y).length<=742:=λy f=>by obtain⟨i,j,rfl⟩:=zj f;exact aqa (n.2 i j) (e i j) (q.ok _ f)
 have p: ∀y∈h.B,IW y/\(q6 y).length<=475:=λy f=>by obtain⟨i,j,rfl⟩:=zj f;exact apf (k i j)
 refine⟨⟨⟨Ω,Ω⟩,⟨Ω,λy f=>(o y f).1⟩,⟨Ω,Ω⟩,⟨Ω,λy f=>(p y f).1⟩⟩,?_⟩;have m_:=CE (s:=g) λy f=>(o y f).2;have v:=CE (s:=h) λy f=>(p y f).2;unfold mu;simp only[dq,wD];omega
def azU{A:Int}{g:G N}{r:Int}{h:G ar}(i:dA g)(j:eH h)(f:ed A g r h=0){s:G Int}(m:s.B=mu A g r h):Mg s=0/\ed (rN s) (rO s) (yM s) (rP s)=0:=by
 obtain⟨W,n⟩:=Wu i j f;obtain⟨a,b,c,d,t,u⟩:=azV W m;have l:s.n<=10900:=by rw[<-bc,m];exact n
 have e:gm true (pj s) (qu s)=0:=by
  have z:(pj s).n=0:=by rw[<-bc,u];rfl
  unfold gm SQ;rw[t,z];rfl
 have k:ed (cW s false) (dn s) (cW (nb s) (lQ s)) (ot s)=0:=by rw[a,c,<-aoV i j b d];exact f
 have o:rN s=(bif decide ((s.n:Int)>20000)then 0 else bif(gm true (pj s) (qu s)!=0)then 0 else bif(ed (cW s false) (dn s) (cW (nb s) (lQ s)) (ot s)!=0)then 0 else cW s false):=rfl;have q1:rO s=(bif decide ((s.n:Int)>20000)then B else bif(gm true (pj s) (qu s)!=0)then B else bif(ed (cW s false) (dn s) (cW (nb s) (lQ s)) (ot s)!=0)then B else dn s):=rfl;have p:yM s=(bif decide ((s.n:Int)>20000)then 0 else bif(gm true (pj s) (qu s)!=0)then 0 else bif(ed (cW s false) (dn s) (cW (nb s) (lQ s)) (ot s)!=0)then 0 else cW (nb s) (lQ s)):=rfl;have q:rP s=(bif decide ((s.n:Int)>20000)then B else bif(gm true (pj s) (qu s)!=0)then B else bif(ed (cW s false) (dn s) (cW (nb s) (lQ s)) (ot s)!=0)then B else ot s):=rfl;rw[o,q1,p,q,asv,e,k,bj (show¬(s.n:Int)>20000 by omega)];exact⟨rfl,k⟩
def eV(n:Int):List Int:=[n/65536%256,n/256%256,n%256]
def DF(n:Int):(h9 n).B=eV n:=by
 unfold h9;rw[iq,IntKind.wrap_u8,IntKind.wrap_u8,IntKind.wrap_u8];rfl
def u7{s:G Int}{l:List Int}(h:s.B=l){i:Nat}{x:Int}(a:l[i]? =some x):s.at' i=x:=by
 have b:i<s.n:=by rw[<-bc s,h];exact(il.1 a).1
 have:=hz s b;rw[h,a]at this;exact(jM this).symm
def Dp{s:G Int}(a:aK s){v:Int}{l:List Int}(h:s.B=eV v++l)(b:0<=v/\v<16777216):eG s=v:=by
 rw[abv s a,u7 h (i:=0) rfl,u7 h (i:=1) rfl,u7 h (i:=2) rfl];omega
def uV{s:G Int}{a l:List Int}(h:s.B=a++l){n:Int}(c:n=(a.length:Int)):(G.part s n (s.n:Int)).B=l:=by
 have b:s.n=a.length+l.length:=by rw[<-bc,h,dq]
 rw[l0 _ _ _ Ω Ω Ω,h,show n.toNat=a.length by omega,List.drop_left,List.take_of_length_le Ω]
def kK(r:bm):Prop:=fA r.q r.F r.z r.M r.w r.C r.P r.aw r.f r.aD r.bX r.b_ r.b2 r.cm r.bb r.cO r.eK r.ek r.eL r.en=0
structure hK (r:bm):Prop where
 c:kK r
 z:dA r.ek
 y:eH r.en
def jH(r:bm):R:=⟨r.w,r.C,r.P,r.aw,r.f,r.aD,r.bX,r.b_,r.b2,r.cm⟩
def fg(r:bm):List Int:=bif r.q==1 then 1::(eV r.F++[r.z+1])else bif r.q==2 then 2::(eV r.M++mn (jH r))else 3::(eV r.bb++(eV r.cO++mu r.eK r.ek r.eL r.en))
def i153{x:Int}(h:(!(n6 x))=false):1<=x/\x<=1048576:=by
 unfold n6 KB at h
 by_cases a:x>=1
 .by_cases b:x<=1048576
  .omega
  .rw[bM a,bj b]at h;cases h
 .rw[bj a]at h;cases h
def f153{x:Int}(h:1<=x/\x<=1048576):(!(n6 x))=false:=by
 unfold n6 KB;rw[bM h.1,bM h.2];rfl
def uA{r:bm}(h:kK r):(r.q=1/\(1<=r.F/\r.F<=1048576)/\ -1<=r.z/\r.z<3)\/(r.q=2/\(1<=r.M/\r.M<=1048576)/\mG (jH r))\/(r.q=3/\(1<=r.bb/\r.bb<=1048576)/\(1<=r.cO/\r.cO<=1048576)/\ed r.eK r.ek r.eL r.en=0):=by
 unfold kK fA at h;obtain⟨e,h⟩:=dv h Δ;obtain⟨j,h⟩:=dv h Δ;unfold UG at e;obtain⟨f,g⟩:=c2 e;have:=df f;have:=df g
 by_cases b:r.q=1
 .rw[show(r.q==1)=true from iK.2 b,aR]at h;obtain⟨m,_⟩:=dv h Δ;unfold Cd at m;obtain⟨d,a⟩:=c2 m;obtain⟨a,i⟩:=c2 a;have:=df a;have:=df i;exact .inl ⟨b,i153 d,Ω,Ω⟩
 rw[fl.2 b,aX]at h
 by_cases c:r.q=2
 .rw[show(r.q==2)=true from iK.2 c,aR]at h;obtain⟨m,h⟩:=dv h Δ;exact .inr (.inl ⟨c,i153 m,h⟩)
 rw[fl.2 c,aX]at h;unfold mm at h;obtain⟨m,h⟩:=dv h Δ;unfold GD at m;obtain⟨d,a⟩:=c2 m;exact .inr (.inr ⟨Ω,i153 d,i153 a,h⟩)
def JH{r:bm}(h:hK r):(jB r.q r.F r.z r.M r.w r.C r.P r.aw r.f r.aD r.bX r.b_ r.b2 r.cm r.bb r.cO r.eK r.ek r.eL r.en).B=fg r/\(5<=(fg r).length/\(fg r).length<=14000):=by
 unfold fg jB;rcases uA h.c with⟨k,a,b,c⟩|⟨k,a,b⟩|⟨k,a,b,c⟩
 .rw[k];refine⟨?_,(by decide:5<=5),(by decide:5<=14000)⟩;show(G.app (G.app (G.lit ([1]:List Int)) (h9 r.F)) (G.lit ([(u8 (i64 (r.z+1)))]:List Int))).B=1::(eV r.F++[r.z+1]);rw[iL,iL,iq,iq,DF,E (r.z+1),IntKind.wrap_u8,show(r.z+1)%256=r.z+1 by omega];rfl
 .rw[k];have n:=M8 b;refine⟨?_,?_⟩
  .show(G.app (G.app (G.lit ([2]:List Int)) (h9 r.M)) (qd r.w r.C r.P r.aw r.f r.aD r.bX r.b_ r.b2 r.cm)).B=2::(eV r.M++mn (jH r));rw[iL,iL,iq,DF,show(qd r.w r.C r.P r.aw r.f r.aD r.bX r.b_ r.b2 r.cm).B=mn (jH r)from avT b];rfl
  .show 5<=(2::(eV r.M++mn (jH r))).length/\(2::(eV r.M++mn (jH r))).length<=14000;simp only[dy,dq,eV,fs];omega
 .rw[k];obtain⟨W,n⟩:=Wu h.z h.y c;have e:jE r.eK r.ek r.eL r.en=vW r.eK r.ek r.eL r.en:=by unfold jE;rw[c];rfl
  have m:=azW W;have d:(jE r.eK r.ek r.eL r.en).n<=10900:=by rw[e,<-bc,m];exact n
  refine⟨?_,?_⟩
  .show(te (G.lit ([(G.lit ([3]:List Int)),(h9 r.bb),(h9 r.cO),(jE r.eK r.ek r.eL r.en)]:List (G Int)))).B=3::(eV r.bb++(eV r.cO++mu r.eK r.ek r.eL r.en));rw[Zh (by show 1<=1000000;decide) (by show 3<=1000000;decide) (by show 3<=1000000;decide) Ω,iq,DF,DF,e,m];rfl
  .show 5<=(3::(eV r.bb++(eV r.cO++mu r.eK r.ek r.eL r.en))).length/\(3::(eV r.bb++(eV r.cO++mu r.eK r.ek r.eL r.en))).length<=14000;simp only[dy,dq,eV,fs];omega
def dY(r:bm):List Int:=eV ((fg r).length:Int)++fg r
def dec(s:G Int):bm:=⟨J0 s,J3 s,Kn s,Ko s,Kp s,Kq s,Kr s,Ks s,Kt s,Ku s,J4 s,J5 s,J6 s,J7 s,J8 s,J9 s,J_ s,Kd s,Kk s,Km s⟩
def w6(r y:bm):Prop:=y.q=r.q/\(r.q=1->y.F=r.F/\y.z=r.z)/\(r.q=2->y.M=r.M/\jH y=jH r)/\(r.q=3->y.bb=r.bb/\y.cO=r.cO)
def aCP{r:bm}(h:hK r){s:G Int}(wc:aK s)(f:s.B=fg r):A0 s=true/\w6 r (dec s)/\kK (dec s):=by
 have p:s.n=(fg r).length:=by rw[<-bc,f]
 have U: ∀l h,aK (G.part s l h):=λl h=>lW wc;have V:hO s=true->EG s=0->fA (nY s) (nZ s) (n0 s) (n1 s) (n2 s) (n3 s) (nK s) (nL s) (nM s) (nN s) (nO s) (nP s) (nQ s) (nR s) (nS s) (nT s) (nU s) (nV s) (nW s) (nX s)=0->A0 s=true/\dec s=⟨nY s,nZ s,n0 s,n1 s,n2 s,n3 s,nK s,nL s,nM s,nN s,nO s,nP s,nQ s,nR s,nS s,nT s,nU s,nV s,nW s,nX s⟩:=by
  intro a b c;refine⟨?_,?_⟩
  .unfold A0 acz;rw[a,b,c];rfl
  .unfold dec J0 J3 Kn Ko Kp Kq Kr Ks Kt Ku J4 J5 J6 J7 J8 J9 J_ Kd Kk Km;rw[a];rfl
 have gG:=(JH h).2;rcases uA h.c with⟨k,a,b,c⟩|⟨k,a,b⟩|⟨k,a,b,c⟩
 .have e:fg r=1::(eV r.F++[r.z+1]):=by unfold fg;rw[k];rfl
  rw[e]at f p;have d:eJ s=true:=by
   unfold eJ;rw[u7 f (i:=toNat 0) rfl,p];rfl
  have v:eG (G.part s 1 (s.n:Int))=r.F:=Dp (U _ _) (uV (a:=[1]) f rfl) Ω;have v2:i64 ((i64 (s.at' (toNat 4)))-1)=r.z:=by
   rw[u7 f (i:=toNat 4) rfl,E (r.z+1),E _];omega
  have m:fA 1 r.F r.z 0 0 0 false 0 0 0 ⟨#[]⟩ ⟨#[]⟩ ⟨#[]⟩ 0 0 0 0 B 0 B=0:=by
   have W:Cd r.F r.z=false:=by
    unfold Cd;rw[f153 a,bj Ω,bj Ω];rfl
   unfold fA UH;rw[pA (⟨#[]⟩:u).toList];show(cond (Cd r.F r.z) (2:Int) 0)=0;rw[W];rfl
  have j:nY s=1:=by unfold nY;rw[d];rfl
  have Ib:nZ s=r.F:=by unfold nZ;rw[d];exact v
  have Ic:n0 s=r.z:=by unfold n0;rw[d];exact v2
  have z:n1 s=0/\n2 s=0/\n3 s=0/\nK s=false/\nL s=0/\nM s=0/\nN s=0/\nO s=⟨#[]⟩/\nP s=⟨#[]⟩/\nQ s=⟨#[]⟩/\nR s=0/\nS s=0/\nT s=0/\nU s=0/\nV s=B/\nW s=0/\nX s=B:=by
   unfold n1 n2 n3 nK nL nM nN nO nP nQ nR nS nT nU nV nW nX;rw[d];exact⟨rfl,rfl,rfl,rfl,rfl,rfl,rfl,rfl,rfl,rfl,rfl,rfl,rfl,rfl,rfl,rfl,rfl⟩
  obtain⟨R,S,T,w,y,A,C,D,F,H,I,J,K,L,M,N,O⟩:=z;obtain⟨t,o⟩:=V (by unfold hO;rw[d];rfl) (by unfold EG;rw[d];rfl) (by rw[j,Ib,Ic,R,S,T,w,y,A,C,D,F,H,I,J,K,L,M,N,O];exact m);refine⟨t,?_,?_⟩
  .rw[o];exact⟨by rw[k];exact j,λ_=>⟨Ib,Ic⟩,λx=>absurd (k.symm.trans x) Δ,λx=>absurd (k.symm.trans x) Δ⟩
  .rw[o];show fA (nY s) (nZ s) (n0 s) (n1 s) (n2 s) (n3 s) (nK s) (nL s) (nM s) (nN s) (nO s) (nP s) (nQ s) (nR s) (nS s) (nT s) (nU s) (nV s) (nW s) (nX s)=0;rw[j,Ib,Ic,R,S,T,w,y,A,C,D,F,H,I,J,K,L,M,N,O];exact m
 .have e:fg r=2::(eV r.M++mn (jH r)):=by unfold fg;rw[k];rfl
  have n:=M8 b;rw[e]at f p;have GY:s.n=4+(mn (jH r)).length:=by rw[p];simp only[dy,dq,eV,fs];omega
  have d:eJ s=false:=by
   unfold eJ;rw[fl.2 Ω];rfl
  have g:fz s=true:=by
   unfold fz;rw[u7 f (i:=toNat 0) rfl,bM Ω];rfl
  have v:eG (G.part s 1 (s.n:Int))=r.M:=Dp (U _ _) (uV (a:=[2]) f rfl) Ω;obtain⟨⟨i0,i1,i2,i3,i4,i5,i6,i7,i8,i9⟩,i10⟩:=avR b (s:=G.part s 4 (s.n:Int)) (uV (a:=2::eV r.M) f rfl);have m:fA 2 0 0 r.M r.w r.C r.P r.aw r.f r.aD r.bX r.b_ r.b2 r.cm 0 0 0 B 0 B=0:=by
   show(cond (!(n6 r.M)) (2:Int) (fc r.w r.C r.P r.aw r.f r.aD r.bX r.b_ r.b2 r.cm))=0;rw[f153 a];exact b
  have j:nY s=2:=by unfold nY;rw[d,g];rfl
  have q:n1 s=r.M/\n2 s=r.w/\n3 s=r.C/\nK s=r.P/\nL s=r.aw/\nM s=r.f/\nN s=r.aD/\nO s=r.bX/\nP s=r.b_/\nQ s=r.b2/\nR s=r.cm:=by
   unfold n1 n2 n3 nK nL nM nN nO nP nQ nR;rw[d,g];exact⟨v,i0,i1,i2,i3,i4,i5,i6,i7,i8,i9⟩
  have z:nZ s=0/\n0 s=0/\nS s=0/\nT s=0/\nU s=0/\nV s=B/\nW s=0/\nX s=B:=by
   unfold nZ n0 nS nT nU nV nW nX;rw[d,g];exact⟨rfl,rfl,rfl,rfl,rfl,rfl,rfl,rfl⟩
  obtain⟨Ie,Ig,X6,X,Y,Z,XY,XZ,X0,X1,X2⟩:=q;obtain⟨P,Q,J,K,L,M,N,O⟩:=z;obtain⟨t,o⟩:=V (by unfold hO;rw[d,g];rfl) (by unfold EG;rw[d,g];exact i10) (by rw[j,P,Q,Ie,Ig,X6,X,Y,Z,XY,XZ,X0,X1,X2,J,K,L,M,N,O];exact m);refine⟨t,?_,?_⟩
  .rw[o];refine⟨by rw[k];exact j,λx=>absurd (k.symm.trans x) Δ,λ_=>⟨Ie,?_⟩,λx=>absurd (k.symm.trans x) Δ⟩;unfold jH;rw[Ig,X6,X,Y,Z,XY,XZ,X0,X1,X2]
  .rw[o];show fA (nY s) (nZ s) (n0 s) (n1 s) (n2 s) (n3 s) (nK s) (nL s) (nM s) (nN s) (nO s) (nP s) (nQ s) (nR s) (nS s) (nT s) (nU s) (nV s) (nW s) (nX s)=0;rw[j,P,Q,Ie,Ig,X6,X,Y,Z,XY,XZ,X0,X1,X2,J,K,L,M,N,O];exact m
 .have e:fg r=3::(eV r.bb++(eV r.cO++mu r.eK r.ek r.eL r.en)):=by unfold fg;rw[k];rfl
  rw[e]at f p;have aGR:18<=(mu r.eK r.ek r.eL r.en).length:=by
   unfold mu kz;simp only[dq,dy,wD];omega
  have GY:s.n=7+(mu r.eK r.ek r.eL r.en).length:=by rw[p];simp only[dy,dq,eV,fs];omega
  have d:eJ s=false:=by
   unfold eJ;rw[fl.2 Ω];rfl
  have g:fz s=false:=by
   unfold fz;rw[u7 f (i:=toNat 0) rfl,bM Ω];rfl
  have W:s4 s=true:=by
   unfold s4;rw[u7 f (i:=toNat 0) rfl,bM Ω];rfl
  have v:eG (G.part s 1 (s.n:Int))=r.bb:=Dp (U _ _) (uV (a:=[3]) f rfl) Ω;have v2:eG (G.part s 4 (s.n:Int))=r.cO:=Dp (U _ _) (uV (a:=3::eV r.bb) f rfl) Ω;obtain⟨d1,d2⟩:=azU h.z h.y c (s:=G.part s 7 (s.n:Int)) (uV (a:=3::(eV r.bb++eV r.cO)) (by rw[f];simp) rfl);have m:fA 3 0 0 0 0 0 false 0 0 0 ⟨#[]⟩ ⟨#[]⟩ ⟨#[]⟩ 0 r.bb r.cO (rN (G.part s 7 (s.n:Int))) (rO (G.part s 7 (s.n:Int))) (yM (G.part s 7 (s.n:Int))) (rP (G.part s 7 (s.n:Int)))=0:=by
   unfold fA UH;rw[pA (⟨#[]⟩:u).toList];show mm r.bb r.cO _ _ _ _=0;unfold mm GD;rw[f153 a,f153 b];exact d2
  have j:nY s=3:=by unfold nY;rw[d,g];rfl
  have q:nS s=r.bb/\nT s=r.cO/\nU s=rN (G.part s 7 (s.n:Int))/\nV s=rO (G.part s 7 (s.n:Int))/\nW s=yM (G.part s 7 (s.n:Int))/\nX s=rP (G.part s 7 (s.n:Int)):=by
   unfold nS nT nU nV nW nX;rw[d,g];exact⟨v,v2,rfl,rfl,rfl,rfl⟩
  have z:nZ s=0/\n0 s=0/\n1 s=0/\n2 s=0/\n3 s=0/\nK s=false/\nL s=0/\nM s=0/\nN s=0/\nO s=⟨#[]⟩/\nP s=⟨#[]⟩/\nQ s=⟨#[]⟩/\nR s=0:=by
   unfold nZ n0 n1 n2 n3 nK nL nM nN nO nP nQ nR;rw[d,g];exact⟨rfl,rfl,rfl,rfl,rfl,rfl,rfl,rfl,rfl,rfl,rfl,rfl,rfl⟩
  obtain⟨X3,X4,aiw,aix,aiy,aiz⟩:=q;obtain⟨P,Q,R,S,T,w,y,A,C,D,F,H,I⟩:=z;obtain⟨t,o⟩:=V (by unfold hO;rw[d,g,W];rfl) (by unfold EG;rw[d,g];exact d1) (by rw[j,P,Q,R,S,T,w,y,A,C,D,F,H,I,X3,X4,aiw,aix,aiy,aiz];exact m);refine⟨t,?_,?_⟩
  .rw[o];exact⟨by rw[k];exact j,λx=>absurd (k.symm.trans x) Δ,λx=>absurd (k.symm.trans x) Δ,λ_=>⟨X3,X4⟩⟩
  .rw[o];show fA (nY s) (nZ s) (n0 s) (n1 s) (n2 s) (n3 s) (nK s) (nL s) (nM s) (nN s) (nO s) (nP s) (nQ s) (nR s) (nS s) (nT s) (nU s) (nV s) (nW s) (nX s)=0;rw[j,P,Q,R,S,T,w,y,A,C,D,F,H,I,X3,X4,aiw,aix,aiy,aiz];exact m
def dH{α:Type}{P:α->Prop}{c:Bool}{a b:α}(d:P a)(e:P b):P (cond c a b):=by
 cases c
 .exact e
 .exact d
def Jm{α:Type}{P:α->Prop}{c:Bool}{a b:α}(d:c=true->P a)(e:c=false->P b):P (cond c a b):=by
 cases c
 .exact e rfl
 .exact d rfl
def iN(k:Nat)(e:N):Prop:=e.w.n<=k/\e.C.n<=k/\e.P.n<=k
def I3(k:Nat)(e:ar):Prop:=e.P.n<=k
section
variable {α:Type} [Inhabited α] {Pa:α->Prop} {ab:G α} {qH:α}
def aah(h: ∀i,Pa (ab.at' i))(b:Pa qH)(a:Pa default): ∀i,Pa ((G.app ab (G.lit [qH])).at' i):=by
 intro i;show Pa (cond (Nat.blt i ab.n) (ab.at' i) (([qH]:List α).getD (i-ab.n) default));refine dH (h i) ?_
 match i-ab.n with
 |0=>exact b
 |_+1=>exact a
def oH(h: ∀i,Pa (ab.at' i))(a:Pa qH)(j:Nat): ∀i,Pa ((ab.cF j qH).at' i):=λi=>dH (h i|>λ_=>a) (h i)
def an8(h: ∀i,Pa (ab.at' i))(a:Pa qH)(j:Nat): ∀i,Pa ((ab.ins j qH).at' i):=λi=>dH (h i) (dH a (h _))
def Q2(h: ∀i,Pa (ab.at' i))(j k:Nat): ∀i,Pa ((ab.del j k).at' i):=λi=>dH (h i) (h _)
def DY{L:Nat->Int->G α->G α}{n:Nat}{f:Int->α}(e: ∀v a,L 0 v a=default)(d: ∀k v a,L (k+1) v a=bif decide (v<(n:Int))then L k (i64 (v+1)) (G.app a (G.lit [f v]))else a)(l:n<=549755813888)(b:Pa default)(h: ∀v:Int,0<=v->v<(n:Int)->Pa (f v)):
  ∀(k:Nat) (v:Int) (a:G α),0<=v->v<=(n:Int)->(∀i,Pa (a.at' i))->(∀i,Pa ((L k v a).at' i))/\(L k v a).n<=a.n+k
 |0,v,a,_,_,_=>by
  rw[e];exact⟨λ_=>b,cp _⟩
 |k+1,v,a,j,m,g=>by
  rw[d]
  by_cases c:v<(n:Int)
  .rw[bM c,aR,E (v+1)];obtain⟨q1,o⟩:=DY e d l b h k (v+1) _ Ω Ω (aah g (h v j c) b);refine⟨q1,?_⟩;have:(G.app a (G.lit [f v])).n=a.n+1:=rfl;omega
  .rw[bj c];exact⟨g,qO _ _⟩
end
def Q3{L:Nat->Int->G u->G u}{n:Nat}{f:Int->u}(c: ∀v a,L 0 v a=default)(b: ∀k v a,L (k+1) v a=bif decide (v<(n:Int))then L k (i64 (v+1)) (G.app a (G.lit [f v]))else a)(d:n<=549755813888)(a:G u):(L (toNat ((n:Int)-0)+1) 0 a).n<=a.n+n+1:=by
 have k:=(DY (Pa:=λ_=>True) c b d trivial (λ_ _ _=>trivial) (toNat ((n:Int)-0)+1) 0 a (aZ _) Ω λ_=>trivial).2;omega
section
variable {A:Int} {g r h:u} {o now:Int} {ab:G N} {fB:Nat}
def Ep:iN fB default:=⟨cp _,cp _,cp _⟩
def bT{α:Type}{c:Bool}{a b:G α}{m:Nat}(d:a.n<=m)(e:b.n<=m):(cond c a b).n<=m:=dH (P:=λab:G α=>ab.n<=m) d e
def aFb{A:Int}{g:u}{r:Int}{h:G bt}{o:G u}{c:G bG}{v:Int}{y p x:u}{ai:Int}(s:h.n<=1048576)(k:o.n<=1048576)(q:c.n<=1048576):
  (Sq A g r h o c v y p x ai).n<=1048577/\(Sr A g r h o c v y p x ai).n<=1048577/\(Ss A g r h o c v y p x ai).n<=1048577/\(St A g r h o c v y p x ai).n<=4000000:=by
 have z: ∀{α:Type} [Inhabited α] {m:Nat},(B:G α).n<=m:=cp _;have d: ∀{α:Type} (ab:G α) (i j:Nat),(ab.del i j).n<=ab.n:=λab i j=>Nat.sub_le _ _;have b:h.n<=1048577:=by omega
 have a:o.n<=1048577:=by omega
 have e:c.n<=1048577:=by omega
 have n: ∀w,(Bw w c).n<=1048576:=λw=>bT (dP (d _ _ _) q) q;have t:(adL v o).n<=1048577:=by
  refine bT ?_ ?_
  .show(i64 ((o.n:Int)-1)-0).toNat<=_;rw[E _];omega
  .show((o.n:Int)-1).toNat<=_;omega
 refine⟨bT z (bT z (bT z (bT (bT b (bT z ?_)) b))),bT z (bT z (bT z (bT (bT a (bT z ?_)) a))),bT z (bT z (bT z (bT (bT e (bT z ?_)) e))),bT z (bT z (bT z (bT ?_ z)))⟩
 .exact bT z (bT b (bT b (bT b (bT b (bT (bT (bT (dP (d _ _ _) b) b) (bT b (bT b (bT (Nat.succ_le_succ s) b)))) b)))))
 .exact bT z (bT a (bT a (bT a (bT a (bT a (bT (bT t (bT a (bT (Nat.succ_le_succ k) (Nat.succ_le_succ k)))) (bT (bT (bT (dP (d _ _ _) a) a) (bT a (bT (Nat.succ_le_succ k) a))) a)))))))
 .exact bT z (bT e (bT e (bT e (bT e (bT e (bT e (bT e (bT e (bT e (bT e (bT (dP (n _) Δ) (Nat.succ_le_succ (n _)))))))))))))
 .refine bT z (bT z (bT (bT z z) (bT z (bT ?_ (bT (bT z (bT z (bT z (bT z (bT z z))))) (bT (bT z (bT z z)) (bT (bT z (bT z z)) (bT z (bT z (bT z z))))))))));have C:(Bv h o).n<=o.n+h.n+1:=Q3 (L:=KV h) (f:=λl=>(h.at' (toNat l)).q) (λ_ _=>rfl) (λ_ _ _=>rfl) Ω o;have D:(Tu h o c).n<=(Bv h o).n+c.n+1:=Q3 (L:=KW c) (f:=λl=>(c.at' (toNat l)).q) (λ_ _=>rfl) (λ_ _ _=>rfl) Ω _;omega
def aFa(d: ∀i,iN 1048576 (ab.at' i))(n:ab.n<=12):(∀i,iN 1048577 ((vj A g r h o now ab).at' i))/\(vj A g r h o now ab).n<=13/\(Sv A g r h o ab).n<=4000000:=by
 have e: ∀i,iN 1048577 (ab.at' i):=λi=>⟨pw (d i).1,pw (d i).2.1,pw (d i).2.2⟩;have z: ∀{α:Type} [Inhabited α] {m:Nat},(B:G α).n<=m:=cp _;have V:=aFb (A:=re g ab) (g:=rf g ab) (r:=rh g ab) (h:=pQ g ab) (o:=pR g ab) (c:=pS g ab) (v:=A) (y:=g) (p:=r) (x:=h) (ai:=o) (bT (d _).1 z) (bT (d _).2.1 z) (bT (d _).2.2 z);have j: ∀a i f,∀t,iN 1048577 ((A8 a i f ab).at' t):=λa i f=>dH (P:=λab:G N=> ∀t,iN 1048577 (ab.at' t)) (an8 e ⟨z,z,z⟩ _) e;have bk:(acE ab).n<=0+ab.n+1:=Q3 (L:=Kx ab) (f:=λu=>(ab.at' (toNat u)).q) (λ_ _=>rfl) (λ_ _ _=>rfl) Ω B;have Q: ∀{k:Bool} {a b:G N},(∀t,iN 1048577 (a.at' t))->(∀t,iN 1048577 (b.at' t))-> ∀t,iN 1048577 ((cond k a b).at' t):=λ{k a b} q s=>dH (P:=λab:G N=> ∀t,iN 1048577 (ab.at' t)) q s;refine⟨Q e (Q (Q e (Q2 e _ _)) (Q (Q e (Q e (Q e (oH e ?_ _)))) (Q (Q e (Q (Q2 e _ _) (Q (Q ?_ ?_) e))) e))),?_,bT Ω (bT z (bT z (bT V.2.2.2 z)))⟩
 .exact⟨(e _).1,(e _).2.1,(e _).2.2⟩
 .refine oH (oH (j _ _ _) ?_ _) ?_ _
  .exact⟨V.1,V.2.1,V.2.2.1⟩
  .exact⟨(oH (Pa:=iN 1048577) (j _ _ _) ⟨V.1,V.2.1,V.2.2.1⟩ _ _).1,(oH (Pa:=iN 1048577) (j _ _ _) ⟨V.1,V.2.1,V.2.2.1⟩ _ _).2.1,(oH (Pa:=iN 1048577) (j _ _ _) ⟨V.1,V.2.1,V.2.2.1⟩ _ _).2.2⟩
 .refine oH (j _ _ _) ?_ _;exact⟨V.1,V.2.1,V.2.2.1⟩
 .have l: ∀i,(EM i ab).n<=13:=λi=>dP (Nat.sub_le _ _) (pw n);have d:ab.n<=13:=by omega
  have j: ∀fB i f,(A8 fB i f ab).n<=13:=λfB i f=>bT (Nat.succ_le_succ n) d;exact bT d (bT (bT d (l _)) (bT (bT d (bT d (bT d d))) (bT (bT d (bT (l _) (bT (bT (j _ _ _) (j _ _ _)) d))) d)))
end
def OU{A:Int}{g:G N}{r h:Int}{o c v:u}{y:Int}(C:dA g):dA (oR A g r h o c v y)/\(AX A g r h o c v y).n<=4000000:=by
 have l:dA (B:G N):=⟨cp _,λi D=>absurd D (eD i)⟩
 by_cases d:hU A g=0
 .have m:=de C d;have x:=m.n;have p: ∀i,iN 1048576 ((iS g).at' i):=(DY (L:=A1 g) (f:=λe=>g.at' (toNat e)) (λ_ _=>rfl) (λ_ _ _=>rfl) Ω Ep (λe I J=>m.V _ (by
   simp only[G.B,px,uR];exact⟨e.toNat,Ω,rfl⟩)) _ 0 B (aZ _) Ω λ_=>Ep).1
  have z: ∀t,(∀i,iN 1048576 ((lD t 0 false (iS g)).at' i))/\(lD t 0 false (iS g)).n<=12:=by
   intro t;refine⟨dH (P:=λs:G N=> ∀i,iN 1048576 (s.at' i)) p λi=>dH (P:=iN 1048576) ?_ ⟨cp _,cp _,cp _⟩,dP (ahF t 0 false _ (by rw[HB g Ω];omega)) (by rw[HB g Ω];exact x)⟩;have H: ∀(k:Nat) (a b:Int) (s:G N),(∀i,iN 1048576 (s.at' i))-> ∀i,iN 1048576 ((vi t k a b s).2.at' i):=by
    intro k
    induction k with
    |zero=>intro a b s j i;exact Ep
    |succ k F=>
     intro a b s j;rw[vi]
     cases decide (b<(s.n:Int))with
     |false=>exact j
     |true=>exact F _ _ _ (dH (P:=λs:G N=> ∀i,iN 1048576 (s.at' i)) (oH j (j _) _) j)
   exact H _ _ _ _ p i
  have q:=aFa (A:=h) (g:=o) (r:=c) (h:=v) (o:=y) (now:=imax (jd A) r) (z (imax (jd A) r)).1 (z _).2;generalize E:lD (imax (jd A) r) 0 false (iS g)=s at q;have n:=HB (vj h o c v y (imax (jd A) r) s) Ω;have w: ∀i,iN 1048577 ((iS (vj h o c v y (imax (jd A) r) s)).at' i):=(DY (Pa:=iN 1048577) (L:=A1 (vj h o c v y (imax (jd A) r) s)) (f:=λe=>(vj h o c v y (imax (jd A) r) s).at' (toNat e)) (λ_ _=>rfl) (λ_ _ _=>rfl) Ω Ep (λe _ _=>q.1 _) _ 0 B (aZ _) Ω λ_=>Ep).1;unfold oR AX;rw[E];refine⟨dH (P:=dA) l (dH (P:=dA) l (dH (P:=dA) l ⟨Ω,λi _=> ?_⟩)),bT (cp _) (bT (cp _) (bT (cp _) q.2.2))⟩;have:=w i;exact⟨dP this.1 Δ,dP this.2.1 Δ,dP this.2.2 Δ⟩
 .have d:(hU A g !=0)=true:=bne_iff_ne.2 d;unfold oR AX;rw[d];exact⟨l,cp _⟩
section
variable {A:Int} {g:G N} {r:Int} {h:G ar} {o c v y:Int} {p x ai:u} {bn:Int}
theorem apH(b:dA g):dA (Te A g r h o c v y p x ai bn):=by
 have z:dA (B:G N):=⟨cp _,λi d=>absurd d (eD i)⟩;have a:=(OU (A:=A) (r:=o) (h:=22) (o:=⟨#[]⟩) (c:=⟨#[]⟩) (v:=⟨#[]⟩) (y:=0) b).1;exact dH (P:=dA) z (dH (P:=dA) z (dH (P:=dA) z (dH (P:=dA) a (dH (P:=dA) a (dH (P:=dA) a (dH (P:=dA) a (OU a).1))))))
theorem apG(q:dA g)(j:eH h):eH (Tf A g r h o c v y p x ai bn):=by
 have z:eH (B:G ar):=⟨cp _,λi u=>absurd u (eD i)⟩;refine Jm (P:=eH) (λ_=>z) λd=>dH (P:=eH) z (dH (P:=eH) z ?_);have E:h.n<=4:=(g2 A g r h q j (bK d)).1.2.2.2;have C:(gy h).n=h.n:=ui h j.1;have e: ∀i,I3 549755813888 ((gy h).at' i):=(DY (L:=xU h) (n:=h.n) (λ_ _=>rfl) (λ_ _ _=>rfl) Ω (cp _) (λw D l=>j.2 w.toNat Ω) _ 0 B (aZ _) Ω λ_=>cp _).1;have l:=(OU (A:=A) (r:=o) (h:=22) (o:=⟨#[]⟩) (c:=⟨#[]⟩) (v:=⟨#[]⟩) (y:=0) q).1;have t:=(OU (A:=nI A g o 22 ⟨#[]⟩ ⟨#[]⟩ ⟨#[]⟩ 0) (r:=o) (h:=y) (o:=p) (c:=x) (v:=ai) (y:=bn) l).2;have f:eH (gy h):=⟨Ω,λi _=>e i⟩;have k: ∀m:G ar,m.n<=5->(∀i,I3 549755813888 (m.at' i))->eH m:=λm a b=>⟨Ω,λi _=>b i⟩;refine dH (P:=eH) (dH (P:=eH) f (k _ ?_ (aah ?_ (cp _) (cp _)))) (dH (P:=eH) f (dH (P:=eH) f (dH (P:=eH) f (k _ (by show(gy h).n<=5;omega) (oH (oH (oH e ?_ _) ?_ _) ?_ _)))))
 .show(Bq (gy h)).n+1<=5;have:(Bq (gy h)).n<=4:=bT (dP (Nat.sub_le _ _) Ω) Ω;omega
 .exact dH (P:=λs:G ar=> ∀i,I3 549755813888 (s.at' i)) (Q2 e _ _) e
 .show((gy h).at' _).P.n<=_;exact e _
 .show((G.cF (gy h) _ _).at' _).P.n<=_;refine oH (Pa:=I3 549755813888) e ?_ _ _;show((gy h).at' _).P.n<=_;exact e _
 .exact dP t (by decide:4000000<=549755813888)
end
end Go.Proofs.YtadmdaokcgjdiaaGreatDoor
