import Derived.Test.YtfmgjpcmcjjoiaaGreatDoorXn
open Go.IntKind (i64 u64 u8)
open Int (toNat)
set_option maxRecDepth 100000
set_option maxHeartbeats 4000000
set_option linter.all false
noncomputable section
namespace Go.Proofs.YtfmgjpcmcjjoiaaGreatDoor
open Go Go.RowKit Go.af
def fQ(s:G Int)(b:Bool)(l:List Int):Prop:=b=false∧s.B=l
theorem V2{s:G Int}{b:Bool}{a l:List Int}(h:fQ s b (a++l)){n:Int}(d:n=(a.length:Int)):(fc n s b).B=a∧fQ (ui n s b) (z5 n s b) l:=by
 obtain⟨rfl,h⟩:=h;have c:s.n=a.length+l.length:=by rw[←a_,h,dC]
 have m:o2 n s false=false:=by unfold o2;rw[aS];exact bp (by omega)
 unfold fc ui z5;rw[m];simp only[aS];have t:n.toNat=a.length:=by omega
 refine⟨?_,rfl,?_⟩
 ·rw[pO _ _ _ (by omega) (by omega) (by omega),h,show(n-0).toNat=a.length by omega];simp
 ·rw[pO _ _ _ (by omega) (by omega) (by omega),h,t,List.drop_left,List.take_of_length_le (by omega)]
def num(x:Int):List Int:=[fL x 56,fL x 48,fL x 40,fL x 32,fL x 24,fL x 16,fL x 8,fL x 0]
def val(v:Int)(l:List Int):Int:=l.foldl (fun v c=>v*256+c) v
theorem ayS(v b:Nat)(g:v<72057594037927936)(h:b<256):bits .or .u64 (u64.wrap ((v:Int)*2^(toNat 8))) (u64.wrap (b:Int))=((v*256+b:Nat):Int):=by
 have e:=Nat.shiftLeft_add_eq_or_of_lt (show b<2^8 by omega) v;rw[Nat.shiftLeft_eq]at e;have d:u64.wrap ((v:Int)*2^(toNat 8))=((v*256:Nat):Int):=by
  rw[IntKind.wrap_u64];show((v:Int)*256)%18446744073709551616=_;omega
 have f:u64.wrap (b:Int)=(b:Int):=by rw[IntKind.wrap_u64];omega
 rw[d,f];unfold bits;simp only[BitVec.toNat_or,BitVec.toNat_ofInt];have a:((((v*256:Nat):Int))%((2^u64.bits:Nat):Int)).toNat=v*256:=by
  show((((v*256:Nat):Int))%18446744073709551616).toNat=v*256;omega
 have c:((b:Int)%((2^u64.bits:Nat):Int)).toNat=b:=by
  show((b:Int)%18446744073709551616).toNat=b;omega
 rw[a,c,show v*256=v*2^8 by omega,←e,IntKind.wrap_u64];omega
theorem ahX(v c:Int)(l:List Int):val v (c::l)=val (v*256+c) l:=rfl
theorem agW{s:G Int}{b:Bool}{a:List Int}(h:(fc 8 s b).B=a)(f:a.length=8)(g: ∀c∈a,0≤c∧c≤255): ∀(m i d:Nat) (v:Nat),i+m=8→m<d→v<256^i→zN s b d (v:Int) (i:Int)=val (v:Int) (a.drop i)
 |0,i,d+1,v,n,_,_=>by
  have l:(fc 8 s b).n=8:=by rw[←a_,h,f]
  rw[zN,bp (by omega),aS,List.drop_eq_nil_of_le (by omega)];rfl
 |m+1,i,d+1,v,n,u,o=>by
  have l:(fc 8 s b).n=8:=by rw[←a_,h,f]
  have e:i<a.length:=by omega
  have q:(fc 8 s b).at' (toNat (i:Int))=a[i]:=by
   have:=gy (fc 8 s b) (i:=i) (by omega);rw[h,cI e]at this;exact(jk this).symm
  obtain⟨k,t⟩:=g a[i] (oz e);obtain⟨c,j⟩:=Ce k;have p:v<72057594037927936:=gk o (dB (Nat.pow_le_pow_right (by decide) (show i≤7 by omega)) (by decide));rw[zN,bS (by omega),aQ,q,j,ayS v c p (by omega),E ((i:Int)+1)];have r:=agW h f g m (i+1) d (v*256+c) (by omega) (by omega) (by rw[Nat.pow_succ];omega);rw[show((i:Int)+1)=((i+1:Nat):Int) by omega,r,tx e,ahX,j];rfl
theorem agk(x:Int)(a: -4611686018427387904≤x)(b:x<4611686018427387904)(k:Nat):fL x k=(x+4611686018427387904)/2^k%256:=by
 unfold fL;rw[E (x+4611686018427387904),IntKind.wrap_u64,IntKind.wrap_u8];rw[show(x+4611686018427387904)%18446744073709551616=x+4611686018427387904 by omega]
theorem ayj(x:Int)(b: -4611686018427387904≤x)(d:x<4611686018427387904): ∀c∈num x,0≤c∧c≤255:=by
 intro c a;have e:=agk x b d;unfold num at a;simp only[e,hS,yL,or_false]at a;rcases a with rfl|rfl|rfl|rfl|rfl|rfl|rfl|rfl<;>omega
theorem ayk(x:Int)(a: -4611686018427387904≤x)(b:x<4611686018427387904):val 0 (num x)=x+4611686018427387904:=by
 have e:=agk x a b;unfold num;simp only[e,ahX];show _=_;generalize f:x+4611686018427387904=u;have c:0≤u:=by omega
 have d:u<9223372036854775808:=by omega
 simp only[val,List.foldl_nil];rw[show(2:Int)^56=72057594037927936 by decide,show(2:Int)^48=281474976710656 by decide,show(2:Int)^40=1099511627776 by decide,show(2:Int)^32=4294967296 by decide,show(2:Int)^24=16777216 by decide,show(2:Int)^16=65536 by decide,show(2:Int)^8=256 by decide,show(2:Int)^0=1 by decide];omega
theorem mq{s:G Int}{b:Bool}{l:List Int}{x:Int}(h:fQ s b (num x++l))(a: -4611686018427387904≤x)(c:x<4611686018427387904):cO s b=x∧fQ (aE s b) (aF s b) l:=by
 obtain⟨t,r⟩:=V2 h (n:=8) rfl;refine⟨?_,r⟩;have d:(fc 8 s b).n=8:=by rw[←a_,t];rfl
 have v:=agW t rfl (ayj x a c) 8 0 ((toNat (((fc 8 s b).n:Int)-0))+1) 0 rfl (by omega) (by decide);have e:Rj s b=x+4611686018427387904:=by
  unfold Rj;rw[←ayk x a c];exact v
 unfold cO;rw[e,IntKind.wrap_u64,IntKind.wrap_i64];omega
theorem py{s:G Int}{b:Bool}{l:List Int}{c:Int}(h:fQ s b (c::l))(e:0≤c∧c≤255):cm s b=c∧fQ (bW s b) (b5 s b) l:=by
 obtain⟨t,r⟩:=V2 (a:=[c]) h (n:=1) rfl;refine⟨?_,r⟩;have d:(fc 1 s b).n=1:=by rw[←a_,t];rfl
 have q:(fc 1 s b).at' 0=c:=by
  have:=gy (fc 1 s b) (i:=0) (by omega);rw[t]at this;exact(jk this).symm
 unfold cm;rw[d,show toNat 0=0 from rfl,q,bS (by decide),aQ,E _]
def h7(x:u):List Int:=(x.size:Int)::(G.ofStr x).B
theorem aBg(x:u):MT (G.ofStr x).B=x:=by
 have e:((G.ofStr x).B.map fun z=>UInt8.ofNat z.toNat)=x.data.toList:=by
  apply vE;intro i;rw[gN]
  by_cases h:i<x.size
  ·rw[gy _ (show i<(G.ofStr x).n from h)];have a:i<x.data.toList.length:=by rw[Array.length_toList];exact h
   show some (UInt8.ofNat (toNat ((x.data.toList.getD i 0).toNat:Int)))=_;rw[yK,cI a];simp
  ·rw[eF (by rw[a_];exact Nat.le_of_not_lt h),eF (by rw[Array.length_toList];exact Nat.le_of_not_lt h)];rfl
 unfold MT;rw[e]
theorem q5{s:G Int}{b:Bool}{l:List Int}{x:u}(h:fQ s b (h7 x++l))(d:x.size≤255):hG s b=x∧fQ (cl s b) (cy s b) l:=by
 obtain⟨e,r⟩:=py (c:=(x.size:Int)) h (by omega);have k:=V2 (a:=(G.ofStr x).B) r (n:=cm s b) (by rw[e,a_];rfl);refine⟨?_,k.2⟩;unfold hG;rw[aBC,k.1,aBg]
theorem nA(x:Int)(s:G Int)(h:0≤x∧x≤255):(ct x s).B=s.B++[x]:=by
 unfold ct;rw[jm,jn,IntKind.wrap_u8,show x%256=x by omega]
theorem pN(x:u)(s:G Int)(h:x.size≤255):(cV x s).B=s.B++h7 x:=by
 unfold cV;rw[jm,nA _ _ (by omega),eZ];rfl
theorem jl(x:Int)(s:G Int):(bb x s).B=s.B++num x:=WZ x s
theorem az9{s:G Int}{b:Bool}{l:List Int}{k n:Int}{g r h:u}(i:fQ s b (k::(h7 g++(h7 r++(h7 h++(num n++l))))))(p:0≤k∧k≤255)(j:g.size≤255)(m:r.size≤255)(o:h.size≤255)(q: -4611686018427387904≤n)(t:n<4611686018427387904):
  RR s b=k∧RS s b=g∧RT s b=r∧RU s b=h∧RV s b=n∧fQ (RW s b) (RX s b) l:=by
 obtain⟨a,v⟩:=py i p;obtain⟨c,w⟩:=q5 v j;obtain⟨d,x⟩:=q5 w m;obtain⟨e,y⟩:=q5 x o;obtain⟨f,z⟩:=mq y q t;exact⟨a,c,d,e,f,z⟩
def CN(x:aq):List Int:=bif decide (x.I>0)then num x.w++(x.m::(h7 x.N++(h7 x.ao++(h7 x.i++num x.aC))))else[]
def mi(x:aq):List Int:=num x.q++(num x.C++(cond x.z [1] (0::(num x.I++CN x))))
def pR(x:aq):Prop:=e_ x.q x.C x.z x.I x.w x.m x.N x.ao x.i x.aC=0
theorem PH{x:u}(h:(x.toList==(⟨#[]⟩:u).toList)=true):x=⟨#[]⟩:=by
 have z:=y1 (eq_of_beq h)
 cases x with
 |mk d=>
  have:d= #[]:=Array.eq_empty_of_size_eq_zero z;rw[this]
theorem aif{A g r:Int}{h o c:u}{v:Int}(i:((A==0)&&((g==0)&&((r==0)&&((h.toList==(⟨#[]⟩:u).toList)&&((o.toList==(⟨#[]⟩:u).toList)&&((c.toList==(⟨#[]⟩:u).toList)&&((v==0)&&true)))))))=true):A=0∧g=0∧r=0∧h=⟨#[]⟩∧o=⟨#[]⟩∧c=⟨#[]⟩∧v=0:=by
 simp only[bL]at i;obtain⟨a,b,j,d,e,f,k,_⟩:=i;exact⟨eq_of_beq a,eq_of_beq b,eq_of_beq j,PH d,PH e,PH f,eq_of_beq k⟩
theorem avR{A:Int}{g r h:u}{o:Int}(b:e3 A g r h o=0):1≤A∧A≤22:=by
 unfold e3 at b
 cases m:xm A with
 |true=>rw[m]at b;cases b
 |false=>
  unfold xm at m
  by_cases a:A<1
  ·rw[bS a]at m;cases m
  by_cases c:A>22
  ·rw[bp a,bS c]at m;cases m
  omega
theorem az2{A g r:Int}{h o c:u}{v:Int}(b:hd A g r h o c v=0):(A=0∧g=0∧r=0∧h=⟨#[]⟩∧o=⟨#[]⟩∧c=⟨#[]⟩∧v=0)∨((1≤A∧A≤1048576)∧(1≤g∧g≤1048576)∧(1≤r∧r≤22)∧(h.size≤20∧o.size≤20∧c.size≤20)∧ -1099511627776≤v∧v≤1099511627776):=by
 have d:=We b;have t:=t49 _ _ _ _ _ _ _ b;unfold hd at b
 by_cases a:A=0
 ·left;rw[show(A==0)=true from iM.2 a]at b;simp only[aQ]at b
  cases e:((A==0)&&((g==0)&&((r==0)&&((h.toList==(⟨#[]⟩:u).toList)&&((o.toList==(⟨#[]⟩:u).toList)&&((c.toList==(⟨#[]⟩:u).toList)&&((v==0)&&true)))))))with
  |true=>exact aif e
  |false=>
   rw[show(A==0)=true from iM.2 a]at e;rw[e]at b
   cases b
 ·right;obtain t|t:=t
  ·exact absurd t a
  rw[hx.2 a]at b;simp only[aS]at b
  cases m:E4 A g with
  |true=>rw[m]at b;cases b
  |false=>
   rw[m]at b;exact⟨t.1,t.2.1,avR b,d,t.2.2⟩
theorem Mt{x:aq}(h:pR x):((1≤x.q∧x.q≤1048576)∧0≤x.C∧x.C≤1073741824)∧((x.I=0∧x.w=0∧x.m=0∧x.N=⟨#[]⟩∧x.ao=⟨#[]⟩∧x.i=⟨#[]⟩∧x.aC=0)∨(x.z=false∧(1≤x.I∧x.I≤1048576)∧(1≤x.w∧x.w≤1048576)∧(1≤x.m∧x.m≤22)∧(x.N.size≤20∧x.ao.size≤20∧x.i.size≤20)∧ -1099511627776≤x.aC∧x.aC≤1099511627776)):=by
 have t:=t51 _ _ _ _ _ _ _ _ _ _ h;refine⟨t.1,?_⟩
 cases a:x.z with
 |false=>
  have q:=az2 (t.2 a);rcases q with q|q
  ·exact .inl q
  ·exact .inr ⟨rfl,q⟩
 |true=>
  left;unfold pR e_ at h
  cases m:AN x.q x.C with
  |true=>rw[m]at h;cases h
  |false=>
   rw[m,a]at h;simp only[aS,aQ]at h
   cases e:((x.I==0)&&((x.w==0)&&((x.m==0)&&((x.N.toList==(⟨#[]⟩:u).toList)&&((x.ao.toList==(⟨#[]⟩:u).toList)&&((x.i.toList==(⟨#[]⟩:u).toList)&&((x.aC==0)&&true)))))))with
   |true=>exact aif e
   |false=>rw[e]at h;cases h
theorem atk{x:aq}(h:pR x):(o9 x.q x.C x.z x.I x.w x.m x.N x.ao x.i x.aC).B=mi x:=by
 obtain⟨⟨a,b⟩,q⟩:=Mt h;have e:(e_ x.q x.C x.z x.I x.w x.m x.N x.ao x.i x.aC !=0)=false:=by rw[show e_ x.q x.C x.z x.I x.w x.m x.N x.ao x.i x.aC=0 from h];rfl
 unfold o9 DC D2 mi CN;rw[e,aS]
 cases c:x.z with
 |true=>simp only[aQ];rw[nA _ _ (by decide),jl,jl,vG];simp
 |false=>
  simp only[aS]
  cases aZ:decide (x.I>0)with
  |false=>simp only[aS];rw[jl,nA _ _ (by decide),jl,jl,vG];simp
  |true=>
   have:=al aZ;rcases q with q|⟨_,d,f,g,i,j⟩
   ·omega
   simp only[aQ];unfold Ea;rw[jl,pN _ _ (by omega),pN _ _ (by omega),pN _ _ (by omega),nA _ _ (by omega),jl,jl,nA _ _ (by decide),jl,jl,vG];simp
theorem vm(x:Int):(num x).length=8:=rfl
theorem vn(x:u):(h7 x).length=x.size+1:=by
 show((G.ofStr x).B).length+1=_;rw[a_];rfl
theorem T8{x:aq}(h:pR x):(mi x).length≤120∧17≤(mi x).length:=by
 obtain⟨_,q⟩:=Mt h;unfold mi CN
 cases x.z with
 |true=>simp only[aQ,dC,vm,dr,fH];omega
 |false=>
  cases aZ:decide (x.I>0)with
  |false=>simp only[aS,dC,vm,dr,fH];omega
  |true=>
   have:=al aZ;rcases q with q|⟨_,a,b,c,d,e⟩
   ·omega
   simp only[aS,aQ,dC,vm,vn,dr];omega
theorem atj{x:aq}(h:pR x){s:G Int}(u:s.B=mi x):(k0 s false=x.q∧k1 s false=x.C∧ko s false=x.z∧kp s false=x.I∧kq s false=x.w∧kr s false=x.m∧ks s false=x.N∧kt s false=x.ao∧ku s false=x.i∧kv s false=x.aC)∧k2 s false=true∧fQ (kx s false) (k3 s false) []:=by
 obtain⟨⟨z,A⟩,q⟩:=Mt h;have v:fQ s false (num x.q++(num x.C++(cond x.z [1] (0::(num x.I++CN x))))):=⟨rfl,u⟩;obtain⟨d,w⟩:=mq v (by omega) (by omega);obtain⟨e,c⟩:=mq w (by omega) (by omega);unfold ko kp kq kr ks kt ku kv k2 kx k3
 cases f:x.z with
 |true=>
  rw[f,aQ]at c;obtain⟨a,g⟩:=py (l:=[]) c (by decide);obtain q|⟨q,_⟩:=q
  ·have p:lu s false=true:=by unfold lu;rw[a];rfl
   unfold Q_ Ra Rb Rc Rd Re Rf Q8 Q7 Q9;rw[p,a];exact⟨⟨d,e,rfl,q.1.symm,q.2.1.symm,q.2.2.1.symm,q.2.2.2.1.symm,q.2.2.2.2.1.symm,q.2.2.2.2.2.1.symm,q.2.2.2.2.2.2.symm⟩,rfl,g⟩
  ·rw[f]at q;cases q
 |false=>
  rw[f,aS]at c;obtain⟨a,g⟩:=py c (by decide);have p:lu s false=true:=by unfold lu;rw[a];rfl
  obtain⟨j,b⟩:=mq g (by omega) (by omega);unfold Q_ Ra Rb Rc Rd Re Rf Q8 Q7 Q9;rw[p,a];unfold CN at b;unfold RH RI RJ RK RL RM RN RO RP abr abt abu abv abw abx aby abz;rw[j];obtain q|⟨_,B,C,D,E,F⟩:=q
  ·rw[bp (show¬x.I>0 by omega),aS]at b;rw[q.1];exact⟨⟨d,e,rfl,rfl,q.2.1.symm,q.2.2.1.symm,q.2.2.2.1.symm,q.2.2.2.2.1.symm,q.2.2.2.2.2.1.symm,q.2.2.2.2.2.2.symm⟩,rfl,b⟩
  ·rw[bS (show x.I>0 by omega),aQ]at b;obtain⟨k,i⟩:=mq b (by omega) (by omega);rw[←h_ (num x.aC)]at i;obtain⟨m,n,o,r,t,y⟩:=az9 i (by omega) (by omega) (by omega) (by omega) (by omega) (by omega);rw[show(x.I !=0)=true from bne_iff_ne.2 (by omega)];exact⟨⟨d,e,rfl,rfl,k,m,n,o,r,t⟩,rfl,y⟩
theorem ati{x:aq}(h:pR x){s:G Int}(q:s.B=mi x):(Ks s=x.q∧Kt s=x.C∧Ku s=x.z∧Kv s=x.I∧Kw s=x.w∧Kx s=x.m∧Ky s=x.N∧Kz s=x.ao∧KA s=x.i∧KB s=x.aC)∧KC s=0:=by
 obtain⟨⟨b,d,f,g,i,j,k,m,o,p⟩,a,r,t⟩:=atj h q;have n:=T8 h;have l:s.n≤120:=by rw[←a_,q];omega
 have e:fS (k2 s false) (kx s false) (k3 s false)=0:=by
  have z:(kx s false).n=0:=by rw[←a_,t];rfl
  unfold fS Rg;rw[a,r,z];rfl
 have c:(e_ (k0 s false) (k1 s false) (ko s false) (kp s false) (kq s false) (kr s false) (ks s false) (kt s false) (ku s false) (kv s false))=0:=by
  rw[b,d,f,g,i,j,k,m,o,p];exact h
 unfold Ks Kt Ku Kv Kw Kx Ky Kz KA KB KC;rw[bp (show¬(s.n:Int)>20000 by omega),e,c];exact⟨⟨b,d,f,g,i,j,k,m,o,p⟩,rfl⟩
section
variable {α:Type} [Inhabited α]
theorem zj{L:Nat→Int→G Int→Bool→G α→G Int×Bool×G α}{eW:G Int→Bool→G Int}{eM:G Int→Bool→Bool}{f:G Int→Bool→α}
  (g: ∀k v s b a,L (k+1) v s b a=bif(cond (decide (v>0)) (!b) false)then L k (i64.wrap (v-1)) (eW s b) (eM s b) (G.app a (G.lit [f s b]))else(s,b,a))
  {enc:α→List Int} {R:α→α→Prop} : ∀(c:List α) (d:Nat) (s:G Int) (b:Bool) (a:G α) (l:List Int),c.length<d→c.length≤255→fQ s b (c.flatMap enc++l)→(∀x∈c,∀s b l,fQ s b (enc x++l)→R x (f s b)∧fQ (eW s b) (eM s b) l)→
   ∃e,aU R c e∧(L d (c.length:Int) s b a).2.2.B=a.B++e∧fQ (L d (c.length:Int) s b a).1 (L d (c.length:Int) s b a).2.1 l
 |[],d+1,s,b,a,l,_,_,h,_=>by
  rw[g,bp (show¬((([]:List α).length:Int)>0) by rw[fH];omega)];exact⟨[],trivial,(h_ _).symm,h⟩
 |x::c,d+1,s,b,a,l,o,p,h,j=>by
  rw[dr]at o p;rw[gO,eZ]at h;obtain⟨r,k⟩:=j x (List.mem_cons_self ..) s b _ h;have m:=h.1;obtain⟨e,n,i,aZ⟩:=zj g c d (eW s b) (eM s b) (G.app a (G.lit [f s b])) l (by omega) (by omega) k fun y q=>j y (List.mem_cons_of_mem _ q);rw[g,bS (by rw[dr];omega),aQ,m];rw[show i64.wrap (((x::c).length:Int)-1)=(c.length:Int) by rw[dr,E _];omega];rw[m]at i aZ r;refine⟨f s false::e,⟨r,n⟩,?_,aZ⟩;show(L d _ _ _ _).2.2.B=_;rw[i,jm,jn,eZ];rfl
theorem B7{L:Nat→Int→G Int→G Int}{t:G α}{W:α→G Int→G Int}{enc:α→List Int}
  (b: ∀k v s,L (k+1) v s=bif decide (v<(t.n:Int))then L k (i64.wrap (v+1)) (W (t.at' (toNat v)) s)else s) (f:t.n≤549755813888) (d: ∀x∈t.B,∀s,(W x s).B=s.B++enc x):
  ∀(m i a:Nat) (s:G Int),i+m=t.n→m<a→(L a (i:Int) s).B=s.B++(t.B.drop i).flatMap enc
 |0,i,a+1,s,e,_=>by
  rw[b,bp (by omega),aS,List.drop_eq_nil_of_le (by rw[a_];omega)];simp
 |m+1,i,a+1,s,e,g=>by
  have c:i<t.B.length:=by rw[a_];omega
  have q:t.at' i=t.B[i]:=by
   have:=gy t (i:=i) (by omega);rw[cI c]at this;exact(jk this).symm
  rw[b,bS (by omega),aQ,E ((i:Int)+1),show toNat (i:Int)=i by omega,q,show(i:Int)+1=((i+1:Nat):Int) by omega];rw[B7 b f d m (i+1) a _ (by omega) (by omega),d _ (oz c),tx c,gO,eZ]
end
def yi(p:bl):List Int:=h7 p.q++h7 p.C
def yt(p:bH):List Int:=h7 p.q++num p.C
def j5{α:Type}(enc:α→List Int)(s:G α):List Int:=(s.n:Int)::s.B.flatMap enc
def B4(x:L):List Int:=x.C::(h7 x.z++(num x.I++(j5 yi x.w++(j5 h7 x.m++j5 yt x.N))))
def rM(x:L):List Int:=h7 x.q++(B4 x++num x.ao)
def p0(x:aw):List Int:=num x.q++(num x.C++(num x.z++(x.I::(h7 x.w++(num x.m++j5 h7 x.N)))))
def mm(A:Int)(g:G L)(r:Int)(h:G aw):List Int:=num A++(j5 rM g++(num r++j5 p0 h))
def pT(x:Int):Prop:= -4611686018427387904≤x∧x<4611686018427387904
structure Ou (x:L):Prop where
 k:0≤x.C∧x.C≤255
 t:x.z.size≤255
 c:pT x.I
 p:x.w.n≤255∧ ∀y∈x.w.B,y.q.size≤255∧y.C.size≤255
 i:x.m.n≤255∧ ∀y∈x.m.B,y.size≤255
 s:x.N.n≤255∧ ∀y∈x.N.B,y.q.size≤255∧pT y.C
structure Hk (x:L):Prop where
 k:x.q.size≤255
 v:Ou x
 u:pT x.ao
structure Hi (x:aw):Prop where
 a:pT x.q
 b:pT x.C
 c:pT x.z
 d:0≤x.I∧x.I≤255
 t:x.w.size≤255
 n:pT x.m
 l:x.N.n≤255∧ ∀y∈x.N.B,y.size≤255
structure Oo (A:Int) (g:G L) (r:Int) (h:G aw):Prop where
 a:pT A
 b:g.n≤255∧ ∀y∈g.B,Hk y
 c:pT r
 d:h.n≤255∧ ∀y∈h.B,Hi y
structure Cm (x y:L):Prop where
 a:x.q=y.q
 b:x.C=y.C
 c:x.z=y.z
 d:x.I=y.I
 e:x.w.B=y.w.B
 f:x.m.B=y.m.B
 g:x.N.B=y.N.B
 h:x.ao=y.ao
structure Hh (x y:aw):Prop where
 a:x.q=y.q
 b:x.C=y.C
 c:x.z=y.z
 d:x.I=y.I
 e:x.w=y.w
 f:x.m=y.m
 g:x.N.B=y.N.B
theorem Hw{α:Type} : ∀{a b:List α},aU Eq a b→a=b
 |[],[],_=>rfl
 |_::_,_::_,h=>by rw[h.1,Hw h.2]
section
variable {ab:G Int} {cX:Bool} {dP:List Int}
theorem agN{t:G u}(h:fQ ab cX (j5 h7 t++dP))(d:t.n≤255)(e: ∀y∈t.B,y.size≤255):(wJ ab cX).B=t.B∧fQ (r5 ab cX) (wK ab cX) dP:=by
 obtain⟨c,r⟩:=py (c:=(t.n:Int)) h (by omega);obtain⟨i,b,a,aZ⟩:=zj (L:=wH) (eW:=z8) (eM:=Jj) (f:=hG) (enc:=h7) (R:=Eq) (fun _ _ _ _ _=>rfl) t.B ((toNat (cm ab cX))+1) (bW ab cX) (b5 ab cX) D dP (by rw[a_,c];omega) (by rw[a_];exact d) r fun x g ab cX dP k=>by
  obtain⟨p,q⟩:=q5 k (e x g);exact⟨p.symm,q⟩
 rw[a_,←c]at a aZ;refine⟨?_,aZ⟩;rw[Hw b];exact a
theorem aAa{t:G bl}(h:fQ ab cX (j5 yi t++dP))(g:t.n≤255)(b: ∀y∈t.B,y.q.size≤255∧y.C.size≤255):(DQ ab cX D).B=t.B∧fQ (qa ab cX D) (r3 ab cX D) dP:=by
 obtain⟨c,r⟩:=py (c:=(t.n:Int)) h (by omega);obtain⟨l,e,a,aZ⟩:=zj (L:=wF) (eW:=z6) (eM:=Jh) (f:=fun ab cX=>(⟨hG ab cX,hG (cl ab cX) (cy ab cX)⟩:bl)) (enc:=yi) (R:=Eq) (fun _ _ _ _ _=>rfl) t.B ((toNat (cm ab cX))+1) (bW ab cX) (b5 ab cX) D dP (by rw[a_,c];omega) (by rw[a_];exact g) r fun x d ab cX dP k=>by
  unfold yi at k;rw[eZ]at k;obtain⟨p,q⟩:=q5 k (b x d).1;obtain⟨i,j⟩:=q5 q (b x d).2;exact⟨by rw[p,i],j⟩
 rw[a_,←c]at a aZ;refine⟨?_,aZ⟩;rw[Hw e];exact a
theorem aAb{t:G bH}(h:fQ ab cX (j5 yt t++dP))(g:t.n≤255)(a: ∀y∈t.B,y.q.size≤255∧pT y.C):(DT ab cX D).B=t.B∧fQ (DS ab cX D) (Ro ab cX D) dP:=by
 obtain⟨c,r⟩:=py (c:=(t.n:Int)) h (by omega);obtain⟨l,e,d,aZ⟩:=zj (L:=wG) (eW:=z7) (eM:=Ji) (f:=fun ab cX=>(⟨hG ab cX,cO (cl ab cX) (cy ab cX)⟩:bH)) (enc:=yt) (R:=Eq) (fun _ _ _ _ _=>rfl) t.B ((toNat (cm ab cX))+1) (bW ab cX) (b5 ab cX) D dP (by rw[a_,c];omega) (by rw[a_];exact g) r fun x b ab cX dP k=>by
  unfold yt at k;rw[eZ]at k;obtain⟨p,q⟩:=q5 k (a x b).1;obtain⟨i,j⟩:=mq q (a x b).2.1 (a x b).2.2;exact⟨by rw[p,i],j⟩
 rw[a_,←c]at d aZ;refine⟨?_,aZ⟩;rw[Hw e];exact d
theorem rd_val{x:L}(a:Ou x)(h:fQ ab cX (B4 x++dP)):(x.C=DX ab cX∧x.z=DY ab cX∧x.I=DZ ab cX∧x.w.B=(zP ab cX).B∧x.m.B=(zQ ab cX).B∧x.N.B=(zR ab cX).B)∧fQ (r4 ab cX) (wI ab cX) dP:=by
 unfold B4 at h;simp only[vF,eZ]at h;obtain⟨b,i⟩:=py h a.k;obtain⟨c,j⟩:=q5 i a.t;obtain⟨d,k⟩:=mq j a.c.1 a.c.2;obtain⟨e,l⟩:=aAa k a.p.1 a.p.2;obtain⟨f,m⟩:=agN l a.i.1 a.i.2;obtain⟨g,n⟩:=aAb m a.s.1 a.s.2;exact⟨⟨b.symm,c.symm,d.symm,e.symm,f.symm,g.symm⟩,n⟩
theorem az_{t:G L}(n:fQ ab cX (j5 rM t++dP))(o:t.n≤255)(s: ∀y∈t.B,Hk y):aU Cm t.B (oY ab cX D).B∧fQ (oX ab cX D) (r2 ab cX D) dP:=by
 obtain⟨c,w⟩:=py (c:=(t.n:Int)) n (by omega);obtain⟨z,m,b,aZ⟩:=zj (L:=wE) (eW:=zO) (eM:=I3) (f:=fun r h=>(⟨(hG r h),(DX (cl r h) (cy r h)),(DY (cl r h) (cy r h)),(DZ (cl r h) (cy r h)),(zP (cl r h) (cy r h)),(zQ (cl r h) (cy r h)),(zR (cl r h) (cy r h)),(cO (r4 (cl r h) (cy r h)) (wI (cl r h) (cy r h)))⟩:L)) (enc:=rM) (R:=Cm) (fun _ _ _ _ _=>rfl) t.B ((toNat (cm ab cX))+1) (bW ab cX) (b5 ab cX) D dP (by rw[a_,c];omega) (by rw[a_];exact o) w fun x a ab cX dP k=>by
  have a:=s x a;unfold rM at k;simp only[eZ]at k;obtain⟨p,q⟩:=q5 k a.k;obtain⟨⟨d,e,g,i,j,l⟩,q1⟩:=rd_val a.v q;obtain⟨u,v⟩:=mq q1 a.u.1 a.u.2;exact⟨⟨p.symm,d,e,g,i,j,l,u.symm⟩,v⟩
 rw[a_,←c]at b aZ;exact⟨by rw[show(oY ab cX D).B=z from b];exact m,aZ⟩
def YW(ab:G Int)(cX:Bool):aw:=
 let f:=aE ab cX;let a:=aF ab cX;let g:=aE f a;let b:=aF f a;let h:=aE g b;let c:=aF g b;let i:=bW h c;let d:=b5 h c;let j:=cl i d;let e:=cy i d;let l:=aE j e;let k:=aF j e
 ⟨cO ab cX,cO f a,cO g b,cm h c,hG i d,cO j e,wJ l k⟩
theorem az8{t:G aw}(h:fQ ab cX (j5 p0 t++dP))(o:t.n≤255)(p: ∀y∈t.B,Hi y):aU Hh t.B (oZ ab cX D).B∧fQ (uf ab cX D) (ug ab cX D) dP:=by
 obtain⟨c,r⟩:=py (c:=(t.n:Int)) h (by omega);obtain⟨B,n,b,aZ⟩:=zj (L:=DP) (eW:=zS) (eM:=I4) (f:=YW) (enc:=p0) (R:=Hh) (fun _ _ _ _ _=>rfl) t.B ((toNat (cm ab cX))+1) (bW ab cX) (b5 ab cX) D dP (by rw[a_,c];omega) (by rw[a_];exact o) r fun x a ab cX dP k=>by
  have a:=p x a;unfold p0 at k;simp only[eZ,vF]at k;obtain⟨d,q⟩:=mq k a.a.1 a.a.2;obtain⟨e,s⟩:=mq q a.b.1 a.b.2;obtain⟨g,u⟩:=mq s a.c.1 a.c.2;obtain⟨i,v⟩:=py u a.d;obtain⟨j,w⟩:=q5 v a.t;obtain⟨l,z⟩:=mq w a.n.1 a.n.2;obtain⟨m,A⟩:=agN z a.l.1 a.l.2;exact⟨⟨d.symm,e.symm,g.symm,i.symm,j.symm,l.symm,m.symm⟩,A⟩
 rw[a_,←c]at b aZ;exact⟨by rw[show(oZ ab cX D).B=B from b];exact n,aZ⟩
theorem Xo{t:G u}(c:t.n≤255)(a: ∀y∈t.B,y.size≤255)(ab:G Int):(iY t ab).B=ab.B++j5 h7 t:=by
 unfold iY Ri;have w:=B7 (L:=wD t) (t:=t) (W:=cV) (enc:=h7) (fun _ _ _=>rfl) (by omega) (fun x b ab=>pN x ab (a x b)) t.n 0 ((toNat ((t.n:Int)-0))+1) (ct (t.n:Int) ab) (by omega) (by omega);rw[show wD t ((toNat ((t.n:Int)-0))+1) 0 (ct (t.n:Int) ab)=wD t ((toNat ((t.n:Int)-0))+1) ((0:Nat):Int) (ct (t.n:Int) ab)from rfl,w,nA _ _ (by omega),eZ];rfl
theorem aiz{x:L}(a:Ou x)(ab:G Int):(nQ x.C x.z x.I x.w x.m x.N ab).B=ab.B++B4 x:=by
 unfold nQ DN p_;have e:=a.p.1;have f:=a.s.1;have c:=B7 (L:=wC x.w) (t:=x.w) (W:=fun y ab=>cV y.C (cV y.q ab)) (enc:=yi) (fun _ _ _=>rfl) (by omega) (fun y b ab=>by rw[pN _ _ (a.p.2 y b).2,pN _ _ (a.p.2 y b).1,eZ];rfl) x.w.n 0 ((toNat ((x.w.n:Int)-0))+1) (ct (x.w.n:Int) (bb x.I (cV x.z (ct x.C ab)))) (by omega) (by omega);have d:=B7 (L:=zM x.N) (t:=x.N) (W:=fun y ab=>bb y.C (cV y.q ab)) (enc:=yt) (fun _ _ _=>rfl) (by omega) (fun y b ab=>by rw[jl,pN _ _ (a.s.2 y b).1,eZ];rfl) x.N.n 0 ((toNat ((x.N.n:Int)-0))+1) (ct (x.N.n:Int) (iY x.m (wC x.w ((toNat ((x.w.n:Int)-0))+1) ((0:Nat):Int) (ct (x.w.n:Int) (bb x.I (cV x.z (ct x.C ab))))))) (by omega) (by omega);show(zM x.N ((toNat ((x.N.n:Int)-0))+1) ((0:Nat):Int) (ct (x.N.n:Int) (iY x.m (wC x.w ((toNat ((x.w.n:Int)-0))+1) ((0:Nat):Int) (ct (x.w.n:Int) (bb x.I (cV x.z (ct x.C ab)))))))).B=_;rw[d,nA _ _ (by omega),Xo a.i.1 a.i.2,c,nA _ _ (by omega),jl,pN _ _ a.t,nA _ _ a.k];unfold B4 j5;simp
theorem axj{A:Int}{g:G L}{r:Int}{h:G aw}(W:Oo A g r h):(uY A g r h).B=mm A g r h:=by
 unfold uY qB;have e:=W.b.1;have f:=W.d.1;have b:=B7 (L:=xw g) (t:=g) (W:=fun y ab=>bb y.ao (nQ y.C y.z y.I y.w y.m y.N (cV y.q ab))) (enc:=rM) (fun _ _ _=>rfl) (by omega) (fun y a ab=>by rw[jl,aiz (W.b.2 y a).v,pN _ _ (W.b.2 y a).k,eZ,eZ];rfl) g.n 0 ((toNat ((g.n:Int)-0))+1) (ct (g.n:Int) (bb A D)) (by omega) (by omega);have d:=B7 (L:=AT h) (t:=h) (W:=fun y ab=>iY y.N (bb y.m (cV y.w (ct y.I (bb y.z (bb y.C (bb y.q ab))))))) (enc:=p0) (fun _ _ _=>rfl) (by omega) (fun y a ab=>by
  have c:=W.d.2 y a;rw[Xo c.l.1 c.l.2,jl,pN _ _ c.t,nA _ _ c.d,jl,jl,jl];unfold p0;simp) h.n 0 ((toNat ((h.n:Int)-0))+1) (ct (h.n:Int) (bb r (xw g ((toNat ((g.n:Int)-0))+1) ((0:Nat):Int) (ct (g.n:Int) (bb A D))))) (by omega) (by omega)
 show(AT h ((toNat ((h.n:Int)-0))+1) ((0:Nat):Int) (ct (h.n:Int) (bb r (xw g ((toNat ((g.n:Int)-0))+1) ((0:Nat):Int) (ct (g.n:Int) (bb A D)))))).B=_;rw[d,nA _ _ (by omega),jl,b,nA _ _ (by omega),jl,vG];unfold mm j5;simp
abbrev UC(ab:G Int):=aE ab false
abbrev UD(ab:G Int):=aF ab false
abbrev c6(ab:G Int):=oY (UC ab) (UD ab) (D:G L)
abbrev nq(ab:G Int):=oX (UC ab) (UD ab) (D:G L)
abbrev ml(ab:G Int):=r2 (UC ab) (UD ab) (D:G L)
abbrev UE(ab:G Int):=aE (nq ab) (ml ab)
abbrev LX(ab:G Int):=aF (nq ab) (ml ab)
abbrev og(ab:G Int):=oZ (UE ab) (LX ab) (D:G aw)
abbrev pr(ab:G Int):=uf (UE ab) (LX ab) (D:G aw)
abbrev qU(ab:G Int):=ug (UE ab) (LX ab) (D:G aw)
theorem aqi(ab:G Int):KE ab=(bif decide ((ab.n:Int)>20000)then 1 else bif(fS true (pr ab) (qU ab)!=0)then fS true (pr ab) (qU ab)else bif(dV (cO ab false) (c6 ab) (cO (nq ab) (ml ab)) (og ab)!=0)then dV (cO ab false) (c6 ab) (cO (nq ab) (ml ab)) (og ab)else 0):=rfl
theorem axi{A:Int}{g:G L}{r:Int}{h:G aw}(W:Oo A g r h){ab:G Int}(e:ab.B=mm A g r h):cO ab false=A∧aU Cm g.B (c6 ab).B∧cO (nq ab) (ml ab)=r∧aU Hh h.B (og ab).B∧fQ (pr ab) (qU ab) []:=by
 have f:fQ ab false (num A++(j5 rM g++(num r++(j5 p0 h++[])))):=⟨rfl,by rw[h_];exact e⟩;obtain⟨a,i⟩:=mq f W.a.1 W.a.2;obtain⟨b,j⟩:=az_ i W.b.1 W.b.2;obtain⟨c,k⟩:=mq j W.c.1 W.c.2;obtain⟨d,l⟩:=az8 k W.d.1 W.d.2;exact⟨a,b,c,d,l⟩
end
section
variable {α:Type}
def hk(s t:G α):Prop:=s.n=t.n∧ ∀i,i<s.n→s.at' i=t.at' i
theorem hk.of{s t:G α}(h:s.B=t.B):hk s t:=by
 have b:s.n=t.n:=by rw[←a_ s,←a_ t,h]
 refine⟨b,fun i a=> ?_⟩;have:=gy s a;rw[h,gy t (by omega)]at this;exact(jk this).symm
theorem hk.get{s t:G α}(h:hk s t){v:Int}(a:0≤v)(b:v<(s.n:Int)):s.at' (toNat v)=t.at' (toNat v):=h.2 _ (by omega)
theorem hk.part{s t:G α}(h:hk s t){v:Int}(b:v≤(s.n:Int)):hk (G.part s 0 v) (G.part t 0 v):=⟨rfl,fun i a=>h.2 _ (by
 have a:i<(v-0).toNat:=a;show(0:Int).toNat+i<s.n;omega)⟩
theorem Yf{R:α→α→Prop}{s t:G α}(h:aU R s.B t.B):s.n=t.n∧ ∀i,i<s.n→R (s.at' i) (t.at' i):=by
 have k: ∀(d c:List α),aU R d c→ ∀(i:Nat) (x y:α),d[i]? =some x→c[i]? =some y→R x y:=by
  intro d
  induction d with
  |nil=>exact fun c h i x y h=>by simp at h
  |cons a d j=>
   intro c h i x y e f
   cases c with
   |nil=>exact h.elim
   |cons b c=>
    cases i with
    |zero=>
     simp only[List.getElem?_cons_zero,gM]at e f;rw[←e,←f];exact h.1
    |succ i=>
     simp only[List.getElem?_cons_succ]at e f;exact j c h.2 i x y e f
 have l:=h.length;rw[a_,a_]at l;exact⟨l,fun i g=>k _ _ h i _ _ (gy s g) (gy t (by omega))⟩
end
theorem Fk{P Q:Int→Bool}{m:Nat}{i:Int}(h: ∀j,i≤j→j<i+m→P j=Q j):iH P m i=iH Q m i:=by
 rw[←GH P (fun _=>(0:Int)),←GH Q (fun _=>(0:Int)),BW m i h fun _ _ _=>rfl]
section
variable {gx hM:G u} {gF j7:G bl} {eE fv:G bH}
theorem amw(e:hk gx hM)(a:gx.n≤549755813888):Dv gx=Dv hM:=by
 rw[Ov gx a,Ov hM (by rw[←e.1];exact a),←e.1];exact Fk fun j b c=>by rw[e.get b (by omega)]
theorem amx(e:hk gx hM)(a:gx.n≤549755813888):Du gx=Du hM:=by
 rw[Ow gx a,Ow hM (by rw[←e.1];exact a),←e.1];exact Fk fun j b c=>by rw[e.get b (by omega)]
theorem amy(e:hk gF j7)(a:gF.n≤549755813888):zJ gF=zJ j7:=by
 rw[Ox gF a,Ox j7 (by rw[←e.1];exact a),←e.1];exact Fk fun j b c=>by rw[e.get b (by omega)]
theorem amz(e:hk eE fv)(a:eE.n≤549755813888):zL eE=zL fv:=by
 rw[Oy eE a,Oy fv (by rw[←e.1];exact a),←e.1];exact Fk fun j b c=>by rw[e.get b (by omega)]
theorem amA(e:hk eE fv)(a:eE.n≤549755813888):DD eE=DD fv:=by
 rw[Oz eE a,Oz fv (by rw[←e.1];exact a),←e.1];exact Fk fun j b c=>by rw[e.get b (by omega)]
theorem amB(e:hk gF j7)(a:gF.n≤549755813888):DE gF=DE j7:=by
 have k:DG gF=DG j7:=by
  unfold DG;rw[BV (DF gF) gF.n (fun i=>decide ((r0 (gF.at' (toNat (i64.wrap (i-1)))).q (gF.at' (toNat i)).q)≥0)) (fun _=>false) a (fun _ _=>rfl),BV (DF j7) j7.n (fun i=>decide ((r0 (j7.at' (toNat (i64.wrap (i-1)))).q (j7.at' (toNat i)).q)≥0)) (fun _=>false) (by rw[←e.1];exact a) (fun _ _=>rfl),←e.1];refine BW _ _ (fun j b c=> ?_) fun _ _ _=>rfl;rw[E (j-1),e.get (v:=j) (by omega) (by omega),e.get (v:=j-1) (by omega) (by omega)]
 unfold DE aaN;rw[k]
theorem amC(e:hk eE fv)(a:eE.n≤549755813888):DH eE=DH fv:=by
 have k:DJ eE=DJ fv:=by
  unfold DJ;rw[BV (DI eE) eE.n (fun i=>decide ((r1 (eE.at' (toNat (i64.wrap (i-1)))).q (eE.at' (toNat (i64.wrap (i-1)))).C (eE.at' (toNat i)).q (eE.at' (toNat i)).C)≥0)) (fun _=>false) a (fun _ _=>rfl),BV (DI fv) fv.n (fun i=>decide ((r1 (fv.at' (toNat (i64.wrap (i-1)))).q (fv.at' (toNat (i64.wrap (i-1)))).C (fv.at' (toNat i)).q (fv.at' (toNat i)).C)≥0)) (fun _=>false) (by rw[←e.1];exact a) (fun _ _=>rfl),←e.1];refine BW _ _ (fun j b c=> ?_) fun _ _ _=>rfl;rw[E (j-1),e.get (v:=j) (by omega) (by omega),e.get (v:=j-1) (by omega) (by omega)]
 unfold DH aaO;rw[k]
theorem amD(e:hk gx hM)(a:gx.n≤549755813888):DK gx=DK hM:=by
 have k:DM gx=DM hM:=by
  unfold DM;rw[BV (DL gx) gx.n (fun i=>decide ((ue (gx.at' (toNat (i64.wrap (i-1)))) (gx.at' (toNat i)))≥0)) (fun _=>false) a (fun _ _=>rfl),BV (DL hM) hM.n (fun i=>decide ((ue (hM.at' (toNat (i64.wrap (i-1)))) (hM.at' (toNat i)))≥0)) (fun _=>false) (by rw[←e.1];exact a) (fun _ _=>rfl),←e.1];refine BW _ _ (fun j b c=> ?_) fun _ _ _=>rfl;rw[E (j-1),e.get (v:=j) (by omega) (by omega),e.get (v:=j-1) (by omega) (by omega)]
 unfold DK aaP;rw[k]
theorem amE(e:hk eE fv)(a:eE.n≤549755813888)(c:u):jw eE c=jw fv c:=by
 have k:zZ eE c=zZ fv c:=by
  unfold zZ;rw[nw (zY eE c) eE.n (fun i=>wM (eE.at' (toNat i)).q c) (fun i=>i) a (fun _ _=>rfl),nw (zY fv c) fv.n (fun i=>wM (fv.at' (toNat i)).q c) (fun i=>i) (by rw[←e.1];exact a) (fun _ _=>rfl),←e.1];refine BW _ _ (fun j b d=> ?_) fun _ _ _=>rfl;rw[e.get b (by omega)]
 unfold jw Jb Rz;rw[k]
theorem YG(e:hk eE fv)(f:eE.n≤549755813888): ∀(k:Nat) (b:Bool) (i:Int),0≤i→i≤(eE.n:Int)→xv eE k b i=xv fv k b i
 |0,_,_,_,_=>rfl
 |k+1,b,i,a,d=>by
  rw[xv,xv,←e.1]
  by_cases c:i<(eE.n:Int)
  ·have m:Ko eE b i=Ko fv b i:=by
    unfold Ko;rw[e.get a c,amE (e.part d) (by show(i-0).toNat≤_;omega)]
   rw[bS c,aQ,aQ,m,E (i+1)];exact YG e f k _ _ (by omega) (by omega)
  ·rw[bp c];rfl
theorem amH(f:hk gx hM)(e:hk gF j7)(d:hk eE fv)(n:gx.n≤549755813888)(m:gF.n≤549755813888)(h:eE.n≤549755813888)(A:Int)(g:u)(r:Int):jb A g r gF gx eE=jb A g r j7 hM fv:=by
 have l: ∀(a i:G bl) (b j:G u) (c k:G bH),a.n=i.n→b.n=j.n→c.n=k.n→jW a b c=jW i j k:=fun a i b j c k o p q=>by unfold jW;rw[o,p,q]
 have v:l_ A g r gF gx eE=l_ A g r j7 hM fv:=by
  unfold l_;rw[l (sx A gF) (sx A j7) (sy A gx) (sy A hM) (sz A eE) (sz A fv)]
  ·unfold sx;cases A==1<;>cases A==2<;>cases A==3<;>first|exact e.1|rfl
  ·unfold sy;cases A==1<;>cases A==2<;>cases A==3<;>cases A==6<;>first|exact f.1|rfl
  ·unfold sz;cases A==1<;>cases A==2<;>cases A==3<;>cases A==6<;>first|exact d.1|rfl
 have w:n7 A gF gx eE=n7 A j7 hM fv:=by unfold n7;rw[l gF j7 gx hM eE fv e.1 f.1 d.1]
 have x:qy g gx=qy g hM:=by unfold qy;rw[amw f n]
 have s:qx r eE=qx r fv:=by unfold qx;rw[amA d h]
 have t:Kn A gF gx eE=Kn A j7 hM fv:=by unfold Kn;rw[amB e m,amC d h,amD f n]
 have y:Kp A gF gx eE=Kp A j7 hM fv:=by unfold Kp;rw[t,←d.1];exact YG d h _ _ _ (cR _) (by omega)
 unfold jb;rw[v,w,x,s,y,amy e m,amz d h]
theorem amG(e:hk gx hM)(a:gx.n≤549755813888)(A:Int)(g:u)(r:Int):qt A g r gx=qt A g r hM:=by
 unfold qt SK;rw[amx e a,e.1]
end
theorem amI{A:Int}{x y:G L}(f:dt x)(h:aU Cm x.B y.B):hp A x=hp A y:=by
 obtain⟨n,e⟩:=Yf h;have r: ∀v:Int,0≤v→v<(x.n:Int)→ma x v=ma y v∧nc A x v=nc A y v:=by
  intro v d i;have a:=e v.toNat (by omega);obtain⟨m,o,p⟩:=f.2 v.toNat (by omega);have b:=f.1;unfold ma nc;rw[amH (hk.of a.f) (hk.of a.e) (hk.of a.g) o m p,a.a,a.b,a.c,a.d,a.h];refine⟨?_,rfl⟩
  by_cases z:v>0
  ·have g:=e (v-1).toNat (by omega);rw[E (v-1),g.a]
  ·rw[bp z];rfl
 have l: ∀(k:Nat) (v:Int),0≤v→v≤(x.n:Int)→pa A x k v=pa A y k v:=by
  intro k
  induction k with
  |zero=>intro _ _ _;rfl
  |succ k j=>
   intro v d i;have b:=f.1;rw[pa,pa,←n]
   by_cases c:v<(x.n:Int)
   ·rw[(r v d c).1,(r v d c).2,E (v+1),j (v+1) (by omega) (by omega)]
   ·rw[bp c];rfl
 unfold hp Kr E6 uX;rw[←n,l _ _ (cR _) (by omega)]
theorem amJ{A r:Int}{g o:G L}{h d:G aw}(s:dt g)(j:ey h)(i:aU Cm g.B o.B)(q:aU Hh h.B d.B):dV A g r h=dV A o r d:=by
 obtain⟨n,e⟩:=Yf q;have m: ∀v:Int,0≤v→v<(h.n:Int)→sF r h v=sF r d v∧sE A h v=sE A d v:=by
  intro v f i;have a:=e v.toNat (by omega);have w:=j.2 v.toNat (by omega);have b:=j.1;unfold sF sE;rw[amG (hk.of a.g) w,a.a,a.b,a.c,a.d,a.e,a.f];refine⟨?_,rfl⟩
  by_cases z:v>0
  ·have p:=e (v-1).toNat (by omega);rw[E (v-1),p.a]
  ·rw[bp z];rfl
 have l: ∀(k:Nat) (v:Int),0≤v→v≤(h.n:Int)→sC A r h k v=sC A r d k v:=by
  intro k
  induction k with
  |zero=>intro _ _ _;rfl
  |succ k t=>
   intro v f i;have b:=j.1;rw[sC,sC,←n]
   by_cases c:v<(h.n:Int)
   ·rw[(m v f c).1,(m v f c).2,E (v+1),t (v+1) (by omega) (by omega)]
   ·rw[bp c];rfl
 unfold dV SN KD sD;rw[←n,l _ _ (cR _) (by omega),amI s i]
theorem aBi{A:Int}{g:u}{r:Int}{f:G bl}{i:G u}{j:G bH}(c:f.n≤549755813888)(d:i.n≤549755813888)(e:j.n≤549755813888)(h:jb A g r f i j=0):(1≤A∧A≤6)∧f.n+i.n+j.n≤20:=by
 unfold jb at h;obtain⟨k,h⟩:=dv h (by decide);obtain⟨a,h⟩:=dv h (by decide);obtain⟨b,h⟩:=dv h (by decide);unfold sw at k;obtain⟨l,m⟩:=cP k;have p:=db l;have z:=db m;refine⟨by omega,?_⟩
 by_cases n:A=1
 ·subst n;unfold l_ sx sy sz at a;simp only[pM,aQ]at a;obtain⟨_,a⟩:=cP a;obtain⟨_,a⟩:=cP a;rw[B0 _ _ _ c d e]at a;have:=db a;omega
 ·by_cases o:A=2
  ·subst o;unfold l_ sx sy sz at a;simp only[pM,Int.reduceBEq,aQ,aS]at a;obtain⟨_,a⟩:=cP a;obtain⟨_,a⟩:=cP a;rw[B0 _ _ _ c d e]at a;have:=db a;omega
  ·unfold n7 at b;rw[bS (show A≥3 by omega)]at b;simp only[aQ]at b;obtain⟨_,b⟩:=cP b;rw[B0 _ _ _ c d e]at b;have:=db b;omega
theorem Bn{α:Type}{s:G α}{x:α}(h:x∈s.B): ∃i,i<s.n∧s.at' i=x:=by
 obtain⟨i,a⟩:=ov h;have b:i<s.n:=by rw[←a_ s];exact(hv.1 a).1
 rw[gy s b]at a;exact⟨i,b,jk a⟩
theorem Z0{α:Type}{enc:α→List Int}{m:Nat} : ∀{l:List α},(∀x∈l,(enc x).length≤m)→(l.flatMap enc).length≤l.length*m
 |[],_=>cf _
 |x::l,h=>by
  rw[gO,dC,dr,ir];have:=h x (List.mem_cons_self ..);have:=Z0 (l:=l) fun y a=>h y (List.mem_cons_of_mem _ a);omega
theorem Bg{α:Type}{enc:α→List Int}{m:Nat}{s:G α}(h: ∀x∈s.B,(enc x).length≤m):(j5 enc s).length≤s.n*m+1:=by
 show(s.B.flatMap enc).length+1≤_;have:=Z0 h;rw[a_]at this;omega
theorem an1{x:L}(w:x.w.n≤549755813888∧x.m.n≤549755813888∧x.N.n≤549755813888)(h:Hj x)(g:jb x.C x.z x.I x.w x.m x.N=0):Hk x∧(rM x).length≤902:=by
 obtain⟨k,⟨u,v,f,j,l⟩,r,t⟩:=h;obtain⟨n,q⟩:=aBi w.1 w.2.1 w.2.2 g;have c: ∀y∈x.w.B,y.q.size≤20∧y.C.size≤20:=fun y a=>by obtain⟨i,b,rfl⟩:=Bn a;exact f i b
 have d: ∀y∈x.m.B,y.size≤20:=fun y a=>by obtain⟨i,b,rfl⟩:=Bn a;exact j i b
 have e: ∀y∈x.N.B,y.q.size≤20∧ -1099511627776≤y.C∧y.C≤1099511627776:=fun y a=>by obtain⟨i,b,rfl⟩:=Bn a;exact l i b
 refine⟨⟨by omega,⟨by omega,by omega,⟨by omega,by omega⟩,⟨by omega,fun y a=> ?_⟩,⟨by omega,fun y a=> ?_⟩,⟨by omega,fun y a=> ?_⟩⟩,⟨by omega,by omega⟩⟩,?_⟩
 ·have:=c y a;omega
 ·have:=d y a;omega
 ·have:=e y a;exact⟨by omega,by omega,by omega⟩
 ·have nn:=Bg (enc:=yi) (m:=42) (s:=x.w) fun y a=>by
   have:=c y a;unfold yi;rw[dC,vn,vn];omega
  have o:=Bg (enc:=h7) (m:=42) (s:=x.m) fun y a=>by
   have:=d y a;rw[vn];omega
  have p:=Bg (enc:=yt) (m:=42) (s:=x.N) fun y a=>by
   have:=e y a;unfold yt;rw[dC,vn,vm];omega
  unfold rM B4;simp only[dC,dr,vn,vm];omega
theorem am6{x:aw}(h:Om x):Hi x∧(p0 x).length≤475:=by
 obtain⟨⟨a,b,c⟩,⟨d,t,n⟩,nn,g⟩:=h;have p: ∀y∈x.N.B,y.size≤20:=fun y e=>by obtain⟨i,f,rfl⟩:=Bn e;exact g i f
 refine⟨⟨⟨by omega,by omega⟩,⟨by omega,by omega⟩,⟨by omega,by omega⟩,by omega,by omega,⟨by omega,by omega⟩,by omega,fun y e=>by have:=p y e;omega⟩,?_⟩;have l:=Bg (enc:=h7) (m:=21) (s:=x.N) fun y e=>by
  have:=p y e;rw[vn];omega
 unfold p0;simp only[dC,dr,vn,vm];omega
theorem afm{A:Int}{g:G L}{r:Int}{h:G aw}(n:dt g)(u:ey h)(l:dV A g r h=0):Oo A g r h∧(mm A g r h).length≤13000:=by
 obtain⟨⟨a,b,c,d⟩,e,k⟩:=gU A g r h n u l;have t:hp A g=0:=by
  unfold dV at l;obtain⟨m,_⟩:=dv l (by decide);unfold sD at m;exact bB (cP m).1
 have q:=c0 n t;have o: ∀y∈g.B,Hk y∧(rM y).length≤902:=fun y f=>by obtain⟨i,j,rfl⟩:=Bn f;exact an1 (n.2 i j) (e i j) (q.ok _ f)
 have p: ∀y∈h.B,Hi y∧(p0 y).length≤475:=fun y f=>by obtain⟨i,j,rfl⟩:=Bn f;exact am6 (k i j)
 refine⟨⟨⟨by omega,by omega⟩,⟨by omega,fun y f=>(o y f).1⟩,⟨by omega,by omega⟩,⟨by omega,fun y f=>(p y f).1⟩⟩,?_⟩;have nn:=Bg (s:=g) fun y f=>(o y f).2;have v:=Bg (s:=h) fun y f=>(p y f).2;unfold mm;simp only[dC,vm];omega
theorem axh{A:Int}{g:G L}{r:Int}{h:G aw}(i:dt g)(j:ey h)(f:dV A g r h=0){s:G Int}(m:s.B=mm A g r h):KE s=0∧dV (xx s) (qC s) (xy s) (qD s)=0:=by
 obtain⟨W,n⟩:=afm i j f;obtain⟨a,b,c,d,t,u⟩:=axi W m;have l:s.n≤13000:=by rw[←a_,m];exact n
 have e:fS true (pr s) (qU s)=0:=by
  have z:(pr s).n=0:=by rw[←a_,u];rfl
  unfold fS Rg;rw[t,z];rfl
 have k:dV (cO s false) (c6 s) (cO (nq s) (ml s)) (og s)=0:=by rw[a,c,←amJ i j b d];exact f
 have o:xx s=(bif decide ((s.n:Int)>20000)then 0 else bif(fS true (pr s) (qU s)!=0)then 0 else bif(dV (cO s false) (c6 s) (cO (nq s) (ml s)) (og s)!=0)then 0 else cO s false):=rfl;have q1:qC s=(bif decide ((s.n:Int)>20000)then D else bif(fS true (pr s) (qU s)!=0)then D else bif(dV (cO s false) (c6 s) (cO (nq s) (ml s)) (og s)!=0)then D else c6 s):=rfl;have p:xy s=(bif decide ((s.n:Int)>20000)then 0 else bif(fS true (pr s) (qU s)!=0)then 0 else bif(dV (cO s false) (c6 s) (cO (nq s) (ml s)) (og s)!=0)then 0 else cO (nq s) (ml s)):=rfl;have q:qD s=(bif decide ((s.n:Int)>20000)then D else bif(fS true (pr s) (qU s)!=0)then D else bif(dV (cO s false) (c6 s) (cO (nq s) (ml s)) (og s)!=0)then D else og s):=rfl;rw[o,q1,p,q,aqi,e,k,bp (show¬(s.n:Int)>20000 by omega)];exact⟨rfl,k⟩
def fj(n:Int):List Int:=[n/65536%256,n/256%256,n%256]
theorem Cg(n:Int):(hH n).B=fj n:=by
 unfold hH;rw[jn,IntKind.wrap_u8,IntKind.wrap_u8,IntKind.wrap_u8];rfl
theorem tP{s:G Int}{l:List Int}(h:s.B=l){i:Nat}{x:Int}(a:l[i]? =some x):s.at' i=x:=by
 have b:i<s.n:=by rw[←a_ s,h];exact(hv.1 a).1
 have:=gy s b;rw[h,a]at this;exact(jk this).symm
theorem B3{s:G Int}(a:aD s){v:Int}{l:List Int}(h:s.B=fj v++l)(b:0≤v∧v<16777216):ek s=v:=by
 rw[Zs s a,tP h (i:=0) rfl,tP h (i:=1) rfl,tP h (i:=2) rfl];omega
theorem tE{s:G Int}{a l:List Int}(h:s.B=a++l){n:Int}(c:n=(a.length:Int)):(G.part s n (s.n:Int)).B=l:=by
 have b:s.n=a.length+l.length:=by rw[←a_,h,dC]
 rw[pO _ _ _ (by omega) (by omega) (by omega),h,show n.toNat=a.length by omega,List.drop_left,List.take_of_length_le (by omega)]
def lh(r:bo):Prop:=ff r.q r.C r.z r.I r.w r.m r.N r.ao r.i r.aC r.bU r.bY r.bN r.cc r.aY r.cU r.eI r.ei r.eJ r.ej=0
structure kU (r:bo):Prop where
 c:lh r
 z:dt r.ei
 y:ey r.ej
def j4(r:bo):aq:=⟨r.w,r.m,r.N,r.ao,r.i,r.aC,r.bU,r.bY,r.bN,r.cc⟩
def e6(r:bo):List Int:=bif r.q==1 then 1::(fj r.C++[r.z+1])else bif r.q==2 then 2::(fj r.I++mi (j4 r))else 3::(fj r.aY++(fj r.cU++mm r.eI r.ei r.eJ r.ej))
theorem i153{x:Int}(h:(!(nP x))=false):1≤x∧x≤1048576:=by
 unfold nP I1 at h
 by_cases a:x≥1
 ·by_cases b:x≤1048576
  ·omega
  ·rw[bS a,bp b]at h;cases h
 ·rw[bp a]at h;cases h
theorem f153{x:Int}(h:1≤x∧x≤1048576):(!(nP x))=false:=by
 unfold nP I1;rw[bS h.1,bS h.2];rfl
theorem GC{r:bo}(h:lh r):(r.q=1∧(1≤r.C∧r.C≤1048576)∧ -1≤r.z∧r.z<3)∨(r.q=2∧(1≤r.I∧r.I≤1048576)∧pR (j4 r))∨(r.q=3∧(1≤r.aY∧r.aY≤1048576)∧(1≤r.cU∧r.cU≤1048576)∧dV r.eI r.ei r.eJ r.ej=0):=by
 unfold lh ff at h;obtain⟨e,h⟩:=dv h (by decide);obtain⟨j,h⟩:=dv h (by decide);unfold SO at e;obtain⟨f,g⟩:=cP e;have:=db f;have:=db g
 by_cases b:r.q=1
 ·rw[show(r.q==1)=true from iM.2 b,aQ]at h;obtain⟨m,_⟩:=dv h (by decide);unfold AU at m;obtain⟨d,a⟩:=cP m;obtain⟨a,i⟩:=cP a;have:=db a;have:=db i;exact .inl ⟨b,i153 d,by omega,by omega⟩
 rw[hx.2 b,aS]at h
 by_cases c:r.q=2
 ·rw[show(r.q==2)=true from iM.2 c,aQ]at h;obtain⟨m,h⟩:=dv h (by decide);exact .inr (.inl ⟨c,i153 m,h⟩)
 rw[hx.2 c,aS]at h;unfold lC at h;obtain⟨m,h⟩:=dv h (by decide);unfold E7 at m;obtain⟨d,a⟩:=cP m;exact .inr (.inr ⟨by omega,i153 d,i153 a,h⟩)
theorem Qj{r:bo}(h:kU r):(jx r.q r.C r.z r.I r.w r.m r.N r.ao r.i r.aC r.bU r.bY r.bN r.cc r.aY r.cU r.eI r.ei r.eJ r.ej).B=e6 r∧(5≤(e6 r).length∧(e6 r).length≤14000):=by
 unfold e6 jx;rcases GC h.c with⟨k,a,b,c⟩|⟨k,a,b⟩|⟨k,a,b,c⟩
 ·rw[k];refine⟨?_,(by decide:5≤5),(by decide:5≤14000)⟩;show(G.app (G.app (G.lit ([1]:List Int)) (hH r.C)) (G.lit ([(u8.wrap (i64.wrap (r.z+1)))]:List Int))).B=1::(fj r.C++[r.z+1]);rw[jm,jm,jn,jn,Cg,E (r.z+1),IntKind.wrap_u8,show(r.z+1)%256=r.z+1 by omega];rfl
 ·rw[k];have n:=T8 b;refine⟨?_,?_⟩
  ·show(G.app (G.app (G.lit ([2]:List Int)) (hH r.I)) (o9 r.w r.m r.N r.ao r.i r.aC r.bU r.bY r.bN r.cc)).B=2::(fj r.I++mi (j4 r));rw[jm,jm,jn,Cg,show(o9 r.w r.m r.N r.ao r.i r.aC r.bU r.bY r.bN r.cc).B=mi (j4 r)from atk b];rfl
  ·show 5≤(2::(fj r.I++mi (j4 r))).length∧(2::(fj r.I++mi (j4 r))).length≤14000;simp only[dr,dC,fj,fH];omega
 ·rw[k];obtain⟨W,n⟩:=afm h.z h.y c;have e:jz r.eI r.ei r.eJ r.ej=uY r.eI r.ei r.eJ r.ej:=by unfold jz;rw[c];rfl
  have m:=axj W;have d:(jz r.eI r.ei r.eJ r.ej).n≤13000:=by rw[e,←a_,m];exact n
  refine⟨?_,?_⟩
  ·show(r7 (G.lit ([(G.lit ([3]:List Int)),(hH r.aY),(hH r.cU),(jz r.eI r.ei r.eJ r.ej)]:List (G Int)))).B=3::(fj r.aY++(fj r.cU++mm r.eI r.ei r.eJ r.ej));rw[Xi (by show 1≤1000000;decide) (by show 3≤1000000;decide) (by show 3≤1000000;decide) (by omega),jn,Cg,Cg,e,m];rfl
  ·show 5≤(3::(fj r.aY++(fj r.cU++mm r.eI r.ei r.eJ r.ej))).length∧(3::(fj r.aY++(fj r.cU++mm r.eI r.ei r.eJ r.ej))).length≤14000;simp only[dr,dC,fj,fH];omega
def eK(r:bo):List Int:=fj ((e6 r).length:Int)++e6 r
def dec(s:G Int):bo:=⟨Iy s,Iz s,IK s,IL s,IM s,IN s,IP s,IQ s,IS s,IT s,IA s,IB s,IC s,ID s,IE s,IF s,IG s,IH s,II s,IJ s⟩
def vL(r y:bo):Prop:=y.q=r.q∧(r.q=1→y.C=r.C∧y.z=r.z)∧(r.q=2→y.I=r.I∧j4 y=j4 r)∧(r.q=3→y.aY=r.aY∧y.cU=r.cU)
theorem aAd{r:bo}(h:kU r){s:G Int}(u6:aD s)(f:s.B=e6 r):zz s=true∧vL r (dec s)∧lh (dec s):=by
 have p:s.n=(e6 r).length:=by rw[←a_,f]
 have U: ∀l h,aD (G.part s l h):=fun l h=>ld u6;have V:ho s=true→Dj s=0→ff (m1 s) (m2 s) (m3 s) (m4 s) (m5 s) (m6 s) (mN s) (mO s) (mP s) (mQ s) (mR s) (mS s) (mT s) (mU s) (mV s) (mW s) (mX s) (mY s) (mZ s) (m0 s)=0→zz s=true∧dec s=⟨m1 s,m2 s,m3 s,m4 s,m5 s,m6 s,mN s,mO s,mP s,mQ s,mR s,mS s,mT s,mU s,mV s,mW s,mX s,mY s,mZ s,m0 s⟩:=by
  intro a b c;refine⟨?_,?_⟩
  ·unfold zz aax;rw[a,b,c];rfl
  ·unfold dec Iy Iz IK IL IM IN IP IQ IS IT IA IB IC ID IE IF IG IH II IJ;rw[a];rfl
 have fZ:=(Qj h).2;rcases GC h.c with⟨k,a,b,c⟩|⟨k,a,b⟩|⟨k,a,b,c⟩
 ·have e:e6 r=1::(fj r.C++[r.z+1]):=by unfold e6;rw[k];rfl
  rw[e]at f p;have d:er s=true:=by
   unfold er;rw[tP f (i:=toNat 0) rfl,p];rfl
  have v:ek (G.part s 1 (s.n:Int))=r.C:=B3 (U _ _) (tE (a:=[1]) f rfl) (by omega);have v2:i64.wrap ((i64.wrap (s.at' (toNat 4)))-1)=r.z:=by
   rw[tP f (i:=toNat 4) rfl,E (r.z+1),E _];omega
  have m:ff 1 r.C r.z 0 0 0 false 0 0 0 ⟨#[]⟩ ⟨#[]⟩ ⟨#[]⟩ 0 0 0 0 D 0 D=0:=by
   have W:AU r.C r.z=false:=by
    unfold AU;rw[f153 a,bp (by omega),bp (by omega)];rfl
   unfold ff SP;rw[pM (⟨#[]⟩:u).toList];show(cond (AU r.C r.z) (2:Int) 0)=0;rw[W];rfl
  have j:m1 s=1:=by unfold m1;rw[d];rfl
  have Gv:m2 s=r.C:=by unfold m2;rw[d];exact v
  have Gw:m3 s=r.z:=by unfold m3;rw[d];exact v2
  have z:m4 s=0∧m5 s=0∧m6 s=0∧mN s=false∧mO s=0∧mP s=0∧mQ s=0∧mR s=⟨#[]⟩∧mS s=⟨#[]⟩∧mT s=⟨#[]⟩∧mU s=0∧mV s=0∧mW s=0∧mX s=0∧mY s=D∧mZ s=0∧m0 s=D:=by
   unfold m4 m5 m6 mN mO mP mQ mR mS mT mU mV mW mX mY mZ m0;rw[d];exact⟨rfl,rfl,rfl,rfl,rfl,rfl,rfl,rfl,rfl,rfl,rfl,rfl,rfl,rfl,rfl,rfl,rfl⟩
  obtain⟨R,S,T,w,y,A,B,C,F,H,I,J,K,L,M,N,O⟩:=z;obtain⟨t,o⟩:=V (by unfold ho;rw[d];rfl) (by unfold Dj;rw[d];rfl) (by rw[j,Gv,Gw,R,S,T,w,y,A,B,C,F,H,I,J,K,L,M,N,O];exact m);refine⟨t,?_,?_⟩
  ·rw[o];exact⟨by rw[k];exact j,fun _=>⟨Gv,Gw⟩,fun x=>absurd (k.symm.trans x) (by decide),fun x=>absurd (k.symm.trans x) (by decide)⟩
  ·rw[o];show ff (m1 s) (m2 s) (m3 s) (m4 s) (m5 s) (m6 s) (mN s) (mO s) (mP s) (mQ s) (mR s) (mS s) (mT s) (mU s) (mV s) (mW s) (mX s) (mY s) (mZ s) (m0 s)=0;rw[j,Gv,Gw,R,S,T,w,y,A,B,C,F,H,I,J,K,L,M,N,O];exact m
 ·have e:e6 r=2::(fj r.I++mi (j4 r)):=by unfold e6;rw[k];rfl
  have n:=T8 b;rw[e]at f p;have Fp:s.n=4+(mi (j4 r)).length:=by rw[p];simp only[dr,dC,fj,fH];omega
  have d:er s=false:=by
   unfold er;rw[hx.2 (by omega)];rfl
  have g:e8 s=true:=by
   unfold e8;rw[tP f (i:=toNat 0) rfl,bS (by omega)];rfl
  have v:ek (G.part s 1 (s.n:Int))=r.I:=B3 (U _ _) (tE (a:=[2]) f rfl) (by omega);obtain⟨⟨i0,i1,i2,i3,i4,i5,i6,i7,i8,i9⟩,i10⟩:=ati b (s:=G.part s 4 (s.n:Int)) (tE (a:=2::fj r.I) f rfl);have m:ff 2 0 0 r.I r.w r.m r.N r.ao r.i r.aC r.bU r.bY r.bN r.cc 0 0 0 D 0 D=0:=by
   show(cond (!(nP r.I)) (2:Int) (e_ r.w r.m r.N r.ao r.i r.aC r.bU r.bY r.bN r.cc))=0;rw[f153 a];exact b
  have j:m1 s=2:=by unfold m1;rw[d,g];rfl
  have q:m4 s=r.I∧m5 s=r.w∧m6 s=r.m∧mN s=r.N∧mO s=r.ao∧mP s=r.i∧mQ s=r.aC∧mR s=r.bU∧mS s=r.bY∧mT s=r.bN∧mU s=r.cc:=by
   unfold m4 m5 m6 mN mO mP mQ mR mS mT mU;rw[d,g];exact⟨v,i0,i1,i2,i3,i4,i5,i6,i7,i8,i9⟩
  have z:m2 s=0∧m3 s=0∧mV s=0∧mW s=0∧mX s=0∧mY s=D∧mZ s=0∧m0 s=D:=by
   unfold m2 m3 mV mW mX mY mZ m0;rw[d,g];exact⟨rfl,rfl,rfl,rfl,rfl,rfl,rfl,rfl⟩
  obtain⟨Gx,Gy,VT,X,Y,Z,VL,VM,VN,VO,VP⟩:=q;obtain⟨P,Q,J,K,L,M,N,O⟩:=z;obtain⟨t,o⟩:=V (by unfold ho;rw[d,g];rfl) (by unfold Dj;rw[d,g];exact i10) (by rw[j,P,Q,Gx,Gy,VT,X,Y,Z,VL,VM,VN,VO,VP,J,K,L,M,N,O];exact m);refine⟨t,?_,?_⟩
  ·rw[o];refine⟨by rw[k];exact j,fun x=>absurd (k.symm.trans x) (by decide),fun _=>⟨Gx,?_⟩,fun x=>absurd (k.symm.trans x) (by decide)⟩;unfold j4;rw[Gy,VT,X,Y,Z,VL,VM,VN,VO,VP]
  ·rw[o];show ff (m1 s) (m2 s) (m3 s) (m4 s) (m5 s) (m6 s) (mN s) (mO s) (mP s) (mQ s) (mR s) (mS s) (mT s) (mU s) (mV s) (mW s) (mX s) (mY s) (mZ s) (m0 s)=0;rw[j,P,Q,Gx,Gy,VT,X,Y,Z,VL,VM,VN,VO,VP,J,K,L,M,N,O];exact m
 ·have e:e6 r=3::(fj r.aY++(fj r.cU++mm r.eI r.ei r.eJ r.ej)):=by unfold e6;rw[k];rfl
  rw[e]at f p;have aEh:18≤(mm r.eI r.ei r.eJ r.ej).length:=by
   unfold mm j5;simp only[dC,dr,vm];omega
  have Fp:s.n=7+(mm r.eI r.ei r.eJ r.ej).length:=by rw[p];simp only[dr,dC,fj,fH];omega
  have d:er s=false:=by
   unfold er;rw[hx.2 (by omega)];rfl
  have g:e8 s=false:=by
   unfold e8;rw[tP f (i:=toNat 0) rfl,bS (by omega)];rfl
  have W:rW s=true:=by
   unfold rW;rw[tP f (i:=toNat 0) rfl,bS (by omega)];rfl
  have v:ek (G.part s 1 (s.n:Int))=r.aY:=B3 (U _ _) (tE (a:=[3]) f rfl) (by omega);have v2:ek (G.part s 4 (s.n:Int))=r.cU:=B3 (U _ _) (tE (a:=3::fj r.aY) f rfl) (by omega);obtain⟨d1,d2⟩:=axh h.z h.y c (s:=G.part s 7 (s.n:Int)) (tE (a:=3::(fj r.aY++fj r.cU)) (by rw[f];simp) rfl);have m:ff 3 0 0 0 0 0 false 0 0 0 ⟨#[]⟩ ⟨#[]⟩ ⟨#[]⟩ 0 r.aY r.cU (xx (G.part s 7 (s.n:Int))) (qC (G.part s 7 (s.n:Int))) (xy (G.part s 7 (s.n:Int))) (qD (G.part s 7 (s.n:Int)))=0:=by
   unfold ff SP;rw[pM (⟨#[]⟩:u).toList];show lC r.aY r.cU _ _ _ _=0;unfold lC E7;rw[f153 a,f153 b];exact d2
  have j:m1 s=3:=by unfold m1;rw[d,g];rfl
  have q:mV s=r.aY∧mW s=r.cU∧mX s=xx (G.part s 7 (s.n:Int))∧mY s=qC (G.part s 7 (s.n:Int))∧mZ s=xy (G.part s 7 (s.n:Int))∧m0 s=qD (G.part s 7 (s.n:Int)):=by
   unfold mV mW mX mY mZ m0;rw[d,g];exact⟨v,v2,rfl,rfl,rfl,rfl⟩
  have z:m2 s=0∧m3 s=0∧m4 s=0∧m5 s=0∧m6 s=0∧mN s=false∧mO s=0∧mP s=0∧mQ s=0∧mR s=⟨#[]⟩∧mS s=⟨#[]⟩∧mT s=⟨#[]⟩∧mU s=0:=by
   unfold m2 m3 m4 m5 m6 mN mO mP mQ mR mS mT mU;rw[d,g];exact⟨rfl,rfl,rfl,rfl,rfl,rfl,rfl,rfl,rfl,rfl,rfl,rfl,rfl⟩
  obtain⟨VQ,VR,agA,agB,agC,agD⟩:=q;obtain⟨P,Q,R,S,T,w,y,A,B,C,F,H,I⟩:=z;obtain⟨t,o⟩:=V (by unfold ho;rw[d,g,W];rfl) (by unfold Dj;rw[d,g];exact d1) (by rw[j,P,Q,R,S,T,w,y,A,B,C,F,H,I,VQ,VR,agA,agB,agC,agD];exact m);refine⟨t,?_,?_⟩
  ·rw[o];exact⟨by rw[k];exact j,fun x=>absurd (k.symm.trans x) (by decide),fun x=>absurd (k.symm.trans x) (by decide),fun _=>⟨VQ,VR⟩⟩
  ·rw[o];show ff (m1 s) (m2 s) (m3 s) (m4 s) (m5 s) (m6 s) (mN s) (mO s) (mP s) (mQ s) (mR s) (mS s) (mT s) (mU s) (mV s) (mW s) (mX s) (mY s) (mZ s) (m0 s)=0;rw[j,P,Q,R,S,T,w,y,A,B,C,F,H,I,VQ,VR,agA,agB,agC,agD];exact m
theorem gm{α:Type}{P:α→Prop}{c:Bool}{a b:α}(d:P a)(e:P b):P (cond c a b):=by
 cases c
 ·exact e
 ·exact d
theorem amd{α:Type}{P:α→Prop}{c:Bool}{a b:α}(d:c=true→P a)(e:c=false→P b):P (cond c a b):=by
 cases c
 ·exact e rfl
 ·exact d rfl
def ib(k:Nat)(e:L):Prop:=e.w.n≤k∧e.m.n≤k∧e.N.n≤k
def Hp(k:Nat)(e:aw):Prop:=e.N.n≤k
section
variable {α:Type} [Inhabited α] {Pa:α→Prop} {ab:G α} {pE:α}
theorem Ye(h: ∀i,Pa (ab.at' i))(b:Pa pE)(a:Pa default): ∀i,Pa ((G.app ab (G.lit [pE])).at' i):=by
 intro i;show Pa (cond (Nat.blt i ab.n) (ab.at' i) (([pE]:List α).getD (i-ab.n) default));refine gm (h i) ?_
 match i-ab.n with
 |0=>exact b
 |_+1=>exact a
theorem nE(h: ∀i,Pa (ab.at' i))(a:Pa pE)(j:Nat): ∀i,Pa ((ab.cp j pE).at' i):=fun i=>gm (h i|>fun _=>a) (h i)
theorem alX(h: ∀i,Pa (ab.at' i))(a:Pa pE)(j:Nat): ∀i,Pa ((ab.ins j pE).at' i):=fun i=>gm (h i) (gm a (h _))
theorem Py(h: ∀i,Pa (ab.at' i))(j k:Nat): ∀i,Pa ((ab.del j k).at' i):=fun i=>gm (h i) (h _)
theorem CA{L:Nat→Int→G α→G α}{n:Nat}{f:Int→α}(e: ∀v a,L 0 v a=default)(d: ∀k v a,L (k+1) v a=bif decide (v<(n:Int))then L k (i64.wrap (v+1)) (G.app a (G.lit [f v]))else a)(l:n≤549755813888)(b:Pa default)(h: ∀v:Int,0≤v→v<(n:Int)→Pa (f v)):
  ∀(k:Nat) (v:Int) (a:G α),0≤v→v≤(n:Int)→(∀i,Pa (a.at' i))→(∀i,Pa ((L k v a).at' i))∧(L k v a).n≤a.n+k
 |0,v,a,_,_,_=>by
  rw[e];exact⟨fun _=>b,cf _⟩
 |k+1,v,a,j,m,g=>by
  rw[d]
  by_cases c:v<(n:Int)
  ·rw[bS c,aQ,E (v+1)];obtain⟨q1,o⟩:=CA e d l b h k (v+1) _ (by omega) (by omega) (Ye g (h v j c) b);refine⟨q1,?_⟩;have:(G.app a (G.lit [f v])).n=a.n+1:=rfl;omega
  ·rw[bp c];exact⟨g,pJ _ _⟩
end
theorem Pz{L:Nat→Int→G u→G u}{n:Nat}{f:Int→u}(c: ∀v a,L 0 v a=default)(b: ∀k v a,L (k+1) v a=bif decide (v<(n:Int))then L k (i64.wrap (v+1)) (G.app a (G.lit [f v]))else a)(d:n≤549755813888)(a:G u):(L (toNat ((n:Int)-0)+1) 0 a).n≤a.n+n+1:=by
 have k:=(CA (Pa:=fun _=>True) c b d trivial (fun _ _ _=>trivial) (toNat ((n:Int)-0)+1) 0 a (cR _) (by omega) fun _=>trivial).2;omega
section
variable {A:Int} {g r h:u} {o now:Int} {ab:G L} {ft:Nat}
theorem C2:ib ft default:=⟨cf _,cf _,cf _⟩
theorem bE{α:Type}{c:Bool}{a b:G α}{m:Nat}(d:a.n≤m)(e:b.n≤m):(cond c a b).n≤m:=gm (P:=fun ab:G α=>ab.n≤m) d e
theorem aCB{A:Int}{g:u}{r:Int}{h:G bl}{o:G u}{c:G bH}{v:Int}{y p x:u}{R:Int}(s:h.n≤1048576)(k:o.n≤1048576)(q:c.n≤1048576):
  (QS A g r h o c v y p x R).n≤1048577∧(QT A g r h o c v y p x R).n≤1048577∧(QU A g r h o c v y p x R).n≤1048577∧(QV A g r h o c v y p x R).n≤4000000:=by
 have z: ∀{α:Type} [Inhabited α] {m:Nat},(D:G α).n≤m:=cf _;have d: ∀{α:Type} (ab:G α) (i j:Nat),(ab.del i j).n≤ab.n:=fun ab i j=>Nat.sub_le _ _;have b:h.n≤1048577:=by omega
 have a:o.n≤1048577:=by omega
 have e:c.n≤1048577:=by omega
 have n: ∀w,(Aa w c).n≤1048576:=fun w=>bE (dB (d _ _ _) q) q;have t:(abK v o).n≤1048577:=by
  refine bE ?_ ?_
  ·show(i64.wrap ((o.n:Int)-1)-0).toNat≤_;rw[E _];omega
  ·show((o.n:Int)-1).toNat≤_;omega
 refine⟨bE z (bE z (bE z (bE (bE b (bE z ?_)) b))),bE z (bE z (bE z (bE (bE a (bE z ?_)) a))),bE z (bE z (bE z (bE (bE e (bE z ?_)) e))),bE z (bE z (bE z (bE ?_ z)))⟩
 ·exact bE z (bE b (bE b (bE b (bE b (bE (bE (bE (dB (d _ _ _) b) b) (bE b (bE b (bE (Nat.succ_le_succ s) b)))) b)))))
 ·exact bE z (bE a (bE a (bE a (bE a (bE a (bE (bE t (bE a (bE (Nat.succ_le_succ k) (Nat.succ_le_succ k)))) (bE (bE (bE (dB (d _ _ _) a) a) (bE a (bE (Nat.succ_le_succ k) a))) a)))))))
 ·exact bE z (bE e (bE e (bE e (bE e (bE e (bE e (bE e (bE e (bE e (bE e (bE (dB (n _) (by decide)) (Nat.succ_le_succ (n _)))))))))))))
 ·refine bE z (bE z (bE (bE z z) (bE z (bE ?_ (bE (bE z (bE z (bE z (bE z (bE z z))))) (bE (bE z (bE z z)) (bE (bE z (bE z z)) (bE z (bE z (bE z z))))))))));have B:(z_ h o).n≤o.n+h.n+1:=Pz (L:=Jk h) (f:=fun l=>(h.at' (toNat l)).q) (fun _ _=>rfl) (fun _ _ _=>rfl) (by omega) o;have C:(RQ h o c).n≤(z_ h o).n+c.n+1:=Pz (L:=Jl c) (f:=fun l=>(c.at' (toNat l)).q) (fun _ _=>rfl) (fun _ _ _=>rfl) (by omega) _;omega
theorem aCA(d: ∀i,ib 1048576 (ab.at' i))(n:ab.n≤12):(∀i,ib 1048577 ((ub A g r h o now ab).at' i))∧(ub A g r h o now ab).n≤13∧(QX A g r h o ab).n≤4000000:=by
 have e: ∀i,ib 1048577 (ab.at' i):=fun i=>⟨ow (d i).1,ow (d i).2.1,ow (d i).2.2⟩;have z: ∀{α:Type} [Inhabited α] {m:Nat},(D:G α).n≤m:=cf _;have V:=aCB (A:=p7 g ab) (g:=p8 g ab) (r:=p9 g ab) (h:=oS g ab) (o:=oT g ab) (c:=oU g ab) (v:=A) (y:=g) (p:=r) (x:=h) (R:=o) (bE (d _).1 z) (bE (d _).2.1 z) (bE (d _).2.2 z);have j: ∀a i f,∀t,ib 1048577 ((zH a i f ab).at' t):=fun a i f=>gm (P:=fun ab:G L=> ∀t,ib 1048577 (ab.at' t)) (alX e ⟨z,z,z⟩ _) e;have aZ:(aaC ab).n≤0+ab.n+1:=Pz (L:=IW ab) (f:=fun u=>(ab.at' (toNat u)).q) (fun _ _=>rfl) (fun _ _ _=>rfl) (by omega) D;have Q: ∀{k:Bool} {a b:G L},(∀t,ib 1048577 (a.at' t))→(∀t,ib 1048577 (b.at' t))→ ∀t,ib 1048577 ((cond k a b).at' t):=fun {k a b} q s=>gm (P:=fun ab:G L=> ∀t,ib 1048577 (ab.at' t)) q s;refine⟨Q e (Q (Q e (Py e _ _)) (Q (Q e (Q e (Q e (nE e ?_ _)))) (Q (Q e (Q (Py e _ _) (Q (Q ?_ ?_) e))) e))),?_,bE (by omega) (bE z (bE z (bE V.2.2.2 z)))⟩
 ·exact⟨(e _).1,(e _).2.1,(e _).2.2⟩
 ·refine nE (nE (j _ _ _) ?_ _) ?_ _
  ·exact⟨V.1,V.2.1,V.2.2.1⟩
  ·exact⟨(nE (Pa:=ib 1048577) (j _ _ _) ⟨V.1,V.2.1,V.2.2.1⟩ _ _).1,(nE (Pa:=ib 1048577) (j _ _ _) ⟨V.1,V.2.1,V.2.2.1⟩ _ _).2.1,(nE (Pa:=ib 1048577) (j _ _ _) ⟨V.1,V.2.1,V.2.2.1⟩ _ _).2.2⟩
 ·refine nE (j _ _ _) ?_ _;exact⟨V.1,V.2.1,V.2.2.1⟩
 ·have l: ∀i,(Dt i ab).n≤13:=fun i=>dB (Nat.sub_le _ _) (ow n);have d:ab.n≤13:=by omega
  have j: ∀ft i f,(zH ft i f ab).n≤13:=fun ft i f=>bE (Nat.succ_le_succ n) d;exact bE d (bE (bE d (l _)) (bE (bE d (bE d (bE d d))) (bE (bE d (bE (l _) (bE (bE (j _ _ _) (j _ _ _)) d))) d)))
end
theorem M7{A:Int}{g:G L}{r h:Int}{o c v:u}{y:Int}(B:dt g):dt (nM A g r h o c v y)∧(zw A g r h o c v y).n≤4000000:=by
 have l:dt (D:G L):=⟨cf _,fun i C=>absurd C (en i)⟩
 by_cases d:hp A g=0
 ·have m:=c0 B d;have x:=m.n;have p: ∀i,ib 1048576 ((ij g).at' i):=(CA (L:=zA g) (f:=fun e=>g.at' (toNat e)) (fun _ _=>rfl) (fun _ _ _=>rfl) (by omega) C2 (fun e I J=>m.M _ (by
   simp only[G.B,ox,tA];exact⟨e.toNat,by omega,rfl⟩)) _ 0 D (cR _) (by omega) fun _=>C2).1
  have z: ∀t,(∀i,ib 1048576 ((kZ t 0 false (ij g)).at' i))∧(kZ t 0 false (ij g)).n≤12:=by
   intro t;refine⟨gm (P:=fun s:G L=> ∀i,ib 1048576 (s.at' i)) p fun i=>gm (P:=ib 1048576) ?_ ⟨cf _,cf _,cf _⟩,dB (afC t 0 false _ (by rw[F1 g (by omega)];omega)) (by rw[F1 g (by omega)];exact x)⟩;have H: ∀(k:Nat) (a b:Int) (s:G L),(∀i,ib 1048576 (s.at' i))→ ∀i,ib 1048576 ((ua t k a b s).2.at' i):=by
    intro k
    induction k with
    |zero=>intro a b s j i;exact C2
    |succ k F=>
     intro a b s j;rw[ua]
     cases decide (b<(s.n:Int))with
     |false=>exact j
     |true=>exact F _ _ _ (gm (P:=fun s:G L=> ∀i,ib 1048576 (s.at' i)) (nE j (j _) _) j)
   exact H _ _ _ _ p i
  have q:=aCA (A:=h) (g:=o) (r:=c) (h:=v) (o:=y) (now:=imax (iy A) r) (z (imax (iy A) r)).1 (z _).2;generalize E:kZ (imax (iy A) r) 0 false (ij g)=s at q;have n:=F1 (ub h o c v y (imax (iy A) r) s) (by omega);have w: ∀i,ib 1048577 ((ij (ub h o c v y (imax (iy A) r) s)).at' i):=(CA (Pa:=ib 1048577) (L:=zA (ub h o c v y (imax (iy A) r) s)) (f:=fun e=>(ub h o c v y (imax (iy A) r) s).at' (toNat e)) (fun _ _=>rfl) (fun _ _ _=>rfl) (by omega) C2 (fun e _ _=>q.1 _) _ 0 D (cR _) (by omega) fun _=>C2).1;unfold nM zw;rw[E];refine⟨gm (P:=dt) l (gm (P:=dt) l (gm (P:=dt) l ⟨by omega,fun i _=> ?_⟩)),bE (cf _) (bE (cf _) (bE (cf _) q.2.2))⟩;have:=w i;exact⟨dB this.1 (by decide),dB this.2.1 (by decide),dB this.2.2 (by decide)⟩
 ·have d:(hp A g !=0)=true:=bne_iff_ne.2 d;unfold nM zw;rw[d];exact⟨l,cf _⟩
section
variable {A:Int} {g:G L} {r:Int} {h:G aw} {o c v y:Int} {p x R:u} {bz:Int}
theorem anv(b:dt g):dt (RB A g r h o c v y p x R bz):=by
 have z:dt (D:G L):=⟨cf _,fun i d=>absurd d (en i)⟩;have a:=(M7 (A:=A) (r:=o) (h:=22) (o:=⟨#[]⟩) (c:=⟨#[]⟩) (v:=⟨#[]⟩) (y:=0) b).1;exact gm (P:=dt) z (gm (P:=dt) z (gm (P:=dt) z (gm (P:=dt) a (gm (P:=dt) a (gm (P:=dt) a (gm (P:=dt) a (M7 a).1))))))
theorem anu(q:dt g)(j:ey h):ey (RC A g r h o c v y p x R bz):=by
 have z:ey (D:G aw):=⟨cf _,fun i u=>absurd u (en i)⟩;refine amd (P:=ey) (fun _=>z) fun d=>gm (P:=ey) z (gm (P:=ey) z ?_);have E:h.n≤4:=(gU A g r h q j (bB d)).1.2.2.2;have B:(fT h).n=h.n:=s5 h j.1;have e: ∀i,Hp 549755813888 ((fT h).at' i):=(CA (L:=wL h) (n:=h.n) (fun _ _=>rfl) (fun _ _ _=>rfl) (by omega) (cf _) (fun w C l=>j.2 w.toNat (by omega)) _ 0 D (cR _) (by omega) fun _=>cf _).1;have l:=(M7 (A:=A) (r:=o) (h:=22) (o:=⟨#[]⟩) (c:=⟨#[]⟩) (v:=⟨#[]⟩) (y:=0) q).1;have t:=(M7 (A:=oR A g o 22 ⟨#[]⟩ ⟨#[]⟩ ⟨#[]⟩ 0) (r:=o) (h:=y) (o:=p) (c:=x) (v:=R) (y:=bz) l).2;have f:ey (fT h):=⟨by omega,fun i _=>e i⟩;have k: ∀m:G aw,m.n≤5→(∀i,Hp 549755813888 (m.at' i))→ey m:=fun m a b=>⟨by omega,fun i _=>b i⟩;refine gm (P:=ey) (gm (P:=ey) f (k _ ?_ (Ye ?_ (cf _) (cf _)))) (gm (P:=ey) f (gm (P:=ey) f (gm (P:=ey) f (k _ (by show(fT h).n≤5;omega) (nE (nE (nE e ?_ _) ?_ _) ?_ _)))))
 ·show(z2 (fT h)).n+1≤5;have:(z2 (fT h)).n≤4:=bE (dB (Nat.sub_le _ _) (by omega)) (by omega);omega
 ·exact gm (P:=fun s:G aw=> ∀i,Hp 549755813888 (s.at' i)) (Py e _ _) e
 ·show((fT h).at' _).N.n≤_;exact e _
 ·show((G.cp (fT h) _ _).at' _).N.n≤_;refine nE (Pa:=Hp 549755813888) e ?_ _ _;show((fT h).at' _).N.n≤_;exact e _
 ·exact dB t (by decide:4000000≤549755813888)
end
end Go.Proofs.YtfmgjpcmcjjoiaaGreatDoor
