/- Part of a proof: walks of the program. -/
import Derived.Test.YtfmgjpcmcjjoiaaGreatDoorXk
import Derived.Test.YtfmgjpcmcjjoiaaGreatDoorXl
open Go.IntKind (i64 u64 u8)
open Int (toNat)
set_option maxRecDepth 100000
set_option maxHeartbeats 4000000
set_option linter.all false
noncomputable section
namespace Go.Proofs.YtfmgjpcmcjjoiaaGreatDoor
open Go Go.RowKit Go.ah
section
def Eg(d:Int)(g:Int)(u:Int):Nat→Int→A aJ→A aJ
 |0,_,_=>default
 |k+1,e,m=>(cond (decide (e<u)) (Eg d g u k (i64.wrap (e+1)) (A.cz (A.cz m (toNat (i64.wrap (d+e))) (m.at' (toNat (i64.wrap (g+e))))) (toNat (i64.wrap (g+e))) (m.at' (toNat (i64.wrap (d+e)))))) m)
variable(d:Int)(g:Int)(u:Int)(h:A aJ)
def aqQ:A aJ:=Eg d g u ((toNat (u-0))+1) 0 h
def uh:A aJ:=(aqQ d g u h)
theorem agh(d g u:Int)(b:u≤900000): ∀(k:Nat) (v:Int) (s:A aJ),0≤v→v≤u→toNat (u-v)<k→(Eg d g u k v s).n=s.n
 |0,_,_,_,_,a=>absurd a (eH _)
 |k+1,v,s,c,f,a=>by
  rw[Eg]
  by_cases e:v<u
  ·rw[bT e,aN,N (v+1)];exact agh d g u b k (v+1) _ (by omega) (by omega) (by omega)
  ·rw[bI e,aQ]
theorem ayR(d g u:Int)(h:A aJ)(a:0≤d∧0≤g∧0≤u∧d+u≤(h.n:Int)∧g+u≤(h.n:Int)∧h.n≤900000):(uh d g u h).n=h.n:=
 agh d g u (by omega) _ 0 h (dp _) a.2.2.1 (by omega)
def ak_:b5:=⟨[.o 0,.v a,.v a,.v a,.jA 34 []],[(.h 0 0,.ae ct)],[[U]],fun(d:Int) (g:Int) (u:Int) h=>⟨⟨some (0≤d∧0≤g∧0≤u∧d+u≤(h.n:Int)∧g+u≤(h.n:Int)∧h.n≤900000),[],[[(aB.ae ct).ab (A.cut (uh d g u h) h.n)]]⟩⟩⟩
theorem awm:dB 115 ak_:=dI Tryz.func115
 fun(d:Int) (g:Int) (u:Int) h B l=>have n:=A.y9 (ayR d g u h l);uB (rs:=[]) (al:=[[(aB.ae ct).ab (uh d g u h)]]) (dA ⟨.heap,[],[(.h 0 0,.ae ct)],⟨[],[[U]]⟩⟩ (.ad (.cy ⟨1039,[],[],[(.t 10,a),(.h 0 0,.ae ct)],some 0,false,0,[],[(.h 0 0,.ae ct)],fun k (s:Int×A aJ)=>Eg d g u k s.1 s.2,.f,fun(s:Int×A aJ)=>((0≤s.1∧s.1≤u)∧(s.2.n:Int)=h.n),fun(s:Int×A aJ)=>(toNat (u-s.1)),some fun(r:A aJ)=>(r.n:Int)=h.n⟩ .z)) ((((0≤(0:Int)∧(0:Int)≤u)∧(h.n:Int)=h.n))∧(∀(e:Int) (m:A aJ),let j:=decide (e<u);let i:=i64.wrap (e+1);let f:=i64.wrap (d+e);let c:=i64.wrap (g+e);((0≤e∧e≤u)∧(m.n:Int)=h.n)→((j=true→(((0:Int)≤c∧c<(m.n:Int))∧(((toNat c)<m.n)∧(((0:Int)≤f∧f<(m.n:Int))∧(((toNat f)<m.n)∧(((0:Int)≤f∧f<(m.n:Int))∧(((toNat f)<m.n)∧(((0:Int)≤c∧c<(m.n:Int))∧((toNat c)<m.n)))))))))∧((j=true→(((0≤i∧i≤u)∧(m.n:Int)=h.n)∧(toNat (u-i))<(toNat (u-e))))∧(j=false→((m.n:Int)=h.n)))))) (bK 1 aT bJ) Tryz.func115 (have⟨t,v,w,x,y,z⟩:=l;⟨(by omega),(fun e m q=>⟨(fun b=>⟨(by have:=aq b;have:=N (g+e);omega),⟨(by have:=aq b;have:=N (g+e);omega),⟨(by have:=aq b;have:=N (d+e);omega),⟨(by have:=aq b;have:=N (d+e);omega),⟨(by have:=aq b;have:=N (d+e);omega),⟨(by have:=aq b;have:=N (d+e);omega),⟨(by have:=aq b;have:=N (g+e);omega),(by have:=aq b;have:=N (g+e);omega)⟩⟩⟩⟩⟩⟩⟩),⟨(fun o=>(by have:=aq o;have:=N (e+1);omega)),(fun p=>(by omega))⟩⟩)⟩)) rfl (show([[(aB.ae ct).ab (uh d g u h)]]:Heap)=[[(aB.ae ct).ab (A.cut (uh d g u h) h.n)]] by rw[n])
end
section
def Af(g:Int):Nat→Int→A aJ→Int→Int×A aJ
 |0,_,_,_=>default
 |k+1,e,m,a1=>(cond (e !=a1) (cond (decide (e>a1)) (Af g k (i64.wrap (e-a1)) (A.cut (uh (i64.wrap (g-e)) g a1 m) m.n) a1) (Af g k e (A.cut (uh (i64.wrap (g-e)) (i64.wrap ((i64.wrap (g+a1))-e)) e m) m.n) (i64.wrap (a1-e)))) (e,m))
variable(d:Int)(g:Int)(u:Int)(h:A aJ)
def Ef:Int×A aJ:=Af g ((toNat ((i64.wrap (g-d))+(i64.wrap (u-g))))+1) (i64.wrap (g-d)) h (i64.wrap (u-g))
def Ae:A aJ:=let a:=Ef d g u h;(A.cut (uh (i64.wrap (g-a.1)) g a.1 a.2) a.2.n)
theorem TK(d g u:Int)(a:0≤d∧d<g∧g<u∧u≤900000): ∀(k:Nat) (i:Int) (s:A aJ) (j:Int),1≤i→i≤g-d→1≤j→j≤u-g→toNat (i+j)<k→(Af g k i s j).2.n=s.n
 |0,_,_,_,_,_,_,_,b=>absurd b (eH _)
 |k+1,i,s,j,f,h,l,m,b=>by
  rw[Af]
  by_cases e:i=j
  ·rw[show(i !=j)=false by simp [e],aQ]
  ·rw[show(i !=j)=true by simp [e],aN]
   by_cases c:i>j
   ·rw[bT c,aN,N (i-j)];exact TK d g u a k (i-j) _ j (by omega) (by omega) l m (by omega)
   ·rw[bI c,aQ,N (j-i)];exact TK d g u a k i _ (j-i) f h (by omega) (by omega) (by omega)
theorem ayQ(d g u:Int)(h:A aJ)(a:0≤d∧d<g∧g<u∧u≤(h.n:Int)∧h.n≤900000):(Ae d g u h).n=h.n:=by
 show(Ef d g u h).2.n=h.n;unfold Ef;rw[N (g-d),N (u-g)];exact TK d g u ⟨a.1,a.2.1,a.2.2.1,by omega⟩ _ _ _ _ (by omega) (by omega) (by omega) (by omega) (by omega)
def ak9:b5:=⟨[.o 0,.v a,.v a,.v a,.jA 34 []],[(.h 0 0,.ae ct)],[[U]],fun(d:Int) (g:Int) (u:Int) h=>⟨⟨some (0≤d∧d<g∧g<u∧u≤(h.n:Int)∧h.n≤900000),[],[[(aB.ae ct).ab (A.cut (Ae d g u h) h.n)]]⟩⟩⟩
theorem awl:dB 101 ak9:=dI Tryz.func101
 fun(d:Int) (g:Int) (u:Int) h L l=>have v:=A.y9 (ayQ d g u h l);uB (rs:=[]) (al:=[[(aB.ae ct).ab (Ae d g u h)]]) (dA ⟨.heap,[],[(.h 0 0,.ae ct)],⟨[],[[U]]⟩⟩ (.ad (.ad (.j ⟨1045,[],[],[],.f⟩ (.cy ⟨3093,[],[],[(.t 10,a),(.h 0 0,.ae ct),(.t 11,a)],some 0,false,1045,[],[(.t 10,a),(.h 0 0,.ae ct)],fun k (s:Int×A aJ×Int)=>Af g k s.1 s.2.1 s.2.2,.f,fun(s:Int×A aJ×Int)=>((1≤s.1∧s.1≤g-d)∧(1≤s.2.2∧s.2.2≤u-g)∧(s.2.1.n:Int)=h.n),fun(s:Int×A aJ×Int)=>(toNat (s.1+s.2.2)),some fun(r:Int×A aJ)=>((1≤r.1∧r.1≤g-d∧r.1≤u-g)∧(r.2.n:Int)=h.n)⟩ .z) .z))) (let q:=i64.wrap (u-g);let p:=i64.wrap (g-d);let b:=Ef d g u h;let o:=i64.wrap (g-b.1);((((1≤p∧p≤g-d)∧(1≤q∧q≤u-g)∧(h.n:Int)=h.n))∧(∀(e:Int) (m:A aJ) (a1:Int),let t:=toNat (e+a1);let n:=i64.wrap ((i64.wrap (g+a1))-e);let f:=decide (e>a1);let j:=i64.wrap (a1-e);let i:=i64.wrap (e-a1);let c:=i64.wrap (g-e);((1≤e∧e≤g-d)∧(1≤a1∧a1≤u-g)∧(m.n:Int)=h.n)→(((e !=a1)=true→((f=true→(0≤c∧0≤g∧0≤a1∧c+a1≤(m.n:Int)∧g+a1≤(m.n:Int)∧m.n≤900000))∧(f=false→(0≤c∧0≤n∧0≤e∧c+e≤(m.n:Int)∧n+e≤(m.n:Int)∧m.n≤900000))))∧(((e !=a1)=true→((f=true→(((1≤i∧i≤g-d)∧(1≤a1∧a1≤u-g)∧(m.n:Int)=h.n)∧(toNat (i+a1))<t))∧(f=false→(((1≤e∧e≤g-d)∧(1≤j∧j≤u-g)∧(m.n:Int)=h.n)∧(toNat (e+j))<t))))∧((e !=a1)=false→(((1≤e∧e≤g-d∧e≤u-g)∧(m.n:Int)=h.n)))))))∧((((1≤b.1∧b.1≤g-d∧b.1≤u-g)∧(b.2.n:Int)=h.n))→(0≤o∧0≤g∧0≤b.1∧o+b.1≤(b.2.n:Int)∧g+b.1≤(b.2.n:Int)∧b.2.n≤900000))) (bK 1 aT (av awm bJ)) Tryz.func101 (have⟨G,H,I,J,K⟩:=l;⟨⟨(by have:=N (g-d);have:=N (u-g);omega),(fun e m a1 F=>⟨(fun B=>⟨(fun C=>(by have:=N (g-e);omega)),(fun D=>(by have:=N (g-e);have:=N (g+a1);have:=N ((i64.wrap (g+a1))-e);omega))⟩),⟨(fun w=>⟨(fun x=>(by have:=aq x;have:=N (e-a1);omega)),(fun y=>(by have:=bne_iff_ne.1 w;have:=dQ y;have:=N (a1-e);omega))⟩),(fun z=>(by have:=bE z;omega))⟩⟩)⟩,(fun E=>(by have:=N (g- (Ef d g u h).1);omega))⟩)) rfl (show([[(aB.ae ct).ab (Ae d g u h)]]:Heap)=[[(aB.ae ct).ab (A.cut (Ae d g u h) h.n)]] by rw[v])
end
section
def ue(d:Int)(h:A aJ):Nat→Int→Int→Int
 |0,_,_=>default
 |k+1,e,m=>(cond (decide (e<m)) (cond (decide ((qg (h.at' (toNat (i64.wrap ((u64.wrap (i64.wrap (e+m)))/2^(toNat 1))))).j (h.at' (toNat d)).j)<0)) (ue d h k (i64.wrap ((i64.wrap ((u64.wrap (i64.wrap (e+m)))/2^(toNat 1)))+1)) m) (ue d h k e (i64.wrap ((u64.wrap (i64.wrap (e+m)))/2^(toNat 1))))) e)
variable(f:Int→Int→Int→A aJ→A aJ)(d:Int)(g:Int)(u:Int)(h:A aJ)
def lU:Int:=ue d h ((toNat (u-g))+1) g u
def Eb(d:Int)(g:Int)(u:Int)(h:A aJ):Nat→Int→A aJ→A aJ
 |0,_,_=>default
 |k+1,a,b=>(cond (decide (a<(i64.wrap ((lU d g u h)-1)))) (Eb d g u h k (i64.wrap (a+1)) (A.cz (A.cz b (toNat a) (b.at' (toNat (i64.wrap (a+1))))) (toNat (i64.wrap (a+1))) (b.at' (toNat a)))) b)
def acd:A aJ:=Eb d g u h ((toNat (u-d))+1) d h
def wN(g:Int)(h:A aJ):Nat→Int→Int→Int
 |0,_,_=>default
 |k+1,a,b=>(cond (decide (a<b)) (cond (!(decide ((qg (h.at' (toNat g)).j (h.at' (toNat (i64.wrap ((u64.wrap (i64.wrap (a+b)))/2^(toNat 1))))).j)<0))) (wN g h k (i64.wrap ((i64.wrap ((u64.wrap (i64.wrap (a+b)))/2^(toNat 1)))+1)) b) (wN g h k a (i64.wrap ((u64.wrap (i64.wrap (a+b)))/2^(toNat 1))))) a)
def I1:Int:=wN g h ((toNat (g-d))+1) d g
def Ea(d:Int)(g:Int)(h:A aJ):Nat→Int→A aJ→A aJ
 |0,_,_=>default
 |k+1,a,b=>(cond (decide (a>(I1 d g h))) (Ea d g h k (i64.wrap (a-1)) (A.cz (A.cz b (toNat a) (b.at' (toNat (i64.wrap (a-1))))) (toNat (i64.wrap (a-1))) (b.at' (toNat a)))) b)
def ace:A aJ:=Ea d g h ((toNat (g-d))+1) g h
def qn:Int:=(cond (decide (g>(i64.wrap ((u64.wrap (i64.wrap (d+u)))/2^(toNat 1))))) (i64.wrap ((i64.wrap ((i64.wrap ((u64.wrap (i64.wrap (d+u)))/2^(toNat 1)))+g))-u)) d)
def qo:Int:=(cond (decide (g>(i64.wrap ((u64.wrap (i64.wrap (d+u)))/2^(toNat 1))))) (i64.wrap ((u64.wrap (i64.wrap (d+u)))/2^(toNat 1))) g)
def I0(d:Int)(g:Int)(u:Int)(h:A aJ):Nat→Int→Int→Int
 |0,_,_=>default
 |k+1,a,c=>let b:=i64.wrap ((u64.wrap (i64.wrap (a+c)))/2^(toNat 1));(cond (decide (a<c)) (cond (!(decide ((qg (h.at' (toNat (i64.wrap ((i64.wrap ((i64.wrap ((i64.wrap ((u64.wrap (i64.wrap (d+u)))/2^(toNat 1)))+g))-1))-b)))).j (h.at' (toNat b)).j)<0))) (I0 d g u h k (i64.wrap (b+1)) c) (I0 d g u h k a b)) a)
def gb:Int:=let b:=qn d g u;let a:=qo d g u;I0 d g u h ((toNat (a-b))+1) b a
def Ab:Bool:=(cond (decide ((gb d g u h)<g)) (decide (g<(i64.wrap ((i64.wrap ((i64.wrap ((u64.wrap (i64.wrap (d+u)))/2^(toNat 1)))+g))- (gb d g u h))))) false)
def ug:A aJ:=(cond (Ab d g u h) (A.cut (Ae (gb d g u h) g (i64.wrap ((i64.wrap ((i64.wrap ((u64.wrap (i64.wrap (d+u)))/2^(toNat 1)))+g))- (gb d g u h))) h) h.n) h)
def Aa:Bool:=(cond (decide (d<(gb d g u h))) (decide ((gb d g u h)<(i64.wrap ((u64.wrap (i64.wrap (d+u)))/2^(toNat 1))))) false)
def uf:A aJ:=(cond (Aa d g u h) (A.cut (f d (gb d g u h) (i64.wrap ((u64.wrap (i64.wrap (d+u)))/2^(toNat 1))) (ug d g u h)) (ug d g u h).n) (ug d g u h))
def Ec:Bool:=(cond (decide ((i64.wrap ((u64.wrap (i64.wrap (d+u)))/2^(toNat 1)))<(i64.wrap ((i64.wrap ((i64.wrap ((u64.wrap (i64.wrap (d+u)))/2^(toNat 1)))+g))- (gb d g u h))))) (decide ((i64.wrap ((i64.wrap ((i64.wrap ((u64.wrap (i64.wrap (d+u)))/2^(toNat 1)))+g))- (gb d g u h)))<u)) false)
def z_:A aJ:=(cond ((i64.wrap (g-d))==1) (acd d g u h) (cond ((i64.wrap (u-g))==1) (ace d g h) (cond (Ec d g u h) (A.cut (f (i64.wrap ((u64.wrap (i64.wrap (d+u)))/2^(toNat 1))) (i64.wrap ((i64.wrap ((i64.wrap ((u64.wrap (i64.wrap (d+u)))/2^(toNat 1)))+g))- (gb d g u h))) u (uf f d g u h)) (uf f d g u h).n) (uf f d g u h))))
theorem pV(d g u:Int)(h:0≤d∧d<g∧g<u∧u≤900000):(g≤(d+u)/2∨(qn d g u=(d+u)/2+g-u∧qo d g u=(d+u)/2))∧((d+u)/2<g∨(qn d g u=d∧qo d g u=g)):=by
 have aZ:=half (x:=d+u) (by omega) (by omega);have hX:=N ((d+u)/2+g);have a:=N ((d+u)/2+g-u);unfold qn qo;rw[aZ,hX,a]
 by_cases c:g>(d+u)/2
 ·rw[bT c];exact⟨.inr ⟨rfl,rfl⟩,.inl (by omega)⟩
 ·rw[bI c];exact⟨.inl (by omega),.inr ⟨rfl,rfl⟩⟩
theorem ane{d g u:Int}{h:A aJ}(e:0≤d∧d<g∧g<u∧u≤900000)(i:(qn d g u)≤(gb d g u h)∧(gb d g u h)≤(qo d g u))(a:Ab d g u h=true):gb d g u h<g∧g<(d+u)/2+g-gb d g u h:=by
 have b:=pV d g u e;have aZ:=half (x:=d+u) (by omega) (by omega);have hX:=N ((d+u)/2+g);have f:=N ((d+u)/2+g-gb d g u h);unfold Ab at a;rw[aZ,hX,f]at a
 by_cases c:gb d g u h<g
 ·rw[bT c,aN]at a;exact⟨c,aq a⟩
 ·rw[bI c]at a;cases a
theorem anm{d g u:Int}{h:A aJ}(b:0≤d∧d<g∧g<u∧u≤900000)(e:(qn d g u)≤(gb d g u h)∧(gb d g u h)≤(qo d g u))(a:Aa d g u h=true):d<gb d g u h∧gb d g u h<(d+u)/2:=by
 have aZ:=half (x:=d+u) (by omega) (by omega);unfold Aa at a;rw[aZ]at a
 by_cases c:d<gb d g u h
 ·rw[bT c,aN]at a;exact⟨c,aq a⟩
 ·rw[bI c]at a;cases a
theorem ann{d g u:Int}{h:A aJ}(e:0≤d∧d<g∧g<u∧u≤900000)(i:(qn d g u)≤(gb d g u h)∧(gb d g u h)≤(qo d g u))(a:Ec d g u h=true):(d+u)/2<(d+u)/2+g-gb d g u h∧(d+u)/2+g-gb d g u h<u:=by
 have b:=pV d g u e;have aZ:=half (x:=d+u) (by omega) (by omega);have hX:=N ((d+u)/2+g);have f:=N ((d+u)/2+g-gb d g u h);unfold Ec at a;rw[aZ,hX,f]at a
 by_cases c:(d+u)/2<(d+u)/2+g-gb d g u h
 ·rw[bT c,aN]at a;exact⟨c,aq a⟩
 ·rw[bI c]at a;cases a
theorem TE(d:Int)(h:A aJ)(c a:Int)(l:0≤c)(aZ:a≤900000): ∀(k:Nat) (i j:Int),c≤i→i≤j→j≤a→toNat (j-i)<k→c≤ue d h k i j∧ue d h k i j≤a
 |0,_,_,_,_,_,g=>absurd g (eH _)
 |k+1,i,j,f,n,m,g=>by
  rw[ue,half (x:=i+j) (by omega) (by omega)]
  by_cases e:i<j
  ·rw[bT e,aN,N ((i+j)/2+1)];generalize decide (qg _ _<0)=b
   cases b
   ·exact TE d h c a l aZ k i ((i+j)/2) f (by omega) (by omega) (by omega)
   ·exact TE d h c a l aZ k ((i+j)/2+1) j (by omega) (by omega) m (by omega)
  ·rw[bI e,aQ];exact⟨f,by omega⟩
theorem TF(g:Int)(h:A aJ)(c a:Int)(l:0≤c)(aZ:a≤900000): ∀(k:Nat) (i j:Int),c≤i→i≤j→j≤a→toNat (j-i)<k→c≤wN g h k i j∧wN g h k i j≤a
 |0,_,_,_,_,_,f=>absurd f (eH _)
 |k+1,i,j,d,n,m,f=>by
  rw[wN,half (x:=i+j) (by omega) (by omega)]
  by_cases e:i<j
  ·rw[bT e,aN,N ((i+j)/2+1)];generalize (!(decide (qg _ _<0)))=b
   cases b
   ·exact TF g h c a l aZ k i ((i+j)/2) d (by omega) (by omega) (by omega)
   ·exact TF g h c a l aZ k ((i+j)/2+1) j (by omega) (by omega) m (by omega)
  ·rw[bI e,aQ];exact⟨d,by omega⟩
theorem aga(d g u:Int)(h:A aJ)(b:0≤lU d g u h∧lU d g u h≤u)(c:u≤900000): ∀(k:Nat) (v:Int) (s:A aJ),0≤v→v≤900001→toNat (u-v)<k→(Eb d g u h k v s).n=s.n
 |0,_,_,_,_,a=>absurd a (eH _)
 |k+1,v,s,f,i,a=>by
  rw[Eb,N (lU d g u h-1)]
  by_cases e:v<lU d g u h-1
  ·rw[bT e,aN,N (v+1)];exact aga d g u h b c k (v+1) _ (by omega) (by omega) (by omega)
  ·rw[bI e,aQ]
theorem agc(d g:Int)(h:A aJ)(c:d≤I1 d g h)(b:0≤d): ∀(k:Nat) (v:Int) (s:A aJ),v≤900001→toNat (v-d)<k→(Ea d g h k v s).n=s.n
 |0,_,_,_,a=>absurd a (eH _)
 |k+1,v,s,f,a=>by
  rw[Ea]
  by_cases e:v>I1 d g h
  ·rw[bT e,aN,N (v-1)];exact agc d g h c b k (v-1) _ (by omega) (by omega)
  ·rw[bI e,aQ]
theorem TD(d g u:Int)(h:A aJ):(ug d g u h).n=h.n:=by
 unfold ug
 cases Ab d g u h<;>rfl
theorem ayE(f:Int→Int→Int→A aJ→A aJ)(d g u:Int)(h:A aJ):(uf f d g u h).n=h.n:=by
 unfold uf
 cases Aa d g u h
 ·exact TD d g u h
 ·exact TD d g u h
theorem ayP(f:Int→Int→Int→A aJ→A aJ)(d g u:Int)(h:A aJ){Q:Prop}(i:0≤d∧d<g∧g<u∧u≤(h.n:Int)∧h.n≤900000∧Q):(z_ f d g u h).n=h.n:=by
 obtain⟨b,k,l,m,n,_⟩:=i;have q1:=TE d h g u (by omega) (by omega) (toNat (u-g)+1) g u (dp _) (by omega) (dp _) (by omega);have j:=TF g h d g (by omega) (by omega) (toNat (g-d)+1) d g (dp _) (by omega) (dp _) (by omega);have c:(acd d g u h).n=h.n:=aga d g u h ⟨by show 0≤ue d h _ g u;omega,q1.2⟩ (by omega) _ d h b (by omega) (by omega);have e:(ace d g h).n=h.n:=agc d g h j.1 b _ g h (by omega) (by omega);have bl:(ug d g u h).n=h.n:=by
  unfold ug
  cases Ab d g u h<;>rfl
 have a:(uf f d g u h).n=h.n:=by
  unfold uf
  cases Aa d g u h
  ·exact bl
  ·exact bl
 unfold z_
 cases (i64.wrap (g-d)==1)
 ·cases (i64.wrap (u-g)==1)
  ·cases Ec d g u h
   ·exact a
   ·exact a
  ·exact e
 ·exact c
def pL:Nat→Int→Int→Int→A aJ→A aJ
 |0=>fun _ _ _ s=>s
 |N+1=>z_ (pL N)
def yM(N:Nat):b5:=⟨[.o 0,.v a,.v a,.v a,.jA 34 []],[(.h 0 0,.ae ct)],[[U]],fun(d:Int) (g:Int) (u:Int) h=>⟨⟨some (0≤d∧d<g∧g<u∧u≤(h.n:Int)∧h.n≤900000∧u-d<(N:Int)),[],[[(aB.ae ct).ab (A.cut (pL N d g u h) h.n)]]⟩⟩⟩
theorem aAz(n:Nat)(lX:jc Tryz.prog 77 (yM n).gY):BR Tryz.prog 77 (yM (n+1)) _ ((yM (n+1)).ee.flatMap dr.cq) (yM (n+1)).f []:=
 fun(d:Int) (g:Int) (u:Int) h ayG Y=>have mf:=A.y9 (ayP (pL n) d g u h Y);uB (rs:=[]) (al:=[[(aB.ae ct).ab (z_ (pL n) d g u h)]]) (dA ⟨.heap,[],[(.h 0 0,.ae ct)],⟨[],[[U]]⟩⟩ (.s (.ad (.s (.ad (.ad (.j ⟨1055,[],[],[],.f⟩ (.cy ⟨3103,[],[],[(.t 10,a),(.t 11,a)],some 0,false,1055,[],[(.t 10,a)],fun k (s:Int×Int)=>ue d h k s.1 s.2,.f,fun(s:Int×Int)=>(g≤s.1∧s.1≤s.2∧s.2≤u),fun(s:Int×Int)=>(toNat (s.2-s.1)),some fun(r:Int)=>(g≤r∧r≤u)⟩ .z) (.j ⟨31,[],[],[],.f⟩ (.ad (.cy ⟨9247,[],[],[(.t 13,a),(.h 0 0,.ae ct)],some 2,false,31,[],[(.h 0 0,.ae ct)],fun k (s:Int×A aJ)=>Eb d g u h k s.1 s.2,.f,fun(s:Int×A aJ)=>(d≤s.1∧s.1≤u∧(s.2.n:Int)=h.n),fun(s:Int×A aJ)=>(toNat (u-s.1)),none⟩ .z)) .z)))) .z)) (.s (.ad (.s (.ad (.ad (.j ⟨16415,[],[],[],.f⟩ (.cy ⟨49183,[],[],[(.t 14,a),(.t 15,a)],some 4,false,16415,[],[(.t 14,a)],fun k (s:Int×Int)=>wN g h k s.1 s.2,.f,fun(s:Int×Int)=>(d≤s.1∧s.1≤s.2∧s.2≤g),fun(s:Int×Int)=>(toNat (s.2-s.1)),some fun(r:Int)=>(d≤r∧r≤g)⟩ .z) (.j ⟨31,[],[],[],.f⟩ (.ad (.cy ⟨147487,[],[],[(.t 17,a),(.h 0 0,.ae ct)],some 6,false,31,[],[(.h 0 0,.ae ct)],fun k (s:Int×A aJ)=>Ea d g h k s.1 s.2,.f,fun(s:Int×A aJ)=>(d≤s.1∧s.1≤g∧(s.2.n:Int)=h.n),fun(s:Int×A aJ)=>(toNat (s.1-d)),none⟩ .z)) .z)))) .z)) (.ad (.ad (.ad (.j ⟨3932191,[],[(.t 20,a),(.t 21,a)],[],.f⟩ .z (.ad (.j ⟨1835039,[],[],[],.f⟩ (.cy ⟨8126495,[],[],[(.t 20,a),(.t 21,a)],some 8,false,1835039,[],[(.t 20,a)],fun k (s:Int×Int)=>I0 d g u h k s.1 s.2,.f,fun(s:Int×Int)=>((qn d g u)≤s.1∧s.1≤s.2∧s.2≤(qo d g u)),fun(s:Int×Int)=>(toNat (s.2-s.1)),some fun(r:Int)=>((qn d g u)≤r∧r≤(qo d g u))⟩ .z) (.ad (.j ⟨18087963,[],[(.h 0 0,.ae ct)],[],.f⟩ (.j ⟨49039857307708443467467104868809893875799651909893357599,[],[(.t 185,y)],[],.f⟩ .z .z) (.j ⟨17039385,[],[(.h 0 0,.ae ct)],[],.f⟩ (.j ⟨803469022129495137770981046170581301261101496891396435738651,[],[(.t 199,y)],[],.f⟩ .z .z) (.j ⟨13164036458569648337239753460458804039861886925068638906805911577,[],[(.t 213,y)],[],.f⟩ .z .z)))))))))))) (let aiu:=ug d g u h;let air:=i64.wrap (u-g);let aiq:=i64.wrap (g-d);let G:=toNat 1;let Z:=uf (pL n) d g u h;let J:=I1 d g h;let M:=lU d g u h;let F:=gb d g u h;let D:=qo d g u;let C:=qn d g u;let E:=i64.wrap ((u64.wrap (i64.wrap (d+u)))/2^G);let aip:=i64.wrap (E+g);let I:=i64.wrap (aip-F);((aiq==1)=true→((((g≤g∧g≤u∧u≤u))∧(∀(e:Int) (m:Int),let aiv:=toNat (m-e);let L:=decide (e<m);let B:=i64.wrap ((u64.wrap (i64.wrap (e+m)))/2^G);let O:=i64.wrap (B+1);let aiB:=decide ((qg (h.at' (toNat B)).j (h.at' (toNat d)).j)<0);(g≤e∧e≤m∧m≤u)→((L=true→(((0:Int)≤1∧(1:Int)≤64)∧(((0:Int)≤B∧B<(h.n:Int))∧(((toNat B)<h.n)∧(((0:Int)≤d∧d<(h.n:Int))∧((toNat d)<h.n))))))∧((L=true→((aiB=true→((g≤O∧O≤m∧m≤u)∧(toNat (m-O))<aiv))∧(aiB=false→((g≤e∧e≤B∧B≤u)∧(toNat (B-e))<aiv))))∧(L=false→((g≤e∧e≤u)))))))∧(((g≤M∧M≤u))→(((d≤d∧d≤u∧(h.n:Int)=h.n))∧(∀(i:Int) (p:A aJ),let aiE:=decide (i<(i64.wrap (M-1)));let w:=i64.wrap (i+1);(d≤i∧i≤u∧(p.n:Int)=h.n)→((aiE=true→(((0:Int)≤w∧w<(p.n:Int))∧(((toNat w)<p.n)∧(((0:Int)≤i∧i<(p.n:Int))∧(((toNat i)<p.n)∧(((0:Int)≤i∧i<(p.n:Int))∧(((toNat i)<p.n)∧(((0:Int)≤w∧w<(p.n:Int))∧((toNat w)<p.n)))))))))∧(aiE=true→((d≤w∧w≤u∧(p.n:Int)=h.n)∧(toNat (u-w))<(toNat (u-i))))))))))∧((aiq==1)=false→(((air==1)=true→((((d≤d∧d≤g∧g≤g))∧(∀(j:Int) (l:Int),let ais:=toNat (l-j);let R:=decide (j<l);let z:=i64.wrap ((u64.wrap (i64.wrap (j+l)))/2^G);let P:=i64.wrap (z+1);let aiC:=decide ((qg (h.at' (toNat g)).j (h.at' (toNat z)).j)<0);(d≤j∧j≤l∧l≤g)→((R=true→(((0:Int)≤1∧(1:Int)≤64)∧(((0:Int)≤g∧g<(h.n:Int))∧(((toNat g)<h.n)∧(((0:Int)≤z∧z<(h.n:Int))∧((toNat z)<h.n))))))∧((R=true→(((!aiC)=true→((d≤P∧P≤l∧l≤g)∧(toNat (l-P))<ais))∧((!aiC)=false→((d≤j∧j≤z∧z≤g)∧(toNat (z-j))<ais))))∧(R=false→((d≤j∧j≤g)))))))∧(((d≤J∧J≤g))→(((d≤g∧g≤g∧(h.n:Int)=h.n))∧(∀(c:Int) (o:A aJ),let v:=i64.wrap (c-1);(d≤c∧c≤g∧(o.n:Int)=h.n)→(((decide (c>J))=true→(((0:Int)≤v∧v<(o.n:Int))∧(((toNat v)<o.n)∧(((0:Int)≤c∧c<(o.n:Int))∧(((toNat c)<o.n)∧(((0:Int)≤c∧c<(o.n:Int))∧(((toNat c)<o.n)∧(((0:Int)≤v∧v<(o.n:Int))∧((toNat v)<o.n)))))))))∧((decide (c>J))=true→((d≤v∧v≤g∧(o.n:Int)=h.n)∧(toNat (v-d))<(toNat (c-d))))))))))∧((air==1)=false→(((0:Int)≤1∧(1:Int)≤64)∧((((C≤C∧C≤D∧D≤D))∧(∀(b:Int) (f:Int),let ait:=toNat (f-b);let K:=decide (b<f);let t:=i64.wrap ((u64.wrap (i64.wrap (b+f)))/2^G);let Q:=i64.wrap (t+1);let H:=i64.wrap ((i64.wrap (aip-1))-t);let aiD:=decide ((qg (h.at' (toNat H)).j (h.at' (toNat t)).j)<0);(C≤b∧b≤f∧f≤D)→((K=true→(((0:Int)≤1∧(1:Int)≤64)∧(((0:Int)≤H∧H<(h.n:Int))∧(((toNat H)<h.n)∧(((0:Int)≤t∧t<(h.n:Int))∧((toNat t)<h.n))))))∧((K=true→(((!aiD)=true→((C≤Q∧Q≤f∧f≤D)∧(toNat (f-Q))<ait))∧((!aiD)=false→((C≤b∧b≤t∧t≤D)∧(toNat (t-b))<ait))))∧(K=false→((C≤b∧b≤D)))))))∧(((C≤F∧F≤D))→(((Ab d g u h)=true→(0≤F∧F<g∧g<I∧I≤(h.n:Int)∧h.n≤900000))∧(((Aa d g u h)=true→(0≤d∧d<F∧F<E∧E≤(aiu.n:Int)∧aiu.n≤900000∧E-d<(n:Int)))∧((Ec d g u h)=true→(0≤E∧E<I∧I<u∧u≤(Z.n:Int)∧Z.n≤900000∧u-E<(n:Int)))))))))))) (bK 1 (aw ae1 aT) (av lX (av awl bJ))) Tryz.func77 (have⟨aE8,aE9,aE_,aFa,aFb,aFc⟩:=Y;⟨(fun iC=>⟨⟨(by omega),(fun e m aEF=>⟨(fun W=>⟨(by omega),⟨(by have:=aq W;have:=half (x:=(e+m)) (by omega) (by omega);omega),⟨(by have:=aq W;have:=half (x:=(e+m)) (by omega) (by omega);omega),⟨(by omega),(by omega)⟩⟩⟩⟩),⟨(fun X=>⟨(fun JV=>(by have:=aq X;have:=half (x:=(e+m)) (by omega) (by omega);have:=N ((i64.wrap ((u64.wrap (i64.wrap (e+m)))/2^(toNat 1)))+1);omega)),(fun adu=>(by have:=aq X;have:=half (x:=(e+m)) (by omega) (by omega);omega))⟩),(fun xl=>(by omega))⟩⟩)⟩,(fun aEy=>⟨(by omega),(fun i p aEI=>⟨(fun q=>⟨(by have:=aq q;have:=N ((lU d g u h)-1);have:=N (i+1);omega),⟨(by have:=aq q;have:=N ((lU d g u h)-1);have:=N (i+1);omega),⟨(by have:=aq q;have:=N ((lU d g u h)-1);omega),⟨(by have:=aq q;have:=N ((lU d g u h)-1);omega),⟨(by have:=aq q;have:=N ((lU d g u h)-1);omega),⟨(by have:=aq q;have:=N ((lU d g u h)-1);omega),⟨(by have:=aq q;have:=N ((lU d g u h)-1);have:=N (i+1);omega),(by have:=aq q;have:=N ((lU d g u h)-1);have:=N (i+1);omega)⟩⟩⟩⟩⟩⟩⟩),(fun arl=>(by have:=aq arl;have:=N ((lU d g u h)-1);have:=N (i+1);omega))⟩)⟩)⟩),(fun arn=>⟨(fun aEj=>⟨⟨(by omega),(fun j l aEE=>⟨(fun aEk=>⟨(by omega),⟨(by omega),⟨(by omega),⟨(by have:=half (x:=(j+l)) (by omega) (by omega);omega),(by have:=half (x:=(j+l)) (by omega) (by omega);omega)⟩⟩⟩⟩),⟨(fun S=>⟨(fun aEl=>(by have:=aq S;have:=half (x:=(j+l)) (by omega) (by omega);have:=N ((i64.wrap ((u64.wrap (i64.wrap (j+l)))/2^(toNat 1)))+1);omega)),(fun aEm=>(by have:=aq S;have:=half (x:=(j+l)) (by omega) (by omega);omega))⟩),(fun aEn=>(by omega))⟩⟩)⟩,(fun aEw=>⟨(by omega),(fun c o aEG=>⟨(fun T=>⟨(by have:=aq T;have:=N (c-1);omega),⟨(by have:=N (c-1);omega),⟨(by omega),⟨(by omega),⟨(by omega),⟨(by omega),⟨(by have:=aq T;have:=N (c-1);omega),(by have:=N (c-1);omega)⟩⟩⟩⟩⟩⟩⟩),(fun aro=>(by have:=aq aro;have:=N (c-1);omega))⟩)⟩)⟩),(fun aEo=>⟨(by omega),⟨⟨(by have:=pV d g u (by omega);omega),(fun b f aEH=>⟨(fun aEp=>⟨(by omega),⟨(by have:=pV d g u (by omega);have:=half (x:=(d+u)) (by omega) (by omega);have:=half (x:=(b+f)) (by omega) (by omega);have:=N ((i64.wrap ((u64.wrap (i64.wrap (d+u)))/2^(toNat 1)))+g);have:=N ((i64.wrap ((i64.wrap ((u64.wrap (i64.wrap (d+u)))/2^(toNat 1)))+g))-1);have:=N ((i64.wrap ((i64.wrap ((i64.wrap ((u64.wrap (i64.wrap (d+u)))/2^(toNat 1)))+g))-1))- (i64.wrap ((u64.wrap (i64.wrap (b+f)))/2^(toNat 1))));omega),⟨(by have:=pV d g u (by omega);have:=half (x:=(d+u)) (by omega) (by omega);have:=half (x:=(b+f)) (by omega) (by omega);have:=N ((i64.wrap ((u64.wrap (i64.wrap (d+u)))/2^(toNat 1)))+g);have:=N ((i64.wrap ((i64.wrap ((u64.wrap (i64.wrap (d+u)))/2^(toNat 1)))+g))-1);have:=N ((i64.wrap ((i64.wrap ((i64.wrap ((u64.wrap (i64.wrap (d+u)))/2^(toNat 1)))+g))-1))- (i64.wrap ((u64.wrap (i64.wrap (b+f)))/2^(toNat 1))));omega),⟨(by have:=pV d g u (by omega);have:=half (x:=(b+f)) (by omega) (by omega);omega),(by have:=pV d g u (by omega);have:=half (x:=(b+f)) (by omega) (by omega);omega)⟩⟩⟩⟩),⟨(fun V=>⟨(fun aEq=>(by have:=aq V;have:=pV d g u (by omega);have:=half (x:=(b+f)) (by omega) (by omega);have:=N ((i64.wrap ((u64.wrap (i64.wrap (b+f)))/2^(toNat 1)))+1);omega)),(fun aEr=>(by have:=aq V;have:=pV d g u (by omega);have:=half (x:=(b+f)) (by omega) (by omega);omega))⟩),(fun aEs=>(by omega))⟩⟩)⟩,(fun aEx=>⟨(fun aEt=>(by have:=pV d g u (by omega);(try have xm:=ane (d:=d) (g:=g) (u:=u) (h:=h) (by omega) (by assumption) (by assumption));have:=half (x:=(d+u)) (by omega) (by omega);have:=N ((i64.wrap ((u64.wrap (i64.wrap (d+u)))/2^(toNat 1)))+g);have:=N ((i64.wrap ((i64.wrap ((u64.wrap (i64.wrap (d+u)))/2^(toNat 1)))+g))- (gb d g u h));omega)),⟨(fun aEu=>(by have:=TD d g u h;(try have q:=anm (d:=d) (g:=g) (u:=u) (h:=h) (by omega) (by assumption) (by assumption));have:=half (x:=(d+u)) (by omega) (by omega);omega)),(fun aEv=>(by have:=ayE (pL n) d g u h;(try have arn:=ann (d:=d) (g:=g) (u:=u) (h:=h) (by omega) (by assumption) (by assumption));have:=half (x:=(d+u)) (by omega) (by omega);have:=N ((i64.wrap ((u64.wrap (i64.wrap (d+u)))/2^(toNat 1)))+g);have:=N ((i64.wrap ((i64.wrap ((u64.wrap (i64.wrap (d+u)))/2^(toNat 1)))+g))- (gb d g u h));omega))⟩⟩)⟩⟩)⟩)⟩)) rfl (show([[(aB.ae ct).ab (z_ (pL n) d g u h)]]:Heap)=[[(aB.ae ct).ab (A.cut (z_ (pL n) d g u h) h.n)]] by rw[mf])
theorem ae_: ∀N,jc Tryz.prog 77 (yM N).gY
 |0=>let b:=yM 0;b5.ok ⟨_,_,Tryz.func77,rfl,by kernel_rfl⟩ (by kernel_rfl) (show aiz 77 b from fun(d:Int) (g:Int) (u:Int) h c a=>(by have a:0≤d∧d<g∧g<u∧u≤(h.n:Int)∧h.n≤900000∧u-d<((0:Nat):Int):=a;omega:False).elim)
 |N+1=>b5.ok ⟨_,_,Tryz.func77,rfl,by kernel_rfl⟩ (by kernel_rfl) (aAz N (ae_ N))
end
end Go.Proofs.YtfmgjpcmcjjoiaaGreatDoor
