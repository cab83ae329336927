import Derived.Test.YtcpfnfkibnjcfaaGreatDoorXh
open Go.IntKind (i64 u64 u8)
open Int (toNat)
set_option maxRecDepth 100000
set_option maxHeartbeats 4000000
set_option linter.all false
noncomputable section
namespace Go.Proofs.YtcpfnfkibnjcfaaGreatDoor
open Go Go.RowKit Go.ag
def zf(A:I z):Nat->Int->I Int->I Int
 |0,_,_=>default
 |k+1,b,f=>cond (decide (b<A.n)) (zf A k (i64 (b+1)) (dd (A.at' b.toNat) f)) f
def UN(A:I z)(g:I Int):I Int:=zf A (toNat ((A.n:Int)-0)+1) 0 (cP (A.n:Int) g)
def kg(A:I z)(g:I Int):I Int:=UN A g
def anO:cj:=⟨[.p 0,.v (.ab b1)],[(.h 1 0,.ad bs)],[[.own 1 0],[U]],λA g=>⟨⟨some (t_ A/\g.n<=250000000000),[],[[.own 1 (kg A g).n],[(aG.ad bs).av (kg A g)]]⟩⟩⟩
def aih:er 119 anO:=ev Tryz.func119
 λA o g p l=>ep ⟨.heap,[],[(.h 1 0,.ad bs)],⟨[],[[.own 1 0],[U]]⟩⟩ (.ae (.ae (.c6 ⟨7169,[],[],[(.t 12,a),(.h 1 0,.ad bs)],some 0,false,0,[],[(.h 1 0,.ad bs)],λk (s:Int×I Int)=>zf A k s.1 s.2,.f,λ(s:Int×I Int)=>0<=s.1/\s.1<=(A.n:Int)/\(s.2.n:Int)<=(g.n:Int)+1+s.1*21,λ(s:Int×I Int)=>toNat ((A.n:Int)-s.1),none⟩ .z))) (g.n<=400000000000/\(0<=(0:Int)/\(0:Int)<=(A.n:Int)/\((cP (A.n:Int) g).n:Int)<=(g.n:Int)+1+(0:Int)*21)/\∀(b:Int) (f:I Int),let i:=A.at' b.toNat;let h:=decide (b<A.n);let c:=i64 (b+1);(0<=b/\b<=A.n/\(f.n:Int)<=(g.n:Int)+1+b*21)->(h=true->((0:Int)<=b/\b<A.n)/\f.n<=300000000000/\i.size<=10000000000)/\(h=true->(0<=c/\c<=A.n/\((dd i f).n:Int)<=(g.n:Int)+1+c*21)/\toNat ((A.n:Int)-c)<toNat ((A.n:Int)-b))) (bZ 2 ba (az D0 (az OV bY))) Tryz.func119 (have⟨d,n⟩:=l;⟨Ω,⟨have:=jj (A.n:Int) g;Ω,λb f m=>⟨λe=>⟨have:=al e;Ω,have:=al e;have:=d.1;have:=d.2 b.toNat Ω;Ω⟩,λj=>have:=al j;have:=d.2 b.toNat Ω;have:=jJ (A.at' b.toNat) f;have:=E (b+1);Ω⟩⟩⟩)
def JS(l:I z):List Int:=vU (l.n:Int)++cat (λi=>gJ (l.at' i)) l.n 0
def yf{x:z}(h:x.size<=20):(gJ x).length<=21:=by rw[aGq x Ω];omega
def aaE{l:I z}(h:t_ l):(JS l).length<=421:=by
 unfold JS;have a:=h.1;have b:=BQ (f:=λi=>gJ (l.at' i)) (D:=21) l.n 0 λj _ c=>yf (h.2 j Ω);rw[db,P_];omega
def QS(l:I z)(w:I Int)(h:t_ l):(kg l w).B=w.B++JS l:=by
 have a:(kg l w).B=(cP (l.n:Int) w).B++cat (λi=>gJ (l.at' i)) l.n 0:=
  D7 (zf l) l.n 21 (w.n+1) (λi s=>dd (l.at' i.toNat) s) (λi=>gJ (l.at' i)) (have:=h.1;Ω) (λ_ _ _=>rfl) (λi s b _=>by
   have c:=h.2 i b;simp only[gN];exact⟨Bn s Ω,yf c⟩) _ (by rw[jj];exact bH _)
 rw[a,Bm,e5];rfl
def X8(A:I z)(g:I Int)(h:t_ A):(kg A g).n<=g.n+421:=by
 rw[<-bj,QS _ _ h,db,bj];have:=aaE h;omega
section
def ze(o:I bD):Nat->Int->I Int->I Int
 |0,_,_=>default
 |k+1,b,f=>cond (decide (b<o.n)) (ze o k (i64 (b+1)) (dd (o.at' b.toNat).K (dd (o.at' b.toNat).r f))) f
variable(A:Int)(g:z)(u:Int)(o:I bD)(v:I z)(d:I bW)(y:I Int)
def sA:I Int:=ze o (toNat ((o.n:Int)-0)+1) 0 (cP (o.n:Int) (bw u (dd g (cP A y))))
def CI(d:I bW):Nat->Int->I Int->I Int
 |0,_,_=>default
 |k+1,bC,a=>cond (decide (bC<d.n)) (CI d k (i64 (bC+1)) (bw (d.at' bC.toNat).K (dd (d.at' bC.toNat).r a))) a
def GH:I Int:=CI d (toNat ((d.n:Int)-0)+1) 0 (cP (d.n:Int) (kg v (sA A g u o y)))
def pX:I Int:=GH A g u o v d y
def anN:cj:=⟨[.p 0,.g [a,ar,a,.ab ds,.ab b1,.ab dc]],[(.h 1 0,.ad bs)],[[.own 1 0],[U]],λ(A:Int) g (u:Int) o v d y=>let b:=pX A g u o v d y;⟨⟨some (ub g u o v d/\y.n<=200000000000),[],[[.own 1 (b).n],[(aG.ad bs).av b]]⟩⟩⟩
def ay1:er 118 anN:=ev Tryz.func118
 λ(A:Int) g J (u:Int) o K v L d M y N B=>ep ⟨.heap,[],[(.h 1 0,.ad bs)],⟨[],[[.own 1 0],[U]]⟩⟩ (.ae (.ae (.ae (.ae (.ae (.j ⟨9,[],[],[],.f⟩ (.ae (.c6 ⟨469762057,[],[],[(.t 28,a),(.h 1 0,.ad bs)],some 0,false,9,[],[(.h 1 0,.ad bs)],λk (s:Int×I Int)=>ze o k s.1 s.2,.f,λ(s:Int×I Int)=>0<=s.1/\s.1<=(o.n:Int)/\(s.2.n:Int)<=(y.n:Int)+40+s.1*42,λ(s:Int×I Int)=>toNat ((o.n:Int)-s.1),some λ(r:I Int)=>(r.n:Int)<=(y.n:Int)+880⟩ .z)) (.ae (.ae (.ae (.c6 ⟨15762598695796737,[.b 2],[],[(.t 53,a),(.h 1 0,.ad bs)],some 2,false,0,[],[(.h 1 0,.ad bs)],λk (s:Int×I Int)=>CI d k s.1 s.2,.f,λ(s:Int×I Int)=>0<=s.1/\s.1<=(d.n:Int)/\(s.2.n:Int)<=(y.n:Int)+1400+s.1*29,λ(s:Int×I Int)=>toNat ((d.n:Int)-s.1),none⟩ .z)))))))))) (let t:=dd g (cP A y);let m:=sA A g u o y;(y.n<=400000000000)/\((cP A y).n<=300000000000/\g.size<=10000000000)/\t.n<=400000000000/\(bw u t).n<=400000000000/\((0<=(0:Int)/\(0:Int)<=(o.n:Int)/\((cP (o.n:Int) (bw u t)).n:Int)<=(y.n:Int)+40+(0:Int)*42)/\∀(b:Int) (f:I Int),let q:=decide (b<o.n);let i:=i64 (b+1);let h:=o.at' b.toNat;(0<=b/\b<=o.n/\(f.n:Int)<=(y.n:Int)+40+b*42)->(q=true->((0:Int)<=b/\b<o.n)/\(f.n<=300000000000/\h.r.size<=10000000000)/\(dd h.r f).n<=300000000000/\h.K.size<=10000000000)/\(q=true->(0<=i/\i<=o.n/\((dd h.K (dd h.r f)).n:Int)<=(y.n:Int)+40+i*42)/\toNat ((o.n:Int)-i)<toNat ((o.n:Int)-b))/\(q=false->(f.n:Int)<=(y.n:Int)+880))/\((m.n:Int)<=(y.n:Int)+880->(t_ v/\m.n<=250000000000)/\(kg v m).n<=400000000000/\(0<=(0:Int)/\(0:Int)<=(d.n:Int)/\((cP (d.n:Int) (kg v m)).n:Int)<=(y.n:Int)+1400+(0:Int)*29)/\∀(bC:Int) (e:I Int),let w:=decide (bC<d.n);let l:=d.at' bC.toNat;let j:=i64 (bC+1);(0<=bC/\bC<=d.n/\(e.n:Int)<=(y.n:Int)+1400+bC*29)->(w=true->((0:Int)<=bC/\bC<d.n)/\(e.n<=300000000000/\l.r.size<=10000000000)/\(dd l.r e).n<=400000000000)/\(w=true->(0<=j/\j<=d.n/\((bw l.K (dd l.r e)).n:Int)<=(y.n:Int)+1400+j*29)/\toNat ((d.n:Int)-j)<toNat ((d.n:Int)-bC)))) (bZ 2 ba (az IQ (az D0 (az OV (az aih bY))))) Tryz.func118 (have⟨c,H⟩:=B;⟨Ω,⟨have:=c.1;have:=jj A y;Ω,⟨have:=c.1;have:=jJ g (cP A y);have:=jj A y;Ω,⟨have:=c.1;have:=fg u (dd g (cP A y));have:=jJ g (cP A y);have:=jj A y;Ω,⟨⟨have:=c.1;have:=jj (o.n:Int) (bw u (dd g (cP A y)));have:=fg u (dd g (cP A y));have:=jJ g (cP A y);have:=jj A y;Ω,λb f F=>⟨λn=>⟨have:=al n;Ω,⟨have:=al n;have:=c.2.1;have:=c.2.2.1 b.toNat Ω;Ω,have:=al n;have:=c.2.1;have:=c.2.2.1 b.toNat Ω;have:=jJ (o.at' b.toNat).r f;Ω⟩⟩,⟨λx=>have:=al x;have:=c.2.2.1 b.toNat Ω;have:=jJ (o.at' b.toNat).K (dd (o.at' b.toNat).r f);have:=jJ (o.at' b.toNat).r f;have:=E (b+1);Ω,λC=>have:=c.2.1;Ω⟩⟩⟩,λD=>⟨⟨Γ,Ω⟩,⟨have:=X8 v (sA A g u o y) Γ;Ω,⟨have:=jj (d.n:Int) (kg v (sA A g u o y));have:=X8 v (sA A g u o y) Γ;Ω,λbC e G=>⟨λp=>⟨have:=al p;Ω,⟨have:=al p;have:=c.2.1;have:=c.2.2.2.2 bC.toNat Ω;Ω,have:=al p;have:=c.2.1;have:=c.2.2.2.2 bC.toNat Ω;have:=jJ (d.at' bC.toNat).r e;Ω⟩⟩,λz=>have:=al z;have:=c.2.2.2.2 bC.toNat Ω;have:=fg (d.at' bC.toNat).K (dd (d.at' bC.toNat).r e);have:=jJ (d.at' bC.toNat).r e;have:=E (bC+1);Ω⟩⟩⟩⟩⟩⟩⟩⟩⟩)
end
def Eu(s:I bD)(i:Nat):List Int:=gJ (s.at' i).r++gJ (s.at' i).K
def vV(s:I bW)(i:Nat):List Int:=gJ (s.at' i).r++aD (s.at' i).K
def eo(A:Int)(g:z)(u:Int)(o:I bD)(v:I z)(d:I bW):List Int:=
 vU A++(gJ g++(aD u++(vU (o.n:Int)++(cat (Eu o) o.n 0++(JS v++(vU (d.n:Int)++cat (vV d) d.n 0))))))
def akr{s:I bD}{i:Nat}(h:(s.at' i).r.size<=20/\(s.at' i).K.size<=20):(Eu s i).length<=42:=by
 have a:=yf h.1;have b:=yf h.2;unfold Eu;rw[db];omega
def alz{s:I bW}{i:Nat}(h:(s.at' i).r.size<=20):(vV s i).length<=29:=by
 have a:=yf h;unfold vV;rw[db,I9];omega
def amd{A:Int}{g:z}{u:Int}{o:I bD}{v:I z}{d:I bW}(h:ub g u o v d):(eo A g u o v d).length<=2000:=by
 have a:=yf h.1.1;have b:=aaE (kO h);have c:=BQ (f:=Eu o) (D:=42) o.n 0 λj _ i=>akr (h.2.2.1 j Ω);have k:=BQ (f:=vV d) (D:=29) d.n 0 λj _ i=>alz (h.2.2.2.2 j Ω).1;have e:=h.2.1;unfold eo;simp only[db,P_,I9];omega
def aaY(A:Int)(g:z)(u:Int)(o:I bD)(v:I z)(d:I bW)(w:I Int)(h:ub g u o v d):(pX A g u o v d w).B=w.B++eo A g u o v d:=by
 have f:=h.2.1;have c:(sA A g u o w).B=(cP (o.n:Int) (bw u (dd g (cP A w)))).B++cat (Eu o) o.n 0:=
  D7 (ze o) o.n 42 _ (λi s=>dd (o.at' i.toNat).K (dd (o.at' i.toNat).r s)) (Eu o) Ω (λ_ _ _=>rfl) (λi s a _=>by
   have b:=h.2.2.1 i a;simp only[gN];exact⟨by rw[Bn _ Ω,Bn _ Ω,e5];rfl,akr b⟩) _ (bH _)
 have e:(GH A g u o v d w).B=(cP (d.n:Int) (kg v (sA A g u o w))).B++cat (vV d) d.n 0:=
  D7 (CI d) d.n 29 _ (λi s=>bw (d.at' i.toNat).K (dd (d.at' i.toNat).r s)) (vV d) Ω (λ_ _ _=>rfl) (λi s a _=>by
   have b:=h.2.2.2.2 i a;simp only[gN];exact⟨by rw[wa _ Ω Ω,Bn _ Ω,e5];rfl,alz b.1⟩) _ (bH _)
 have j:=h.1;show(GH A g u o v d w).B=_;rw[e,Bm,QS _ _ (kO h),c,Bm,wa _ Ω Ω,Bn _ Ω,Bm];simp only[eo,e5]
def ai3(A:Int)(g:z)(u:Int)(o:I bD)(v:I z)(d:I bW)(w:I Int)(h:ub g u o v d):(pX A g u o v d w).n<=w.n+2000:=by
 rw[<-bj,aaY _ _ _ _ _ _ _ h,db,bj];have:=amd (A:=A) h;omega
def F3{s:I ah}(h:gP (aV 8 ho s)):dY s:=⟨h.len,λi a=>⟨(h.at (j:=4) (x:=aV 2 gB (s.at' i).j) a Ω rfl).len,(h.at (j:=5) (x:=aV 1 c5 (s.at' i).m) a Ω rfl).len,(h.at (j:=6) (x:=aV 2 gC (s.at' i).ak) a Ω rfl).len⟩⟩
def LA{s:I ay}(h:gP (aV 7 hP s)):e6 s:=⟨h.len,λi a=>(h.at (j:=6) (x:=aV 1 c5 (s.at' i).ak) a Ω rfl).len⟩
section
def z6(g:I ah):Nat->Int->I Int->I Int
 |0,_,_=>default
 |k+1,aI,cY=>let a:=g.at' aI.toNat;(cond (decide (aI<g.n)) (z6 g k (i64 (aI+1)) (bw a.aA (pX a.K a.G a.q a.j a.m a.ak (dd a.r cY)))) cY)
variable(A:Int)(g:I ah)(u:Int)(o:I ay)
def s5:I Int:=z6 g (toNat ((g.n:Int)-0)+1) 0 (cP (g.n:Int) (bw A (B:I Int)))
def DI(o:I ay):Nat->Int->I Int->I Int
 |0,_,_=>default
 |k+1,bq,b=>let a:=o.at' bq.toNat;(cond (decide (bq<o.n)) (DI o k (i64 (bq+1)) (kg a.ak (bw a.m (dd a.j (cP a.q (bw a.G (bw a.K (bw a.r b)))))))) b)
def xD:I Int:=DI o (toNat ((o.n:Int)-0)+1) 0 (cP (o.n:Int) (bw u (s5 A g)))
def jG:I Int:=cond (eK A g u o !=0) (B:I Int) (xD A g u o)
def au6:Int:=cond (eK A g u o !=0) (eK A g u o) 0
def apF:bt:=⟨[.g [a,.ab bx,a,.ab b8]],λA g u o=>⟨⟨none,.du [aV 1 cO (jG A g u o),c (au6 A g u o)]⟩⟩⟩
def aiK:bE 98 apF:=bG Tryz.func98
 λ(A:Int) g M C (u:Int) o N D=>bJ ⟨.pure,[.tmp 2,.tmp 3],[(.t 0,.ab bs),(.t 1,a)],⟨[U,U],[]⟩⟩ (.ae (.ae (.ae (.s (.jP [(.h 1 0,bs)]) (.ae (.j ⟨46,[],[],[],.f⟩ (.ae (.c6 ⟨7516192814,[],[],[(.t 32,a),(.h 2 0,.ad bs)],some 0,false,46,[],[(.h 2 0,.ad bs)],λk (s:Int×I Int)=>z6 g k s.1 s.2,.f,λ(s:Int×I Int)=>0<=s.1/\s.1<=(g.n:Int)/\(s.2.n:Int)<=10+s.1*2100,λ(s:Int×I Int)=>toNat ((g.n:Int)-s.1),some λ(r:I Int)=>(r.n:Int)<=25300⟩ .z)) (.ae (.ae (.j ⟨44,[],[],[],.f⟩ (.ae (.c6 ⟨4035225266123964460,[.b 0],[],[(.t 61,a),(.h 2 0,.ad bs)],some 2,false,44,[],[(.h 2 0,.ad bs)],λk (s:Int×I Int)=>DI o k s.1 s.2,.f,λ(s:Int×I Int)=>0<=s.1/\s.1<=(o.n:Int)/\(s.2.n:Int)<=25400+s.1*500,λ(s:Int×I Int)=>toNat ((o.n:Int)-s.1),none⟩ .z)) .z))))))))) (let z:=bw A (B:I Int);let p:=s5 A g;(eK A g u o !=0)=false->0<=400000000000/\z.n<=400000000000/\((0<=(0:Int)/\(0:Int)<=(g.n:Int)/\((cP (g.n:Int) z).n:Int)<=10+(0:Int)*2100)/\∀(aI:Int) (cY:I Int),let t:=decide (aI<g.n);let m:=i64 (aI+1);let e:=g.at' aI.toNat;let x:=pX e.K e.G e.q e.j e.m e.ak (dd e.r cY);(0<=aI/\aI<=g.n/\(cY.n:Int)<=10+aI*2100)->(t=true->((0:Int)<=aI/\aI<g.n)/\(cY.n<=300000000000/\e.r.size<=10000000000)/\(ub e.G e.q e.j e.m e.ak/\(dd e.r cY).n<=200000000000)/\x.n<=400000000000)/\(t=true->(0<=m/\m<=g.n/\((bw e.aA x).n:Int)<=10+m*2100)/\toNat ((g.n:Int)-m)<toNat ((g.n:Int)-aI))/\(t=false->(cY.n:Int)<=25300))/\((p.n:Int)<=25300->p.n<=400000000000/\(bw u p).n<=400000000000/\(0<=(0:Int)/\(0:Int)<=(o.n:Int)/\((cP (o.n:Int) (bw u p)).n:Int)<=25400+(0:Int)*500)/\∀(bq:Int) (c:I Int),let y:=decide (bq<o.n);let n:=i64 (bq+1);let i:=o.at' bq.toNat;let w:=bw i.r c;let q:=bw i.G (bw i.K w);let v:=dd i.j (cP i.q q);(0<=bq/\bq<=o.n/\(c.n:Int)<=25400+bq*500)->(y=true->((0:Int)<=bq/\bq<o.n)/\c.n<=400000000000/\w.n<=400000000000/\(bw i.K w).n<=400000000000/\q.n<=400000000000/\((cP i.q q).n<=300000000000/\i.j.size<=10000000000)/\v.n<=400000000000/\t_ i.ak/\(bw i.m v).n<=250000000000)/\(y=true->(0<=n/\n<=o.n/\((kg i.ak (bw i.m v)).n:Int)<=25400+n*500)/\toNat ((o.n:Int)-n)<toNat ((o.n:Int)-bq)))) (bZ 0 (aR OZ ba) (az IQ (az D0 (az OV (az ay1 (az aih bY)))))) Tryz.func98 (have:=F3 C;have:=LA D;(λd=>⟨Ω,⟨by have:=fg A (B:I Int);have:(B:I Int).n=0:=rfl;omega,⟨⟨by have:=jj (g.n:Int) (bw A (B:I Int));have:=fg A (B:I Int);have:(B:I Int).n=0:=rfl;omega,λaI cY K=>⟨λj=>⟨have:=al j;Ω,⟨have b:=hO _ _ _ _ Λ Φ (bP d);have:=b.1;have:=al j;have f:=b.2.1 aI.toNat Ω;have:=f.1;Ω,⟨⟨by have b:=hO _ _ _ _ Λ Φ (bP d);have:=b.1;have:=al j;have f:=b.2.1 aI.toNat Ω;have:=f.1;have:=f.2.1;have:=f.2.2;assumption,have b:=hO _ _ _ _ Λ Φ (bP d);have:=b.1;have:=al j;have f:=b.2.1 aI.toNat Ω;have:=f.1;have:=jJ (g.at' aI.toNat).r cY;Ω⟩,have b:=hO _ _ _ _ Λ Φ (bP d);have:=b.1;have:=al j;have f:=b.2.1 aI.toNat Ω;have:=f.1;have:=f.2.1;have:=ai3 (g.at' aI.toNat).K (g.at' aI.toNat).G (g.at' aI.toNat).q (g.at' aI.toNat).j (g.at' aI.toNat).m (g.at' aI.toNat).ak (dd (g.at' aI.toNat).r cY) Γ;have:=jJ (g.at' aI.toNat).r cY;Ω⟩⟩⟩,⟨λF=>have b:=hO _ _ _ _ Λ Φ (bP d);have:=al F;have f:=b.2.1 aI.toNat Ω;have:=f.1;have:=f.2.1;have:=fg (g.at' aI.toNat).aA (pX (g.at' aI.toNat).K (g.at' aI.toNat).G (g.at' aI.toNat).q (g.at' aI.toNat).j (g.at' aI.toNat).m (g.at' aI.toNat).ak (dd (g.at' aI.toNat).r cY));have:=ai3 (g.at' aI.toNat).K (g.at' aI.toNat).G (g.at' aI.toNat).q (g.at' aI.toNat).j (g.at' aI.toNat).m (g.at' aI.toNat).ak (dd (g.at' aI.toNat).r cY) Γ;have:=jJ (g.at' aI.toNat).r cY;have:=E (aI+1);Ω,λH=>have b:=hO _ _ _ _ Λ Φ (bP d);have:=b.1;Ω⟩⟩⟩,λJ=>⟨Ω,⟨have:=fg u (s5 A g);Ω,⟨have:=jj (o.n:Int) (bw u (s5 A g));have:=fg u (s5 A g);Ω,λbq c L=>⟨λl=>⟨have:=al l;Ω,⟨have b:=hO _ _ _ _ Λ Φ (bP d);have:=b.1;Ω,⟨have b:=hO _ _ _ _ Λ Φ (bP d);have:=b.1;have:=fg (o.at' bq.toNat).r c;Ω,⟨have b:=hO _ _ _ _ Λ Φ (bP d);have:=b.1;have:=fg (o.at' bq.toNat).K (bw (o.at' bq.toNat).r c);have:=fg (o.at' bq.toNat).r c;Ω,⟨have b:=hO _ _ _ _ Λ Φ (bP d);have:=b.1;have:=fg (o.at' bq.toNat).G (bw (o.at' bq.toNat).K (bw (o.at' bq.toNat).r c));have:=fg (o.at' bq.toNat).K (bw (o.at' bq.toNat).r c);have:=fg (o.at' bq.toNat).r c;Ω,⟨have b:=hO _ _ _ _ Λ Φ (bP d);have:=b.1;have:=al l;have h:=b.2.2 bq.toNat Ω;have:=h.2.1;have:=jj (o.at' bq.toNat).q (bw (o.at' bq.toNat).G (bw (o.at' bq.toNat).K (bw (o.at' bq.toNat).r c)));have:=fg (o.at' bq.toNat).G (bw (o.at' bq.toNat).K (bw (o.at' bq.toNat).r c));have:=fg (o.at' bq.toNat).K (bw (o.at' bq.toNat).r c);have:=fg (o.at' bq.toNat).r c;Ω,⟨have b:=hO _ _ _ _ Λ Φ (bP d);have:=b.1;have:=al l;have h:=b.2.2 bq.toNat Ω;have:=h.2.1;have:=jJ (o.at' bq.toNat).j (cP (o.at' bq.toNat).q (bw (o.at' bq.toNat).G (bw (o.at' bq.toNat).K (bw (o.at' bq.toNat).r c))));have:=jj (o.at' bq.toNat).q (bw (o.at' bq.toNat).G (bw (o.at' bq.toNat).K (bw (o.at' bq.toNat).r c)));have:=fg (o.at' bq.toNat).G (bw (o.at' bq.toNat).K (bw (o.at' bq.toNat).r c));have:=fg (o.at' bq.toNat).K (bw (o.at' bq.toNat).r c);have:=fg (o.at' bq.toNat).r c;Ω,⟨by have b:=hO _ _ _ _ Λ Φ (bP d);have:=b.1;have:=al l;have h:=b.2.2 bq.toNat Ω;have:=h.1;have:=h.2.1;have:=h.2.2;assumption,have b:=hO _ _ _ _ Λ Φ (bP d);have:=b.1;have:=al l;have h:=b.2.2 bq.toNat Ω;have:=h.2.1;have:=fg (o.at' bq.toNat).m (dd (o.at' bq.toNat).j (cP (o.at' bq.toNat).q (bw (o.at' bq.toNat).G (bw (o.at' bq.toNat).K (bw (o.at' bq.toNat).r c)))));have:=jJ (o.at' bq.toNat).j (cP (o.at' bq.toNat).q (bw (o.at' bq.toNat).G (bw (o.at' bq.toNat).K (bw (o.at' bq.toNat).r c))));have:=jj (o.at' bq.toNat).q (bw (o.at' bq.toNat).G (bw (o.at' bq.toNat).K (bw (o.at' bq.toNat).r c)));have:=fg (o.at' bq.toNat).G (bw (o.at' bq.toNat).K (bw (o.at' bq.toNat).r c));have:=fg (o.at' bq.toNat).K (bw (o.at' bq.toNat).r c);have:=fg (o.at' bq.toNat).r c;Ω⟩⟩⟩⟩⟩⟩⟩⟩,λG=>have b:=hO _ _ _ _ Λ Φ (bP d);have:=al G;have h:=b.2.2 bq.toNat Ω;have:=h.2.1;have:=h.2.2;have:=X8 (o.at' bq.toNat).ak (bw (o.at' bq.toNat).m (dd (o.at' bq.toNat).j (cP (o.at' bq.toNat).q (bw (o.at' bq.toNat).G (bw (o.at' bq.toNat).K (bw (o.at' bq.toNat).r c)))))) Γ;have:=fg (o.at' bq.toNat).m (dd (o.at' bq.toNat).j (cP (o.at' bq.toNat).q (bw (o.at' bq.toNat).G (bw (o.at' bq.toNat).K (bw (o.at' bq.toNat).r c)))));have:=jJ (o.at' bq.toNat).j (cP (o.at' bq.toNat).q (bw (o.at' bq.toNat).G (bw (o.at' bq.toNat).K (bw (o.at' bq.toNat).r c))));have:=jj (o.at' bq.toNat).q (bw (o.at' bq.toNat).G (bw (o.at' bq.toNat).K (bw (o.at' bq.toNat).r c)));have:=fg (o.at' bq.toNat).G (bw (o.at' bq.toNat).K (bw (o.at' bq.toNat).r c));have:=fg (o.at' bq.toNat).K (bw (o.at' bq.toNat).r c);have:=fg (o.at' bq.toNat).r c;have:=E (bq+1);Ω⟩⟩⟩⟩⟩⟩⟩))
end
def h8(s:I ah)(i:Nat):List Int:=gJ (s.at' i).r++(eo (s.at' i).K (s.at' i).G (s.at' i).q (s.at' i).j (s.at' i).m (s.at' i).ak++aD (s.at' i).aA)
def AA(s:I ay)(i:Nat):List Int:=aD (s.at' i).r++(aD (s.at' i).K++(aD (s.at' i).G++(vU (s.at' i).q++(gJ (s.at' i).j++(aD (s.at' i).m++JS (s.at' i).ak)))))
def O9(A:Int)(g:I ah)(u:Int)(o:I ay):List Int:=aD A++(vU (g.n:Int)++(cat (h8 g) g.n 0++(aD u++(vU (o.n:Int)++cat (AA o) o.n 0))))
def adz{s:I ah}{i:Nat}(h:Kn (s.at' i)):(h8 s i).length<=2100:=by
 have a:=yf h.1;have b:=amd (A:=(s.at' i).K) h.2.1;unfold h8;simp only[db,I9];omega
def aiP{s:I ay}{i:Nat}(h:RI (s.at' i)):(AA s i).length<=500:=by
 have a:=yf h.2.1.2.1;have b:=aaE h.2.2;unfold AA;simp only[db,I9,P_];omega
def aCc{A:Int}{g:I ah}{u:Int}{o:I ay}(h:Kw A g u o):(O9 A g u o).length<=28000:=by
 have a:=h.1;have c:=BQ (f:=h8 g) (D:=2100) g.n 0 λj _ b=>adz (h.2.1 j Ω);have d:=BQ (f:=AA o) (D:=500) o.n 0 λj _ b=>aiP (h.2.2 j Ω);unfold O9;simp only[db,I9,P_];omega
def amM{A:Int}{g:I ah}{u:Int}{o:I ay}(h:Kw A g u o):(xD A g u o).B=O9 A g u o:=by
 have f:=h.1;have c:(s5 A g).B=(cP (g.n:Int) (bw A (B:I Int))).B++cat (h8 g) g.n 0:=
  D7 (z6 g) g.n 2100 _ (λi s=>bw (g.at' i.toNat).aA (pX (g.at' i.toNat).K (g.at' i.toNat).G (g.at' i.toNat).q (g.at' i.toNat).j (g.at' i.toNat).m (g.at' i.toNat).ak (dd (g.at' i.toNat).r s))) (h8 g) Ω (λ_ _ _=>rfl) (λi s b _=>by
   have a:=h.2.1 i b;have e:=a.1;have k:=a.2.2;simp only[gN];refine⟨?_,adz a⟩;rw[wa _ Ω Ω,aaY _ _ _ _ _ _ _ a.2.1,Bn _ Ω];simp only[h8,e5]) _ (bH _)
 have d:(xD A g u o).B=(cP (o.n:Int) (bw u (s5 A g))).B++cat (AA o) o.n 0:=
  D7 (DI o) o.n 500 _ (λi s=>kg (o.at' i.toNat).ak (bw (o.at' i.toNat).m (dd (o.at' i.toNat).j (cP (o.at' i.toNat).q (bw (o.at' i.toNat).G (bw (o.at' i.toNat).K (bw (o.at' i.toNat).r s))))))) (AA o) Ω (λ_ _ _=>rfl) (λi s b _=>by
   have a:=h.2.2 i b;have e:=a.1;have j:=a.2.1;simp only[gN];refine⟨?_,aiP a⟩;rw[QS _ _ a.2.2,wa _ Ω Ω,Bn _ Ω,Bm,wa _ Ω Ω,wa _ Ω Ω,wa _ Ω Ω];simp only[AA,e5]) _ (bH _)
 rw[d,Bm,wa _ Ω Ω,c,Bm,wa _ Ω Ω,yv];simp only[O9,e5,r6]
def ap1(A dH:Int)(dy:I ah)(dI:Int)(dz:I ay):Prop:=A≠1->A≠2->Kw dH dy dI dz
def t153{x:Int}(h:(!(pW x))=false):1<=x/\x<=1048576:=by
 unfold pW Ma at h
 by_cases a:x>=1
 .by_cases b:x<=1048576
  .omega
  .simp [b]at h
 .simp [a]at h
def ZK{A g u o v d:Int}{y:Bool}{F p x:Int}{ao bR b6:z}{cl cF dX dH:Int}{dy:I ah}{dI:Int}{dz:I ay}(h:fJ A g u o v d y F p x ao bR b6 cl cF dX dH dy dI dz=0):
  (A=1/\(1<=g/\g<=1048576)/\ -1<=u/\u<3)\/(A=2/\(1<=o/\o<=1048576)/\fX v d y F p x ao bR b6 cl=0)\/(A=3/\(1<=cF/\cF<=1048576)/\(1<=dX/\dX<=1048576)/\eK dH dy dI dz=0):=by
 unfold fJ at h;have⟨aL,h⟩:=dG h Δ;have⟨_,h⟩:=dG h Δ;unfold NW at aL;have⟨cw,a5⟩:=c8 aL;have K:=dh cw;have G:=dh a5
 by_cases b:A=1
 .left;rw[b]at h;simp only[r9,au]at h;have⟨m,_⟩:=dG h Δ;unfold z8 at m;have⟨a,m⟩:=c8 m;have⟨e,f⟩:=c8 m;have i:=dh e;have d3:=dh f;exact⟨b,t153 a,Ω,Ω⟩
 .rw[ew.2 b]at h;simp only[aB]at h
  by_cases c:A=2
  .right;left;rw[c]at h;simp only[r9,au]at h;have⟨a,h⟩:=dG h Δ;exact⟨c,t153 a,h⟩
  .right;right;rw[ew.2 c]at h;simp only[aB]at h;unfold nf at h;have⟨a,h⟩:=dG h Δ;unfold H_ at a;have⟨e,f⟩:=c8 a;exact⟨Ω,t153 e,t153 f,h⟩
def art{A g u o v d:Int}{y:Bool}{F p x:Int}{ao bR b6:z}{cl cF dX dH:Int}{dy:I ah}{dI:Int}{dz:I ay}(f:dY dy)(c:e6 dz)(h:fJ A g u o v d y F p x ao bR b6 cl cF dX dH dy dI dz=0):ap1 A dH dy dI dz:=λa b=>by
 rcases ZK h with⟨e,_⟩|⟨e,_⟩|⟨_,_,_,e⟩
 .exact absurd e a
 .exact absurd e b
 .exact hO _ _ _ _ f c e
def QI:(0:Int)<=0/\(0:Int)<=255:=by decide
def yj:aN (B:I Int):=λ_=>QI
def aaG:aN (default:I Int):=λ_=>QI
def yh{a b:I Int}(c:aN a)(d:aN b):aN (I.app a b):=λi=>by
 show 0<=cond (Nat.blt i a.n) (a.at' i) (b.at' (i-a.n))/\cond (Nat.blt i a.n) (a.at' i) (b.at' (i-a.n))<=255
 cases Nat.blt i a.n
 .exact d _
 .exact c _
def al_(x:Int):0<=u8 x/\u8 x<=255:=by
 have h:u8 x=x%256:=rfl;rw[h];omega
def aaI(x:Int):aN (I.lit [u8 x]):=λi=>by
 cases i with
 |zero=>exact al_ x
 |succ i=>exact QI
def aGO(s:z):aN (I.ofStr s):=λi=>by
 show 0<=((s.data.toList.getD i 0).toNat:Int)/\((s.data.toList.getD i 0).toNat:Int)<=255;have:=(s.data.toList.getD i 0).toNat_lt;omega
def yi{F:Nat->Int->I Int->I Int}{c:Int->Bool}{Q:Int->Int}{st:Int->I Int->I Int}(a: ∀i t,F 0 i t=default)(b: ∀k i t,F (k+1) i t=bif c i then F k (Q i) (st i t)else t)(d: ∀i t,aN t->aN (st i t)): ∀k i t,aN t->aN (F k i t)
 |0,i,t,_=>by rw[a];exact aaG
 |k+1,i,t,h=>by
  rw[b]
  cases c i
  .exact h
  .exact yi a b d k _ _ (d i t h)
def rZ(x:Int){s:I Int}(h:aN s):aN (cP x s):=yh h (aaI x)
def ns(x:Int){s:I Int}(h:aN s):aN (bw x s):=by
 unfold bw ae3;exact yi (λ_ _=>rfl) (λ_ _ _=>rfl) (λi t a=>yh a (aaI _)) _ _ _ h
def tH(x:z){s:I Int}(h:aN s):aN (dd x s):=yh (rZ _ h) (aGO x)
def al1(x:I z){s:I Int}(h:aN s):aN (kg x s):=by
 unfold kg UN;exact yi (λ_ _=>rfl) (λ_ _ _=>rfl) (λi t a=>tH _ a) _ _ _ (rZ _ h)
def aGH(A:Int)(g:z)(u:Int)(o:I bD)(v:I z)(d:I bW){s:I Int}(h:aN s):aN (pX A g u o v d s):=by
 have b:aN (sA A g u o s):=by
  unfold sA;exact yi (λ_ _=>rfl) (λ_ _ _=>rfl) (λi t a=>tH _ (tH _ a)) _ _ _ (rZ _ (ns _ (tH _ (rZ _ h))))
 unfold pX GH;exact yi (λ_ _=>rfl) (λ_ _ _=>rfl) (λi t a=>ns _ (tH _ a)) _ _ _ (rZ _ (al1 _ b))
def jn(A:Int)(g:I ah)(u:Int)(o:I ay):aN (jG A g u o):=by
 have b:aN (s5 A g):=by
  unfold s5;exact yi (λ_ _=>rfl) (λ_ _ _=>rfl) (λi t a=>ns _ (aGH _ _ _ _ _ _ (tH _ a))) _ _ _ (rZ _ (ns _ yj))
 have c:aN (xD A g u o):=by
  unfold xD;exact yi (λ_ _=>rfl) (λ_ _ _=>rfl) (λi t a=>al1 _ (ns _ (tH _ (rZ _ (ns _ (ns _ (ns _ a))))))) _ _ _ (rZ _ (ns _ b))
 unfold jG
 cases (eK A g u o !=0)
 .exact c
 .exact yj
def Bz(s:I (I Int)):Prop:=s.n<=10/\ ∀i,i<s.n->(s.at' i).n<=1000000
def Te{a b c:I Int}(e:a.n<=1000000)(f:b.n<=1000000)(g:c.n<=1000000):Bz (I.lit [a,b,c]):=by
 refine⟨by show 3<=10;omega,λi d=> ?_⟩;have d:i<3:=d;have:i=0\/i=1\/i=2:=by omega
 rcases this with rfl|rfl|rfl
 .exact e
 .exact f
 .exact g
def Tf{a b c d:I Int}(f:a.n<=1000000)(g:b.n<=1000000)(h:c.n<=1000000)(j:d.n<=1000000):Bz (I.lit [a,b,c,d]):=by
 refine⟨by show 4<=10;omega,λi e=> ?_⟩;have e:i<4:=e;have:i=0\/i=1\/i=2\/i=3:=by omega
 rcases this with rfl|rfl|rfl|rfl
 .exact f
 .exact g
 .exact h
 .exact j
def ai5(A g:Int)(u:Bool)(o v d:Int)(y F p:z)(x:Int):y.size<=10000000000/\F.size<=10000000000/\p.size<=10000000000->(rv A g u o v d y F p x).n<=40000000000:=λh=>by
 unfold rv
 cases (fX A g u o v d y F p x !=0)
 .simp only[aB];unfold Gt G0 G9
  cases u
  .simp only[aB]
   cases decide (o>0)
   .simp only[aB,fg,jj,Ek];omega
   .simp only[au,fg,jj,jJ,Ek];omega
  .simp only[au,fg,jj,Ek];omega
 .simp only[au,Ek];omega
def ai6(A:Int)(g:I ah)(u:Int)(o:I ay)(h:dY g/\e6 o):(jG A g u o).n<=28000:=by
 unfold jG
 by_cases e:eK A g u o=0
 .have a:=hO A g u o h.1 h.2 e;rw[show(eK A g u o !=0)=false by simp [e]];simp only[aB];rw[<-bj,amM a];exact aCc a
 .rw[show(eK A g u o !=0)=true by simp [e]];simp only[au,Ek];omega
def UX(A:I (I Int)):Nat->Int->Int->Int
 |0,_,_=>default
 |k+1,b,f=>cond (decide (f<A.n)) (UX A k (i64 (b+((A.at' f.toNat).n:Int))) (i64 (f+1))) b
def atY(A:I (I Int)):Int:=UX A (toNat ((A.n:Int)-0)+1) 0 0
def Me(A:I (I Int)):Nat->Int->I Int->I Int
 |0,_,_=>default
 |k+1,a,b=>cond (decide (a<A.n)) (Me A k (i64 (a+1)) (I.app b (A.at' a.toNat))) b
def Mf(A:I (I Int)):I Int:=Me A (toNat ((A.n:Int)-0)+1) 0 (B:I Int)
def uM(A:I (I Int)):I Int:=Mf A
def an5:bt:=⟨[.v (.ab abb)],λA=>⟨⟨some (Bz A),(aG.ad bs).av (uM A)⟩⟩⟩
def ail:bE 102 an5:=bG Tryz.func102
 λA B _ d=>bJ ⟨.own bs,[.tmp 2],[(.h 0 0,.ad bs)],⟨[],[]⟩⟩ (.ae (.ae (.j ⟨13,[],[],[],.f⟩ (.ae (.c6 ⟨3597,[],[],[(.t 3,a),(.t 11,a)],some 0,false,13,[],[(.t 3,a)],λk (s:Int×Int)=>UX A k s.1 s.2,.f,λ(s:Int×Int)=>0<=s.2/\s.2<=(A.n:Int)/\0<=s.1/\s.1<=s.2*1000000,λ(s:Int×Int)=>toNat ((A.n:Int)-s.2),some λ(r:Int)=>0<=r/\r<=10000000⟩ .z)) (.ae (.j ⟨68,[],[],[],.f⟩ (.ae (.c6 ⟨234881092,[],[],[(.t 27,a),(.h 0 0,.ad bs)],some 2,false,68,[],[(.h 0 0,.ad bs)],λk (s:Int×I Int)=>Me A k s.1 s.2,.f,λ(s:Int×I Int)=>0<=s.1/\s.1<=(A.n:Int)/\(s.2.n:Int)<=s.1*1000000,λ(s:Int×I Int)=>toNat ((A.n:Int)-s.1),none⟩ .z)) .z))))) (let j:=atY A;((0<=(0:Int)/\(0:Int)<=(A.n:Int)/\0<=(0:Int)/\(0:Int)<=(0:Int)*1000000)/\∀(b f:Int),let l:=decide (f<A.n);let h:=i64 (f+1);let g:=i64 (b+((A.at' f.toNat).n:Int));(0<=f/\f<=A.n/\0<=b/\b<=f*1000000)->(l=true->((0:Int)<=f/\f<A.n)/\(decide (g<0)=true->False))/\(l=true->decide (g<0)=false->(0<=h/\h<=A.n/\0<=g/\g<=h*1000000)/\toNat ((A.n:Int)-h)<toNat ((A.n:Int)-f))/\(l=false->0<=b/\b<=10000000))/\(0<=j/\j<=10000000->(0<=j/\j<=549755813888)/\((0<=(0:Int)/\(0:Int)<=(A.n:Int)/\(0:Int)<=(0:Int)*1000000)/\∀(c:Int) (e:I Int),let p:=A.at' c.toNat;let o:=decide (c<A.n);let i:=i64 (c+1);(0<=c/\c<=A.n/\(e.n:Int)<=c*1000000)->(o=true->((0:Int)<=c/\c<A.n)/\e.n+p.n<=549755813888)/\(o=true->(0<=i/\i<=A.n/\(((e.n+p.n):Nat):Int)<=i*1000000)/\toNat ((A.n:Int)-i)<toNat ((A.n:Int)-c))))) (cK (aR azA ba)) Tryz.func102 (⟨⟨Ω,λb f y=>⟨λm=>⟨have:=al m;Ω,λt=>have:=al m;have:=al t;have:=d.2 f.toNat Ω;have:=E (b+((A.at' f.toNat).n:Int));Ω⟩,⟨λu v=>have:=al u;have:=d.2 f.toNat Ω;have:=E (f+1);have:=E (b+((A.at' f.toNat).n:Int));Ω,λw=>have:=d.1;Ω⟩⟩⟩,λx=>⟨Ω,⟨Ω,λc e z=>⟨λn=>⟨have:=al n;Ω,have:=al n;have:=d.1;have:=d.2 c.toNat Ω;Ω⟩,λq=>have:=al q;have:=d.2 c.toNat Ω;have:=E (c+1);Ω⟩⟩⟩⟩)
def iO(A:Int):I Int:=I.lit ([u8 (A/2^(toNat 16)),u8 (A/2^(toNat 8)),u8 A]:List Int)
def an6:bt:=⟨[.v a],λA=>⟨⟨none,(aG.ad bs).av (iO A)⟩⟩⟩
def aim:bE 103 an6:=bG Tryz.func103
 λ(A:Int)=>bJ ⟨.own bs,[.tmp 2],[(.h 0 0,.ad bs)],⟨[],[]⟩⟩ .z (((0:Int)<=16/\(16:Int)<=64)/\(0:Int)<=8/\(8:Int)<=64) gb Tryz.func103 (⟨Ω,Ω⟩)
def qp(A:Int):(iO A).n=3:=rfl
def kh(A g u o v d:Int)(y:Bool)(F p x:Int)(ao bR b6:z)(cl cF dX dH:Int)(dy:I ah)(dI:Int)(dz:I ay):I Int:=cond (A==1) (I.app (I.app (I.lit ([1]:List Int)) (iO g)) (I.lit ([u8 (i64 (u+1))]:List Int))) (cond (A==2) (I.app (I.app (I.lit ([2]:List Int)) (iO o)) (rv v d y F p x ao bR b6 cl)) (uM (I.lit ([I.lit ([3]:List Int),iO cF,iO dX,jG dH dy dI dz]:List (I Int)))))
def an4:bt:=⟨[.g [a,a,a,a,a,a,l,a,a,a,ar,ar,ar,a,a,a,a,.ab bx,a,.ab b8]],λ(A g u o v d:Int) y (F p x:Int) ao bR b6 (cl cF dX dH:Int) dy (dI:Int) dz=>⟨⟨some (ao.size<=10000000000/\bR.size<=10000000000/\b6.size<=10000000000),(aG.ad bs).av (kh A g u o v d y F p x ao bR b6 cl cF dX dH dy dI dz)⟩⟩⟩
def aza:bE 101 an4:=bG Tryz.func101
 λ(A g u o v d:Int) y (F p x:Int) ao n bR q b6 r (cl cF dX dH:Int) dy s a (dI:Int) dz t b f=>bJ ⟨.own bs,[.tmp 2],[(.h 0 0,.ad bs)],⟨[],[]⟩⟩ .z ((((A==1)=true->1+(iO g).n<=549755813888/\(1+(iO g).n)+1<=549755813888)/\((A==1)=false->(A==2)=true->(ao.size<=10000000000/\bR.size<=10000000000/\b6.size<=10000000000)/\1+(iO o).n<=549755813888/\(1+(iO o).n)+(rv v d y F p x ao bR b6 cl).n<=549755813888))/\((A==1)=false->(A==2)=false->Bz (I.lit ([I.lit ([3]:List Int),iO cF,iO dX,jG dH dy dI dz]:List (I Int))))) (cK (aR OY (aR aiK (aR ail (aR aim ba))))) Tryz.func101 (have⟨k,l,m⟩:=f;have:=F3 a;have:=LA b;⟨⟨λh=>⟨have:=qp g;Ω,have:=qp g;Ω⟩,λi j=>⟨Ω,⟨have:=qp o;Ω,have:=qp o;have:=ai5 v d y F p x ao bR b6 cl;Ω⟩⟩⟩,(λc e=>(by have:=dk c;have:=dk e;have:=qp cF;have:=qp dX;have:=ai6 dH dy dI dz Γ;have:(I.lit ([3]:List Int)).n=1:=rfl;have:(I.lit ([I.lit ([3]:List Int),iO cF,iO dX,jG dH dy dI dz]:List (I Int))).n=4:=rfl;(first|exact Te Ω Ω Ω|exact Tf Ω Ω Ω Ω|assumption)))⟩)
def aaZ(s:I (I Int))(h:Bz s):(uM s).B=cat (λi=>(s.at' i).B) s.n 0:=by
 have a:(Mf s).B=(B:I Int).B++cat (λi=>(s.at' i).B) s.n 0:=
  D7 (Me s) s.n 1000000 0 (λi t=>I.app t (s.at' i.toNat)) (λi=>(s.at' i).B) (have:=h.1;Ω) (λ_ _ _=>rfl) (λi t b _=>by
   have:=h.2 i b;simp only[gN];exact⟨fH _ _,by rw[bj];omega⟩) _ (bH _)
 show(Mf s).B=_;rw[a,yv,r6]
def amI{a b c:I Int}(d:a.n<=1000000)(e:b.n<=1000000)(f:c.n<=1000000):(uM (I.lit [a,b,c])).B=a.B++(b.B++c.B):=by
 rw[aaZ _ (Te d e f)];show a.B++(b.B++(c.B++[]))=_;rw[iE]
def aa0{a b c d:I Int}(e:a.n<=1000000)(f:b.n<=1000000)(g:c.n<=1000000)(h:d.n<=1000000):(uM (I.lit [a,b,c,d])).B=a.B++(b.B++(c.B++d.B)):=by
 rw[aaZ _ (Tf e f g h)];show a.B++(b.B++(c.B++(d.B++[])))=_;rw[iE]
def aBx(A g u o v d:Int)(y:Bool)(F p x:Int)(ao bR b6:z)(cl cF dX dH:Int)(dy:I ah)(dI:Int)(dz:I ay)(h:dY dy/\e6 dz):
  ao.size<=10000000000/\bR.size<=10000000000/\b6.size<=10000000000->(kh A g u o v d y F p x ao bR b6 cl cF dX dH dy dI dz).n<=50000000000:=λa=>by
 unfold kh
 cases (A==1)
 .simp only[aB]
  cases (A==2)
  .simp only[aB];have l:=ai6 dH dy dI dz h;rw[<-bj,aa0 (by show 1<=_;omega) (by rw[qp];omega) (by rw[qp];omega) Ω];simp only[db,bj,qp,I.n1,dE,gx];omega
  .have l:=ai5 v d y F p x ao bR b6 cl a;simp only[au,I.qN,I.n1,qp,dE,gx];omega
 .simp only[au,I.qN,I.n1,qp,dE,gx];omega
section
variable(A:I Int)(g u o v d y F:Int)(p:Bool)(x ao bR:Int)(b6 cl cF:z)(dX dH dy dI:Int)(dz:I ah)(iC:Int)(iD:I ay)
def wS:Bool:=cond (decide (g<0)) true (cond (decide (g>A.n)) true (decide ((A.n:Int)>400000)))
def bL:I Int:=cond (wS A g) (B:I Int) A
def k4:Int:=cond (wS A g) 0 g
def h9:Bool:=cond (wS A g) false true
def am5:bt:=⟨[.g [.ab bs,a]],λA g=>⟨⟨none,.du [.agg [aV 1 cO (bL A g),c (k4 A g)],.bool (h9 A g)]⟩⟩⟩
def OR:bE 93 am5:=bG Tryz.func93
 λA _ _ (g:Int)=>bJ ⟨.pure,[.cell 2 79,.tmp 3],[(.c 0 0,.ab bs),(.c 0 1,a),(.t 1,l)],⟨[.agg (us 2 []),U],[]⟩⟩ (.ae (.s (.j ⟨1048590,[],[(.t 20,l)],[],.f⟩ .z .z) .z)) True (cK (aR aii ba)) Tryz.func93 trivial
def s9(A:I Int)(g:Int)(h:h9 A g=true):(0<=k4 A g/\k4 A g<=((bL A g).n:Int))/\(bL A g).n<=400000:=by
 unfold h9 at h
 cases a:wS A g with
 |true=>rw[a]at h;simp at h
 |false=>
  simp only[k4,bL,a,aB];simp [wS]at a;omega
def l9{A:I Int}{g:Int}(h:aN A):aN (bL A g):=by
 unfold bL
 cases wS A g
 .exact h
 .exact λ_=>⟨bz 0,(by decide:(0:Int)<=255)⟩
def z_:I Int:=cond (!(h9 A g)) (B:I Int) (cond (fJ u o v d y F p x ao bR b6 cl cF dX dH dy dI dz iC iD !=0) (B:I Int) (cond (decide (i64 (i64 (((bL A g).n:Int)+3)+((kh u o v d y F p x ao bR b6 cl cF dX dH dy dI dz iC iD).n:Int))>400000)) (B:I Int) (uM (I.lit ([bL A g,iO ((kh u o v d y F p x ao bR b6 cl cF dX dH dy dI dz iC iD).n:Int),kh u o v d y F p x ao bR b6 cl cF dX dH dy dI dz iC iD]:List (I Int))))))
def NZ:Int:=cond (!(h9 A g)) 0 (cond (fJ u o v d y F p x ao bR b6 cl cF dX dH dy dI dz iC iD !=0) 0 (cond (decide (i64 (i64 (((bL A g).n:Int)+3)+((kh u o v d y F p x ao bR b6 cl cF dX dH dy dI dz iC iD).n:Int))>400000)) 0 (k4 A g)))
def xH:Int:=cond (!(h9 A g)) 13 (cond (fJ u o v d y F p x ao bR b6 cl cF dX dH dy dI dz iC iD !=0) (fJ u o v d y F p x ao bR b6 cl cF dX dH dy dI dz iC iD) (cond (decide (i64 (i64 (((bL A g).n:Int)+3)+((kh u o v d y F p x ao bR b6 cl cF dX dH dy dI dz iC iD).n:Int))>400000)) 6 0))
def apJ:bt:=⟨[.g [.ab bs,a],.g [a,a,a,a,a,a,l,a,a,a,ar,ar,ar,a,a,a,a,.ab bx,a,.ab b8]],λA (g u o v d y F:Int) p (x ao bR:Int) b6 cl cF (dX dH dy dI:Int) dz (iC:Int) iD=>⟨⟨some (b6.size<=10000000000/\cl.size<=10000000000/\cF.size<=10000000000),.du [.agg [aV 1 cO (z_ A g u o v d y F p x ao bR b6 cl cF dX dH dy dI dz iC iD),c (NZ A g u o v d y F p x ao bR b6 cl cF dX dH dy dI dz iC iD)],c (xH A g u o v d y F p x ao bR b6 cl cF dX dH dy dI dz iC iD)]⟩⟩⟩
def aAs:bE 88 apJ:=bG Tryz.func88
 λA q _ (g u o v d y F:Int) p (x ao bR:Int) b6 r cl s cF t (dX dH dy dI:Int) dz w c (iC:Int) iD z e j=>bJ ⟨.pure,[.cell 4 79,.tmp 5],[(.c 0 0,.ab bs),(.c 0 1,a),(.t 1,a)],⟨[.agg (us 2 []),U],[]⟩⟩ .z (let b:=kh u o v d y F p x ao bR b6 cl cF dX dH dy dI dz iC iD;(!(h9 A g))=false->(fJ u o v d y F p x ao bR b6 cl cF dX dH dy dI dz iC iD !=0)=false->(b6.size<=10000000000/\cl.size<=10000000000/\cF.size<=10000000000)/\(decide (i64 (i64 (((bL A g).n:Int)+3)+(b.n:Int))>400000)=false->Bz (I.lit ([bL A g,iO (b.n:Int),b]:List (I Int))))) (cK (aR XQ (aR OR (aR aza (aR ail (aR aim ba)))))) Tryz.func88 (have⟨l,m,n⟩:=j;have:=F3 c;have:=LA e;(λf h=>⟨Ω,(λi=>(by have:=s9 _ _ (by simpa using f);have k:=art Λ Φ (bP h);have:=hy i;have:=qp ((kh u o v d y F p x ao bR b6 cl cF dX dH dy dI dz iC iD).n:Int);have:=aBx u o v d y F p x ao bR b6 cl cF dX dH dy dI dz iC iD Γ;have:(I.lit ([bL A g,iO ((kh u o v d y F p x ao bR b6 cl cF dX dH dy dI dz iC iD).n:Int),kh u o v d y F p x ao bR b6 cl cF dX dH dy dI dz iC iD]:List (I Int))).n=3:=rfl;have:=E (((bL A g).n:Int)+3);have:=E (i64 (((bL A g).n:Int)+3)+((kh u o v d y F p x ao bR b6 cl cF dX dH dy dI dz iC iD).n:Int));(first|exact Te Ω Ω Ω|exact Tf Ω Ω Ω Ω|assumption)))⟩))
end
section
variable(A:I Int)(g u:Int)
def Dy:I Int:=cond (!(h9 A g)) (B:I Int) (bL A g)
def MP:Int:=cond (!(h9 A g)) 0 ((bL A g).n:Int)
def auO:Int:=cond (!(h9 A g)) 13 0
def ao9:bt:=⟨[.g [.ab bs,a]],λA g=>⟨⟨none,.du [.agg [aV 1 cO (Dy A g),c (MP A g)],c (auO A g)]⟩⟩⟩
def aAb:bE 81 ao9:=bG Tryz.func81
 λA _ _ (g:Int)=>bJ ⟨.pure,[.cell 2 79,.tmp 3],[(.c 0 0,.ab bs),(.c 0 1,a),(.t 1,a)],⟨[.agg (us 2 []),U],[]⟩⟩ .z True (cK (aR OR ba)) Tryz.func81 trivial
def rq:I Int:=cond (!(h9 A g)) (B:I Int) (cond (decide (u<0)) (B:I Int) (I.part (bL A g) 0 (i64 (k4 A g+gj u (i64 (((bL A g).n:Int)- (k4 A g)))))))
def xv:Int:=cond (!(h9 A g)) 0 (cond (decide (u<0)) 0 (i64 (k4 A g+gj u (i64 (((bL A g).n:Int)- (k4 A g))))))
def auV:Int:=cond (!(h9 A g)) 13 (cond (decide (u<0)) 2 0)
def apl:bt:=⟨[.g [.ab bs,a],.v a],λA g u=>⟨⟨none,.du [.agg [aV 1 cO (rq A g u),c (xv A g u)],c (auV A g u)]⟩⟩⟩
def aAm:bE 82 apl:=bG Tryz.func82
 λA e _ (g u:Int)=>bJ ⟨.pure,[.cell 4 79,.tmp 5],[(.c 0 0,.ab bs),(.c 0 1,a),(.t 1,a)],⟨[.agg (us 2 []),U],[]⟩⟩ .z (let b:=i64 (k4 A g+gj u (i64 (((bL A g).n:Int)- (k4 A g))));(!(h9 A g))=false->decide (u<0)=false->(0:Int)<=0/\(0:Int)<=b/\(b:Int)<=b/\(b:Int)<=((bL A g).n:Int)) (cK (aR OR ba)) Tryz.func82 (λc d=>have:=s9 _ _ (by simpa using c);have:=hy d;have:=qm u (i64 (((bL A g).n:Int)- (k4 A g)));have:=E (((bL A g).n:Int)- (k4 A g));have:=E (k4 A g+gj u (i64 (((bL A g).n:Int)- (k4 A g))));Ω)
end
structure mg (x:ax):Prop where
 A8:x.ak.size<=10000000000
 A9:x.aA.size<=10000000000
 A_:x.i.size<=10000000000
structure qK (r:bB):Prop where
 aFr:r.b4.size<=10000000000
 aFs:r.cb.size<=10000000000
 aFt:r.b0.size<=10000000000
def vQ(a b c d:Int):qK ⟨a,b,c,d,0,0,false,0,0,0,ε,ε,ε,0,0,0,0,B,0,B⟩:=⟨cd _,cd _,cd _⟩
def vP{a b c e A g:Int}{u:Bool}{o v d:Int}{y F p:z}{x:Int}(h:mg ⟨A,g,u,o,v,d,y,F,p,x⟩):qK ⟨a,b,c,e,A,g,u,o,v,d,y,F,p,x,0,0,0,B,0,B⟩:=⟨h.A8,h.A9,h.A_⟩
def tA{a b c d e f g:Int}{s:I ah}{k:Int}{l:I ay} :qK ⟨a,b,c,d,0,0,false,0,0,0,ε,ε,ε,0,e,f,g,s,k,l⟩:=⟨cd _,cd _,cd _⟩
def KQ{α:Type}{s:I α}(c:Bool)(a b:I α)(h:s=bif c then a else b):s.n=a.n\/s.n=b.n:=by
 subst h
 cases c
 .exact .inr rfl
 .exact .inl rfl
section
variable(i:Nat)(h:N)
def b_:Int:=lf h.e h.lt h.li
def my:Int:=VZ h.e h.lt h.li
def Rf:dv:=⟨[.fZ 0 (33*i)],cn,fp,e9,cW λC=>⟨⟨none,[c (b_ (C.h i)),c (my (C.h i))],cx aS 0 C⟩⟩⟩
def apU:c2:=⟨.ff true [] [] (g8 i aS 0 [0,0] 2) (g7 i aS),[.tmp 2,.tmp 3],[(.t 0,a),(.t 1,a)]++gA i aS,⟨[],[]⟩⟩
theorem aAT(i:Nat)(a:i<3):fB Tryz.prog 44 (Rf i) cn [] (cW λC=>⟨⟨none,[c (b_ (C.h i)),c (my (C.h i))],cx aS 0 C⟩⟩) []:=by
 refine g6 λC b=>eX (apU i) .z True (bZ 10 (aR aiD ba) bY) Tryz.func44 [] ?_ ?_ trivial
 .exact Υ
 .exact Υ
theorem aD0(i:Nat)(a:i<3):gW 44 (Rf i):=
 aAT i a
theorem Ax(i:Nat)(a:i<3):gX 44 (Rf i):=hi g4 Tryz.func44 (aD0 i a)
def hr:Int:=my h
def RA:dv:=⟨[.fZ 0 (33*i)],cn,fp,e9,cW λC=>⟨⟨none,[c (hr (C.h i))],cx aS 0 C⟩⟩⟩
def abP:c2:=⟨.ff true [] [] (g8 i aS 0 [0] 1) (g7 i aS),[.tmp 2],[(.t 0,a)]++gA i aS,⟨[],[]⟩⟩
def avJ(C:aq):cz (abP i).ck:=.ae (.ae (.b5 ⟨([U,U,c 0,U,c (my (C.h i))]++us 6 ([])),cA aS 0 C []⟩ .z))
theorem aBa(i:Nat)(a:i<3):fB Tryz.prog 71 (RA i) cn [] (cW λC=>⟨⟨none,[c (hr (C.h i))],cx aS 0 C⟩⟩) []:=by
 refine g6 λC b=>eX (abP i) (avJ i C) True (bZ 10 ba (az (Ax i a) bY)) Tryz.func71 [] ?_ ?_ trivial
 .exact Υ
 .exact Υ
theorem aEh(i:Nat)(a:i<3):gW 71 (RA i):=
 aBa i a
theorem az7(i:Nat)(a:i<3):gX 71 (RA i):=hi g4 Tryz.func71 (aEh i a)
end
section
variable(i:Nat)(rc:bB)(h:N)
def gu:Bool:=cond (xH h.a_ h.bp rc.r rc.K rc.G rc.q rc.j rc.m rc.ak rc.aA rc.i rc.aJ rc.b4 rc.cb rc.b0 rc.cq rc.bn rc.c9 rc.fc rc.eH rc.fe rc.eI !=0) false true
def xm:I Int:=cond (xH h.a_ h.bp rc.r rc.K rc.G rc.q rc.j rc.m rc.ak rc.aA rc.i rc.aJ rc.b4 rc.cb rc.b0 rc.cq rc.bn rc.c9 rc.fc rc.eH rc.fe rc.eI !=0) h.a_ (z_ h.a_ h.bp rc.r rc.K rc.G rc.q rc.j rc.m rc.ak rc.aA rc.i rc.aJ rc.b4 rc.cb rc.b0 rc.cq rc.bn rc.c9 rc.fc rc.eH rc.fe rc.eI)
def HQ:Int:=cond (xH h.a_ h.bp rc.r rc.K rc.G rc.q rc.j rc.m rc.ak rc.aA rc.i rc.aJ rc.b4 rc.cb rc.b0 rc.cq rc.bn rc.c9 rc.fc rc.eH rc.fe rc.eI !=0) h.bp (NZ h.a_ h.bp rc.r rc.K rc.G rc.q rc.j rc.m rc.ak rc.aA rc.i rc.aJ rc.b4 rc.cb rc.b0 rc.cq rc.bn rc.c9 rc.fc rc.eH rc.fe rc.eI)
def fI:N:={h with a_:=(xm rc h),bp:=(HQ rc h)}
def RB:dv:=⟨[.fZ 0 (33*i),.g [a,a,a,a,a,a,l,a,a,a,ar,ar,ar,a,a,a,a,.ab bx,a,.ab b8]],cn,fp,e9,λ(b c p q r s:Int) t (u v w:Int) d e f (g h j k:Int) m (n:Int) o=>cW λC=>⟨⟨some (qK (⟨b,c,p,q,r,s,t,u,v,w,d,e,f,g,h,j,k,m,n,o⟩:bB)),[.bool (gu (⟨b,c,p,q,r,s,t,u,v,w,d,e,f,g,h,j,k,m,n,o⟩:bB) (C.h i))],cx aS 0 (C.set i (fI (⟨b,c,p,q,r,s,t,u,v,w,d,e,f,g,h,j,k,m,n,o⟩:bB) (C.h i)))⟩⟩⟩
def apZ:c2:=⟨.ff true [] [] (g8 i aS 0 [0] 1) (g7 i aS),[.tmp 4],[(.t 0,l)]++gA i aS,⟨[],[]⟩⟩
def Zj(i:Nat)(rc:bB)(C:aq):Prop:=(rc.b4.size<=10000000000/\rc.cb.size<=10000000000/\rc.b0.size<=10000000000)
theorem aDv(i:Nat)(d:i<3)(rc:bB)(C:aq)(c:fa C)(e:rc.b4.size<=549755813888)(f:rc.cb.size<=549755813888)(g:rc.b0.size<=549755813888)(h:rc.eH.n<=549755813888)(j:rc.eI.n<=549755813888)(a:qK rc):Zj i rc C:=by
 have b:=hB c i d;unfold gz at b;unfold Zj;exact have:=a.aFr;have:=a.aFs;have:=a.aFt;(Ω)
theorem aBb(i:Nat)(a:i<3)(rc:bB)(e:rc.b4.size<=549755813888)(f:rc.cb.size<=549755813888)(g:rc.b0.size<=549755813888)(h:rc.eH.n<=549755813888)(j:rc.eI.n<=549755813888):fB Tryz.prog 72 (RB i) cn [] (cW λC=>⟨⟨some (qK rc),[.bool (gu rc (C.h i))],cx aS 0 (C.set i (fI rc (C.h i)))⟩⟩) [c rc.r,c rc.K,c rc.G,c rc.q,c rc.j,c rc.m,.bool rc.ak,c rc.aA,c rc.i,c rc.aJ,.str rc.b4,.str rc.cb,.str rc.b0,c rc.cq,c rc.bn,c rc.c9,c rc.fc,aV 8 ho rc.eH,c rc.fe,aV 7 hP rc.eI]:=by
 refine g6 λC b d=>eX (apZ i) .z (Zj i rc C) (bZ 10 (aR aAs ba) bY) Tryz.func72 ([.f]++List.replicate 29 .l++[.f,.f]++List.replicate 71 .l) ?_ ?_ (aDv i a rc C b e f g h j d)
 .exact Υ
 .exact Υ
theorem aEi(i:Nat)(c:i<3):gW 72 (RB i):=
 kt (bF:=[a,a,a,a,a,a,l,a,a,a,ar,ar,ar,a,a,a,a,.ab bx,a,.ab b8]) λs b=>Eq.mp Υ (aBb i c ⟨s.1,s.2.1,s.2.2.1,s.2.2.2.1,s.2.2.2.2.1,s.2.2.2.2.2.1,s.2.2.2.2.2.2.1,s.2.2.2.2.2.2.2.1,s.2.2.2.2.2.2.2.2.1,s.2.2.2.2.2.2.2.2.2.1,s.2.2.2.2.2.2.2.2.2.2.1,s.2.2.2.2.2.2.2.2.2.2.2.1,s.2.2.2.2.2.2.2.2.2.2.2.2.1,s.2.2.2.2.2.2.2.2.2.2.2.2.2.1,s.2.2.2.2.2.2.2.2.2.2.2.2.2.2.1,s.2.2.2.2.2.2.2.2.2.2.2.2.2.2.2.1,s.2.2.2.2.2.2.2.2.2.2.2.2.2.2.2.2.1,s.2.2.2.2.2.2.2.2.2.2.2.2.2.2.2.2.2.1,s.2.2.2.2.2.2.2.2.2.2.2.2.2.2.2.2.2.2.1,s.2.2.2.2.2.2.2.2.2.2.2.2.2.2.2.2.2.2.2.1⟩ (b.2.2.2.2.2.2.2.2.2.2.1 rfl) (b.2.2.2.2.2.2.2.2.2.2.2.1 rfl) (b.2.2.2.2.2.2.2.2.2.2.2.2.1 rfl) (b.2.2.2.2.2.2.2.2.2.2.2.2.2.2.2.2.2.1 rfl) (b.2.2.2.2.2.2.2.2.2.2.2.2.2.2.2.2.2.2.2.1 rfl))
theorem IT(i:Nat)(a:i<3):gX 72 (RB i):=hi g4 Tryz.func72 (aEi i a)
end
section
variable(i:Nat)(h:N)(L:I ai)
def zJ(b:Int)(f:I ai):I ai:=cond (decide ((f.n:Int)<300)) (I.app f (I.lit ([h.a1.at' b.toNat]:List ai))) f
def mB(h:N):Nat->Int->I ai->I ai
 |0,_,_=>default
 |k+1,b,f=>cond (decide (b<h.a1.n)) (mB h k (i64 (b+1)) (zJ h b f)) f
def auI:I ai:=mB h (toNat ((h.a1.n:Int)-0)+1) 0 L
def sQ:I ai:=auI h L
def lb:N:={h with a_:=(Dy h.a_ h.bp),bp:=(MP h.a_ h.bp),a1:=(B:I ai)}
def Rx:dv:=⟨[.p 0,.fZ 0 (33*i)],cn,fp,e9,cW λC=>⟨⟨none,[],cx (aS.set (2*i+1) 10) 1 (C.put i (lb (C.h i)) (sQ (C.h i) C.s) C.told C.aU)⟩⟩⟩
def abN:c2:=⟨.ff true [] [.kill (2*i+2),.own (.h 0 (33*i+32)) cR 10] (g8 i (aS.set (2*i+1) 10) 1 [] 0) (g7 i (aS.set (2*i+1) 10)),[],[]++gA i (aS.set (2*i+1) 10),⟨[],[]⟩⟩
def avH(C:aq):cz (abN i).ck:=.ae (.j ⟨2,[],[],[],.f⟩ (.ae (.c6 ⟨7340035,[],[],[(.t 22,a),(.h 7 0,.ad cR)],some 0,false,2,[],[(.h 7 0,.ad cR)],λk (s:Int×I ai)=>mB (C.h i) k s.1 s.2,.f,λ(s:Int×I ai)=>(0<=s.1/\s.1<=(((C.h i).a1.n:Nat):Int))/\(s.2.n:Int)<=C.s.n+(s.1-0),λ(s:Int×I ai)=>toNat ((((C.h i).a1.n:Nat):Int)-s.1),some λ(r:I ai)=>(r.n:Int)<=C.s.n+max ((((C.h i).a1.n:Nat):Int)-0) 0⟩ (.ae (.ae (.j ⟨3757047843,[.b 11],[(.h 7 0,.ad cR)],[],.f⟩ .z .z))))) .z)
def Zg(i:Nat)(C:aq):Prop:=(((0<=(0:Int)/\(0:Int)<=(((C.h i).a1.n:Nat):Int))/\(C.s.n:Int)<=C.s.n+((0:Int)-0))/\∀(b:Int) (f:I ai),(0<=b/\b<=(((C.h i).a1.n:Nat):Int))/\(f.n:Int)<=C.s.n+(b-0)->(decide (b<(((C.h i).a1.n:Nat):Int))=true->(((0:Int)<=b/\b<(((C.h i).a1.n:Nat):Int))/\toNat b<(C.h i).a1.n)/\(decide ((f.n:Int)<300)=true->f.n+1<=549755813888))/\(decide (b<(((C.h i).a1.n:Nat):Int))=true->((0<=i64 (b+1)/\i64 (b+1)<=(((C.h i).a1.n:Nat):Int))/\((zJ (C.h i) b f).n:Int)<=C.s.n+(i64 (b+1)-0))/\toNat ((((C.h i).a1.n:Nat):Int)- (i64 (b+1)))<toNat ((((C.h i).a1.n:Nat):Int)-b))/\(decide (b<(((C.h i).a1.n:Nat):Int))=false->(f.n:Int)<=C.s.n+max ((((C.h i).a1.n:Nat):Int)-0) 0))
theorem aDs(i:Nat)(j:i<3)(C:aq)(g:fa C):Zg i C:=by
 have e:=hB g i j;unfold gz at e;unfold Zg;exact(⟨Ω,λb f l=>⟨λa=>⟨⟨have:=al a;Ω,have:=al a;Ω⟩,λc=>have:=al c;Ω⟩,⟨λd=>by have:=al d;have h:=KQ (s:=(zJ (C.h i) b f)) _ _ _ rfl;(try simp only[I.qN,I.n1,I.vM,dE,gx]at h);have:=E (b+1);omega,λk=>Ω⟩⟩⟩)
theorem aA8(i:Nat)(a:i<3):fB Tryz.prog 60 (Rx i) cn [] (cW λC=>⟨⟨none,[],cx (aS.set (2*i+1) 10) 1 (C.put i (lb (C.h i)) (sQ (C.h i) C.s) C.told C.aU)⟩⟩) []:=by
 refine g6 λC b=>eX (abN i) (avH i C) (Zg i C) (bZ 10 (aR aAb ba) bY) Tryz.func60 [] ?_ ?_ (aDs i a C b)
 .exact Υ
 .exact Υ
theorem aEe(i:Nat)(a:i<3):gW 60 (Rx i):=
 aA8 i a
theorem az3(i:Nat)(a:i<3):gX 60 (Rx i):=hi g4 Tryz.func60 (aEe i a)
end
def th{t u a b c k:Int}{d:Bool}{e f g:z}(h:e.size<=10000000000)(i:f.size<=10000000000)(j:g.size<=10000000000):mg ⟨t,u,d,a,b,c,e,f,g,k⟩:=⟨h,i,j⟩
section
variable(A:Int)(u o:z)(v d:Int)(y:z)(F:Int)(p:I bD)(x:I z)(ao:I bW)
def wX:Int:=cond (A==1) p1 (cond (A==2) 0 (cond (A==3) (cond (!(jV (i64 (F+v)))) (sC 7) p1) (cond (A==17) p1 (cond (A==18) 0 (cond (d==3) (afM A u p) (cond (d==4) (afR A x) (cond (d==5) (afX A o x) (af2 A o ao))))))))
def afa:z:=cond (A==1) p2 (cond (A==2) y (cond (A==3) (cond (!(jV (i64 (F+v)))) uN p2) (cond (A==17) p2 (cond (A==18) ε (cond (d==3) (afN A u p) (cond (d==4) (afS A x) (cond (d==5) (afY A o x) (af3 A o ao))))))))
def afb:Int:=let a:=i64 (F+v);(cond (A==1) (nJ 0) (cond (A==2) 0 (cond (A==3) (cond (!(jV a)) uO (nJ a)) (cond (A==17) (nJ (k6 p x ao)) (cond (A==18) 0 (cond (d==3) (afO A u p) (cond (d==4) (afT A x) (cond (d==5) (afZ A o x) (af4 A o ao)))))))))
def afc:I z:=cond (A==1) p3 (cond (A==2) (B:I z) (cond (A==3) (cond (!(jV (i64 (F+v)))) uP p3) (cond (A==17) p3 (cond (A==18) (Vj p x ao) (cond (d==3) (afP A u p) (cond (d==4) (afU A x) (cond (d==5) (af0 A o x) (af5 A o ao))))))))
def UY:Int:=cond (A==1) 1 d
def afd:z:=cond (A==1) o y
def afe:Int:=let a:=i64 (F+v);(cond (A==1) 0 (cond (A==2) F (cond (A==3) (cond (!(jV a)) F a) F)))
def UZ:I bD:=cond (A==1) (B:I bD) (cond (A==2) p (cond (A==3) p (cond (A==17) p (cond (A==18) p (cond (d==3) (afQ A u o p) p)))))
def U0:I z:=cond (A==1) (B:I z) (cond (A==2) x (cond (A==3) x (cond (A==17) x (cond (A==18) x (cond (d==3) x (cond (d==4) (afV A o x) (cond (d==5) (af1 A o x) x)))))))
def U1:I bW:=cond (A==1) (B:I bW) (cond (A==2) ao (cond (A==3) ao (cond (A==17) ao (cond (A==18) ao (cond (d==3) ao (cond (d==4) ao (cond (d==5) ao (af6 A o v ao))))))))
def aoa:cj:=⟨[.p 0,.g [a,ar,ar,ar,a]],[(.h 0 0,a),(.h 0 1,ar),(.h 0 2,a),(.h 1 0,.ad ds),(.h 2 0,.ad b1),(.h 3 0,.ad dc)],[[U,U,U,.own 1 0,.own 2 0,.own 3 0],[U],[U],[U]],λ(A:Int) _ u o (v d:Int) y (F:Int) p x ao=>⟨⟨some (p.n<=1000000/\x.n<=1000000/\ao.n<=1000000/\(d≠4\/(7<=A/\A<=8)\/1<=x.n)),[.agg [c (wX A u o v d F p x ao),.str (afa A u o v d y F p x ao),c (afb A u o v d F p x ao),aV 1 c5 (afc A u o v d F p x ao)]],[[c (UY A d),.str (afd A o y),c (afe A v F),aV 2 gB (UZ A u o d p),aV 1 c5 (U0 A o d x),aV 2 gC (U1 A o v d ao)],[dP],[dP],[dP]]⟩⟩⟩
def aze:er 177 aoa:=ev Tryz.func177
 λ(A:Int) g I u K o L (v d:Int) y M (F:Int) p N x O ao J c=>ep (ms:=[.f,.f,.f,.f,.b .f .l,.b .f .l,.b .f (.b .f (.b .f .l)),.b .f (.b .f (.b .l (.b .f (.b .f (.b .f .l))))),.b .f (.b .f (.b .l .f)),.b .f (.b .f (.b .l .f))]) ⟨.mF true [] [.mj (.h 0 3) ds,.kill 1,.mj (.h 0 4) b1,.kill 2,.mj (.h 0 5) dc,.kill 3],[.cell 4 93],[(.c 0 0,a),(.c 0 1,ar),(.c 0 2,a),(.c 0 3,.ab b1),(.h 0 0,a),(.h 0 1,ar),(.h 0 2,a),(.h 0 3,.ab ds),(.h 0 4,.ab b1),(.h 0 5,.ab dc)],⟨[.agg [U,U,U,U]],[[U,U,U,U,U,U],[dP],[dP],[dP]]⟩⟩ .z (((A==1)=false->(A==2)=false->(A==3)=false->(A==17)=false->(A==18)=true->p.n<=100000000000/\x.n<=100000000000/\ao.n<=100000000000)/\((A==1)=false->(A==2)=false->(A==3)=false->(A==17)=false->(A==18)=false->(((d==3)=true->p.n<=1000000)/\((d==3)=false->((d==4)=true->x.n<=1000000/\((7<=A/\A<=8)\/1<=x.n))/\((d==4)=false->(d==5)=true->x.n<=1000000)))/\((d==3)=false->(d==4)=false->(d==5)=false->ao.n<=1000000))) (bZ 4 (aR OS (aR XG (aR D1 (aR IS (aR azB ba))))) (az azC (az azD (az azE (az azF bY))))) Tryz.func177 (have⟨D,E,G,H⟩:=c;⟨λe q r s t=>Ω,λw z B C f=>⟨⟨λh=>Ω,λi=>⟨λb=>have:=eq_of_beq b;Ω,λj k=>Ω⟩⟩,λl m n=>Ω⟩⟩)
end
structure ap7 (A:Int) (g:z) (u:Int) (ZY:I bD) (ZZ:I z) (Z2:I bW):Prop where
 k:1<=A/\A<=6
 t:A≠1->g=ε
 i:A≠2->u=0
 a3:A≠3->ZY.n=0
 a4:A≠4->A≠5->ZZ.n=0
 hA:A≠6->Z2.n=0
 j_:A=3->1<=ZY.n/\ZY.n<=20
 nz:A=4\/A=5->1<=ZZ.n/\ZZ.n<=20
 mU:A=6->1<=Z2.n/\Z2.n<=20
def acr{x:z}(h:(!(x.toList==ε.toList))=false):x=ε:=by
 have h:x.toList=ε.toList:=by simpa using h
 have a:x.data.toList=[]:=by
  have e: ∀y:z,y.toList=y.data.toList:=λy=>ByteArray.toList_eq y;rw[e,e]at h;exact h
 cases x with
 |mk d=>cases d with
  |mk l=>simp at a;subst a;rfl
def aFD(A:Int)(g:z)(u:Int)(a:I bD)(b:I z)(c:I bW)(o:a.n<=1048576)(p:b.n<=1048576)(q:c.n<=1048576)(h:jE A g u a b c=0):ap7 A g u a b c:=by
 unfold jE at h;have⟨aL,h⟩:=dG h Δ;have⟨aO,h⟩:=dG h Δ;have⟨i,_⟩:=dG h Δ;unfold u6 at aL;have⟨cw,a5⟩:=c8 aL;have K:=dh cw;have G:=dh a5;unfold nR agM agN u7 u9 u_ at aO;have⟨j,aO⟩:=c8 aO;have⟨d,aO⟩:=c8 aO;unfold qi at i;have k:A=1\/A=2\/A=3\/A=4\/A=5\/A=6:=by omega
 have r:(B:I bD).n=0:=rfl;have s:(B:I z).n=0:=rfl;have t:(B:I bW).n=0:=rfl;have aO:=dh aO;have l:3<=A-> ¬(k6 a b c<1)/\ ¬(k6 a b c>20):=λf=>by
  rw[bm (show A>=3 by omega)]at i;have⟨m,n⟩:=c8 i;exact⟨dh m,dh n⟩
 rw[aay _ _ _ o p q]at l;have t1:A≠1->g=ε:=λf=>by
  rw[show(A==1)=false from ew.2 f]at j;exact acr j
 have t2:A≠2->u=0:=λf=>by
  rw[show(A==2)=false from ew.2 f]at d;have d:=bP d;revert d
  cases (A==1)<;>exact id
 rcases k with e|e|e|e|e|e<;>subst e<;>
 simp only[r9,Int.reduceBEq,au,aB]at aO<;>
 rw[aay _ _ _ Ω Ω Ω]at aO<;>
 exact⟨Ω,t1,t2,Ω,Ω,Ω,Ω,Ω,Ω⟩
section
variable(A:Int)(g:z)(u:Int)(o:I bD)(v:I z)(d:I bW)(y:Int)(F p x:z)(ao:Int)
def Cr:Bool:=cond (A==0) (cond ((g:z).toList==ε.toList) (cond (u==0) (k6 o v d==0) false) false) false
def m1:Bool:=cond (jE A g u o v d !=0) (!(Cr A g u o v d)) false
def Up:Bool:=cond (Cr A g u o v d) (!(CS y)) false
def aeK:Bool:=cond (CR y !=0) (CR y !=A) false
def atL:Bool:=cond (decide (y>=17)) (decide (A<3)) false
def atM:Bool:=cond (aeK A y) (aeK A y) (atL A y)
def k3:Int:=cond (Cr A g u o v d) (CR y) (CP A)
def oE:Bool:=cond (Up A g u o v d y) false (cond (Cr A g u o v d) true (cond (atM A y) false true))
def Cs:Bool:=let a:=k3 A g u o v d y;(cond (decide (UY y a>=3)) (k6 (UZ y p x a o) (U0 y x a v) (U1 y x ao a d)==0) false)
def atF:Int:=cond (Cs A g u o v d y p x ao) 0 (UY y (k3 A g u o v d y))
def atG:z:=cond (Cs A g u o v d y p x ao) ε (afd y x (CQ g))
def atH:Int:=cond (Cs A g u o v d y p x ao) 0 (afe y ao (m3 u))
def atI:I bD:=cond (Cs A g u o v d y p x ao) (B:I bD) (UZ y p x (k3 A g u o v d y) o)
def atJ:I z:=cond (Cs A g u o v d y p x ao) (B:I z) (U0 y x (k3 A g u o v d y) v)
def atK:I bW:=cond (Cs A g u o v d y p x ao) (B:I bW) (U1 y x ao (k3 A g u o v d y) d)
def LJ:Int:=cond (m1 A g u o v d) 0 (cond (fS y F p x ao !=0) 0 (cond (decide (y>18)) 0 (cond (oE A g u o v d y) (cond (wX y p x ao (k3 A g u o v d y) (m3 u) o v d !=0) (CP A) (CP (atF A g u o v d y p x ao))) (CP A))))
def aeG:z:=cond (m1 A g u o v d) ε (cond (fS y F p x ao !=0) ε (cond (decide (y>18)) ε (cond (oE A g u o v d y) (cond (wX y p x ao (k3 A g u o v d y) (m3 u) o v d !=0) (CQ g) (CQ (atG A g u o v d y p x ao))) (CQ g))))
def aeH:Int:=cond (m1 A g u o v d) 0 (cond (fS y F p x ao !=0) 0 (cond (decide (y>18)) 0 (cond (oE A g u o v d y) (cond (wX y p x ao (k3 A g u o v d y) (m3 u) o v d !=0) (m3 u) (m3 (atH A g u o v d y p x ao))) (m3 u))))
def Ul:I bD:=cond (m1 A g u o v d) (B:I bD) (cond (fS y F p x ao !=0) (B:I bD) (cond (decide (y>18)) (B:I bD) (cond (oE A g u o v d y) (cond (wX y p x ao (k3 A g u o v d y) (m3 u) o v d !=0) o (atI A g u o v d y p x ao)) o)))
def Um:I z:=cond (m1 A g u o v d) (B:I z) (cond (fS y F p x ao !=0) (B:I z) (cond (decide (y>18)) (B:I z) (cond (oE A g u o v d y) (cond (wX y p x ao (k3 A g u o v d y) (m3 u) o v d !=0) v (atJ A g u o v d y p x ao)) v)))
def Un:I bW:=cond (m1 A g u o v d) (B:I bW) (cond (fS y F p x ao !=0) (B:I bW) (cond (decide (y>18)) (B:I bW) (cond (oE A g u o v d y) (cond (wX y p x ao (k3 A g u o v d y) (m3 u) o v d !=0) d (atK A g u o v d y p x ao)) d)))
def Gb:Int:=cond (m1 A g u o v d) 0 (cond (fS y F p x ao !=0) 0 (cond (decide (y>18)) 0 (cond (oE A g u o v d y) (wX y p x ao (k3 A g u o v d y) (m3 u) o v d) (cond (Up A g u o v d y) (sC 5) (sC 4)))))
def aeI:z:=cond (m1 A g u o v d) ε (cond (fS y F p x ao !=0) ε (cond (decide (y>18)) ε (cond (oE A g u o v d y) (afa y p x ao (k3 A g u o v d y) (CQ g) (m3 u) o v d) uN)))
def aeJ:Int:=cond (m1 A g u o v d) 0 (cond (fS y F p x ao !=0) 0 (cond (decide (y>18)) 0 (cond (oE A g u o v d y) (afb y p x ao (k3 A g u o v d y) (m3 u) o v d) uO)))
def Uo:I z:=cond (m1 A g u o v d) (B:I z) (cond (fS y F p x ao !=0) (B:I z) (cond (decide (y>18)) (B:I z) (cond (oE A g u o v d y) (afc y p x ao (k3 A g u o v d y) (m3 u) o v d) uP)))
def atE:Int:=cond (m1 A g u o v d) (jE A g u o v d) (cond (fS y F p x ao !=0) (fS y F p x ao) (cond (decide (y>18)) 3 0))
def d185{x:Int}(h:CS x=true):CR x≠4\/(7<=x/\x<=8):=by
 by_cases g:x=7
 .omega
 by_cases i:x=8
 .omega
 refine .inl λe=> ?_;unfold CS ae_ at h;have k:x=1\/x=3\/x=4\/x=11\/x=14:=by
  by_cases a:x=1
  .omega
  by_cases b:x=3
  .omega
  by_cases c:x=4
  .omega
  by_cases d:x=11
  .omega
  by_cases f:x=14
  .omega
  simp [a,b,c,d,f,g,i]at h
 rcases k with k|k|k|k|k<;>subst k<;>simp [CR,ae6,ae7,ae8,ae9]at e
def d101(A:Int)(g:z)(u:Int)(o:I bD)(v:I z)(d:I bW)(y:Int)(b:m1 A g u o v d=false)(h:oE A g u o v d y=true)(f:o.n<=1048576)(i:v.n<=1048576)(j:d.n<=1048576):
  o.n<=20/\v.n<=20/\d.n<=20/\(k3 A g u o v d y≠4\/(7<=y/\y<=8)\/1<=v.n):=by
 unfold oE Up at h;unfold m1 at b;unfold k3
 cases e:Cr A g u o v d with
 |true=>
  simp only[e,au]at h |-;have l:CS y=true:=by
   cases a:CS y with
   |true=>rfl
   |false=>rw[a]at h;cases h
  unfold Cr at e;have c:(k6 o v d==0)=true:=by
   cases a:(k6 o v d==0)with
   |true=>rfl
   |false=>rw[a]at e;revert e;cases (A==0)<;>cases (g.toList==ε.toList)<;>cases (u==0)<;>simp
  have c:=eq_of_beq c;rw[aay _ _ _ f i j]at c;have:=d185 l;omega
 |false=>
  simp only[e,aB,Bool.not_false]at h b |-;have k:jE A g u o v d=0:=by
   cases a:(jE A g u o v d !=0)with
   |false=>exact bP a
   |true=>rw[a]at b;cases b
  have m:=(ars _ _ _ _ _ _ f i j k).2.1;have s:=(aFD _ _ _ _ _ _ f i j k).nz;unfold CP;omega
def amV:bt:=⟨[.g [a,ar,a,.ab ds,.ab b1,.ab dc],.g [a,ar,ar,ar,a]],λ(A:Int) g (u:Int) o v d (y:Int) F p x (ao:Int)=>⟨⟨some (o.n<=1048576/\v.n<=1048576/\d.n<=1048576),.du [.agg [c (LJ A g u o v d y F p x ao),.str (aeG A g u o v d y F p x ao),c (aeH A g u o v d y F p x ao),aV 2 gB (Ul A g u o v d y F p x ao),aV 1 c5 (Um A g u o v d y F p x ao),aV 2 gC (Un A g u o v d y F p x ao)],.agg [c (Gb A g u o v d y F p x ao),.str (aeI A g u o v d y F p x ao),c (aeJ A g u o v d y F p x ao),aV 1 c5 (Uo A g u o v d y F p x ao)],c (atE A g u o v d y F p x ao)]⟩⟩⟩
def ayt:bE 151 amV:=bG Tryz.func151
 λ(A:Int) g m (u:Int) o n _ v q _ d r _ (y:Int) F s p t x w (ao:Int) h=>bJ (ms:=[.b .f (.b .f (.b .f (.b .f .l))),.b .f (.b .f (.b .f (.b .f .l))),.b .f (.b .f (.b .f (.b .f .l))),.b .f (.b .f (.b .f (.b .f .l))),.b .f (.b .f (.b .f (.b .f .l))),.b .f (.b .f (.b .f (.b .f .l))),.b .f (.b .f (.b .f (.b .l .f))),.b .f (.b .f (.b .f (.b .l .l))),.b .f (.b .f (.b .f (.b .l .l))),.b .f (.b .f (.b .f (.b .l .l))),.b .f (.b .f (.b .f .l))]) ⟨.pure,[.cell 4 118,.cell 5 93,.tmp 6],[(.c 0 0,a),(.c 0 1,ar),(.c 0 2,a),(.c 0 3,.ab ds),(.c 0 4,.ab b1),(.c 0 5,.ab dc),(.c 1 0,a),(.c 1 1,ar),(.c 1 2,a),(.c 1 3,.ab b1),(.t 2,a)],⟨[.agg (us 6 []),.agg (us 4 []),U],[]⟩⟩ (.ae (.j ⟨252,[],[(.t 7,l)],[],.f⟩ .z (.s (.ae (.j ⟨274877907452,[],[(.t 38,l)],[],.f⟩ .z .z)) (.ae (.ae (.ae (.ae (.j ⟨1148,[],[(.h 7 0,a)],[],.f⟩ (.j ⟨576460752303426812,[],[(.t 59,l)],[],.f⟩ .z (.ae (.ae (.ae (.j ⟨9444732965739290428540,[],[(.t 73,l)],[],.f⟩ (.j ⟨9444732965739290428540,[],[(.t 73,l)],[],.f⟩ .z (.ae (.j ⟨9444732965739290428540,[],[(.t 73,l)],[],.f⟩ .z .z))) .z))))) (.ae (.ae (.j ⟨5232,[],[(.h 7 0,a),(.h 7 1,ar),(.h 7 2,a),(.h 7 3,.ab ds),(.h 7 4,.ab b1),(.h 7 5,.ab dc)],[],.f⟩ (.j ⟨162259276829213363391578010293360,[.b 0,.b 1,.b 4,.b 5,.b 6],[(.t 107,l)],[],.f⟩ .z .z) .z))))))))))) (m1 A g u o v d=false->(fS y F p x ao !=0)=false->decide (y>18)=false->oE A g u o v d y=true->o.n<=1000000/\v.n<=1000000/\d.n<=1000000/\(k3 A g u o v d y≠4\/(7<=y/\y<=8)\/1<=v.n)) (bZ 0 (aR XM (aR aiF (aR XG (aR azc (aR azd (aR D1 ba)))))) (az azb (az aze bY))) Tryz.func151 (have⟨i,j,k⟩:=h;(λb c e f=>by have:=b;simp [m1]at this;have:=bP c;have:=hy e;have:=d101 _ _ _ _ _ _ _ Ψ f Ω Ω Ω;omega))
end
section
def L7(p:I ah):Nat->Int->I z->I z
 |0,_,_=>default
 |k+1,b,f=>cond (decide (b<p.n)) (L7 p k (i64 (b+1)) (I.app f (I.lit ([(p.at' b.toNat).r]:List z)))) f
variable(A:Int)(g u o:z)(v d:Int)(p:I ah)
def aeQ:I z:=L7 p (toNat ((p.n:Int)-0)+1) 0 (B:I z)
def pT:Bool:=cond (A==20) (A==20) (A==21)
def sx:Int:=cond (iM g p) (p.at' (toNat (jg g p))).K 0
def sy:z:=cond (iM g p) (p.at' (toNat (jg g p))).G ε
def sz:Int:=cond (iM g p) (p.at' (toNat (jg g p))).q 0
def q2:I bD:=cond (iM g p) (p.at' (toNat (jg g p))).j (B:I bD)
def q3:I z:=cond (iM g p) (p.at' (toNat (jg g p))).m (B:I z)
def q4:I bW:=cond (iM g p) (p.at' (toNat (jg g p))).ak (B:I bW)
def Cy:Bool:=cond (LJ (sx g p) (sy g p) (sz g p) (q2 g p) (q3 g p) (q4 g p) A g u o v==0) (iM g p) false
def Ur:Bool:=cond (!(iM g p)) ((p.n:Int)==12) false
def atQ:I ah:=let f:=q4 g p;let e:=q3 g p;let d:=q2 g p;let c:=sz g p;let b:=sy g p;let a:=sx g p;let h:=LJ a b c d e f A g u o v;(cond (Gb a b c d e f A g u o v !=0) p (cond (Cy A g u o v p) (Gi (jg g p) p) (cond (h !=0) (aeW A g h (aeG a b c d e f A g u o v) (aeH a b c d e f A g u o v) (Ul a b c d e f A g u o v) (Um a b c d e f A g u o v) (Un a b c d e f A g u o v) (jg g p) (iM g p) p) p)))
def Gf:Bool:=cond (Gb (sx g p) (sy g p) (sz g p) (q2 g p) (q3 g p) (q4 g p) A g u o v !=0) true (cond (Cy A g u o v p) true (cond (Ur g p) false true))
def aeN:Int:=cond (A==22) 0 (cond (A==19) 0 (cond (pT A) (aeR A v d (iM g p)) (cond (Gf A g u o v p) (Gb (sx g p) (sy g p) (sz g p) (q2 g p) (q3 g p) (q4 g p) A g u o v) 6)))
def aeO:z:=cond (A==22) ε (cond (A==19) ε (cond (pT A) aeS (cond (Gf A g u o v p) (aeI (sx g p) (sy g p) (sz g p) (q2 g p) (q3 g p) (q4 g p) A g u o v) ε)))
def aeP:Int:=cond (A==22) 0 (cond (A==19) (cond (!(iM g p)) 0 1) (cond (pT A) (aeT A d (jg g p) (iM g p) p) (cond (Gf A g u o v p) (aeJ (sx g p) (sy g p) (sz g p) (q2 g p) (q3 g p) (q4 g p) A g u o v) 0)))
def Uq:I z:=cond (A==22) (aeQ p) (cond (A==19) (B:I z) (cond (pT A) aeU (cond (Gf A g u o v p) (Uo (sx g p) (sy g p) (sz g p) (q2 g p) (q3 g p) (q4 g p) A g u o v) (B:I z))))
def atO:Int:=jg g p
def atP:Bool:=iM g p
def wR:I ah:=cond (A==22) p (cond (A==19) (cond (!(iM g p)) p (Gi (jg g p) p)) (cond (pT A) (aeV A v d (jg g p) (iM g p) p) (cond (Gf A g u o v p) (atQ A g u o v p) p)))
def aGi(A:Int)(g u o:z)(v:Int)(p:I ah)(h:Cy A g u o v p=true):jg g p<(p.n:Int):=by
 refine Bi g p ?_;unfold Cy at h
 cases e:iM g p with
 |true=>rfl
 |false=>rw[e]at h;simp at h
def aCu(g:z)(p:I ah)(h:wz p):((q2 g p).n:Int)<=1048576:=by
 unfold q2
 cases e:iM g p with
 |false=>show(0:Int)<=_;omega
 |true=>
  have a:=yY g p (have:=h.1;Ω);have b:=Bi g p e;have:=h.2 (toNat (jg g p)) Ω;simp only[au];omega
def aCv(g:z)(p:I ah)(h:wz p):((q3 g p).n:Int)<=1048576:=by
 unfold q3
 cases e:iM g p with
 |false=>show(0:Int)<=_;omega
 |true=>
  have a:=yY g p (have:=h.1;Ω);have b:=Bi g p e;have:=h.2 (toNat (jg g p)) Ω;simp only[au];omega
def aCw(g:z)(p:I ah)(h:wz p):((q4 g p).n:Int)<=1048576:=by
 unfold q4
 cases e:iM g p with
 |false=>show(0:Int)<=_;omega
 |true=>
  have a:=yY g p (have:=h.1;Ω);have b:=Bi g p e;have:=h.2 (toNat (jg g p)) Ω;simp only[au];omega
def am4:cj:=⟨[.p 0,.g [a,ar,ar,ar,a]],[(.h 0 0,a),(.h 0 2,a),(.h 0 3,l),(.h 1 0,.ad bx)],[[U,.own 1 0,U,U],[U]],λ(A:Int) g u o (v d:Int) _ _ p=>let b:=wR A g u o v d p;⟨⟨some (wz p/\p.n<=1000000),[.agg [c (aeN A g u o v d p),.str (aeO A g u o v p),c (aeP A g u o v d p),aV 1 c5 (Uq A g u o v p)]],[[c d,.own 2 (b).n,c (atO g p),.bool (atP g p)],[dP],[(aG.ad bx).av b]]⟩⟩⟩
def ayA:er 136 am4:=ev Tryz.func136
 λ(A:Int) g Y u Z o aCD (v d y:Int) F p aJg N=>ep (ms:=[.b .f (.b .l .f),.b .f (.b .l .f),.f,.b .f (.b .l .f),.l,.l,.l,.f]) ⟨.mF true [.b 2] [.own (.h 0 1) bx 2],[.cell 4 93],[(.c 0 0,a),(.c 0 1,ar),(.c 0 2,a),(.c 0 3,.ab b1),(.h 0 0,a),(.h 0 2,a),(.h 0 3,l),(.h 2 0,.ad bx)],⟨[.agg [U,U,U,U]],[[U,.own 2 0,U,U],[dP],[U]]⟩⟩ (.ae (.ae (.s (.ae (.ae (.s (.ae (.j ⟨57,[],[],[],.f⟩ (.ae (.c6 ⟨117440569,[],[(.h 4 3,b1)],[(.t 26,a),(.h 5 0,.ad b1)],some 1,false,57,[],[(.h 5 0,.ad b1)],λk (s:Int×I z)=>L7 p k s.1 s.2,.f,λ(s:Int×I z)=>(0<=s.1/\s.1<=(p.n:Int))/\(s.2.n:Int)<=0+(s.1-0),λ(s:Int×I z)=>toNat ((p.n:Int)-s.1),some λ(r:I z)=>(r.n:Int)<=0+max ((p.n:Int)-0) 0⟩ .z)) .z)) (.ae (.ae (.j ⟨1125899906842649,[],[(.t 50,l)],[],.f⟩ .z .z)))))) (.ae (.j ⟨281,[],[(.h 4 0,a),(.h 4 1,ar),(.h 4 2,a),(.h 4 3,.ab ds),(.h 4 4,.ab b1),(.h 4 5,.ab dc)],[],.f⟩ .z (.ae (.Av ⟨1040,[.b 2,.b 4,.b 5],[(.h 41 0,.ad bx)],[],.b .f (.b .f (.b .f .l))⟩ [.own (.h 0 1) bx 41] (.ae (.ae (.j ⟨9671406556917033397650969,[.b 4],[(.t 83,l)],[],.f⟩ .z (.ae (.j ⟨39614081257132168796771976729,[],[(.t 95,l)],[],.f⟩ .z .z))))) .z))))))) (let D:=Cy A g u o v p;let w:=q4 g p;let t:=q3 g p;let q:=q2 g p;let m:=iM g p;let c:=jg g p;(((A==22)=true->((0<=(0:Int)/\(0:Int)<=(p.n:Int))/\(0:Int)<=0+((0:Int)-0))/\∀(b:Int) (f:I z),let n:=decide (b<p.n);let j:=i64 (b+1);((0<=b/\b<=p.n)/\(f.n:Int)<=0+(b-0))->(n=true->(((0:Int)<=b/\b<p.n)/\toNat b<p.n)/\f.n+1<=549755813888)/\(n=true->((0<=j/\j<=p.n)/\(((f.n+1):Nat):Int)<=0+(j-0))/\toNat ((p.n:Int)-j)<toNat ((p.n:Int)-b))/\(n=false->(f.n:Int)<=0+max ((p.n:Int)-0) 0))/\((A==22)=false->((A==19)=true->(!m)=false->p.n<=1000000/\0<=c/\c<p.n)/\((A==19)=false->pT A=true->tZ m c p.n/\p.n<=1000000)))/\((A==22)=false->(A==19)=false->pT A=false->(m=true->((0:Int)<=c/\c<p.n)/\toNat c<p.n)/\(q.n<=1048576/\t.n<=1048576/\w.n<=1048576)/\((Gb (sx g p) (sy g p) (sz g p) q t w A g u o v !=0)=false->(D=true->p.n<=1000000/\0<=c/\c<p.n)/\(D=false->Ur g p=false->(LJ (sx g p) (sy g p) (sz g p) q t w A g u o v !=0)=true->tZ m c p.n/\p.n<=1000000)))) (bZ 2 (aR ayt ba) (az ayC (az ayD (az ayE (az ayI bY))))) Tryz.func136 (have⟨W,X⟩:=N;⟨⟨λO=>⟨Ω,λb f V=>⟨λC=>⟨⟨have:=al C;Ω,have:=al C;Ω⟩,Ω⟩,⟨λL=>have:=al L;have:=E (b+1);Ω,λQ=>Ω⟩⟩⟩,λR=>⟨λS M=>have:=aGy _ _ M;have:=yY g p Ω;Ω,λT P=>⟨Γ,Ω⟩⟩⟩,λe h i=>⟨λx=>⟨by have:=dk e;have:=dk h;have:=i;simp [pT]at this;have:=Bi _ _ x;have:=yY g p Ω;omega,by have:=dk e;have:=dk h;have:=i;simp [pT]at this;have:=Bi _ _ x;have:=yY g p Ω;omega⟩,⟨by have:=dk e;have:=dk h;have:=i;simp [pT]at this;have:=aCu g p Γ;have:=aCv g p Γ;have:=aCw g p Γ;omega,λB=>⟨λG=>by have:=dk e;have:=dk h;have:=i;simp [pT]at this;have:=bP B;have:=aGi _ _ _ _ _ _ G;have:=yY g p Ω;omega,λH J K=>⟨Γ,by have:=dk e;have:=dk h;have:=i;simp [pT]at this;have:=bP B;have:=H;simp [Cy]at this;have:=J;simp [Ur]at this;have:=bne_iff_ne.1 K;omega⟩⟩⟩⟩⟩)
end
def aaV(s:I ah)(a:s.n<=549755813888):(jz s).B=s.B:=by
 have:=aB9 (Cu s) s (λx=>x) a (λ_ _ _=>rfl) B;rw[List.map_id',yv,r6]at this;exact this
def I5(s:I ah)(a:s.n<=549755813888):(jz s).n=s.n:=aCQ (aaV s a)
def take_one{α:Type}(s:I α){j:Nat}(h:j<s.n):s.B.take (j+1)=s.B.take j++[s.at' j]:=by
 rw[List.take_add_one,QT,bg h];rfl
def aGp{α:Type}(s:I α)(i:Nat)(x:α)(h:i<s.n):(s.cC i x).B.take (i+1)=s.B.take i++[x]:=by
 rw[aFE s i x h,List.take_append,List.take_of_length_le (by rw[jr];omega)];rw[jr,bj,show i+1-min i s.n=1 by omega];rfl
def amO{α:Type}(s:I α)(i:Nat)(z:α)(h:i<=s.n):(I.cut (I.yJ s i z) i).B=s.B.take i:=by
 apply yt;intro q;rw[QT,J3]
 by_cases a:q<i
 .have e:Nat.blt q i=true:=by simpa[jL]using a
  rw[bg (show q<(I.cut (I.yJ s i z) i).n from a),bg a,QT,bg Ω];show some (cond (Nat.blt q i) (s.at' q) z)=some (s.at' q);rw[e];rfl
 .rw[aW (show¬q<(I.cut (I.yJ s i z) i).n from a),aW a]
section
variable (A:Int)
def qo(e:ah):Bool:= !(jU e.aA A)
def Ya(s:I ah)(l:s.n<=1000000): ∀(m a i j:Nat) (S:I ah),j+m=s.n->m<=a->i<j->S.n=s.n->(∀q,j<=q->q<s.n->S.at' q=s.at' q)->S.B.take i=(s.B.take j).filter (qo A)->
  ∃(h:Nat) (d:I ah),wQ A (a+1) (i:Int) (j:Int) S=((h:Int),d)/\h<s.n/\d.n=s.n/\d.B.take h=s.B.filter (qo A)
 |0,a,i,j,S,p,_,o,c,_,b=>by
  refine⟨i,S,?_,Ω,c,?_⟩
  .show(cond (decide ((j:Int)<(S.n:Int))) _ _)=_;rw[a8 Ω];rfl
  .rw[b,List.take_of_length_le (by rw[bj];omega)]
 |m+1,a,i,j,S,p,t,o,c,g,b=>by
  obtain⟨a,rfl⟩: ∃q,a=q+1:=⟨a-1,Ω⟩;have e:wQ A (a+1+1) (i:Int) (j:Int) S=wQ A (a+1) (za A (i:Int) (j:Int) S) ((j+1:Nat):Int) (Cw A (i:Int) (j:Int) S):=by
   show(cond (decide ((j:Int)<(S.n:Int))) _ _)=_;rw[bm Ω,E _];rfl
  rw[e];unfold Cw za;rw[gN,gN,g j (bH _) Ω];have r:(!(jU (s.at' j).aA A))=qo A (s.at' j):=rfl;rw[r]
  cases k:qo A (s.at' j)with
  |true=>
   simp only[au];rw[E _];refine Ya s l m a (i+1) (j+1) _ Ω Ω Ω c (λq n f=> ?_) ?_
   .show(cond (Nat.beq q i) (s.at' j) (S.at' q))=s.at' q;rw[aCT Ω];exact g q Ω f
   .rw[aGp S i _ Ω,b,take_one s Ω,J9,List.filter_cons_of_pos (by simpa using k),List.filter_nil]
  |false=>
   simp only[aB];refine Ya s l m a i (j+1) S Ω Ω Ω c (λq n f=>g q Ω f) ?_;rw[b,take_one s Ω,J9,List.filter_cons_of_neg (by simp [k]),List.filter_nil,iE]
def Pe{α:Type}{s:I α}{e:α}(h:e∈s.B): ∃i,i<s.n/\s.at' i=e:=by
 simp only[I.B,oc,wg]at h;exact h
def aaW(g:Int)(u:Bool)(s:I ah)(m:s.n<=1000000):(mo A g u s).B=s.B.filter (qo A):=by
 unfold mo Ge;rcases(ZB A g u s Ω).2 with⟨h,a⟩|⟨t,p,h,n,a⟩
 .rw[h];show s.B=_;refine(List.filter_eq_self.2 λe b=> ?_).symm;obtain⟨i,l,rfl⟩:=Pe b;show(!(jU (s.at' i).aA A))=true;rw[a i l];rfl
 .rw[h];have d:((t:Int)== -1)=false:=ew.2 Ω;rw[d];simp only[aB];have f:i64 ((t:Int)+1)=((t+1:Nat):Int):=by rw[E _];omega
  rw[f];have⟨r,c,j,v,w,k⟩:=Ya A s m (s.n- (t+1)) (toNat ((s.n:Int)- ((t+1:Nat):Int))) t (t+1) s Ω Ω Ω rfl (λ_ _ _=>rfl) (by
   rw[take_one s p,J9,List.filter_cons_of_neg (by simp [qo,n]),List.filter_nil,iE];refine(List.filter_eq_self.2 λe b=> ?_).symm;obtain⟨q,x,o,rfl⟩:=aCd s b;show(!(jU (s.at' q).aA A))=true;rw[a q o];rfl)
  rw[j];simp only;rw[gN,amO c r _ Ω,k]
end
def Fh(l:List ah):Prop:=l.Pairwise λa b=>Op.bytesLess a.r.toList b.r.toList=true
def aE6{s:I ah}(h:RM s.n (λi=>(s.at' i).r)):Fh s.B:=by
 unfold Fh;rw[List.pairwise_iff_getElem];intro i j b a c;rw[bj]at b a;simp only[I.B,List.getElem_map,List.getElem_range];exact h i j c a
def aE7{s:I ah}(h:Fh s.B):RM s.n (λi=>(s.at' i).r):=by
 intro i j a b;unfold Fh at h;rw[List.pairwise_iff_getElem]at h;have:=h i j (by rw[bj];omega) (by rw[bj];exact b) a;simpa[I.B]using this
structure QV (A:Int) (s:I ah):Prop where
 now:0<=A/\A<=1073741824
 n:s.n<=12
 EH:Fh s.B
 ok: ∀e∈s.B,jE e.K e.G e.q e.j e.m e.ak=0
 af: ∀e∈s.B,e.j.n<=1048576/\e.m.n<=1048576/\e.ak.n<=1048576
 u: ∀e∈s.B,e.aA=0\/(A<e.aA/\e.aA<=1073741824)
def dm{A:Int}{s:I ah}(l:dY s)(h:iv A s=0):QV A s:=by
 have w:=l.1;have⟨⟨m,t⟩,n⟩:=acR A s l h;unfold iv at h;have⟨_,h⟩:=dG h Δ;have r:H4 A s=scan (λi=>nS s i||o7 A s i) (λ_=>13) s.n 0:=ps (rz A s) s.n _ _ Ω λk i=>by
  show(cond (decide (i<s.n)) (cond (nS s i) (true,13) (cond (o7 A s i) (true,13) (rz A s k (i64 (i+1))))) (false,default))=_;rw[FA]
 unfold NI at h;rw[Lq r]at h;have⟨hh,_⟩:=dG h Δ;have g: ∀i,i<s.n->nS s (i:Int)=false/\o7 A s (i:Int)=false:=λi d=>by
  have q:=tb hh i d;simpa only[E5]using q
 have u: ∀i,i<s.n->(s.at' i).j.n<=1048576/\(s.at' i).m.n<=1048576/\(s.at' i).ak.n<=1048576:=λi d=>by
  have⟨_,v,_⟩:=n i d;have⟨e1,fq,x⟩:=v.2.1;exact⟨Ω,Ω,Ω⟩
 refine⟨m,t,aE6 λi j o p=> ?_,λe f=> ?_,λe f=> ?_,λe f=> ?_⟩
 .refine arn (R:=λi j=>Op.bytesLess (s.at' i).r.toList (s.at' j).r.toList=true) s.n (λi d=> ?_) (λ_ _ _ _ _ _=>aja) i j o p;have q1:=(g (i+1) d).1;unfold nS at q1;have⟨_,q1⟩:=c8 q1;have⟨_,q1⟩:=c8 q1;have⟨_,q1⟩:=c8 q1;rw[bm (show((i+1:Nat):Int)>0 by omega)]at q1;rw[show i64 (((i+1:Nat):Int)-1)=(i:Int) by rw[E _];omega]at q1;simpa using q1
 .obtain⟨i,d,rfl⟩:=Pe f;have q1:=(g i d).1;unfold nS at q1;simp only[gN]at q1;have⟨_,q1⟩:=c8 q1;have⟨_,q1⟩:=c8 q1;have⟨d3,_⟩:=c8 q1;exact bP d3
 .obtain⟨i,d,rfl⟩:=Pe f;exact u i d
 .obtain⟨i,d,rfl⟩:=Pe f;have q1:=(g i d).2;unfold o7 at q1;simp only[gN]at q1
  cases c:((s.at' i).aA !=0)with
  |false=>exact .inl (bP c)
  |true=>
   rw[c]at q1;have⟨a,b⟩:=c8 q1;have a:=dh a;have b:=dh b;exact .inr ⟨Ω,Ω⟩
def fit{A now:Int}{s t:I ah}(h:QV A s)(f:t.B=s.B.filter (qo now)):Fit now t:=by
 have b: ∀i,i<t.n->t.at' i∈s.B/\qo now (t.at' i)=true:=λi a=>by
  have:t.at' i∈t.B:=by simp only[I.B,oc,wg];exact⟨i,a,rfl⟩
  rw[f,JZ]at this;exact this
 refine⟨?_,aE7 (by rw[f];exact h.EH.filter _),λi a=>h.ok _ (b i a).1,λi a=>h.af _ (b i a).1,λi a=> ?_⟩
 .have c:=List.length_filter_le (qo now) s.B;rw[<-f,bj,bj]at c;have:=h.n;omega
 .have d:=(b i a).2;rcases h.u _ (b i a).1 with c|⟨_,g⟩
  .exact .inl c
  .by_cases e:(t.at' i).aA=0
   .exact .inl e
   .unfold qo jU aeM at d;rw[show((t.at' i).aA !=0)=true from bne_iff_ne.2 e]at d;have:decide ((t.at' i).aA<=now)=false:=by simpa using d
    have:=dh this;exact .inr ⟨Ω,g⟩
def aF3{now:Int}{t:I ah}(h:Fit now t):wz t:=⟨by have:=h.n;omega,h.af⟩
def acP{A:Int}{g:I ah}(a:dY g)(h:(iv A g !=0)=false):QV A g:=dm a (bP h)
def ajE(g:I ah){A:Int}(h:dY g/\(iv A g !=0)=false):(jz g).n<=12:=by
 have:=(acP h.1 h.2).n;rw[I5 g Ω];exact this
def amG{g:I ah}(now a:Int)(b:Bool)(c:g.n<=1000000):(mo now a b (jz g)).B=g.B.filter (qo now):=by
 rw[aaW now a b _ (by rw[I5 g Ω];exact c),aaV g Ω]
def ajF(now a:Int)(b:Bool)(s:I ah)(c:s.n<=1000000):(mo now a b s).n<=s.n:=by
 have h:=congrArg List.length (aaW now a b s c);have:=List.length_filter_le (qo now) s.B;rw[bj]at h this;omega
def atg{A:Int}{g:I ah}{now a:Int}{b:Bool}(d:dY g)(h:(iv A g !=0)=false):Fit now (mo now a b (jz g)):=by
 have c:=acP d h;exact fit c (amG now a b (have:=c.n;Ω))
def vY{A:Int}{g:I ah}{now a:Int}{b:Bool}(c:dY g)(h:(iv A g !=0)=false):wz (mo now a b (jz g)):=aF3 (atg c h)
section
variable(A:Int)(g:I ah)(u o:Int)(v d y:z)(F:Int)
def sw:Bool:=cond (decide (u<0)) true (decide (u>1073741824))
def q0:Int:=cond (iv A g !=0) 0 (cond (sw u) 0 (cond (fS o v d y F !=0) 0 (jT (imax (jT A) u))))
def pS:I ah:=cond (iv A g !=0) (B:I ah) (cond (sw u) (B:I ah) (cond (fS o v d y F !=0) (B:I ah) (jz (wR o v d y F (imax (jT A) u) (mo (imax (jT A) u) 0 false (jz g))))))
def Uh:Int:=cond (iv A g !=0) 0 (cond (sw u) 0 (cond (fS o v d y F !=0) 0 (aeN o v d y F (imax (jT A) u) (mo (imax (jT A) u) 0 false (jz g)))))
def Ui:z:=cond (iv A g !=0) ε (cond (sw u) ε (cond (fS o v d y F !=0) ε (aeO o v d y F (mo (imax (jT A) u) 0 false (jz g)))))
def Uk:Int:=cond (iv A g !=0) 0 (cond (sw u) 0 (cond (fS o v d y F !=0) 0 (aeP o v d y F (imax (jT A) u) (mo (imax (jT A) u) 0 false (jz g)))))
def Cq:I z:=cond (iv A g !=0) (B:I z) (cond (sw u) (B:I z) (cond (fS o v d y F !=0) (B:I z) (Uq o v d y F (mo (imax (jT A) u) 0 false (jz g)))))
def atD:Int:=cond (iv A g !=0) (iv A g) (cond (sw u) 2 (cond (fS o v d y F !=0) (fS o v d y F) 0))
def amX:bt:=⟨[.g [a,.ab bx],.v a,.g [a,ar,ar,ar,a]],λA g u o v d y F=>⟨⟨none,.du [.agg [c (q0 A g u o v d y F),aV 8 ho (pS A g u o v d y F)],.agg [c (Uh A g u o v d y F),.str (Ui A g u o v d y F),c (Uk A g u o v d y F),aV 1 c5 (Cq A g u o v d y F)],c (atD A g u o v d y F)]⟩⟩⟩
def ayv:bE 106 amX:=bG Tryz.func106
 λ(A:Int) g i h (u o:Int) v j d k y m (F:Int)=>bJ ⟨.pure,[.cell 6 41,.cell 7 93,.tmp 8],[(.c 0 0,a),(.c 0 1,.ab bx),(.c 1 0,a),(.c 1 1,ar),(.c 1 2,a),(.c 1 3,.ab b1),(.t 2,a)],⟨[.agg (us 2 []),.agg (us 4 []),U],[]⟩⟩ (.ae (.ae (.s (.j ⟨33554922,[],[(.t 25,l)],[],.f⟩ .z .z) (.ae (.ae (.ae (.ae (.ae (.s (.jP [(.h 5 1,bx)]) .z))))))))) (let f:=mo (imax (jT A) u) 0 false (jz g);(iv A g !=0)=false->sw u=false->(fS o v d y F !=0)=false->(jz g).n<=1000000/\wz f/\f.n<=1000000) (bZ 0 (aR XM (aR aiH ba)) (az ayy (az ayz (az ayA bY)))) Tryz.func106 (have:=F3 h;(λb c e=>⟨by have:=bP b;have:=c;simp [sw]at this;have:=bP e;have:=ajE g Γ;omega,⟨Γ,by have:=bP b;have:=c;simp [sw]at this;have:=bP e;have:=Xu (jT A) u;have:=ajE g Γ;have:=ajF (imax (jT A) u) 0 false (jz g) Ω;omega⟩⟩))
end
section
variable(A:Int)(g:I ah)(u:Int)(o:I ay)(v d y F:Int)(p x ao:z)(bR:Int)
def k7:Bool:=cond (decide (v<0)) true (decide (v>1073741824))
def afs:Int:=let b:=m4 (g3 o) d;let a:=q0 A g v 22 ε ε ε 0;(cond (eK A g u o !=0) 0 (cond (k7 v) 0 (cond (h_ d y F p x ao bR !=0) 0 (cond (d==0) a (cond (decide (b<0)) a (cond (y==((g3 o).at' b.toNat).K) a (cond (y !=i64 (((g3 o).at' b.toNat).K+1)) a (q0 a (pS A g v 22 ε ε ε 0) v F p x ao bR))))))))
def U5:I ah:=let b:=m4 (g3 o) d;let a:=pS A g v 22 ε ε ε 0;(cond (eK A g u o !=0) (B:I ah) (cond (k7 v) (B:I ah) (cond (h_ d y F p x ao bR !=0) (B:I ah) (cond (d==0) a (cond (decide (b<0)) a (cond (y==((g3 o).at' b.toNat).K) a (cond (y !=i64 (((g3 o).at' b.toNat).K+1)) a (pS (q0 A g v 22 ε ε ε 0) a v F p x ao bR))))))))
def aft:Int:=cond (eK A g u o !=0) 0 (cond (k7 v) 0 (cond (h_ d y F p x ao bR !=0) 0 (cond (d==0) (afC u) u)))
def U6:I ay:=let b:=g3 o;let h:=pS A g v 22 ε ε ε 0;let e:=q0 A g v 22 ε ε ε 0;let a:=toNat (m4 b d);let c:=b.at' a;let j:=I.cC b a (⟨c.r,y,c.G,c.q,c.j,c.m,c.ak⟩:ay);let f:=j.at' a;let i:=I.cC j a (⟨f.r,f.K,q0 e h v F p x ao bR,f.q,f.j,f.m,f.ak⟩:ay);(cond (eK A g u o !=0) (B:I ay) (cond (k7 v) (B:I ay) (cond (h_ d y F p x ao bR !=0) (B:I ay) (cond (d==0) (U8 e u b) (cond (decide (m4 b d<0)) b (cond (y==c.K) b (cond (y !=i64 (c.K+1)) b (I.cC i a (⟨(i.at' a).r,(i.at' a).K,(i.at' a).G,Mn (Uh e h v F p x ao bR),Mo (Ui e h v F p x ao bR),Mp (Uk e h v F p x ao bR),Mq (Cq e h v F p x ao bR)⟩:ay)))))))))
def afu:Int:=let a:=g3 o;let c:=m4 a d;let b:=toNat c;(cond (eK A g u o !=0) 0 (cond (k7 v) 0 (cond (h_ d y F p x ao bR !=0) 0 (cond (d==0) (afy u) (cond (decide (c<0)) 11 (cond (y==(a.at' b).K) (Mn (a.at' b).q) (cond (y !=i64 ((a.at' b).K+1)) 10 (Uh (q0 A g v 22 ε ε ε 0) (pS A g v 22 ε ε ε 0) v F p x ao bR))))))))
def afv:z:=let a:=g3 o;let c:=m4 a d;let b:=toNat c;(cond (eK A g u o !=0) ε (cond (k7 v) ε (cond (h_ d y F p x ao bR !=0) ε (cond (d==0) afz (cond (decide (c<0)) ε (cond (y==(a.at' b).K) (Mo (a.at' b).j) (cond (y !=i64 ((a.at' b).K+1)) ε (Ui (q0 A g v 22 ε ε ε 0) (pS A g v 22 ε ε ε 0) v F p x ao bR))))))))
def afw:Int:=let a:=g3 o;let c:=m4 a d;let b:=toNat c;(cond (eK A g u o !=0) 0 (cond (k7 v) 0 (cond (h_ d y F p x ao bR !=0) 0 (cond (d==0) (afA u) (cond (decide (c<0)) 0 (cond (y==(a.at' b).K) (Mp (a.at' b).m) (cond (y !=i64 ((a.at' b).K+1)) 0 (Uk (q0 A g v 22 ε ε ε 0) (pS A g v 22 ε ε ε 0) v F p x ao bR))))))))
def afx:I z:=let a:=g3 o;let c:=m4 a d;let b:=toNat c;(cond (eK A g u o !=0) (B:I z) (cond (k7 v) (B:I z) (cond (h_ d y F p x ao bR !=0) (B:I z) (cond (d==0) afB (cond (decide (c<0)) (B:I z) (cond (y==(a.at' b).K) (Mq (a.at' b).ak) (cond (y !=i64 ((a.at' b).K+1)) (B:I z) (Cq (q0 A g v 22 ε ε ε 0) (pS A g v 22 ε ε ε 0) v F p x ao bR))))))))
def at6:Int:=let a:=h_ d y F p x ao bR;(cond (eK A g u o !=0) (eK A g u o) (cond (k7 v) 2 (cond (a !=0) a 0)))
def aol:bt:=⟨[.g [a,.ab bx,a,.ab b8],.v a,.g [a,a,a,ar,ar,ar,a]],λA g u o v d y F p x ao bR=>⟨⟨none,.du [.agg [c (afs A g u o v d y F p x ao bR),aV 8 ho (U5 A g u o v d y F p x ao bR),c (aft A g u o v d y F p x ao bR),aV 7 hP (U6 A g u o v d y F p x ao bR)],.agg [c (afu A g u o v d y F p x ao bR),.str (afv A g u o v d y F p x ao bR),c (afw A g u o v d y F p x ao bR),aV 1 c5 (afx A g u o v d y F p x ao bR)],c (at6 A g u o v d y F p x ao bR)]⟩⟩⟩
def azp:bE 90 aol:=bG Tryz.func90
 λ(A:Int) g C s (u:Int) o E t (v d y F:Int) p G x H ao D (bR:Int)=>bJ (ms:=[.f,.f,.b .f (.b .f (.b .f (.b .f .l))),.f,.f,.f,.f,.f,.b .f (.b .f (.b .f .l))]) ⟨.pure,[.cell 6 44,.cell 7 93,.tmp 8],[(.c 0 0,a),(.c 0 1,.ab bx),(.c 0 2,a),(.c 0 3,.ab b8),(.c 1 0,a),(.c 1 1,ar),(.c 1 2,a),(.c 1 3,.ab b1),(.t 2,a)],⟨[.agg (us 4 []),.agg (us 4 []),U],[]⟩⟩ (.ae (.ae (.s (.j ⟨1073742314,[],[(.t 30,l)],[],.f⟩ .z .z) (.ae (.ae (.ae (.ae (.s (.iL 5 1 (.mW [.t 46,.t 51,.t 56] [])) .z)))))))) (let c:=g3 o;let m:=m4 c d;let k:=toNat m;let n:=c.at' k;(eK A g u o !=0)=false->k7 v=false->(h_ d y F p x ao bR !=0)=false->((d==0)=true->c.n<=4)/\((d==0)=false->decide (m<0)=false->((0:Int)<=m/\m<c.n)/\(k<c.n/\((y==n.K)=true->k<c.n)/\((y==n.K)=false->k<c.n))/\((y==n.K)=false->(y !=i64 (n.K+1))=false->k<c.n/\k<c.n/\k<c.n))) (bZ 0 (aR XN (aR OZ (aR ayv (aR azq (aR azs (aR aio ba)))))) (az azr bY)) Tryz.func90 (have:=F3 s;have:=LA t;(λe f h=>⟨λw=>by have b:=hO _ _ _ _ Λ Φ (bP e);have:=b.1;have:=f;simp [k7]at this;have:=bP h;have:=eq_of_beq w;have:=vB o;omega,λi j=>⟨by have b:=hO _ _ _ _ Λ Φ (bP e);have:=b.1;have:=f;simp [k7]at this;have:=bP h;have:=dk i;have:=hy j;have:=vB o;have:=yZ (g3 o) d Ω;omega,⟨⟨by have b:=hO _ _ _ _ Λ Φ (bP e);have:=b.1;have:=f;simp [k7]at this;have:=bP h;have:=dk i;have:=hy j;have:=vB o;have:=yZ (g3 o) d Ω;omega,⟨λz=>by have b:=hO _ _ _ _ Λ Φ (bP e);have:=b.1;have:=f;simp [k7]at this;have:=bP h;have:=dk i;have:=hy j;have:=eq_of_beq z;have:=vB o;have:=yZ (g3 o) d Ω;omega,λB=>by have b:=hO _ _ _ _ Λ Φ (bP e);have:=b.1;have:=f;simp [k7]at this;have:=bP h;have:=dk i;have:=hy j;have:=dk B;have:=vB o;have:=yZ (g3 o) d Ω;omega⟩⟩,λr q=>⟨by have b:=hO _ _ _ _ Λ Φ (bP e);have:=b.1;have:=f;simp [k7]at this;have:=bP h;have:=dk i;have:=hy j;have:=dk r;have:=bP q;have:=vB o;have:=yZ (g3 o) d Ω;omega,⟨by have b:=hO _ _ _ _ Λ Φ (bP e);have:=b.1;have:=f;simp [k7]at this;have:=bP h;have:=dk i;have:=hy j;have:=dk r;have:=bP q;have:=vB o;have:=yZ (g3 o) d Ω;omega,by have b:=hO _ _ _ _ Λ Φ (bP e);have:=b.1;have:=f;simp [k7]at this;have:=bP h;have:=dk i;have:=hy j;have:=dk r;have:=bP q;have:=vB o;have:=yZ (g3 o) d Ω;omega⟩⟩⟩⟩⟩))
end
